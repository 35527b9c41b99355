/- ReverseWon of the program returns what the reference's returns, for every row and every game. No conditions. -/
import Derived.Test.YtgcgmlbjklkkjaaQFnExactReverseWonx
namespace Go.Proofs.Ytgcgmlbjklkkjaa.Pure
open Go.RowKit Go.Proofs.Ytgcgmlbjklkkjaa.QFnExactReverseWon Go.Proofs.YtgcgmlbjklkkjaaW.PrintWords Go.Proofs.YtgcgmlbjklkkjaaW.PrintLast Go.Proofs.YtgcgmlbjklkkjaaW.PrintMore
set_option linter.unusedVariables false
set_option linter.unusedSimpArgs false

/-! ### base -/
theorem wrap_id {x : Int} (h0 : -9223372036854775808 ≤ x) (h1 : x ≤ 9223372036854775807) : wrap64 x = x := by
  unfold wrap64
  omega
theorem wrap_one {i n : Nat} (h : i < n) (hn : n ≤ 4611686018427387904) : wrap64 ((i : Int) + 1) = ((i + 1 : Nat) : Int) := by
  unfold wrap64
  omega
theorem rd_nat (l : List Int) (i : Nat) : rd l (i : Int) = l.getD i 0 := by unfold rd; simp
theorem rd_get (l : List Int) (i : Nat) (h : i < l.length) : rd l (i : Int) = l[i] := by rw [rd_nat]; simp [List.getD, h]
theorem fuel {k d : Nat} (h : d < k) : ∃ m, k = m + 1 ∧ d ≤ m := ⟨k - 1, by omega, by omega⟩

/-! ### ev -/
theorem bne_self {α : Type} [BEq α] [LawfulBEq α] (a : α) : ¬ (a != a) = true := by simp
theorem Ev.succ {α : Type} {g : Nat → Option α} {r : α} (h : Ev (fun k => g (k + 1)) r) : Ev g r := by
  obtain ⟨K, h⟩ := h
  refine ⟨K + 1, fun k hk => ?_⟩
  obtain ⟨k, rfl, hk'⟩ := fuel (show K < k by omega)
  exact h k hk'
theorem Ev.pos {α : Type} {g f : Nat → Option α} {r : α} {c : Prop} [Decidable c] (hc : c) (h : Ev g r) : Ev (fun k => if c then g k else f k) r := by
  obtain ⟨K, h⟩ := h
  exact ⟨K, fun k hk => by show (if c then g k else f k) = some r; rw [if_pos hc]; exact h k hk⟩
theorem Ev.neg {α : Type} {g f : Nat → Option α} {r : α} {c : Prop} [Decidable c] (hc : ¬ c) (h : Ev f r) : Ev (fun k => if c then g k else f k) r := by
  obtain ⟨K, h⟩ := h
  exact ⟨K, fun k hk => by show (if c then g k else f k) = some r; rw [if_neg hc]; exact h k hk⟩
theorem Ev.have {α β : Type} {x : Option α} {a : α} {f : Nat → α → Option β} {r : β} (e : x = some a) (h : Ev (fun k => f k a) r) : Ev (fun k => x.bind (f k)) r := by
  obtain ⟨K, h⟩ := h
  exact ⟨K, fun k hk => by show x.bind (f k) = some r; rw [e, Option.bind_some]; exact h k hk⟩
theorem Ev.bound {α : Type} {g : Nat → Option α} {r : α} (K : Nat) (h : ∀ k, K < k → g k = some r) : Ev g r := ⟨K + 1, fun k hk => h k (by omega)⟩
theorem Ev.same {α : Type} {g : Nat → Option α} {r r' : α} (h : Ev g r) (e : r = r') : Ev g r' := e ▸ h
theorem Ev.uniq {α : Type} {g : Nat → Option α} {r r' : α} (h : Ev g r) (h' : Ev g r') : r = r' := by
  obtain ⟨K, h⟩ := h
  obtain ⟨K', h'⟩ := h'
  exact Option.some.inj ((h (K + K') (by omega)).symm.trans (h' (K + K') (by omega)))

/-! ### sets -/
/-- A list of numbers as a set of bits. -/
def setN (l : List Int) : Nat := l.foldl (fun s p => s ||| 2 ^ p.toNat) 0
theorem testBit_foldl (l : List Int) : ∀ (s i : Nat), (l.foldl (fun s p => s ||| 2 ^ p.toNat) s).testBit i = (s.testBit i || decide (∃ p ∈ l, p.toNat = i)) := by
  induction l with
  | nil => intro s i; simp
  | cons a l ih =>
    intro s i
    rw [List.foldl_cons, ih, Nat.testBit_or, Nat.testBit_two_pow, Bool.or_assoc]
    congr 1
    rw [Bool.eq_iff_iff]
    simp
theorem testBit_setN (l : List Int) (i : Nat) : (setN l).testBit i = decide (∃ p ∈ l, p.toNat = i) := by
  unfold setN
  rw [testBit_foldl]
  simp
theorem foldl_lt (l : List Int) (n : Nat) (hl : ∀ p ∈ l, p < n) (hn : 0 < n) : ∀ s, s < 2 ^ n → l.foldl (fun s p => s ||| 2 ^ p.toNat) s < 2 ^ n := by
  induction l with
  | nil => intro s h; exact h
  | cons a l ih =>
    intro s h
    rw [List.foldl_cons]
    have := hl a (by simp)
    exact ih (fun p hp => hl p (by simp [hp])) _ (Nat.or_lt_two_pow h (Nat.pow_lt_pow_right (by omega) (by omega)))
theorem setN_lt (l : List Int) (n : Nat) (hl : ∀ p ∈ l, p < n) (hn : 0 < n) : setN l < 2 ^ n := foldl_lt l n hl hn 0 (Nat.two_pow_pos n)
theorem setN_u32 (l : List Int) (hl : ∀ p ∈ l, p < 32) : setN l < 4294967296 := setN_lt l 32 hl (by omega)
theorem or_cast (a b : Nat) (ha : a < 4294967296) (hb : b < 4294967296) : Go.bits .or .u32 (a : Int) (b : Int) = ((a ||| b : Nat) : Int) :=
  (bits_nat .u32 32 (by decide) (fun n h h' => by rw [IntKind.wrap_u32]; omega) a b ha hb).2
theorem and_cast (a b : Nat) (ha : a < 4294967296) (hb : b < 4294967296) : Go.bits .and .u32 (a : Int) (b : Int) = ((a &&& b : Nat) : Int) :=
  (bits_nat .u32 32 (by decide) (fun n h h' => by rw [IntKind.wrap_u32]; omega) a b ha hb).1
theorem shl_one (p : Int) (h0 : 0 ≤ p) (h1 : p < 32) : shl .u32 1 p = ((2 ^ p.toNat : Nat) : Int) := by
  unfold shl
  rw [Int.one_mul, IntKind.wrap_u32, show min p.toNat IntKind.u32.bits = p.toNat from Nat.min_eq_left (by show p.toNat ≤ 32; omega)]
  have : 2 ^ p.toNat < 2 ^ 32 := Nat.pow_lt_pow_right (by omega) (by omega)
  have e : ((2 ^ p.toNat : Nat) : Int) = (2 : Int) ^ p.toNat := by simp
  rw [← e]
  generalize 2 ^ p.toNat = y at *
  omega

/-! ### sets2 -/
/-- The bits of a that b has not. -/
def andN (a b : Nat) : Nat := a ^^^ (a &&& b)
theorem testBit_andN (a b i : Nat) : (andN a b).testBit i = (a.testBit i && !b.testBit i) := by
  unfold andN
  rw [Nat.testBit_xor, Nat.testBit_and]
  cases a.testBit i <;> cases b.testBit i <;> rfl
theorem lt_of_bits (x n : Nat) (h : ∀ i, n ≤ i → x.testBit i = false) : x < 2 ^ n := Nat.lt_pow_two_of_testBit x h
theorem andN_lt (a b n : Nat) (ha : a < 2 ^ n) : andN a b < 2 ^ n := by
  refine lt_of_bits _ n fun i hi => ?_
  rw [testBit_andN, Nat.testBit_lt_two_pow (Nat.lt_of_lt_of_le ha (Nat.pow_le_pow_right (by omega) hi))]
  rfl
theorem andNot_cast (a b : Nat) (ha : a < 4294967296) (hb : b < 4294967296) : Go.bits .andNot .u32 (a : Int) (b : Int) = ((andN a b : Nat) : Int) := by
  have e : (BitVec.ofInt 32 (a : Int) &&& ~~~ BitVec.ofInt 32 (b : Int)).toNat = andN a b := by
    refine Nat.eq_of_testBit_eq fun i => ?_
    rw [testBit_andN, BitVec.ofInt_natCast, BitVec.ofInt_natCast]
    show (BitVec.ofNat 32 a &&& ~~~ BitVec.ofNat 32 b).getLsbD i = _
    rw [BitVec.getLsbD_and, BitVec.getLsbD_not, BitVec.getLsbD_ofNat, BitVec.getLsbD_ofNat]
    by_cases h : i < 32
    · simp [h]
    · have e1 : a.testBit i = false := Nat.testBit_lt_two_pow (Nat.lt_of_lt_of_le (show a < 2 ^ 32 from ha) (Nat.pow_le_pow_right (by omega) (by omega)))
      simp [h, e1]
  have hl := andN_lt a b 32 ha
  show IntKind.u32.wrap (((BitVec.ofInt 32 (a : Int) &&& ~~~ BitVec.ofInt 32 (b : Int)).toNat : Nat) : Int) = _
  rw [e, IntKind.wrap_u32]
  omega
/-- The set of all seats of n. -/
theorem all_cast (s : Int) (h0 : 0 ≤ s) (h1 : s ≤ 31) : (shl .u32 1 s - 1) % 4294967296 = ((2 ^ s.toNat - 1 : Nat) : Int) := by
  rw [shl_one s h0 (by omega)]
  have : 0 < 2 ^ s.toNat := Nat.two_pow_pos _
  have h2 : 2 ^ s.toNat < 2 ^ 32 := Nat.pow_lt_pow_right (by omega) (by omega)
  generalize 2 ^ s.toNat = y at *
  omega
theorem testBit_all (n i : Nat) : (2 ^ n - 1).testBit i = decide (i < n) := Nat.testBit_two_pow_sub_one n i

/-! ### near -/
def gapI (n : Nat) (ring : Bool) (p q : Nat) : Int :=
  if ring = true then (if (if (p : Int) - q > (q : Int) - p then (p : Int) - q else (q : Int) - p) < (n : Int) - (if (p : Int) - q > (q : Int) - p then (p : Int) - q else (q : Int) - p) then (if (p : Int) - q > (q : Int) - p then (p : Int) - q else (q : Int) - p) else (n : Int) - (if (p : Int) - q > (q : Int) - p then (p : Int) - q else (q : Int) - p)) else (if (p : Int) - q > (q : Int) - p then (p : Int) - q else (q : Int) - p)
def nearB (n : Nat) (ring : Bool) (p q : Nat) : Bool := decide (gapI n ring p q = 1)
theorem spec_l2Gap_eq (n : Nat) (ring : Bool) (t : List Int) (p q : Nat) (hn : n ≤ 24) (hp : p < n) (hq : q < n) : spec_l2Gap.f (n : Int) ring t (p : Int) (q : Int) = some (gapI n ring p q) := by
  unfold spec_l2Gap.f gapI
  rw [wrap_id (x := (p : Int) - q) (by omega) (by omega), wrap_id (x := (q : Int) - p) (by omega) (by omega)]
  have e : spec_l1Most.f ((p : Int) - q) ((q : Int) - p) = some (if (p : Int) - q > (q : Int) - p then (p : Int) - q else (q : Int) - p) := by
    unfold spec_l1Most.f
    split <;> rfl
  rw [e, Option.bind_some]
  have hb : 0 ≤ (if (p : Int) - q > (q : Int) - p then (p : Int) - q else (q : Int) - p) ∧ (if (p : Int) - q > (q : Int) - p then (p : Int) - q else (q : Int) - p) ≤ 24 := by split <;> omega
  generalize (if (p : Int) - q > (q : Int) - p then (p : Int) - q else (q : Int) - p) = d at hb ⊢
  rw [wrap_id (by omega) (by omega)]
  cases ring with
  | true =>
    rw [if_pos rfl, if_pos rfl]
    unfold spec_l1Least.f
    split <;> rw [Option.bind_some]
  | false => rw [if_neg (by simp), if_neg (by simp)]
theorem impl_gap_eq (n : Nat) (ring : Bool) (p q : Nat) (hn : n ≤ 24) (hp : p < n) (hq : q < n) : impl_bench_gap.f (n : Int) ring (p : Int) (q : Int) = some (gapI n ring p q) := by
  unfold impl_bench_gap.f gapI
  rw [wrap_id (x := (p : Int) - q) (by omega) (by omega), wrap_id (x := (q : Int) - p) (by omega) (by omega)]
  have e : mx ((p : Int) - q) ((q : Int) - p) = (if (p : Int) - q > (q : Int) - p then (p : Int) - q else (q : Int) - p) := by
    unfold mx
    split <;> split <;> omega
  rw [e]
  have hb : 0 ≤ (if (p : Int) - q > (q : Int) - p then (p : Int) - q else (q : Int) - p) ∧ (if (p : Int) - q > (q : Int) - p then (p : Int) - q else (q : Int) - p) ≤ 24 := by split <;> omega
  generalize (if (p : Int) - q > (q : Int) - p then (p : Int) - q else (q : Int) - p) = d at hb ⊢
  rw [wrap_id (by omega) (by omega)]
  cases ring with
  | true =>
    rw [if_pos rfl, if_pos rfl]
    refine congrArg some ?_
    unfold mn
    split <;> split <;> omega
  | false => rw [if_neg (by simp), if_neg (by simp)]
/-- The numbers below n with a quality, as bits. -/
def bitsN (P : Nat → Bool) : Nat → Nat
  | 0 => 0
  | i + 1 => if P i = true then bitsN P i ||| 2 ^ i else bitsN P i
theorem testBit_bitsN (P : Nat → Bool) : ∀ i q, (bitsN P i).testBit q = (decide (q < i) && P q)
  | 0, q => by simp [bitsN]
  | i + 1, q => by
    rw [bitsN]
    by_cases h : P i = true
    · rw [if_pos h, Nat.testBit_or, testBit_bitsN P i q, Nat.testBit_two_pow]
      by_cases e : i = q
      · subst e; rw [h]; simp
      · rw [decide_eq_false e, Bool.or_false]
        by_cases g : q < i
        · rw [decide_eq_true g, decide_eq_true (show q < i + 1 by omega)]
        · rw [decide_eq_false g, decide_eq_false (show ¬ q < i + 1 by omega)]
    · rw [if_neg h, testBit_bitsN P i q]
      by_cases e : i = q
      · subst e; rw [Bool.eq_false_iff.2 h]; simp
      · by_cases g : q < i
        · rw [decide_eq_true g, decide_eq_true (show q < i + 1 by omega)]
        · rw [decide_eq_false g, decide_eq_false (show ¬ q < i + 1 by omega)]
theorem bitsN_lt (P : Nat → Bool) (i : Nat) (hi : i ≤ 32) : bitsN P i < 4294967296 := show bitsN P i < 2 ^ 32 from lt_of_bits _ 32 fun q hq => by
  rw [testBit_bitsN, decide_eq_false (by omega)]
  rfl
def castL (l : List Nat) : List Int := l.map fun i : Nat => (i : Int)
def listN (P : Nat → Bool) (i : Nat) : List Int := castL ((List.range i).filter P)
theorem listN_succ (P : Nat → Bool) (i : Nat) : listN P (i + 1) = if P i = true then listN P i ++ [(i : Int)] else listN P i := by
  unfold listN castL
  rw [List.range_succ, List.filter_append]
  by_cases h : P i = true
  · rw [if_pos h]; simp [h]
  · rw [if_neg h]; simp [h]
theorem listN_len (P : Nat → Bool) (i : Nat) : (listN P i).length ≤ i := by
  unfold listN castL
  rw [List.length_map]
  exact Nat.le_trans (List.length_filter_le _ _) (by simp)
theorem mem_listN (P : Nat → Bool) (i : Nat) (x : Int) : x ∈ listN P i ↔ ∃ q : Nat, q < i ∧ P q = true ∧ x = q := by
  unfold listN castL
  rw [List.mem_map]
  constructor
  · rintro ⟨q, hq, rfl⟩
    have := List.mem_filter.1 hq
    exact ⟨q, List.mem_range.1 this.1, this.2, rfl⟩
  · rintro ⟨q, h1, h2, rfl⟩
    exact ⟨q, List.mem_filter.2 ⟨List.mem_range.2 h1, h2⟩, rfl⟩
section
variable {n : Nat} {ring : Bool} (h24 : n ≤ 24)
include h24
theorem impl_near_ev (p : Nat) (hp : p < n) : Ev (fun k => impl_bench_near.f k n ring p) ((bitsN (nearB n ring p) n : Nat) : Int) := by
  have main : ∀ d i, i + d = n → Ev (fun k => impl_bench_near.l0 k p ((bitsN (nearB n ring p) i : Nat) : Int) n i n ring) ((bitsN (nearB n ring p) n : Nat) : Int) := by
    intro d
    induction d with
    | zero =>
      intro i hi
      have : i = n := by omega
      subst this
      refine Ev.succ ?_
      simp only [impl_bench_near.l0]
      exact Ev.neg (by omega) (Ev.now _)
    | succ d ih =>
      intro i hi
      have go := ih (i + 1) (by omega)
      rw [bitsN] at go
      refine Ev.succ ?_
      simp only [impl_bench_near.l0]
      refine Ev.pos (by omega) (Ev.have (impl_gap_eq n ring p i h24 hp (by omega)) ?_)
      rw [wrap_one (n := 100) (by omega) (by omega)]
      by_cases g : gapI n ring p i = 1
      · have hP : nearB n ring p i = true := decide_eq_true g
        rw [if_pos hP] at go
        have h2 : 2 ^ i < 2 ^ 32 := Nat.pow_lt_pow_right (by omega) (by omega)
        refine Ev.pos g (Ev.pos (by omega) ?_)
        rw [shl_one _ (by omega) (by omega), Int.toNat_natCast, or_cast _ _ (bitsN_lt _ _ (by omega)) (by omega)]
        exact go
      · have hP : ¬ nearB n ring p i = true := by unfold nearB; simpa using g
        rw [if_neg hP] at go
        exact Ev.neg g go
  exact main n 0 (by omega)
theorem spec_near_ev (t : List Int) (p : Nat) (hp : p < n) : Ev (fun k => spec_l2Near.f k n ring t p) (listN (nearB n ring p) n) := by
  have main : ∀ d i, i + d = n → Ev (fun k => spec_l2Near.l0 k p (listN (nearB n ring p) i) i n ring t) (listN (nearB n ring p) n) := by
    intro d
    induction d with
    | zero =>
      intro i hi
      have : i = n := by omega
      subst this
      refine Ev.succ ?_
      simp only [spec_l2Near.l0]
      exact Ev.neg (by omega) (Ev.now _)
    | succ d ih =>
      intro i hi
      have go := ih (i + 1) (by omega)
      have hl := listN_len (nearB n ring p) i
      rw [listN_succ] at go
      refine Ev.succ ?_
      simp only [spec_l2Near.l0]
      refine Ev.pos (by omega) (Ev.have (spec_l2Gap_eq n ring t p i h24 hp (by omega)) ?_)
      rw [wrap_one (n := 100) (by omega) (by omega)]
      by_cases g : gapI n ring p i = 1
      · have hP : nearB n ring p i = true := decide_eq_true g
        rw [if_pos hP] at go
        exact Ev.pos g (Ev.pos (by omega) go)
      · have hP : ¬ nearB n ring p i = true := by unfold nearB; simpa using g
        rw [if_neg hP] at go
        exact Ev.neg g go
  exact main n 0 (by omega)
end

/-! ### spec_l1Has -/
theorem spec_l1Has_l0 (l : List Int) (n : Int) (hl : l.length ≤ 1048576) (d : Nat) : ∀ (k i : Nat), i ≤ l.length → l.length - i = d → d < k → spec_l1Has.l0 k l n i = some (decide (n ∈ l.drop i)) := by
  induction d with
  | zero =>
    intro k i hi hd hk
    obtain ⟨k, rfl, _⟩ := fuel hk
    simp only [spec_l1Has.l0]
    rw [if_neg (by omega), List.drop_eq_nil_of_le (by omega)]
    simp
  | succ d ih =>
    intro k i hi hd hk
    obtain ⟨k, rfl, _⟩ := fuel hk
    simp only [spec_l1Has.l0]
    rw [if_pos (by omega), if_pos (by omega), wrap_one (n := l.length) (by omega) (by omega), rd_get l i (by omega), ih k (i + 1) (by omega) (by omega) (by omega)]
    rw [List.drop_eq_getElem_cons (l := l) (i := i) (by omega)]
    by_cases h : l[i]'(by omega) = n
    · rw [if_pos h, h]
      simp
    · rw [if_neg h]
      refine congrArg some ?_
      rw [decide_eq_decide, List.mem_cons]
      exact ⟨.inr, fun e => e.resolve_left fun e => h e.symm⟩
theorem spec_l1Has_eq (l : List Int) (n : Int) (hl : l.length ≤ 1048576) (k : Nat) (hk : l.length < k) : spec_l1Has.f k l n = some (decide (n ∈ l)) := by
  have := spec_l1Has_l0 l n hl l.length k 0 (by omega) (by omega) hk
  exact this

/-! ### isin -/
theorem spec_l2Is_ev (s : Int) (ring : Bool) (t : List Int) (p : Int) (ht : t.length ≤ 1048576) : Ev (fun k => spec_l2Is.f k s ring t p) (decide (p ∈ t)) :=
  Ev.bound t.length fun k hk => by
    unfold spec_l2Is.f
    rw [spec_l1Has_eq t p ht k hk, Option.bind_some]

/-! ### hasbit -/
theorem has_bit (s p : Nat) (hp : p < 32) (hs : s < 4294967296) : impl_set_has.f (s : Int) (p : Int) = some (s.testBit p) := by
  unfold impl_set_has.f
  rw [if_pos (by omega)]
  refine congrArg some ?_
  have e1 : shr .u32 (s : Int) (p : Int) = ((s / 2 ^ p : Nat) : Int) := by
    unfold shr
    rw [show min (p : Int).toNat IntKind.u32.bits = p from Nat.min_eq_left (by show p ≤ 32; omega)]
    simp
  have e2 : s / 2 ^ p ≤ s := Nat.div_le_self _ _
  rw [e1, show (1 : Int) = ((1 : Nat) : Int) from rfl, and_cast _ _ (by omega) (by omega), Nat.and_one_is_mod, Nat.testBit_eq_decide_div_mod_eq, Bool.eq_iff_iff, beq_iff_eq, decide_eq_true_eq]
  omega

/-! ### lonely -/
/-- Lonely: free, and no neighbor is taken. -/
def lonelyB (F : Nat → Bool) (n : Nat) (ring : Bool) (p : Nat) : Bool := F p && (List.range n).all fun q => !nearB n ring p q || F q
theorem range_all (n : Nat) (P : Nat → Bool) : (List.range n).all P = true ↔ ∀ q, q < n → P q = true := by
  rw [List.all_eq_true]
  exact ⟨fun h q hq => h q (List.mem_range.2 hq), fun h q hq => h q (List.mem_range.1 hq)⟩
section
variable {F : Nat → Bool} {n : Nat} {ring : Bool} (h24 : n ≤ 24)
include h24
section
variable {S : Nat} (hlt : S < 4294967296) (hS : ∀ p, p < n → S.testBit p = !F p)
include hlt hS
theorem impl_lonely_ev : Ev (fun k => impl_bench_lonely.f k n ring (S : Int)) ((bitsN (lonelyB F n ring) n : Nat) : Int) := by
  have main : ∀ d i, i + d = n → Ev (fun k => impl_bench_lonely.l0 k (S : Int) ((bitsN (lonelyB F n ring) i : Nat) : Int) n i n ring) ((bitsN (lonelyB F n ring) n : Nat) : Int) := by
    intro d
    induction d with
    | zero =>
      intro i hi
      have : i = n := by omega
      subst this
      refine Ev.succ ?_
      simp only [impl_bench_lonely.l0]
      exact Ev.neg (by omega) (Ev.now _)
    | succ d ih =>
      intro i hi
      have go := ih (i + 1) (by omega)
      rw [bitsN] at go
      refine Ev.succ ?_
      simp only [impl_bench_lonely.l0]
      refine Ev.pos (by omega) (Ev.have (has_bit _ _ (by omega) hlt) ?_)
      rw [hS i (by omega), wrap_one (n := 100) (by omega) (by omega)]
      cases hF : F i with
      | false =>
        have hP : ¬ lonelyB F n ring i = true := by unfold lonelyB; rw [hF]; simp
        rw [if_neg hP] at go
        exact Ev.pos (by simp) go
      | true =>
        refine Ev.neg (by simp) (Ev.bind (impl_near_ev h24 i (by omega)) ?_)
        rw [and_cast _ _ (bitsN_lt _ _ (by omega)) hlt]
        have hz : (((bitsN (nearB n ring i) n &&& S : Nat) : Int) = 0) ↔ lonelyB F n ring i = true := by
          unfold lonelyB
          rw [hF, Bool.true_and, range_all]
          constructor
          · intro e q hq
            have e0 : bitsN (nearB n ring i) n &&& S = 0 := by omega
            have e1 : (bitsN (nearB n ring i) n &&& S).testBit q = false := by rw [e0, Nat.zero_testBit]
            rw [Nat.testBit_and, testBit_bitsN, hS q hq, decide_eq_true hq, Bool.true_and] at e1
            revert e1
            cases nearB n ring i q <;> cases F q <;> simp
          · intro e
            have e0 : bitsN (nearB n ring i) n &&& S = 0 := by
              refine Nat.eq_of_testBit_eq fun q => ?_
              rw [Nat.testBit_and, testBit_bitsN, Nat.zero_testBit]
              by_cases hq : q < n
              · have := e q hq
                rw [hS q hq, decide_eq_true hq, Bool.true_and]
                revert this
                cases nearB n ring i q <;> cases F q <;> simp
              · rw [decide_eq_false hq]; rfl
            rw [e0]; rfl
        by_cases g : lonelyB F n ring i = true
        · rw [if_pos g] at go
          have h2 : 2 ^ i < 2 ^ 32 := Nat.pow_lt_pow_right (by omega) (by omega)
          refine Ev.pos (hz.2 g) (Ev.pos (by omega) ?_)
          rw [shl_one _ (by omega) (by omega), Int.toNat_natCast, or_cast _ _ (bitsN_lt _ _ (by omega)) (by omega)]
          exact go
        · rw [if_neg g] at go
          exact Ev.neg (fun e => g (hz.1 e)) go
  exact main n 0 (by omega)
end
section
variable {t : List Int} (ht : t.length ≤ 1048576) (hT : ∀ p, p < n → decide ((p : Int) ∈ t) = !F p)
include ht hT
theorem spec_free_ev : Ev (fun k => spec_l2Free.f k n ring t) (listN F n) := by
  have main : ∀ d i, i + d = n → Ev (fun k => spec_l2Free.l0 k (listN F i) i n ring t) (listN F n) := by
    intro d
    induction d with
    | zero =>
      intro i hi
      have : i = n := by omega
      subst this
      refine Ev.succ ?_
      simp only [spec_l2Free.l0]
      exact Ev.neg (by omega) (Ev.now _)
    | succ d ih =>
      intro i hi
      have go := ih (i + 1) (by omega)
      have hl := listN_len F i
      rw [listN_succ] at go
      refine Ev.succ ?_
      simp only [spec_l2Free.l0]
      refine Ev.pos (by omega) (Ev.bind (spec_l2Is_ev _ _ _ _ ht) ?_)
      rw [hT i (by omega), wrap_one (n := 100) (by omega) (by omega)]
      cases hF : F i with
      | false =>
        rw [if_neg (by rw [hF]; simp)] at go
        exact Ev.pos (by simp) go
      | true =>
        rw [if_pos hF] at go
        exact Ev.neg (by simp) (Ev.pos (by omega) go)
  exact main n 0 (by omega)
omit h24 in
theorem spec_lonely_near (acc fr : List Int) (i : Nat) (near : List Int) (hn : ∀ x ∈ near, ∃ q : Nat, q < n ∧ x = q) (hl : near.length ≤ 100) (r : List Int) (d : Nat) : ∀ (j : Nat) (b : Bool), j + d = near.length →
    Ev (fun k => spec_l2Lonely.l1 k acc fr i near (b && (near.drop j).all fun x => F x.toNat) near.length n ring t) r → Ev (fun k => spec_l2Lonely.l1 k acc fr i near b j n ring t) r := by
  induction d with
  | zero =>
    intro j b hj hr
    have : j = near.length := by omega
    subst this
    rw [List.drop_length] at hr
    simpa using hr
  | succ d ih =>
    intro j b hj hr
    obtain ⟨q, hq, e⟩ := hn (near[j]'(by omega)) (List.getElem_mem _)
    rw [List.drop_eq_getElem_cons (l := near) (i := j) (by omega), List.all_cons, ← Bool.and_assoc] at hr
    have go := ih (j + 1) _ (by omega) hr
    refine Ev.succ ?_
    simp only [spec_l2Lonely.l1]
    refine Ev.pos (by omega) ?_
    rw [wrap_one (n := 1000) (by omega) (by omega)]
    cases b with
    | false =>
      refine Ev.neg (by simp) ?_
      rw [Bool.false_and] at go
      exact go
    | true =>
      refine Ev.pos (by simp) (Ev.pos (by omega) (Ev.bind (spec_l2Is_ev _ _ _ _ ht) ?_))
      rw [rd_get near j (by omega), e, hT q hq, Bool.not_not]
      rw [Bool.true_and, e, Int.toNat_natCast] at go
      exact go
theorem spec_lonely_ev : Ev (fun k => spec_l2Lonely.f k n ring t) (listN (lonelyB F n ring) n) := by
  have hlen := listN_len F n
  have main : ∀ d i, i + d = (listN F n).length → Ev (fun k => spec_l2Lonely.l0 k (((listN F n).take i).filter fun x => lonelyB F n ring x.toNat) (listN F n) i n ring t) ((listN F n).filter fun x => lonelyB F n ring x.toNat) := by
    intro d
    induction d with
    | zero =>
      intro i hi
      refine Ev.succ ?_
      simp only [spec_l2Lonely.l0]
      rw [List.take_of_length_le (by omega)]
      exact Ev.neg (by omega) (Ev.now _)
    | succ d ih =>
      intro i hi
      have go := ih (i + 1) (by omega)
      have hmem := (mem_listN F n _).1 (List.getElem_mem (l := listN F n) (n := i) (by omega))
      obtain ⟨q, hq, hFq, e⟩ := hmem
      have hacc : (((listN F n).take i).filter fun x => lonelyB F n ring x.toNat).length ≤ i := Nat.le_trans (List.length_filter_le _ _) (by simp; omega)
      have hnl := listN_len (nearB n ring q) n
      rw [List.take_add_one, List.getElem?_eq_getElem (by omega), Option.toList_some, List.filter_append, e] at go
      refine Ev.succ ?_
      simp only [spec_l2Lonely.l0]
      rw [rd_get _ i (by omega), e]
      refine Ev.pos (by omega) (Ev.pos (by omega) (Ev.bind (spec_near_ev h24 t q hq) ?_))
      refine spec_lonely_near ht hT _ _ i _ (fun x hx => ?_) (by omega) _ (listN (nearB n ring q) n).length 0 true (by omega) ?_
      · obtain ⟨z, hz, _, e2⟩ := (mem_listN _ _ _).1 hx
        exact ⟨z, hz, e2⟩
      have hall : (true && ((listN (nearB n ring q) n).drop 0).all fun x => F x.toNat) = lonelyB F n ring q := by
        unfold lonelyB
        rw [hFq, List.drop_zero, Bool.true_and, Bool.true_and, Bool.eq_iff_iff, range_all, List.all_eq_true]
        constructor
        · intro h z hz
          cases hz2 : nearB n ring q z with
          | false => rfl
          | true => simpa using h (z : Int) ((mem_listN _ _ _).2 ⟨z, hz, hz2, rfl⟩)
        · intro h x hx
          obtain ⟨z, hz, hz2, e2⟩ := (mem_listN _ _ _).1 hx
          have := h z hz
          rw [hz2] at this
          rw [e2, Int.toNat_natCast]
          simpa using this
      rw [hall]
      refine Ev.succ ?_
      simp only [spec_l2Lonely.l1]
      refine Ev.neg (by omega) ?_
      rw [rd_get _ i (by omega), e, wrap_one (n := 1000) (by omega) (by omega)]
      cases hL : lonelyB F n ring q with
      | true =>
        refine Ev.pos (by simp) (Ev.pos (by omega) (Ev.pos (by omega) (Ev.pos (by omega) ?_)))
        simp only [List.filter_cons, Int.toNat_natCast, hL, if_true, List.filter_nil] at go
        exact go
      | false =>
        refine Ev.neg (by simp) ?_
        simp only [List.filter_cons, Int.toNat_natCast, hL, List.filter_nil, Bool.false_eq_true, if_false, List.append_nil] at go
        exact go
  have efin : ((listN F n).filter fun x => lonelyB F n ring x.toNat) = listN (lonelyB F n ring) n := by
    unfold listN castL
    rw [List.filter_map, List.filter_filter]
    congr 1
    refine List.filter_congr fun q _ => ?_
    show (lonelyB F n ring ((q : Int)).toNat && F q) = _
    rw [Int.toNat_natCast]
    unfold lonelyB
    cases F q <;> simp
  unfold spec_l2Lonely.f
  refine Ev.bind (spec_free_ev h24 ht hT) ?_
  have := main (listN F n).length 0 (by omega)
  rw [efin] at this
  exact this
end
end

/-! ### within -/
theorem spec_l1In_eq (n a b : Int) : spec_l1In.f n a b = some (decide (a ≤ n ∧ n ≤ b)) := by
  unfold spec_l1In.f
  by_cases h : n ≥ a
  · rw [if_pos h]
    simp [show a ≤ n from h]
  · rw [if_neg h]
    simp [show ¬ a ≤ n from h]
theorem impl_within_eq (n a b : Int) : impl_within.f n a b = some (decide (a ≤ n ∧ n ≤ b)) := by
  unfold impl_within.f
  by_cases h : n ≥ a
  · rw [if_pos h]
    simp [show a ≤ n from h]
  · rw [if_neg h]
    simp [show ¬ a ≤ n from h]

/-! ### impl_allWithin -/
theorem impl_allWithin_l0 (l : List Int) (a b : Int) (hl : l.length ≤ 1048576) (d : Nat) : ∀ (k i : Nat), i ≤ l.length → l.length - i = d → d < k → impl_allWithin.l0 k a b l (l.length : Int) i = some (decide (∀ x ∈ l.drop i, a ≤ x ∧ x ≤ b)) := by
  induction d with
  | zero =>
    intro k i hi hd hk
    obtain ⟨k, rfl, _⟩ := fuel hk
    simp only [impl_allWithin.l0]
    rw [if_neg (by omega), List.drop_eq_nil_of_le (by omega)]
    simp
  | succ d ih =>
    intro k i hi hd hk
    obtain ⟨k, rfl, _⟩ := fuel hk
    simp only [impl_allWithin.l0]
    rw [if_pos (by omega), if_pos (by omega), if_pos (by omega), wrap_one (n := l.length) (by omega) (by omega), rd_get l i (by omega), impl_within_eq, ih k (i + 1) (by omega) (by omega) (by omega)]
    rw [List.drop_eq_getElem_cons (l := l) (i := i) (by omega)]
    rw [Option.bind_some]
    by_cases h : a ≤ l[i]'(by omega) ∧ l[i]'(by omega) ≤ b
    · rw [if_pos (by simp only [h]; simp)]
      refine congrArg some ?_
      rw [decide_eq_decide]
      simp only [List.mem_cons]
      exact ⟨fun e x hx => hx.elim (fun z => z ▸ h) (e x), fun e x hx => e x (.inr hx)⟩
    · rw [if_neg (by rw [decide_eq_true_eq]; exact h)]
      refine congrArg some ?_
      symm
      rw [decide_eq_false_iff_not]
      exact fun e => h (e _ List.mem_cons_self)
theorem impl_allWithin_eq (l : List Int) (a b : Int) (hl : l.length ≤ 1048576) (k : Nat) (hk : l.length < k) : impl_allWithin.f k l a b = some (decide (∀ x ∈ l, a ≤ x ∧ x ≤ b)) :=
  impl_allWithin_l0 l a b hl l.length k 0 (by omega) (by omega) hk

/-! ### isrow -/
/-- Rising numbers within bounds. -/
def Rising (l : List Int) (a b : Int) : Prop := ∀ i, (h : i < l.length) → (a ≤ l[i] ∧ l[i] ≤ b) ∧ (0 < i → l.getD (i - 1) 0 < l[i])
/-- A row: 2 to 24 seats, of which rising ones are taken, at least 3 on a ring. -/
def RowOK (s : Int) (ring : Bool) (t : List Int) : Prop := (2 ≤ s ∧ s ≤ 24) ∧ (ring = true → 3 ≤ s) ∧ Rising t 0 (s - 1)
open Classical in
theorem spec_l1Rising_l0 (l : List Int) (a b : Int) (hl : l.length ≤ 1048576) (d : Nat) : ∀ (k i : Nat), i ≤ l.length → l.length - i = d → d < k → (∀ j, (h : j < i) → (hj : j < l.length) → (a ≤ l[j] ∧ l[j] ≤ b) ∧ (0 < j → l.getD (j - 1) 0 < l[j])) →
    spec_l1Rising.l0 k l a b i = some (decide (Rising l a b)) := by
  induction d with
  | zero =>
    intro k i hi hd hk hp
    obtain ⟨k, rfl, _⟩ := fuel hk
    simp only [spec_l1Rising.l0]
    rw [if_neg (by omega)]
    refine congrArg some ?_
    symm
    rw [decide_eq_true_eq]
    exact fun j hj => hp j (by omega) hj
  | succ d ih =>
    intro k i hi hd hk hp
    obtain ⟨k, rfl, _⟩ := fuel hk
    have no : ¬ ((a ≤ l[i]'(by omega) ∧ l[i]'(by omega) ≤ b) ∧ (0 < i → l.getD (i - 1) 0 < l[i]'(by omega))) → ¬ Rising l a b := fun g e => g (e i (by omega))
    have go : ((a ≤ l[i]'(by omega) ∧ l[i]'(by omega) ≤ b) ∧ (0 < i → l.getD (i - 1) 0 < l[i]'(by omega))) → spec_l1Rising.l0 k l a b (wrap64 ((i : Int) + 1)) = some (decide (Rising l a b)) := by
      intro g
      rw [wrap_one (n := l.length) (by omega) (by omega)]
      refine ih k (i + 1) (by omega) (by omega) (by omega) fun j hj hj' => ?_
      by_cases e : j = i
      · subst e; exact g
      · exact hp j (by omega) hj'
    simp only [spec_l1Rising.l0]
    rw [if_pos (by omega), if_pos (by omega), rd_get l i (by omega), spec_l1In_eq, Option.bind_some]
    by_cases g : a ≤ l[i]'(by omega) ∧ l[i]'(by omega) ≤ b
    · rw [if_pos (decide_eq_true g)]
      by_cases h0 : 0 < i
      · rw [if_pos (by omega), wrap_id (by omega) (by omega), if_pos (by omega), if_pos (by omega), show (i : Int) - 1 = ((i - 1 : Nat) : Int) from by omega, rd_nat]
        by_cases g2 : l.getD (i - 1) 0 < l[i]'(by omega)
        · rw [if_neg (by omega)]
          exact go ⟨g, fun _ => g2⟩
        · rw [if_pos (by omega), decide_eq_false (no fun e => g2 (e.2 h0))]
      · rw [if_neg (by omega)]
        exact go ⟨g, fun e => absurd e h0⟩
    · rw [if_neg (by rw [decide_eq_true_eq]; exact g), decide_eq_false (no fun e => g e.1)]
open Classical in
theorem spec_l1Rising_eq (l : List Int) (a b : Int) (hl : l.length ≤ 1048576) (k : Nat) (hk : l.length < k) : spec_l1Rising.f k l a b = some (decide (Rising l a b)) :=
  spec_l1Rising_l0 l a b hl l.length k 0 (by omega) (by omega) hk (fun j h => by omega)
open Classical in
theorem spec_l2Row_eq (s : Int) (ring : Bool) (t : List Int) (ht : t.length ≤ 1048576) (k : Nat) (hk : t.length < k) : spec_l2Row.f k s ring t = some (decide (RowOK s ring t)) := by
  unfold spec_l2Row.f
  rw [spec_l1In_eq, Option.bind_some]
  by_cases h : 2 ≤ s ∧ s ≤ 24
  · rw [if_pos (decide_eq_true h), wrap_id (by omega) (by omega), spec_l1Rising_eq t _ _ ht k hk, Option.bind_some]
    cases ring with
    | true =>
      rw [if_pos rfl]
      by_cases h3 : s > 2
      · rw [if_pos h3]
        refine congrArg some ?_
        rw [decide_eq_decide]
        exact ⟨fun e => ⟨h, fun _ => by omega, e⟩, fun e => e.2.2⟩
      · rw [if_neg h3]
        refine congrArg some ?_
        symm
        rw [decide_eq_false_iff_not]
        exact fun e => h3 (by have := e.2.1 rfl; omega)
    | false =>
      rw [if_neg (by simp)]
      refine congrArg some ?_
      rw [decide_eq_decide]
      exact ⟨fun e => ⟨h, (fun z => by cases z), e⟩, fun e => e.2.2⟩
  · rw [if_neg (by rw [decide_eq_true_eq]; exact h)]
    refine congrArg some ?_
    symm
    rw [decide_eq_false_iff_not]
    exact fun e => h e.1
theorem impl_bench_has_one (s : Int) (ring : Bool) (p : Int) (k : Nat) (hk : 2 < k) : impl_bench_has.f k s ring [p] = some (decide (0 ≤ p ∧ p ≤ wrap64 (s - 1))) := by
  unfold impl_bench_has.f
  rw [impl_allWithin_eq [p] _ _ (by simp) k (by simp; omega), Option.bind_some]
  refine congrArg some ?_
  rw [decide_eq_decide]
  simp
theorem impl_bench_valid_eq (s : Int) (ring : Bool) : impl_bench_valid.f s ring = some (decide ((2 ≤ s ∧ s ≤ 24) ∧ (ring = true → 3 ≤ s))) := by
  unfold impl_bench_valid.f
  rw [impl_within_eq, Option.bind_some]
  by_cases h : 2 ≤ s ∧ s ≤ 24
  · rw [if_pos (decide_eq_true h)]
    cases ring with
    | true =>
      rw [if_pos rfl]
      refine congrArg some ?_
      rw [decide_eq_decide]
      exact ⟨fun e => ⟨h, fun _ => e⟩, fun e => e.2 rfl⟩
    | false =>
      rw [if_neg (by simp)]
      refine congrArg some ?_
      symm
      rw [decide_eq_true_eq]
      exact ⟨h, (fun z => by cases z)⟩
  · rw [if_neg (by rw [decide_eq_true_eq]; exact h)]
    refine congrArg some ?_
    symm
    rw [decide_eq_false_iff_not]
    exact fun e => h e.1
open Classical in
theorem impl_IsRow_l0 (s : Int) (ring : Bool) (l : List Int) (hl : l.length ≤ 1048576) (d : Nat) : ∀ (k i : Nat), i ≤ l.length → l.length - i = d → d + 3 < k → ((2 ≤ s ∧ s ≤ 24) → ∀ j, (h : j < i) → (hj : j < l.length) → (0 ≤ l[j] ∧ l[j] ≤ s - 1) ∧ (0 < j → l.getD (j - 1) 0 < l[j])) →
    impl_IsRow.l0 k l (l.length : Int) i s ring l = some (decide (RowOK s ring l)) := by
  induction d with
  | zero =>
    intro k i hi hd hk hp
    obtain ⟨k, rfl, _⟩ := fuel hk
    simp only [impl_IsRow.l0]
    rw [if_neg (by omega), impl_Row_bench.f, Option.bind_some]
    dsimp only
    rw [impl_bench_valid_eq, Option.bind_some]
    refine congrArg some ?_
    rw [decide_eq_decide]
    exact ⟨fun e => ⟨e.1, e.2, fun j hj => hp e.1 j (by omega) hj⟩, fun e => ⟨e.1, e.2.1⟩⟩
  | succ d ih =>
    intro k i hi hd hk hp
    obtain ⟨k, rfl, _⟩ := fuel hk
    have no : (2 ≤ s ∧ s ≤ 24 → ¬ ((0 ≤ l[i]'(by omega) ∧ l[i]'(by omega) ≤ s - 1) ∧ (0 < i → l.getD (i - 1) 0 < l[i]'(by omega)))) → ¬ RowOK s ring l := fun g e => g e.1 (e.2.2 i (by omega))
    have go : (2 ≤ s ∧ s ≤ 24 → ((0 ≤ l[i]'(by omega) ∧ l[i]'(by omega) ≤ s - 1) ∧ (0 < i → l.getD (i - 1) 0 < l[i]'(by omega)))) → impl_IsRow.l0 k l (l.length : Int) (wrap64 ((i : Int) + 1)) s ring l = some (decide (RowOK s ring l)) := by
      intro g
      rw [wrap_one (n := l.length) (by omega) (by omega)]
      refine ih k (i + 1) (by omega) (by omega) (by omega) fun hs j hj hj' => ?_
      by_cases e : j = i
      · subst e; exact g hs
      · exact hp hs j (by omega) hj'
    simp only [impl_IsRow.l0]
    rw [if_pos (by omega), if_pos (by omega), if_pos (by omega), impl_Row_bench.f, Option.bind_some]
    dsimp only
    rw [rd_get l i (by omega), impl_bench_has_one _ _ _ k (by omega), Option.bind_some]
    by_cases g : 0 ≤ l[i]'(by omega) ∧ l[i]'(by omega) ≤ wrap64 (s - 1)
    · rw [if_pos (decide_eq_true g)]
      have g' : 2 ≤ s ∧ s ≤ 24 → 0 ≤ l[i]'(by omega) ∧ l[i]'(by omega) ≤ s - 1 := fun hs => by
        rw [wrap_id (by omega) (by omega)] at g
        exact g
      by_cases h0 : 0 < i
      · rw [if_pos (by omega), wrap_id (by omega) (by omega), if_pos (by omega), if_pos (by omega), show (i : Int) - 1 = ((i - 1 : Nat) : Int) from by omega, rd_nat]
        by_cases g2 : l.getD (i - 1) 0 < l[i]'(by omega)
        · rw [if_neg (by omega)]
          exact go fun hs => ⟨g' hs, fun _ => g2⟩
        · rw [if_pos (by omega), decide_eq_false (no fun _ e => g2 (e.2 h0))]
      · rw [if_neg (by omega)]
        exact go fun hs => ⟨g' hs, fun e => absurd e h0⟩
    · rw [if_neg (by rw [decide_eq_true_eq]; exact g)]
      rw [decide_eq_false (no fun hs e => g ?_)]
      rw [wrap_id (by omega) (by omega)]
      exact e.1
open Classical in
theorem impl_IsRow_eq (s : Int) (ring : Bool) (l : List Int) (hl : l.length ≤ 1048576) (k : Nat) (hk : l.length + 3 < k) : impl_IsRow.f k s ring l = some (decide (RowOK s ring l)) :=
  impl_IsRow_l0 s ring l hl l.length k 0 (by omega) (by omega) hk (fun _ j h => by omega)
theorem rising_lt (l : List Int) (a b : Int) (h : Rising l a b) (i j : Nat) (hij : i < j) (hj : j < l.length) : l[i]'(by omega) < l[j] := by
  induction j with
  | zero => omega
  | succ j ih =>
    have h1 := (h (j + 1) hj).2 (by omega)
    rw [show j + 1 - 1 = j from by omega, show l.getD j 0 = l[j]'(by omega) from by simp [List.getD, show j < l.length by omega]] at h1
    by_cases e : i = j
    · subst e; exact h1
    · have := ih (by omega) (by omega)
      omega
theorem rising_mem (l : List Int) (a b : Int) (h : Rising l a b) : ∀ x ∈ l, a ≤ x ∧ x ≤ b := by
  intro x hx
  obtain ⟨i, hi, rfl⟩ := List.getElem_of_mem hx
  exact (h i hi).1
theorem rising_nodup (l : List Int) (a b : Int) (h : Rising l a b) : l.Nodup := by
  refine List.pairwise_iff_getElem.2 fun i j hi hj hij e => ?_
  have := rising_lt l a b h i j hij hj
  omega
theorem row_len (s : Int) (ring : Bool) (t : List Int) (h : RowOK s ring t) : t.length ≤ 24 := by
  have hn := rising_nodup t _ _ h.2.2
  have hs : t ⊆ (List.range 24).map fun i : Nat => (i : Int) := by
    intro x hx
    have := rising_mem t _ _ h.2.2 x hx
    have := h.1
    exact List.mem_map.2 ⟨x.toNat, List.mem_range.2 (by omega), by omega⟩
  have := List.Nodup.length_le_of_subset hn hs
  simpa using this

/-! ### impl_setOf -/
theorem impl_setOf_l0 (l : List Int) (hl : l.length ≤ 1048576) (hb : ∀ x ∈ l, 0 ≤ x ∧ x < 32) (d : Nat) : ∀ (k i s : Nat), s < 4294967296 → i ≤ l.length → l.length - i = d → d < k →
    impl_setOf.l0 k (s : Int) l (l.length : Int) i = some (((l.drop i).foldl (fun s p => s ||| 2 ^ p.toNat) s : Nat) : Int) := by
  induction d with
  | zero =>
    intro k i s hs hi hd hk
    obtain ⟨k, rfl, _⟩ := fuel hk
    simp only [impl_setOf.l0]
    rw [if_neg (by omega), List.drop_eq_nil_of_le (by omega)]
    rfl
  | succ d ih =>
    intro k i s hs hi hd hk
    obtain ⟨k, rfl, _⟩ := fuel hk
    obtain ⟨b0, b1⟩ := hb (l[i]'(by omega)) (List.getElem_mem _)
    have hp : 2 ^ (l[i]'(by omega)).toNat < 2 ^ 32 := Nat.pow_lt_pow_right (by omega) (by omega)
    simp only [impl_setOf.l0]
    rw [if_pos (by omega), if_pos (by omega), if_pos (by omega), wrap_one (n := l.length) (by omega) (by omega), rd_get l i (by omega), if_pos b0, shl_one _ b0 b1, or_cast _ _ hs hp]
    rw [ih k (i + 1) _ (Nat.or_lt_two_pow (n := 32) hs hp) (by omega) (by omega) (by omega), List.drop_eq_getElem_cons (l := l) (i := i) (by omega)]
    rfl
theorem impl_setOf_eq (l : List Int) (hl : l.length ≤ 1048576) (hb : ∀ x ∈ l, 0 ≤ x ∧ x < 32) (k : Nat) (hk : l.length < k) : impl_setOf.f k l = some ((setN l : Nat) : Int) :=
  impl_setOf_l0 l hl hb l.length k 0 0 (by omega) (by omega) (by omega) hk

/-! ### taken -/
theorem taken_lt (s : Int) (ring : Bool) (t : List Int) (hr : RowOK s ring t) : (∀ x ∈ t, 0 ≤ x ∧ x < 32) ∧ setN t < 4294967296 := by
  have hm := rising_mem t _ _ hr.2.2
  have h24 := hr.1
  exact ⟨fun x hx => by have := hm x hx; omega, setN_u32 t fun x hx => by have := hm x hx; omega⟩
theorem impl_taken_eq (s : Int) (ring : Bool) (t : List Int) (hr : RowOK s ring t) (k : Nat) (hk : t.length < k) : impl_Row_taken.f k s ring t = some ((setN t : Nat) : Int) := by
  unfold impl_Row_taken.f
  have := row_len s ring t hr
  rw [impl_setOf_eq t (by omega) (taken_lt s ring t hr).1 k hk, Option.bind_some]

/-! ### gamerow -/
theorem game_iff (a : Int) : spec_l11Game.f a = some (decide (1 ≤ a ∧ a ≤ 2)) := by
  unfold spec_l11Game.f
  by_cases h : a = 1
  · rw [if_pos h, decide_eq_true (by omega)]
  · rw [if_neg h]
    refine congrArg some ?_
    rw [Bool.eq_iff_iff, beq_iff_eq, decide_eq_true_eq]
    omega
theorem row_facts {s : Int} {ring : Bool} {t : List Int} (h : RowOK s ring t) : ∃ n : Nat, s = n ∧ 2 ≤ n ∧ n ≤ 24 ∧ (ring = true → 3 ≤ n) ∧ (∀ x ∈ t, 0 ≤ x ∧ x < n) := by
  have h1 := h.1
  have h2 := h.2.1
  refine ⟨s.toNat, by omega, by omega, by omega, fun e => by have := h2 e; omega, fun x hx => ?_⟩
  have := rising_mem t _ _ h.2.2 x hx
  omega
open Classical in
theorem spec_row_ev (s : Int) (ring : Bool) (t : List Int) (ht : t.length ≤ 1048576) : Ev (fun k => spec_l2Row.f k s ring t) (decide (RowOK s ring t)) :=
  Ev.bound t.length fun k hk => spec_l2Row_eq s ring t ht k hk
open Classical in
theorem impl_isGame_ev (s : Int) (ring : Bool) (t : List Int) (ht : t.length ≤ 1048576) (g : Int) : Ev (fun k => impl_isGame.f k s ring t g) (decide (RowOK s ring t ∧ 1 ≤ g ∧ g ≤ 2)) := by
  unfold impl_isGame.f
  refine Ev.bind (Ev.bound (t.length + 3) fun k hk => impl_IsRow_eq s ring t ht k (by omega)) ?_
  by_cases h : RowOK s ring t
  · refine Ev.pos (decide_eq_true h) ?_
    rw [impl_within_eq]
    refine Ev.same (Ev.now _) ?_
    rw [decide_eq_decide]
    exact ⟨fun e => ⟨h, e⟩, fun e => e.2⟩
  · exact Ev.same (Ev.neg (by rw [decide_eq_true_eq]; exact h) (Ev.now _)) (decide_eq_false fun e => h e.1).symm
/-- What is free of a row, by number. -/
def freeB (t : List Int) (p : Nat) : Bool := !decide ((p : Int) ∈ t)
theorem taken_bit {t : List Int} (hlo : ∀ x ∈ t, 0 ≤ x) (p : Nat) : (setN t).testBit p = !freeB t p := by
  unfold freeB
  rw [testBit_setN, Bool.not_not, decide_eq_decide]
  constructor
  · rintro ⟨x, hx, e⟩
    have := hlo x hx
    rw [show (p : Int) = x from by omega]
    exact hx
  · intro h
    exact ⟨(p : Int), h, by omega⟩

/-! ### taking -/
/-- Which first seats a move of a game can have. -/
def moveB (game : Int) (F : Nat → Bool) (n : Nat) (ring : Bool) (p : Nat) : Bool := if game = 1 then lonelyB F n ring p else F p && F ((p + 1) % n) && (ring || decide (p + 1 < n))
def maskN (game : Int) (n p : Nat) : Nat := if game = 1 then 2 ^ p else 2 ^ p ||| 2 ^ ((p + 1) % n)
theorem next_tmod (p n : Nat) (hp : p < n) (hn : n ≤ 24) : Int.tmod (wrap64 ((p : Int) + 1)) (n : Int) = (((p + 1) % n : Nat) : Int) := by
  rw [wrap_one (n := 100) (by omega) (by omega)]
  exact (Int.ofNat_tmod (p + 1) n).symm
section
variable {F : Nat → Bool} {n : Nat} {ring : Bool} (h2 : 2 ≤ n) (h24 : n ≤ 24) {game : Int} (hg : game = 1 ∨ game = 2)
include h2 h24 hg
theorem spec_moves_ev {t : List Int} (ht : t.length ≤ 1048576) (hT : ∀ p, p < n → decide ((p : Int) ∈ t) = !F p) : Ev (fun k => spec_l11Moves.f k n ring t game) (listN (moveB game F n ring) n) := by
  unfold spec_l11Moves.f
  rcases hg with rfl | rfl
  · exact Ev.pos rfl (Ev.bind (spec_lonely_ev h24 ht hT) (Ev.now _))
  · refine Ev.neg (by omega) ?_
    have main : ∀ d i, i + d = n → Ev (fun k => spec_l11Moves.l0 k (listN (moveB 2 F n ring) i) i n ring t) (listN (moveB 2 F n ring) n) := by
      intro d
      induction d with
      | zero =>
        intro i hi
        have : i = n := by omega
        subst this
        refine Ev.succ ?_
        simp only [spec_l11Moves.l0]
        exact Ev.neg (by omega) (Ev.now _)
      | succ d ih =>
        intro i hi
        have go := ih (i + 1) (by omega)
        have hl := listN_len (moveB 2 F n ring) i
        have hm : (i + 1) % n < n := Nat.mod_lt _ (by omega)
        have hmm : (i + 1) % n > i ↔ i + 1 < n := by
          constructor
          · intro e
            refine Classical.byContradiction fun c => ?_
            have : i + 1 = n := by omega
            rw [this, Nat.mod_self] at e
            omega
          · intro e
            rw [Nat.mod_eq_of_lt e]
            omega
        rw [listN_succ] at go
        refine Ev.succ ?_
        simp only [spec_l11Moves.l0]
        rw [next_tmod i n (by omega) h24]
        refine Ev.pos (by omega) (Ev.neg (by omega) (Ev.bind (spec_l2Is_ev _ _ _ _ ht) ?_))
        rw [hT i (by omega), wrap_one (n := 100) (by omega) (by omega)]
        have eM : moveB 2 F n ring i = (F i && F ((i + 1) % n) && (ring || decide (i + 1 < n))) := rfl
        cases hF : F i with
        | false =>
          rw [if_neg (by rw [eM, hF]; simp)] at go
          exact Ev.pos (by simp) go
        | true =>
          refine Ev.neg (by simp) (Ev.bind (spec_l2Is_ev _ _ _ _ ht) ?_)
          rw [hT _ hm]
          cases hF2 : F ((i + 1) % n) with
          | false =>
            rw [if_neg (by rw [eM, hF, hF2]; simp)] at go
            exact Ev.pos (by simp) go
          | true =>
            refine Ev.neg (by simp) ?_
            cases ring with
            | true =>
              rw [if_pos (by rw [eM, hF, hF2]; simp)] at go
              exact Ev.pos rfl (Ev.pos (by omega) go)
            | false =>
              refine Ev.neg (by simp) ?_
              by_cases g : i + 1 < n
              · rw [if_pos (by rw [eM, hF, hF2]; simp [g])] at go
                exact Ev.pos (by have := hmm.2 g; omega) (Ev.pos (by omega) go)
              · rw [if_neg (by rw [eM, hF, hF2]; simp [g])] at go
                exact Ev.neg (by intro e; exact g (hmm.1 (by omega))) go
    exact main n 0 (by omega)
theorem impl_taking_ev {S : Nat} (hlt : S < 4294967296) (hS : ∀ p, p < n → S.testBit p = !F p) (p : Nat) (hp : p < n) : ∃ v : Nat, Ev (fun k => impl_bench_taking.f k n ring (S : Int) game p) ((v : Int), moveB game F n ring p) ∧ (moveB game F n ring p = true → v = maskN game n p) := by
  have p2 : 2 ^ p < 2 ^ 32 := Nat.pow_lt_pow_right (by omega) (by omega)
  have hm : (p + 1) % n < n := Nat.mod_lt _ (by omega)
  have q2 : 2 ^ ((p + 1) % n) < 2 ^ 32 := Nat.pow_lt_pow_right (by omega) (by omega)
  have hone : Ev (fun k => impl_bench_has.f k n ring [(p : Int)]) true := Ev.bound 3 fun k hk => by
    rw [impl_bench_has_one _ _ _ k (by omega)]
    exact congrArg some (decide_eq_true (by rw [wrap_id (by omega) (by omega)]; omega))
  rcases hg with rfl | rfl
  · refine ⟨2 ^ p, ?_, fun _ => rfl⟩
    unfold impl_bench_taking.f
    refine Ev.bind hone (Ev.pos rfl (Ev.pos rfl (Ev.pos (by omega) (Ev.bind (impl_lonely_ev h24 hlt hS) (Ev.have (has_bit _ _ (by omega) (bitsN_lt _ _ (by omega))) ?_)))))
    rw [testBit_bitsN, decide_eq_true hp, Bool.true_and, shl_one _ (by omega) (by omega), Int.toNat_natCast]
    exact Ev.now _
  · have eM : moveB 2 F n ring p = (F p && F ((p + 1) % n) && (ring || decide (p + 1 < n))) := rfl
    -- behind the choice of the neighbor
    have j : ∀ q : Nat, (q < n → q = (p + 1) % n) → (q < n ↔ (ring || decide (p + 1 < n)) = true) → q ≤ n → ∃ v : Nat, Ev (fun k => impl_bench_taking.j0 k (S : Int) p q n ring) ((v : Int), moveB 2 F n ring p) ∧ (moveB 2 F n ring p = true → v = maskN 2 n p) := by
      intro q hq hqn hle
      by_cases e : q = n
      · have hf : moveB 2 F n ring p = false := by
          rw [eM, Bool.eq_false_iff.2 (fun z => absurd (hqn.2 z) (by omega)), Bool.and_false]
        refine ⟨0, Ev.succ ?_, fun z => absurd z (by rw [hf]; simp)⟩
        rw [hf]
        simp only [impl_bench_taking.j0]
        exact Ev.pos (by omega) (Ev.now _)
      · have hql : q < n := by omega
        have hq' := hq hql
        have hb := hqn.1 hql
        rw [eM, hb, Bool.and_true]
        cases hF : F p with
        | false =>
          refine ⟨0, Ev.succ ?_, fun z => absurd z (by simp)⟩
          simp only [impl_bench_taking.j0]
          refine Ev.neg (by omega) (Ev.have (has_bit _ _ (by omega) hlt) ?_)
          rw [hS p hp, hF]
          exact Ev.pos rfl (Ev.now _)
        | true =>
          cases hF2 : F ((p + 1) % n) with
          | false =>
            refine ⟨0, Ev.succ ?_, fun z => absurd z (by simp)⟩
            simp only [impl_bench_taking.j0]
            refine Ev.neg (by omega) (Ev.have (has_bit _ _ (by omega) hlt) ?_)
            rw [hS p hp, hF]
            refine Ev.neg (by simp) (Ev.have (has_bit _ _ (by omega) hlt) ?_)
            rw [hS q hql, hq', hF2]
            exact Ev.pos rfl (Ev.now _)
          | true =>
            refine ⟨2 ^ p ||| 2 ^ ((p + 1) % n), Ev.succ ?_, fun _ => rfl⟩
            simp only [impl_bench_taking.j0]
            refine Ev.neg (by omega) (Ev.have (has_bit _ _ (by omega) hlt) ?_)
            rw [hS p hp, hF]
            refine Ev.neg (by simp) (Ev.have (has_bit _ _ (by omega) hlt) ?_)
            rw [hS q hql, hq', hF2]
            refine Ev.neg (by simp) (Ev.pos (by omega) (Ev.pos (by omega) ?_))
            rw [shl_one _ (by omega) (by omega), shl_one _ (by omega) (by omega), Int.toNat_natCast, Int.toNat_natCast, or_cast _ _ (by omega) (by omega)]
            exact Ev.now _
    unfold impl_bench_taking.f
    cases ring with
    | true =>
      obtain ⟨v, e, hv⟩ := j ((p + 1) % n) (fun _ => rfl) (by simp [hm]) (by omega)
      refine ⟨v, Ev.bind hone (Ev.pos rfl (Ev.neg (by omega) (Ev.pos rfl (Ev.neg (by omega) ?_)))), hv⟩
      rw [next_tmod p n hp h24]
      exact e
    | false =>
      obtain ⟨v, e, hv⟩ := j (p + 1) (fun z => (Nat.mod_eq_of_lt z).symm) (by simp) (by omega)
      refine ⟨v, Ev.bind hone (Ev.pos rfl (Ev.neg (by omega) (Ev.neg (by simp) ?_))), hv⟩
      rw [wrap_one (n := 100) (by omega) (by omega)]
      exact e
end

/-! ### moves -/
section
variable {F : Nat → Bool} {n : Nat} {ring : Bool} (h2 : 2 ≤ n) (h24 : n ≤ 24) {game : Int} (hg : game = 1 ∨ game = 2)
include h2 h24 hg
theorem impl_moves_ev {S : Nat} (hlt : S < 4294967296) (hS : ∀ p, p < n → S.testBit p = !F p) : Ev (fun k => impl_bench_moves.f k n ring (S : Int) game) (listN (moveB game F n ring) n) := by
  have main : ∀ d i, i + d = n → Ev (fun k => impl_bench_moves.l0 k (S : Int) game (listN (moveB game F n ring) i) n i n ring) (listN (moveB game F n ring) n) := by
    intro d
    induction d with
    | zero =>
      intro i hi
      have : i = n := by omega
      subst this
      refine Ev.succ ?_
      simp only [impl_bench_moves.l0]
      exact Ev.neg (by omega) (Ev.now _)
    | succ d ih =>
      intro i hi
      have go := ih (i + 1) (by omega)
      have hl := listN_len (moveB game F n ring) i
      obtain ⟨v, e, _⟩ := impl_taking_ev h2 h24 hg (ring := ring) hlt hS i (by omega)
      rw [listN_succ] at go
      refine Ev.succ ?_
      simp only [impl_bench_moves.l0]
      refine Ev.pos (by omega) (Ev.bind e ?_)
      dsimp only
      rw [wrap_one (n := 100) (by omega) (by omega)]
      cases hM : moveB game F n ring i with
      | true =>
        rw [if_pos hM] at go
        exact Ev.pos rfl (Ev.pos (by omega) go)
      | false =>
        rw [if_neg (by rw [hM]; simp)] at go
        exact Ev.neg (by simp) go
  exact main n 0 (by omega)
end
theorem moves_ev {s : Int} {ring : Bool} {t : List Int} (h : RowOK s ring t) (g : Int) (hg : g = 1 ∨ g = 2) : Ev (fun k => spec_l11Moves.f k s ring t g) (listN (moveB g (freeB t) s.toNat ring) s.toNat) ∧ Ev (fun k => impl_bench_moves.f k s ring ((setN t : Nat) : Int) g) (listN (moveB g (freeB t) s.toNat ring) s.toNat) := by
  obtain ⟨n, rfl, h2, h24, h3, hin⟩ := row_facts h
  have hl := row_len _ ring t h
  exact ⟨spec_moves_ev h2 h24 hg (by omega) (fun p _ => by unfold freeB; simp), impl_moves_ev h2 h24 hg (taken_lt _ ring t h).2 (fun p _ => taken_bit (fun x hx => (hin x hx).1) p)⟩

/-! ### bits64 -/
theorem bit_of (c j : Nat) (hc : c < 9223372036854775808) (hj : j < 64) : (Go.bits .and .i64 (shr .i64 (c : Int) (j : Int)) 1 = 1) ↔ c.testBit j = true := by
  have hd : c / 2 ^ j ≤ c := Nat.div_le_self _ _
  have e1 : shr .i64 (c : Int) (j : Int) = ((c / 2 ^ j : Nat) : Int) := by
    unfold shr
    rw [Int.toNat_natCast, show min j IntKind.i64.bits = j from Nat.min_eq_left (by show j ≤ 64; omega)]
    simp
  have e2 : Go.bits .and .i64 ((c / 2 ^ j : Nat) : Int) 1 = ((c / 2 ^ j &&& 1 : Nat) : Int) :=
    (bits_nat .i64 63 (by decide) (fun n h h' => by rw [IntKind.wrap_i64]; omega) (c / 2 ^ j) 1 (by omega) (by decide)).1
  rw [e1, e2, Nat.and_one_is_mod, Nat.testBit_eq_decide_div_mod_eq, decide_eq_true_eq]
  omega
theorem shl_one64 (m : Nat) (hm : m ≤ 62) : shl .i64 1 (m : Int) = ((2 ^ m : Nat) : Int) := by
  unfold shl
  rw [Int.one_mul, Int.toNat_natCast, show min m IntKind.i64.bits = m from Nat.min_eq_left (by show m ≤ 64; omega)]
  have : 2 ^ m ≤ 2 ^ 62 := Nat.pow_le_pow_right (by omega) hm
  have e : ((2 ^ m : Nat) : Int) = (2 : Int) ^ m := by simp
  rw [← e, IntKind.wrap_i64]
  generalize 2 ^ m = y at *
  omega

/-! ### reverse -/
def freeS (S : Nat) (p : Nat) : Bool := !S.testBit p
def movesN (g : Int) (n : Nat) (ring : Bool) (S : Nat) : List Int := listN (moveB g (freeS S) n ring) n
def nextN (g : Int) (n S p : Nat) : Nat := S ||| maskN g n p
def leftN' (n S : Nat) : Nat := ((List.range n).filter (freeS S)).length
theorem move_free {g : Int} (hg : g = 1 ∨ g = 2) {F : Nat → Bool} {n : Nat} {ring : Bool} {p : Nat} (h : moveB g F n ring p = true) : F p = true := by
  rcases hg with rfl | rfl
  · have h : lonelyB F n ring p = true := h
    unfold lonelyB at h
    exact (Bool.and_eq_true_iff.1 h).1
  · have h : (F p && F ((p + 1) % n) && (ring || decide (p + 1 < n))) = true := h
    exact (Bool.and_eq_true_iff.1 (Bool.and_eq_true_iff.1 h).1).1
theorem next_bit (g : Int) (n S p : Nat) : (nextN g n S p).testBit p = true := by
  unfold nextN maskN
  split
  · rw [Nat.testBit_or, Nat.testBit_two_pow]
    simp
  · rw [Nat.testBit_or, Nat.testBit_or, Nat.testBit_two_pow]
    simp
theorem next_keeps (g : Int) (n S p q : Nat) (h : S.testBit q = true) : (nextN g n S p).testBit q = true := by
  unfold nextN
  rw [Nat.testBit_or, h, Bool.true_or]
theorem next_lt (g : Int) {n S p : Nat} (hS : S < 2 ^ n) (hp : p < n) : nextN g n S p < 2 ^ n := by
  have h1 : 2 ^ p < 2 ^ n := Nat.pow_lt_pow_right (by omega) hp
  have h2 : 2 ^ ((p + 1) % n) < 2 ^ n := Nat.pow_lt_pow_right (by omega) (Nat.mod_lt _ (by omega))
  unfold nextN maskN
  split
  · exact Nat.or_lt_two_pow hS h1
  · exact Nat.or_lt_two_pow hS (Nat.or_lt_two_pow h1 h2)
theorem filt_le {P P' : Nat → Bool} (h : ∀ q, P' q = true → P q = true) : ∀ l : List Nat, (l.filter P').length ≤ (l.filter P).length
  | [] => Nat.le_refl _
  | y :: l => by
    have ih := filt_le h l
    by_cases g' : P' y = true
    · rw [List.filter_cons_of_pos g', List.filter_cons_of_pos (h y g')]
      simp only [List.length_cons]
      omega
    · rw [List.filter_cons_of_neg g']
      by_cases g : P y = true
      · rw [List.filter_cons_of_pos g]
        simp only [List.length_cons]
        omega
      · rw [List.filter_cons_of_neg g]
        exact ih
theorem filt_lt {P P' : Nat → Bool} (h : ∀ q, P' q = true → P q = true) {x : Nat} (hx : P x = true) (hx' : P' x = false) : ∀ l : List Nat, x ∈ l → (l.filter P').length < (l.filter P).length
  | [], hm => absurd hm (by simp)
  | y :: l, hm => by
    by_cases e : x = y
    · subst e
      rw [List.filter_cons_of_neg (by rw [hx']; simp), List.filter_cons_of_pos hx]
      have := filt_le h l
      simp only [List.length_cons]
      omega
    · have ih := filt_lt h hx hx' l ((List.mem_cons.1 hm).resolve_left e)
      by_cases g' : P' y = true
      · rw [List.filter_cons_of_pos g', List.filter_cons_of_pos (h y g')]
        simp only [List.length_cons]
        omega
      · rw [List.filter_cons_of_neg g']
        by_cases g : P y = true
        · rw [List.filter_cons_of_pos g]
          simp only [List.length_cons]
          omega
        · rw [List.filter_cons_of_neg g]
          exact ih
theorem left_lt (g : Int) {n S p : Nat} (hp : p < n) (hf : freeS S p = true) : leftN' n (nextN g n S p) < leftN' n S := by
  unfold leftN'
  refine filt_lt (fun q hq => ?_) hf (by unfold freeS; rw [next_bit]; rfl) _ (List.mem_range.2 hp)
  unfold freeS at hq ⊢
  cases e : S.testBit q with
  | false => rfl
  | true =>
    rw [next_keeps g n S p q e] at hq
    exact hq
theorem left_le (n S : Nat) : leftN' n S ≤ n := by
  have := List.length_filter_le (freeS S) (List.range n)
  simpa [leftN'] using this
/-- Who is to move wins in reverse play. -/
def Wd (g : Int) (n : Nat) (ring : Bool) : Nat → Nat → Bool
  | 0, _ => false
  | d + 1, S => decide ((movesN g n ring S).length = 0) || (movesN g n ring S).any fun p => !Wd g n ring d (nextN g n S p.toNat)
theorem mem_moves {g : Int} (hg : g = 1 ∨ g = 2) {n : Nat} {ring : Bool} {S : Nat} {x : Int} (h : x ∈ movesN g n ring S) : 0 ≤ x ∧ x.toNat < n ∧ x = (x.toNat : Int) ∧ freeS S x.toNat = true ∧ moveB g (freeS S) n ring x.toNat = true := by
  obtain ⟨q, hq, hM, rfl⟩ := (mem_listN _ _ _).1 h
  exact ⟨by omega, by omega, by omega, by simpa using move_free hg hM, by simpa using hM⟩
theorem any_congr' {l : List Int} {f f' : Int → Bool} (h : ∀ x ∈ l, f x = f' x) : l.any f = l.any f' := by
  rw [Bool.eq_iff_iff, List.any_eq_true, List.any_eq_true]
  exact ⟨fun ⟨x, hx, e⟩ => ⟨x, hx, (h x hx) ▸ e⟩, fun ⟨x, hx, e⟩ => ⟨x, hx, (h x hx).symm ▸ e⟩⟩
theorem Wd_same {g : Int} (hg : g = 1 ∨ g = 2) (n : Nat) (ring : Bool) : ∀ (d d' S : Nat), leftN' n S < d → leftN' n S < d' → Wd g n ring d S = Wd g n ring d' S
  | 0, _, _, h, _ => absurd h (by omega)
  | _, 0, _, _, h => absurd h (by omega)
  | d + 1, d' + 1, S, h, h' => by
    unfold Wd
    refine congrArg (decide ((movesN g n ring S).length = 0) || ·) (any_congr' fun x hx => ?_)
    obtain ⟨_, hx1, _, hx2, _⟩ := mem_moves hg hx
    have := left_lt g hx1 hx2
    rw [Wd_same hg n ring d d' (nextN g n S x.toNat) (by omega) (by omega)]
theorem mask_lt (g : Int) {n p : Nat} (hn : n ≤ 24) (hp : p < n) : maskN g n p < 4294967296 := by
  have p2 : 2 ^ p < 2 ^ 32 := Nat.pow_lt_pow_right (by omega) (by omega)
  have q2 : 2 ^ ((p + 1) % n) < 2 ^ 32 := Nat.pow_lt_pow_right (by omega) (by have := Nat.mod_lt (p + 1) (show 0 < n by omega); omega)
  unfold maskN
  split
  · exact p2
  · exact Nat.or_lt_two_pow p2 q2
section
variable {n : Nat} {ring : Bool} (h2 : 2 ≤ n) (h12 : n ≤ 12) {g : Int} (hg : g = 1 ∨ g = 2)
include h2 h12 hg
theorem behind_ev {S : Nat} (hS : S < 2 ^ n) {p : Nat} (hp : p < n) (hM : moveB g (freeS S) n ring p = true) : Ev (fun k => impl_bench_behind.f k n ring (S : Int) g (p : Int)) ((nextN g n S p : Nat) : Int) := by
  have h32 : 2 ^ n < 2 ^ 32 := Nat.pow_lt_pow_right (by omega) (by omega)
  obtain ⟨v, e, hv⟩ := impl_taking_ev h2 (by omega) hg (ring := ring) (F := freeS S) (S := S) (by omega) (fun q _ => by unfold freeS; simp) p hp
  have hv2 : v < 4294967296 := by
    rw [hv hM]
    exact mask_lt g (by omega) hp
  unfold impl_bench_behind.f
  refine Ev.bind e ?_
  dsimp only
  rw [or_cast _ _ (by omega) hv2, hv hM]
  exact Ev.now _
theorem rw_lo_ev {S d : Nat} (hS : S < 2 ^ n) {X : Int → Bool} : ∀ (ps : List Int) (b : Bool), (∀ p ∈ ps, p ∈ movesN g n ring S ∧ Ev (fun k => impl_ReverseWon.le k n ring g d ((nextN g n S p.toNat : Nat) : Int)) (X p)) → Ev (fun k => impl_ReverseWon.lo (impl_ReverseWon.le k n ring g d) n ring (S : Int) g k ps b) (b || ps.any fun p => !X p)
  | [], b, _ => by
    simp only [impl_ReverseWon.lo, List.any_nil, Bool.or_false]
    exact Ev.now _
  | p :: ps, b, hp => by
    obtain ⟨h0, hX⟩ := hp p List.mem_cons_self
    obtain ⟨hx0, hx1, hx2, hx3, hx4⟩ := mem_moves hg h0
    have h32 : 2 ^ n < 2 ^ 32 := Nat.pow_lt_pow_right (by omega) (by omega)
    have hnx := next_lt g hS hx1
    have ih := fun b => rw_lo_ev (S := S) (d := d) hS (X := X) ps b fun q hq => hp q (List.mem_cons_of_mem _ hq)
    simp only [impl_ReverseWon.lo]
    cases b with
    | true =>
      refine Ev.pos rfl ?_
      have := ih true
      rw [Bool.true_or] at this ⊢
      exact this
    | false =>
      refine Ev.neg (by simp) ?_
      have hb := behind_ev h2 h12 hg hS hx1 hx4
      rw [← hx2] at hb
      refine Ev.bind hb (Ev.pos ⟨by omega, by omega⟩ (Ev.bind hX ?_))
      have := ih (!X p)
      rw [List.any_cons, Bool.false_or]
      exact this
theorem rw_le_ev : ∀ (d S : Nat), S < 2 ^ n → leftN' n S < d → Ev (fun k => impl_ReverseWon.le k n ring g d (S : Int)) (Wd g n ring d S)
  | 0, _, _, h => absurd h (by omega)
  | d + 1, S, hS, h => by
    have h32 : 2 ^ n < 2 ^ 32 := Nat.pow_lt_pow_right (by omega) (by omega)
    have hm := impl_moves_ev h2 (by omega) hg (ring := ring) (F := freeS S) (S := S) (by omega) (fun q _ => by unfold freeS; simp)
    have hlen := listN_len (moveB g (freeS S) n ring) n
    simp only [impl_ReverseWon.le]
    refine Ev.bind hm (Ev.pos (by omega) ?_)
    refine rw_lo_ev h2 h12 hg hS (X := fun p => Wd g n ring d (nextN g n S p.toNat)) _ _ fun p hp => ⟨hp, ?_⟩
    obtain ⟨hx0, hx1, hx2, hx3, hx4⟩ := mem_moves hg hp
    have := left_lt g hx1 hx3
    exact rw_le_ev d _ (next_lt g hS hx1) (by omega)
end
def biI (b : Bool) : Int := if b = true then 1 else 0
theorem or_i64 (a b : Nat) (ha : a < 4294967296) (hb : b < 4294967296) : Go.bits .or .i64 (a : Int) (b : Int) = ((a ||| b : Nat) : Int) :=
  (bits_nat .i64 32 (by decide) (fun n h h' => by rw [IntKind.wrap_i64]; omega) a b ha hb).2
section
variable {n : Nat} {ring : Bool} (h2 : 2 ≤ n) (h12 : n ≤ 12) {g : Int} (hg : g = 1 ∨ g = 2) {t0 : List Int}
include h2 h12 hg
theorem tw_l2_ev {c : Nat} {tab ms : List Int} (hc : c < 2 ^ n) (hl : tab.length = 2 ^ n) {X : Int → Bool} (hms : ∀ p ∈ ms, p ∈ movesN g n ring c ∧ rd tab ((nextN g n c p.toNat : Nat) : Int) = biI (X p)) (hml : ms.length ≤ 12) {r : List Int} :
    ∀ d i b, i + d = ms.length → Ev (fun k => spec_l11Table.l0 k g (tab.set c (biI (b || (ms.drop i).any fun p => !X p))) ((c : Int) - 1) n ring t0) r → Ev (fun k => spec_l11Table.l2 k g (tab.set c (biI b)) (c : Int) ms (i : Int) n ring t0) r
  | 0, i, b, hi, h => by
    have hp12 : 2 ^ n ≤ 2 ^ 12 := Nat.pow_le_pow_right (by omega) h12
    refine Ev.succ ?_
    simp only [spec_l11Table.l2]
    refine Ev.neg (by omega) ?_
    rw [List.drop_eq_nil_of_le (by omega), List.any_nil, Bool.or_false] at h
    rw [wrap_id (by omega) (by omega)]
    exact h
  | d + 1, i, b, hi, h => by
    have hp12 : 2 ^ n ≤ 2 ^ 12 := Nat.pow_le_pow_right (by omega) h12
    have ih := tw_l2_ev (c := c) (tab := tab) (ms := ms) hc hl (X := X) hms hml (r := r) d (i + 1)
    have hm := hms (ms[i]'(by omega)) (List.getElem_mem _)
    obtain ⟨hx0, hx1, hx2, hx3, hx4⟩ := mem_moves hg hm.1
    have hnx := next_lt g hc hx1
    have hne : nextN g n c (ms[i]'(by omega)).toNat ≠ c := fun e => by
      have := next_bit g n c (ms[i]'(by omega)).toNat
      rw [e] at this
      unfold freeS at hx3
      rw [this] at hx3
      exact absurd hx3 (by simp)
    rw [List.drop_eq_getElem_cons (show i < ms.length from by omega), List.any_cons, ← Bool.or_assoc] at h
    have hrd : rd (tab.set c (biI b)) ((nextN g n c (ms[i]'(by omega)).toNat : Nat) : Int) = biI (X (ms[i]'(by omega))) := by
      rw [← hm.2, rd_nat, rd_nat]
      simp only [List.getD, List.getElem?_set, if_neg (show ¬ c = nextN g n c (ms[i]'(by omega)).toNat from fun e => hne e.symm)]
    refine Ev.succ ?_
    simp only [spec_l11Table.l2]
    refine Ev.pos (by omega) (Ev.pos (by omega) ?_)
    rw [rd_get ms i (by omega), wrap_one (n := ms.length) (by omega) (by omega)]
    generalize ms[i]'(by omega) = p at *
    refine Ev.pos (by omega) ?_
    have tail : Ev (fun k => if rd (tab.set c (biI b)) ((nextN g n c p.toNat : Nat) : Int) = 0 then (if 0 ≤ (c : Int) then (if (c : Int) < ((tab.set c (biI b)).length : Int) then (spec_l11Table.l2 k g ((tab.set c (biI b)).set (c : Int).toNat 1) (c : Int) ms ((i + 1 : Nat) : Int) n ring t0) else none) else none) else (spec_l11Table.l2 k g (tab.set c (biI b)) (c : Int) ms ((i + 1 : Nat) : Int) n ring t0)) r := by
      rw [hrd]
      cases e : X p with
      | true =>
        rw [e] at h
        rw [Bool.not_true, Bool.or_false] at h
        exact Ev.neg (by simp [biI]) (ih b (by omega) h)
      | false =>
        rw [e] at h
        rw [Bool.not_false, Bool.or_true] at h
        refine Ev.pos (by simp [biI]) (Ev.pos (by omega) (Ev.pos (by rw [List.length_set]; omega) ?_))
        rw [Int.toNat_natCast, List.set_set]
        exact ih true (by omega) h
    have hp2 : 2 ^ p.toNat < 4294967296 := Nat.pow_lt_pow_right (a := 2) (n := 32) (by omega) (by omega)
    have e1 : shl .i64 1 p = ((2 ^ p.toNat : Nat) : Int) := by
      have := shl_one64 p.toNat (by omega)
      rw [← hx2] at this
      exact this
    by_cases hg2 : g = 2
    · have hq : (p.toNat + 1) % n < n := Nat.mod_lt _ (by omega)
      have hq2 : 2 ^ ((p.toNat + 1) % n) < 4294967296 := Nat.pow_lt_pow_right (a := 2) (n := 32) (by omega) (by omega)
      have et : Int.tmod (wrap64 (p + 1)) (n : Int) = (((p.toNat + 1) % n : Nat) : Int) := by
        rw [show p = ((p.toNat : Nat) : Int) from hx2]
        simpa using next_tmod p.toNat n hx1 (by omega)
      have hor : c ||| 2 ^ p.toNat < 4294967296 := Nat.or_lt_two_pow (n := 32) (by omega) hp2
      have en : Go.bits .or .i64 (Go.bits .or .i64 (c : Int) (shl .i64 1 p)) (shl .i64 1 (Int.tmod (wrap64 (p + 1)) (n : Int))) = ((nextN g n c p.toNat : Nat) : Int) := by
        rw [e1, et, shl_one64 _ (by omega), or_i64 _ _ (by omega) hp2, or_i64 _ _ hor hq2]
        unfold nextN maskN
        rw [if_neg (by omega), Nat.or_assoc]
      refine Ev.pos hg2 (Ev.neg (by omega) ?_)
      rw [en, et]
      exact Ev.pos (by omega) (Ev.pos (by omega) (Ev.pos (by rw [List.length_set]; omega) tail))
    · have en : Go.bits .or .i64 (c : Int) (shl .i64 1 p) = ((nextN g n c p.toNat : Nat) : Int) := by
        rw [e1, or_i64 _ _ (by omega) hp2]
        unfold nextN maskN
        rw [if_pos (by omega)]
      refine Ev.neg hg2 ?_
      rw [en]
      exact Ev.pos (by omega) (Ev.pos (by rw [List.length_set]; omega) tail)
theorem tw_l1_ev {c : Nat} {tab : List Int} (hc : c < 2 ^ n) (hl : tab.length = 2 ^ n) (h0 : tab.getD c 0 = 0) {r : List Int}
    (h : Ev (fun k => spec_l11Table.l2 k g (tab.set c (biI (decide ((movesN g n ring c).length = 0)))) (c : Int) (movesN g n ring c) 0 n ring t0) r) :
    ∀ d j, j + d = n → Ev (fun k => spec_l11Table.l1 k g tab (c : Int) (j : Int) n ring t0 n ring (listN (fun p => c.testBit p) j)) r
  | 0, j, hj => by
    have hp12 : 2 ^ n ≤ 2 ^ 12 := Nat.pow_le_pow_right (by omega) h12
    have e : j = n := by omega
    subst e
    have hlen := listN_len (fun p => c.testBit p) j
    have hm := spec_moves_ev h2 (by omega) hg (ring := ring) (F := freeS c) (t := listN (fun p => c.testBit p) j) (by omega) (fun p hp => by
      unfold freeS
      rw [Bool.not_not, Bool.eq_iff_iff, decide_eq_true_eq, mem_listN]
      constructor
      · rintro ⟨q, hq, hb, e⟩
        have : q = p := by omega
        exact this ▸ hb
      · exact fun hb => ⟨p, hp, hb, rfl⟩)
    refine Ev.succ ?_
    simp only [spec_l11Table.l1]
    refine Ev.neg (by omega) (Ev.bind hm ?_)
    by_cases g0 : (movesN g j ring c).length = 0
    · rw [decide_eq_true g0] at h
      refine Ev.pos (by unfold movesN at g0; omega) (Ev.pos (by omega) (Ev.pos (by omega) ?_))
      refine Ev.succ ?_
      simp only [spec_l11Table.j2]
      rw [Int.toNat_natCast]
      exact h
    · rw [decide_eq_false g0] at h
      refine Ev.neg (by unfold movesN at g0; omega) ?_
      refine Ev.succ ?_
      simp only [spec_l11Table.j2]
      have e : tab.set c (biI false) = tab := by
        have hg : tab[c]'(by omega) = 0 := by
          have := h0
          simpa [List.getD, show c < tab.length from by omega] using this
        refine List.ext_getElem? fun i => ?_
        by_cases gi : c = i
        · subst gi
          rw [List.getElem?_set_self (by omega), List.getElem?_eq_getElem (by omega), hg]
          rfl
        · rw [List.getElem?_set_ne gi]
      rw [e] at h
      exact h
  | d + 1, j, hj => by
    have hp12 : 2 ^ n ≤ 2 ^ 12 := Nat.pow_le_pow_right (by omega) h12
    have ih := tw_l1_ev (tab := tab) hc hl h0 h d (j + 1) (by omega)
    have hlen := listN_len (fun p => c.testBit p) j
    rw [listN_succ] at ih
    refine Ev.succ ?_
    simp only [spec_l11Table.l1]
    refine Ev.pos (by omega) (Ev.pos (by omega) ?_)
    rw [wrap_one (n := n) (by omega) (by omega)]
    by_cases gb : c.testBit j = true
    · rw [if_pos gb] at ih
      exact Ev.pos ((bit_of c j (by omega) (by omega)).2 gb) (Ev.pos (by omega) ih)
    · rw [if_neg gb] at ih
      exact Ev.neg (fun e => gb ((bit_of c j (by omega) (by omega)).1 e)) ih
theorem tw_l0_ev : ∀ (c : Nat) (tab : List Int), c ≤ 2 ^ n → tab.length = 2 ^ n → (∀ i, i < c → tab.getD i 0 = 0) → (∀ i, c ≤ i → i < 2 ^ n → tab.getD i 0 = biI (Wd g n ring 13 i)) →
    ∃ tab', Ev (fun k => spec_l11Table.l0 k g tab ((c : Int) - 1) n ring t0) tab' ∧ tab'.length = 2 ^ n ∧ ∀ i, i < 2 ^ n → tab'.getD i 0 = biI (Wd g n ring 13 i)
  | 0, tab, _, hl, _, hg' => ⟨tab, by
      refine Ev.succ ?_
      simp only [spec_l11Table.l0]
      exact Ev.neg (by omega) (Ev.now _), hl, fun i hi => hg' i (Nat.zero_le _) hi⟩
  | c + 1, tab, hc, hl, hz, hg' => by
    have hp12 : 2 ^ n ≤ 2 ^ 12 := Nat.pow_le_pow_right (by omega) h12
    have hlen := listN_len (moveB g (freeS c) n ring) n
    have hgt : ∀ p ∈ movesN g n ring c, c < nextN g n c p.toNat ∧ nextN g n c p.toNat < 2 ^ n ∧ Wd g n ring 12 (nextN g n c p.toNat) = Wd g n ring 13 (nextN g n c p.toNat) := fun p hp => by
      obtain ⟨hx0, hx1, hx2, hx3, hx4⟩ := mem_moves hg hp
      have h1 := left_lt g hx1 hx3
      have h3 := left_le n c
      have hle : c ≤ nextN g n c p.toNat := Nat.left_le_or
      have hne : nextN g n c p.toNat ≠ c := fun e => by
        have := next_bit g n c p.toNat
        rw [e] at this
        unfold freeS at hx3
        rw [this] at hx3
        exact absurd hx3 (by simp)
      exact ⟨by omega, next_lt g (by omega) hx1, Wd_same hg n ring 12 13 _ (by omega) (by omega)⟩
    have hW : Wd g n ring 13 c = (decide ((movesN g n ring c).length = 0) || (movesN g n ring c).any fun p => !Wd g n ring 13 (nextN g n c p.toNat)) := by
      rw [Wd]
      refine congrArg (decide ((movesN g n ring c).length = 0) || ·) (any_congr' fun x hx => ?_)
      rw [(hgt x hx).2.2]
    obtain ⟨tab', e, h1, h3⟩ := tw_l0_ev c (tab.set c (biI (Wd g n ring 13 c))) (by omega) (by rw [List.length_set, hl]) (fun i hi => by
      have := hz i (by omega)
      simp only [List.getD, List.getElem?_set, if_neg (show ¬ c = i from by omega)] at this ⊢
      exact this) (fun i hi hi2 => by
      by_cases gi : i = c
      · subst gi
        simp [List.getD, List.getElem?_set, show i < tab.length from by omega]
      · have := hg' i (by omega) hi2
        simp only [List.getD, List.getElem?_set, if_neg (show ¬ c = i from fun h => gi h.symm)] at this ⊢
        exact this)
    refine ⟨tab', ?_, h1, h3⟩
    rw [show ((c + 1 : Nat) : Int) - 1 = (c : Int) from by omega]
    refine Ev.succ ?_
    simp only [spec_l11Table.l0]
    refine Ev.pos (by omega) ?_
    rw [spec_l2Made.f]
    refine Ev.have rfl ?_
    refine tw_l1_ev h2 h12 hg (by omega) hl (hz c (by omega)) ?_ _ 0 (Nat.zero_add _)
    refine tw_l2_ev h2 h12 hg (by omega) hl (X := fun p => Wd g n ring 13 (nextN g n c p.toNat)) (fun p hp => ⟨hp, ?_⟩) (by unfold movesN; omega) _ 0 _ (Nat.zero_add _) ?_
    · rw [rd_nat]
      exact hg' _ (by have := hgt p hp; omega) (hgt p hp).2.1
    · rw [List.drop_zero, ← hW]
      exact e
end

/-! ### laws_toIntS -/
theorem laws_toIntS_l0 (l : List Int) (hl : l.length ≤ 1048576) (d : Nat) : ∀ (k i : Nat) (x : List Int), x.length = l.length → i ≤ l.length → l.length - i = d → d < k → (∀ j (h : j < i) (h' : j < x.length) (h'' : j < l.length), x[j] = l[j]) → laws_toIntS.l0 k l x i = some l := by
  induction d with
  | zero =>
    intro k i x hx hi hd hk hp
    obtain ⟨k, rfl, _⟩ := fuel hk
    simp only [laws_toIntS.l0]
    rw [if_neg (by omega)]
    refine congrArg some ?_
    apply List.ext_getElem hx
    intro j h1 h2
    exact hp j (by omega) h1 h2
  | succ d ih =>
    intro k i x hx hi hd hk hp
    obtain ⟨k, rfl, _⟩ := fuel hk
    simp only [laws_toIntS.l0]
    rw [if_pos (by omega), if_pos (by omega), if_pos (by omega), wrap_one (n := l.length) (by omega) (by omega)]
    rw [rd_get l i (by omega), Int.toNat_natCast, ih k (i + 1) _ (by simp [hx]) (by omega) (by omega) (by omega)]
    intro j h h' h''
    rw [List.getElem_set]
    split
    · rename_i e
      subst e
      rfl
    · rename_i e
      exact hp j (by omega) (by simpa using h') h''
theorem laws_toIntS_eq (l : List Int) (hl : l.length ≤ 1048576) (k : Nat) (hk : l.length < k) : laws_toIntS.f k l = some l := by
  unfold laws_toIntS.f
  rw [if_pos (by omega), if_pos (by omega)]
  exact laws_toIntS_l0 l hl l.length k 0 _ (by simp) (by omega) (by omega) hk (fun j h => by omega)

/-! ### laws_eqIntS -/
theorem laws_eqIntS_l0 (a b : List Int) (hl : a.length ≤ 1048576) (he : a.length = b.length) (d : Nat) : ∀ (k i : Nat), i ≤ a.length → a.length - i = d → d < k → laws_eqIntS.l0 k a b i = some (decide (a.drop i = b.drop i)) := by
  induction d with
  | zero =>
    intro k i hi hd hk
    obtain ⟨k, rfl, _⟩ := fuel hk
    simp only [laws_eqIntS.l0]
    rw [if_neg (by omega), List.drop_eq_nil_of_le (by omega), List.drop_eq_nil_of_le (by omega)]
    simp
  | succ d ih =>
    intro k i hi hd hk
    obtain ⟨k, rfl, _⟩ := fuel hk
    simp only [laws_eqIntS.l0]
    rw [if_pos (by omega), if_pos (by omega), if_pos (by omega), wrap_one (n := a.length) (by omega) (by omega), rd_get a i (by omega), rd_get b i (by omega), ih k (i + 1) (by omega) (by omega) (by omega)]
    rw [List.drop_eq_getElem_cons (l := a) (i := i) (by omega), List.drop_eq_getElem_cons (l := b) (i := i) (by omega)]
    by_cases h : a[i]'(by omega) = b[i]'(by omega)
    · rw [if_pos h]
      refine congrArg some ?_
      rw [decide_eq_decide, List.cons.injEq]
      exact ⟨fun e => ⟨h, e⟩, fun e => e.2⟩
    · rw [if_neg h]
      refine congrArg some ?_
      symm
      rw [decide_eq_false_iff_not, List.cons.injEq]
      exact fun e => h e.1
theorem laws_eqIntS_eq (a b : List Int) (hl : a.length ≤ 1048576) (k : Nat) (hk : a.length < k) : laws_eqIntS.f k a b = some (decide (a = b)) := by
  unfold laws_eqIntS.f
  by_cases h : a.length = b.length
  · rw [if_pos (by omega)]
    have := laws_eqIntS_l0 a b hl h a.length k 0 (by omega) (by omega) hk
    simpa using this
  · rw [if_neg (by omega)]
    refine congrArg some ?_
    symm
    rw [decide_eq_false_iff_not]
    intro e
    exact h (by rw [e])
theorem laws_eqIntS_self (a : List Int) (hl : a.length ≤ 1048576) (k : Nat) (hk : a.length < k) : laws_eqIntS.f k a a = some true := by
  rw [laws_eqIntS_eq a a hl k hk]
  simp

/-! ### ev_laws -/
theorem laws_toIntS_ev (l : List Int) (hl : l.length ≤ 1048576) : Ev (fun k => laws_toIntS.f k l) l := Ev.bound l.length fun k hk => laws_toIntS_eq l hl k hk
theorem laws_eqIntS_ev (l : List Int) (hl : l.length ≤ 1048576) : Ev (fun k => laws_eqIntS.f k l l) true := Ev.bound l.length fun k hk => laws_eqIntS_self l hl k hk

/-! ### ev_row -/
theorem laws_szRow_eq (s : Int) (b : Bool) (t : List Int) (m : Nat) (hm : m ≤ 1048576) (ht : t.length ≤ maxLen) : laws_szRow.f s b t (m : Int) = some (if t.length ≤ m then ((m - t.length : Nat) : Int) else -1) := by
  have hmax : t.length ≤ 9223372036854775807 := ht
  unfold laws_szRow.f laws_szIntS.f
  rw [wrap_id (by omega) (by omega)]
  by_cases h : t.length ≤ m
  · rw [if_neg (by omega), Option.bind_some, if_neg (by omega), if_pos h]
    refine congrArg some ?_
    omega
  · rw [if_pos (by omega), Option.bind_some, if_pos (by omega), if_neg h]
theorem laws_toRow_ev (s : Int) (b : Bool) (t : List Int) (ht : t.length ≤ 1048576) : Ev (fun k => laws_toRow.f k s b t) (s, b, t) := by
  unfold laws_toRow.f
  exact Ev.bind (laws_toIntS_ev t ht) (Ev.now _)
theorem laws_eqRow_ev (s : Int) (b : Bool) (t : List Int) (ht : t.length ≤ 1048576) : Ev (fun k => laws_eqRow.f k s b t s b t) true := by
  unfold laws_eqRow.f
  refine Ev.pos rfl (Ev.neg (by simp) ?_)
  exact Ev.bind (laws_eqIntS_ev t ht) (Ev.pos rfl (Ev.now _))

/-! ### law_FnExactReverseWon -/
open Classical in
theorem four_ev (s : Int) (ring : Bool) (t : List Int) (ht : t.length ≤ 1048576) : Ev (fun k => spec_l4Row.f k s ring t) (decide (RowOK s ring t ∧ s ≤ 12)) := by
  unfold spec_l4Row.f
  refine Ev.bind (spec_row_ev s ring t ht) ?_
  by_cases h : RowOK s ring t
  · refine Ev.pos (decide_eq_true h) ?_
    refine Ev.same (Ev.now _) ?_
    by_cases g : s ≤ 12
    · rw [decide_eq_true (by omega), decide_eq_true ⟨h, g⟩]
    · rw [decide_eq_false (by omega), decide_eq_false (fun e => g e.2)]
  · refine Ev.neg (by rw [decide_eq_true_eq]; exact h) ?_
    rw [decide_eq_false (fun e => h e.1)]
    exact Ev.now _
/-- The code of a row is its set. -/
theorem code_ev {n : Nat} {ring : Bool} {g : Int} (h2 : 2 ≤ n) (h12 : n ≤ 12) (hg : g = 1 ∨ g = 2) (t : List Int) (ht : t.length ≤ 24) (hb : ∀ x ∈ t, 0 ≤ x ∧ x < n) {r : Bool × Bool} (h : Ev (fun k => (spec_l11Table.f k n ring t g).bind fun tab => (if 0 ≤ ((setN t : Nat) : Int) then (if ((setN t : Nat) : Int) < (tab.length : Int) then (some (((rd tab ((setN t : Nat) : Int)) == 1), true)) else (none)) else (none))) r) :
    ∀ d i (S : Nat), i + d = t.length → S = (t.take i).foldl (fun s p => s ||| 2 ^ p.toNat) 0 → S < 4096 → Ev (fun k => spec_ReverseWon.l0 k g (S : Int) (i : Int) n ring t) r
  | 0, i, S, hi, hS, _ => by
    refine Ev.succ ?_
    simp only [spec_ReverseWon.l0]
    refine Ev.neg (by omega) ?_
    rw [List.take_of_length_le (by omega)] at hS
    rw [show S = setN t from hS]
    exact h
  | d + 1, i, S, hi, hS, hlt => by
    have hx := hb (t[i]'(by omega)) (List.getElem_mem _)
    have hp : 2 ^ (t[i]'(by omega)).toNat < 2 ^ 12 := Nat.pow_lt_pow_right (by omega) (by omega)
    refine Ev.succ ?_
    simp only [spec_ReverseWon.l0]
    refine Ev.pos (by omega) (Ev.pos (by omega) ?_)
    rw [rd_get t i (by omega), wrap_one (n := t.length) (by omega) (by omega)]
    refine Ev.pos (by omega) ?_
    have e1 : shl .i64 1 (t[i]'(by omega)) = ((2 ^ (t[i]'(by omega)).toNat : Nat) : Int) := by
      have := shl_one64 (t[i]'(by omega)).toNat (by omega)
      rw [show (((t[i]'(by omega)).toNat : Nat) : Int) = t[i]'(by omega) from by omega] at this
      exact this
    rw [e1, or_i64 _ _ (by omega) (by omega)]
    refine code_ev h2 h12 hg t ht hb h d (i + 1) _ (by omega) ?_ (Nat.or_lt_two_pow (n := 12) hlt hp)
    rw [List.take_succ_eq_append_getElem (show i < t.length from by omega), List.foldl_append, ← hS]
    rfl
open Classical in
theorem reverse_both (s : Int) (ring : Bool) (t : List Int) (ht : t.length ≤ 1048576) (g : Int) : ∃ (a b : Bool), Ev (fun k => spec_ReverseWon.f k s ring t g) (a, b) ∧ Ev (fun k => impl_ReverseWon.f k s ring t g) (a, b) := by
  by_cases h : (RowOK s ring t ∧ s ≤ 12) ∧ (1 ≤ g ∧ g ≤ 2)
  · obtain ⟨n, rfl, h2, h24, h3, hin⟩ := row_facts h.1.1
    have h12 : n ≤ 12 := by omega
    have hg : g = 1 ∨ g = 2 := by omega
    have hl := row_len _ ring t h.1.1
    have hp12 : 2 ^ n ≤ 2 ^ 12 := Nat.pow_le_pow_right (by omega) h12
    have hp0 : 0 < 2 ^ n := Nat.two_pow_pos n
    have hlt : setN t < 2 ^ n := by
      refine Nat.lt_pow_two_of_testBit _ fun i hi => ?_
      rw [testBit_setN, decide_eq_false_iff_not]
      rintro ⟨p, hp, e⟩
      have := hin p hp
      omega
    have hleft := left_le n (setN t)
    obtain ⟨tab, e, h1, h4⟩ := tw_l0_ev h2 h12 hg (ring := ring) (t0 := t) (2 ^ n) (List.replicate (2 ^ n) 0) (Nat.le_refl _) (by simp) (fun i hi => by rw [List.getD, List.getElem?_replicate, if_pos (by omega)]; rfl) (fun i hi hi2 => absurd hi2 (by omega))
    refine ⟨Wd g n ring 13 (setN t), true, ?_, ?_⟩
    · unfold spec_ReverseWon.f
      refine Ev.bind (four_ev n ring t ht) (Ev.pos (decide_eq_true h.1) (Ev.have (game_iff g) ?_))
      refine Ev.succ ?_
      simp only [spec_ReverseWon.j0]
      refine Ev.neg (by rw [decide_eq_true h.2]; simp) ?_
      refine code_ev (n := n) h2 h12 hg t hl (fun x hx => by have := hin x hx; omega) ?_ t.length 0 0 (Nat.zero_add _) rfl (by omega)
      unfold spec_l11Table.f
      rw [shl_one64 n (by omega), Int.toNat_natCast]
      refine Ev.bind (Ev.pos (by omega) (Ev.pos (by omega) (Ev.pos (by omega) (Ev.have rfl ?_)))) (Ev.pos (by omega) (Ev.pos (by rw [h1]; omega) ?_))
      · rw [List.length_replicate, wrap_id (by omega) (by omega)]
        exact e
      · refine Ev.same (Ev.now _) (Prod.ext ?_ rfl)
        show (rd tab ((setN t : Nat) : Int) == 1) = _
        rw [rd_nat, h4 _ hlt]
        cases Wd g n ring 13 (setN t) <;> rfl
    · unfold impl_ReverseWon.f
      refine Ev.bind (impl_isGame_ev n ring t ht g) (Ev.pos (decide_eq_true ⟨h.1.1, h.2.1, h.2.2⟩) (Ev.neg (by omega) ?_))
      refine Ev.bind (Ev.bound t.length fun k hk => impl_taken_eq n ring t h.1.1 k hk) (Ev.pos ⟨by omega, by omega⟩ ?_)
      exact Ev.bind (rw_le_ev h2 h12 hg 13 (setN t) hlt (by omega)) (Ev.now _)
  · refine ⟨false, false, ?_, ?_⟩
    · unfold spec_ReverseWon.f
      refine Ev.bind (four_ev s ring t ht) ?_
      by_cases g1 : RowOK s ring t ∧ s ≤ 12
      · refine Ev.pos (decide_eq_true g1) (Ev.have (game_iff g) ?_)
        refine Ev.succ ?_
        simp only [spec_ReverseWon.j0]
        refine Ev.pos ?_ (Ev.now _)
        rw [decide_eq_false (fun e => h ⟨g1, e⟩)]
        rfl
      · refine Ev.neg (by rw [decide_eq_true_eq]; exact g1) ?_
        refine Ev.succ ?_
        simp only [spec_ReverseWon.j0]
        exact Ev.pos True.intro (Ev.now _)
    · unfold impl_ReverseWon.f
      refine Ev.bind (impl_isGame_ev s ring t ht g) ?_
      by_cases g1 : RowOK s ring t ∧ 1 ≤ g ∧ g ≤ 2
      · refine Ev.pos (decide_eq_true g1) (Ev.pos ?_ (Ev.now _))
        have : ¬ s ≤ 12 := fun e => h ⟨⟨g1.1, e⟩, g1.2⟩
        omega
      · exact Ev.neg (by rw [decide_eq_true_eq]; exact g1) (Ev.now _)
theorem FnExactReverseWon : ∀ (a0_0 : Int) (a0_1 : Bool) (a0_2 : List Int) (a1 : Int), (Lit.int .i64 a0_0).wf = true → a0_2.length ≤ maxLen → (∀ x ∈ a0_2, (Lit.int .i64 x).wf = true) → (Lit.int .i64 a1).wf = true → ∃ k, laws_FnExactReverseWon.f k a0_0 a0_1 a0_2 a1 = some true := by
  intro s ring t g _ ht _ _
  refine Ev.rounds ?_
  unfold laws_FnExactReverseWon.f
  by_cases h2 : t.length ≤ 1048576
  · obtain ⟨a, b, e1, e2⟩ := reverse_both s ring t h2 g
    refine Ev.have (laws_szRow_eq s ring t 1048576 (by omega) ht) ?_
    rw [if_pos h2]
    repeat' (first
      | exact Ev.now _
      | (refine Ev.bind e1 ?_; (try dsimp only))
      | (refine Ev.bind e2 ?_; (try dsimp only))
      | (refine Ev.bind (laws_toIntS_ev _ (by omega)) ?_; (try dsimp only))
      | (refine Ev.bind (laws_eqIntS_ev _ (by omega)) ?_; (try dsimp only))
      | (refine Ev.bind (laws_toRow_ev _ _ _ (by omega)) ?_; (try dsimp only))
      | (refine Ev.bind (laws_eqRow_ev _ _ _ (by omega)) ?_; (try dsimp only))
      | (refine Ev.have (laws_szRow_eq _ _ _ 1048576 (by omega) (by assumption)) ?_; (try dsimp only))
      | (refine Ev.pos rfl ?_; (try dsimp only))
      | (refine Ev.neg (by omega) ?_; (try dsimp only))
      | (refine Ev.pos (by omega) ?_; (try dsimp only))
      | (refine Ev.neg (bne_self _) ?_; (try dsimp only))
      | (refine Ev.neg Bool.false_ne_true ?_; (try dsimp only))
      | (refine Ev.neg (fun h => h) ?_; (try dsimp only))
      | (refine Ev.pos True.intro ?_; (try dsimp only))
      | (refine Ev.succ ?_; simp only [laws_FnExactReverseWon.j0]))
  · refine Ev.have (laws_szRow_eq s ring t 1048576 (by omega) ht) ?_
    rw [if_neg h2]
    exact Ev.pos (by omega) (Ev.now _)

end Go.Proofs.Ytgcgmlbjklkkjaa.Pure
