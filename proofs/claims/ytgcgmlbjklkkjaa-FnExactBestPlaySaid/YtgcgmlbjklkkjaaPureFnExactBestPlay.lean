/- BestPlay of the program returns what the reference's returns, for every row and every game. No conditions. -/
import Derived.Test.YtgcgmlbjklkkjaaQFnExactBestPlayx
namespace Go.Proofs.Ytgcgmlbjklkkjaa.Pure
open Go.RowKit Go.Proofs.Ytgcgmlbjklkkjaa.QFnExactBestPlay Go.Proofs.YtgcgmlbjklkkjaaW.PrintWords Go.Proofs.YtgcgmlbjklkkjaaW.PrintLast Go.Proofs.YtgcgmlbjklkkjaaW.PrintMore
set_option linter.unusedVariables false
set_option linter.unusedSimpArgs false
theorem tn : type_of% @Int.toNat_natCast := @Int.toNat_natCast
theorem ob : type_of% @Option.bind_some := @Option.bind_some
theorem EB : type_of% @Ev.bind := @Ev.bind
theorem dq : type_of% @decide_eq_true_eq := @decide_eq_true_eq
theorem q03 {x : Int} (h0 : -9223372036854775808 ≤ x) (h1 : x ≤ 9223372036854775807) : wrap64 x = x := by
 unfold wrap64
 omega
theorem q01 {i n : Nat} (h : i < n) (hn : n ≤ 4611686018427387904) : wrap64 ((i : Int) + 1) = ((i + 1 : Nat) : Int) := by
 unfold wrap64
 omega
theorem rd_nat (l : List Int) (i : Nat) : rd l (i : Int) = l.getD i 0 := by unfold rd; simp
theorem q13 (l : List Int) (i : Nat) (h : i < l.length) : rd l (i : Int) = l[i] := by rw [rd_nat]; simp [List.getD, h]
theorem fuel {k d : Nat} (h : d < k) : ∃ m, k = m + 1 ∧ d ≤ m := ⟨k - 1, by omega, by omega⟩
theorem bne_self {α : Type} [BEq α] [LawfulBEq α] (a : α) : ¬ (a != a) = true := by simp
theorem ES {α : Type} {g : Nat → Option α} {r : α} (h : Ev (fun k => g (k + 1)) r) : Ev g r := by
 obtain ⟨K, h⟩ := h
 refine ⟨K + 1, fun k hk => ?_⟩
 obtain ⟨k, rfl, hk'⟩ := fuel (show K < k by omega)
 exact h k hk'
theorem EP {α : Type} {g f : Nat → Option α} {r : α} {c : Prop} [Decidable c] (hc : c) (h : Ev g r) : Ev (fun k => if c then g k else f k) r := by
 obtain ⟨K, h⟩ := h
 exact ⟨K, fun k hk => by show (if c then g k else f k) = some r; rw [if_pos hc]; exact h k hk⟩
theorem EN {α : Type} {g f : Nat → Option α} {r : α} {c : Prop} [Decidable c] (hc : ¬ c) (h : Ev f r) : Ev (fun k => if c then g k else f k) r := by
 obtain ⟨K, h⟩ := h
 exact ⟨K, fun k hk => by show (if c then g k else f k) = some r; rw [if_neg hc]; exact h k hk⟩
theorem EH {α β : Type} {x : Option α} {a : α} {f : Nat → α → Option β} {r : β} (e : x = some a) (h : Ev (fun k => f k a) r) : Ev (fun k => x.bind (f k)) r := by
 obtain ⟨K, h⟩ := h
 exact ⟨K, fun k hk => by show x.bind (f k) = some r; rw [e, ob]; exact h k hk⟩
theorem Ev.bound {α : Type} {g : Nat → Option α} {r : α} (K : Nat) (h : ∀ k, K < k → g k = some r) : Ev g r := ⟨K + 1, fun k hk => h k (by omega)⟩
theorem Ev.same {α : Type} {g : Nat → Option α} {r r' : α} (h : Ev g r) (e : r = r') : Ev g r' := e ▸ h
theorem spec_l1Has_l0 (l : List Int) (n : Int) (hl : l.length ≤ 1048576) (d : Nat) : ∀ (k i : Nat), i ≤ l.length → l.length - i = d → d < k → spec_l1Has.l0 k l n i = some (decide (n ∈ l.drop i)) := by
 induction d with
 | zero =>
  intro k i hi hd hk
  obtain ⟨k, rfl, _⟩ := fuel hk
  simp only [spec_l1Has.l0]
  rw [if_neg (by omega), List.drop_eq_nil_of_le (by omega)]
  simp
 | succ d ih =>
  intro k i hi hd hk
  obtain ⟨k, rfl, _⟩ := fuel hk
  simp only [spec_l1Has.l0]
  rw [if_pos (by omega), if_pos (by omega), q01 (n := l.length) (by omega) (by omega), q13 l i (by omega), ih k (i + 1) (by omega) (by omega) (by omega)]
  rw [List.drop_eq_getElem_cons (l := l) (i := i) (by omega)]
  by_cases h : l[i]'(by omega) = n
  ·rw [if_pos h, h]
   simp
  ·rw [if_neg h]
   refine congrArg some ?_
   rw [decide_eq_decide, List.mem_cons]
   exact ⟨.inr, fun e => e.resolve_left fun e => h e.symm⟩
theorem q24 (l : List Int) (n : Int) (hl : l.length ≤ 1048576) (k : Nat) (hk : l.length < k) : spec_l1Has.f k l n = some (decide (n ∈ l)) := by
 have := spec_l1Has_l0 l n hl l.length k 0 (by omega) (by omega) hk
 exact this
theorem q08 (s : Int) (ring : Bool) (t : List Int) (p : Int) (ht : t.length ≤ 1048576) : Ev (fun k => spec_l2Is.f k s ring t p) (decide (p ∈ t)) :=
 Ev.bound t.length fun k hk => by
  unfold spec_l2Is.f
  rw [q24 t p ht k hk, ob]
def setN (l : List Int) : Nat := l.foldl (fun s p => s ||| 2 ^ p.toNat) 0
theorem testBit_foldl (l : List Int) : ∀ (s i : Nat), (l.foldl (fun s p => s ||| 2 ^ p.toNat) s).testBit i = (s.testBit i || decide (∃ p ∈ l, p.toNat = i)) := by
 induction l with
 | nil => intro s i; simp
 | cons a l ih =>
  intro s i
  rw [List.foldl_cons, ih, Nat.testBit_or, Nat.testBit_two_pow, Bool.or_assoc]
  congr 1
  rw [Bool.eq_iff_iff]
  simp
theorem q29 (l : List Int) (i : Nat) : (setN l).testBit i = decide (∃ p ∈ l, p.toNat = i) := by
 unfold setN
 rw [testBit_foldl]
 simp
theorem foldl_lt (l : List Int) (n : Nat) (hl : ∀ p ∈ l, p < n) (hn : 0 < n) : ∀ s, s < 2 ^ n → l.foldl (fun s p => s ||| 2 ^ p.toNat) s < 2 ^ n := by
 induction l with
 | nil => intro s h; exact h
 | cons a l ih =>
  intro s h
  rw [List.foldl_cons]
  have := hl a (by simp)
  exact ih (fun p hp => hl p (by simp [hp])) _ (Nat.or_lt_two_pow h (Nat.pow_lt_pow_right (by omega) (by omega)))
theorem setN_lt (l : List Int) (n : Nat) (hl : ∀ p ∈ l, p < n) (hn : 0 < n) : setN l < 2 ^ n := foldl_lt l n hl hn 0 (Nat.two_pow_pos n)
theorem setN_u32 (l : List Int) (hl : ∀ p ∈ l, p < 32) : setN l < 4294967296 := setN_lt l 32 hl (by omega)
theorem or_cast (a b : Nat) (ha : a < 4294967296) (hb : b < 4294967296) : Go.bits .or .u32 (a : Int) (b : Int) = ((a ||| b : Nat) : Int) :=
 (bits_nat .u32 32 (by decide) (fun n h h' => by rw [IntKind.wrap_u32]; omega) a b ha hb).2
theorem and_cast (a b : Nat) (ha : a < 4294967296) (hb : b < 4294967296) : Go.bits .and .u32 (a : Int) (b : Int) = ((a &&& b : Nat) : Int) :=
 (bits_nat .u32 32 (by decide) (fun n h h' => by rw [IntKind.wrap_u32]; omega) a b ha hb).1
theorem shl_one (p : Int) (h0 : 0 ≤ p) (h1 : p < 32) : shl .u32 1 p = ((2 ^ p.toNat : Nat) : Int) := by
 unfold shl
 rw [Int.one_mul, IntKind.wrap_u32, show min p.toNat IntKind.u32.bits = p.toNat from Nat.min_eq_left (by show p.toNat ≤ 32; omega)]
 have : 2 ^ p.toNat < 2 ^ 32 := Nat.pow_lt_pow_right (by omega) (by omega)
 have e : ((2 ^ p.toNat : Nat) : Int) = (2 : Int) ^ p.toNat := by simp
 rw [← e]
 generalize 2 ^ p.toNat = y at *
 omega
theorem q20 (s p : Nat) (hp : p < 32) (hs : s < 4294967296) : impl_set_has.f (s : Int) (p : Int) = some (s.testBit p) := by
 unfold impl_set_has.f
 rw [if_pos (by omega)]
 refine congrArg some ?_
 have e1 : shr .u32 (s : Int) (p : Int) = ((s / 2 ^ p : Nat) : Int) := by
  unfold shr
  rw [show min (p : Int).toNat IntKind.u32.bits = p from Nat.min_eq_left (by show p ≤ 32; omega)]
  simp
 have e2 : s / 2 ^ p ≤ s := Nat.div_le_self _ _
 rw [e1, show (1 : Int) = ((1 : Nat) : Int) from rfl, and_cast _ _ (by omega) (by omega), Nat.and_one_is_mod, Nat.testBit_eq_decide_div_mod_eq, Bool.eq_iff_iff, beq_iff_eq, dq]
 omega
def andN (a b : Nat) : Nat := a ^^^ (a &&& b)
theorem q16 (a b i : Nat) : (andN a b).testBit i = (a.testBit i && !b.testBit i) := by
 unfold andN
 rw [Nat.testBit_xor, Nat.testBit_and]
 cases a.testBit i <;> cases b.testBit i <;> rfl
theorem lt_of_bits (x n : Nat) (h : ∀ i, n ≤ i → x.testBit i = false) : x < 2 ^ n := Nat.lt_pow_two_of_testBit x h
theorem andN_lt (a b n : Nat) (ha : a < 2 ^ n) : andN a b < 2 ^ n := by
 refine lt_of_bits _ n fun i hi => ?_
 rw [q16, Nat.testBit_lt_two_pow (Nat.lt_of_lt_of_le ha (Nat.pow_le_pow_right (by omega) hi))]
 rfl
theorem andNot_cast (a b : Nat) (ha : a < 4294967296) (hb : b < 4294967296) : Go.bits .andNot .u32 (a : Int) (b : Int) = ((andN a b : Nat) : Int) := by
 have e : (BitVec.ofInt 32 (a : Int) &&& ~~~ BitVec.ofInt 32 (b : Int)).toNat = andN a b := by
  refine Nat.eq_of_testBit_eq fun i => ?_
  rw [q16, BitVec.ofInt_natCast, BitVec.ofInt_natCast]
  show (BitVec.ofNat 32 a &&& ~~~ BitVec.ofNat 32 b).getLsbD i = _
  rw [BitVec.getLsbD_and, BitVec.getLsbD_not, BitVec.getLsbD_ofNat, BitVec.getLsbD_ofNat]
  by_cases h : i < 32
  ·simp [h]
  ·have e1 : a.testBit i = false := Nat.testBit_lt_two_pow (Nat.lt_of_lt_of_le (show a < 2 ^ 32 from ha) (Nat.pow_le_pow_right (by omega) (by omega)))
   simp [h, e1]
 have hl := andN_lt a b 32 ha
 show IntKind.u32.wrap (((BitVec.ofInt 32 (a : Int) &&& ~~~ BitVec.ofInt 32 (b : Int)).toNat : Nat) : Int) = _
 rw [e, IntKind.wrap_u32]
 omega
theorem all_cast (s : Int) (h0 : 0 ≤ s) (h1 : s ≤ 31) : (shl .u32 1 s - 1) % 4294967296 = ((2 ^ s.toNat - 1 : Nat) : Int) := by
 rw [shl_one s h0 (by omega)]
 have : 0 < 2 ^ s.toNat := Nat.two_pow_pos _
 have h2 : 2 ^ s.toNat < 2 ^ 32 := Nat.pow_lt_pow_right (by omega) (by omega)
 generalize 2 ^ s.toNat = y at *
 omega
theorem q23 (n i : Nat) : (2 ^ n - 1).testBit i = decide (i < n) := Nat.testBit_two_pow_sub_one n i
def gapI (n : Nat) (ring : Bool) (p q : Nat) : Int :=
 if ring = true then (if (if (p : Int) - q > (q : Int) - p then (p : Int) - q else (q : Int) - p) < (n : Int) - (if (p : Int) - q > (q : Int) - p then (p : Int) - q else (q : Int) - p) then (if (p : Int) - q > (q : Int) - p then (p : Int) - q else (q : Int) - p) else (n : Int) - (if (p : Int) - q > (q : Int) - p then (p : Int) - q else (q : Int) - p)) else (if (p : Int) - q > (q : Int) - p then (p : Int) - q else (q : Int) - p)
def q15 (n : Nat) (ring : Bool) (p q : Nat) : Bool := decide (gapI n ring p q = 1)
theorem spec_l2Gap_eq (n : Nat) (ring : Bool) (t : List Int) (p q : Nat) (hn : n ≤ 24) (hp : p < n) (hq : q < n) : spec_l2Gap.f (n : Int) ring t (p : Int) (q : Int) = some (gapI n ring p q) := by
 unfold spec_l2Gap.f gapI
 rw [q03 (x := (p : Int) - q) (by omega) (by omega), q03 (x := (q : Int) - p) (by omega) (by omega)]
 have e : spec_l1Most.f ((p : Int) - q) ((q : Int) - p) = some (if (p : Int) - q > (q : Int) - p then (p : Int) - q else (q : Int) - p) := by
  unfold spec_l1Most.f
  split <;> rfl
 rw [e, ob]
 have hb : 0 ≤ (if (p : Int) - q > (q : Int) - p then (p : Int) - q else (q : Int) - p) ∧ (if (p : Int) - q > (q : Int) - p then (p : Int) - q else (q : Int) - p) ≤ 24 := by split <;> omega
 generalize (if (p : Int) - q > (q : Int) - p then (p : Int) - q else (q : Int) - p) = d at hb ⊢
 rw [q03 (by omega) (by omega)]
 cases ring with
 | true =>
  rw [if_pos rfl, if_pos rfl]
  unfold spec_l1Least.f
  split <;> rw [ob]
 | false => rw [if_neg (by simp), if_neg (by simp)]
theorem impl_gap_eq (n : Nat) (ring : Bool) (p q : Nat) (hn : n ≤ 24) (hp : p < n) (hq : q < n) : impl_bench_gap.f (n : Int) ring (p : Int) (q : Int) = some (gapI n ring p q) := by
 unfold impl_bench_gap.f gapI
 rw [q03 (x := (p : Int) - q) (by omega) (by omega), q03 (x := (q : Int) - p) (by omega) (by omega)]
 have e : mx ((p : Int) - q) ((q : Int) - p) = (if (p : Int) - q > (q : Int) - p then (p : Int) - q else (q : Int) - p) := by
  unfold mx
  split <;> split <;> omega
 rw [e]
 have hb : 0 ≤ (if (p : Int) - q > (q : Int) - p then (p : Int) - q else (q : Int) - p) ∧ (if (p : Int) - q > (q : Int) - p then (p : Int) - q else (q : Int) - p) ≤ 24 := by split <;> omega
 generalize (if (p : Int) - q > (q : Int) - p then (p : Int) - q else (q : Int) - p) = d at hb ⊢
 rw [q03 (by omega) (by omega)]
 cases ring with
 | true =>
  rw [if_pos rfl, if_pos rfl]
  refine congrArg some ?_
  unfold mn
  split <;> split <;> omega
 | false => rw [if_neg (by simp), if_neg (by simp)]
def q26 (P : Nat → Bool) : Nat → Nat
 | 0 => 0
 | i + 1 => if P i = true then q26 P i ||| 2 ^ i else q26 P i
theorem q05 (P : Nat → Bool) : ∀ i q, (q26 P i).testBit q = (decide (q < i) && P q)
 | 0, q => by simp [q26]
 | i + 1, q => by
  rw [q26]
  by_cases h : P i = true
  ·rw [if_pos h, Nat.testBit_or, q05 P i q, Nat.testBit_two_pow]
   by_cases e : i = q
   ·subst e; rw [h]; simp
   ·rw [decide_eq_false e, Bool.or_false]
    by_cases g : q < i
    ·rw [decide_eq_true g, decide_eq_true (show q < i + 1 by omega)]
    ·rw [decide_eq_false g, decide_eq_false (show ¬ q < i + 1 by omega)]
  ·rw [if_neg h, q05 P i q]
   by_cases e : i = q
   ·subst e; rw [Bool.eq_false_iff.2 h]; simp
   ·by_cases g : q < i
    ·rw [decide_eq_true g, decide_eq_true (show q < i + 1 by omega)]
    ·rw [decide_eq_false g, decide_eq_false (show ¬ q < i + 1 by omega)]
theorem bitsN_lt (P : Nat → Bool) (i : Nat) (hi : i ≤ 32) : q26 P i < 4294967296 := show q26 P i < 2 ^ 32 from lt_of_bits _ 32 fun q hq => by
 rw [q05, decide_eq_false (by omega)]
 rfl
def castL (l : List Nat) : List Int := l.map fun i : Nat => (i : Int)
def q04 (P : Nat → Bool) (i : Nat) : List Int := castL ((List.range i).filter P)
theorem q22 (P : Nat → Bool) (i : Nat) : q04 P (i + 1) = if P i = true then q04 P i ++ [(i : Int)] else q04 P i := by
 unfold q04 castL
 rw [List.range_succ, List.filter_append]
 by_cases h : P i = true
 ·rw [if_pos h]; simp [h]
 ·rw [if_neg h]; simp [h]
theorem q10 (P : Nat → Bool) (i : Nat) : (q04 P i).length ≤ i := by
 unfold q04 castL
 rw [List.length_map]
 exact Nat.le_trans (List.length_filter_le _ _) (by simp)
theorem q09 (P : Nat → Bool) (i : Nat) (x : Int) : x ∈ q04 P i ↔ ∃ q : Nat, q < i ∧ P q = true ∧ x = q := by
 unfold q04 castL
 rw [List.mem_map]
 constructor
 ·rintro ⟨q, hq, rfl⟩
  have := List.mem_filter.1 hq
  exact ⟨q, List.mem_range.1 this.1, this.2, rfl⟩
 ·rintro ⟨q, h1, h2, rfl⟩
  exact ⟨q, List.mem_filter.2 ⟨List.mem_range.2 h1, h2⟩, rfl⟩
section
variable {n : Nat} {ring : Bool} (h24 : n ≤ 24)
include h24
theorem impl_near_ev (p : Nat) (hp : p < n) : Ev (fun k => impl_bench_near.f k n ring p) ((q26 (q15 n ring p) n : Nat) : Int) := by
 have main : ∀ d i, i + d = n → Ev (fun k => impl_bench_near.l0 k p ((q26 (q15 n ring p) i : Nat) : Int) n i n ring) ((q26 (q15 n ring p) n : Nat) : Int) := by
  intro d
  induction d with
  | zero =>
   intro i hi
   have : i = n := by omega
   subst this
   refine ES ?_
   simp only [impl_bench_near.l0]
   exact EN (by omega) (Ev.now _)
  | succ d ih =>
   intro i hi
   have go := ih (i + 1) (by omega)
   rw [q26] at go
   refine ES ?_
   simp only [impl_bench_near.l0]
   refine EP (by omega) (EH (impl_gap_eq n ring p i h24 hp (by omega)) ?_)
   rw [q01 (n := 100) (by omega) (by omega)]
   by_cases g : gapI n ring p i = 1
   ·have hP : q15 n ring p i = true := decide_eq_true g
    rw [if_pos hP] at go
    have h2 : 2 ^ i < 2 ^ 32 := Nat.pow_lt_pow_right (by omega) (by omega)
    refine EP g (EP (by omega) ?_)
    rw [shl_one _ (by omega) (by omega), tn, or_cast _ _ (bitsN_lt _ _ (by omega)) (by omega)]
    exact go
   ·have hP : ¬ q15 n ring p i = true := by unfold q15; simpa using g
    rw [if_neg hP] at go
    exact EN g go
 exact main n 0 (by omega)
theorem spec_near_ev (t : List Int) (p : Nat) (hp : p < n) : Ev (fun k => spec_l2Near.f k n ring t p) (q04 (q15 n ring p) n) := by
 have main : ∀ d i, i + d = n → Ev (fun k => spec_l2Near.l0 k p (q04 (q15 n ring p) i) i n ring t) (q04 (q15 n ring p) n) := by
  intro d
  induction d with
  | zero =>
   intro i hi
   have : i = n := by omega
   subst this
   refine ES ?_
   simp only [spec_l2Near.l0]
   exact EN (by omega) (Ev.now _)
  | succ d ih =>
   intro i hi
   have go := ih (i + 1) (by omega)
   have hl := q10 (q15 n ring p) i
   rw [q22] at go
   refine ES ?_
   simp only [spec_l2Near.l0]
   refine EP (by omega) (EH (spec_l2Gap_eq n ring t p i h24 hp (by omega)) ?_)
   rw [q01 (n := 100) (by omega) (by omega)]
   by_cases g : gapI n ring p i = 1
   ·have hP : q15 n ring p i = true := decide_eq_true g
    rw [if_pos hP] at go
    exact EP g (EP (by omega) go)
   ·have hP : ¬ q15 n ring p i = true := by unfold q15; simpa using g
    rw [if_neg hP] at go
    exact EN g go
 exact main n 0 (by omega)
end
def q02 (F : Nat → Bool) (n : Nat) (ring : Bool) (p : Nat) : Bool := F p && (List.range n).all fun q => !q15 n ring p q || F q
theorem range_all (n : Nat) (P : Nat → Bool) : (List.range n).all P = true ↔ ∀ q, q < n → P q = true := by
 rw [List.all_eq_true]
 exact ⟨fun h q hq => h q (List.mem_range.2 hq), fun h q hq => h q (List.mem_range.1 hq)⟩
section
variable {F : Nat → Bool} {n : Nat} {ring : Bool} (h24 : n ≤ 24)
include h24
section
variable {S : Nat} (hlt : S < 4294967296) (hS : ∀ p, p < n → S.testBit p = !F p)
include hlt hS
theorem impl_lonely_ev : Ev (fun k => impl_bench_lonely.f k n ring (S : Int)) ((q26 (q02 F n ring) n : Nat) : Int) := by
 have main : ∀ d i, i + d = n → Ev (fun k => impl_bench_lonely.l0 k (S : Int) ((q26 (q02 F n ring) i : Nat) : Int) n i n ring) ((q26 (q02 F n ring) n : Nat) : Int) := by
  intro d
  induction d with
  | zero =>
   intro i hi
   have : i = n := by omega
   subst this
   refine ES ?_
   simp only [impl_bench_lonely.l0]
   exact EN (by omega) (Ev.now _)
  | succ d ih =>
   intro i hi
   have go := ih (i + 1) (by omega)
   rw [q26] at go
   refine ES ?_
   simp only [impl_bench_lonely.l0]
   refine EP (by omega) (EH (q20 _ _ (by omega) hlt) ?_)
   rw [hS i (by omega), q01 (n := 100) (by omega) (by omega)]
   cases hF : F i with
   | false =>
    have hP : ¬ q02 F n ring i = true := by unfold q02; rw [hF]; simp
    rw [if_neg hP] at go
    exact EP (by simp) go
   | true =>
    refine EN (by simp) (EB (impl_near_ev h24 i (by omega)) ?_)
    rw [and_cast _ _ (bitsN_lt _ _ (by omega)) hlt]
    have hz : (((q26 (q15 n ring i) n &&& S : Nat) : Int) = 0) ↔ q02 F n ring i = true := by
     unfold q02
     rw [hF, Bool.true_and, range_all]
     constructor
     ·intro e q hq
      have e0 : q26 (q15 n ring i) n &&& S = 0 := by omega
      have e1 : (q26 (q15 n ring i) n &&& S).testBit q = false := by rw [e0, Nat.zero_testBit]
      rw [Nat.testBit_and, q05, hS q hq, decide_eq_true hq, Bool.true_and] at e1
      revert e1
      cases q15 n ring i q <;> cases F q <;> simp
     ·intro e
      have e0 : q26 (q15 n ring i) n &&& S = 0 := by
       refine Nat.eq_of_testBit_eq fun q => ?_
       rw [Nat.testBit_and, q05, Nat.zero_testBit]
       by_cases hq : q < n
       ·have := e q hq
        rw [hS q hq, decide_eq_true hq, Bool.true_and]
        revert this
        cases q15 n ring i q <;> cases F q <;> simp
       ·rw [decide_eq_false hq]; rfl
      rw [e0]; rfl
    by_cases g : q02 F n ring i = true
    ·rw [if_pos g] at go
     have h2 : 2 ^ i < 2 ^ 32 := Nat.pow_lt_pow_right (by omega) (by omega)
     refine EP (hz.2 g) (EP (by omega) ?_)
     rw [shl_one _ (by omega) (by omega), tn, or_cast _ _ (bitsN_lt _ _ (by omega)) (by omega)]
     exact go
    ·rw [if_neg g] at go
     exact EN (fun e => g (hz.1 e)) go
 exact main n 0 (by omega)
end
section
variable {t : List Int} (ht : t.length ≤ 1048576) (hT : ∀ p, p < n → decide ((p : Int) ∈ t) = !F p)
include ht hT
theorem spec_free_ev : Ev (fun k => spec_l2Free.f k n ring t) (q04 F n) := by
 have main : ∀ d i, i + d = n → Ev (fun k => spec_l2Free.l0 k (q04 F i) i n ring t) (q04 F n) := by
  intro d
  induction d with
  | zero =>
   intro i hi
   have : i = n := by omega
   subst this
   refine ES ?_
   simp only [spec_l2Free.l0]
   exact EN (by omega) (Ev.now _)
  | succ d ih =>
   intro i hi
   have go := ih (i + 1) (by omega)
   have hl := q10 F i
   rw [q22] at go
   refine ES ?_
   simp only [spec_l2Free.l0]
   refine EP (by omega) (EB (q08 _ _ _ _ ht) ?_)
   rw [hT i (by omega), q01 (n := 100) (by omega) (by omega)]
   cases hF : F i with
   | false =>
    rw [if_neg (by rw [hF]; simp)] at go
    exact EP (by simp) go
   | true =>
    rw [if_pos hF] at go
    exact EN (by simp) (EP (by omega) go)
 exact main n 0 (by omega)
omit h24 in
theorem spec_lonely_near (acc fr : List Int) (i : Nat) (near : List Int) (hn : ∀ x ∈ near, ∃ q : Nat, q < n ∧ x = q) (hl : near.length ≤ 100) (r : List Int) (d : Nat) : ∀ (j : Nat) (b : Bool), j + d = near.length →
  Ev (fun k => spec_l2Lonely.l1 k acc fr i near (b && (near.drop j).all fun x => F x.toNat) near.length n ring t) r → Ev (fun k => spec_l2Lonely.l1 k acc fr i near b j n ring t) r := by
 induction d with
 | zero =>
  intro j b hj hr
  have : j = near.length := by omega
  subst this
  rw [List.drop_length] at hr
  simpa using hr
 | succ d ih =>
  intro j b hj hr
  obtain ⟨q, hq, e⟩ := hn (near[j]'(by omega)) (List.getElem_mem _)
  rw [List.drop_eq_getElem_cons (l := near) (i := j) (by omega), List.all_cons, ← Bool.and_assoc] at hr
  have go := ih (j + 1) _ (by omega) hr
  refine ES ?_
  simp only [spec_l2Lonely.l1]
  refine EP (by omega) ?_
  rw [q01 (n := 1000) (by omega) (by omega)]
  cases b with
  | false =>
   refine EN (by simp) ?_
   rw [Bool.false_and] at go
   exact go
  | true =>
   refine EP (by simp) (EP (by omega) (EB (q08 _ _ _ _ ht) ?_))
   rw [q13 near j (by omega), e, hT q hq, Bool.not_not]
   rw [Bool.true_and, e, tn] at go
   exact go
theorem spec_lonely_ev : Ev (fun k => spec_l2Lonely.f k n ring t) (q04 (q02 F n ring) n) := by
 have hlen := q10 F n
 have main : ∀ d i, i + d = (q04 F n).length → Ev (fun k => spec_l2Lonely.l0 k (((q04 F n).take i).filter fun x => q02 F n ring x.toNat) (q04 F n) i n ring t) ((q04 F n).filter fun x => q02 F n ring x.toNat) := by
  intro d
  induction d with
  | zero =>
   intro i hi
   refine ES ?_
   simp only [spec_l2Lonely.l0]
   rw [List.take_of_length_le (by omega)]
   exact EN (by omega) (Ev.now _)
  | succ d ih =>
   intro i hi
   have go := ih (i + 1) (by omega)
   have hmem := (q09 F n _).1 (List.getElem_mem (l := q04 F n) (n := i) (by omega))
   obtain ⟨q, hq, hFq, e⟩ := hmem
   have hacc : (((q04 F n).take i).filter fun x => q02 F n ring x.toNat).length ≤ i := Nat.le_trans (List.length_filter_le _ _) (by simp; omega)
   have hnl := q10 (q15 n ring q) n
   rw [List.take_add_one, List.getElem?_eq_getElem (by omega), Option.toList_some, List.filter_append, e] at go
   refine ES ?_
   simp only [spec_l2Lonely.l0]
   rw [q13 _ i (by omega), e]
   refine EP (by omega) (EP (by omega) (EB (spec_near_ev h24 t q hq) ?_))
   refine spec_lonely_near ht hT _ _ i _ (fun x hx => ?_) (by omega) _ (q04 (q15 n ring q) n).length 0 true (by omega) ?_
   ·obtain ⟨z, hz, _, e2⟩ := (q09 _ _ _).1 hx
    exact ⟨z, hz, e2⟩
   have hall : (true && ((q04 (q15 n ring q) n).drop 0).all fun x => F x.toNat) = q02 F n ring q := by
    unfold q02
    rw [hFq, List.drop_zero, Bool.true_and, Bool.true_and, Bool.eq_iff_iff, range_all, List.all_eq_true]
    constructor
    ·intro h z hz
     cases hz2 : q15 n ring q z with
     | false => rfl
     | true => simpa using h (z : Int) ((q09 _ _ _).2 ⟨z, hz, hz2, rfl⟩)
    ·intro h x hx
     obtain ⟨z, hz, hz2, e2⟩ := (q09 _ _ _).1 hx
     have := h z hz
     rw [hz2] at this
     rw [e2, tn]
     simpa using this
   rw [hall]
   refine ES ?_
   simp only [spec_l2Lonely.l1]
   refine EN (by omega) ?_
   rw [q13 _ i (by omega), e, q01 (n := 1000) (by omega) (by omega)]
   cases hL : q02 F n ring q with
   | true =>
    refine EP (by simp) (EP (by omega) (EP (by omega) (EP (by omega) ?_)))
    simp only [List.filter_cons, tn, hL, if_true, List.filter_nil] at go
    exact go
   | false =>
    refine EN (by simp) ?_
    simp only [List.filter_cons, tn, hL, List.filter_nil, Bool.false_eq_true, if_false, List.append_nil] at go
    exact go
 have efin : ((q04 F n).filter fun x => q02 F n ring x.toNat) = q04 (q02 F n ring) n := by
  unfold q04 castL
  rw [List.filter_map, List.filter_filter]
  congr 1
  refine List.filter_congr fun q _ => ?_
  show (q02 F n ring ((q : Int)).toNat && F q) = _
  rw [tn]
  unfold q02
  cases F q <;> simp
 unfold spec_l2Lonely.f
 refine EB (spec_free_ev h24 ht hT) ?_
 have := main (q04 F n).length 0 (by omega)
 rw [efin] at this
 exact this
end
end
theorem spec_l1In_eq (n a b : Int) : spec_l1In.f n a b = some (decide (a ≤ n ∧ n ≤ b)) := by
 unfold spec_l1In.f
 by_cases h : n ≥ a
 ·rw [if_pos h]
  simp [show a ≤ n from h]
 ·rw [if_neg h]
  simp [show ¬ a ≤ n from h]
theorem q18 (n a b : Int) : impl_within.f n a b = some (decide (a ≤ n ∧ n ≤ b)) := by
 unfold impl_within.f
 by_cases h : n ≥ a
 ·rw [if_pos h]
  simp [show a ≤ n from h]
 ·rw [if_neg h]
  simp [show ¬ a ≤ n from h]
theorem impl_allWithin_l0 (l : List Int) (a b : Int) (hl : l.length ≤ 1048576) (d : Nat) : ∀ (k i : Nat), i ≤ l.length → l.length - i = d → d < k → impl_allWithin.l0 k a b l (l.length : Int) i = some (decide (∀ x ∈ l.drop i, a ≤ x ∧ x ≤ b)) := by
 induction d with
 | zero =>
  intro k i hi hd hk
  obtain ⟨k, rfl, _⟩ := fuel hk
  simp only [impl_allWithin.l0]
  rw [if_neg (by omega), List.drop_eq_nil_of_le (by omega)]
  simp
 | succ d ih =>
  intro k i hi hd hk
  obtain ⟨k, rfl, _⟩ := fuel hk
  simp only [impl_allWithin.l0]
  rw [if_pos (by omega), if_pos (by omega), if_pos (by omega), q01 (n := l.length) (by omega) (by omega), q13 l i (by omega), q18, ih k (i + 1) (by omega) (by omega) (by omega)]
  rw [List.drop_eq_getElem_cons (l := l) (i := i) (by omega)]
  rw [ob]
  by_cases h : a ≤ l[i]'(by omega) ∧ l[i]'(by omega) ≤ b
  ·rw [if_pos (by simp only [h]; simp)]
   refine congrArg some ?_
   rw [decide_eq_decide]
   simp only [List.mem_cons]
   exact ⟨fun e x hx => hx.elim (fun z => z ▸ h) (e x), fun e x hx => e x (.inr hx)⟩
  ·rw [if_neg (by rw [dq]; exact h)]
   refine congrArg some ?_
   symm
   rw [decide_eq_false_iff_not]
   exact fun e => h (e _ List.mem_cons_self)
theorem impl_allWithin_eq (l : List Int) (a b : Int) (hl : l.length ≤ 1048576) (k : Nat) (hk : l.length < k) : impl_allWithin.f k l a b = some (decide (∀ x ∈ l, a ≤ x ∧ x ≤ b)) :=
 impl_allWithin_l0 l a b hl l.length k 0 (by omega) (by omega) hk
def Rising (l : List Int) (a b : Int) : Prop := ∀ i, (h : i < l.length) → (a ≤ l[i] ∧ l[i] ≤ b) ∧ (0 < i → l.getD (i - 1) 0 < l[i])
def q14 (s : Int) (ring : Bool) (t : List Int) : Prop := (2 ≤ s ∧ s ≤ 24) ∧ (ring = true → 3 ≤ s) ∧ Rising t 0 (s - 1)
open Classical in
theorem spec_l1Rising_l0 (l : List Int) (a b : Int) (hl : l.length ≤ 1048576) (d : Nat) : ∀ (k i : Nat), i ≤ l.length → l.length - i = d → d < k → (∀ j, (h : j < i) → (hj : j < l.length) → (a ≤ l[j] ∧ l[j] ≤ b) ∧ (0 < j → l.getD (j - 1) 0 < l[j])) →
  spec_l1Rising.l0 k l a b i = some (decide (Rising l a b)) := by
 induction d with
 | zero =>
  intro k i hi hd hk hp
  obtain ⟨k, rfl, _⟩ := fuel hk
  simp only [spec_l1Rising.l0]
  rw [if_neg (by omega)]
  refine congrArg some ?_
  symm
  rw [dq]
  exact fun j hj => hp j (by omega) hj
 | succ d ih =>
  intro k i hi hd hk hp
  obtain ⟨k, rfl, _⟩ := fuel hk
  have no : ¬ ((a ≤ l[i]'(by omega) ∧ l[i]'(by omega) ≤ b) ∧ (0 < i → l.getD (i - 1) 0 < l[i]'(by omega))) → ¬ Rising l a b := fun g e => g (e i (by omega))
  have go : ((a ≤ l[i]'(by omega) ∧ l[i]'(by omega) ≤ b) ∧ (0 < i → l.getD (i - 1) 0 < l[i]'(by omega))) → spec_l1Rising.l0 k l a b (wrap64 ((i : Int) + 1)) = some (decide (Rising l a b)) := by
   intro g
   rw [q01 (n := l.length) (by omega) (by omega)]
   refine ih k (i + 1) (by omega) (by omega) (by omega) fun j hj hj' => ?_
   by_cases e : j = i
   ·subst e; exact g
   ·exact hp j (by omega) hj'
  simp only [spec_l1Rising.l0]
  rw [if_pos (by omega), if_pos (by omega), q13 l i (by omega), spec_l1In_eq, ob]
  by_cases g : a ≤ l[i]'(by omega) ∧ l[i]'(by omega) ≤ b
  ·rw [if_pos (decide_eq_true g)]
   by_cases h0 : 0 < i
   ·rw [if_pos (by omega), q03 (by omega) (by omega), if_pos (by omega), if_pos (by omega), show (i : Int) - 1 = ((i - 1 : Nat) : Int) from by omega, rd_nat]
    by_cases g2 : l.getD (i - 1) 0 < l[i]'(by omega)
    ·rw [if_neg (by omega)]
     exact go ⟨g, fun _ => g2⟩
    ·rw [if_pos (by omega), decide_eq_false (no fun e => g2 (e.2 h0))]
   ·rw [if_neg (by omega)]
    exact go ⟨g, fun e => absurd e h0⟩
  ·rw [if_neg (by rw [dq]; exact g), decide_eq_false (no fun e => g e.1)]
open Classical in
theorem spec_l1Rising_eq (l : List Int) (a b : Int) (hl : l.length ≤ 1048576) (k : Nat) (hk : l.length < k) : spec_l1Rising.f k l a b = some (decide (Rising l a b)) :=
 spec_l1Rising_l0 l a b hl l.length k 0 (by omega) (by omega) hk (fun j h => by omega)
open Classical in
theorem spec_l2Row_eq (s : Int) (ring : Bool) (t : List Int) (ht : t.length ≤ 1048576) (k : Nat) (hk : t.length < k) : spec_l2Row.f k s ring t = some (decide (q14 s ring t)) := by
 unfold spec_l2Row.f
 rw [spec_l1In_eq, ob]
 by_cases h : 2 ≤ s ∧ s ≤ 24
 ·rw [if_pos (decide_eq_true h), q03 (by omega) (by omega), spec_l1Rising_eq t _ _ ht k hk, ob]
  cases ring with
  | true =>
   rw [if_pos rfl]
   by_cases h3 : s > 2
   ·rw [if_pos h3]
    refine congrArg some ?_
    rw [decide_eq_decide]
    exact ⟨fun e => ⟨h, fun _ => by omega, e⟩, fun e => e.2.2⟩
   ·rw [if_neg h3]
    refine congrArg some ?_
    symm
    rw [decide_eq_false_iff_not]
    exact fun e => h3 (by have := e.2.1 rfl; omega)
  | false =>
   rw [if_neg (by simp)]
   refine congrArg some ?_
   rw [decide_eq_decide]
   exact ⟨fun e => ⟨h, (fun z => by cases z), e⟩, fun e => e.2.2⟩
 ·rw [if_neg (by rw [dq]; exact h)]
  refine congrArg some ?_
  symm
  rw [decide_eq_false_iff_not]
  exact fun e => h e.1
theorem q17 (s : Int) (ring : Bool) (p : Int) (k : Nat) (hk : 2 < k) : impl_bench_has.f k s ring [p] = some (decide (0 ≤ p ∧ p ≤ wrap64 (s - 1))) := by
 unfold impl_bench_has.f
 rw [impl_allWithin_eq [p] _ _ (by simp) k (by simp; omega), ob]
 refine congrArg some ?_
 rw [decide_eq_decide]
 simp
theorem impl_bench_valid_eq (s : Int) (ring : Bool) : impl_bench_valid.f s ring = some (decide ((2 ≤ s ∧ s ≤ 24) ∧ (ring = true → 3 ≤ s))) := by
 unfold impl_bench_valid.f
 rw [q18, ob]
 by_cases h : 2 ≤ s ∧ s ≤ 24
 ·rw [if_pos (decide_eq_true h)]
  cases ring with
  | true =>
   rw [if_pos rfl]
   refine congrArg some ?_
   rw [decide_eq_decide]
   exact ⟨fun e => ⟨h, fun _ => e⟩, fun e => e.2 rfl⟩
  | false =>
   rw [if_neg (by simp)]
   refine congrArg some ?_
   symm
   rw [dq]
   exact ⟨h, (fun z => by cases z)⟩
 ·rw [if_neg (by rw [dq]; exact h)]
  refine congrArg some ?_
  symm
  rw [decide_eq_false_iff_not]
  exact fun e => h e.1
open Classical in
theorem impl_IsRow_l0 (s : Int) (ring : Bool) (l : List Int) (hl : l.length ≤ 1048576) (d : Nat) : ∀ (k i : Nat), i ≤ l.length → l.length - i = d → d + 3 < k → ((2 ≤ s ∧ s ≤ 24) → ∀ j, (h : j < i) → (hj : j < l.length) → (0 ≤ l[j] ∧ l[j] ≤ s - 1) ∧ (0 < j → l.getD (j - 1) 0 < l[j])) →
  impl_IsRow.l0 k l (l.length : Int) i s ring l = some (decide (q14 s ring l)) := by
 induction d with
 | zero =>
  intro k i hi hd hk hp
  obtain ⟨k, rfl, _⟩ := fuel hk
  simp only [impl_IsRow.l0]
  rw [if_neg (by omega), impl_Row_bench.f, ob]
  dsimp only
  rw [impl_bench_valid_eq, ob]
  refine congrArg some ?_
  rw [decide_eq_decide]
  exact ⟨fun e => ⟨e.1, e.2, fun j hj => hp e.1 j (by omega) hj⟩, fun e => ⟨e.1, e.2.1⟩⟩
 | succ d ih =>
  intro k i hi hd hk hp
  obtain ⟨k, rfl, _⟩ := fuel hk
  have no : (2 ≤ s ∧ s ≤ 24 → ¬ ((0 ≤ l[i]'(by omega) ∧ l[i]'(by omega) ≤ s - 1) ∧ (0 < i → l.getD (i - 1) 0 < l[i]'(by omega)))) → ¬ q14 s ring l := fun g e => g e.1 (e.2.2 i (by omega))
  have go : (2 ≤ s ∧ s ≤ 24 → ((0 ≤ l[i]'(by omega) ∧ l[i]'(by omega) ≤ s - 1) ∧ (0 < i → l.getD (i - 1) 0 < l[i]'(by omega)))) → impl_IsRow.l0 k l (l.length : Int) (wrap64 ((i : Int) + 1)) s ring l = some (decide (q14 s ring l)) := by
   intro g
   rw [q01 (n := l.length) (by omega) (by omega)]
   refine ih k (i + 1) (by omega) (by omega) (by omega) fun hs j hj hj' => ?_
   by_cases e : j = i
   ·subst e; exact g hs
   ·exact hp hs j (by omega) hj'
  simp only [impl_IsRow.l0]
  rw [if_pos (by omega), if_pos (by omega), if_pos (by omega), impl_Row_bench.f, ob]
  dsimp only
  rw [q13 l i (by omega), q17 _ _ _ k (by omega), ob]
  by_cases g : 0 ≤ l[i]'(by omega) ∧ l[i]'(by omega) ≤ wrap64 (s - 1)
  ·rw [if_pos (decide_eq_true g)]
   have g' : 2 ≤ s ∧ s ≤ 24 → 0 ≤ l[i]'(by omega) ∧ l[i]'(by omega) ≤ s - 1 := fun hs => by
    rw [q03 (by omega) (by omega)] at g
    exact g
   by_cases h0 : 0 < i
   ·rw [if_pos (by omega), q03 (by omega) (by omega), if_pos (by omega), if_pos (by omega), show (i : Int) - 1 = ((i - 1 : Nat) : Int) from by omega, rd_nat]
    by_cases g2 : l.getD (i - 1) 0 < l[i]'(by omega)
    ·rw [if_neg (by omega)]
     exact go fun hs => ⟨g' hs, fun _ => g2⟩
    ·rw [if_pos (by omega), decide_eq_false (no fun _ e => g2 (e.2 h0))]
   ·rw [if_neg (by omega)]
    exact go fun hs => ⟨g' hs, fun e => absurd e h0⟩
  ·rw [if_neg (by rw [dq]; exact g)]
   rw [decide_eq_false (no fun hs e => g ?_)]
   rw [q03 (by omega) (by omega)]
   exact e.1
open Classical in
theorem impl_IsRow_eq (s : Int) (ring : Bool) (l : List Int) (hl : l.length ≤ 1048576) (k : Nat) (hk : l.length + 3 < k) : impl_IsRow.f k s ring l = some (decide (q14 s ring l)) :=
 impl_IsRow_l0 s ring l hl l.length k 0 (by omega) (by omega) hk (fun _ j h => by omega)
theorem rising_lt (l : List Int) (a b : Int) (h : Rising l a b) (i j : Nat) (hij : i < j) (hj : j < l.length) : l[i]'(by omega) < l[j] := by
 induction j with
 | zero => omega
 | succ j ih =>
  have h1 := (h (j + 1) hj).2 (by omega)
  rw [show j + 1 - 1 = j from by omega, show l.getD j 0 = l[j]'(by omega) from by simp [List.getD, show j < l.length by omega]] at h1
  by_cases e : i = j
  ·subst e; exact h1
  ·have := ih (by omega) (by omega)
   omega
theorem q21 (l : List Int) (a b : Int) (h : Rising l a b) : ∀ x ∈ l, a ≤ x ∧ x ≤ b := by
 intro x hx
 obtain ⟨i, hi, rfl⟩ := List.getElem_of_mem hx
 exact (h i hi).1
theorem rising_nodup (l : List Int) (a b : Int) (h : Rising l a b) : l.Nodup := by
 refine List.pairwise_iff_getElem.2 fun i j hi hj hij e => ?_
 have := rising_lt l a b h i j hij hj
 omega
theorem row_len (s : Int) (ring : Bool) (t : List Int) (h : q14 s ring t) : t.length ≤ 24 := by
 have hn := rising_nodup t _ _ h.2.2
 have hs : t ⊆ (List.range 24).map fun i : Nat => (i : Int) := by
  intro x hx
  have := q21 t _ _ h.2.2 x hx
  have := h.1
  exact List.mem_map.2 ⟨x.toNat, List.mem_range.2 (by omega), by omega⟩
 have := List.Nodup.length_le_of_subset hn hs
 simpa using this
theorem impl_setOf_l0 (l : List Int) (hl : l.length ≤ 1048576) (hb : ∀ x ∈ l, 0 ≤ x ∧ x < 32) (d : Nat) : ∀ (k i s : Nat), s < 4294967296 → i ≤ l.length → l.length - i = d → d < k →
  impl_setOf.l0 k (s : Int) l (l.length : Int) i = some (((l.drop i).foldl (fun s p => s ||| 2 ^ p.toNat) s : Nat) : Int) := by
 induction d with
 | zero =>
  intro k i s hs hi hd hk
  obtain ⟨k, rfl, _⟩ := fuel hk
  simp only [impl_setOf.l0]
  rw [if_neg (by omega), List.drop_eq_nil_of_le (by omega)]
  rfl
 | succ d ih =>
  intro k i s hs hi hd hk
  obtain ⟨k, rfl, _⟩ := fuel hk
  obtain ⟨b0, b1⟩ := hb (l[i]'(by omega)) (List.getElem_mem _)
  have hp : 2 ^ (l[i]'(by omega)).toNat < 2 ^ 32 := Nat.pow_lt_pow_right (by omega) (by omega)
  simp only [impl_setOf.l0]
  rw [if_pos (by omega), if_pos (by omega), if_pos (by omega), q01 (n := l.length) (by omega) (by omega), q13 l i (by omega), if_pos b0, shl_one _ b0 b1, or_cast _ _ hs hp]
  rw [ih k (i + 1) _ (Nat.or_lt_two_pow (n := 32) hs hp) (by omega) (by omega) (by omega), List.drop_eq_getElem_cons (l := l) (i := i) (by omega)]
  rfl
theorem impl_setOf_eq (l : List Int) (hl : l.length ≤ 1048576) (hb : ∀ x ∈ l, 0 ≤ x ∧ x < 32) (k : Nat) (hk : l.length < k) : impl_setOf.f k l = some ((setN l : Nat) : Int) :=
 impl_setOf_l0 l hl hb l.length k 0 0 (by omega) (by omega) (by omega) hk
theorem taken_lt (s : Int) (ring : Bool) (t : List Int) (hr : q14 s ring t) : (∀ x ∈ t, 0 ≤ x ∧ x < 32) ∧ setN t < 4294967296 := by
 have hm := q21 t _ _ hr.2.2
 have h24 := hr.1
 exact ⟨fun x hx => by have := hm x hx; omega, setN_u32 t fun x hx => by have := hm x hx; omega⟩
theorem impl_taken_eq (s : Int) (ring : Bool) (t : List Int) (hr : q14 s ring t) (k : Nat) (hk : t.length < k) : impl_Row_taken.f k s ring t = some ((setN t : Nat) : Int) := by
 unfold impl_Row_taken.f
 have := row_len s ring t hr
 rw [impl_setOf_eq t (by omega) (taken_lt s ring t hr).1 k hk, ob]
theorem game_iff (a : Int) : spec_l11Game.f a = some (decide (1 ≤ a ∧ a ≤ 2)) := by
 unfold spec_l11Game.f
 by_cases h : a = 1
 ·rw [if_pos h, decide_eq_true (by omega)]
 ·rw [if_neg h]
  refine congrArg some ?_
  rw [Bool.eq_iff_iff, beq_iff_eq, dq]
  omega
theorem row_facts {s : Int} {ring : Bool} {t : List Int} (h : q14 s ring t) : ∃ n : Nat, s = n ∧ 2 ≤ n ∧ n ≤ 24 ∧ (ring = true → 3 ≤ n) ∧ (∀ x ∈ t, 0 ≤ x ∧ x < n) := by
 have h1 := h.1
 have h2 := h.2.1
 refine ⟨s.toNat, by omega, by omega, by omega, fun e => by have := h2 e; omega, fun x hx => ?_⟩
 have := q21 t _ _ h.2.2 x hx
 omega
open Classical in
theorem spec_row_ev (s : Int) (ring : Bool) (t : List Int) (ht : t.length ≤ 1048576) : Ev (fun k => spec_l2Row.f k s ring t) (decide (q14 s ring t)) :=
 Ev.bound t.length fun k hk => spec_l2Row_eq s ring t ht k hk
open Classical in
theorem impl_isGame_ev (s : Int) (ring : Bool) (t : List Int) (ht : t.length ≤ 1048576) (g : Int) : Ev (fun k => impl_isGame.f k s ring t g) (decide (q14 s ring t ∧ 1 ≤ g ∧ g ≤ 2)) := by
 unfold impl_isGame.f
 refine EB (Ev.bound (t.length + 3) fun k hk => impl_IsRow_eq s ring t ht k (by omega)) ?_
 by_cases h : q14 s ring t
 ·refine EP (decide_eq_true h) ?_
  rw [q18]
  refine Ev.same (Ev.now _) ?_
  rw [decide_eq_decide]
  exact ⟨fun e => ⟨h, e⟩, fun e => e.2⟩
 ·exact Ev.same (EN (by rw [dq]; exact h) (Ev.now _)) (decide_eq_false fun e => h e.1).symm
def q07 (t : List Int) (p : Nat) : Bool := !decide ((p : Int) ∈ t)
theorem taken_bit {t : List Int} (hlo : ∀ x ∈ t, 0 ≤ x) (p : Nat) : (setN t).testBit p = !q07 t p := by
 unfold q07
 rw [q29, Bool.not_not, decide_eq_decide]
 constructor
 ·rintro ⟨x, hx, e⟩
  have := hlo x hx
  rw [show (p : Int) = x from by omega]
  exact hx
 ·intro h
  exact ⟨(p : Int), h, by omega⟩
def q06 (game : Int) (F : Nat → Bool) (n : Nat) (ring : Bool) (p : Nat) : Bool := if game = 1 then q02 F n ring p else F p && F ((p + 1) % n) && (ring || decide (p + 1 < n))
def maskN (game : Int) (n p : Nat) : Nat := if game = 1 then 2 ^ p else 2 ^ p ||| 2 ^ ((p + 1) % n)
theorem next_tmod (p n : Nat) (hp : p < n) (hn : n ≤ 24) : Int.tmod (wrap64 ((p : Int) + 1)) (n : Int) = (((p + 1) % n : Nat) : Int) := by
 rw [q01 (n := 100) (by omega) (by omega)]
 exact (Int.ofNat_tmod (p + 1) n).symm
section
variable {F : Nat → Bool} {n : Nat} {ring : Bool} (h2 : 2 ≤ n) (h24 : n ≤ 24) {game : Int} (hg : game = 1 ∨ game = 2)
include h2 h24 hg
theorem spec_moves_ev {t : List Int} (ht : t.length ≤ 1048576) (hT : ∀ p, p < n → decide ((p : Int) ∈ t) = !F p) : Ev (fun k => spec_l11Moves.f k n ring t game) (q04 (q06 game F n ring) n) := by
 unfold spec_l11Moves.f
 rcases hg with rfl | rfl
 ·exact EP rfl (EB (spec_lonely_ev h24 ht hT) (Ev.now _))
 ·refine EN (by omega) ?_
  have main : ∀ d i, i + d = n → Ev (fun k => spec_l11Moves.l0 k (q04 (q06 2 F n ring) i) i n ring t) (q04 (q06 2 F n ring) n) := by
   intro d
   induction d with
   | zero =>
    intro i hi
    have : i = n := by omega
    subst this
    refine ES ?_
    simp only [spec_l11Moves.l0]
    exact EN (by omega) (Ev.now _)
   | succ d ih =>
    intro i hi
    have go := ih (i + 1) (by omega)
    have hl := q10 (q06 2 F n ring) i
    have hm : (i + 1) % n < n := Nat.mod_lt _ (by omega)
    have hmm : (i + 1) % n > i ↔ i + 1 < n := by
     constructor
     ·intro e
      refine Classical.byContradiction fun c => ?_
      have : i + 1 = n := by omega
      rw [this, Nat.mod_self] at e
      omega
     ·intro e
      rw [Nat.mod_eq_of_lt e]
      omega
    rw [q22] at go
    refine ES ?_
    simp only [spec_l11Moves.l0]
    rw [next_tmod i n (by omega) h24]
    refine EP (by omega) (EN (by omega) (EB (q08 _ _ _ _ ht) ?_))
    rw [hT i (by omega), q01 (n := 100) (by omega) (by omega)]
    have eM : q06 2 F n ring i = (F i && F ((i + 1) % n) && (ring || decide (i + 1 < n))) := rfl
    cases hF : F i with
    | false =>
     rw [if_neg (by rw [eM, hF]; simp)] at go
     exact EP (by simp) go
    | true =>
     refine EN (by simp) (EB (q08 _ _ _ _ ht) ?_)
     rw [hT _ hm]
     cases hF2 : F ((i + 1) % n) with
     | false =>
      rw [if_neg (by rw [eM, hF, hF2]; simp)] at go
      exact EP (by simp) go
     | true =>
      refine EN (by simp) ?_
      cases ring with
      | true =>
       rw [if_pos (by rw [eM, hF, hF2]; simp)] at go
       exact EP rfl (EP (by omega) go)
      | false =>
       refine EN (by simp) ?_
       by_cases g : i + 1 < n
       ·rw [if_pos (by rw [eM, hF, hF2]; simp [g])] at go
        exact EP (by have := hmm.2 g; omega) (EP (by omega) go)
       ·rw [if_neg (by rw [eM, hF, hF2]; simp [g])] at go
        exact EN (by intro e; exact g (hmm.1 (by omega))) go
  exact main n 0 (by omega)
theorem impl_taking_ev {S : Nat} (hlt : S < 4294967296) (hS : ∀ p, p < n → S.testBit p = !F p) (p : Nat) (hp : p < n) : ∃ v : Nat, Ev (fun k => impl_bench_taking.f k n ring (S : Int) game p) ((v : Int), q06 game F n ring p) ∧ (q06 game F n ring p = true → v = maskN game n p) := by
 have p2 : 2 ^ p < 2 ^ 32 := Nat.pow_lt_pow_right (by omega) (by omega)
 have hm : (p + 1) % n < n := Nat.mod_lt _ (by omega)
 have q2 : 2 ^ ((p + 1) % n) < 2 ^ 32 := Nat.pow_lt_pow_right (by omega) (by omega)
 have hone : Ev (fun k => impl_bench_has.f k n ring [(p : Int)]) true := Ev.bound 3 fun k hk => by
  rw [q17 _ _ _ k (by omega)]
  exact congrArg some (decide_eq_true (by rw [q03 (by omega) (by omega)]; omega))
 rcases hg with rfl | rfl
 ·refine ⟨2 ^ p, ?_, fun _ => rfl⟩
  unfold impl_bench_taking.f
  refine EB hone (EP rfl (EP rfl (EP (by omega) (EB (impl_lonely_ev h24 hlt hS) (EH (q20 _ _ (by omega) (bitsN_lt _ _ (by omega))) ?_)))))
  rw [q05, decide_eq_true hp, Bool.true_and, shl_one _ (by omega) (by omega), tn]
  exact Ev.now _
 ·have eM : q06 2 F n ring p = (F p && F ((p + 1) % n) && (ring || decide (p + 1 < n))) := rfl
  have j : ∀ q : Nat, (q < n → q = (p + 1) % n) → (q < n ↔ (ring || decide (p + 1 < n)) = true) → q ≤ n → ∃ v : Nat, Ev (fun k => impl_bench_taking.j0 k (S : Int) p q n ring) ((v : Int), q06 2 F n ring p) ∧ (q06 2 F n ring p = true → v = maskN 2 n p) := by
   intro q hq hqn hle
   by_cases e : q = n
   ·have hf : q06 2 F n ring p = false := by
     rw [eM, Bool.eq_false_iff.2 (fun z => absurd (hqn.2 z) (by omega)), Bool.and_false]
    refine ⟨0, ES ?_, fun z => absurd z (by rw [hf]; simp)⟩
    rw [hf]
    simp only [impl_bench_taking.j0]
    exact EP (by omega) (Ev.now _)
   ·have hql : q < n := by omega
    have hq' := hq hql
    have hb := hqn.1 hql
    rw [eM, hb, Bool.and_true]
    cases hF : F p with
    | false =>
     refine ⟨0, ES ?_, fun z => absurd z (by simp)⟩
     simp only [impl_bench_taking.j0]
     refine EN (by omega) (EH (q20 _ _ (by omega) hlt) ?_)
     rw [hS p hp, hF]
     exact EP rfl (Ev.now _)
    | true =>
     cases hF2 : F ((p + 1) % n) with
     | false =>
      refine ⟨0, ES ?_, fun z => absurd z (by simp)⟩
      simp only [impl_bench_taking.j0]
      refine EN (by omega) (EH (q20 _ _ (by omega) hlt) ?_)
      rw [hS p hp, hF]
      refine EN (by simp) (EH (q20 _ _ (by omega) hlt) ?_)
      rw [hS q hql, hq', hF2]
      exact EP rfl (Ev.now _)
     | true =>
      refine ⟨2 ^ p ||| 2 ^ ((p + 1) % n), ES ?_, fun _ => rfl⟩
      simp only [impl_bench_taking.j0]
      refine EN (by omega) (EH (q20 _ _ (by omega) hlt) ?_)
      rw [hS p hp, hF]
      refine EN (by simp) (EH (q20 _ _ (by omega) hlt) ?_)
      rw [hS q hql, hq', hF2]
      refine EN (by simp) (EP (by omega) (EP (by omega) ?_))
      rw [shl_one _ (by omega) (by omega), shl_one _ (by omega) (by omega), tn, tn, or_cast _ _ (by omega) (by omega)]
      exact Ev.now _
  unfold impl_bench_taking.f
  cases ring with
  | true =>
   obtain ⟨v, e, hv⟩ := j ((p + 1) % n) (fun _ => rfl) (by simp [hm]) (by omega)
   refine ⟨v, EB hone (EP rfl (EN (by omega) (EP rfl (EN (by omega) ?_)))), hv⟩
   rw [next_tmod p n hp h24]
   exact e
  | false =>
   obtain ⟨v, e, hv⟩ := j (p + 1) (fun z => (Nat.mod_eq_of_lt z).symm) (by simp) (by omega)
   refine ⟨v, EB hone (EP rfl (EN (by omega) (EN (by simp) ?_))), hv⟩
   rw [q01 (n := 100) (by omega) (by omega)]
   exact e
theorem impl_moves_ev {S : Nat} (hlt : S < 4294967296) (hS : ∀ p, p < n → S.testBit p = !F p) : Ev (fun k => impl_bench_moves.f k n ring (S : Int) game) (q04 (q06 game F n ring) n) := by
 have main : ∀ d i, i + d = n → Ev (fun k => impl_bench_moves.l0 k (S : Int) game (q04 (q06 game F n ring) i) n i n ring) (q04 (q06 game F n ring) n) := by
  intro d
  induction d with
  | zero =>
   intro i hi
   have : i = n := by omega
   subst this
   refine ES ?_
   simp only [impl_bench_moves.l0]
   exact EN (by omega) (Ev.now _)
  | succ d ih =>
   intro i hi
   have go := ih (i + 1) (by omega)
   have hl := q10 (q06 game F n ring) i
   obtain ⟨v, e, _⟩ := impl_taking_ev h2 h24 hg (ring := ring) hlt hS i (by omega)
   rw [q22] at go
   refine ES ?_
   simp only [impl_bench_moves.l0]
   refine EP (by omega) (EB e ?_)
   dsimp only
   rw [q01 (n := 100) (by omega) (by omega)]
   cases hM : q06 game F n ring i with
   | true =>
    rw [if_pos hM] at go
    exact EP rfl (EP (by omega) go)
   | false =>
    rw [if_neg (by rw [hM]; simp)] at go
    exact EN (by simp) go
 exact main n 0 (by omega)
end
theorem moves_ev {s : Int} {ring : Bool} {t : List Int} (h : q14 s ring t) (g : Int) (hg : g = 1 ∨ g = 2) : Ev (fun k => spec_l11Moves.f k s ring t g) (q04 (q06 g (q07 t) s.toNat ring) s.toNat) ∧ Ev (fun k => impl_bench_moves.f k s ring ((setN t : Nat) : Int) g) (q04 (q06 g (q07 t) s.toNat ring) s.toNat) := by
 obtain ⟨n, rfl, h2, h24, h3, hin⟩ := row_facts h
 have hl := row_len _ ring t h
 exact ⟨spec_moves_ev h2 h24 hg (by omega) (fun p _ => by unfold q07; simp), impl_moves_ev h2 h24 hg (taken_lt _ ring t h).2 (fun p _ => taken_bit (fun x hx => (hin x hx).1) p)⟩
def consO {α : Type} (o : Option α) (l : List α) : List α := match o with
 | none => l
 | some b => b :: l
theorem filterMap_consO {α β : Type} (f : α → Option β) (a : α) (l : List α) : (a :: l).filterMap f = consO (f a) (l.filterMap f) := by
 rw [List.filterMap_cons]
 cases f a <;> rfl
def q11 (c : Nat → Bool) : Nat → Nat → Nat
 | 0, i => i
 | f + 1, i => if c i = true then q11 c f (i + 1) else i
def onB (F : Nat → Bool) (n : Nat) (ring : Bool) (p j : Nat) : Bool := F ((p + j) % n) && (ring || decide (p + j < n))
def q27 (F : Nat → Bool) (n : Nat) (ring : Bool) (p : Nat) : Bool := F p && !(F ((p + n - 1) % n) && (ring || decide (0 < p)))
def q12 (F : Nat → Bool) (n : Nat) (ring : Bool) (p : Nat) : Option S70 := if q27 F n ring p = true then some ⟨p, (q11 (onB F n ring p) 60 0 : Nat)⟩ else none
def runsL (F : Nat → Bool) (n : Nat) (ring : Bool) : List S70 := if ring = true ∧ ∀ p, p < n → F p = true then [⟨0, n⟩] else (List.range n).filterMap (q12 F n ring)
theorem tmod_wrap (a n : Nat) (h : a < 1000) : Int.tmod (wrap64 (a : Int)) (n : Int) = ((a % n : Nat) : Int) := by
 rw [q03 (by omega) (by omega)]
 exact (Int.ofNat_tmod a n).symm
section
variable {F : Nat → Bool} {n : Nat} {ring : Bool} (h2 : 2 ≤ n) (h24 : n ≤ 24)
include h2 h24
theorem run_ends (hno : ¬ (ring = true ∧ ∀ p, p < n → F p = true)) (p : Nat) (hp : p < n) : ∃ j, 0 ≤ j ∧ j < 0 + 60 ∧ onB F n ring p j = false := by
 cases ring with
 | false => exact ⟨n - p, by omega, by omega, by simp [onB]; omega⟩
 | true =>
  have : ∃ q, q < n ∧ F q = false := by
   refine Classical.byContradiction fun e => hno ⟨rfl, fun q hq => ?_⟩
   cases g : F q with
   | true => rfl
   | false => exact absurd ⟨q, hq, g⟩ e
  obtain ⟨q, hq, g⟩ := this
  refine ⟨if p ≤ q then q - p else q + n - p, by omega, by split <;> omega, ?_⟩
  have e : (p + if p ≤ q then q - p else q + n - p) % n = q := by
   split
   ·rw [show p + (q - p) = q from by omega, Nat.mod_eq_of_lt hq]
   ·rw [show p + (q + n - p) = q + n from by omega, Nat.add_mod_right, Nat.mod_eq_of_lt hq]
  unfold onB
  rw [e, g]
  rfl
section
variable {t : List Int} (ht : t.length ≤ 1048576) (hT : ∀ p, p < n → decide ((p : Int) ∈ t) = !F p)
include ht hT
theorem spec_run_walk (acc : List S70) (ha : acc.length ≤ 1000) (p : Nat) (hp : p < n) (r : List S70) : ∀ f m : Nat, m + f ≤ 60 → (∃ j, m ≤ j ∧ j < m + f ∧ onB F n ring p j = false) →
  Ev (fun k => spec_l2Runs.l0 k (acc ++ [⟨p, (q11 (onB F n ring p) f m : Nat)⟩]) ((p + 1 : Nat) : Int) n ring t) r → Ev (fun k => spec_l2Runs.l1 k acc p m n ring t) r := by
 intro f
 induction f with
 | zero => rintro m _ ⟨j, h1, h3, _⟩; omega
 | succ f ih =>
  rintro m hm ⟨j, h1, h3, h4⟩ hr
  have hmod : (p + m) % n < n := Nat.mod_lt _ (by omega)
  have e1 : Int.tmod (wrap64 ((p : Int) + (m : Int))) (n : Int) = (((p + m) % n : Nat) : Int) := tmod_wrap (p + m) n (by omega)
  rw [q11] at hr
  refine ES ?_
  simp only [spec_l2Runs.l1]
  rw [e1, q03 (x := (p : Int) + (m : Int)) (by omega) (by omega), q01 (n := 100) (i := m) (by omega) (by omega), q01 (n := 100) (i := p) (by omega) (by omega)]
  refine EN (by omega) (EB (q08 _ _ _ _ ht) ?_)
  rw [hT _ hmod]
  by_cases hc : onB F n ring p m = true
  ·rw [if_pos hc] at hr
   have hc' := hc
   unfold onB at hc'
   rw [Bool.and_eq_true, Bool.or_eq_true, dq] at hc'
   refine EN (by rw [hc'.1]; simp) ?_
   have hj : m ≠ j := fun e => by rw [e, h4] at hc; cases hc
   have go := ih (m + 1) (by omega) ⟨j, by omega, by omega, h4⟩ hr
   by_cases hring : ring = true
   ·exact EP hring go
   ·exact EN hring (EP (by have := hc'.2.resolve_left hring; omega) go)
  ·rw [if_neg hc] at hr
   by_cases hF : F ((p + m) % n) = true
   ·refine EN (by rw [hF]; simp) ?_
    have hring : ¬ ring = true := fun e => hc (by unfold onB; rw [hF, e]; rfl)
    refine EN hring (EN (fun e => hc ?_) (EP (by omega) hr))
    unfold onB
    rw [hF, Bool.true_and, Bool.or_eq_true, dq]
    exact .inr (by omega)
   ·refine EP (by rw [Bool.eq_false_iff.2 hF]; rfl) (EP (by omega) hr)
theorem spec_runs_l0 (hno : ¬ (ring = true ∧ ∀ p, p < n → F p = true)) (d : Nat) : ∀ (i : Nat) (acc : List S70), i + d = n → acc.length ≤ i → Ev (fun k => spec_l2Runs.l0 k acc i n ring t) (acc ++ (List.range' i d).filterMap (q12 F n ring)) := by
 induction d with
 | zero =>
  intro i acc hi ha
  refine ES ?_
  simp only [spec_l2Runs.l0]
  refine EN (by omega) ?_
  simp
  exact Ev.now _
 | succ d ih =>
  intro i acc hi ha
  have eb : Int.tmod (wrap64 (wrap64 ((i : Int) - 1) + (n : Int))) (n : Int) = (((i + n - 1) % n : Nat) : Int) := by
   rw [q03 (x := (i : Int) - 1) (by omega) (by omega), show (i : Int) - 1 + (n : Int) = ((i + n - 1 : Nat) : Int) from by omega]
   exact tmod_wrap _ _ (by omega)
  have hb : (i + n - 1) % n < n := Nat.mod_lt _ (by omega)
  have next : ∀ c : List S70, c.length ≤ i + 1 → Ev (fun k => spec_l2Runs.l0 k c ((i + 1 : Nat) : Int) n ring t) (c ++ (List.range' (i + 1) d).filterMap (q12 F n ring)) := fun c hc => ih (i + 1) c (by omega) hc
  rw [List.range'_succ, filterMap_consO]
  refine ES ?_
  simp only [spec_l2Runs.l0]
  refine EP (by omega) (EN (by omega) (EB (q08 _ _ _ _ ht) ?_))
  rw [hT i (by omega)]
  have skip : q27 F n ring i = false → Ev (fun k => spec_l2Runs.j2 k acc i true n ring t) (acc ++ consO (q12 F n ring i) ((List.range' (i + 1) d).filterMap (q12 F n ring))) := by
   intro hs
   have e : q12 F n ring i = none := by unfold q12; rw [hs]; rfl
   rw [e]
   refine ES ?_
   simp only [spec_l2Runs.j2]
   refine EP (by simp) ?_
   rw [q01 (n := 100) (by omega) (by omega)]
   exact next acc (by omega)
  have take : q27 F n ring i = true → Ev (fun k => spec_l2Runs.j2 k acc i false n ring t) (acc ++ consO (q12 F n ring i) ((List.range' (i + 1) d).filterMap (q12 F n ring))) := by
   intro hs
   have e : q12 F n ring i = some ⟨i, (q11 (onB F n ring i) 60 0 : Nat)⟩ := by unfold q12; rw [hs]; rfl
   rw [e]
   refine ES ?_
   simp only [spec_l2Runs.j2]
   refine EN (by simp) ?_
   refine spec_run_walk h2 h24 ht hT acc (by omega) i (by omega) _ 60 0 (by omega) (run_ends h2 h24 hno i (by omega)) ?_
   refine Ev.same (next _ (by simp; omega)) ?_
   rw [List.append_assoc]
   rfl
  cases hF : F i with
  | false =>
   refine EP (by simp) ?_
   exact skip (by unfold q27; rw [hF]; rfl)
  | true =>
   refine EN (by simp) ?_
   rw [eb]
   refine EB (q08 _ _ _ _ ht) ?_
   rw [hT _ hb]
   cases hB : F ((i + n - 1) % n) with
   | false =>
    refine EP (by simp) ?_
    exact take (by unfold q27; rw [hF, hB]; rfl)
   | true =>
    refine EN (by simp) ?_
    by_cases hring : ring = true
    ·refine EP hring ?_
     exact skip (by unfold q27; rw [hF, hB, hring]; rfl)
    ·refine EN hring ?_
     have hr : ring = false := Bool.eq_false_iff.2 hring
     by_cases h0 : 0 < i
     ·rw [decide_eq_true (show (i : Int) > 0 by omega)]
      exact skip (by unfold q27; rw [hF, hB, hr, decide_eq_true h0]; rfl)
     ·rw [decide_eq_false (show ¬ (i : Int) > 0 by omega)]
      exact take (by unfold q27; rw [hF, hB, hr, decide_eq_false h0]; rfl)
theorem spec_runs_ev (hin : ∀ x ∈ t, 0 ≤ x ∧ x < n) : Ev (fun k => spec_l2Runs.f k n ring t) (runsL F n ring) := by
 have hempty : t.length = 0 ↔ ∀ p, p < n → F p = true := by
  constructor
  ·intro e p hp
   have := hT p hp
   rw [List.eq_nil_of_length_eq_zero e] at this
   simpa using this.symm
  ·intro e
   refine Nat.eq_zero_of_not_pos fun hpos => ?_
   have hm := List.getElem_mem (l := t) hpos
   have hb := hin _ hm
   have := hT t[0].toNat (by omega)
   rw [e _ (by omega), show ((t[0].toNat : Nat) : Int) = t[0] from by omega, decide_eq_true hm] at this
   cases this
 unfold spec_l2Runs.f runsL
 refine EH rfl ?_
 have main : ¬ (ring = true ∧ ∀ p, p < n → F p = true) → Ev (fun k => spec_l2Runs.l0 k [] 0 n ring t) ((List.range n).filterMap (q12 F n ring)) := fun hno => by
  have := spec_runs_l0 h2 h24 ht hT hno n 0 [] (by omega) (by simp)
  rw [List.nil_append, ← List.range_eq_range'] at this
  exact this
 by_cases hring : ring = true
 ·refine EP hring (ES ?_)
  simp only [spec_l2Runs.j0]
  by_cases he : t.length = 0
  ·rw [if_pos ⟨hring, hempty.1 he⟩]
   exact EP (by rw [beq_iff_eq]; omega) (Ev.now _)
  ·rw [if_neg (fun e => he (hempty.2 e.2))]
   exact EN (by rw [beq_iff_eq]; omega) (main fun e => he (hempty.2 e.2))
 ·rw [if_neg (fun e => hring e.1)]
  refine EN hring (ES ?_)
  simp only [spec_l2Runs.j0]
  exact EN (by simp) (main fun e => hring e.1)
end
section
variable {S : Nat} (hS : ∀ p, p < n → S.testBit p = F p) (hS' : ∀ p, n ≤ p → S.testBit p = false)
include hS hS'
omit h2 hS in
theorem set_lt32 : S < 4294967296 := show S < 2 ^ 32 from Nat.lt_of_lt_of_le (lt_of_bits S n hS') (Nat.pow_le_pow_right (by omega) (by omega))
omit h2 h24 in
theorem set_all : S = 2 ^ n - 1 ↔ ∀ p, p < n → F p = true := by
 constructor
 ·intro e p hp
  rw [← hS p hp, e, q23, decide_eq_true hp]
 ·intro e
  refine Nat.eq_of_testBit_eq fun i => ?_
  rw [q23]
  by_cases g : i < n
  ·rw [hS i g, e i g, decide_eq_true g]
  ·rw [hS' i (by omega), decide_eq_false g]
theorem impl_run_walk (acc : List S70) (ha : acc.length ≤ 1000) (p : Nat) (hp : p < n) (r : List S70) : ∀ f m : Nat, m + f ≤ 60 → (∃ j, m ≤ j ∧ j < m + f ∧ onB F n ring p j = false) →
  Ev (fun k => impl_bench_runs.l0 k (S : Int) (acc ++ [⟨p, (q11 (onB F n ring p) f m : Nat)⟩]) (n : Int) ((p + 1 : Nat) : Int) n ring) r → Ev (fun k => impl_bench_runs.l1 k (S : Int) acc p m ((p + m : Nat) : Int) n p n ring) r := by
 intro f
 induction f with
 | zero => rintro m _ ⟨j, h1, h3, _⟩; omega
 | succ f ih =>
  rintro m hm ⟨j, h1, h3, h4⟩ hr
  have hmod : (p + m) % n < n := Nat.mod_lt _ (by omega)
  rw [q11] at hr
  refine ES ?_
  simp only [impl_bench_runs.l1]
  rw [← Int.ofNat_tmod (p + m) n, q01 (n := 100) (i := m) (by omega) (by omega), q01 (n := 100) (i := p + m) (by omega) (by omega), q01 (n := 100) (i := p) (by omega) (by omega)]
  refine EN (by omega) (EH (q20 _ _ (by omega) (set_lt32 h24 hS')) ?_)
  rw [hS _ hmod]
  by_cases hc : onB F n ring p m = true
  ·rw [if_pos hc] at hr
   have hc' := hc
   unfold onB at hc'
   rw [Bool.and_eq_true, Bool.or_eq_true, dq] at hc'
   refine EP hc'.1 ?_
   have hj : m ≠ j := fun e => by rw [e, h4] at hc; cases hc
   have go := ih (m + 1) (by omega) ⟨j, by omega, by omega, h4⟩ hr
   by_cases hring : ring = true
   ·exact EP hring go
   ·exact EN hring (EP (by have := hc'.2.resolve_left hring; omega) go)
  ·rw [if_neg hc] at hr
   by_cases hF : F ((p + m) % n) = true
   ·refine EP hF ?_
    have hring : ¬ ring = true := fun e => hc (by unfold onB; rw [hF, e]; rfl)
    refine EN hring (EN (fun e => hc ?_) (EP (by omega) hr))
    unfold onB
    rw [hF, Bool.true_and, Bool.or_eq_true, dq]
    exact .inr (by omega)
   ·exact EN hF (EP (by omega) hr)
theorem impl_runs_l0 (hno : ¬ (ring = true ∧ ∀ p, p < n → F p = true)) (d : Nat) : ∀ (i : Nat) (acc : List S70), i + d = n → acc.length ≤ i → Ev (fun k => impl_bench_runs.l0 k (S : Int) acc n i n ring) (acc ++ (List.range' i d).filterMap (q12 F n ring)) := by
 induction d with
 | zero =>
  intro i acc hi ha
  refine ES ?_
  simp only [impl_bench_runs.l0]
  refine EN (by omega) ?_
  simp
  exact Ev.now _
 | succ d ih =>
  intro i acc hi ha
  have hlt := set_lt32 h24 hS'
  have next : ∀ c : List S70, c.length ≤ i + 1 → Ev (fun k => impl_bench_runs.l0 k (S : Int) c n ((i + 1 : Nat) : Int) n ring) (c ++ (List.range' (i + 1) d).filterMap (q12 F n ring)) := fun c hc => ih (i + 1) c (by omega) hc
  rw [List.range'_succ, filterMap_consO]
  have j4 : ∀ b : Bool, q27 F n ring i = !b → Ev (fun k => impl_bench_runs.j4 k (S : Int) acc i n i b n ring) (acc ++ consO (q12 F n ring i) ((List.range' (i + 1) d).filterMap (q12 F n ring))) := by
   intro b hs
   refine ES ?_
   simp only [impl_bench_runs.j4]
   cases b with
   | true =>
    have e : q12 F n ring i = none := by unfold q12; rw [hs]; rfl
    rw [e]
    refine EP (by simp) ?_
    rw [q01 (n := 100) (by omega) (by omega)]
    exact next acc (by omega)
   | false =>
    have e : q12 F n ring i = some ⟨i, (q11 (onB F n ring i) 60 0 : Nat)⟩ := by unfold q12; rw [hs]; rfl
    rw [e]
    refine EN (by simp) ?_
    refine impl_run_walk h2 h24 hS hS' acc (by omega) i (by omega) _ 60 0 (by omega) (run_ends h2 h24 hno i (by omega)) ?_
    refine Ev.same (next _ (by simp; omega)) ?_
    rw [List.append_assoc]
    rfl
  have j3 : ∀ b : Int, (b < 0 ∧ ring = false ∧ i = 0 ∨ ∃ q : Nat, b = q ∧ q = (i + n - 1) % n ∧ (ring = true ∨ 0 < i)) → Ev (fun k => impl_bench_runs.j3 k (S : Int) acc i b n i n ring) (acc ++ consO (q12 F n ring i) ((List.range' (i + 1) d).filterMap (q12 F n ring))) := by
   intro b hb
   refine ES ?_
   simp only [impl_bench_runs.j3]
   refine EH (q20 _ _ (by omega) hlt) ?_
   rw [hS i (by omega)]
   cases hF : F i with
   | false =>
    refine EN (by simp) ?_
    exact j4 true (by unfold q27; rw [hF]; rfl)
   | true =>
    refine EP (by simp) ?_
    rcases hb with ⟨hb, hr, h0⟩ | ⟨q, rfl, hq, hr⟩
    ·refine EN (by omega) ?_
     exact j4 false (by unfold q27; rw [hF, hr, h0]; simp)
    ·have hqn : q < n := by rw [hq]; exact Nat.mod_lt _ (by omega)
     refine EP (by omega) (EH (q20 _ _ (by omega) hlt) ?_)
     rw [hS q hqn]
     refine j4 _ ?_
     unfold q27
     rw [hF, ← hq]
     rcases hr with hr | hr
     ·rw [hr]; simp
     ·rw [decide_eq_true hr]; simp
  refine ES ?_
  simp only [impl_bench_runs.l0]
  refine EP (by omega) ?_
  by_cases hring : ring = true
  ·refine EP hring (ES ?_)
   simp only [impl_bench_runs.j2]
   by_cases h0 : i = 0
   ·refine EP (by rw [beq_iff_eq]; omega) ?_
    refine j3 _ (.inr ⟨n - 1, ?_, ?_, .inl hring⟩)
    ·rw [q03 (by omega) (by omega)]; omega
    ·rw [h0, Nat.zero_add, Nat.mod_eq_of_lt (by omega)]
   ·refine EN (by rw [beq_iff_eq]; omega) ?_
    refine j3 _ (.inr ⟨i - 1, ?_, ?_, .inl hring⟩)
    ·rw [q03 (by omega) (by omega)]; omega
    ·rw [show i + n - 1 = i - 1 + n from by omega, Nat.add_mod_right, Nat.mod_eq_of_lt (by omega)]
  ·refine EN hring (ES ?_)
   simp only [impl_bench_runs.j2]
   refine EN (by simp) ?_
   by_cases h0 : i = 0
   ·refine j3 _ (.inl ⟨?_, Bool.eq_false_iff.2 hring, h0⟩)
    rw [q03 (by omega) (by omega)]; omega
   ·refine j3 _ (.inr ⟨i - 1, ?_, ?_, .inr (by omega)⟩)
    ·rw [q03 (by omega) (by omega)]; omega
    ·rw [show i + n - 1 = i - 1 + n from by omega, Nat.add_mod_right, Nat.mod_eq_of_lt (by omega)]
theorem impl_runs_ev : Ev (fun k => impl_bench_runs.f k n ring (S : Int)) (runsL F n ring) := by
 have hsa := set_all hS hS'
 unfold impl_bench_runs.f runsL
 refine EH rfl ?_
 have main : ¬ (ring = true ∧ ∀ p, p < n → F p = true) → Ev (fun k => impl_bench_runs.l0 k (S : Int) [] n 0 n ring) ((List.range n).filterMap (q12 F n ring)) := fun hno => by
  have := impl_runs_l0 h2 h24 hS hS' hno n 0 [] (by omega) (by simp)
  rw [List.nil_append, ← List.range_eq_range'] at this
  exact this
 by_cases hring : ring = true
 ·refine EP hring (EH (a := ((2 ^ n - 1 : Nat) : Int)) ?_ (ES ?_))
  ·unfold impl_bench_all.f
   rw [if_pos (by omega), all_cast _ (by omega) (by omega), tn]
  simp only [impl_bench_runs.j0]
  by_cases he : S = 2 ^ n - 1
  ·rw [show (if ring = true ∧ ∀ p, p < n → F p = true then [(⟨0, n⟩ : S70)] else (List.range n).filterMap (q12 F n ring)) = [⟨0, n⟩] from if_pos ⟨hring, hsa.1 he⟩]
   exact EP (by rw [beq_iff_eq, he]) (EP (by decide) (Ev.now _))
  ·rw [show (if ring = true ∧ ∀ p, p < n → F p = true then [(⟨0, n⟩ : S70)] else (List.range n).filterMap (q12 F n ring)) = (List.range n).filterMap (q12 F n ring) from if_neg (fun e => he (hsa.2 e.2))]
   exact EN (by rw [beq_iff_eq]; omega) (main fun e => he (hsa.2 e.2))
 ·rw [if_neg (fun e => hring e.1)]
  refine EN hring (ES ?_)
  simp only [impl_bench_runs.j0]
  exact EN (by simp) (main fun e => hring e.1)
end
end
section
variable {F : Nat → Bool} {n : Nat} {ring : Bool} (h24 : n ≤ 24)
include h24
variable {t : List Int} (ht : t.length ≤ 1048576) (hT : ∀ p, p < n → decide ((p : Int) ∈ t) = !F p)
include ht hT
theorem spec_blocks_ev (h2 : 2 ≤ n) : Ev (fun k => spec_l4Blocks.f k n ring t) (runsL (q02 F n ring) n ring) := by
 have hl := q10 (q02 F n ring) n
 have main : ∀ d i, i + d = n → Ev (fun k => spec_l4Blocks.l0 k (q04 (fun q => !q02 F n ring q) i) (q04 (q02 F n ring) n) i n ring t) (runsL (q02 F n ring) n ring) := by
  intro d
  induction d with
  | zero =>
   intro i hi
   have : i = n := by omega
   subst this
   refine ES ?_
   simp only [spec_l4Blocks.l0]
   refine EN (by omega) (EH (by rw [spec_l2Made.f]) ?_)
   dsimp only
   have hlen := q10 (fun q => !q02 F i ring q) i
   refine EB (spec_runs_ev h2 h24 (F := q02 F i ring) (by omega) (fun p hp => ?_) (fun x hx => ?_)) (Ev.now _)
   ·rw [Bool.eq_iff_iff, dq, q09]
    constructor
    ·rintro ⟨q, _, h, e⟩
     rw [show p = q from by omega]
     exact h
    ·intro h
     exact ⟨p, hp, h, rfl⟩
   ·obtain ⟨q, hq, _, e⟩ := (q09 _ _ _).1 hx
    omega
  | succ d ih =>
   intro i hi
   have go := ih (i + 1) (by omega)
   have hlen := q10 (fun q => !q02 F n ring q) i
   rw [q22] at go
   refine ES ?_
   simp only [spec_l4Blocks.l0]
   refine EP (by omega) (EB (Ev.bound 100 fun k hk => q24 _ _ (by omega) k (by omega)) ?_)
   have hm : decide ((i : Int) ∈ q04 (q02 F n ring) n) = q02 F n ring i := by
    rw [Bool.eq_iff_iff, dq, q09]
    constructor
    ·rintro ⟨q, _, h, e⟩
     rw [show i = q from by omega]
     exact h
    ·intro h
     exact ⟨i, by omega, h, rfl⟩
   rw [hm, q01 (n := 100) (by omega) (by omega)]
   cases hL : q02 F n ring i with
   | true =>
    rw [if_neg (by rw [hL]; simp)] at go
    exact EP (by simp) go
   | false =>
    rw [if_pos (by rw [hL]; rfl)] at go
    exact EN (by simp) (EP (by omega) go)
 unfold spec_l4Blocks.f
 exact EB (spec_lonely_ev h24 ht hT) (main n 0 (by omega))
end
theorem firstNot_min (c : Nat → Bool) (j : Nat) (hj : c j = false) : ∀ f i, i ≤ j → j < i + f → q11 c f i ≤ j
 | 0, i, h, h' => by omega
 | f + 1, i, h, h' => by
  rw [q11]
  split
  ·rename_i hc
   have : i ≠ j := fun e => by rw [e, hj] at hc; exact absurd hc (by simp)
   exact firstNot_min c j hj f (i + 1) (by omega) (by omega)
  ·exact h
theorem rd2_get (R : List S70) (i : Nat) (h : i < R.length) : rd_T70 R (i : Int) = R[i] := by
 unfold rd_T70
 rw [tn]
 simp [List.getD, h]
section
variable {F : Nat → Bool} {n : Nat} {ring : Bool} (h2 : 2 ≤ n) (h24 : n ≤ 24)
include h2 h24
theorem runs_short (hno : ¬ (ring = true ∧ ∀ p, p < n → F p = true)) : ∀ r ∈ runsL F n ring, 0 ≤ r.f1 ∧ r.f1 ≤ 24 ∧ (ring = true → r.f1 < n) := by
 unfold runsL
 rw [if_neg hno]
 intro r hr
 obtain ⟨p, hp, e⟩ := List.mem_filterMap.1 hr
 have hp := List.mem_range.1 hp
 unfold q12 at e
 split at e
 ·have e := Option.some.inj e
  subst e
  have : q11 (onB F n ring p) 60 0 ≤ 24 ∧ (ring = true → q11 (onB F n ring p) 60 0 < n) := by
   cases ring with
   | false =>
    have := firstNot_min (onB F n false p) (n - p) (by simp [onB]; omega) 60 0 (by omega) (by omega)
    exact ⟨by omega, fun e => absurd e (by simp)⟩
   | true =>
    have : ∃ q, q < n ∧ F q = false := by
     refine Classical.byContradiction fun e => hno ⟨rfl, fun q hq => ?_⟩
     cases g : F q with
     | true => rfl
     | false => exact absurd ⟨q, hq, g⟩ e
    obtain ⟨q, hq, g⟩ := this
    have e : (p + if p ≤ q then q - p else q + n - p) % n = q := by
     split
     ·rw [show p + (q - p) = q from by omega, Nat.mod_eq_of_lt hq]
     ·rw [show p + (q + n - p) = q + n from by omega, Nat.add_mod_right, Nat.mod_eq_of_lt hq]
    have hb : (if p ≤ q then q - p else q + n - p) < n := by split <;> omega
    have := firstNot_min (onB F n true p) (if p ≤ q then q - p else q + n - p) (by unfold onB; rw [e, g]; rfl) 60 0 (by omega) (by omega)
    exact ⟨by omega, fun _ => by omega⟩
  dsimp only
  exact ⟨by omega, by omega, fun e => by have := this.2 e; omega⟩
 ·exact absurd e (by simp)
theorem runs_len : (runsL F n ring).length ≤ 24 := by
 unfold runsL
 split
 ·simp
 ·have := List.length_filterMap_le (q12 F n ring) (List.range n)
  rw [List.length_range] at this
  omega
end
def gameB (game : Int) (F : Nat → Bool) (n : Nat) (ring : Bool) : Nat → Bool := if game = 1 then q02 F n ring else F
theorem impl_all_eq (n : Nat) (ring : Bool) (h24 : n ≤ 24) : impl_bench_all.f (n : Int) ring = some ((2 ^ n - 1 : Nat) : Int) := by
 unfold impl_bench_all.f
 rw [if_pos (by omega), all_cast _ (by omega) (by omega), tn]
theorem impl_pieces_ev {game : Int} (hg : game = 1 ∨ game = 2) {F : Nat → Bool} {n : Nat} {ring : Bool} (h2 : 2 ≤ n) (h24 : n ≤ 24) {S : Nat} (hlt : S < 4294967296) (hS : ∀ p, p < n → S.testBit p = !F p) : Ev (fun k => impl_bench_pieces.f k n ring (S : Int) game) (runsL (gameB game F n ring) n ring, decide (ring = true ∧ ∀ p, p < n → gameB game F n ring p = true)) := by
 have all := impl_all_eq n ring h24
 have hn2 : 2 ^ n ≤ 2 ^ 24 := Nat.pow_le_pow_right (by omega) h24
 have core : ∀ (G : Nat → Bool) (X : Nat), (∀ p, p < n → X.testBit p = G p) → (∀ p, n ≤ p → X.testBit p = false) → (((X : Int) == ((2 ^ n - 1 : Nat) : Int)) = decide (∀ p, p < n → G p = true)) := by
  intro G X h1 h2'
  rw [Bool.eq_iff_iff, beq_iff_eq, dq, ← set_all h1 h2']
  omega
 unfold impl_bench_pieces.f
 refine EH all ?_
 have tail : ∀ (G : Nat → Bool) (X : Nat), (∀ p, p < n → X.testBit p = G p) → (∀ p, n ≤ p → X.testBit p = false) → Ev (fun k => (impl_bench_runs.f k n ring (X : Int)).bind fun t257 => (if ring = true then ((impl_bench_all.f n ring).bind fun t260 => (some (t257, ((X : Int) == t260)))) else (some (t257, false)))) (runsL G n ring, decide (ring = true ∧ ∀ p, p < n → G p = true)) := by
  intro G X h1 h2'
  refine EB (impl_runs_ev h2 h24 h1 h2') ?_
  cases ring with
  | true =>
   refine EP rfl (EH all ?_)
   rw [core G X h1 h2']
   refine Ev.same (Ev.now _) ?_
   simp
  | false =>
   refine EN (by simp) (Ev.same (Ev.now _) ?_)
   simp
 rcases hg with rfl | rfl
 ·refine EP rfl (EB (impl_lonely_ev h24 hlt hS) ?_)
  refine tail (gameB 1 F n ring) _ (fun p hp => ?_) (fun p hp => ?_)
  ·rw [q05, decide_eq_true hp, Bool.true_and]; rfl
  ·rw [q05, decide_eq_false (by omega), Bool.false_and]
 ·refine EN (by omega) ?_
  rw [andNot_cast _ _ (by omega) hlt]
  refine tail (gameB 2 F n ring) _ (fun p hp => ?_) (fun p hp => ?_)
  ·rw [q16, q23, decide_eq_true hp, hS p hp, Bool.true_and, Bool.not_not]; rfl
  ·rw [q16, q23, decide_eq_false (by omega), Bool.false_and]
def xorL (L : List Int) (R : List S70) (a : Int) : Int := R.foldl (fun a r => Go.bits .xor .i64 a (rd L r.f1)) a
theorem xorL_step (L : List Int) (R : List S70) (a : Int) (i : Nat) (h : i < R.length) : xorL L (R.drop i) a = xorL L (R.drop (i + 1)) (Go.bits .xor .i64 a (rd L (R[i]).f1)) := by
 unfold xorL
 rw [List.drop_eq_getElem_cons h, List.foldl_cons]
theorem spec_number_l0 (L : List Int) (R : List S70) (hL : L.length = 25) (hlen : R.length ≤ 24) (game : Int) (n : Nat) (ring : Bool) (t : List Int) (hR : ∀ r ∈ R, 0 ≤ r.f1 ∧ r.f1 ≤ 24 ∧ (ring = true → r.f1 < n)) (d : Nat) : ∀ (i : Nat) (a : Int), i + d = R.length → Ev (fun k => spec_l11Number.l0 k game L R a i n ring t) (xorL L (R.drop i) a) := by
 induction d with
 | zero =>
  intro i a hi
  refine ES ?_
  simp only [spec_l11Number.l0]
  rw [List.drop_of_length_le (by omega)]
  exact EN (by omega) (Ev.now _)
 | succ d ih =>
  intro i a hi
  have hm := hR (R[i]'(by omega)) (List.getElem_mem _)
  have go := ih (i + 1) (Go.bits .xor .i64 a (rd L (R[i]'(by omega)).f1)) (by omega)
  rw [← xorL_step L R a i (by omega)] at go
  refine ES ?_
  simp only [spec_l11Number.l0]
  rw [rd2_get R i (by omega)]
  refine EP (by omega) (EP (by omega) (EP hm.1 (EP (by omega) ?_)))
  have step : Ev (fun k => spec_l11Number.j2 k game L R a i (rd L (R[i]'(by omega)).f1) false n ring t) (xorL L (R.drop i) a) := by
   refine ES ?_
   simp only [spec_l11Number.j2]
   rw [q01 (n := 100) (by omega) (by omega)]
   exact EN (by simp) go
  cases ring with
  | true =>
   rw [show ((R[i]'(by omega)).f1 == (n : Int)) = false from beq_eq_false_iff_ne.2 (by have := hm.2.2 rfl; omega)]
   exact EP rfl step
  | false => exact EN (by simp) step
theorem impl_number_l0 (L : List Int) (R : List S70) (hL : L.length = 25) (hlen : R.length ≤ 24) (hR : ∀ r ∈ R, 0 ≤ r.f1 ∧ r.f1 ≤ 24) (d : Nat) : ∀ (i : Nat) (a : Int), i + d = R.length → Ev (fun k => impl_bench_number.l0 k L a R R.length i) (xorL L (R.drop i) a) := by
 induction d with
 | zero =>
  intro i a hi
  refine ES ?_
  simp only [impl_bench_number.l0]
  rw [List.drop_of_length_le (by omega)]
  exact EN (by omega) (Ev.now _)
 | succ d ih =>
  intro i a hi
  have hm := hR (R[i]'(by omega)) (List.getElem_mem _)
  have go := ih (i + 1) (Go.bits .xor .i64 a (rd L (R[i]'(by omega)).f1)) (by omega)
  rw [← xorL_step L R a i (by omega)] at go
  refine ES ?_
  simp only [impl_bench_number.l0]
  rw [rd2_get R i (by omega), q01 (n := 100) (by omega) (by omega)]
  exact EP (by omega) (EP (by omega) (EP (by omega) (EP hm.1 (EP (by omega) go))))
def lostG (game : Int) : Nat := if game = 1 then 3 else 2
def numR (L : List Int) (game : Int) (F : Nat → Bool) (n : Nat) (ring : Bool) : Int :=
 if ring = true ∧ ∀ p, p < n → gameB game F n ring p = true then (if rd L ((n - lostG game : Nat) : Int) = 0 then 1 else 0) else xorL L (runsL (gameB game F n ring) n ring) 0
theorem spec_least_ev (v : Int) : Ev (fun k => spec_l11Least.f k [v]) (if v = 0 then 1 else 0) := by
 have has : ∀ p, Ev (fun k => spec_l1Has.f k [v] p) (decide (p ∈ [v])) := fun p => Ev.bound 10 fun k hk => q24 _ _ (by simp) k (by simp; omega)
 unfold spec_l11Least.f
 by_cases h : v = 0
 ·subst h
  rw [if_pos rfl]
  refine ES ?_
  simp only [spec_l11Least.l0]
  refine EB (has 0) (EP (by simp) (ES ?_))
  simp only [spec_l11Least.l0]
  rw [show wrap64 (0 + 1) = 1 from by rw [q03 (by omega) (by omega)]; rfl]
  exact EB (has 1) (EN (by decide) (Ev.now _))
 ·rw [if_neg h]
  refine ES ?_
  simp only [spec_l11Least.l0]
  exact EB (has 0) (EN (by simp; omega) (Ev.now _))
theorem xor_zero_small (x : Int) (h : x = 0 ∨ x = 1) : Go.bits .xor .i64 0 x = x := by
 rcases h with rfl | rfl <;> decide
section
variable {L : List Int} (hL : L.length = 25) {game : Int} (hg : game = 1 ∨ game = 2) {F : Nat → Bool} {n : Nat} {ring : Bool} (h2 : 2 ≤ n) (h24 : n ≤ 24) (h3 : ring = true → 3 ≤ n)
include hL hg h2 h24 h3
theorem spec_number_ev {t : List Int} (ht : t.length ≤ 1048576) (hT : ∀ p, p < n → decide ((p : Int) ∈ t) = !F p) (hin : ∀ x ∈ t, 0 ≤ x ∧ x < n) (eL : Ev (fun k => spec_l11Lines.f k game) L) : Ev (fun k => spec_l11Number.f k n ring t game) (numR L game F n ring) := by
 have main : Ev (fun k => spec_l11Number.j0 k game L (runsL (gameB game F n ring) n ring) n ring t) (numR L game F n ring) := by
  refine ES ?_
  simp only [spec_l11Number.j0]
  unfold numR
  by_cases hw : ring = true ∧ ∀ p, p < n → gameB game F n ring p = true
  ·rw [if_pos hw]
   have e : runsL (gameB game F n ring) n ring = [⟨0, n⟩] := if_pos hw
   rw [e]
   have h3 := h3 hw.1
   have small : (if rd L ((n - lostG game : Nat) : Int) = 0 then (1 : Int) else 0) = 0 ∨ (if rd L ((n - lostG game : Nat) : Int) = 0 then (1 : Int) else 0) = 1 := by
    split
    ·exact .inr rfl
    ·exact .inl rfl
   refine ES ?_
   simp only [spec_l11Number.l0]
   refine EP (by simp) (EP (by omega) ?_)
   rw [show rd_T70 [(⟨0, n⟩ : S70)] 0 = ⟨0, n⟩ from rfl]
   dsimp only
   refine EP (by omega) (EP (by omega) (EP hw.1 (ES ?_)))
   simp only [spec_l11Number.j2]
   refine EP (by simp) ?_
   have fin : Ev (fun k => spec_l11Number.l0 k game L [(⟨0, n⟩ : S70)] (Go.bits .xor .i64 0 (if rd L ((n - lostG game : Nat) : Int) = 0 then (1 : Int) else 0)) (wrap64 (0 + 1)) n ring t) (if rd L ((n - lostG game : Nat) : Int) = 0 then (1 : Int) else 0) := by
    rw [xor_zero_small _ small]
    refine ES ?_
    simp only [spec_l11Number.l0]
    exact EN (by rw [q03 (by omega) (by omega)]; simp) (Ev.now _)
   rcases hg with rfl | rfl
   ·refine EN (by omega) ?_
    have e3 : (n : Int) - 3 = ((n - lostG 1 : Nat) : Int) := by show _ = ((n - 3 : Nat) : Int); omega
    rw [q03 (by omega) (by omega), e3]
    exact EP (by omega) (EP (by omega) (EB (spec_least_ev _) fin))
   ·refine EP rfl ?_
    have e3 : (n : Int) - 2 = ((n - lostG 2 : Nat) : Int) := by show _ = ((n - 2 : Nat) : Int); omega
    rw [q03 (by omega) (by omega), e3]
    exact EP (by omega) (EP (by omega) (EB (spec_least_ev _) fin))
  ·rw [if_neg hw]
   have := spec_number_l0 L _ hL (runs_len h2 h24 (F := gameB game F n ring) (ring := ring)) game n ring t (runs_short h2 h24 hw) _ 0 0 (Nat.zero_add _)
   rw [List.drop_zero] at this
   exact this
 unfold spec_l11Number.f
 refine EB eL (EB (spec_runs_ev h2 h24 ht hT hin) ?_)
 rcases hg with rfl | rfl
 ·exact EP rfl (EB (spec_blocks_ev h24 ht hT h2) main)
 ·exact EN (by omega) main
theorem impl_number_ev {S : Nat} (hlt : S < 4294967296) (hS : ∀ p, p < n → S.testBit p = !F p) (eL : Ev (fun k => impl_lineNumbers.f k game) L) : Ev (fun k => impl_bench_number.f k n ring (S : Int) game) (numR L game F n ring) := by
 have pieces := impl_pieces_ev hg h2 h24 (ring := ring) hlt hS
 unfold impl_bench_number.f
 refine EB eL (EB pieces ?_)
 dsimp only
 unfold numR
 by_cases hw : ring = true ∧ ∀ p, p < n → gameB game F n ring p = true
 ·rw [if_pos hw]
  have h3 := h3 hw.1
  refine EP (decide_eq_true hw) ?_
  have fin : ∀ v : Int, Ev (fun _ => if v = 0 then some (1 : Int) else some 0) (if v = 0 then 1 else 0) := fun v => by
   by_cases h : v = 0
   ·exact Ev.same (EP h (Ev.now _)) (if_pos h).symm
   ·exact Ev.same (EN h (Ev.now _)) (if_neg h).symm
  rcases hg with rfl | rfl
  ·have e3 : (n : Int) - 3 = ((n - lostG 1 : Nat) : Int) := by show _ = ((n - 3 : Nat) : Int); omega
   rw [q03 (by omega) (by omega), e3]
   exact EP rfl (EP (by omega) (EP (by omega) (fin _)))
  ·have e3 : (n : Int) - 2 = ((n - lostG 2 : Nat) : Int) := by show _ = ((n - 2 : Nat) : Int); omega
   refine EN (by omega) ?_
   rw [q03 (x := (n : Int) - 2) (by omega) (by omega), e3]
   exact EP (by omega) (EP (by omega) (fin _))
 ·rw [if_neg hw]
  refine EN (by rw [dq]; exact hw) ?_
  have := impl_number_l0 L _ hL (runs_len h2 h24 (F := gameB game F n ring) (ring := ring)) (fun r hr => ⟨(runs_short h2 h24 hw r hr).1, (runs_short h2 h24 hw r hr).2.1⟩) _ 0 0 (Nat.zero_add _)
  rw [List.drop_zero] at this
  exact this
end
def L1 : List Int := [0,1,1,2,0,3,1,1,0,3,3,2,2,4,0,5,2,2,3,3,0,1,1,3,0]
def L2 : List Int := [0,0,1,1,2,0,3,1,1,0,3,3,2,2,4,0,5,2,2,3,3,0,1,1,3]
def LG (game : Int) : List Int := if game = 1 then L1 else L2
theorem LG_len (game : Int) : (LG game).length = 25 := by unfold LG; split <;> rfl
theorem ev_mono {α : Type} {g : Nat → Option α} {r : α} (hm : ∀ k, LeO (g k) (g (k + 1))) (K : Nat) (h : g K = some r) : Ev g r := by
 have : ∀ d, g (K + d) = some r := by
  intro d
  induction d with
  | zero => exact h
  | succ d ih => exact hm (K + d) r ih
 exact ⟨K, fun k hk => by rw [show k = K + (k - K) from by omega]; exact this _⟩
theorem spec_lines_ev (game : Int) (hg : game = 1 ∨ game = 2) : Ev (fun k => spec_l11Lines.f k game) (LG game) := by
 rcases hg with rfl | rfl
 ·exact ev_mono (spec_l11Lines.mono _) 3000 (by decide +kernel)
 ·exact ev_mono (spec_l11Lines.mono _) 3000 (by decide +kernel)
theorem impl_lines_ev (game : Int) (hg : game = 1 ∨ game = 2) : Ev (fun k => impl_lineNumbers.f k game) (LG game) := by
 rcases hg with rfl | rfl
 ·exact ev_mono (impl_lineNumbers.mono _) 3000 (by decide +kernel)
 ·exact ev_mono (impl_lineNumbers.mono _) 3000 (by decide +kernel)
theorem numbers_ev {s : Int} {ring : Bool} {t : List Int} (h : q14 s ring t) (g : Int) (hg : g = 1 ∨ g = 2) : Ev (fun k => spec_l11Number.f k s ring t g) (numR (LG g) g (q07 t) s.toNat ring) ∧ Ev (fun k => impl_bench_number.f k s ring ((setN t : Nat) : Int) g) (numR (LG g) g (q07 t) s.toNat ring) := by
 obtain ⟨n, rfl, h2, h24, h3, hin⟩ := row_facts h
 have hl := row_len _ ring t h
 exact ⟨spec_number_ev (LG_len g) hg h2 h24 h3 (by omega) (fun p _ => by unfold q07; simp) hin (spec_lines_ev g hg),
  impl_number_ev (LG_len g) hg h2 h24 h3 (taken_lt _ ring t h).2 (fun p _ => taken_bit (fun x hx => (hin x hx).1) p) (impl_lines_ev g hg)⟩
theorem spec_l1Own_eq (l : List Int) (h : l.length < 17592186044416) : spec_l1Own.f l = some l := by
 unfold spec_l1Own.f
 rw [ob, if_pos (by simpa using h)]
 rfl
structure Seats (t : List Int) : Prop where
 low : ∀ x ∈ t, 0 ≤ x ∧ x < 32
 nodup : t.Nodup
theorem setN_ext (S : Nat) (l : List Int) (h : ∀ i, S.testBit i = true ↔ ∃ p ∈ l, p.toNat = i) : S = setN l := by
 refine Nat.eq_of_testBit_eq fun i => ?_
 rw [q29, Bool.eq_iff_iff, h, dq]
def putL (t : List Int) (p : Int) : List Int := (t.filter fun x => decide (x < p)) ++ p :: t.filter fun x => decide (p < x)
theorem rising_split (t : List Int) (p : Int) (hr : ∀ i j, (h : i < j) → (hj : j < t.length) → t[i]'(by omega) < t[j]) (i : Nat) (hi : i ≤ t.length) (h1 : ∀ j, (h : j < i) → t[j]'(by omega) < p) (h2 : ∀ j, i ≤ j → (hj : j < t.length) → p < t[j]) :
  t.take i = (t.filter fun x => decide (x < p)) ∧ t.drop i = (t.filter fun x => decide (p < x)) := by
 have e := (List.take_append_drop i t).symm
 have a1 : ∀ x ∈ t.take i, x < p := fun x hx => by
  obtain ⟨j, hj, rfl⟩ := List.getElem_of_mem hx
  rw [List.length_take] at hj
  rw [List.getElem_take]
  exact h1 j (by omega)
 have a2 : ∀ x ∈ t.drop i, p < x := fun x hx => by
  obtain ⟨j, hj, rfl⟩ := List.getElem_of_mem hx
  rw [List.length_drop] at hj
  rw [List.getElem_drop]
  exact h2 _ (by omega) (by omega)
 constructor
 ·conv => rhs; rw [e]
  rw [List.filter_append, List.filter_eq_self.2 (fun x hx => decide_eq_true (a1 x hx)), List.filter_eq_nil_iff.2 (fun x hx => by have := a2 x hx; simp; omega), List.append_nil]
 ·conv => rhs; rw [e]
  rw [List.filter_append, List.filter_eq_nil_iff.2 (fun x hx => by have := a1 x hx; simp; omega), List.filter_eq_self.2 (fun x hx => decide_eq_true (a2 x hx)), List.nil_append]
theorem spec_l1Put_l0 (t : List Int) (p : Int) (ht : t.length ≤ 1048576) (hr : ∀ i j, (h : i < j) → (hj : j < t.length) → t[i]'(by omega) < t[j]) (hp : p ∉ t) (d : Nat) : ∀ (k i : Nat), i ≤ t.length → t.length - i = d → d < k → (∀ j, (h : j < i) → (hj : j < t.length) → t[j] < p) →
  spec_l1Put.l0 k t p (i : Int) = some (putL t p) := by
 have done : ∀ i, i ≤ t.length → (∀ j, (h : j < i) → (hj : j < t.length) → t[j] < p) → (∀ j, i ≤ j → (hj : j < t.length) → p < t[j]) → [] ++ t.take i ++ [p] ++ t.drop i = putL t p := by
  intro i hi h1 h2
  obtain ⟨e1, e2⟩ := rising_split t p hr i hi (fun j hj => h1 j hj (by omega)) h2
  rw [e1, e2]
  simp [putL]
 induction d with
 | zero =>
  intro k i hi hd hk h1
  obtain ⟨k, rfl, _⟩ := fuel hk
  simp only [spec_l1Put.l0]
  rw [if_neg (by omega), ob, if_pos (by omega), if_pos (by omega), if_pos (by simp; omega), ob, ob, if_pos (by simp; omega), ob, if_pos (by simp; omega), tn, done i hi h1 (fun j hj hj' => by omega)]
 | succ d ih =>
  intro k i hi hd hk h1
  obtain ⟨k, rfl, _⟩ := fuel hk
  simp only [spec_l1Put.l0]
  rw [if_pos (by omega), if_pos (by omega), q13 t i (by omega)]
  by_cases g : t[i]'(by omega) < p
  ·rw [if_pos g, q01 (n := t.length) (by omega) (by omega)]
   refine ih k (i + 1) (by omega) (by omega) (by omega) fun j hj hj' => ?_
   by_cases e : j = i
   ·subst e; exact g
   ·exact h1 j (by omega) hj'
  ·have hne : t[i]'(by omega) ≠ p := fun e => hp (e ▸ List.getElem_mem _)
   rw [if_neg g, if_neg hne, ob, if_pos (by omega), if_pos (by simp; omega), ob, ob, if_pos (by simp; omega), ob, if_pos (by simp; omega), tn, done i hi h1]
   intro j hj hj'
   by_cases e : j = i
   ·subst e; omega
   ·have := hr i j (by omega) hj'
    omega
theorem spec_l1Put_eq (t : List Int) (p : Int) (ht : t.length ≤ 1048576) (hr : ∀ i j, (h : i < j) → (hj : j < t.length) → t[i]'(by omega) < t[j]) (hp : p ∉ t) (k : Nat) (hk : t.length < k) : spec_l1Put.f k t p = some (putL t p) :=
 spec_l1Put_l0 t p ht hr hp t.length k 0 (by omega) (by omega) hk (fun j h => by omega)
theorem spec_l2With_eq (s : Int) (ring : Bool) (t : List Int) (p : Int) (ht : t.length ≤ 1048576) (hr : ∀ i j, (h : i < j) → (hj : j < t.length) → t[i]'(by omega) < t[j]) (hp : p ∉ t) (k : Nat) (hk : t.length < k) : spec_l2With.f k s ring t p = some (s, ring, putL t p) := by
 unfold spec_l2With.f
 rw [spec_l1Own_eq t (by omega), ob, spec_l1Put_eq t p ht hr hp k hk, ob, spec_l2Made.f, ob]
theorem mem_put (t : List Int) (p x : Int) (hp : p ∉ t) : x ∈ putL t p ↔ x = p ∨ x ∈ t := by
 unfold putL
 rw [List.mem_append, List.mem_cons, List.mem_filter, List.mem_filter, dq, dq]
 constructor
 ·rintro (e | e | e)
  ·exact .inr e.1
  ·exact .inl e
  ·exact .inr e.1
 ·rintro (e | e)
  ·exact .inr (.inl e)
  ·rcases Int.lt_trichotomy x p with g | g | g
   ·exact .inl ⟨e, g⟩
   ·exact .inr (.inl g)
   ·exact .inr (.inr ⟨e, g⟩)
theorem rising_of (t : List Int) (h : t.Pairwise (· < ·)) : ∀ i j, (h : i < j) → (hj : j < t.length) → t[i]'(by omega) < t[j] := fun i j hij hj => List.pairwise_iff_getElem.1 h i j (by omega) hj hij
theorem put_pairwise (t : List Int) (p : Int) (h : t.Pairwise (· < ·)) : (putL t p).Pairwise (· < ·) := by
 unfold putL
 rw [List.pairwise_append]
 refine ⟨List.Pairwise.filter _ h, List.pairwise_cons.2 ⟨fun x hx => ?_, List.Pairwise.filter _ h⟩, fun a ha b hb => ?_⟩
 ·exact of_decide_eq_true (List.mem_filter.1 hx).2
 ·have h1 := of_decide_eq_true (List.mem_filter.1 ha).2
  rcases List.mem_cons.1 hb with e | e
  ·omega
  ·have h2 := of_decide_eq_true (List.mem_filter.1 e).2
   omega
theorem row_pairwise {s : Int} {ring : Bool} {t : List Int} (h : q14 s ring t) : t.Pairwise (· < ·) := List.pairwise_iff_getElem.2 fun i j hi hj hij => rising_lt t _ _ h.2.2 i j hij hj
theorem put_set (t : List Int) (p : Int) (hp : p ∉ t) : setN t ||| 2 ^ p.toNat = setN (putL t p) := by
 refine setN_ext _ _ fun i => ?_
 rw [Nat.testBit_or, q29, Nat.testBit_two_pow, Bool.or_eq_true, dq, dq]
 constructor
 ·rintro (⟨x, hx, e⟩ | e)
  ·exact ⟨x, (mem_put t p x hp).2 (.inr hx), e⟩
  ·exact ⟨p, (mem_put t p p hp).2 (.inl rfl), e⟩
 ·rintro ⟨x, hx, e⟩
  rcases (mem_put t p x hp).1 hx with g | g
  ·subst g; exact .inr e
  ·exact .inl ⟨x, g, e⟩
def madeL (game : Int) (n : Nat) (t : List Int) (p : Nat) : List Int := if game = 2 then putL (putL t p) (((p + 1) % n : Nat) : Int) else putL t p
theorem rising_mk (l : List Int) (a b : Int) (hp : l.Pairwise (· < ·)) (hb : ∀ x ∈ l, a ≤ x ∧ x ≤ b) : Rising l a b := by
 intro i h
 refine ⟨hb _ (List.getElem_mem _), fun h0 => ?_⟩
 have := List.pairwise_iff_getElem.1 hp (i - 1) i (by omega) h (by omega)
 simpa [List.getD, show i - 1 < l.length from by omega] using this
theorem row_put {s : Int} {ring : Bool} {t : List Int} (h : q14 s ring t) (p : Int) (h0 : 0 ≤ p) (h1 : p < s) (hp : p ∉ t) : q14 s ring (putL t p) ∧ t.length < (putL t p).length := by
 have hm := q21 t _ _ h.2.2
 refine ⟨⟨h.1, h.2.1, rising_mk _ _ _ (put_pairwise t p (row_pairwise h)) fun x hx => ?_⟩, ?_⟩
 ·rcases (mem_put t p x hp).1 hx with e | e
  ·omega
  ·exact hm x e
 ·have hn : (p :: t).Nodup := List.nodup_cons.2 ⟨hp, rising_nodup t _ _ h.2.2⟩
  have := List.Nodup.length_le_of_subset hn (l₂ := putL t p) fun x hx => by
   rcases List.mem_cons.1 hx with e | e
   ·exact (mem_put t p x hp).2 (.inl e)
   ·exact (mem_put t p x hp).2 (.inr e)
  rw [List.length_cons] at this
  omega
theorem move_facts {game : Int} (hg : game = 1 ∨ game = 2) {n : Nat} {ring : Bool} {t : List Int} {p : Nat} (h2 : 2 ≤ n) (hp : p < n) (hM : q06 game (q07 t) n ring p = true) : (p : Int) ∉ t ∧ (game = 2 → (((p + 1) % n : Nat) : Int) ∉ putL t p) := by
 have fr : ∀ q : Nat, q07 t q = true → (q : Int) ∉ t := fun q hq => by unfold q07 at hq; simpa using hq
 rcases hg with rfl | rfl
 ·have hM : q02 (q07 t) n ring p = true := hM
  unfold q02 at hM
  exact ⟨fr p (Bool.and_eq_true_iff.1 hM).1, fun e => absurd e (by omega)⟩
 ·have hM : (q07 t p && q07 t ((p + 1) % n) && (ring || decide (p + 1 < n))) = true := hM
  have h1 := Bool.and_eq_true_iff.1 (Bool.and_eq_true_iff.1 hM).1
  have hp1 := fr p h1.1
  refine ⟨hp1, fun _ e => ?_⟩
  rcases (mem_put t p _ hp1).1 e with g | g
  ·by_cases c : p + 1 < n
   ·rw [Nat.mod_eq_of_lt c] at g
    omega
   ·have : p + 1 = n := by omega
    rw [this, Nat.mod_self] at g
    omega
  ·exact fr _ h1.2 g
theorem made_row {game : Int} (hg : game = 1 ∨ game = 2) {n : Nat} {ring : Bool} {t : List Int} {p : Nat} (h : q14 n ring t) (hp : p < n) (hM : q06 game (q07 t) n ring p = true) : q14 n ring (madeL game n t p) ∧ t.length < (madeL game n t p).length ∧ setN t ||| maskN game n p = setN (madeL game n t p) := by
 have h2 : 2 ≤ n := by have := h.1; omega
 have hf := move_facts hg h2 hp hM
 have h1 := row_put h p (by omega) (by omega) hf.1
 have s1 := put_set t p hf.1
 rw [tn] at s1
 have hm : (p + 1) % n < n := Nat.mod_lt _ (by omega)
 unfold madeL maskN
 rcases hg with rfl | rfl
 ·rw [if_neg (by omega), if_pos rfl]
  exact ⟨h1.1, h1.2, s1⟩
 ·rw [if_pos rfl, if_neg (by omega)]
  have hq := hf.2 rfl
  have h3 := row_put h1.1 _ (by omega) (by omega) hq
  have s2 := put_set _ _ hq
  rw [tn] at s2
  exact ⟨h3.1, by omega, by rw [← Nat.or_assoc, s1, s2]⟩
theorem q30 {game : Int} (hg : game = 1 ∨ game = 2) {n : Nat} {ring : Bool} {t : List Int} {p : Nat} (h : q14 n ring t) (hp : p < n) (hM : q06 game (q07 t) n ring p = true) : Ev (fun k => spec_l11Made.f k n ring t game p) ((n : Int), ring, madeL game n t p) := by
 have h2 : 2 ≤ n := by have := h.1; omega
 have h24 : n ≤ 24 := by have := h.1; omega
 have hf := move_facts hg h2 hp hM
 have hl := row_len _ ring t h
 have h1 := row_put h p (by omega) (by omega) hf.1
 have hl1 := row_len _ ring _ h1.1
 unfold spec_l11Made.f
 refine EB (Ev.bound 100 fun k hk => spec_l2With_eq _ ring t p (by omega) (rising_of t (row_pairwise h)) hf.1 k (by omega)) ?_
 dsimp only
 unfold madeL
 rcases hg with rfl | rfl
 ·rw [if_neg (show ¬ (1 : Int) = 2 from by omega)]
  exact EN (by omega) (Ev.now _)
 ·rw [if_pos rfl, next_tmod p n hp h24]
  refine EP rfl (EN (by omega) (EB (Ev.bound 100 fun k hk => spec_l2With_eq _ ring _ _ (by omega) (rising_of _ (row_pairwise h1.1)) (hf.2 rfl) k (by omega)) (Ev.now _)))
theorem q19 {game : Int} (hg : game = 1 ∨ game = 2) {n : Nat} {ring : Bool} {t : List Int} {p : Nat} (h : q14 n ring t) (hp : p < n) (hM : q06 game (q07 t) n ring p = true) : Ev (fun k => impl_bench_behind.f k n ring ((setN t : Nat) : Int) game p) ((setN (madeL game n t p) : Nat) : Int) := by
 have h2 : 2 ≤ n := by have := h.1; omega
 have h24 : n ≤ 24 := by have := h.1; omega
 have hlt := (taken_lt _ ring t h).2
 have hm : (p + 1) % n < n := Nat.mod_lt _ (by omega)
 obtain ⟨v, e, hv⟩ := impl_taking_ev h2 h24 hg (ring := ring) (F := q07 t) hlt (fun q _ => taken_bit (fun x hx => (q21 t _ _ h.2.2 x hx).1) q) p hp
 have hmade := made_row hg h hp hM
 have hv := hv hM
 have hv2 : v < 4294967296 := by
  have p2 : 2 ^ p < 2 ^ 32 := Nat.pow_lt_pow_right (by omega) (by omega)
  have q2 : 2 ^ ((p + 1) % n) < 2 ^ 32 := Nat.pow_lt_pow_right (by omega) (by omega)
  rw [hv]
  unfold maskN
  split
  ·exact p2
  ·exact Nat.or_lt_two_pow p2 q2
 unfold impl_bench_behind.f
 refine EB e ?_
 dsimp only
 rw [or_cast _ _ hlt hv2, hv, hmade.2.2]
 exact Ev.now _
def winB (game : Int) (n : Nat) (ring : Bool) (t : List Int) (p : Nat) : Bool := decide (numR (LG game) game (q07 (madeL game n t p)) n ring = 0)
def winL (game : Int) (n : Nat) (ring : Bool) (t : List Int) : List Int := (q04 (q06 game (q07 t) n ring) n).filter fun x => winB game n ring t x.toNat
section
variable {game : Int} (hg : game = 1 ∨ game = 2) {n : Nat} {ring : Bool} {t : List Int} (h : q14 n ring t)
include hg h
theorem spec_wins_ev : Ev (fun k => spec_l11Wins.f k n ring t game) (winL game n ring t) := by
 have h24 : n ≤ 24 := by have := h.1; omega
 have hlen := q10 (q06 game (q07 t) n ring) n
 have main : ∀ d i, i + d = (q04 (q06 game (q07 t) n ring) n).length → Ev (fun k => spec_l11Wins.l0 k game (((q04 (q06 game (q07 t) n ring) n).take i).filter fun x => winB game n ring t x.toNat) (q04 (q06 game (q07 t) n ring) n) i n ring t) (winL game n ring t) := by
  intro d
  induction d with
  | zero =>
   intro i hi
   refine ES ?_
   simp only [spec_l11Wins.l0]
   rw [List.take_of_length_le (by omega)]
   exact EN (by omega) (Ev.now _)
  | succ d ih =>
   intro i hi
   have go := ih (i + 1) (by omega)
   obtain ⟨q, hq, hM, e⟩ := (q09 _ _ _).1 (List.getElem_mem (l := q04 (q06 game (q07 t) n ring) n) (n := i) (by omega))
   have hacc : (((q04 (q06 game (q07 t) n ring) n).take i).filter fun x => winB game n ring t x.toNat).length ≤ i := Nat.le_trans (List.length_filter_le _ _) (by simp; omega)
   have hmade := made_row hg h hq hM
   rw [List.take_add_one, List.getElem?_eq_getElem (by omega), Option.toList_some, List.filter_append, e] at go
   refine ES ?_
   simp only [spec_l11Wins.l0]
   rw [q13 _ i (by omega), e, q01 (n := 1000) (by omega) (by omega)]
   refine EP (by omega) (EP (by omega) (EB (q30 hg h hq hM) (EB (numbers_ev hmade.1 game hg).1 ?_)))
   rw [tn]
   by_cases c : numR (LG game) game (q07 (madeL game n t q)) n ring = 0
   ·have hw : winB game n ring t q = true := decide_eq_true c
    simp only [List.filter_cons, tn, hw, if_true, List.filter_nil] at go
    exact EP c (EP (by omega) go)
   ·have hw : winB game n ring t q = false := decide_eq_false c
    simp only [List.filter_cons, tn, hw, List.filter_nil, Bool.false_eq_true, if_false, List.append_nil] at go
    exact EN c go
 unfold spec_l11Wins.f
 refine EB (moves_ev h game hg).1 ?_
 rw [tn]
 exact main _ 0 (Nat.zero_add _)
theorem impl_wins_ev : Ev (fun k => impl_bench_winMoves.f k n ring ((setN t : Nat) : Int) game) (winL game n ring t) := by
 have h24 : n ≤ 24 := by have := h.1; omega
 have hlen := q10 (q06 game (q07 t) n ring) n
 have main : ∀ d i, i + d = (q04 (q06 game (q07 t) n ring) n).length → Ev (fun k => impl_bench_winMoves.l0 k ((setN t : Nat) : Int) game (((q04 (q06 game (q07 t) n ring) n).take i).filter fun x => winB game n ring t x.toNat) (q04 (q06 game (q07 t) n ring) n) (q04 (q06 game (q07 t) n ring) n).length i n ring) (winL game n ring t) := by
  intro d
  induction d with
  | zero =>
   intro i hi
   refine ES ?_
   simp only [impl_bench_winMoves.l0]
   rw [List.take_of_length_le (by omega)]
   exact EN (by omega) (Ev.now _)
  | succ d ih =>
   intro i hi
   have go := ih (i + 1) (by omega)
   obtain ⟨q, hq, hM, e⟩ := (q09 _ _ _).1 (List.getElem_mem (l := q04 (q06 game (q07 t) n ring) n) (n := i) (by omega))
   have hacc : (((q04 (q06 game (q07 t) n ring) n).take i).filter fun x => winB game n ring t x.toNat).length ≤ i := Nat.le_trans (List.length_filter_le _ _) (by simp; omega)
   have hmade := made_row hg h hq hM
   rw [List.take_add_one, List.getElem?_eq_getElem (by omega), Option.toList_some, List.filter_append, e] at go
   refine ES ?_
   simp only [impl_bench_winMoves.l0]
   rw [q13 _ i (by omega), e, q01 (n := 1000) (by omega) (by omega)]
   refine EP (by omega) (EP (by omega) (EP (by omega) (EB (q19 hg h hq hM) (EB (numbers_ev hmade.1 game hg).2 ?_))))
   rw [tn]
   by_cases c : numR (LG game) game (q07 (madeL game n t q)) n ring = 0
   ·have hw : winB game n ring t q = true := decide_eq_true c
    simp only [List.filter_cons, tn, hw, if_true, List.filter_nil] at go
    exact EP c (EP (by omega) go)
   ·have hw : winB game n ring t q = false := decide_eq_false c
    simp only [List.filter_cons, tn, hw, List.filter_nil, Bool.false_eq_true, if_false, List.append_nil] at go
    exact EN c go
 unfold impl_bench_winMoves.f
 refine EB (moves_ev h game hg).2 ?_
 rw [tn]
 exact main _ 0 (Nat.zero_add _)
end
theorem laws_toIntS_l0 (l : List Int) (hl : l.length ≤ 1048576) (d : Nat) : ∀ (k i : Nat) (x : List Int), x.length = l.length → i ≤ l.length → l.length - i = d → d < k → (∀ j (h : j < i) (h' : j < x.length) (h'' : j < l.length), x[j] = l[j]) → laws_toIntS.l0 k l x i = some l := by
 induction d with
 | zero =>
  intro k i x hx hi hd hk hp
  obtain ⟨k, rfl, _⟩ := fuel hk
  simp only [laws_toIntS.l0]
  rw [if_neg (by omega)]
  refine congrArg some ?_
  apply List.ext_getElem hx
  intro j h1 h2
  exact hp j (by omega) h1 h2
 | succ d ih =>
  intro k i x hx hi hd hk hp
  obtain ⟨k, rfl, _⟩ := fuel hk
  simp only [laws_toIntS.l0]
  rw [if_pos (by omega), if_pos (by omega), if_pos (by omega), q01 (n := l.length) (by omega) (by omega)]
  rw [q13 l i (by omega), tn, ih k (i + 1) _ (by simp [hx]) (by omega) (by omega) (by omega)]
  intro j h h' h''
  rw [List.getElem_set]
  split
  ·rename_i e
   subst e
   rfl
  ·rename_i e
   exact hp j (by omega) (by simpa using h') h''
theorem laws_toIntS_eq (l : List Int) (hl : l.length ≤ 1048576) (k : Nat) (hk : l.length < k) : laws_toIntS.f k l = some l := by
 unfold laws_toIntS.f
 rw [if_pos (by omega), if_pos (by omega)]
 exact laws_toIntS_l0 l hl l.length k 0 _ (by simp) (by omega) (by omega) hk (fun j h => by omega)
theorem laws_eqIntS_l0 (a b : List Int) (hl : a.length ≤ 1048576) (he : a.length = b.length) (d : Nat) : ∀ (k i : Nat), i ≤ a.length → a.length - i = d → d < k → laws_eqIntS.l0 k a b i = some (decide (a.drop i = b.drop i)) := by
 induction d with
 | zero =>
  intro k i hi hd hk
  obtain ⟨k, rfl, _⟩ := fuel hk
  simp only [laws_eqIntS.l0]
  rw [if_neg (by omega), List.drop_eq_nil_of_le (by omega), List.drop_eq_nil_of_le (by omega)]
  simp
 | succ d ih =>
  intro k i hi hd hk
  obtain ⟨k, rfl, _⟩ := fuel hk
  simp only [laws_eqIntS.l0]
  rw [if_pos (by omega), if_pos (by omega), if_pos (by omega), q01 (n := a.length) (by omega) (by omega), q13 a i (by omega), q13 b i (by omega), ih k (i + 1) (by omega) (by omega) (by omega)]
  rw [List.drop_eq_getElem_cons (l := a) (i := i) (by omega), List.drop_eq_getElem_cons (l := b) (i := i) (by omega)]
  by_cases h : a[i]'(by omega) = b[i]'(by omega)
  ·rw [if_pos h]
   refine congrArg some ?_
   rw [decide_eq_decide, List.cons.injEq]
   exact ⟨fun e => ⟨h, e⟩, fun e => e.2⟩
  ·rw [if_neg h]
   refine congrArg some ?_
   symm
   rw [decide_eq_false_iff_not, List.cons.injEq]
   exact fun e => h e.1
theorem laws_eqIntS_eq (a b : List Int) (hl : a.length ≤ 1048576) (k : Nat) (hk : a.length < k) : laws_eqIntS.f k a b = some (decide (a = b)) := by
 unfold laws_eqIntS.f
 by_cases h : a.length = b.length
 ·rw [if_pos (by omega)]
  have := laws_eqIntS_l0 a b hl h a.length k 0 (by omega) (by omega) hk
  simpa using this
 ·rw [if_neg (by omega)]
  refine congrArg some ?_
  symm
  rw [decide_eq_false_iff_not]
  intro e
  exact h (by rw [e])
theorem laws_eqIntS_self (a : List Int) (hl : a.length ≤ 1048576) (k : Nat) (hk : a.length < k) : laws_eqIntS.f k a a = some true := by
 rw [laws_eqIntS_eq a a hl k hk]
 simp
theorem laws_toIntS_ev (l : List Int) (hl : l.length ≤ 1048576) : Ev (fun k => laws_toIntS.f k l) l := Ev.bound l.length fun k hk => laws_toIntS_eq l hl k hk
theorem laws_eqIntS_ev (l : List Int) (hl : l.length ≤ 1048576) : Ev (fun k => laws_eqIntS.f k l l) true := Ev.bound l.length fun k hk => laws_eqIntS_self l hl k hk
theorem q25 (s : Int) (b : Bool) (t : List Int) (m : Nat) (hm : m ≤ 1048576) (ht : t.length ≤ maxLen) : laws_szRow.f s b t (m : Int) = some (if t.length ≤ m then ((m - t.length : Nat) : Int) else -1) := by
 have hmax : t.length ≤ 9223372036854775807 := ht
 unfold laws_szRow.f laws_szIntS.f
 rw [q03 (by omega) (by omega)]
 by_cases h : t.length ≤ m
 ·rw [if_neg (by omega), ob, if_neg (by omega), if_pos h]
  refine congrArg some ?_
  omega
 ·rw [if_pos (by omega), ob, if_pos (by omega), if_neg h]
theorem laws_toRow_ev (s : Int) (b : Bool) (t : List Int) (ht : t.length ≤ 1048576) : Ev (fun k => laws_toRow.f k s b t) (s, b, t) := by
 unfold laws_toRow.f
 exact EB (laws_toIntS_ev t ht) (Ev.now _)
theorem laws_eqRow_ev (s : Int) (b : Bool) (t : List Int) (ht : t.length ≤ 1048576) : Ev (fun k => laws_eqRow.f k s b t s b t) true := by
 unfold laws_eqRow.f
 refine EP rfl (EN (by simp) ?_)
 exact EB (laws_eqIntS_ev t ht) (EP rfl (Ev.now _))
theorem laws_markIntS_l0 (d : Nat) : ∀ (k i : Nat) (x : List Int) (m : Nat), x.length ≤ 1048576 → m ≤ 1000000000 + i → i ≤ x.length → x.length - i = d → d < k →
  laws_markIntS.l0 k x m i = some (((m + (x.length - i) : Nat) : Int), x.take i ++ (List.range (x.length - i)).map fun j => ((m + j : Nat) : Int)) := by
 induction d with
 | zero =>
  intro k i x m hx hm hi hd hk
  obtain ⟨k, rfl, _⟩ := fuel hk
  simp only [laws_markIntS.l0]
  rw [if_neg (by omega), hd]
  simp [List.take_of_length_le (show x.length ≤ i by omega)]
 | succ d ih =>
  intro k i x m hx hm hi hd hk
  obtain ⟨k, rfl, _⟩ := fuel hk
  simp only [laws_markIntS.l0]
  rw [if_pos (by omega), if_pos (by omega), q01 (n := x.length) (i := i) (by omega) (by omega), q01 (n := m + 1) (i := m) (by omega) (by omega), tn]
  rw [ih k (i + 1) (x.set i m) (m + 1) (by simp; omega) (by omega) (by simp; omega) (by simp; omega) (by omega)]
  simp only [List.length_set, Option.some.injEq, Prod.mk.injEq]
  refine ⟨by omega, ?_⟩
  rw [hd, show x.length - (i + 1) = d from by omega, List.range_succ_eq_map, List.map_cons, List.map_map]
  rw [List.take_set, List.take_add_one, List.set_append_right _ _ (by simp; omega)]
  simp [List.length_take, show min i x.length = i from by omega, List.getElem?_eq_getElem (show i < x.length by omega)]
  intro a _
  omega
theorem laws_markIntS_eq (x : List Int) (m k : Nat) (hx : x.length ≤ 1048576) (hm : m ≤ 1000000000) (hk : x.length < k) :
  laws_markIntS.f k x m = some (((m + x.length : Nat) : Int), (List.range x.length).map fun j => ((m + j : Nat) : Int)) := by
 unfold laws_markIntS.f
 have := laws_markIntS_l0 x.length k 0 x m hx (by omega) (by omega) (by omega) hk
 simpa using this
theorem laws_heldIntS_l0 (n m : Nat) (hx : n ≤ 1048576) (hm : m ≤ 1000000000) (d : Nat) : ∀ (k i : Nat), i ≤ n → n - i = d → d < k →
  laws_heldIntS.l0 k ((List.range n).map fun j => ((m + j : Nat) : Int)) ((m + i : Nat) : Int) i = some (((m + n : Nat) : Int)) := by
 induction d with
 | zero =>
  intro k i hi hd hk
  obtain ⟨k, rfl, _⟩ := fuel hk
  simp only [laws_heldIntS.l0]
  rw [if_neg (by simp; omega), show i = n from by omega]
 | succ d ih =>
  intro k i hi hd hk
  obtain ⟨k, rfl, _⟩ := fuel hk
  simp only [laws_heldIntS.l0]
  rw [if_pos (by simp; omega), if_pos (by omega), q13 _ i (by simp; omega)]
  simp only [List.getElem_map, List.getElem_range, if_true]
  rw [q01 (n := n) (i := i) (by omega) (by omega), q01 (n := m + i + 1) (i := m + i) (by omega) (by omega), show m + i + 1 = m + (i + 1) from by omega]
  exact ih k (i + 1) (by omega) (by omega) (by omega)
theorem laws_heldIntS_eq (n m k : Nat) (hx : n ≤ 1048576) (hm : m ≤ 1000000000) (hk : n < k) :
  laws_heldIntS.f k ((List.range n).map fun j => ((m + j : Nat) : Int)) m = some (((m + n : Nat) : Int)) :=
 laws_heldIntS_l0 n m hx hm n k 0 (by omega) (by omega) hk
def marksL (n : Nat) (m : Int) : List Int := (List.range n).map fun j => ((m.toNat + j : Nat) : Int)
theorem q28 (l : List Int) (m : Int) (hl : l.length ≤ 1048576) (h0 : 0 ≤ m) (hm : m ≤ 1000000000) : Ev (fun k => laws_markIntS.f k l m) (m + l.length, marksL l.length m) :=
 Ev.bound l.length fun k hk => by
  obtain ⟨n, rfl⟩ : ∃ n : Nat, m = n := ⟨m.toNat, by omega⟩
  rw [laws_markIntS_eq l n k hl (by omega) hk]
  unfold marksL
  rw [tn]
  refine congrArg some (Prod.ext ?_ rfl)
  exact Int.natCast_add _ _
theorem laws_heldIntS_ev (n : Nat) (m : Int) (hl : n ≤ 1048576) (h0 : 0 ≤ m) (hm : m ≤ 1000000000) : Ev (fun k => laws_heldIntS.f k (marksL n m) m) (m + n) :=
 Ev.bound n fun k hk => by
  obtain ⟨j, rfl⟩ : ∃ j : Nat, m = j := ⟨m.toNat, by omega⟩
  unfold marksL
  rw [tn, laws_heldIntS_eq n j k hl (by omega) hk]
  exact congrArg some (Int.natCast_add _ _)
theorem laws_markRow_ev (s : Int) (b : Bool) (l : List Int) (m : Int) (hl : l.length ≤ 1048576) (h0 : 0 ≤ m) (hm : m ≤ 1000000000) : Ev (fun k => laws_markRow.f k s b l m) (m + l.length, marksL l.length m) := by
 unfold laws_markRow.f
 exact EB (q28 l m hl h0 hm) (Ev.now _)
theorem best_loops {game : Int} (hg : game = 1 ∨ game = 2) (n : Nat) (ring : Bool) (d : Nat) : ∀ (t acc : List Int), q14 n ring t → 24 < t.length + d → acc.length ≤ t.length →
  ∃ l : List Int, l.length ≤ 24 ∧ Ev (fun k => spec_BestPlay.l0 k game acc n ring t) (l, true) ∧ Ev (fun k => impl_BestPlay.l0 k game acc ((setN t : Nat) : Int) n ring) (l, true) := by
 induction d with
 | zero =>
  intro t acc h hd _
  have := row_len _ ring t h
  omega
 | succ d ih =>
  intro t acc h hd ha
  have hl := row_len _ ring t h
  have mv := moves_ev h game hg
  rw [tn] at mv
  by_cases hz : (q04 (q06 game (q07 t) n ring) n).length = 0
  ·refine ⟨acc, by omega, ES ?_, ES ?_⟩
   ·simp only [spec_BestPlay.l0]
    exact EB mv.1 (EP (by omega) (Ev.now _))
   ·simp only [impl_BestPlay.l0]
    exact EB mv.2 (EP (by omega) (Ev.now _))
  ·have next : ∀ q : Nat, q < n → q06 game (q07 t) n ring q = true → ∃ l : List Int, l.length ≤ 24 ∧ Ev (fun k => spec_BestPlay.l0 k game (acc ++ [(q : Int)]) n ring (madeL game n t q)) (l, true) ∧ Ev (fun k => impl_BestPlay.l0 k game (acc ++ [(q : Int)]) ((setN (madeL game n t q) : Nat) : Int) n ring) (l, true) := fun q hq hM => by
    have hm := made_row hg h hq hM
    exact ih _ _ hm.1 (by omega) (by simp; omega)
   by_cases hw : (winL game n ring t).length = 0
   ·obtain ⟨q, hq, hM, e⟩ := (q09 _ _ _).1 (List.getElem_mem (l := q04 (q06 game (q07 t) n ring) n) (n := 0) (by omega))
    have e0 : rd (q04 (q06 game (q07 t) n ring) n) 0 = (q : Int) := (q13 _ 0 (by omega)).trans e
    obtain ⟨l, hl', e1, e2⟩ := next q hq hM
    refine ⟨l, hl', ES ?_, ES ?_⟩
    ·simp only [spec_BestPlay.l0]
     refine EB mv.1 (EN (by omega) (EP (by omega) (EB (spec_wins_ev hg h) (EN (by omega) (EP (by omega) ?_)))))
     rw [e0]
     exact EB (q30 hg h hq hM) e1
    ·simp only [impl_BestPlay.l0]
     refine EB mv.2 (EN (by omega) (EP (by omega) (EB (impl_wins_ev hg h) (EN (by omega) (EP (by omega) ?_)))))
     rw [e0]
     exact EB (q19 hg h hq hM) e2
   ·have hmem := List.getElem_mem (l := winL game n ring t) (n := 0) (by omega)
    obtain ⟨q, hq, hM, e⟩ := (q09 _ _ _).1 (List.mem_filter.1 hmem).1
    have e0 : rd (winL game n ring t) 0 = (q : Int) := (q13 _ 0 (by omega)).trans e
    obtain ⟨l, hl', e1, e2⟩ := next q hq hM
    refine ⟨l, hl', ES ?_, ES ?_⟩
    ·simp only [spec_BestPlay.l0]
     refine EB mv.1 (EN (by omega) (EP (by omega) (EB (spec_wins_ev hg h) (EP (by omega) (EP (by omega) (EP (by omega) ?_))))))
     rw [e0]
     exact EB (q30 hg h hq hM) e1
    ·simp only [impl_BestPlay.l0]
     refine EB mv.2 (EN (by omega) (EP (by omega) (EB (impl_wins_ev hg h) (EP (by omega) (EP (by omega) (EP (by omega) ?_))))))
     rw [e0]
     exact EB (q19 hg h hq hM) e2
open Classical in
theorem best_both (s : Int) (ring : Bool) (t : List Int) (ht : t.length ≤ 1048576) (g : Int) : ∃ (l : List Int) (b : Bool), l.length ≤ 1048576 ∧ Ev (fun k => spec_BestPlay.f k s ring t g) (l, b) ∧ Ev (fun k => impl_BestPlay.f k s ring t g) (l, b) := by
 by_cases h : q14 s ring t ∧ 1 ≤ g ∧ g ≤ 2
 ·have hg : g = 1 ∨ g = 2 := by have := h.2; omega
  obtain ⟨n, rfl, h2, h24, h3, hin⟩ := row_facts h.1
  obtain ⟨l, hl, e1, e2⟩ := best_loops hg n ring 25 t [] h.1 (by omega) (by simp)
  refine ⟨l, true, by omega, ?_, ?_⟩
  ·unfold spec_BestPlay.f
   refine EH rfl (EB (spec_row_ev _ ring t ht) (EP (decide_eq_true h.1) (EH (game_iff g) (ES ?_))))
   simp only [spec_BestPlay.j0]
   exact EN (by rw [decide_eq_true h.2]; simp) e1
  ·unfold impl_BestPlay.f
   exact EB (impl_isGame_ev _ ring t ht g) (EP (decide_eq_true h) (EH rfl (EB (Ev.bound t.length fun k hk => impl_taken_eq _ ring t h.1 k hk) e2)))
 ·refine ⟨[], false, by simp, ?_, ?_⟩
  ·unfold spec_BestPlay.f
   refine EH rfl (EB (spec_row_ev s ring t ht) ?_)
   by_cases hr : q14 s ring t
   ·refine EP (decide_eq_true hr) (EH (game_iff g) (ES ?_))
    simp only [spec_BestPlay.j0]
    exact EP (by rw [decide_eq_false fun e => h ⟨hr, e⟩]; rfl) (Ev.now _)
   ·refine EN (by rw [dq]; exact hr) (ES ?_)
    simp only [spec_BestPlay.j0]
    exact EP True.intro (Ev.now _)
  ·unfold impl_BestPlay.f
   exact EB (impl_isGame_ev s ring t ht g) (EN (by rw [dq]; exact h) (Ev.now _))
theorem FnExactBestPlay : ∀ (a0_0 : Int) (a0_1 : Bool) (a0_2 : List Int) (a1 : Int), (Lit.int .i64 a0_0).wf = true → a0_2.length ≤ maxLen → (∀ x ∈ a0_2, (Lit.int .i64 x).wf = true) → (Lit.int .i64 a1).wf = true → ∃ k, laws_FnExactBestPlay.f k a0_0 a0_1 a0_2 a1 = some true := by
 intro s ring t g _ ht _ _
 refine Ev.rounds ?_
 unfold laws_FnExactBestPlay.f
 by_cases h2 : t.length ≤ 1048576
 ·obtain ⟨r, b, hr, e1, e2⟩ := best_both s ring t h2 g
  refine EH (q25 s ring t 1048576 (by omega) ht) ?_
  rw [if_pos h2]
  repeat' (first
   | exact Ev.now _
   | (refine EB e1 ?_; (try dsimp only))
   | (refine EB e2 ?_; (try dsimp only))
   | (refine EB (laws_toIntS_ev _ (by omega)) ?_; (try dsimp only))
   | (refine EB (laws_eqIntS_ev _ (by omega)) ?_; (try dsimp only))
   | (refine EB (q28 _ _ (by omega) (by omega) (by omega)) ?_; (try dsimp only))
   | (refine EB (laws_heldIntS_ev _ _ (by omega) (by omega) (by omega)) ?_; (try dsimp only))
   | (refine EB (laws_toRow_ev _ _ _ (by omega)) ?_; (try dsimp only))
   | (refine EB (laws_eqRow_ev _ _ _ (by omega)) ?_; (try dsimp only))
   | (refine EB (laws_markRow_ev _ _ _ _ (by omega) (by omega) (by omega)) ?_; (try dsimp only))
   | (refine EH (q25 _ _ _ 1048576 (by omega) (by assumption)) ?_; (try dsimp only))
   | (refine EP rfl ?_; (try dsimp only))
   | (refine EN (by omega) ?_; (try dsimp only))
   | (refine EP (by omega) ?_; (try dsimp only))
   | (refine EN (bne_self _) ?_; (try dsimp only))
   | (refine EN Bool.false_ne_true ?_; (try dsimp only))
   | (refine EN (fun h => h) ?_; (try dsimp only))
   | (refine EP True.intro ?_; (try dsimp only))
   | (refine ES ?_; simp only [laws_FnExactBestPlay.j0, laws_FnExactBestPlay.j1, laws_FnExactBestPlay.j2]))
 ·refine EH (q25 s ring t 1048576 (by omega) ht) ?_
  rw [if_neg h2]
  exact EP (by omega) (Ev.now _)
end Go.Proofs.Ytgcgmlbjklkkjaa.Pure
