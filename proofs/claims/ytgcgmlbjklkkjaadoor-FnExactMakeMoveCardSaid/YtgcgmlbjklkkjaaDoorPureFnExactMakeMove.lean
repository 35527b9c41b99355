/- MakeMove of the program returns what the reference's returns, for every row, game and seat. No conditions (the card ties the library's table). -/
import Derived.Test.YtgcgmlbjklkkjaaDoorQFnExactMakeMovex
namespace Go.Proofs.YtgcgmlbjklkkjaaDoor.Pure
open Go.RowKit Go.Proofs.YtgcgmlbjklkkjaaDoor.QFnExactMakeMove Go.Proofs.YtgcgmlbjklkkjaaDoorW.PrintWords Go.Proofs.YtgcgmlbjklkkjaaDoorW.PrintLast Go.Proofs.YtgcgmlbjklkkjaaDoorW.PrintMore
set_option linter.unusedVariables false
set_option linter.unusedSimpArgs false

theorem wrap_id {x : Int} (h0 : -9223372036854775808 ≤ x) (h1 : x ≤ 9223372036854775807) : wrap64 x = x := by
 unfold wrap64
 omega
theorem wrap_one {i n : Nat} (h : i < n) (hn : n ≤ 4611686018427387904) : wrap64 ((i : Int) + 1) = ((i + 1 : Nat) : Int) := by
 unfold wrap64
 omega
theorem rd_nat (l : List Int) (i : Nat) : rd l (i : Int) = l.getD i 0 := by unfold rd; simp
theorem rd_get (l : List Int) (i : Nat) (h : i < l.length) : rd l (i : Int) = l[i] := by rw [rd_nat]; simp [List.getD, h]
theorem fuel {k d : Nat} (h : d < k) : ∃ m, k = m + 1 ∧ d ≤ m := ⟨k - 1, by omega, by omega⟩

theorem bne_self {α : Type} [BEq α] [LawfulBEq α] (a : α) : ¬ (a != a) = true := by simp
theorem Ev.succ {α : Type} {g : Nat → Option α} {r : α} (h : Ev (fun k => g (k + 1)) r) : Ev g r := by
 obtain ⟨K, h⟩ := h
 refine ⟨K + 1, fun k hk => ?_⟩
 obtain ⟨k, rfl, hk'⟩ := fuel (show K < k by omega)
 exact h k hk'
theorem Ev.pos {α : Type} {g f : Nat → Option α} {r : α} {c : Prop} [Decidable c] (hc : c) (h : Ev g r) : Ev (fun k => if c then g k else f k) r := by
 obtain ⟨K, h⟩ := h
 exact ⟨K, fun k hk => by show (if c then g k else f k) = some r; rw [if_pos hc]; exact h k hk⟩
theorem Ev.neg {α : Type} {g f : Nat → Option α} {r : α} {c : Prop} [Decidable c] (hc : ¬ c) (h : Ev f r) : Ev (fun k => if c then g k else f k) r := by
 obtain ⟨K, h⟩ := h
 exact ⟨K, fun k hk => by show (if c then g k else f k) = some r; rw [if_neg hc]; exact h k hk⟩
theorem Ev.have {α β : Type} {x : Option α} {a : α} {f : Nat → α → Option β} {r : β} (e : x = some a) (h : Ev (fun k => f k a) r) : Ev (fun k => x.bind (f k)) r := by
 obtain ⟨K, h⟩ := h
 exact ⟨K, fun k hk => by show x.bind (f k) = some r; rw [e, Option.bind_some]; exact h k hk⟩
theorem Ev.bound {α : Type} {g : Nat → Option α} {r : α} (K : Nat) (h : ∀ k, K < k → g k = some r) : Ev g r := ⟨K + 1, fun k hk => h k (by omega)⟩
theorem Ev.same {α : Type} {g : Nat → Option α} {r r' : α} (h : Ev g r) (e : r = r') : Ev g r' := e ▸ h

theorem spec_l1Has_l0 (l : List Int) (n : Int) (hl : l.length ≤ 1048576) (d : Nat) : ∀ (k i : Nat), i ≤ l.length → l.length - i = d → d < k → spec_l1Has.l0 k l n i = some (decide (n ∈ l.drop i)) := by
 induction d with
 | zero =>
  intro k i hi hd hk
  obtain ⟨k, rfl, _⟩ := fuel hk
  simp only [spec_l1Has.l0]
  rw [if_neg (by omega), List.drop_eq_nil_of_le (by omega)]
  simp
 | succ d ih =>
  intro k i hi hd hk
  obtain ⟨k, rfl, _⟩ := fuel hk
  simp only [spec_l1Has.l0]
  rw [if_pos (by omega), if_pos (by omega), wrap_one (n := l.length) (by omega) (by omega), rd_get l i (by omega), ih k (i + 1) (by omega) (by omega) (by omega)]
  rw [List.drop_eq_getElem_cons (l := l) (i := i) (by omega)]
  by_cases h : l[i]'(by omega) = n
  ·rw [if_pos h, h]
   simp
  ·rw [if_neg h]
   refine congrArg some ?_
   rw [decide_eq_decide, List.mem_cons]
   exact ⟨.inr, fun e => e.resolve_left fun e => h e.symm⟩
theorem spec_l1Has_eq (l : List Int) (n : Int) (hl : l.length ≤ 1048576) (k : Nat) (hk : l.length < k) : spec_l1Has.f k l n = some (decide (n ∈ l)) := by
 have := spec_l1Has_l0 l n hl l.length k 0 (by omega) (by omega) hk
 exact this

theorem spec_l2Is_ev (s : Int) (ring : Bool) (t : List Int) (p : Int) (ht : t.length ≤ 1048576) : Ev (fun k => spec_l2Is.f k s ring t p) (decide (p ∈ t)) :=
 Ev.bound t.length fun k hk => by
  unfold spec_l2Is.f
  rw [spec_l1Has_eq t p ht k hk, Option.bind_some]

def setN (l : List Int) : Nat := l.foldl (fun s p => s ||| 2 ^ p.toNat) 0
theorem testBit_foldl (l : List Int) : ∀ (s i : Nat), (l.foldl (fun s p => s ||| 2 ^ p.toNat) s).testBit i = (s.testBit i || decide (∃ p ∈ l, p.toNat = i)) := by
 induction l with
 | nil => intro s i; simp
 | cons a l ih =>
  intro s i
  rw [List.foldl_cons, ih, Nat.testBit_or, Nat.testBit_two_pow, Bool.or_assoc]
  congr 1
  rw [Bool.eq_iff_iff]
  simp
theorem testBit_setN (l : List Int) (i : Nat) : (setN l).testBit i = decide (∃ p ∈ l, p.toNat = i) := by
 unfold setN
 rw [testBit_foldl]
 simp
theorem foldl_lt (l : List Int) (n : Nat) (hl : ∀ p ∈ l, p < n) (hn : 0 < n) : ∀ s, s < 2 ^ n → l.foldl (fun s p => s ||| 2 ^ p.toNat) s < 2 ^ n := by
 induction l with
 | nil => intro s h; exact h
 | cons a l ih =>
  intro s h
  rw [List.foldl_cons]
  have := hl a (by simp)
  exact ih (fun p hp => hl p (by simp [hp])) _ (Nat.or_lt_two_pow h (Nat.pow_lt_pow_right (by omega) (by omega)))
theorem setN_lt (l : List Int) (n : Nat) (hl : ∀ p ∈ l, p < n) (hn : 0 < n) : setN l < 2 ^ n := foldl_lt l n hl hn 0 (Nat.two_pow_pos n)
theorem setN_u32 (l : List Int) (hl : ∀ p ∈ l, p < 32) : setN l < 4294967296 := setN_lt l 32 hl (by omega)
theorem or_cast (a b : Nat) (ha : a < 4294967296) (hb : b < 4294967296) : Go.bits .or .u32 (a : Int) (b : Int) = ((a ||| b : Nat) : Int) :=
 (bits_nat .u32 32 (by decide) (fun n h h' => by rw [IntKind.wrap_u32]; omega) a b ha hb).2
theorem and_cast (a b : Nat) (ha : a < 4294967296) (hb : b < 4294967296) : Go.bits .and .u32 (a : Int) (b : Int) = ((a &&& b : Nat) : Int) :=
 (bits_nat .u32 32 (by decide) (fun n h h' => by rw [IntKind.wrap_u32]; omega) a b ha hb).1
theorem shl_one (p : Int) (h0 : 0 ≤ p) (h1 : p < 32) : shl .u32 1 p = ((2 ^ p.toNat : Nat) : Int) := by
 unfold shl
 rw [Int.one_mul, IntKind.wrap_u32, show min p.toNat IntKind.u32.bits = p.toNat from Nat.min_eq_left (by show p.toNat ≤ 32; omega)]
 have : 2 ^ p.toNat < 2 ^ 32 := Nat.pow_lt_pow_right (by omega) (by omega)
 have e : ((2 ^ p.toNat : Nat) : Int) = (2 : Int) ^ p.toNat := by simp
 rw [← e]
 generalize 2 ^ p.toNat = y at *
 omega

theorem has_bit (s p : Nat) (hp : p < 32) (hs : s < 4294967296) : impl_set_has.f (s : Int) (p : Int) = some (s.testBit p) := by
 unfold impl_set_has.f
 rw [if_pos (by omega)]
 refine congrArg some ?_
 have e1 : shr .u32 (s : Int) (p : Int) = ((s / 2 ^ p : Nat) : Int) := by
  unfold shr
  rw [show min (p : Int).toNat IntKind.u32.bits = p from Nat.min_eq_left (by show p ≤ 32; omega)]
  simp
 have e2 : s / 2 ^ p ≤ s := Nat.div_le_self _ _
 rw [e1, show (1 : Int) = ((1 : Nat) : Int) from rfl, and_cast _ _ (by omega) (by omega), Nat.and_one_is_mod, Nat.testBit_eq_decide_div_mod_eq, Bool.eq_iff_iff, beq_iff_eq, decide_eq_true_eq]
 omega

theorem lt_of_bits (x n : Nat) (h : ∀ i, n ≤ i → x.testBit i = false) : x < 2 ^ n := Nat.lt_pow_two_of_testBit x h
def gapI (n : Nat) (ring : Bool) (p q : Nat) : Int :=
 if ring = true then (if (if (p : Int) - q > (q : Int) - p then (p : Int) - q else (q : Int) - p) < (n : Int) - (if (p : Int) - q > (q : Int) - p then (p : Int) - q else (q : Int) - p) then (if (p : Int) - q > (q : Int) - p then (p : Int) - q else (q : Int) - p) else (n : Int) - (if (p : Int) - q > (q : Int) - p then (p : Int) - q else (q : Int) - p)) else (if (p : Int) - q > (q : Int) - p then (p : Int) - q else (q : Int) - p)
def nearB (n : Nat) (ring : Bool) (p q : Nat) : Bool := decide (gapI n ring p q = 1)
theorem spec_l2Gap_eq (n : Nat) (ring : Bool) (t : List Int) (p q : Nat) (hn : n ≤ 24) (hp : p < n) (hq : q < n) : spec_l2Gap.f (n : Int) ring t (p : Int) (q : Int) = some (gapI n ring p q) := by
 unfold spec_l2Gap.f gapI
 rw [wrap_id (x := (p : Int) - q) (by omega) (by omega), wrap_id (x := (q : Int) - p) (by omega) (by omega)]
 have e : spec_l1Most.f ((p : Int) - q) ((q : Int) - p) = some (if (p : Int) - q > (q : Int) - p then (p : Int) - q else (q : Int) - p) := by
  unfold spec_l1Most.f
  split <;> rfl
 rw [e, Option.bind_some]
 have hb : 0 ≤ (if (p : Int) - q > (q : Int) - p then (p : Int) - q else (q : Int) - p) ∧ (if (p : Int) - q > (q : Int) - p then (p : Int) - q else (q : Int) - p) ≤ 24 := by split <;> omega
 generalize (if (p : Int) - q > (q : Int) - p then (p : Int) - q else (q : Int) - p) = d at hb ⊢
 rw [wrap_id (by omega) (by omega)]
 cases ring with
 | true =>
  rw [if_pos rfl, if_pos rfl]
  unfold spec_l1Least.f
  split <;> rw [Option.bind_some]
 | false => rw [if_neg (by simp), if_neg (by simp)]
theorem impl_gap_eq (n : Nat) (ring : Bool) (p q : Nat) (hn : n ≤ 24) (hp : p < n) (hq : q < n) : impl_bench_gap.f (n : Int) ring (p : Int) (q : Int) = some (gapI n ring p q) := by
 unfold impl_bench_gap.f gapI
 rw [wrap_id (x := (p : Int) - q) (by omega) (by omega), wrap_id (x := (q : Int) - p) (by omega) (by omega)]
 have e : mx ((p : Int) - q) ((q : Int) - p) = (if (p : Int) - q > (q : Int) - p then (p : Int) - q else (q : Int) - p) := by
  unfold mx
  split <;> split <;> omega
 rw [e]
 have hb : 0 ≤ (if (p : Int) - q > (q : Int) - p then (p : Int) - q else (q : Int) - p) ∧ (if (p : Int) - q > (q : Int) - p then (p : Int) - q else (q : Int) - p) ≤ 24 := by split <;> omega
 generalize (if (p : Int) - q > (q : Int) - p then (p : Int) - q else (q : Int) - p) = d at hb ⊢
 rw [wrap_id (by omega) (by omega)]
 cases ring with
 | true =>
  rw [if_pos rfl, if_pos rfl]
  refine congrArg some ?_
  unfold mn
  split <;> split <;> omega
 | false => rw [if_neg (by simp), if_neg (by simp)]
def bitsN (P : Nat → Bool) : Nat → Nat
 | 0 => 0
 | i + 1 => if P i = true then bitsN P i ||| 2 ^ i else bitsN P i
theorem testBit_bitsN (P : Nat → Bool) : ∀ i q, (bitsN P i).testBit q = (decide (q < i) && P q)
 | 0, q => by simp [bitsN]
 | i + 1, q => by
  rw [bitsN]
  by_cases h : P i = true
  ·rw [if_pos h, Nat.testBit_or, testBit_bitsN P i q, Nat.testBit_two_pow]
   by_cases e : i = q
   ·subst e; rw [h]; simp
   ·rw [decide_eq_false e, Bool.or_false]
    by_cases g : q < i
    ·rw [decide_eq_true g, decide_eq_true (show q < i + 1 by omega)]
    ·rw [decide_eq_false g, decide_eq_false (show ¬ q < i + 1 by omega)]
  ·rw [if_neg h, testBit_bitsN P i q]
   by_cases e : i = q
   ·subst e; rw [Bool.eq_false_iff.2 h]; simp
   ·by_cases g : q < i
    ·rw [decide_eq_true g, decide_eq_true (show q < i + 1 by omega)]
    ·rw [decide_eq_false g, decide_eq_false (show ¬ q < i + 1 by omega)]
theorem bitsN_lt (P : Nat → Bool) (i : Nat) (hi : i ≤ 32) : bitsN P i < 4294967296 := show bitsN P i < 2 ^ 32 from lt_of_bits _ 32 fun q hq => by
 rw [testBit_bitsN, decide_eq_false (by omega)]
 rfl
def castL (l : List Nat) : List Int := l.map fun i : Nat => (i : Int)
def listN (P : Nat → Bool) (i : Nat) : List Int := castL ((List.range i).filter P)
theorem listN_succ (P : Nat → Bool) (i : Nat) : listN P (i + 1) = if P i = true then listN P i ++ [(i : Int)] else listN P i := by
 unfold listN castL
 rw [List.range_succ, List.filter_append]
 by_cases h : P i = true
 ·rw [if_pos h]; simp [h]
 ·rw [if_neg h]; simp [h]
theorem listN_len (P : Nat → Bool) (i : Nat) : (listN P i).length ≤ i := by
 unfold listN castL
 rw [List.length_map]
 exact Nat.le_trans (List.length_filter_le _ _) (by simp)
theorem mem_listN (P : Nat → Bool) (i : Nat) (x : Int) : x ∈ listN P i ↔ ∃ q : Nat, q < i ∧ P q = true ∧ x = q := by
 unfold listN castL
 rw [List.mem_map]
 constructor
 ·rintro ⟨q, hq, rfl⟩
  have := List.mem_filter.1 hq
  exact ⟨q, List.mem_range.1 this.1, this.2, rfl⟩
 ·rintro ⟨q, h1, h2, rfl⟩
  exact ⟨q, List.mem_filter.2 ⟨List.mem_range.2 h1, h2⟩, rfl⟩
section
variable {n : Nat} {ring : Bool} (h24 : n ≤ 24)
include h24
theorem impl_near_ev (p : Nat) (hp : p < n) : Ev (fun k => impl_bench_near.f k n ring p) ((bitsN (nearB n ring p) n : Nat) : Int) := by
 have main : ∀ d i, i + d = n → Ev (fun k => impl_bench_near.l0 k p ((bitsN (nearB n ring p) i : Nat) : Int) n i n ring) ((bitsN (nearB n ring p) n : Nat) : Int) := by
  intro d
  induction d with
  | zero =>
   intro i hi
   have : i = n := by omega
   subst this
   refine Ev.succ ?_
   simp only [impl_bench_near.l0]
   exact Ev.neg (by omega) (Ev.now _)
  | succ d ih =>
   intro i hi
   have go := ih (i + 1) (by omega)
   rw [bitsN] at go
   refine Ev.succ ?_
   simp only [impl_bench_near.l0]
   refine Ev.pos (by omega) (Ev.have (impl_gap_eq n ring p i h24 hp (by omega)) ?_)
   rw [wrap_one (n := 100) (by omega) (by omega)]
   by_cases g : gapI n ring p i = 1
   ·have hP : nearB n ring p i = true := decide_eq_true g
    rw [if_pos hP] at go
    have h2 : 2 ^ i < 2 ^ 32 := Nat.pow_lt_pow_right (by omega) (by omega)
    refine Ev.pos g (Ev.pos (by omega) ?_)
    rw [shl_one _ (by omega) (by omega), Int.toNat_natCast, or_cast _ _ (bitsN_lt _ _ (by omega)) (by omega)]
    exact go
   ·have hP : ¬ nearB n ring p i = true := by unfold nearB; simpa using g
    rw [if_neg hP] at go
    exact Ev.neg g go
 exact main n 0 (by omega)
theorem spec_near_ev (t : List Int) (p : Nat) (hp : p < n) : Ev (fun k => spec_l2Near.f k n ring t p) (listN (nearB n ring p) n) := by
 have main : ∀ d i, i + d = n → Ev (fun k => spec_l2Near.l0 k p (listN (nearB n ring p) i) i n ring t) (listN (nearB n ring p) n) := by
  intro d
  induction d with
  | zero =>
   intro i hi
   have : i = n := by omega
   subst this
   refine Ev.succ ?_
   simp only [spec_l2Near.l0]
   exact Ev.neg (by omega) (Ev.now _)
  | succ d ih =>
   intro i hi
   have go := ih (i + 1) (by omega)
   have hl := listN_len (nearB n ring p) i
   rw [listN_succ] at go
   refine Ev.succ ?_
   simp only [spec_l2Near.l0]
   refine Ev.pos (by omega) (Ev.have (spec_l2Gap_eq n ring t p i h24 hp (by omega)) ?_)
   rw [wrap_one (n := 100) (by omega) (by omega)]
   by_cases g : gapI n ring p i = 1
   ·have hP : nearB n ring p i = true := decide_eq_true g
    rw [if_pos hP] at go
    exact Ev.pos g (Ev.pos (by omega) go)
   ·have hP : ¬ nearB n ring p i = true := by unfold nearB; simpa using g
    rw [if_neg hP] at go
    exact Ev.neg g go
 exact main n 0 (by omega)
end
def lonelyB (F : Nat → Bool) (n : Nat) (ring : Bool) (p : Nat) : Bool := F p && (List.range n).all fun q => !nearB n ring p q || F q
theorem range_all (n : Nat) (P : Nat → Bool) : (List.range n).all P = true ↔ ∀ q, q < n → P q = true := by
 rw [List.all_eq_true]
 exact ⟨fun h q hq => h q (List.mem_range.2 hq), fun h q hq => h q (List.mem_range.1 hq)⟩
section
variable {F : Nat → Bool} {n : Nat} {ring : Bool} (h24 : n ≤ 24)
include h24
section
variable {S : Nat} (hlt : S < 4294967296) (hS : ∀ p, p < n → S.testBit p = !F p)
include hlt hS
theorem impl_lonely_ev : Ev (fun k => impl_bench_lonely.f k n ring (S : Int)) ((bitsN (lonelyB F n ring) n : Nat) : Int) := by
 have main : ∀ d i, i + d = n → Ev (fun k => impl_bench_lonely.l0 k (S : Int) ((bitsN (lonelyB F n ring) i : Nat) : Int) n i n ring) ((bitsN (lonelyB F n ring) n : Nat) : Int) := by
  intro d
  induction d with
  | zero =>
   intro i hi
   have : i = n := by omega
   subst this
   refine Ev.succ ?_
   simp only [impl_bench_lonely.l0]
   exact Ev.neg (by omega) (Ev.now _)
  | succ d ih =>
   intro i hi
   have go := ih (i + 1) (by omega)
   rw [bitsN] at go
   refine Ev.succ ?_
   simp only [impl_bench_lonely.l0]
   refine Ev.pos (by omega) (Ev.have (has_bit _ _ (by omega) hlt) ?_)
   rw [hS i (by omega), wrap_one (n := 100) (by omega) (by omega)]
   cases hF : F i with
   | false =>
    have hP : ¬ lonelyB F n ring i = true := by unfold lonelyB; rw [hF]; simp
    rw [if_neg hP] at go
    exact Ev.pos (by simp) go
   | true =>
    refine Ev.neg (by simp) (Ev.bind (impl_near_ev h24 i (by omega)) ?_)
    rw [and_cast _ _ (bitsN_lt _ _ (by omega)) hlt]
    have hz : (((bitsN (nearB n ring i) n &&& S : Nat) : Int) = 0) ↔ lonelyB F n ring i = true := by
     unfold lonelyB
     rw [hF, Bool.true_and, range_all]
     constructor
     ·intro e q hq
      have e0 : bitsN (nearB n ring i) n &&& S = 0 := by omega
      have e1 : (bitsN (nearB n ring i) n &&& S).testBit q = false := by rw [e0, Nat.zero_testBit]
      rw [Nat.testBit_and, testBit_bitsN, hS q hq, decide_eq_true hq, Bool.true_and] at e1
      revert e1
      cases nearB n ring i q <;> cases F q <;> simp
     ·intro e
      have e0 : bitsN (nearB n ring i) n &&& S = 0 := by
       refine Nat.eq_of_testBit_eq fun q => ?_
       rw [Nat.testBit_and, testBit_bitsN, Nat.zero_testBit]
       by_cases hq : q < n
       ·have := e q hq
        rw [hS q hq, decide_eq_true hq, Bool.true_and]
        revert this
        cases nearB n ring i q <;> cases F q <;> simp
       ·rw [decide_eq_false hq]; rfl
      rw [e0]; rfl
    by_cases g : lonelyB F n ring i = true
    ·rw [if_pos g] at go
     have h2 : 2 ^ i < 2 ^ 32 := Nat.pow_lt_pow_right (by omega) (by omega)
     refine Ev.pos (hz.2 g) (Ev.pos (by omega) ?_)
     rw [shl_one _ (by omega) (by omega), Int.toNat_natCast, or_cast _ _ (bitsN_lt _ _ (by omega)) (by omega)]
     exact go
    ·rw [if_neg g] at go
     exact Ev.neg (fun e => g (hz.1 e)) go
 exact main n 0 (by omega)
end
section
variable {t : List Int} (ht : t.length ≤ 1048576) (hT : ∀ p, p < n → decide ((p : Int) ∈ t) = !F p)
include ht hT
theorem spec_free_ev : Ev (fun k => spec_l2Free.f k n ring t) (listN F n) := by
 have main : ∀ d i, i + d = n → Ev (fun k => spec_l2Free.l0 k (listN F i) i n ring t) (listN F n) := by
  intro d
  induction d with
  | zero =>
   intro i hi
   have : i = n := by omega
   subst this
   refine Ev.succ ?_
   simp only [spec_l2Free.l0]
   exact Ev.neg (by omega) (Ev.now _)
  | succ d ih =>
   intro i hi
   have go := ih (i + 1) (by omega)
   have hl := listN_len F i
   rw [listN_succ] at go
   refine Ev.succ ?_
   simp only [spec_l2Free.l0]
   refine Ev.pos (by omega) (Ev.bind (spec_l2Is_ev _ _ _ _ ht) ?_)
   rw [hT i (by omega), wrap_one (n := 100) (by omega) (by omega)]
   cases hF : F i with
   | false =>
    rw [if_neg (by rw [hF]; simp)] at go
    exact Ev.pos (by simp) go
   | true =>
    rw [if_pos hF] at go
    exact Ev.neg (by simp) (Ev.pos (by omega) go)
 exact main n 0 (by omega)
omit h24 in
theorem spec_lonely_near (acc fr : List Int) (i : Nat) (near : List Int) (hn : ∀ x ∈ near, ∃ q : Nat, q < n ∧ x = q) (hl : near.length ≤ 100) (r : List Int) (d : Nat) : ∀ (j : Nat) (b : Bool), j + d = near.length →
  Ev (fun k => spec_l2Lonely.l1 k acc fr i near (b && (near.drop j).all fun x => F x.toNat) near.length n ring t) r → Ev (fun k => spec_l2Lonely.l1 k acc fr i near b j n ring t) r := by
 induction d with
 | zero =>
  intro j b hj hr
  have : j = near.length := by omega
  subst this
  rw [List.drop_length] at hr
  simpa using hr
 | succ d ih =>
  intro j b hj hr
  obtain ⟨q, hq, e⟩ := hn (near[j]'(by omega)) (List.getElem_mem _)
  rw [List.drop_eq_getElem_cons (l := near) (i := j) (by omega), List.all_cons, ← Bool.and_assoc] at hr
  have go := ih (j + 1) _ (by omega) hr
  refine Ev.succ ?_
  simp only [spec_l2Lonely.l1]
  refine Ev.pos (by omega) ?_
  rw [wrap_one (n := 1000) (by omega) (by omega)]
  cases b with
  | false =>
   refine Ev.neg (by simp) ?_
   rw [Bool.false_and] at go
   exact go
  | true =>
   refine Ev.pos (by simp) (Ev.pos (by omega) (Ev.bind (spec_l2Is_ev _ _ _ _ ht) ?_))
   rw [rd_get near j (by omega), e, hT q hq, Bool.not_not]
   rw [Bool.true_and, e, Int.toNat_natCast] at go
   exact go
theorem spec_lonely_ev : Ev (fun k => spec_l2Lonely.f k n ring t) (listN (lonelyB F n ring) n) := by
 have hlen := listN_len F n
 have main : ∀ d i, i + d = (listN F n).length → Ev (fun k => spec_l2Lonely.l0 k (((listN F n).take i).filter fun x => lonelyB F n ring x.toNat) (listN F n) i n ring t) ((listN F n).filter fun x => lonelyB F n ring x.toNat) := by
  intro d
  induction d with
  | zero =>
   intro i hi
   refine Ev.succ ?_
   simp only [spec_l2Lonely.l0]
   rw [List.take_of_length_le (by omega)]
   exact Ev.neg (by omega) (Ev.now _)
  | succ d ih =>
   intro i hi
   have go := ih (i + 1) (by omega)
   have hmem := (mem_listN F n _).1 (List.getElem_mem (l := listN F n) (n := i) (by omega))
   obtain ⟨q, hq, hFq, e⟩ := hmem
   have hacc : (((listN F n).take i).filter fun x => lonelyB F n ring x.toNat).length ≤ i := Nat.le_trans (List.length_filter_le _ _) (by simp; omega)
   have hnl := listN_len (nearB n ring q) n
   rw [List.take_add_one, List.getElem?_eq_getElem (by omega), Option.toList_some, List.filter_append, e] at go
   refine Ev.succ ?_
   simp only [spec_l2Lonely.l0]
   rw [rd_get _ i (by omega), e]
   refine Ev.pos (by omega) (Ev.pos (by omega) (Ev.bind (spec_near_ev h24 t q hq) ?_))
   refine spec_lonely_near ht hT _ _ i _ (fun x hx => ?_) (by omega) _ (listN (nearB n ring q) n).length 0 true (by omega) ?_
   ·obtain ⟨z, hz, _, e2⟩ := (mem_listN _ _ _).1 hx
    exact ⟨z, hz, e2⟩
   have hall : (true && ((listN (nearB n ring q) n).drop 0).all fun x => F x.toNat) = lonelyB F n ring q := by
    unfold lonelyB
    rw [hFq, List.drop_zero, Bool.true_and, Bool.true_and, Bool.eq_iff_iff, range_all, List.all_eq_true]
    constructor
    ·intro h z hz
     cases hz2 : nearB n ring q z with
     | false => rfl
     | true => simpa using h (z : Int) ((mem_listN _ _ _).2 ⟨z, hz, hz2, rfl⟩)
    ·intro h x hx
     obtain ⟨z, hz, hz2, e2⟩ := (mem_listN _ _ _).1 hx
     have := h z hz
     rw [hz2] at this
     rw [e2, Int.toNat_natCast]
     simpa using this
   rw [hall]
   refine Ev.succ ?_
   simp only [spec_l2Lonely.l1]
   refine Ev.neg (by omega) ?_
   rw [rd_get _ i (by omega), e, wrap_one (n := 1000) (by omega) (by omega)]
   cases hL : lonelyB F n ring q with
   | true =>
    refine Ev.pos (by simp) (Ev.pos (by omega) (Ev.pos (by omega) (Ev.pos (by omega) ?_)))
    simp only [List.filter_cons, Int.toNat_natCast, hL, if_true, List.filter_nil] at go
    exact go
   | false =>
    refine Ev.neg (by simp) ?_
    simp only [List.filter_cons, Int.toNat_natCast, hL, List.filter_nil, Bool.false_eq_true, if_false, List.append_nil] at go
    exact go
 have efin : ((listN F n).filter fun x => lonelyB F n ring x.toNat) = listN (lonelyB F n ring) n := by
  unfold listN castL
  rw [List.filter_map, List.filter_filter]
  congr 1
  refine List.filter_congr fun q _ => ?_
  show (lonelyB F n ring ((q : Int)).toNat && F q) = _
  rw [Int.toNat_natCast]
  unfold lonelyB
  cases F q <;> simp
 unfold spec_l2Lonely.f
 refine Ev.bind (spec_free_ev h24 ht hT) ?_
 have := main (listN F n).length 0 (by omega)
 rw [efin] at this
 exact this
end
end

theorem spec_l1In_eq (n a b : Int) : spec_l1In.f n a b = some (decide (a ≤ n ∧ n ≤ b)) := by
 unfold spec_l1In.f
 by_cases h : n ≥ a
 ·rw [if_pos h]
  simp [show a ≤ n from h]
 ·rw [if_neg h]
  simp [show ¬ a ≤ n from h]
theorem impl_within_eq (n a b : Int) : impl_within.f n a b = some (decide (a ≤ n ∧ n ≤ b)) := by
 unfold impl_within.f
 by_cases h : n ≥ a
 ·rw [if_pos h]
  simp [show a ≤ n from h]
 ·rw [if_neg h]
  simp [show ¬ a ≤ n from h]

theorem impl_allWithin_l0 (l : List Int) (a b : Int) (hl : l.length ≤ 1048576) (d : Nat) : ∀ (k i : Nat), i ≤ l.length → l.length - i = d → d < k → impl_allWithin.l0 k a b l (l.length : Int) i = some (decide (∀ x ∈ l.drop i, a ≤ x ∧ x ≤ b)) := by
 induction d with
 | zero =>
  intro k i hi hd hk
  obtain ⟨k, rfl, _⟩ := fuel hk
  simp only [impl_allWithin.l0]
  rw [if_neg (by omega), List.drop_eq_nil_of_le (by omega)]
  simp
 | succ d ih =>
  intro k i hi hd hk
  obtain ⟨k, rfl, _⟩ := fuel hk
  simp only [impl_allWithin.l0]
  rw [if_pos (by omega), if_pos (by omega), if_pos (by omega), wrap_one (n := l.length) (by omega) (by omega), rd_get l i (by omega), impl_within_eq, ih k (i + 1) (by omega) (by omega) (by omega)]
  rw [List.drop_eq_getElem_cons (l := l) (i := i) (by omega)]
  rw [Option.bind_some]
  by_cases h : a ≤ l[i]'(by omega) ∧ l[i]'(by omega) ≤ b
  ·rw [if_pos (by simp only [h]; simp)]
   refine congrArg some ?_
   rw [decide_eq_decide]
   simp only [List.mem_cons]
   exact ⟨fun e x hx => hx.elim (fun z => z ▸ h) (e x), fun e x hx => e x (.inr hx)⟩
  ·rw [if_neg (by rw [decide_eq_true_eq]; exact h)]
   refine congrArg some ?_
   symm
   rw [decide_eq_false_iff_not]
   exact fun e => h (e _ List.mem_cons_self)
theorem impl_allWithin_eq (l : List Int) (a b : Int) (hl : l.length ≤ 1048576) (k : Nat) (hk : l.length < k) : impl_allWithin.f k l a b = some (decide (∀ x ∈ l, a ≤ x ∧ x ≤ b)) :=
 impl_allWithin_l0 l a b hl l.length k 0 (by omega) (by omega) hk

def Rising (l : List Int) (a b : Int) : Prop := ∀ i, (h : i < l.length) → (a ≤ l[i] ∧ l[i] ≤ b) ∧ (0 < i → l.getD (i - 1) 0 < l[i])
def RowOK (s : Int) (ring : Bool) (t : List Int) : Prop := (2 ≤ s ∧ s ≤ 24) ∧ (ring = true → 3 ≤ s) ∧ Rising t 0 (s - 1)
open Classical in
theorem spec_l1Rising_l0 (l : List Int) (a b : Int) (hl : l.length ≤ 1048576) (d : Nat) : ∀ (k i : Nat), i ≤ l.length → l.length - i = d → d < k → (∀ j, (h : j < i) → (hj : j < l.length) → (a ≤ l[j] ∧ l[j] ≤ b) ∧ (0 < j → l.getD (j - 1) 0 < l[j])) →
  spec_l1Rising.l0 k l a b i = some (decide (Rising l a b)) := by
 induction d with
 | zero =>
  intro k i hi hd hk hp
  obtain ⟨k, rfl, _⟩ := fuel hk
  simp only [spec_l1Rising.l0]
  rw [if_neg (by omega)]
  refine congrArg some ?_
  symm
  rw [decide_eq_true_eq]
  exact fun j hj => hp j (by omega) hj
 | succ d ih =>
  intro k i hi hd hk hp
  obtain ⟨k, rfl, _⟩ := fuel hk
  have no : ¬ ((a ≤ l[i]'(by omega) ∧ l[i]'(by omega) ≤ b) ∧ (0 < i → l.getD (i - 1) 0 < l[i]'(by omega))) → ¬ Rising l a b := fun g e => g (e i (by omega))
  have go : ((a ≤ l[i]'(by omega) ∧ l[i]'(by omega) ≤ b) ∧ (0 < i → l.getD (i - 1) 0 < l[i]'(by omega))) → spec_l1Rising.l0 k l a b (wrap64 ((i : Int) + 1)) = some (decide (Rising l a b)) := by
   intro g
   rw [wrap_one (n := l.length) (by omega) (by omega)]
   refine ih k (i + 1) (by omega) (by omega) (by omega) fun j hj hj' => ?_
   by_cases e : j = i
   ·subst e; exact g
   ·exact hp j (by omega) hj'
  simp only [spec_l1Rising.l0]
  rw [if_pos (by omega), if_pos (by omega), rd_get l i (by omega), spec_l1In_eq, Option.bind_some]
  by_cases g : a ≤ l[i]'(by omega) ∧ l[i]'(by omega) ≤ b
  ·rw [if_pos (decide_eq_true g)]
   by_cases h0 : 0 < i
   ·rw [if_pos (by omega), wrap_id (by omega) (by omega), if_pos (by omega), if_pos (by omega), show (i : Int) - 1 = ((i - 1 : Nat) : Int) from by omega, rd_nat]
    by_cases g2 : l.getD (i - 1) 0 < l[i]'(by omega)
    ·rw [if_neg (by omega)]
     exact go ⟨g, fun _ => g2⟩
    ·rw [if_pos (by omega), decide_eq_false (no fun e => g2 (e.2 h0))]
   ·rw [if_neg (by omega)]
    exact go ⟨g, fun e => absurd e h0⟩
  ·rw [if_neg (by rw [decide_eq_true_eq]; exact g), decide_eq_false (no fun e => g e.1)]
open Classical in
theorem spec_l1Rising_eq (l : List Int) (a b : Int) (hl : l.length ≤ 1048576) (k : Nat) (hk : l.length < k) : spec_l1Rising.f k l a b = some (decide (Rising l a b)) :=
 spec_l1Rising_l0 l a b hl l.length k 0 (by omega) (by omega) hk (fun j h => by omega)
open Classical in
theorem spec_l2Row_eq (s : Int) (ring : Bool) (t : List Int) (ht : t.length ≤ 1048576) (k : Nat) (hk : t.length < k) : spec_l2Row.f k s ring t = some (decide (RowOK s ring t)) := by
 unfold spec_l2Row.f
 rw [spec_l1In_eq, Option.bind_some]
 by_cases h : 2 ≤ s ∧ s ≤ 24
 ·rw [if_pos (decide_eq_true h), wrap_id (by omega) (by omega), spec_l1Rising_eq t _ _ ht k hk, Option.bind_some]
  cases ring with
  | true =>
   rw [if_pos rfl]
   by_cases h3 : s > 2
   ·rw [if_pos h3]
    refine congrArg some ?_
    rw [decide_eq_decide]
    exact ⟨fun e => ⟨h, fun _ => by omega, e⟩, fun e => e.2.2⟩
   ·rw [if_neg h3]
    refine congrArg some ?_
    symm
    rw [decide_eq_false_iff_not]
    exact fun e => h3 (by have := e.2.1 rfl; omega)
  | false =>
   rw [if_neg (by simp)]
   refine congrArg some ?_
   rw [decide_eq_decide]
   exact ⟨fun e => ⟨h, (fun z => by cases z), e⟩, fun e => e.2.2⟩
 ·rw [if_neg (by rw [decide_eq_true_eq]; exact h)]
  refine congrArg some ?_
  symm
  rw [decide_eq_false_iff_not]
  exact fun e => h e.1
theorem impl_bench_has_one (s : Int) (ring : Bool) (p : Int) (k : Nat) (hk : 2 < k) : impl_bench_has.f k s ring [p] = some (decide (0 ≤ p ∧ p ≤ wrap64 (s - 1))) := by
 unfold impl_bench_has.f
 rw [impl_allWithin_eq [p] _ _ (by simp) k (by simp; omega), Option.bind_some]
 refine congrArg some ?_
 rw [decide_eq_decide]
 simp
theorem impl_bench_valid_eq (s : Int) (ring : Bool) : impl_bench_valid.f s ring = some (decide ((2 ≤ s ∧ s ≤ 24) ∧ (ring = true → 3 ≤ s))) := by
 unfold impl_bench_valid.f
 rw [impl_within_eq, Option.bind_some]
 by_cases h : 2 ≤ s ∧ s ≤ 24
 ·rw [if_pos (decide_eq_true h)]
  cases ring with
  | true =>
   rw [if_pos rfl]
   refine congrArg some ?_
   rw [decide_eq_decide]
   exact ⟨fun e => ⟨h, fun _ => e⟩, fun e => e.2 rfl⟩
  | false =>
   rw [if_neg (by simp)]
   refine congrArg some ?_
   symm
   rw [decide_eq_true_eq]
   exact ⟨h, (fun z => by cases z)⟩
 ·rw [if_neg (by rw [decide_eq_true_eq]; exact h)]
  refine congrArg some ?_
  symm
  rw [decide_eq_false_iff_not]
  exact fun e => h e.1
open Classical in
theorem impl_IsRow_l0 (s : Int) (ring : Bool) (l : List Int) (hl : l.length ≤ 1048576) (d : Nat) : ∀ (k i : Nat), i ≤ l.length → l.length - i = d → d + 3 < k → ((2 ≤ s ∧ s ≤ 24) → ∀ j, (h : j < i) → (hj : j < l.length) → (0 ≤ l[j] ∧ l[j] ≤ s - 1) ∧ (0 < j → l.getD (j - 1) 0 < l[j])) →
  impl_IsRow.l0 k l (l.length : Int) i s ring l = some (decide (RowOK s ring l)) := by
 induction d with
 | zero =>
  intro k i hi hd hk hp
  obtain ⟨k, rfl, _⟩ := fuel hk
  simp only [impl_IsRow.l0]
  rw [if_neg (by omega), impl_Row_bench.f, Option.bind_some]
  dsimp only
  rw [impl_bench_valid_eq, Option.bind_some]
  refine congrArg some ?_
  rw [decide_eq_decide]
  exact ⟨fun e => ⟨e.1, e.2, fun j hj => hp e.1 j (by omega) hj⟩, fun e => ⟨e.1, e.2.1⟩⟩
 | succ d ih =>
  intro k i hi hd hk hp
  obtain ⟨k, rfl, _⟩ := fuel hk
  have no : (2 ≤ s ∧ s ≤ 24 → ¬ ((0 ≤ l[i]'(by omega) ∧ l[i]'(by omega) ≤ s - 1) ∧ (0 < i → l.getD (i - 1) 0 < l[i]'(by omega)))) → ¬ RowOK s ring l := fun g e => g e.1 (e.2.2 i (by omega))
  have go : (2 ≤ s ∧ s ≤ 24 → ((0 ≤ l[i]'(by omega) ∧ l[i]'(by omega) ≤ s - 1) ∧ (0 < i → l.getD (i - 1) 0 < l[i]'(by omega)))) → impl_IsRow.l0 k l (l.length : Int) (wrap64 ((i : Int) + 1)) s ring l = some (decide (RowOK s ring l)) := by
   intro g
   rw [wrap_one (n := l.length) (by omega) (by omega)]
   refine ih k (i + 1) (by omega) (by omega) (by omega) fun hs j hj hj' => ?_
   by_cases e : j = i
   ·subst e; exact g hs
   ·exact hp hs j (by omega) hj'
  simp only [impl_IsRow.l0]
  rw [if_pos (by omega), if_pos (by omega), if_pos (by omega), impl_Row_bench.f, Option.bind_some]
  dsimp only
  rw [rd_get l i (by omega), impl_bench_has_one _ _ _ k (by omega), Option.bind_some]
  by_cases g : 0 ≤ l[i]'(by omega) ∧ l[i]'(by omega) ≤ wrap64 (s - 1)
  ·rw [if_pos (decide_eq_true g)]
   have g' : 2 ≤ s ∧ s ≤ 24 → 0 ≤ l[i]'(by omega) ∧ l[i]'(by omega) ≤ s - 1 := fun hs => by
    rw [wrap_id (by omega) (by omega)] at g
    exact g
   by_cases h0 : 0 < i
   ·rw [if_pos (by omega), wrap_id (by omega) (by omega), if_pos (by omega), if_pos (by omega), show (i : Int) - 1 = ((i - 1 : Nat) : Int) from by omega, rd_nat]
    by_cases g2 : l.getD (i - 1) 0 < l[i]'(by omega)
    ·rw [if_neg (by omega)]
     exact go fun hs => ⟨g' hs, fun _ => g2⟩
    ·rw [if_pos (by omega), decide_eq_false (no fun _ e => g2 (e.2 h0))]
   ·rw [if_neg (by omega)]
    exact go fun hs => ⟨g' hs, fun e => absurd e h0⟩
  ·rw [if_neg (by rw [decide_eq_true_eq]; exact g)]
   rw [decide_eq_false (no fun hs e => g ?_)]
   rw [wrap_id (by omega) (by omega)]
   exact e.1
open Classical in
theorem impl_IsRow_eq (s : Int) (ring : Bool) (l : List Int) (hl : l.length ≤ 1048576) (k : Nat) (hk : l.length + 3 < k) : impl_IsRow.f k s ring l = some (decide (RowOK s ring l)) :=
 impl_IsRow_l0 s ring l hl l.length k 0 (by omega) (by omega) hk (fun _ j h => by omega)
theorem rising_lt (l : List Int) (a b : Int) (h : Rising l a b) (i j : Nat) (hij : i < j) (hj : j < l.length) : l[i]'(by omega) < l[j] := by
 induction j with
 | zero => omega
 | succ j ih =>
  have h1 := (h (j + 1) hj).2 (by omega)
  rw [show j + 1 - 1 = j from by omega, show l.getD j 0 = l[j]'(by omega) from by simp [List.getD, show j < l.length by omega]] at h1
  by_cases e : i = j
  ·subst e; exact h1
  ·have := ih (by omega) (by omega)
   omega
theorem rising_mem (l : List Int) (a b : Int) (h : Rising l a b) : ∀ x ∈ l, a ≤ x ∧ x ≤ b := by
 intro x hx
 obtain ⟨i, hi, rfl⟩ := List.getElem_of_mem hx
 exact (h i hi).1
theorem rising_nodup (l : List Int) (a b : Int) (h : Rising l a b) : l.Nodup := by
 refine List.pairwise_iff_getElem.2 fun i j hi hj hij e => ?_
 have := rising_lt l a b h i j hij hj
 omega
theorem row_len (s : Int) (ring : Bool) (t : List Int) (h : RowOK s ring t) : t.length ≤ 24 := by
 have hn := rising_nodup t _ _ h.2.2
 have hs : t ⊆ (List.range 24).map fun i : Nat => (i : Int) := by
  intro x hx
  have := rising_mem t _ _ h.2.2 x hx
  have := h.1
  exact List.mem_map.2 ⟨x.toNat, List.mem_range.2 (by omega), by omega⟩
 have := List.Nodup.length_le_of_subset hn hs
 simpa using this

theorem impl_setOf_l0 (l : List Int) (hl : l.length ≤ 1048576) (hb : ∀ x ∈ l, 0 ≤ x ∧ x < 32) (d : Nat) : ∀ (k i s : Nat), s < 4294967296 → i ≤ l.length → l.length - i = d → d < k →
  impl_setOf.l0 k (s : Int) l (l.length : Int) i = some (((l.drop i).foldl (fun s p => s ||| 2 ^ p.toNat) s : Nat) : Int) := by
 induction d with
 | zero =>
  intro k i s hs hi hd hk
  obtain ⟨k, rfl, _⟩ := fuel hk
  simp only [impl_setOf.l0]
  rw [if_neg (by omega), List.drop_eq_nil_of_le (by omega)]
  rfl
 | succ d ih =>
  intro k i s hs hi hd hk
  obtain ⟨k, rfl, _⟩ := fuel hk
  obtain ⟨b0, b1⟩ := hb (l[i]'(by omega)) (List.getElem_mem _)
  have hp : 2 ^ (l[i]'(by omega)).toNat < 2 ^ 32 := Nat.pow_lt_pow_right (by omega) (by omega)
  simp only [impl_setOf.l0]
  rw [if_pos (by omega), if_pos (by omega), if_pos (by omega), wrap_one (n := l.length) (by omega) (by omega), rd_get l i (by omega), if_pos b0, shl_one _ b0 b1, or_cast _ _ hs hp]
  rw [ih k (i + 1) _ (Nat.or_lt_two_pow (n := 32) hs hp) (by omega) (by omega) (by omega), List.drop_eq_getElem_cons (l := l) (i := i) (by omega)]
  rfl
theorem impl_setOf_eq (l : List Int) (hl : l.length ≤ 1048576) (hb : ∀ x ∈ l, 0 ≤ x ∧ x < 32) (k : Nat) (hk : l.length < k) : impl_setOf.f k l = some ((setN l : Nat) : Int) :=
 impl_setOf_l0 l hl hb l.length k 0 0 (by omega) (by omega) (by omega) hk

theorem taken_lt (s : Int) (ring : Bool) (t : List Int) (hr : RowOK s ring t) : (∀ x ∈ t, 0 ≤ x ∧ x < 32) ∧ setN t < 4294967296 := by
 have hm := rising_mem t _ _ hr.2.2
 have h24 := hr.1
 exact ⟨fun x hx => by have := hm x hx; omega, setN_u32 t fun x hx => by have := hm x hx; omega⟩
theorem impl_taken_eq (s : Int) (ring : Bool) (t : List Int) (hr : RowOK s ring t) (k : Nat) (hk : t.length < k) : impl_Row_taken.f k s ring t = some ((setN t : Nat) : Int) := by
 unfold impl_Row_taken.f
 have := row_len s ring t hr
 rw [impl_setOf_eq t (by omega) (taken_lt s ring t hr).1 k hk, Option.bind_some]

theorem game_iff (a : Int) : spec_l11Game.f a = some (decide (1 ≤ a ∧ a ≤ 2)) := by
 unfold spec_l11Game.f
 by_cases h : a = 1
 ·rw [if_pos h, decide_eq_true (by omega)]
 ·rw [if_neg h]
  refine congrArg some ?_
  rw [Bool.eq_iff_iff, beq_iff_eq, decide_eq_true_eq]
  omega
theorem row_facts {s : Int} {ring : Bool} {t : List Int} (h : RowOK s ring t) : ∃ n : Nat, s = n ∧ 2 ≤ n ∧ n ≤ 24 ∧ (ring = true → 3 ≤ n) ∧ (∀ x ∈ t, 0 ≤ x ∧ x < n) := by
 have h1 := h.1
 have h2 := h.2.1
 refine ⟨s.toNat, by omega, by omega, by omega, fun e => by have := h2 e; omega, fun x hx => ?_⟩
 have := rising_mem t _ _ h.2.2 x hx
 omega
open Classical in
theorem spec_row_ev (s : Int) (ring : Bool) (t : List Int) (ht : t.length ≤ 1048576) : Ev (fun k => spec_l2Row.f k s ring t) (decide (RowOK s ring t)) :=
 Ev.bound t.length fun k hk => spec_l2Row_eq s ring t ht k hk
open Classical in
theorem impl_isGame_ev (s : Int) (ring : Bool) (t : List Int) (ht : t.length ≤ 1048576) (g : Int) : Ev (fun k => impl_isGame.f k s ring t g) (decide (RowOK s ring t ∧ 1 ≤ g ∧ g ≤ 2)) := by
 unfold impl_isGame.f
 refine Ev.bind (Ev.bound (t.length + 3) fun k hk => impl_IsRow_eq s ring t ht k (by omega)) ?_
 by_cases h : RowOK s ring t
 ·refine Ev.pos (decide_eq_true h) ?_
  rw [impl_within_eq]
  refine Ev.same (Ev.now _) ?_
  rw [decide_eq_decide]
  exact ⟨fun e => ⟨h, e⟩, fun e => e.2⟩
 ·exact Ev.same (Ev.neg (by rw [decide_eq_true_eq]; exact h) (Ev.now _)) (decide_eq_false fun e => h e.1).symm
def freeB (t : List Int) (p : Nat) : Bool := !decide ((p : Int) ∈ t)
theorem taken_bit {t : List Int} (hlo : ∀ x ∈ t, 0 ≤ x) (p : Nat) : (setN t).testBit p = !freeB t p := by
 unfold freeB
 rw [testBit_setN, Bool.not_not, decide_eq_decide]
 constructor
 ·rintro ⟨x, hx, e⟩
  have := hlo x hx
  rw [show (p : Int) = x from by omega]
  exact hx
 ·intro h
  exact ⟨(p : Int), h, by omega⟩

def moveB (game : Int) (F : Nat → Bool) (n : Nat) (ring : Bool) (p : Nat) : Bool := if game = 1 then lonelyB F n ring p else F p && F ((p + 1) % n) && (ring || decide (p + 1 < n))
def maskN (game : Int) (n p : Nat) : Nat := if game = 1 then 2 ^ p else 2 ^ p ||| 2 ^ ((p + 1) % n)
theorem next_tmod (p n : Nat) (hp : p < n) (hn : n ≤ 24) : Int.tmod (wrap64 ((p : Int) + 1)) (n : Int) = (((p + 1) % n : Nat) : Int) := by
 rw [wrap_one (n := 100) (by omega) (by omega)]
 exact (Int.ofNat_tmod (p + 1) n).symm
section
variable {F : Nat → Bool} {n : Nat} {ring : Bool} (h2 : 2 ≤ n) (h24 : n ≤ 24) {game : Int} (hg : game = 1 ∨ game = 2)
include h2 h24 hg
theorem spec_moves_ev {t : List Int} (ht : t.length ≤ 1048576) (hT : ∀ p, p < n → decide ((p : Int) ∈ t) = !F p) : Ev (fun k => spec_l11Moves.f k n ring t game) (listN (moveB game F n ring) n) := by
 unfold spec_l11Moves.f
 rcases hg with rfl | rfl
 ·exact Ev.pos rfl (Ev.bind (spec_lonely_ev h24 ht hT) (Ev.now _))
 ·refine Ev.neg (by omega) ?_
  have main : ∀ d i, i + d = n → Ev (fun k => spec_l11Moves.l0 k (listN (moveB 2 F n ring) i) i n ring t) (listN (moveB 2 F n ring) n) := by
   intro d
   induction d with
   | zero =>
    intro i hi
    have : i = n := by omega
    subst this
    refine Ev.succ ?_
    simp only [spec_l11Moves.l0]
    exact Ev.neg (by omega) (Ev.now _)
   | succ d ih =>
    intro i hi
    have go := ih (i + 1) (by omega)
    have hl := listN_len (moveB 2 F n ring) i
    have hm : (i + 1) % n < n := Nat.mod_lt _ (by omega)
    have hmm : (i + 1) % n > i ↔ i + 1 < n := by
     constructor
     ·intro e
      refine Classical.byContradiction fun c => ?_
      have : i + 1 = n := by omega
      rw [this, Nat.mod_self] at e
      omega
     ·intro e
      rw [Nat.mod_eq_of_lt e]
      omega
    rw [listN_succ] at go
    refine Ev.succ ?_
    simp only [spec_l11Moves.l0]
    rw [next_tmod i n (by omega) h24]
    refine Ev.pos (by omega) (Ev.neg (by omega) (Ev.bind (spec_l2Is_ev _ _ _ _ ht) ?_))
    rw [hT i (by omega), wrap_one (n := 100) (by omega) (by omega)]
    have eM : moveB 2 F n ring i = (F i && F ((i + 1) % n) && (ring || decide (i + 1 < n))) := rfl
    cases hF : F i with
    | false =>
     rw [if_neg (by rw [eM, hF]; simp)] at go
     exact Ev.pos (by simp) go
    | true =>
     refine Ev.neg (by simp) (Ev.bind (spec_l2Is_ev _ _ _ _ ht) ?_)
     rw [hT _ hm]
     cases hF2 : F ((i + 1) % n) with
     | false =>
      rw [if_neg (by rw [eM, hF, hF2]; simp)] at go
      exact Ev.pos (by simp) go
     | true =>
      refine Ev.neg (by simp) ?_
      cases ring with
      | true =>
       rw [if_pos (by rw [eM, hF, hF2]; simp)] at go
       exact Ev.pos rfl (Ev.pos (by omega) go)
      | false =>
       refine Ev.neg (by simp) ?_
       by_cases g : i + 1 < n
       ·rw [if_pos (by rw [eM, hF, hF2]; simp [g])] at go
        exact Ev.pos (by have := hmm.2 g; omega) (Ev.pos (by omega) go)
       ·rw [if_neg (by rw [eM, hF, hF2]; simp [g])] at go
        exact Ev.neg (by intro e; exact g (hmm.1 (by omega))) go
  exact main n 0 (by omega)
theorem impl_taking_ev {S : Nat} (hlt : S < 4294967296) (hS : ∀ p, p < n → S.testBit p = !F p) (p : Nat) (hp : p < n) : ∃ v : Nat, Ev (fun k => impl_bench_taking.f k n ring (S : Int) game p) ((v : Int), moveB game F n ring p) ∧ (moveB game F n ring p = true → v = maskN game n p) := by
 have p2 : 2 ^ p < 2 ^ 32 := Nat.pow_lt_pow_right (by omega) (by omega)
 have hm : (p + 1) % n < n := Nat.mod_lt _ (by omega)
 have q2 : 2 ^ ((p + 1) % n) < 2 ^ 32 := Nat.pow_lt_pow_right (by omega) (by omega)
 have hone : Ev (fun k => impl_bench_has.f k n ring [(p : Int)]) true := Ev.bound 3 fun k hk => by
  rw [impl_bench_has_one _ _ _ k (by omega)]
  exact congrArg some (decide_eq_true (by rw [wrap_id (by omega) (by omega)]; omega))
 rcases hg with rfl | rfl
 ·refine ⟨2 ^ p, ?_, fun _ => rfl⟩
  unfold impl_bench_taking.f
  refine Ev.bind hone (Ev.pos rfl (Ev.pos rfl (Ev.pos (by omega) (Ev.bind (impl_lonely_ev h24 hlt hS) (Ev.have (has_bit _ _ (by omega) (bitsN_lt _ _ (by omega))) ?_)))))
  rw [testBit_bitsN, decide_eq_true hp, Bool.true_and, shl_one _ (by omega) (by omega), Int.toNat_natCast]
  exact Ev.now _
 ·have eM : moveB 2 F n ring p = (F p && F ((p + 1) % n) && (ring || decide (p + 1 < n))) := rfl
  -- behind the choice of the neighbor
  have j : ∀ q : Nat, (q < n → q = (p + 1) % n) → (q < n ↔ (ring || decide (p + 1 < n)) = true) → q ≤ n → ∃ v : Nat, Ev (fun k => impl_bench_taking.j0 k (S : Int) p q n ring) ((v : Int), moveB 2 F n ring p) ∧ (moveB 2 F n ring p = true → v = maskN 2 n p) := by
   intro q hq hqn hle
   by_cases e : q = n
   ·have hf : moveB 2 F n ring p = false := by
     rw [eM, Bool.eq_false_iff.2 (fun z => absurd (hqn.2 z) (by omega)), Bool.and_false]
    refine ⟨0, Ev.succ ?_, fun z => absurd z (by rw [hf]; simp)⟩
    rw [hf]
    simp only [impl_bench_taking.j0]
    exact Ev.pos (by omega) (Ev.now _)
   ·have hql : q < n := by omega
    have hq' := hq hql
    have hb := hqn.1 hql
    rw [eM, hb, Bool.and_true]
    cases hF : F p with
    | false =>
     refine ⟨0, Ev.succ ?_, fun z => absurd z (by simp)⟩
     simp only [impl_bench_taking.j0]
     refine Ev.neg (by omega) (Ev.have (has_bit _ _ (by omega) hlt) ?_)
     rw [hS p hp, hF]
     exact Ev.pos rfl (Ev.now _)
    | true =>
     cases hF2 : F ((p + 1) % n) with
     | false =>
      refine ⟨0, Ev.succ ?_, fun z => absurd z (by simp)⟩
      simp only [impl_bench_taking.j0]
      refine Ev.neg (by omega) (Ev.have (has_bit _ _ (by omega) hlt) ?_)
      rw [hS p hp, hF]
      refine Ev.neg (by simp) (Ev.have (has_bit _ _ (by omega) hlt) ?_)
      rw [hS q hql, hq', hF2]
      exact Ev.pos rfl (Ev.now _)
     | true =>
      refine ⟨2 ^ p ||| 2 ^ ((p + 1) % n), Ev.succ ?_, fun _ => rfl⟩
      simp only [impl_bench_taking.j0]
      refine Ev.neg (by omega) (Ev.have (has_bit _ _ (by omega) hlt) ?_)
      rw [hS p hp, hF]
      refine Ev.neg (by simp) (Ev.have (has_bit _ _ (by omega) hlt) ?_)
      rw [hS q hql, hq', hF2]
      refine Ev.neg (by simp) (Ev.pos (by omega) (Ev.pos (by omega) ?_))
      rw [shl_one _ (by omega) (by omega), shl_one _ (by omega) (by omega), Int.toNat_natCast, Int.toNat_natCast, or_cast _ _ (by omega) (by omega)]
      exact Ev.now _
  unfold impl_bench_taking.f
  cases ring with
  | true =>
   obtain ⟨v, e, hv⟩ := j ((p + 1) % n) (fun _ => rfl) (by simp [hm]) (by omega)
   refine ⟨v, Ev.bind hone (Ev.pos rfl (Ev.neg (by omega) (Ev.pos rfl (Ev.neg (by omega) ?_)))), hv⟩
   rw [next_tmod p n hp h24]
   exact e
  | false =>
   obtain ⟨v, e, hv⟩ := j (p + 1) (fun z => (Nat.mod_eq_of_lt z).symm) (by simp) (by omega)
   refine ⟨v, Ev.bind hone (Ev.pos rfl (Ev.neg (by omega) (Ev.neg (by simp) ?_))), hv⟩
   rw [wrap_one (n := 100) (by omega) (by omega)]
   exact e
end

theorem spec_l1Own_eq (l : List Int) (h : l.length < 17592186044416) : spec_l1Own.f l = some l := by
 unfold spec_l1Own.f
 rw [Option.bind_some, if_pos (by simpa using h)]
 rfl

structure Seats (t : List Int) : Prop where
 low : ∀ x ∈ t, 0 ≤ x ∧ x < 32
 nodup : t.Nodup
theorem setN_ext (S : Nat) (l : List Int) (h : ∀ i, S.testBit i = true ↔ ∃ p ∈ l, p.toNat = i) : S = setN l := by
 refine Nat.eq_of_testBit_eq fun i => ?_
 rw [testBit_setN, Bool.eq_iff_iff, h, decide_eq_true_eq]

def putL (t : List Int) (p : Int) : List Int := (t.filter fun x => decide (x < p)) ++ p :: t.filter fun x => decide (p < x)
theorem rising_split (t : List Int) (p : Int) (hr : ∀ i j, (h : i < j) → (hj : j < t.length) → t[i]'(by omega) < t[j]) (i : Nat) (hi : i ≤ t.length) (h1 : ∀ j, (h : j < i) → t[j]'(by omega) < p) (h2 : ∀ j, i ≤ j → (hj : j < t.length) → p < t[j]) :
  t.take i = (t.filter fun x => decide (x < p)) ∧ t.drop i = (t.filter fun x => decide (p < x)) := by
 have e := (List.take_append_drop i t).symm
 have a1 : ∀ x ∈ t.take i, x < p := fun x hx => by
  obtain ⟨j, hj, rfl⟩ := List.getElem_of_mem hx
  rw [List.length_take] at hj
  rw [List.getElem_take]
  exact h1 j (by omega)
 have a2 : ∀ x ∈ t.drop i, p < x := fun x hx => by
  obtain ⟨j, hj, rfl⟩ := List.getElem_of_mem hx
  rw [List.length_drop] at hj
  rw [List.getElem_drop]
  exact h2 _ (by omega) (by omega)
 constructor
 ·conv => rhs; rw [e]
  rw [List.filter_append, List.filter_eq_self.2 (fun x hx => decide_eq_true (a1 x hx)), List.filter_eq_nil_iff.2 (fun x hx => by have := a2 x hx; simp; omega), List.append_nil]
 ·conv => rhs; rw [e]
  rw [List.filter_append, List.filter_eq_nil_iff.2 (fun x hx => by have := a1 x hx; simp; omega), List.filter_eq_self.2 (fun x hx => decide_eq_true (a2 x hx)), List.nil_append]
theorem spec_l1Put_l0 (t : List Int) (p : Int) (ht : t.length ≤ 1048576) (hr : ∀ i j, (h : i < j) → (hj : j < t.length) → t[i]'(by omega) < t[j]) (hp : p ∉ t) (d : Nat) : ∀ (k i : Nat), i ≤ t.length → t.length - i = d → d < k → (∀ j, (h : j < i) → (hj : j < t.length) → t[j] < p) →
  spec_l1Put.l0 k t p (i : Int) = some (putL t p) := by
 have done : ∀ i, i ≤ t.length → (∀ j, (h : j < i) → (hj : j < t.length) → t[j] < p) → (∀ j, i ≤ j → (hj : j < t.length) → p < t[j]) → [] ++ t.take i ++ [p] ++ t.drop i = putL t p := by
  intro i hi h1 h2
  obtain ⟨e1, e2⟩ := rising_split t p hr i hi (fun j hj => h1 j hj (by omega)) h2
  rw [e1, e2]
  simp [putL]
 induction d with
 | zero =>
  intro k i hi hd hk h1
  obtain ⟨k, rfl, _⟩ := fuel hk
  simp only [spec_l1Put.l0]
  rw [if_neg (by omega), Option.bind_some, if_pos (by omega), if_pos (by omega), if_pos (by simp; omega), Option.bind_some, Option.bind_some, if_pos (by simp; omega), Option.bind_some, if_pos (by simp; omega), Int.toNat_natCast, done i hi h1 (fun j hj hj' => by omega)]
 | succ d ih =>
  intro k i hi hd hk h1
  obtain ⟨k, rfl, _⟩ := fuel hk
  simp only [spec_l1Put.l0]
  rw [if_pos (by omega), if_pos (by omega), rd_get t i (by omega)]
  by_cases g : t[i]'(by omega) < p
  ·rw [if_pos g, wrap_one (n := t.length) (by omega) (by omega)]
   refine ih k (i + 1) (by omega) (by omega) (by omega) fun j hj hj' => ?_
   by_cases e : j = i
   ·subst e; exact g
   ·exact h1 j (by omega) hj'
  ·have hne : t[i]'(by omega) ≠ p := fun e => hp (e ▸ List.getElem_mem _)
   rw [if_neg g, if_neg hne, Option.bind_some, if_pos (by omega), if_pos (by simp; omega), Option.bind_some, Option.bind_some, if_pos (by simp; omega), Option.bind_some, if_pos (by simp; omega), Int.toNat_natCast, done i hi h1]
   intro j hj hj'
   by_cases e : j = i
   ·subst e; omega
   ·have := hr i j (by omega) hj'
    omega
theorem spec_l1Put_eq (t : List Int) (p : Int) (ht : t.length ≤ 1048576) (hr : ∀ i j, (h : i < j) → (hj : j < t.length) → t[i]'(by omega) < t[j]) (hp : p ∉ t) (k : Nat) (hk : t.length < k) : spec_l1Put.f k t p = some (putL t p) :=
 spec_l1Put_l0 t p ht hr hp t.length k 0 (by omega) (by omega) hk (fun j h => by omega)
theorem spec_l2With_eq (s : Int) (ring : Bool) (t : List Int) (p : Int) (ht : t.length ≤ 1048576) (hr : ∀ i j, (h : i < j) → (hj : j < t.length) → t[i]'(by omega) < t[j]) (hp : p ∉ t) (k : Nat) (hk : t.length < k) : spec_l2With.f k s ring t p = some (s, ring, putL t p) := by
 unfold spec_l2With.f
 rw [spec_l1Own_eq t (by omega), Option.bind_some, spec_l1Put_eq t p ht hr hp k hk, Option.bind_some, spec_l2Made.f, Option.bind_some]
theorem mem_put (t : List Int) (p x : Int) (hp : p ∉ t) : x ∈ putL t p ↔ x = p ∨ x ∈ t := by
 unfold putL
 rw [List.mem_append, List.mem_cons, List.mem_filter, List.mem_filter, decide_eq_true_eq, decide_eq_true_eq]
 constructor
 ·rintro (e | e | e)
  ·exact .inr e.1
  ·exact .inl e
  ·exact .inr e.1
 ·rintro (e | e)
  ·exact .inr (.inl e)
  ·rcases Int.lt_trichotomy x p with g | g | g
   ·exact .inl ⟨e, g⟩
   ·exact .inr (.inl g)
   ·exact .inr (.inr ⟨e, g⟩)
theorem rising_of (t : List Int) (h : t.Pairwise (· < ·)) : ∀ i j, (h : i < j) → (hj : j < t.length) → t[i]'(by omega) < t[j] := fun i j hij hj => List.pairwise_iff_getElem.1 h i j (by omega) hj hij
theorem put_pairwise (t : List Int) (p : Int) (h : t.Pairwise (· < ·)) : (putL t p).Pairwise (· < ·) := by
 unfold putL
 rw [List.pairwise_append]
 refine ⟨List.Pairwise.filter _ h, List.pairwise_cons.2 ⟨fun x hx => ?_, List.Pairwise.filter _ h⟩, fun a ha b hb => ?_⟩
 ·exact of_decide_eq_true (List.mem_filter.1 hx).2
 ·have h1 := of_decide_eq_true (List.mem_filter.1 ha).2
  rcases List.mem_cons.1 hb with e | e
  ·omega
  ·have h2 := of_decide_eq_true (List.mem_filter.1 e).2
   omega
theorem row_pairwise {s : Int} {ring : Bool} {t : List Int} (h : RowOK s ring t) : t.Pairwise (· < ·) := List.pairwise_iff_getElem.2 fun i j hi hj hij => rising_lt t _ _ h.2.2 i j hij hj
theorem put_set (t : List Int) (p : Int) (hp : p ∉ t) : setN t ||| 2 ^ p.toNat = setN (putL t p) := by
 refine setN_ext _ _ fun i => ?_
 rw [Nat.testBit_or, testBit_setN, Nat.testBit_two_pow, Bool.or_eq_true, decide_eq_true_eq, decide_eq_true_eq]
 constructor
 ·rintro (⟨x, hx, e⟩ | e)
  ·exact ⟨x, (mem_put t p x hp).2 (.inr hx), e⟩
  ·exact ⟨p, (mem_put t p p hp).2 (.inl rfl), e⟩
 ·rintro ⟨x, hx, e⟩
  rcases (mem_put t p x hp).1 hx with g | g
  ·subst g; exact .inr e
  ·exact .inl ⟨x, g, e⟩
def madeL (game : Int) (n : Nat) (t : List Int) (p : Nat) : List Int := if game = 2 then putL (putL t p) (((p + 1) % n : Nat) : Int) else putL t p
theorem rising_mk (l : List Int) (a b : Int) (hp : l.Pairwise (· < ·)) (hb : ∀ x ∈ l, a ≤ x ∧ x ≤ b) : Rising l a b := by
 intro i h
 refine ⟨hb _ (List.getElem_mem _), fun h0 => ?_⟩
 have := List.pairwise_iff_getElem.1 hp (i - 1) i (by omega) h (by omega)
 simpa [List.getD, show i - 1 < l.length from by omega] using this
theorem row_put {s : Int} {ring : Bool} {t : List Int} (h : RowOK s ring t) (p : Int) (h0 : 0 ≤ p) (h1 : p < s) (hp : p ∉ t) : RowOK s ring (putL t p) ∧ t.length < (putL t p).length := by
 have hm := rising_mem t _ _ h.2.2
 refine ⟨⟨h.1, h.2.1, rising_mk _ _ _ (put_pairwise t p (row_pairwise h)) fun x hx => ?_⟩, ?_⟩
 ·rcases (mem_put t p x hp).1 hx with e | e
  ·omega
  ·exact hm x e
 ·have hn : (p :: t).Nodup := List.nodup_cons.2 ⟨hp, rising_nodup t _ _ h.2.2⟩
  have := List.Nodup.length_le_of_subset hn (l₂ := putL t p) fun x hx => by
   rcases List.mem_cons.1 hx with e | e
   ·exact (mem_put t p x hp).2 (.inl e)
   ·exact (mem_put t p x hp).2 (.inr e)
  rw [List.length_cons] at this
  omega
theorem move_facts {game : Int} (hg : game = 1 ∨ game = 2) {n : Nat} {ring : Bool} {t : List Int} {p : Nat} (h2 : 2 ≤ n) (hp : p < n) (hM : moveB game (freeB t) n ring p = true) : (p : Int) ∉ t ∧ (game = 2 → (((p + 1) % n : Nat) : Int) ∉ putL t p) := by
 have fr : ∀ q : Nat, freeB t q = true → (q : Int) ∉ t := fun q hq => by unfold freeB at hq; simpa using hq
 rcases hg with rfl | rfl
 ·have hM : lonelyB (freeB t) n ring p = true := hM
  unfold lonelyB at hM
  exact ⟨fr p (Bool.and_eq_true_iff.1 hM).1, fun e => absurd e (by omega)⟩
 ·have hM : (freeB t p && freeB t ((p + 1) % n) && (ring || decide (p + 1 < n))) = true := hM
  have h1 := Bool.and_eq_true_iff.1 (Bool.and_eq_true_iff.1 hM).1
  have hp1 := fr p h1.1
  refine ⟨hp1, fun _ e => ?_⟩
  rcases (mem_put t p _ hp1).1 e with g | g
  ·by_cases c : p + 1 < n
   ·rw [Nat.mod_eq_of_lt c] at g
    omega
   ·have : p + 1 = n := by omega
    rw [this, Nat.mod_self] at g
    omega
  ·exact fr _ h1.2 g
theorem made_row {game : Int} (hg : game = 1 ∨ game = 2) {n : Nat} {ring : Bool} {t : List Int} {p : Nat} (h : RowOK n ring t) (hp : p < n) (hM : moveB game (freeB t) n ring p = true) : RowOK n ring (madeL game n t p) ∧ t.length < (madeL game n t p).length ∧ setN t ||| maskN game n p = setN (madeL game n t p) := by
 have h2 : 2 ≤ n := by have := h.1; omega
 have hf := move_facts hg h2 hp hM
 have h1 := row_put h p (by omega) (by omega) hf.1
 have s1 := put_set t p hf.1
 rw [Int.toNat_natCast] at s1
 have hm : (p + 1) % n < n := Nat.mod_lt _ (by omega)
 unfold madeL maskN
 rcases hg with rfl | rfl
 ·rw [if_neg (by omega), if_pos rfl]
  exact ⟨h1.1, h1.2, s1⟩
 ·rw [if_pos rfl, if_neg (by omega)]
  have hq := hf.2 rfl
  have h3 := row_put h1.1 _ (by omega) (by omega) hq
  have s2 := put_set _ _ hq
  rw [Int.toNat_natCast] at s2
  exact ⟨h3.1, by omega, by rw [← Nat.or_assoc, s1, s2]⟩
theorem spec_made_ev {game : Int} (hg : game = 1 ∨ game = 2) {n : Nat} {ring : Bool} {t : List Int} {p : Nat} (h : RowOK n ring t) (hp : p < n) (hM : moveB game (freeB t) n ring p = true) : Ev (fun k => spec_l11Made.f k n ring t game p) ((n : Int), ring, madeL game n t p) := by
 have h2 : 2 ≤ n := by have := h.1; omega
 have h24 : n ≤ 24 := by have := h.1; omega
 have hf := move_facts hg h2 hp hM
 have hl := row_len _ ring t h
 have h1 := row_put h p (by omega) (by omega) hf.1
 have hl1 := row_len _ ring _ h1.1
 unfold spec_l11Made.f
 refine Ev.bind (Ev.bound 100 fun k hk => spec_l2With_eq _ ring t p (by omega) (rising_of t (row_pairwise h)) hf.1 k (by omega)) ?_
 dsimp only
 unfold madeL
 rcases hg with rfl | rfl
 ·rw [if_neg (show ¬ (1 : Int) = 2 from by omega)]
  exact Ev.neg (by omega) (Ev.now _)
 ·rw [if_pos rfl, next_tmod p n hp h24]
  refine Ev.pos rfl (Ev.neg (by omega) (Ev.bind (Ev.bound 100 fun k hk => spec_l2With_eq _ ring _ _ (by omega) (rising_of _ (row_pairwise h1.1)) (hf.2 rfl) k (by omega)) (Ev.now _)))

theorem ctz_lowest (s a : Nat) (ha : s.testBit a = true) (hl : ∀ j, j < a → s.testBit j = false) (h : s < 2 ^ 32) : Lib.ctz 32 s = a := by
 have h0 : s ≠ 0 := fun e => by rw [e] at ha; simp at ha
 unfold Lib.ctz
 rw [if_neg h0]
 obtain ⟨m, hm, hf⟩ := Lib.ctzFrom_spec 32 s (by omega) h
 generalize Lib.ctzFrom 32 s = c at hm hf
 rcases Nat.lt_trichotomy c a with g | g | g
 ·have := hl c g
  rw [hm, Nat.testBit_two_pow_mul] at this
  simp at this
 ·exact g
 ·rw [hm, Nat.testBit_two_pow_mul] at ha
  simp at ha
  omega
theorem and_pred (q a : Nat) : (2 ^ (a + 1) * q + 2 ^ a) &&& (2 ^ (a + 1) * q + 2 ^ a - 1) = 2 ^ (a + 1) * q := by
 have p : 0 < 2 ^ a := Nat.two_pow_pos a
 have l1 : 2 ^ a < 2 ^ (a + 1) := Nat.pow_lt_pow_right (by omega) (by omega)
 refine Nat.eq_of_testBit_eq fun j => ?_
 rw [show 2 ^ (a + 1) * q + 2 ^ a - 1 = 2 ^ (a + 1) * q + (2 ^ a - 1) from by omega, Nat.testBit_and, Nat.testBit_two_pow_mul_add q l1 j, Nat.testBit_two_pow_mul_add q (show 2 ^ a - 1 < 2 ^ (a + 1) by omega) j, Nat.testBit_two_pow_mul]
 by_cases g : j < a + 1
 ·rw [if_pos g, if_pos g, decide_eq_false (by omega : ¬ a + 1 ≤ j), Bool.false_and, Nat.testBit_two_pow, Nat.testBit_two_pow_sub_one]
  by_cases e : a = j
  ·subst e; simp
  ·simp [e]
 ·rw [if_neg g, if_neg g, decide_eq_true (by omega : a + 1 ≤ j), Bool.true_and, Bool.and_self]
theorem setN_cons (a : Int) (L : List Int) : setN (a :: L) = 2 ^ a.toNat ||| setN L := by
 refine Nat.eq_of_testBit_eq fun j => ?_
 rw [testBit_setN, Nat.testBit_or, Nat.testBit_two_pow, testBit_setN, Bool.eq_iff_iff]
 simp
theorem setN_split (a : Nat) (L : List Int) (hL : ∀ x ∈ L, (a : Int) < x) : ∃ q, setN L = 2 ^ (a + 1) * q ∧ setN ((a : Int) :: L) = 2 ^ (a + 1) * q + 2 ^ a := by
 have e : setN L = 2 ^ (a + 1) * (setN L / 2 ^ (a + 1)) := by
  have hz : setN L % 2 ^ (a + 1) = 0 := by
   refine Nat.eq_of_testBit_eq fun j => ?_
   rw [Nat.testBit_mod_two_pow, testBit_setN]
   by_cases g : j < a + 1
   ·have : ¬ ∃ p ∈ L, p.toNat = j := fun ⟨p, hp, e⟩ => by have := hL p hp; omega
    rw [decide_eq_false this]
    simp
   ·rw [decide_eq_false g]
    simp
  have := Nat.mod_add_div (setN L) (2 ^ (a + 1))
  omega
 refine ⟨setN L / 2 ^ (a + 1), e, ?_⟩
 have l1 : 2 ^ a < 2 ^ (a + 1) := Nat.pow_lt_pow_right (by omega) (by omega)
 rw [setN_cons, Int.toNat_natCast]
 generalize setN L / 2 ^ (a + 1) = q at e
 rw [e, Nat.or_comm, Nat.two_pow_add_eq_or_of_lt l1]
theorem set_list_l0 (L : List Int) : ∀ (out : List Int) (k : Nat), L.Pairwise (· < ·) → (∀ x ∈ L, 0 ≤ x ∧ x < 32) → out.length + L.length ≤ 1000 → L.length < k → impl_set_list.l0 k ((setN L : Nat) : Int) out = some (out ++ L) := by
 induction L with
 | nil =>
  intro out k _ _ _ hk
  obtain ⟨k, rfl, _⟩ := fuel hk
  simp only [impl_set_list.l0]
  rw [if_pos (show ((setN [] : Nat) : Int) = 0 from rfl), List.append_nil]
 | cons b L ih =>
  intro out k hp hb ho hk
  obtain ⟨k, rfl, hk'⟩ := fuel hk
  rw [List.length_cons] at ho hk'
  obtain ⟨h1, h2⟩ := List.pairwise_cons.1 hp
  have hb0 := hb b List.mem_cons_self
  obtain ⟨a, rfl⟩ : ∃ a : Nat, b = a := ⟨b.toNat, by omega⟩
  obtain ⟨q, e1, e2⟩ := setN_split a L h1
  have hlt : setN ((a : Int) :: L) < 4294967296 := setN_u32 _ fun p hp => (hb p hp).2
  have hlt2 : setN L < 4294967296 := setN_u32 _ fun p hp => (hb p (List.mem_cons_of_mem _ hp)).2
  have pa : 0 < 2 ^ a := Nat.two_pow_pos a
  have hctz : Lib.ctz 32 (setN ((a : Int) :: L)) = a := by
   refine ctz_lowest _ a ?_ (fun j hj => ?_) hlt
   ·rw [testBit_setN]
    exact decide_eq_true ⟨a, List.mem_cons_self, Int.toNat_natCast a⟩
   ·rw [testBit_setN]
    refine decide_eq_false fun ⟨p, hp, e⟩ => ?_
    rcases List.mem_cons.1 hp with g | g
    ·omega
    ·have := h1 p g; omega
  simp only [impl_set_list.l0]
  rw [if_neg (by omega)]
  have ef : bits_TrailingZeros32.f ((setN ((a : Int) :: L) : Nat) : Int) = some (a : Int) := by
   unfold bits_TrailingZeros32.f
   rw [if_pos (by omega), Int.toNat_natCast, hctz]
  rw [ef, Option.bind_some, if_pos (by omega)]
  have em : (((setN ((a : Int) :: L) : Nat) : Int) - 1) % 4294967296 = ((setN ((a : Int) :: L) - 1 : Nat) : Int) := by omega
  rw [em, and_cast _ _ hlt (by omega), e2, and_pred, ← e1, ih (out ++ [(a : Int)]) k h2 (fun x hx => hb x (List.mem_cons_of_mem _ hx)) (by simp; omega) (by omega), List.append_assoc]
  rfl
theorem set_list_ev (L : List Int) (hp : L.Pairwise (· < ·)) (hb : ∀ x ∈ L, 0 ≤ x ∧ x < 32) (hl : L.length ≤ 100) : Ev (fun k => impl_set_list.f k ((setN L : Nat) : Int)) L := by
 refine Ev.bound L.length fun k hk => ?_
 unfold impl_set_list.f
 have := set_list_l0 L [] k hp hb (by simp; omega) hk
 rwa [List.nil_append] at this

theorem laws_toIntS_l0 (l : List Int) (hl : l.length ≤ 1048576) (d : Nat) : ∀ (k i : Nat) (x : List Int), x.length = l.length → i ≤ l.length → l.length - i = d → d < k → (∀ j (h : j < i) (h' : j < x.length) (h'' : j < l.length), x[j] = l[j]) → laws_toIntS.l0 k l x i = some l := by
 induction d with
 | zero =>
  intro k i x hx hi hd hk hp
  obtain ⟨k, rfl, _⟩ := fuel hk
  simp only [laws_toIntS.l0]
  rw [if_neg (by omega)]
  refine congrArg some ?_
  apply List.ext_getElem hx
  intro j h1 h2
  exact hp j (by omega) h1 h2
 | succ d ih =>
  intro k i x hx hi hd hk hp
  obtain ⟨k, rfl, _⟩ := fuel hk
  simp only [laws_toIntS.l0]
  rw [if_pos (by omega), if_pos (by omega), if_pos (by omega), wrap_one (n := l.length) (by omega) (by omega)]
  rw [rd_get l i (by omega), Int.toNat_natCast, ih k (i + 1) _ (by simp [hx]) (by omega) (by omega) (by omega)]
  intro j h h' h''
  rw [List.getElem_set]
  split
  ·rename_i e
   subst e
   rfl
  ·rename_i e
   exact hp j (by omega) (by simpa using h') h''
theorem laws_toIntS_eq (l : List Int) (hl : l.length ≤ 1048576) (k : Nat) (hk : l.length < k) : laws_toIntS.f k l = some l := by
 unfold laws_toIntS.f
 rw [if_pos (by omega), if_pos (by omega)]
 exact laws_toIntS_l0 l hl l.length k 0 _ (by simp) (by omega) (by omega) hk (fun j h => by omega)

theorem laws_eqIntS_l0 (a b : List Int) (hl : a.length ≤ 1048576) (he : a.length = b.length) (d : Nat) : ∀ (k i : Nat), i ≤ a.length → a.length - i = d → d < k → laws_eqIntS.l0 k a b i = some (decide (a.drop i = b.drop i)) := by
 induction d with
 | zero =>
  intro k i hi hd hk
  obtain ⟨k, rfl, _⟩ := fuel hk
  simp only [laws_eqIntS.l0]
  rw [if_neg (by omega), List.drop_eq_nil_of_le (by omega), List.drop_eq_nil_of_le (by omega)]
  simp
 | succ d ih =>
  intro k i hi hd hk
  obtain ⟨k, rfl, _⟩ := fuel hk
  simp only [laws_eqIntS.l0]
  rw [if_pos (by omega), if_pos (by omega), if_pos (by omega), wrap_one (n := a.length) (by omega) (by omega), rd_get a i (by omega), rd_get b i (by omega), ih k (i + 1) (by omega) (by omega) (by omega)]
  rw [List.drop_eq_getElem_cons (l := a) (i := i) (by omega), List.drop_eq_getElem_cons (l := b) (i := i) (by omega)]
  by_cases h : a[i]'(by omega) = b[i]'(by omega)
  ·rw [if_pos h]
   refine congrArg some ?_
   rw [decide_eq_decide, List.cons.injEq]
   exact ⟨fun e => ⟨h, e⟩, fun e => e.2⟩
  ·rw [if_neg h]
   refine congrArg some ?_
   symm
   rw [decide_eq_false_iff_not, List.cons.injEq]
   exact fun e => h e.1
theorem laws_eqIntS_eq (a b : List Int) (hl : a.length ≤ 1048576) (k : Nat) (hk : a.length < k) : laws_eqIntS.f k a b = some (decide (a = b)) := by
 unfold laws_eqIntS.f
 by_cases h : a.length = b.length
 ·rw [if_pos (by omega)]
  have := laws_eqIntS_l0 a b hl h a.length k 0 (by omega) (by omega) hk
  simpa using this
 ·rw [if_neg (by omega)]
  refine congrArg some ?_
  symm
  rw [decide_eq_false_iff_not]
  intro e
  exact h (by rw [e])
theorem laws_eqIntS_self (a : List Int) (hl : a.length ≤ 1048576) (k : Nat) (hk : a.length < k) : laws_eqIntS.f k a a = some true := by
 rw [laws_eqIntS_eq a a hl k hk]
 simp

theorem laws_toIntS_ev (l : List Int) (hl : l.length ≤ 1048576) : Ev (fun k => laws_toIntS.f k l) l := Ev.bound l.length fun k hk => laws_toIntS_eq l hl k hk
theorem laws_eqIntS_ev (l : List Int) (hl : l.length ≤ 1048576) : Ev (fun k => laws_eqIntS.f k l l) true := Ev.bound l.length fun k hk => laws_eqIntS_self l hl k hk

theorem laws_szRow_eq (s : Int) (b : Bool) (t : List Int) (m : Nat) (hm : m ≤ 1048576) (ht : t.length ≤ maxLen) : laws_szRow.f s b t (m : Int) = some (if t.length ≤ m then ((m - t.length : Nat) : Int) else -1) := by
 have hmax : t.length ≤ 9223372036854775807 := ht
 unfold laws_szRow.f laws_szIntS.f
 rw [wrap_id (by omega) (by omega)]
 by_cases h : t.length ≤ m
 ·rw [if_neg (by omega), Option.bind_some, if_neg (by omega), if_pos h]
  refine congrArg some ?_
  omega
 ·rw [if_pos (by omega), Option.bind_some, if_pos (by omega), if_neg h]
theorem laws_toRow_ev (s : Int) (b : Bool) (t : List Int) (ht : t.length ≤ 1048576) : Ev (fun k => laws_toRow.f k s b t) (s, b, t) := by
 unfold laws_toRow.f
 exact Ev.bind (laws_toIntS_ev t ht) (Ev.now _)
theorem laws_eqRow_ev (s : Int) (b : Bool) (t : List Int) (ht : t.length ≤ 1048576) : Ev (fun k => laws_eqRow.f k s b t s b t) true := by
 unfold laws_eqRow.f
 refine Ev.pos rfl (Ev.neg (by simp) ?_)
 exact Ev.bind (laws_eqIntS_ev t ht) (Ev.pos rfl (Ev.now _))

theorem laws_markIntS_l0 (d : Nat) : ∀ (k i : Nat) (x : List Int) (m : Nat), x.length ≤ 1048576 → m ≤ 1000000000 + i → i ≤ x.length → x.length - i = d → d < k →
  laws_markIntS.l0 k x m i = some (((m + (x.length - i) : Nat) : Int), x.take i ++ (List.range (x.length - i)).map fun j => ((m + j : Nat) : Int)) := by
 induction d with
 | zero =>
  intro k i x m hx hm hi hd hk
  obtain ⟨k, rfl, _⟩ := fuel hk
  simp only [laws_markIntS.l0]
  rw [if_neg (by omega), hd]
  simp [List.take_of_length_le (show x.length ≤ i by omega)]
 | succ d ih =>
  intro k i x m hx hm hi hd hk
  obtain ⟨k, rfl, _⟩ := fuel hk
  simp only [laws_markIntS.l0]
  rw [if_pos (by omega), if_pos (by omega), wrap_one (n := x.length) (i := i) (by omega) (by omega), wrap_one (n := m + 1) (i := m) (by omega) (by omega), Int.toNat_natCast]
  rw [ih k (i + 1) (x.set i m) (m + 1) (by simp; omega) (by omega) (by simp; omega) (by simp; omega) (by omega)]
  simp only [List.length_set, Option.some.injEq, Prod.mk.injEq]
  refine ⟨by omega, ?_⟩
  rw [hd, show x.length - (i + 1) = d from by omega, List.range_succ_eq_map, List.map_cons, List.map_map]
  rw [List.take_set, List.take_add_one, List.set_append_right _ _ (by simp; omega)]
  simp [List.length_take, show min i x.length = i from by omega, List.getElem?_eq_getElem (show i < x.length by omega)]
  intro a _
  omega
theorem laws_markIntS_eq (x : List Int) (m k : Nat) (hx : x.length ≤ 1048576) (hm : m ≤ 1000000000) (hk : x.length < k) :
  laws_markIntS.f k x m = some (((m + x.length : Nat) : Int), (List.range x.length).map fun j => ((m + j : Nat) : Int)) := by
 unfold laws_markIntS.f
 have := laws_markIntS_l0 x.length k 0 x m hx (by omega) (by omega) (by omega) hk
 simpa using this
theorem laws_heldIntS_l0 (n m : Nat) (hx : n ≤ 1048576) (hm : m ≤ 1000000000) (d : Nat) : ∀ (k i : Nat), i ≤ n → n - i = d → d < k →
  laws_heldIntS.l0 k ((List.range n).map fun j => ((m + j : Nat) : Int)) ((m + i : Nat) : Int) i = some (((m + n : Nat) : Int)) := by
 induction d with
 | zero =>
  intro k i hi hd hk
  obtain ⟨k, rfl, _⟩ := fuel hk
  simp only [laws_heldIntS.l0]
  rw [if_neg (by simp; omega), show i = n from by omega]
 | succ d ih =>
  intro k i hi hd hk
  obtain ⟨k, rfl, _⟩ := fuel hk
  simp only [laws_heldIntS.l0]
  rw [if_pos (by simp; omega), if_pos (by omega), rd_get _ i (by simp; omega)]
  simp only [List.getElem_map, List.getElem_range, if_true]
  rw [wrap_one (n := n) (i := i) (by omega) (by omega), wrap_one (n := m + i + 1) (i := m + i) (by omega) (by omega), show m + i + 1 = m + (i + 1) from by omega]
  exact ih k (i + 1) (by omega) (by omega) (by omega)
theorem laws_heldIntS_eq (n m k : Nat) (hx : n ≤ 1048576) (hm : m ≤ 1000000000) (hk : n < k) :
  laws_heldIntS.f k ((List.range n).map fun j => ((m + j : Nat) : Int)) m = some (((m + n : Nat) : Int)) :=
 laws_heldIntS_l0 n m hx hm n k 0 (by omega) (by omega) hk

def marksL (n : Nat) (m : Int) : List Int := (List.range n).map fun j => ((m.toNat + j : Nat) : Int)
theorem laws_markIntS_ev (l : List Int) (m : Int) (hl : l.length ≤ 1048576) (h0 : 0 ≤ m) (hm : m ≤ 1000000000) : Ev (fun k => laws_markIntS.f k l m) (m + l.length, marksL l.length m) :=
 Ev.bound l.length fun k hk => by
  obtain ⟨n, rfl⟩ : ∃ n : Nat, m = n := ⟨m.toNat, by omega⟩
  rw [laws_markIntS_eq l n k hl (by omega) hk]
  unfold marksL
  rw [Int.toNat_natCast]
  refine congrArg some (Prod.ext ?_ rfl)
  exact Int.natCast_add _ _
theorem laws_heldIntS_ev (n : Nat) (m : Int) (hl : n ≤ 1048576) (h0 : 0 ≤ m) (hm : m ≤ 1000000000) : Ev (fun k => laws_heldIntS.f k (marksL n m) m) (m + n) :=
 Ev.bound n fun k hk => by
  obtain ⟨j, rfl⟩ : ∃ j : Nat, m = j := ⟨m.toNat, by omega⟩
  unfold marksL
  rw [Int.toNat_natCast, laws_heldIntS_eq n j k hl (by omega) hk]
  exact congrArg some (Int.natCast_add _ _)

theorem laws_markRow_ev (s : Int) (b : Bool) (l : List Int) (m : Int) (hl : l.length ≤ 1048576) (h0 : 0 ≤ m) (hm : m ≤ 1000000000) : Ev (fun k => laws_markRow.f k s b l m) (m + l.length, marksL l.length m) := by
 unfold laws_markRow.f
 exact Ev.bind (laws_markIntS_ev l m hl h0 hm) (Ev.now _)

theorem laws_heldRow_ev (s : Int) (b : Bool) (n : Nat) (m : Int) (hl : n ≤ 1048576) (h0 : 0 ≤ m) (hm : m ≤ 1000000000) : Ev (fun k => laws_heldRow.f k s b (marksL n m) m) (m + n) := by
 unfold laws_heldRow.f
 exact Ev.bind (laws_heldIntS_ev n m hl h0 hm) (Ev.neg (by omega) (Ev.now _))

theorem taking_out (n : Nat) (ring : Bool) (S g p : Int) (h24 : n ≤ 24) (h2 : 2 ≤ n) (hp : ¬ (0 ≤ p ∧ p < n)) : Ev (fun k => impl_bench_taking.f k n ring S g p) (0, false) := by
 have hone : Ev (fun k => impl_bench_has.f k n ring [p]) false := Ev.bound 3 fun k hk => by
  rw [impl_bench_has_one _ _ _ k (by omega)]
  exact congrArg some (decide_eq_false (by rw [wrap_id (by omega) (by omega)]; omega))
 unfold impl_bench_taking.f
 exact Ev.bind hone (Ev.neg (by simp) (Ev.now _))
open Classical in
theorem made_both (s : Int) (ring : Bool) (t : List Int) (ht : t.length ≤ 1048576) (g p : Int) : ∃ (s' : Int) (r' : Bool) (l : List Int) (b : Bool), l.length ≤ 1048576 ∧ Ev (fun k => spec_MakeMove.f k s ring t g p) (s', r', l, b) ∧ Ev (fun k => impl_MakeMove.f k s ring t g p) (s', r', l, b) := by
 by_cases h : RowOK s ring t ∧ 1 ≤ g ∧ g ≤ 2
 ·have hg : g = 1 ∨ g = 2 := by have := h.2; omega
  obtain ⟨n, rfl, h2, h24, h3, hin⟩ := row_facts h.1
  have hlen := listN_len (moveB g (freeB t) n ring) n
  have hmv := spec_moves_ev (ring := ring) h2 h24 hg ht (F := freeB t) (fun p _ => by unfold freeB; simp)
  have hlt := (taken_lt _ ring t h.1).2
  have hrl := row_len _ ring t h.1
  have tk : Ev (fun k => impl_Row_taken.f k (n : Int) ring t) ((setN t : Nat) : Int) := Ev.bound t.length fun k hk => impl_taken_eq _ ring t h.1 k hk
  have has : Ev (fun k => spec_l1Has.f k (listN (moveB g (freeB t) n ring) n) p) (decide (p ∈ listN (moveB g (freeB t) n ring) n)) := Ev.bound n fun k hk => spec_l1Has_eq _ p (by omega) k (by omega)
  by_cases hM : ∃ q : Nat, q < n ∧ moveB g (freeB t) n ring q = true ∧ p = q
  ·obtain ⟨q, hq, hM, rfl⟩ := hM
   have hmade := made_row hg h.1 hq hM
   have hl := row_len _ ring _ hmade.1
   obtain ⟨v, e, hv⟩ := impl_taking_ev h2 h24 hg (ring := ring) (F := freeB t) hlt (fun j _ => taken_bit (fun x hx => (rising_mem t _ _ h.1.2.2 x hx).1) j) q hq
   have hv := hv hM
   rw [hM] at e
   have hv2 : v < 4294967296 := by
    have p2 : 2 ^ q < 2 ^ 32 := Nat.pow_lt_pow_right (by omega) (by omega)
    have hmq : (q + 1) % n < n := Nat.mod_lt _ (by omega)
    have q2 : 2 ^ ((q + 1) % n) < 2 ^ 32 := Nat.pow_lt_pow_right (by omega) (by omega)
    rw [hv]
    unfold maskN
    split
    ·exact p2
    ·exact Nat.or_lt_two_pow p2 q2
   have hmem := rising_mem (madeL g n t q) _ _ hmade.1.2.2
   refine ⟨n, ring, madeL g n t q, true, by omega, ?_, ?_⟩
   ·unfold spec_MakeMove.f
    refine Ev.bind (spec_row_ev _ ring t ht) (Ev.pos (decide_eq_true h.1) (Ev.have (game_iff g) (Ev.pos (decide_eq_true h.2) (Ev.bind hmv (Ev.bind has (Ev.pos (decide_eq_true ((mem_listN _ _ _).2 ⟨q, hq, hM, rfl⟩)) ?_))))))
    exact Ev.bind (spec_made_ev hg h.1 hq hM) (Ev.now _)
   ·unfold impl_MakeMove.f
    refine Ev.bind (impl_isGame_ev _ ring t ht g) (Ev.pos (decide_eq_true h) (Ev.have rfl (Ev.bind tk (Ev.bind e (Ev.pos rfl (Ev.have rfl (Ev.bind tk ?_)))))))
    dsimp only
    rw [or_cast _ _ hlt hv2, hv, hmade.2.2]
    refine Ev.bind (a := ((n : Int), ring, madeL g n t q)) ?_ (Ev.now _)
    unfold impl_bench_row.f
    exact Ev.bind (set_list_ev _ (row_pairwise hmade.1) (fun x hx => by have := hmem x hx; omega) (by omega)) (Ev.now _)
  ·refine ⟨0, false, [], false, by simp, ?_, ?_⟩
   ·unfold spec_MakeMove.f
    exact Ev.bind (spec_row_ev _ ring t ht) (Ev.pos (decide_eq_true h.1) (Ev.have (game_iff g) (Ev.pos (decide_eq_true h.2) (Ev.bind hmv (Ev.bind has (Ev.neg (by rw [decide_eq_true_eq, mem_listN]; exact hM) (Ev.now _)))))))
   ·unfold impl_MakeMove.f
    by_cases hp : 0 ≤ p ∧ p < n
    ·obtain ⟨q, rfl⟩ : ∃ q : Nat, p = q := ⟨p.toNat, by omega⟩
     obtain ⟨v, e, hv⟩ := impl_taking_ev h2 h24 hg (ring := ring) (F := freeB t) hlt (fun j _ => taken_bit (fun x hx => (rising_mem t _ _ h.1.2.2 x hx).1) j) q (by omega)
     rw [show moveB g (freeB t) n ring q = false from Bool.eq_false_iff.2 fun e => hM ⟨q, by omega, e, rfl⟩] at e
     exact Ev.bind (impl_isGame_ev _ ring t ht g) (Ev.pos (decide_eq_true h) (Ev.have rfl (Ev.bind tk (Ev.bind e (Ev.neg (by simp) (Ev.now _))))))
    ·exact Ev.bind (impl_isGame_ev _ ring t ht g) (Ev.pos (decide_eq_true h) (Ev.have rfl (Ev.bind tk (Ev.bind (taking_out n ring _ g p h24 h2 hp) (Ev.neg (by simp) (Ev.now _))))))
 ·refine ⟨0, false, [], false, by simp, ?_, ?_⟩
  ·unfold spec_MakeMove.f
   refine Ev.bind (spec_row_ev s ring t ht) ?_
   by_cases hr : RowOK s ring t
   ·exact Ev.pos (decide_eq_true hr) (Ev.have (game_iff g) (Ev.neg (by rw [decide_eq_true_eq]; exact fun e => h ⟨hr, e⟩) (Ev.now _)))
   ·exact Ev.neg (by rw [decide_eq_true_eq]; exact hr) (Ev.now _)
  ·unfold impl_MakeMove.f
   exact Ev.bind (impl_isGame_ev s ring t ht g) (Ev.neg (by rw [decide_eq_true_eq]; exact h) (Ev.now _))
theorem FnExactMakeMove : ∀ (a0_0 : Int) (a0_1 : Bool) (a0_2 : List Int) (a1 : Int) (a2 : Int), (Lit.int .i64 a0_0).wf = true → a0_2.length ≤ maxLen → (∀ x ∈ a0_2, (Lit.int .i64 x).wf = true) → (Lit.int .i64 a1).wf = true → (Lit.int .i64 a2).wf = true → ∃ k, laws_FnExactMakeMove.f k a0_0 a0_1 a0_2 a1 a2 = some true := by
 intro s ring t g p _ ht _ _ _
 refine Ev.rounds ?_
 unfold laws_FnExactMakeMove.f
 by_cases h2 : t.length ≤ 1048576
 ·obtain ⟨s', r', l, b, hr, e1, e2⟩ := made_both s ring t h2 g p
  refine Ev.have (laws_szRow_eq s ring t 1048576 (by omega) ht) ?_
  rw [if_pos h2]
  have e3 := laws_heldRow_ev s' r' l.length 1 hr (by omega) (by omega)
  repeat' (first
   | exact Ev.now _
   | (refine Ev.bind e1 ?_; (try dsimp only))
   | (refine Ev.bind e2 ?_; (try dsimp only))
   | (refine Ev.bind e3 ?_; (try dsimp only))
   | (refine Ev.bind (laws_toIntS_ev _ (by omega)) ?_; (try dsimp only))
   | (refine Ev.bind (laws_eqIntS_ev _ (by omega)) ?_; (try dsimp only))
   | (refine Ev.bind (laws_markIntS_ev _ _ (by omega) (by omega) (by omega)) ?_; (try dsimp only))
   | (refine Ev.bind (laws_heldIntS_ev _ _ (by omega) (by omega) (by omega)) ?_; (try dsimp only))
   | (refine Ev.bind (laws_toRow_ev _ _ _ (by omega)) ?_; (try dsimp only))
   | (refine Ev.bind (laws_eqRow_ev _ _ _ (by omega)) ?_; (try dsimp only))
   | (refine Ev.bind (laws_markRow_ev _ _ _ _ (by omega) (by omega) (by omega)) ?_; (try dsimp only))
   | (refine Ev.have (laws_szRow_eq _ _ _ 1048576 (by omega) (by assumption)) ?_; (try dsimp only))
   | (refine Ev.pos rfl ?_; (try dsimp only))
   | (refine Ev.neg (by omega) ?_; (try dsimp only))
   | (refine Ev.pos (by omega) ?_; (try dsimp only))
   | (refine Ev.neg (bne_self _) ?_; (try dsimp only))
   | (refine Ev.neg Bool.false_ne_true ?_; (try dsimp only))
   | (refine Ev.neg (fun h => h) ?_; (try dsimp only))
   | (refine Ev.pos True.intro ?_; (try dsimp only))
   | (refine Ev.succ ?_; simp only [laws_FnExactMakeMove.j0, laws_FnExactMakeMove.j1, laws_FnExactMakeMove.j2]))
 ·refine Ev.have (laws_szRow_eq s ring t 1048576 (by omega) ht) ?_
  rw [if_neg h2]
  exact Ev.pos (by omega) (Ev.now _)

end Go.Proofs.YtgcgmlbjklkkjaaDoor.Pure
-- squeezed
