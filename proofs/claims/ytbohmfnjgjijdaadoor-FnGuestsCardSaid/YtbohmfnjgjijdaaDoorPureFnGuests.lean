/- Crowded guests and the order of coming, for all drawn houses: what the program tells is what the reference tells; a guest is crowded exactly when a neighbor came later, and there are no more crowded guests than touching pairs, none exactly when there are no pairs. No conditions. -/
import Derived.Test.YtbohmfnjgjijdaaDoorQFnGuestsx
namespace Go.Proofs.YtbohmfnjgjijdaaDoor.Pure
open Go.RowKit Go.Proofs.YtbohmfnjgjijdaaDoor.QFnGuests Go.Proofs.YtbohmfnjgjijdaaDoorW.PrintWords Go.Proofs.YtbohmfnjgjijdaaDoorW.PrintLast Go.Proofs.YtbohmfnjgjijdaaDoorW.PrintMore
set_option linter.unusedVariables false
set_option linter.unusedSimpArgs false

theorem wrap_id {x : Int} (h0 : -9223372036854775808 ≤ x) (h1 : x ≤ 9223372036854775807) : wrap64 x = x := by
 unfold wrap64
 omega
theorem wrap_one {i n : Nat} (h : i < n) (hn : n ≤ 4611686018427387904) : wrap64 ((i : Int) + 1) = ((i + 1 : Nat) : Int) := by
 unfold wrap64
 omega
theorem rd_nat (l : List Int) (i : Nat) : rd l (i : Int) = l.getD i 0 := by unfold rd; simp
theorem rd_get (l : List Int) (i : Nat) (h : i < l.length) : rd l (i : Int) = l[i] := by rw [rd_nat]; simp [List.getD, h]
theorem fuel {k d : Nat} (h : d < k) : ∃ m, k = m + 1 ∧ d ≤ m := ⟨k - 1, by omega, by omega⟩

theorem u8_bounds {x : Int} (h : (Lit.int .u8 x).wf = true) : 0 ≤ x ∧ x ≤ 255 := by
 have h := h
 simp [Lit.wf, IntKind.min, IntKind.max, IntKind.signed, IntKind.bits] at h
 omega
theorem rd_bounds (l : List Int) (hb : ∀ x ∈ l, 0 ≤ x ∧ x ≤ 255) (i : Int) : 0 ≤ rd l i ∧ rd l i ≤ 255 := by
 unfold rd
 cases h : l[i.toNat]? with
 | none => simp [List.getD, h]
 | some x =>
  simp only [List.getD, h, Option.getD_some]
  exact hb x (List.mem_of_getElem? h)
theorem and255 (x : Int) : 0 ≤ Go.bits .and .u64 (IntKind.u64.wrap x / 1099511627776) 255 ∧ Go.bits .and .u64 (IntKind.u64.wrap x / 1099511627776) 255 ≤ 255 := by
 have h : 0 ≤ IntKind.u64.wrap x ∧ IntKind.u64.wrap x < 18446744073709551616 := by
  rw [IntKind.wrap_u64]
  omega
 generalize IntKind.u64.wrap x = y at h
 have e : y / 1099511627776 = ((y / 1099511627776).toNat : Int) := by omega
 rw [e, show (255 : Int) = ((255 : Nat) : Int) from rfl, (bits_nat .u64 64 (by decide) (fun n h h' => by rw [IntKind.wrap_u64]; omega) _ 255 (by omega) (by omega)).1]
 have := Nat.and_le_right (n := (y / 1099511627776).toNat) (m := 255)
 omega
theorem next_ok (code : List Int) (hb : ∀ x ∈ code, 0 ≤ x ∧ x ≤ 255) (a : Nat) (ha : a ≤ 1000) (seed : Int) : ∃ (b s : Int), spec_l1Cur_next.f code a seed = some (b, ((a + 1 : Nat) : Int), s) ∧ 0 ≤ b ∧ b ≤ 255 := by
 have h1 := rd_bounds code hb a
 unfold spec_l1Cur_next.f
 rw [wrap_id (x := rd code a) (by omega) (by omega), wrap_one (n := 2000) (by omega) (by omega)]
 have small : ∀ y : Int, 0 ≤ wrap64 (Go.bits .and .u64 (IntKind.u64.wrap y / 1099511627776) 255) ∧ wrap64 (Go.bits .and .u64 (IntKind.u64.wrap y / 1099511627776) 255) ≤ 255 := fun y => by
  have := and255 y
  rw [wrap_id (by omega) (by omega)]
  exact this
 split
 ·rw [if_pos (by omega)]
  split
  ·exact ⟨_, _, rfl, h1.1, h1.2⟩
  ·exact ⟨_, _, rfl, (small _).1, (small _).2⟩
 ·split
  ·exact ⟨_, _, rfl, by omega, by omega⟩
  ·exact ⟨_, _, rfl, (small _).1, (small _).2⟩
theorem pick_ok (code : List Int) (hb : ∀ x ∈ code, 0 ≤ x ∧ x ≤ 255) (a : Nat) (ha : a ≤ 900) (seed n : Int) (h1 : 1 < n) (h2 : n ≤ 200) : ∃ (r s : Int), spec_l1Cur_pick.f code a seed n = some (r, ((a + 1 : Nat) : Int), s) ∧ 0 ≤ r ∧ r < n := by
 obtain ⟨b, s, e, b0, b1⟩ := next_ok code hb a (by omega) seed
 unfold spec_l1Cur_pick.f
 rw [if_neg (by omega), e, Option.bind_some, if_neg (by omega), if_neg (by omega)]
 exact ⟨_, _, rfl, Int.tmod_nonneg _ b0, Int.tmod_lt_of_pos _ (by omega)⟩
theorem one_ok (code : List Int) (hb : ∀ x ∈ code, 0 ≤ x ∧ x ≤ 255) (a : Nat) (ha : a ≤ 900) (seed n : Int) (h1 : 1 < n) (h2 : n ≤ 200) : ∃ (r : Bool) (s : Int), spec_l1Cur_one.f code a seed n = some (r, ((a + 1 : Nat) : Int), s) := by
 obtain ⟨b, s, e, _⟩ := pick_ok code hb a ha seed n h1 h2
 unfold spec_l1Cur_one.f
 rw [e]
 exact ⟨_, _, rfl⟩

theorem Ev.succ {α : Type} {g : Nat → Option α} {r : α} (h : Ev (fun k => g (k + 1)) r) : Ev g r := by
 obtain ⟨K, h⟩ := h
 refine ⟨K + 1, fun k hk => ?_⟩
 obtain ⟨k, rfl, hk'⟩ := fuel (show K < k by omega)
 exact h k hk'
theorem Ev.pos {α : Type} {g f : Nat → Option α} {r : α} {c : Prop} [Decidable c] (hc : c) (h : Ev g r) : Ev (fun k => if c then g k else f k) r := by
 obtain ⟨K, h⟩ := h
 exact ⟨K, fun k hk => by show (if c then g k else f k) = some r; rw [if_pos hc]; exact h k hk⟩
theorem Ev.neg {α : Type} {g f : Nat → Option α} {r : α} {c : Prop} [Decidable c] (hc : ¬ c) (h : Ev f r) : Ev (fun k => if c then g k else f k) r := by
 obtain ⟨K, h⟩ := h
 exact ⟨K, fun k hk => by show (if c then g k else f k) = some r; rw [if_neg hc]; exact h k hk⟩
theorem Ev.have {α β : Type} {x : Option α} {a : α} {f : Nat → α → Option β} {r : β} (e : x = some a) (h : Ev (fun k => f k a) r) : Ev (fun k => x.bind (f k)) r := by
 obtain ⟨K, h⟩ := h
 exact ⟨K, fun k hk => by show x.bind (f k) = some r; rw [e, Option.bind_some]; exact h k hk⟩
theorem Ev.bound {α : Type} {g : Nat → Option α} {r : α} (K : Nat) (h : ∀ k, K < k → g k = some r) : Ev g r := ⟨K + 1, fun k hk => h k (by omega)⟩
theorem Ev.same {α : Type} {g : Nat → Option α} {r r' : α} (h : Ev g r) (e : r = r') : Ev g r' := e ▸ h
theorem pick_any (code : List Int) (hb : ∀ x ∈ code, 0 ≤ x ∧ x ≤ 255) (a : Nat) (ha : a ≤ 900) (seed n : Int) (h2 : n ≤ 200) : ∃ (r s : Int) (a' : Nat), spec_l1Cur_pick.f code a seed n = some (r, (a' : Int), s) ∧ a' ≤ a + 1 ∧ 0 ≤ r ∧ (1 ≤ n → r < n) := by
 by_cases h : 1 < n
 ·obtain ⟨r, s, e, h0, h1⟩ := pick_ok code hb a ha seed n h h2
  exact ⟨r, s, a + 1, e, by omega, h0, fun _ => h1⟩
 ·unfold spec_l1Cur_pick.f
  rw [if_pos (by omega)]
  exact ⟨0, seed, a, rfl, by omega, by omega, fun h => by omega⟩
theorem among_mem (code : List Int) (hb : ∀ x ∈ code, 0 ≤ x ∧ x ≤ 255) (a : Nat) (ha : a ≤ 900) (seed : Int) (l : List Int) (h1 : 1 < l.length) (h2 : l.length ≤ 200) : ∃ (r s : Int), spec_l1Cur_among.f code a seed l = some (r, ((a + 1 : Nat) : Int), s) ∧ r ∈ l := by
 obtain ⟨b, s, e, b0, b1⟩ := pick_ok code hb a ha seed (l.length : Int) (by omega) (by omega)
 unfold spec_l1Cur_among.f
 rw [e, Option.bind_some, if_pos b0, if_pos b1]
 refine ⟨_, _, rfl, ?_⟩
 have hlt : b.toNat < l.length := by omega
 unfold rd
 simp [List.getD, hlt]

theorem among_ok (code : List Int) (hb : ∀ x ∈ code, 0 ≤ x ∧ x ≤ 255) (a : Nat) (ha : a ≤ 900) (seed : Int) (l : List Int) (h1 : 1 < l.length) (h2 : l.length ≤ 200) : ∃ (r s : Int), spec_l1Cur_among.f code a seed l = some (r, ((a + 1 : Nat) : Int), s) := by
 obtain ⟨b, s, e, b0, b1⟩ := pick_ok code hb a ha seed (l.length : Int) (by omega) (by omega)
 unfold spec_l1Cur_among.f
 rw [e, Option.bind_some, if_pos b0, if_pos b1]
 exact ⟨_, _, rfl⟩

theorem spec_l1In_eq (n a b : Int) : spec_l1In.f n a b = some (decide (a ≤ n ∧ n ≤ b)) := by
 unfold spec_l1In.f
 by_cases h : n ≥ a
 ·rw [if_pos h]
  simp [show a ≤ n from h]
 ·rw [if_neg h]
  simp [show ¬ a ≤ n from h]
theorem impl_within_eq (n a b : Int) : impl_within.f n a b = some (decide (a ≤ n ∧ n ≤ b)) := by
 unfold impl_within.f
 by_cases h : n ≥ a
 ·rw [if_pos h]
  simp [show a ≤ n from h]
 ·rw [if_neg h]
  simp [show ¬ a ≤ n from h]

theorem impl_allWithin_l0 (l : List Int) (a b : Int) (hl : l.length ≤ 1048576) (d : Nat) : ∀ (k i : Nat), i ≤ l.length → l.length - i = d → d < k → impl_allWithin.l0 k a b l (l.length : Int) i = some (decide (∀ x ∈ l.drop i, a ≤ x ∧ x ≤ b)) := by
 induction d with
 | zero =>
  intro k i hi hd hk
  obtain ⟨k, rfl, _⟩ := fuel hk
  simp only [impl_allWithin.l0]
  rw [if_neg (by omega), List.drop_eq_nil_of_le (by omega)]
  simp
 | succ d ih =>
  intro k i hi hd hk
  obtain ⟨k, rfl, _⟩ := fuel hk
  simp only [impl_allWithin.l0]
  rw [if_pos (by omega), if_pos (by omega), if_pos (by omega), wrap_one (n := l.length) (by omega) (by omega), rd_get l i (by omega), impl_within_eq, ih k (i + 1) (by omega) (by omega) (by omega)]
  rw [List.drop_eq_getElem_cons (l := l) (i := i) (by omega)]
  rw [Option.bind_some]
  by_cases h : a ≤ l[i]'(by omega) ∧ l[i]'(by omega) ≤ b
  ·rw [if_pos (by simp only [h]; simp)]
   refine congrArg some ?_
   rw [decide_eq_decide]
   simp only [List.mem_cons]
   exact ⟨fun e x hx => hx.elim (fun z => z ▸ h) (e x), fun e x hx => e x (.inr hx)⟩
  ·rw [if_neg (by rw [decide_eq_true_eq]; exact h)]
   refine congrArg some ?_
   symm
   rw [decide_eq_false_iff_not]
   exact fun e => h (e _ List.mem_cons_self)
theorem impl_allWithin_eq (l : List Int) (a b : Int) (hl : l.length ≤ 1048576) (k : Nat) (hk : l.length < k) : impl_allWithin.f k l a b = some (decide (∀ x ∈ l, a ≤ x ∧ x ≤ b)) :=
 impl_allWithin_l0 l a b hl l.length k 0 (by omega) (by omega) hk

def Rising (l : List Int) (a b : Int) : Prop := ∀ i, (h : i < l.length) → (a ≤ l[i] ∧ l[i] ≤ b) ∧ (0 < i → l.getD (i - 1) 0 < l[i])
def RowOK (s : Int) (ring : Bool) (t : List Int) : Prop := (2 ≤ s ∧ s ≤ 24) ∧ (ring = true → 3 ≤ s) ∧ Rising t 0 (s - 1)
open Classical in
theorem spec_l1Rising_l0 (l : List Int) (a b : Int) (hl : l.length ≤ 1048576) (d : Nat) : ∀ (k i : Nat), i ≤ l.length → l.length - i = d → d < k → (∀ j, (h : j < i) → (hj : j < l.length) → (a ≤ l[j] ∧ l[j] ≤ b) ∧ (0 < j → l.getD (j - 1) 0 < l[j])) →
  spec_l1Rising.l0 k l a b i = some (decide (Rising l a b)) := by
 induction d with
 | zero =>
  intro k i hi hd hk hp
  obtain ⟨k, rfl, _⟩ := fuel hk
  simp only [spec_l1Rising.l0]
  rw [if_neg (by omega)]
  refine congrArg some ?_
  symm
  rw [decide_eq_true_eq]
  exact fun j hj => hp j (by omega) hj
 | succ d ih =>
  intro k i hi hd hk hp
  obtain ⟨k, rfl, _⟩ := fuel hk
  have no : ¬ ((a ≤ l[i]'(by omega) ∧ l[i]'(by omega) ≤ b) ∧ (0 < i → l.getD (i - 1) 0 < l[i]'(by omega))) → ¬ Rising l a b := fun g e => g (e i (by omega))
  have go : ((a ≤ l[i]'(by omega) ∧ l[i]'(by omega) ≤ b) ∧ (0 < i → l.getD (i - 1) 0 < l[i]'(by omega))) → spec_l1Rising.l0 k l a b (wrap64 ((i : Int) + 1)) = some (decide (Rising l a b)) := by
   intro g
   rw [wrap_one (n := l.length) (by omega) (by omega)]
   refine ih k (i + 1) (by omega) (by omega) (by omega) fun j hj hj' => ?_
   by_cases e : j = i
   ·subst e; exact g
   ·exact hp j (by omega) hj'
  simp only [spec_l1Rising.l0]
  rw [if_pos (by omega), if_pos (by omega), rd_get l i (by omega), spec_l1In_eq, Option.bind_some]
  by_cases g : a ≤ l[i]'(by omega) ∧ l[i]'(by omega) ≤ b
  ·rw [if_pos (decide_eq_true g)]
   by_cases h0 : 0 < i
   ·rw [if_pos (by omega), wrap_id (by omega) (by omega), if_pos (by omega), if_pos (by omega), show (i : Int) - 1 = ((i - 1 : Nat) : Int) from by omega, rd_nat]
    by_cases g2 : l.getD (i - 1) 0 < l[i]'(by omega)
    ·rw [if_neg (by omega)]
     exact go ⟨g, fun _ => g2⟩
    ·rw [if_pos (by omega), decide_eq_false (no fun e => g2 (e.2 h0))]
   ·rw [if_neg (by omega)]
    exact go ⟨g, fun e => absurd e h0⟩
  ·rw [if_neg (by rw [decide_eq_true_eq]; exact g), decide_eq_false (no fun e => g e.1)]
open Classical in
theorem spec_l1Rising_eq (l : List Int) (a b : Int) (hl : l.length ≤ 1048576) (k : Nat) (hk : l.length < k) : spec_l1Rising.f k l a b = some (decide (Rising l a b)) :=
 spec_l1Rising_l0 l a b hl l.length k 0 (by omega) (by omega) hk (fun j h => by omega)
open Classical in
theorem spec_l2Row_eq (s : Int) (ring : Bool) (t : List Int) (ht : t.length ≤ 1048576) (k : Nat) (hk : t.length < k) : spec_l2Row.f k s ring t = some (decide (RowOK s ring t)) := by
 unfold spec_l2Row.f
 rw [spec_l1In_eq, Option.bind_some]
 by_cases h : 2 ≤ s ∧ s ≤ 24
 ·rw [if_pos (decide_eq_true h), wrap_id (by omega) (by omega), spec_l1Rising_eq t _ _ ht k hk, Option.bind_some]
  cases ring with
  | true =>
   rw [if_pos rfl]
   by_cases h3 : s > 2
   ·rw [if_pos h3]
    refine congrArg some ?_
    rw [decide_eq_decide]
    exact ⟨fun e => ⟨h, fun _ => by omega, e⟩, fun e => e.2.2⟩
   ·rw [if_neg h3]
    refine congrArg some ?_
    symm
    rw [decide_eq_false_iff_not]
    exact fun e => h3 (by have := e.2.1 rfl; omega)
  | false =>
   rw [if_neg (by simp)]
   refine congrArg some ?_
   rw [decide_eq_decide]
   exact ⟨fun e => ⟨h, (fun z => by cases z), e⟩, fun e => e.2.2⟩
 ·rw [if_neg (by rw [decide_eq_true_eq]; exact h)]
  refine congrArg some ?_
  symm
  rw [decide_eq_false_iff_not]
  exact fun e => h e.1
theorem impl_bench_has_one (s : Int) (ring : Bool) (p : Int) (k : Nat) (hk : 2 < k) : impl_bench_has.f k s ring [p] = some (decide (0 ≤ p ∧ p ≤ wrap64 (s - 1))) := by
 unfold impl_bench_has.f
 rw [impl_allWithin_eq [p] _ _ (by simp) k (by simp; omega), Option.bind_some]
 refine congrArg some ?_
 rw [decide_eq_decide]
 simp
theorem impl_bench_valid_eq (s : Int) (ring : Bool) : impl_bench_valid.f s ring = some (decide ((2 ≤ s ∧ s ≤ 24) ∧ (ring = true → 3 ≤ s))) := by
 unfold impl_bench_valid.f
 rw [impl_within_eq, Option.bind_some]
 by_cases h : 2 ≤ s ∧ s ≤ 24
 ·rw [if_pos (decide_eq_true h)]
  cases ring with
  | true =>
   rw [if_pos rfl]
   refine congrArg some ?_
   rw [decide_eq_decide]
   exact ⟨fun e => ⟨h, fun _ => e⟩, fun e => e.2 rfl⟩
  | false =>
   rw [if_neg (by simp)]
   refine congrArg some ?_
   symm
   rw [decide_eq_true_eq]
   exact ⟨h, (fun z => by cases z)⟩
 ·rw [if_neg (by rw [decide_eq_true_eq]; exact h)]
  refine congrArg some ?_
  symm
  rw [decide_eq_false_iff_not]
  exact fun e => h e.1
open Classical in
theorem impl_IsRow_l0 (s : Int) (ring : Bool) (l : List Int) (hl : l.length ≤ 1048576) (d : Nat) : ∀ (k i : Nat), i ≤ l.length → l.length - i = d → d + 3 < k → ((2 ≤ s ∧ s ≤ 24) → ∀ j, (h : j < i) → (hj : j < l.length) → (0 ≤ l[j] ∧ l[j] ≤ s - 1) ∧ (0 < j → l.getD (j - 1) 0 < l[j])) →
  impl_IsRow.l0 k l (l.length : Int) i s ring l = some (decide (RowOK s ring l)) := by
 induction d with
 | zero =>
  intro k i hi hd hk hp
  obtain ⟨k, rfl, _⟩ := fuel hk
  simp only [impl_IsRow.l0]
  rw [if_neg (by omega), impl_Row_bench.f, Option.bind_some]
  dsimp only
  rw [impl_bench_valid_eq, Option.bind_some]
  refine congrArg some ?_
  rw [decide_eq_decide]
  exact ⟨fun e => ⟨e.1, e.2, fun j hj => hp e.1 j (by omega) hj⟩, fun e => ⟨e.1, e.2.1⟩⟩
 | succ d ih =>
  intro k i hi hd hk hp
  obtain ⟨k, rfl, _⟩ := fuel hk
  have no : (2 ≤ s ∧ s ≤ 24 → ¬ ((0 ≤ l[i]'(by omega) ∧ l[i]'(by omega) ≤ s - 1) ∧ (0 < i → l.getD (i - 1) 0 < l[i]'(by omega)))) → ¬ RowOK s ring l := fun g e => g e.1 (e.2.2 i (by omega))
  have go : (2 ≤ s ∧ s ≤ 24 → ((0 ≤ l[i]'(by omega) ∧ l[i]'(by omega) ≤ s - 1) ∧ (0 < i → l.getD (i - 1) 0 < l[i]'(by omega)))) → impl_IsRow.l0 k l (l.length : Int) (wrap64 ((i : Int) + 1)) s ring l = some (decide (RowOK s ring l)) := by
   intro g
   rw [wrap_one (n := l.length) (by omega) (by omega)]
   refine ih k (i + 1) (by omega) (by omega) (by omega) fun hs j hj hj' => ?_
   by_cases e : j = i
   ·subst e; exact g hs
   ·exact hp hs j (by omega) hj'
  simp only [impl_IsRow.l0]
  rw [if_pos (by omega), if_pos (by omega), if_pos (by omega), impl_Row_bench.f, Option.bind_some]
  dsimp only
  rw [rd_get l i (by omega), impl_bench_has_one _ _ _ k (by omega), Option.bind_some]
  by_cases g : 0 ≤ l[i]'(by omega) ∧ l[i]'(by omega) ≤ wrap64 (s - 1)
  ·rw [if_pos (decide_eq_true g)]
   have g' : 2 ≤ s ∧ s ≤ 24 → 0 ≤ l[i]'(by omega) ∧ l[i]'(by omega) ≤ s - 1 := fun hs => by
    rw [wrap_id (by omega) (by omega)] at g
    exact g
   by_cases h0 : 0 < i
   ·rw [if_pos (by omega), wrap_id (by omega) (by omega), if_pos (by omega), if_pos (by omega), show (i : Int) - 1 = ((i - 1 : Nat) : Int) from by omega, rd_nat]
    by_cases g2 : l.getD (i - 1) 0 < l[i]'(by omega)
    ·rw [if_neg (by omega)]
     exact go fun hs => ⟨g' hs, fun _ => g2⟩
    ·rw [if_pos (by omega), decide_eq_false (no fun _ e => g2 (e.2 h0))]
   ·rw [if_neg (by omega)]
    exact go fun hs => ⟨g' hs, fun e => absurd e h0⟩
  ·rw [if_neg (by rw [decide_eq_true_eq]; exact g)]
   rw [decide_eq_false (no fun hs e => g ?_)]
   rw [wrap_id (by omega) (by omega)]
   exact e.1
open Classical in
theorem impl_IsRow_eq (s : Int) (ring : Bool) (l : List Int) (hl : l.length ≤ 1048576) (k : Nat) (hk : l.length + 3 < k) : impl_IsRow.f k s ring l = some (decide (RowOK s ring l)) :=
 impl_IsRow_l0 s ring l hl l.length k 0 (by omega) (by omega) hk (fun _ j h => by omega)
theorem rising_lt (l : List Int) (a b : Int) (h : Rising l a b) (i j : Nat) (hij : i < j) (hj : j < l.length) : l[i]'(by omega) < l[j] := by
 induction j with
 | zero => omega
 | succ j ih =>
  have h1 := (h (j + 1) hj).2 (by omega)
  rw [show j + 1 - 1 = j from by omega, show l.getD j 0 = l[j]'(by omega) from by simp [List.getD, show j < l.length by omega]] at h1
  by_cases e : i = j
  ·subst e; exact h1
  ·have := ih (by omega) (by omega)
   omega
theorem rising_mem (l : List Int) (a b : Int) (h : Rising l a b) : ∀ x ∈ l, a ≤ x ∧ x ≤ b := by
 intro x hx
 obtain ⟨i, hi, rfl⟩ := List.getElem_of_mem hx
 exact (h i hi).1
theorem rising_nodup (l : List Int) (a b : Int) (h : Rising l a b) : l.Nodup := by
 refine List.pairwise_iff_getElem.2 fun i j hi hj hij e => ?_
 have := rising_lt l a b h i j hij hj
 omega
theorem row_len (s : Int) (ring : Bool) (t : List Int) (h : RowOK s ring t) : t.length ≤ 24 := by
 have hn := rising_nodup t _ _ h.2.2
 have hs : t ⊆ (List.range 24).map fun i : Nat => (i : Int) := by
  intro x hx
  have := rising_mem t _ _ h.2.2 x hx
  have := h.1
  exact List.mem_map.2 ⟨x.toNat, List.mem_range.2 (by omega), by omega⟩
 have := List.Nodup.length_le_of_subset hn hs
 simpa using this

theorem spec_l1Has_l0 (l : List Int) (n : Int) (hl : l.length ≤ 1048576) (d : Nat) : ∀ (k i : Nat), i ≤ l.length → l.length - i = d → d < k → spec_l1Has.l0 k l n i = some (decide (n ∈ l.drop i)) := by
 induction d with
 | zero =>
  intro k i hi hd hk
  obtain ⟨k, rfl, _⟩ := fuel hk
  simp only [spec_l1Has.l0]
  rw [if_neg (by omega), List.drop_eq_nil_of_le (by omega)]
  simp
 | succ d ih =>
  intro k i hi hd hk
  obtain ⟨k, rfl, _⟩ := fuel hk
  simp only [spec_l1Has.l0]
  rw [if_pos (by omega), if_pos (by omega), wrap_one (n := l.length) (by omega) (by omega), rd_get l i (by omega), ih k (i + 1) (by omega) (by omega) (by omega)]
  rw [List.drop_eq_getElem_cons (l := l) (i := i) (by omega)]
  by_cases h : l[i]'(by omega) = n
  ·rw [if_pos h, h]
   simp
  ·rw [if_neg h]
   refine congrArg some ?_
   rw [decide_eq_decide, List.mem_cons]
   exact ⟨.inr, fun e => e.resolve_left fun e => h e.symm⟩
theorem spec_l1Has_eq (l : List Int) (n : Int) (hl : l.length ≤ 1048576) (k : Nat) (hk : l.length < k) : spec_l1Has.f k l n = some (decide (n ∈ l)) := by
 have := spec_l1Has_l0 l n hl l.length k 0 (by omega) (by omega) hk
 exact this

theorem spec_l2Is_ev (s : Int) (ring : Bool) (t : List Int) (p : Int) (ht : t.length ≤ 1048576) : Ev (fun k => spec_l2Is.f k s ring t p) (decide (p ∈ t)) :=
 Ev.bound t.length fun k hk => by
  unfold spec_l2Is.f
  rw [spec_l1Has_eq t p ht k hk, Option.bind_some]

def freeL (s : Int) (t : List Int) : List Int := ((List.range s.toNat).map fun i : Nat => (i : Int)).filter fun x => decide (x ∉ t)
theorem l2Free_ev (s : Int) (ring : Bool) (t : List Int) (h1 : s ≤ 24) (ht : t.length ≤ 1048576) : ∀ (d j : Nat) (acc : List Int), j + d = s.toNat → acc.length ≤ j → Ev (fun k => spec_l2Free.l0 k acc (j : Int) s ring t) (acc ++ ((List.range' j d).map fun i : Nat => (i : Int)).filter fun x => decide (x ∉ t))
 | 0, j, acc, hj, _ => by
  refine Ev.succ ?_
  simp only [spec_l2Free.l0]
  refine Ev.neg (by omega) ?_
  simp only [List.range'_zero, List.map_nil, List.filter_nil, List.append_nil]
  exact Ev.now _
 | d + 1, j, acc, hj, ha => by
  refine Ev.succ ?_
  simp only [spec_l2Free.l0]
  refine Ev.pos (by omega) (Ev.bind (spec_l2Is_ev s ring t (j : Int) ht) ?_)
  rw [wrap_one (n := 24) (by omega) (by omega), List.range'_succ, List.map_cons]
  by_cases g : (j : Int) ∈ t
  ·rw [List.filter_cons_of_neg (by simpa using g)]
   exact Ev.pos (decide_eq_true g) (l2Free_ev s ring t h1 ht d (j + 1) acc (by omega) (by omega))
  ·rw [List.filter_cons_of_pos (by simpa using g)]
   refine Ev.neg (by simpa using g) (Ev.pos (by omega) ?_)
   have := l2Free_ev s ring t h1 ht d (j + 1) (acc ++ [(j : Int)]) (by omega) (by simp; omega)
   rw [List.append_assoc] at this
   exact this
theorem free_ev (s : Int) (ring : Bool) (t : List Int) (h1 : s ≤ 24) (ht : t.length ≤ 1048576) : Ev (fun k => spec_l2Free.f k s ring t) (freeL s t) := by
 unfold spec_l2Free.f freeL
 rw [List.range_eq_range']
 exact l2Free_ev s ring t h1 ht s.toNat 0 [] (by omega) (Nat.le_refl _)
theorem freeL_len24 {n : Int} (h : n ≤ 24) (t : List Int) : (freeL n t).length ≤ 24 := by
 have h1 : (freeL n t).length ≤ n.toNat := by
  unfold freeL
  refine Nat.le_trans (List.length_filter_le _ _) ?_
  simp
 omega

theorem seat_ok (code : List Int) (hb : ∀ x ∈ code, 0 ≤ x ∧ x ≤ 255) (a : Nat) (ha : a ≤ 800) (seed n : Int) (ring : Bool) (t : List Int) : ∃ (r s : Int) (a' : Nat), spec_l1Cur_seat.f code a seed n ring t = some (r, (a' : Int), s) ∧ a' ≤ a + 2 := by
 obtain ⟨b, s, e⟩ := one_ok code hb a (by omega) seed 30 (by omega) (by omega)
 unfold spec_l1Cur_seat.f
 rw [e, Option.bind_some]
 dsimp only
 cases b with
 | true =>
  obtain ⟨r, s2, e2⟩ := among_ok code hb (a + 1) (by omega) s [-1, 0, n, 4611686018427387904] (by simp) (by simp)
  rw [if_pos rfl, e2]
  exact ⟨_, _, _, rfl, by omega⟩
 | false =>
  have hm : ∃ m : Int, m ≤ 200 ∧ ((spec_l1Least.f n 24).bind fun t415 => (spec_l1Most.f t415 1)) = some m := by
   unfold spec_l1Least.f spec_l1Most.f
   by_cases g : n < 24
   ·rw [if_pos g, Option.bind_some]
    split
    ·exact ⟨_, by omega, rfl⟩
    ·exact ⟨_, by omega, rfl⟩
   ·rw [if_neg g, Option.bind_some]
    exact ⟨24, by omega, rfl⟩
  obtain ⟨m, hm2, hm⟩ := hm
  obtain ⟨r, s2, a', e2, h1, _⟩ := pick_any code hb (a + 1) (by omega) s m hm2
  rw [if_neg (by simp)]
  obtain ⟨x, hx, hy⟩ := Option.bind_eq_some_iff.1 hm
  rw [hx, Option.bind_some, hy, Option.bind_some, e2]
  exact ⟨_, _, _, rfl, by omega⟩
open Classical in
theorem freeSeat_ev (code : List Int) (hb : ∀ x ∈ code, 0 ≤ x ∧ x ≤ 255) (a : Nat) (ha : a ≤ 700) (seed n : Int) (ring : Bool) (t : List Int) (ht : t.length ≤ 1048576) : ∃ (r s : Int) (a' : Nat), Ev (fun k => spec_l1Cur_freeSeat.f k code a seed n ring t) (r, (a' : Int), s) ∧ a' ≤ a + 3 := by
 have j0f : ∀ (a : Nat) (seed : Int), a ≤ 750 → ∃ (r s : Int) (a' : Nat), Ev (fun k => spec_l1Cur_freeSeat.j0 k false code a seed n ring t) (r, (a' : Int), s) ∧ a' ≤ a + 2 := by
  intro a seed ha
  obtain ⟨r, s, a', e, h⟩ := seat_ok code hb a (by omega) seed n ring t
  refine ⟨r, s, a', Ev.succ ?_, h⟩
  simp only [spec_l1Cur_freeSeat.j0]
  exact Ev.neg (by simp) (Ev.have e (Ev.now _))
 by_cases g : RowOK n ring t
 ·obtain ⟨b, s, e⟩ := one_ok code hb a (by omega) seed 8 (by omega) (by omega)
  cases b with
  | true =>
   obtain ⟨r, s2, a', e2, h⟩ := j0f (a + 1) s (by omega)
   refine ⟨r, s2, a', ?_, by omega⟩
   unfold spec_l1Cur_freeSeat.f
   exact Ev.bind (Ev.bound t.length fun k hk => spec_l2Row_eq n ring t ht k hk) (Ev.pos (decide_eq_true g) (Ev.have e e2))
  | false =>
   have hf := freeL_len24 g.1.2 t
   by_cases gl : ((freeL n t).length : Int) > 0
   ·obtain ⟨r, s2, a', e2, h1, h2, h3⟩ := pick_any code hb (a + 1) (by omega) s ((freeL n t).length : Int) (by omega)
    refine ⟨rd (freeL n t) r, s2, a', ?_, by omega⟩
    unfold spec_l1Cur_freeSeat.f
    refine Ev.bind (Ev.bound t.length fun k hk => spec_l2Row_eq n ring t ht k hk) (Ev.pos (decide_eq_true g) (Ev.have e (Ev.succ ?_)))
    simp only [spec_l1Cur_freeSeat.j0]
    exact Ev.pos (by first | rfl | exact True.intro) (Ev.bind (free_ev n ring t g.1.2 ht) (Ev.pos gl (Ev.have e2 (Ev.pos h2 (Ev.pos (h3 (by omega)) (Ev.now _))))))
   ·obtain ⟨r, s2, a', e2, h⟩ := seat_ok code hb (a + 1) (by omega) s n ring t
    refine ⟨r, s2, a', ?_, by omega⟩
    unfold spec_l1Cur_freeSeat.f
    refine Ev.bind (Ev.bound t.length fun k hk => spec_l2Row_eq n ring t ht k hk) (Ev.pos (decide_eq_true g) (Ev.have e (Ev.succ ?_)))
    simp only [spec_l1Cur_freeSeat.j0]
    exact Ev.pos (by first | rfl | exact True.intro) (Ev.bind (free_ev n ring t g.1.2 ht) (Ev.neg gl (Ev.have e2 (Ev.now _))))
 ·obtain ⟨r, s2, a', e2, h⟩ := j0f a seed (by omega)
  refine ⟨r, s2, a', ?_, by omega⟩
  unfold spec_l1Cur_freeSeat.f
  exact Ev.bind (Ev.bound t.length fun k hk => spec_l2Row_eq n ring t ht k hk) (Ev.neg (by rw [decide_eq_true_eq]; exact g) e2)

def setN (l : List Int) : Nat := l.foldl (fun s p => s ||| 2 ^ p.toNat) 0
theorem testBit_foldl (l : List Int) : ∀ (s i : Nat), (l.foldl (fun s p => s ||| 2 ^ p.toNat) s).testBit i = (s.testBit i || decide (∃ p ∈ l, p.toNat = i)) := by
 induction l with
 | nil => intro s i; simp
 | cons a l ih =>
  intro s i
  rw [List.foldl_cons, ih, Nat.testBit_or, Nat.testBit_two_pow, Bool.or_assoc]
  congr 1
  rw [Bool.eq_iff_iff]
  simp
theorem testBit_setN (l : List Int) (i : Nat) : (setN l).testBit i = decide (∃ p ∈ l, p.toNat = i) := by
 unfold setN
 rw [testBit_foldl]
 simp
theorem foldl_lt (l : List Int) (n : Nat) (hl : ∀ p ∈ l, p < n) (hn : 0 < n) : ∀ s, s < 2 ^ n → l.foldl (fun s p => s ||| 2 ^ p.toNat) s < 2 ^ n := by
 induction l with
 | nil => intro s h; exact h
 | cons a l ih =>
  intro s h
  rw [List.foldl_cons]
  have := hl a (by simp)
  exact ih (fun p hp => hl p (by simp [hp])) _ (Nat.or_lt_two_pow h (Nat.pow_lt_pow_right (by omega) (by omega)))
theorem setN_lt (l : List Int) (n : Nat) (hl : ∀ p ∈ l, p < n) (hn : 0 < n) : setN l < 2 ^ n := foldl_lt l n hl hn 0 (Nat.two_pow_pos n)
theorem setN_u32 (l : List Int) (hl : ∀ p ∈ l, p < 32) : setN l < 4294967296 := setN_lt l 32 hl (by omega)
theorem or_cast (a b : Nat) (ha : a < 4294967296) (hb : b < 4294967296) : Go.bits .or .u32 (a : Int) (b : Int) = ((a ||| b : Nat) : Int) :=
 (bits_nat .u32 32 (by decide) (fun n h h' => by rw [IntKind.wrap_u32]; omega) a b ha hb).2
theorem and_cast (a b : Nat) (ha : a < 4294967296) (hb : b < 4294967296) : Go.bits .and .u32 (a : Int) (b : Int) = ((a &&& b : Nat) : Int) :=
 (bits_nat .u32 32 (by decide) (fun n h h' => by rw [IntKind.wrap_u32]; omega) a b ha hb).1
theorem shl_one (p : Int) (h0 : 0 ≤ p) (h1 : p < 32) : shl .u32 1 p = ((2 ^ p.toNat : Nat) : Int) := by
 unfold shl
 rw [Int.one_mul, IntKind.wrap_u32, show min p.toNat IntKind.u32.bits = p.toNat from Nat.min_eq_left (by show p.toNat ≤ 32; omega)]
 have : 2 ^ p.toNat < 2 ^ 32 := Nat.pow_lt_pow_right (by omega) (by omega)
 have e : ((2 ^ p.toNat : Nat) : Int) = (2 : Int) ^ p.toNat := by simp
 rw [← e]
 generalize 2 ^ p.toNat = y at *
 omega

theorem lt_of_bits (x n : Nat) (h : ∀ i, n ≤ i → x.testBit i = false) : x < 2 ^ n := Nat.lt_pow_two_of_testBit x h
def gapI (n : Nat) (ring : Bool) (p q : Nat) : Int :=
 if ring = true then (if (if (p : Int) - q > (q : Int) - p then (p : Int) - q else (q : Int) - p) < (n : Int) - (if (p : Int) - q > (q : Int) - p then (p : Int) - q else (q : Int) - p) then (if (p : Int) - q > (q : Int) - p then (p : Int) - q else (q : Int) - p) else (n : Int) - (if (p : Int) - q > (q : Int) - p then (p : Int) - q else (q : Int) - p)) else (if (p : Int) - q > (q : Int) - p then (p : Int) - q else (q : Int) - p)
def nearB (n : Nat) (ring : Bool) (p q : Nat) : Bool := decide (gapI n ring p q = 1)
theorem spec_l2Gap_eq (n : Nat) (ring : Bool) (t : List Int) (p q : Nat) (hn : n ≤ 24) (hp : p < n) (hq : q < n) : spec_l2Gap.f (n : Int) ring t (p : Int) (q : Int) = some (gapI n ring p q) := by
 unfold spec_l2Gap.f gapI
 rw [wrap_id (x := (p : Int) - q) (by omega) (by omega), wrap_id (x := (q : Int) - p) (by omega) (by omega)]
 have e : spec_l1Most.f ((p : Int) - q) ((q : Int) - p) = some (if (p : Int) - q > (q : Int) - p then (p : Int) - q else (q : Int) - p) := by
  unfold spec_l1Most.f
  split <;> rfl
 rw [e, Option.bind_some]
 have hb : 0 ≤ (if (p : Int) - q > (q : Int) - p then (p : Int) - q else (q : Int) - p) ∧ (if (p : Int) - q > (q : Int) - p then (p : Int) - q else (q : Int) - p) ≤ 24 := by split <;> omega
 generalize (if (p : Int) - q > (q : Int) - p then (p : Int) - q else (q : Int) - p) = d at hb ⊢
 rw [wrap_id (by omega) (by omega)]
 cases ring with
 | true =>
  rw [if_pos rfl, if_pos rfl]
  unfold spec_l1Least.f
  split <;> rw [Option.bind_some]
 | false => rw [if_neg (by simp), if_neg (by simp)]
theorem impl_gap_eq (n : Nat) (ring : Bool) (p q : Nat) (hn : n ≤ 24) (hp : p < n) (hq : q < n) : impl_bench_gap.f (n : Int) ring (p : Int) (q : Int) = some (gapI n ring p q) := by
 unfold impl_bench_gap.f gapI
 rw [wrap_id (x := (p : Int) - q) (by omega) (by omega), wrap_id (x := (q : Int) - p) (by omega) (by omega)]
 have e : mx ((p : Int) - q) ((q : Int) - p) = (if (p : Int) - q > (q : Int) - p then (p : Int) - q else (q : Int) - p) := by
  unfold mx
  split <;> split <;> omega
 rw [e]
 have hb : 0 ≤ (if (p : Int) - q > (q : Int) - p then (p : Int) - q else (q : Int) - p) ∧ (if (p : Int) - q > (q : Int) - p then (p : Int) - q else (q : Int) - p) ≤ 24 := by split <;> omega
 generalize (if (p : Int) - q > (q : Int) - p then (p : Int) - q else (q : Int) - p) = d at hb ⊢
 rw [wrap_id (by omega) (by omega)]
 cases ring with
 | true =>
  rw [if_pos rfl, if_pos rfl]
  refine congrArg some ?_
  unfold mn
  split <;> split <;> omega
 | false => rw [if_neg (by simp), if_neg (by simp)]
def bitsN (P : Nat → Bool) : Nat → Nat
 | 0 => 0
 | i + 1 => if P i = true then bitsN P i ||| 2 ^ i else bitsN P i
theorem testBit_bitsN (P : Nat → Bool) : ∀ i q, (bitsN P i).testBit q = (decide (q < i) && P q)
 | 0, q => by simp [bitsN]
 | i + 1, q => by
  rw [bitsN]
  by_cases h : P i = true
  ·rw [if_pos h, Nat.testBit_or, testBit_bitsN P i q, Nat.testBit_two_pow]
   by_cases e : i = q
   ·subst e; rw [h]; simp
   ·rw [decide_eq_false e, Bool.or_false]
    by_cases g : q < i
    ·rw [decide_eq_true g, decide_eq_true (show q < i + 1 by omega)]
    ·rw [decide_eq_false g, decide_eq_false (show ¬ q < i + 1 by omega)]
  ·rw [if_neg h, testBit_bitsN P i q]
   by_cases e : i = q
   ·subst e; rw [Bool.eq_false_iff.2 h]; simp
   ·by_cases g : q < i
    ·rw [decide_eq_true g, decide_eq_true (show q < i + 1 by omega)]
    ·rw [decide_eq_false g, decide_eq_false (show ¬ q < i + 1 by omega)]
theorem bitsN_lt (P : Nat → Bool) (i : Nat) (hi : i ≤ 32) : bitsN P i < 4294967296 := show bitsN P i < 2 ^ 32 from lt_of_bits _ 32 fun q hq => by
 rw [testBit_bitsN, decide_eq_false (by omega)]
 rfl
def castL (l : List Nat) : List Int := l.map fun i : Nat => (i : Int)
def listN (P : Nat → Bool) (i : Nat) : List Int := castL ((List.range i).filter P)
theorem listN_succ (P : Nat → Bool) (i : Nat) : listN P (i + 1) = if P i = true then listN P i ++ [(i : Int)] else listN P i := by
 unfold listN castL
 rw [List.range_succ, List.filter_append]
 by_cases h : P i = true
 ·rw [if_pos h]; simp [h]
 ·rw [if_neg h]; simp [h]
theorem listN_len (P : Nat → Bool) (i : Nat) : (listN P i).length ≤ i := by
 unfold listN castL
 rw [List.length_map]
 exact Nat.le_trans (List.length_filter_le _ _) (by simp)
theorem mem_listN (P : Nat → Bool) (i : Nat) (x : Int) : x ∈ listN P i ↔ ∃ q : Nat, q < i ∧ P q = true ∧ x = q := by
 unfold listN castL
 rw [List.mem_map]
 constructor
 ·rintro ⟨q, hq, rfl⟩
  have := List.mem_filter.1 hq
  exact ⟨q, List.mem_range.1 this.1, this.2, rfl⟩
 ·rintro ⟨q, h1, h2, rfl⟩
  exact ⟨q, List.mem_filter.2 ⟨List.mem_range.2 h1, h2⟩, rfl⟩

structure Seats (t : List Int) : Prop where
 low : ∀ x ∈ t, 0 ≤ x ∧ x < 32
 nodup : t.Nodup
theorem setN_ext (S : Nat) (l : List Int) (h : ∀ i, S.testBit i = true ↔ ∃ p ∈ l, p.toNat = i) : S = setN l := by
 refine Nat.eq_of_testBit_eq fun i => ?_
 rw [testBit_setN, Bool.eq_iff_iff, h, decide_eq_true_eq]

theorem ctz_lowest (s a : Nat) (ha : s.testBit a = true) (hl : ∀ j, j < a → s.testBit j = false) (h : s < 2 ^ 32) : Lib.ctz 32 s = a := by
 have h0 : s ≠ 0 := fun e => by rw [e] at ha; simp at ha
 unfold Lib.ctz
 rw [if_neg h0]
 obtain ⟨m, hm, hf⟩ := Lib.ctzFrom_spec 32 s (by omega) h
 generalize Lib.ctzFrom 32 s = c at hm hf
 rcases Nat.lt_trichotomy c a with g | g | g
 ·have := hl c g
  rw [hm, Nat.testBit_two_pow_mul] at this
  simp at this
 ·exact g
 ·rw [hm, Nat.testBit_two_pow_mul] at ha
  simp at ha
  omega
theorem and_pred (q a : Nat) : (2 ^ (a + 1) * q + 2 ^ a) &&& (2 ^ (a + 1) * q + 2 ^ a - 1) = 2 ^ (a + 1) * q := by
 have p : 0 < 2 ^ a := Nat.two_pow_pos a
 have l1 : 2 ^ a < 2 ^ (a + 1) := Nat.pow_lt_pow_right (by omega) (by omega)
 refine Nat.eq_of_testBit_eq fun j => ?_
 rw [show 2 ^ (a + 1) * q + 2 ^ a - 1 = 2 ^ (a + 1) * q + (2 ^ a - 1) from by omega, Nat.testBit_and, Nat.testBit_two_pow_mul_add q l1 j, Nat.testBit_two_pow_mul_add q (show 2 ^ a - 1 < 2 ^ (a + 1) by omega) j, Nat.testBit_two_pow_mul]
 by_cases g : j < a + 1
 ·rw [if_pos g, if_pos g, decide_eq_false (by omega : ¬ a + 1 ≤ j), Bool.false_and, Nat.testBit_two_pow, Nat.testBit_two_pow_sub_one]
  by_cases e : a = j
  ·subst e; simp
  ·simp [e]
 ·rw [if_neg g, if_neg g, decide_eq_true (by omega : a + 1 ≤ j), Bool.true_and, Bool.and_self]
theorem setN_cons (a : Int) (L : List Int) : setN (a :: L) = 2 ^ a.toNat ||| setN L := by
 refine Nat.eq_of_testBit_eq fun j => ?_
 rw [testBit_setN, Nat.testBit_or, Nat.testBit_two_pow, testBit_setN, Bool.eq_iff_iff]
 simp
theorem setN_split (a : Nat) (L : List Int) (hL : ∀ x ∈ L, (a : Int) < x) : ∃ q, setN L = 2 ^ (a + 1) * q ∧ setN ((a : Int) :: L) = 2 ^ (a + 1) * q + 2 ^ a := by
 have e : setN L = 2 ^ (a + 1) * (setN L / 2 ^ (a + 1)) := by
  have hz : setN L % 2 ^ (a + 1) = 0 := by
   refine Nat.eq_of_testBit_eq fun j => ?_
   rw [Nat.testBit_mod_two_pow, testBit_setN]
   by_cases g : j < a + 1
   ·have : ¬ ∃ p ∈ L, p.toNat = j := fun ⟨p, hp, e⟩ => by have := hL p hp; omega
    rw [decide_eq_false this]
    simp
   ·rw [decide_eq_false g]
    simp
  have := Nat.mod_add_div (setN L) (2 ^ (a + 1))
  omega
 refine ⟨setN L / 2 ^ (a + 1), e, ?_⟩
 have l1 : 2 ^ a < 2 ^ (a + 1) := Nat.pow_lt_pow_right (by omega) (by omega)
 rw [setN_cons, Int.toNat_natCast]
 generalize setN L / 2 ^ (a + 1) = q at e
 rw [e, Nat.or_comm, Nat.two_pow_add_eq_or_of_lt l1]
theorem set_list_l0 (L : List Int) : ∀ (out : List Int) (k : Nat), L.Pairwise (· < ·) → (∀ x ∈ L, 0 ≤ x ∧ x < 32) → out.length + L.length ≤ 1000 → L.length < k → impl_set_list.l0 k ((setN L : Nat) : Int) out = some (out ++ L) := by
 induction L with
 | nil =>
  intro out k _ _ _ hk
  obtain ⟨k, rfl, _⟩ := fuel hk
  simp only [impl_set_list.l0]
  rw [if_pos (show ((setN [] : Nat) : Int) = 0 from rfl), List.append_nil]
 | cons b L ih =>
  intro out k hp hb ho hk
  obtain ⟨k, rfl, hk'⟩ := fuel hk
  rw [List.length_cons] at ho hk'
  obtain ⟨h1, h2⟩ := List.pairwise_cons.1 hp
  have hb0 := hb b List.mem_cons_self
  obtain ⟨a, rfl⟩ : ∃ a : Nat, b = a := ⟨b.toNat, by omega⟩
  obtain ⟨q, e1, e2⟩ := setN_split a L h1
  have hlt : setN ((a : Int) :: L) < 4294967296 := setN_u32 _ fun p hp => (hb p hp).2
  have hlt2 : setN L < 4294967296 := setN_u32 _ fun p hp => (hb p (List.mem_cons_of_mem _ hp)).2
  have pa : 0 < 2 ^ a := Nat.two_pow_pos a
  have hctz : Lib.ctz 32 (setN ((a : Int) :: L)) = a := by
   refine ctz_lowest _ a ?_ (fun j hj => ?_) hlt
   ·rw [testBit_setN]
    exact decide_eq_true ⟨a, List.mem_cons_self, Int.toNat_natCast a⟩
   ·rw [testBit_setN]
    refine decide_eq_false fun ⟨p, hp, e⟩ => ?_
    rcases List.mem_cons.1 hp with g | g
    ·omega
    ·have := h1 p g; omega
  simp only [impl_set_list.l0]
  rw [if_neg (by omega)]
  have ef : bits_TrailingZeros32.f ((setN ((a : Int) :: L) : Nat) : Int) = some (a : Int) := by
   unfold bits_TrailingZeros32.f
   rw [if_pos (by omega), Int.toNat_natCast, hctz]
  rw [ef, Option.bind_some, if_pos (by omega)]
  have em : (((setN ((a : Int) :: L) : Nat) : Int) - 1) % 4294967296 = ((setN ((a : Int) :: L) - 1 : Nat) : Int) := by omega
  rw [em, and_cast _ _ hlt (by omega), e2, and_pred, ← e1, ih (out ++ [(a : Int)]) k h2 (fun x hx => hb x (List.mem_cons_of_mem _ hx)) (by simp; omega) (by omega), List.append_assoc]
  rfl
theorem set_list_ev (L : List Int) (hp : L.Pairwise (· < ·)) (hb : ∀ x ∈ L, 0 ≤ x ∧ x < 32) (hl : L.length ≤ 100) : Ev (fun k => impl_set_list.f k ((setN L : Nat) : Int)) L := by
 refine Ev.bound L.length fun k hk => ?_
 unfold impl_set_list.f
 have := set_list_l0 L [] k hp hb (by simp; omega) hk
 rwa [List.nil_append] at this

theorem impl_setOf_l0 (l : List Int) (hl : l.length ≤ 1048576) (hb : ∀ x ∈ l, 0 ≤ x ∧ x < 32) (d : Nat) : ∀ (k i s : Nat), s < 4294967296 → i ≤ l.length → l.length - i = d → d < k →
  impl_setOf.l0 k (s : Int) l (l.length : Int) i = some (((l.drop i).foldl (fun s p => s ||| 2 ^ p.toNat) s : Nat) : Int) := by
 induction d with
 | zero =>
  intro k i s hs hi hd hk
  obtain ⟨k, rfl, _⟩ := fuel hk
  simp only [impl_setOf.l0]
  rw [if_neg (by omega), List.drop_eq_nil_of_le (by omega)]
  rfl
 | succ d ih =>
  intro k i s hs hi hd hk
  obtain ⟨k, rfl, _⟩ := fuel hk
  obtain ⟨b0, b1⟩ := hb (l[i]'(by omega)) (List.getElem_mem _)
  have hp : 2 ^ (l[i]'(by omega)).toNat < 2 ^ 32 := Nat.pow_lt_pow_right (by omega) (by omega)
  simp only [impl_setOf.l0]
  rw [if_pos (by omega), if_pos (by omega), if_pos (by omega), wrap_one (n := l.length) (by omega) (by omega), rd_get l i (by omega), if_pos b0, shl_one _ b0 b1, or_cast _ _ hs hp]
  rw [ih k (i + 1) _ (Nat.or_lt_two_pow (n := 32) hs hp) (by omega) (by omega) (by omega), List.drop_eq_getElem_cons (l := l) (i := i) (by omega)]
  rfl
theorem impl_setOf_eq (l : List Int) (hl : l.length ≤ 1048576) (hb : ∀ x ∈ l, 0 ≤ x ∧ x < 32) (k : Nat) (hk : l.length < k) : impl_setOf.f k l = some ((setN l : Nat) : Int) :=
 impl_setOf_l0 l hl hb l.length k 0 0 (by omega) (by omega) (by omega) hk

theorem taken_lt (s : Int) (ring : Bool) (t : List Int) (hr : RowOK s ring t) : (∀ x ∈ t, 0 ≤ x ∧ x < 32) ∧ setN t < 4294967296 := by
 have hm := rising_mem t _ _ hr.2.2
 have h24 := hr.1
 exact ⟨fun x hx => by have := hm x hx; omega, setN_u32 t fun x hx => by have := hm x hx; omega⟩
theorem impl_taken_eq (s : Int) (ring : Bool) (t : List Int) (hr : RowOK s ring t) (k : Nat) (hk : t.length < k) : impl_Row_taken.f k s ring t = some ((setN t : Nat) : Int) := by
 unfold impl_Row_taken.f
 have := row_len s ring t hr
 rw [impl_setOf_eq t (by omega) (taken_lt s ring t hr).1 k hk, Option.bind_some]

theorem spec_l1Own_eq (l : List Int) (h : l.length < 17592186044416) : spec_l1Own.f l = some l := by
 unfold spec_l1Own.f
 rw [Option.bind_some, if_pos (by simpa using h)]
 rfl

def putL (t : List Int) (p : Int) : List Int := (t.filter fun x => decide (x < p)) ++ p :: t.filter fun x => decide (p < x)
theorem rising_split (t : List Int) (p : Int) (hr : ∀ i j, (h : i < j) → (hj : j < t.length) → t[i]'(by omega) < t[j]) (i : Nat) (hi : i ≤ t.length) (h1 : ∀ j, (h : j < i) → t[j]'(by omega) < p) (h2 : ∀ j, i ≤ j → (hj : j < t.length) → p < t[j]) :
  t.take i = (t.filter fun x => decide (x < p)) ∧ t.drop i = (t.filter fun x => decide (p < x)) := by
 have e := (List.take_append_drop i t).symm
 have a1 : ∀ x ∈ t.take i, x < p := fun x hx => by
  obtain ⟨j, hj, rfl⟩ := List.getElem_of_mem hx
  rw [List.length_take] at hj
  rw [List.getElem_take]
  exact h1 j (by omega)
 have a2 : ∀ x ∈ t.drop i, p < x := fun x hx => by
  obtain ⟨j, hj, rfl⟩ := List.getElem_of_mem hx
  rw [List.length_drop] at hj
  rw [List.getElem_drop]
  exact h2 _ (by omega) (by omega)
 constructor
 ·conv => rhs; rw [e]
  rw [List.filter_append, List.filter_eq_self.2 (fun x hx => decide_eq_true (a1 x hx)), List.filter_eq_nil_iff.2 (fun x hx => by have := a2 x hx; simp; omega), List.append_nil]
 ·conv => rhs; rw [e]
  rw [List.filter_append, List.filter_eq_nil_iff.2 (fun x hx => by have := a1 x hx; simp; omega), List.filter_eq_self.2 (fun x hx => decide_eq_true (a2 x hx)), List.nil_append]
theorem spec_l1Put_l0 (t : List Int) (p : Int) (ht : t.length ≤ 1048576) (hr : ∀ i j, (h : i < j) → (hj : j < t.length) → t[i]'(by omega) < t[j]) (hp : p ∉ t) (d : Nat) : ∀ (k i : Nat), i ≤ t.length → t.length - i = d → d < k → (∀ j, (h : j < i) → (hj : j < t.length) → t[j] < p) →
  spec_l1Put.l0 k t p (i : Int) = some (putL t p) := by
 have done : ∀ i, i ≤ t.length → (∀ j, (h : j < i) → (hj : j < t.length) → t[j] < p) → (∀ j, i ≤ j → (hj : j < t.length) → p < t[j]) → [] ++ t.take i ++ [p] ++ t.drop i = putL t p := by
  intro i hi h1 h2
  obtain ⟨e1, e2⟩ := rising_split t p hr i hi (fun j hj => h1 j hj (by omega)) h2
  rw [e1, e2]
  simp [putL]
 induction d with
 | zero =>
  intro k i hi hd hk h1
  obtain ⟨k, rfl, _⟩ := fuel hk
  simp only [spec_l1Put.l0]
  rw [if_neg (by omega), Option.bind_some, if_pos (by omega), if_pos (by omega), if_pos (by simp; omega), Option.bind_some, Option.bind_some, if_pos (by simp; omega), Option.bind_some, if_pos (by simp; omega), Int.toNat_natCast, done i hi h1 (fun j hj hj' => by omega)]
 | succ d ih =>
  intro k i hi hd hk h1
  obtain ⟨k, rfl, _⟩ := fuel hk
  simp only [spec_l1Put.l0]
  rw [if_pos (by omega), if_pos (by omega), rd_get t i (by omega)]
  by_cases g : t[i]'(by omega) < p
  ·rw [if_pos g, wrap_one (n := t.length) (by omega) (by omega)]
   refine ih k (i + 1) (by omega) (by omega) (by omega) fun j hj hj' => ?_
   by_cases e : j = i
   ·subst e; exact g
   ·exact h1 j (by omega) hj'
  ·have hne : t[i]'(by omega) ≠ p := fun e => hp (e ▸ List.getElem_mem _)
   rw [if_neg g, if_neg hne, Option.bind_some, if_pos (by omega), if_pos (by simp; omega), Option.bind_some, Option.bind_some, if_pos (by simp; omega), Option.bind_some, if_pos (by simp; omega), Int.toNat_natCast, done i hi h1]
   intro j hj hj'
   by_cases e : j = i
   ·subst e; omega
   ·have := hr i j (by omega) hj'
    omega
theorem spec_l1Put_eq (t : List Int) (p : Int) (ht : t.length ≤ 1048576) (hr : ∀ i j, (h : i < j) → (hj : j < t.length) → t[i]'(by omega) < t[j]) (hp : p ∉ t) (k : Nat) (hk : t.length < k) : spec_l1Put.f k t p = some (putL t p) :=
 spec_l1Put_l0 t p ht hr hp t.length k 0 (by omega) (by omega) hk (fun j h => by omega)
theorem spec_l2With_eq (s : Int) (ring : Bool) (t : List Int) (p : Int) (ht : t.length ≤ 1048576) (hr : ∀ i j, (h : i < j) → (hj : j < t.length) → t[i]'(by omega) < t[j]) (hp : p ∉ t) (k : Nat) (hk : t.length < k) : spec_l2With.f k s ring t p = some (s, ring, putL t p) := by
 unfold spec_l2With.f
 rw [spec_l1Own_eq t (by omega), Option.bind_some, spec_l1Put_eq t p ht hr hp k hk, Option.bind_some, spec_l2Made.f, Option.bind_some]
theorem mem_put (t : List Int) (p x : Int) (hp : p ∉ t) : x ∈ putL t p ↔ x = p ∨ x ∈ t := by
 unfold putL
 rw [List.mem_append, List.mem_cons, List.mem_filter, List.mem_filter, decide_eq_true_eq, decide_eq_true_eq]
 constructor
 ·rintro (e | e | e)
  ·exact .inr e.1
  ·exact .inl e
  ·exact .inr e.1
 ·rintro (e | e)
  ·exact .inr (.inl e)
  ·rcases Int.lt_trichotomy x p with g | g | g
   ·exact .inl ⟨e, g⟩
   ·exact .inr (.inl g)
   ·exact .inr (.inr ⟨e, g⟩)
theorem rising_of (t : List Int) (h : t.Pairwise (· < ·)) : ∀ i j, (h : i < j) → (hj : j < t.length) → t[i]'(by omega) < t[j] := fun i j hij hj => List.pairwise_iff_getElem.1 h i j (by omega) hj hij
theorem put_pairwise (t : List Int) (p : Int) (h : t.Pairwise (· < ·)) : (putL t p).Pairwise (· < ·) := by
 unfold putL
 rw [List.pairwise_append]
 refine ⟨List.Pairwise.filter _ h, List.pairwise_cons.2 ⟨fun x hx => ?_, List.Pairwise.filter _ h⟩, fun a ha b hb => ?_⟩
 ·exact of_decide_eq_true (List.mem_filter.1 hx).2
 ·have h1 := of_decide_eq_true (List.mem_filter.1 ha).2
  rcases List.mem_cons.1 hb with e | e
  ·omega
  ·have h2 := of_decide_eq_true (List.mem_filter.1 e).2
   omega
theorem row_pairwise {s : Int} {ring : Bool} {t : List Int} (h : RowOK s ring t) : t.Pairwise (· < ·) := List.pairwise_iff_getElem.2 fun i j hi hj hij => rising_lt t _ _ h.2.2 i j hij hj
def nearL (g : Int → Int) : List Int → Int → Int
 | [], a => a
 | q :: qs, a => nearL g qs (if a < 0 then g q else if g q < a then g q else a)
theorem gapI_range (n : Nat) (ring : Bool) (p q : Nat) (hp : p < n) (hq : q < n) : 0 ≤ gapI n ring p q ∧ gapI n ring p q < n := by
 unfold gapI
 generalize hd : (if (p : Int) - q > (q : Int) - p then (p : Int) - q else (q : Int) - p) = d
 have hb : 0 ≤ d ∧ d < n := by rw [← hd]; split <;> omega
 split
 ·split <;> omega
 ·omega
theorem gapI_zero (n : Nat) (ring : Bool) (p q : Nat) (hp : p < n) (hq : q < n) : gapI n ring p q = 0 ↔ p = q := by
 unfold gapI
 generalize hd : (if (p : Int) - q > (q : Int) - p then (p : Int) - q else (q : Int) - p) = d
 have hb : 0 ≤ d ∧ d < n ∧ (d = 0 ↔ p = q) := by rw [← hd]; split <;> omega
 split
 ·split <;> omega
 ·omega
theorem nearL_range (g : Int → Int) (m : Int) : ∀ (l : List Int) (a : Int), (∀ x ∈ l, 0 ≤ g x ∧ g x < m) → (a = -1 ∨ 0 ≤ a ∧ a < m) → (l = [] ∧ nearL g l a = a) ∨ (0 ≤ nearL g l a ∧ nearL g l a < m)
 | [], a, _, _ => .inl ⟨rfl, rfl⟩
 | q :: qs, a, h, ha => by
  have hq := h q List.mem_cons_self
  rw [nearL]
  have := nearL_range g m qs (if a < 0 then g q else if g q < a then g q else a) (fun x hx => h x (List.mem_cons_of_mem _ hx)) (by
   rcases ha with rfl | ha
   ·rw [if_pos (by omega)]; exact .inr hq
   ·rw [if_neg (by omega)]
    split
    ·exact .inr hq
    ·exact .inr ha)
  rcases this with ⟨_, e⟩ | h2
  ·rw [e]
   refine .inr ?_
   rcases ha with rfl | ha
   ·rw [if_pos (by omega)]; exact hq
   ·rw [if_neg (by omega)]
    split
    ·exact hq
    ·exact ha
  ·exact .inr h2
theorem nearL_zero (g : Int → Int) : ∀ (l : List Int) (a : Int), (∀ x ∈ l, 0 ≤ g x) → (-1 ≤ a) → (nearL g l a = 0 ↔ a = 0 ∨ ∃ x ∈ l, g x = 0)
 | [], a, _, _ => by simp [nearL]
 | q :: qs, a, h, ha => by
  have hq := h q List.mem_cons_self
  rw [nearL, nearL_zero g qs _ (fun x hx => h x (List.mem_cons_of_mem _ hx)) (by split; omega; split <;> omega)]
  have : (if a < 0 then g q else if g q < a then g q else a) = 0 ↔ a = 0 ∨ g q = 0 := by
   split
   ·omega
   ·split <;> omega
  rw [this]
  simp only [List.mem_cons, exists_eq_or_imp, or_assoc]
def farV (n : Nat) (ring : Bool) (t : List Int) (p : Nat) : Int := if t = [] then (n : Int) else nearL (fun q => gapI n ring p q.toNat) t (-1)
section
variable {n : Nat} {ring : Bool} {t : List Int} (hR : RowOK n ring t)
include hR
theorem far_in : ∀ x ∈ t, 0 ≤ x ∧ x < n := fun x hx => by have := rising_mem t _ _ hR.2.2 x hx; omega
theorem far_range (p : Nat) (hp : p < n) : 0 ≤ farV n ring t p ∧ farV n ring t p ≤ n := by
 unfold farV
 split
 ·omega
 ·rename_i hne
  have h := far_in hR
  rcases nearL_range (fun q => gapI n ring p q.toNat) n t (-1) (fun x hx => gapI_range n ring p x.toNat hp (by have := h x hx; omega)) (.inl rfl) with ⟨e, _⟩ | e
  ·exact absurd e hne
  ·omega
theorem far_zero (p : Nat) (hp : p < n) : farV n ring t p = 0 ↔ (p : Int) ∈ t := by
 have hn : 2 ≤ n := by have := hR.1.1; omega
 have h := far_in hR
 unfold farV
 split
 ·rename_i e
  subst e
  constructor
  ·intro e; omega
  ·intro e; simp at e
 ·rw [nearL_zero _ _ _ (fun x hx => (gapI_range n ring p x.toNat hp (by have := h x hx; omega)).1) (by omega)]
  constructor
  ·rintro (e | ⟨x, hx, e⟩)
   ·omega
   ·have := h x hx
    have := (gapI_zero n ring p x.toNat hp (by omega)).1 e
    rwa [show (p : Int) = x by omega]
  ·intro e
   exact .inr ⟨p, e, (gapI_zero n ring p _ hp (by simpa using hp)).2 (by simp)⟩
theorem spec_far_ev (p : Nat) (hp : p < n) : Ev (fun k => spec_l3Far.f k n ring t p) (farV n ring t p) := by
 have hn : n ≤ 24 := by have := hR.1.2; omega
 have h := far_in hR
 have hl := row_len _ ring _ hR
 have main : ∀ (l : List Int) (i : Nat) (b a : Int), t.drop i = l → (b < 0 ↔ a < 0) → ∃ b' : Int, Ev (fun k => spec_l2Nearest.l0 k t p b a i n ring t) (b', nearL (fun q => gapI n ring p q.toNat) l a) := by
  intro l
  induction l with
  | nil =>
   intro i b a e _
   have : t.length ≤ i := List.drop_eq_nil_iff.1 e
   refine ⟨b, Ev.succ ?_⟩
   simp only [spec_l2Nearest.l0]
   exact Ev.neg (by omega) (Ev.now _)
  | cons q qs ih =>
   intro i b a e hab
   have hi : i < t.length := by
    rcases Nat.lt_or_ge i t.length with g | g
    ·exact g
    ·rw [List.drop_eq_nil_iff.2 g] at e; cases e
   rw [List.drop_eq_getElem_cons hi] at e
   injection e with e1 e2
   have hq := h q (by rw [← e1]; exact List.getElem_mem hi)
   have hg := gapI_range n ring p q.toNat hp (by omega)
   obtain ⟨b', go⟩ := ih (i + 1) q (gapI n ring p q.toNat) e2 (by omega)
   obtain ⟨b2, go2⟩ := ih (i + 1) b a e2 hab
   have ge := spec_l2Gap_eq n ring t p q.toNat hn hp (by omega)
   rw [show ((q.toNat : Nat) : Int) = q by omega] at ge
   by_cases c1 : a < 0
   ·refine ⟨b', Ev.succ ?_⟩
    simp only [spec_l2Nearest.l0, nearL]
    rw [if_pos c1]
    refine Ev.pos (by omega) (Ev.pos (by omega) ?_)
    rw [rd_get t i hi, e1, wrap_one (n := 100) (by omega) (by omega)]
    exact Ev.have ge (Ev.pos (hab.2 c1) go)
   ·by_cases c2 : gapI n ring p q.toNat < a
    ·refine ⟨b', Ev.succ ?_⟩
     simp only [spec_l2Nearest.l0, nearL]
     rw [if_neg c1, if_pos c2]
     refine Ev.pos (by omega) (Ev.pos (by omega) ?_)
     rw [rd_get t i hi, e1, wrap_one (n := 100) (by omega) (by omega)]
     exact Ev.have ge (Ev.neg (fun x => c1 (hab.1 x)) (Ev.pos c2 go))
    ·refine ⟨b2, Ev.succ ?_⟩
     simp only [spec_l2Nearest.l0, nearL]
     rw [if_neg c1, if_neg c2]
     refine Ev.pos (by omega) (Ev.pos (by omega) ?_)
     rw [rd_get t i hi, e1, wrap_one (n := 100) (by omega) (by omega)]
     exact Ev.have ge (Ev.neg (fun x => c1 (hab.1 x)) (Ev.neg c2 go2))
 unfold spec_l3Far.f farV
 by_cases ht : t = []
 ·rw [if_pos ht]
  exact Ev.pos (by rw [ht]; rfl) (Ev.now _)
 ·rw [if_neg ht]
  have : 0 < t.length := List.length_pos_iff.2 ht
  obtain ⟨b, hb⟩ := main t 0 (-1) (-1) rfl (by omega)
  refine Ev.neg (by omega) (Ev.bind (a := nearL (fun q => gapI n ring p q.toNat) t (-1)) ?_ (Ev.now _))
  unfold spec_l2Farthest.f spec_l2Nearest.f
  exact Ev.bind hb (Ev.now _)
def farL (n : Nat) (ring : Bool) (t : List Int) (i : Nat) : List Int := (List.range i).map (farV n ring t)
omit hR in
theorem farL_succ (i : Nat) : farL n ring t (i + 1) = farL n ring t i ++ [farV n ring t i] := by simp [farL, List.range_succ]
omit hR in
theorem farL_len (i : Nat) : (farL n ring t i).length = i := by simp [farL]
omit hR in
theorem farL_rd (i p : Nat) (h : p < i) : rd (farL n ring t i) p = farV n ring t p := by
 rw [rd_get _ _ (by rw [farL_len]; exact h)]
 simp [farL]
theorem spec_all_ev : Ev (fun k => spec_l3All.f k n ring t) (farL n ring t n) := by
 have hn : n ≤ 24 := by have := hR.1.2; omega
 have main : ∀ d i, i + d = n → Ev (fun k => spec_l3All.l0 k (farL n ring t i) i n ring t) (farL n ring t n) := by
  intro d
  induction d with
  | zero =>
   intro i hi
   obtain rfl : i = n := by omega
   refine Ev.succ ?_
   simp only [spec_l3All.l0]
   exact Ev.neg (by omega) (Ev.now _)
  | succ d ih =>
   intro i hi
   have go := ih (i + 1) (by omega)
   rw [farL_succ] at go
   refine Ev.succ ?_
   simp only [spec_l3All.l0]
   rw [wrap_one (n := 100) (by omega) (by omega)]
   exact Ev.pos (by omega) (Ev.bind (spec_far_ev hR i (by omega)) (Ev.pos (by rw [farL_len]; omega) go))
 unfold spec_l3All.f
 exact main n 0 (by omega)
end

theorem cover_perm : ∀ (r l : List Int), r.Nodup → r ⊆ l → l.length ≤ r.length → l.Perm r
 | [], l, _, _, hl => by
  have : l = [] := List.eq_nil_of_length_eq_zero (by simpa using hl)
  subst this
  exact List.Perm.refl _
 | a :: t, l, hn, hs, hl => by
  have ha : a ∈ l := hs List.mem_cons_self
  have hc := List.nodup_cons.1 hn
  have hlen := List.length_erase_of_mem ha
  have hpos := List.length_pos_of_mem ha
  have ht : t ⊆ l.erase a := fun x hx => (List.mem_erase_of_ne (by rintro rfl; exact hc.1 hx)).2 (hs (List.mem_cons_of_mem _ hx))
  have hl' : l.length ≤ t.length + 1 := by simpa using hl
  exact (List.perm_cons_erase ha).trans ((cover_perm t (l.erase a) hc.2 ht (by omega)).cons a)
theorem sorted_unique : ∀ (a b : List Int), a.Pairwise (· ≤ ·) → b.Pairwise (· ≤ ·) → a.Perm b → a = b
 | [], b, _, _, h => (List.perm_nil.1 h.symm).symm
 | x :: a, [], _, _, h => absurd (List.perm_nil.1 h) (by simp)
 | x :: a, y :: b, ha, hb, h => by
  obtain ⟨h1, h2⟩ := List.pairwise_cons.1 ha
  obtain ⟨h3, h4⟩ := List.pairwise_cons.1 hb
  have e1 : x ≤ y := by
   rcases List.mem_cons.1 (h.mem_iff.2 List.mem_cons_self : y ∈ x :: a) with e | e
   ·omega
   ·exact h1 y e
  have e2 : y ≤ x := by
   rcases List.mem_cons.1 (h.mem_iff.1 List.mem_cons_self : x ∈ y :: b) with e | e
   ·omega
   ·exact h3 x e
  obtain rfl : x = y := by omega
  rw [sorted_unique a b h2 h4 (List.Perm.cons_inv h)]
def sortL (c : List Int) : List Int := c.mergeSort fun x y => decide (x ≤ y)
theorem sort_perm (c : List Int) : (sortL c).Perm c := List.mergeSort_perm c _
theorem sort_pairwise (c : List Int) : (sortL c).Pairwise (· ≤ ·) := by
 have := List.pairwise_mergeSort (le := fun x y : Int => decide (x ≤ y)) (fun a b c h1 h2 => by simp at *; omega) (fun a b => by simp; omega) c
 exact this.imp fun h => by simpa using h
theorem sort_taken {s : Int} {ring : Bool} {t c : List Int} (h : RowOK s ring t) : sortL c = t ↔ c.length = t.length ∧ ∀ x ∈ t, x ∈ c := by
 constructor
 ·intro e
  refine ⟨by rw [← e]; exact (sort_perm c).length_eq.symm, fun x hx => ?_⟩
  rw [← e] at hx
  exact (sort_perm c).mem_iff.1 hx
 ·rintro ⟨h1, h2⟩
  have p := cover_perm t c (rising_nodup t _ _ h.2.2) h2 (by omega)
  refine sorted_unique _ _ (sort_pairwise c) ?_ ((sort_perm c).trans p)
  exact List.pairwise_iff_getElem.2 fun i j hi hj hij => by have := rising_lt t _ _ h.2.2 i j hij hj; omega
def HouseOK (s : Int) (ring : Bool) (t c : List Int) (n : Int) : Prop := RowOK s ring t ∧ (c.length = t.length ∧ ∀ x ∈ t, x ∈ c) ∧ 0 ≤ n ∧ n ≤ 1000
theorem equal_eq (a b : List Int) (ha : a.length ≤ 1048576) (k : Nat) (hk : a.length < k) : slices_Equal_int_int.f k a b = some (decide (a = b)) := by
 unfold slices_Equal_int_int.f
 by_cases hl : a.length = b.length
 ·rw [if_pos (by omega)]
  have main : ∀ d k i, i + d = a.length → d < k → (∀ j, j < i → a[j]? = b[j]?) → slices_Equal_int_int.l0 k a b (a.length : Int) (i : Int) = some (decide (a = b)) := by
   intro d
   induction d with
   | zero =>
    intro k i hi hk hj
    obtain ⟨k, rfl, _⟩ := fuel hk
    simp only [slices_Equal_int_int.l0]
    rw [if_neg (by omega)]
    refine congrArg some (decide_eq_true ?_).symm
    refine List.ext_getElem hl fun j h1 h2 => ?_
    have := hj j (by omega)
    rw [List.getElem?_eq_getElem h1, List.getElem?_eq_getElem h2] at this
    exact Option.some.inj this
   | succ d ih =>
    intro k i hi hk hj
    obtain ⟨k, rfl, _⟩ := fuel hk
    simp only [slices_Equal_int_int.l0]
    rw [if_pos (by omega), if_pos (by omega), if_pos (by omega), if_pos (by omega), rd_get a i (by omega), rd_get b i (by omega), wrap_one (n := a.length) (by omega) (by omega)]
    by_cases e : a[i]'(by omega) = b[i]'(by omega)
    ·rw [if_pos e]
     refine ih k (i + 1) (by omega) (by omega) fun j hj' => ?_
     by_cases g : j = i
     ·subst g
      rw [List.getElem?_eq_getElem (by omega), List.getElem?_eq_getElem (by omega), e]
     ·exact hj j (by omega)
    ·rw [if_neg e]
     refine congrArg some (decide_eq_false fun h => e ?_).symm
     simp only [h]
  exact main a.length k 0 (by omega) hk (fun j hj => by omega)
 ·rw [if_neg (by omega)]
  exact congrArg some (decide_eq_false fun h => hl (by rw [h])).symm
open Classical in
theorem spec_good_eq (s : Int) (ring : Bool) (t c : List Int) (n : Int) (ht : t.length ≤ 1048576) (hc : c.length ≤ 1048576) : Ev (fun k => spec_l12Good.f k s ring t c n) (decide (HouseOK s ring t c n)) := by
 have jn : Ev (fun k => spec_l12Good.j0 k true s ring t c n) false := by
  refine Ev.succ ?_
  simp only [spec_l12Good.j0]
  exact Ev.pos (by first | rfl | exact True.intro) (Ev.now _)
 unfold spec_l12Good.f
 refine Ev.bind (Ev.bound t.length fun k hk => spec_l2Row_eq s ring t ht k hk) ?_
 by_cases h : RowOK s ring t
 ·rw [decide_eq_true h]
  refine Ev.pos rfl ?_
  by_cases hl : c.length = t.length
  ·refine Ev.pos (by omega) (Ev.have (spec_l1In_eq _ _ _) ?_)
   by_cases hn : 0 ≤ n ∧ n ≤ 1000
   ·rw [decide_eq_true hn]
    refine Ev.succ ?_
    simp only [spec_l12Good.j0]
    refine Ev.neg (by simp) ?_
    have main : ∀ d i : Nat, i + d = t.length → (∀ j, (hj : j < i) → (h2 : j < t.length) → t[j] ∈ c) → Ev (fun k => spec_l12Good.l0 k (i : Int) s ring t c n) (decide (HouseOK s ring t c n)) := by
     intro d
     induction d with
     | zero =>
      intro i hi hj
      refine Ev.succ ?_
      simp only [spec_l12Good.l0]
      rw [decide_eq_true (show HouseOK s ring t c n from ⟨h, ⟨hl, fun x hx => by
       obtain ⟨j, hj2, rfl⟩ := List.getElem_of_mem hx
       exact hj j (by omega) hj2⟩, hn⟩)]
      exact Ev.neg (by omega) (Ev.now _)
     | succ d ih =>
      intro i hi hj
      refine Ev.succ ?_
      simp only [spec_l12Good.l0]
      rw [rd_get t i (by omega), wrap_one (n := t.length) (by omega) (by omega)]
      refine Ev.pos (by omega) (Ev.pos (by omega) (Ev.bind (Ev.bound c.length fun k hk => spec_l1Has_eq c _ hc k hk) ?_))
      by_cases g : t[i]'(by omega) ∈ c
      ·refine Ev.pos (decide_eq_true g) (ih (i + 1) (by omega) fun j hj' h2 => ?_)
       by_cases e : j = i
       ·subst e; exact g
       ·exact hj j (by omega) h2
      ·rw [decide_eq_false (fun z : HouseOK s ring t c n => g (z.2.1.2 _ (List.getElem_mem _)))]
       exact Ev.neg (by rw [decide_eq_true_eq]; exact g) (Ev.now _)
    exact main t.length 0 (by omega) (fun j hj => by omega)
   ·rw [decide_eq_false hn, decide_eq_false (fun z : HouseOK s ring t c n => hn z.2.2)]
    exact jn
  ·rw [decide_eq_false (fun z : HouseOK s ring t c n => hl z.2.1.1)]
   exact Ev.neg (by omega) jn
 ·rw [decide_eq_false h, decide_eq_false (fun z : HouseOK s ring t c n => h z.1)]
  exact Ev.neg (by simp) jn
open Classical in
theorem impl_house_eq (s : Int) (ring : Bool) (t c : List Int) (n : Int) (ht : t.length ≤ 1048576) (hc : c.length ≤ 1048576) : Ev (fun k => impl_IsHouse.f k s ring t c n) (decide (HouseOK s ring t c n)) := by
 unfold impl_IsHouse.f
 refine Ev.bind (Ev.bound (t.length + 3) fun k hk => impl_IsRow_eq s ring t ht k hk) ?_
 by_cases h : RowOK s ring t
 ·rw [decide_eq_true h]
  have es : slices_Sorted_int.f c = some (sortL c) := by unfold slices_Sorted_int.f; rw [if_pos hc]; rfl
  refine Ev.pos rfl (Ev.have es (Ev.bind (Ev.bound (sortL c).length fun k hk => equal_eq (sortL c) t (by rw [(sort_perm c).length_eq]; exact hc) k hk) ?_))
  by_cases e : sortL c = t
  ·refine Ev.pos (decide_eq_true e) (Ev.have (impl_within_eq _ _ _) ?_)
   rw [show decide (HouseOK s ring t c n) = decide (0 ≤ n ∧ n ≤ 1000) from decide_eq_decide.2 ⟨fun z => z.2.2, fun z => ⟨h, (sort_taken h).1 e, z⟩⟩]
   exact Ev.now _
  ·rw [decide_eq_false (fun z : HouseOK s ring t c n => e ((sort_taken h).2 z.2.1))]
   exact Ev.neg (by rw [decide_eq_true_eq]; exact e) (Ev.now _)
 ·rw [decide_eq_false h, decide_eq_false (fun z : HouseOK s ring t c n => h z.1)]
  exact Ev.neg (by simp) (Ev.now _)

def mostF (F : Nat → Int) : Nat → Int
 | 0 => 0
 | i + 1 => if F i > mostF F i then F i else mostF F i
theorem most_le (F : Nat → Int) : ∀ i j, j < i → F j ≤ mostF F i
 | 0, j, h => by omega
 | i + 1, j, h => by
  rw [mostF]
  rcases Nat.lt_or_ge j i with g | g
  ·have := most_le F i j g
   split <;> omega
  ·obtain rfl : j = i := by omega
   split <;> omega
theorem most_at (F : Nat → Int) : ∀ i, 0 < mostF F i → ∃ j, j < i ∧ F j = mostF F i
 | 0, h => by simp [mostF] at h
 | i + 1, h => by
  rw [mostF] at h ⊢
  split
  ·exact ⟨i, by omega, rfl⟩
  ·rename_i g
   rw [if_neg g] at h
   obtain ⟨j, h1, h2⟩ := most_at F i h
   exact ⟨j, by omega, h2⟩
def polB (F : Nat → Int) (M : Int) (p : Nat) : Bool := decide (F p = M ∧ 0 < M)
def polL (n : Nat) (ring : Bool) (t : List Int) : List Int := listN (polB (farV n ring t) (mostF (farV n ring t) n)) n
open Classical in
theorem isRow_ev {n : Nat} {ring : Bool} {t : List Int} (hR : RowOK n ring t) : Ev (fun k => impl_IsRow.f k n ring t) true := by
 have hl := row_len _ ring _ hR
 exact Ev.same (Ev.bound (t.length + 3) fun k hk => impl_IsRow_eq n ring t (by omega) k (by omega)) (decide_eq_true hR)
section
variable {n : Nat} {ring : Bool} {t : List Int} (hR : RowOK n ring t)
include hR
theorem pol_mem (x : Int) : x ∈ polL n ring t → ∃ q : Nat, q < n ∧ x = q ∧ x ∉ t := by
 intro hx
 obtain ⟨q, h1, h2, rfl⟩ := (mem_listN _ _ _).1 hx
 unfold polB at h2
 have h2 := of_decide_eq_true h2
 refine ⟨q, h1, rfl, fun hm => ?_⟩
 have := (far_zero hR q h1).2 hm
 omega
theorem spec_polite_ev : Ev (fun k => spec_l3Polite.f k n ring t) (polL n ring t) := by
 have hn : n ≤ 24 := by have := hR.1.2; omega
 have second : ∀ d i, i + d = n → Ev (fun k => spec_l3Polite.l1 k (listN (polB (farV n ring t) (mostF (farV n ring t) n)) i) (farL n ring t n) (mostF (farV n ring t) n) i n ring t) (polL n ring t) := by
  intro d
  induction d with
  | zero =>
   intro i hi
   obtain rfl : i = n := by omega
   refine Ev.succ ?_
   simp only [spec_l3Polite.l1]
   refine Ev.neg (by omega) (Ev.succ ?_)
   simp only [spec_l3Polite.j2]
   exact Ev.neg (by simp) (Ev.now _)
  | succ d ih =>
   intro i hi
   have go := ih (i + 1) (by omega)
   have hl := listN_len (polB (farV n ring t) (mostF (farV n ring t) n)) i
   rw [listN_succ] at go
   refine Ev.succ ?_
   simp only [spec_l3Polite.l1]
   refine Ev.pos (by omega) (Ev.succ ?_)
   simp only [spec_l3Polite.j2]
   by_cases c : mostF (farV n ring t) n > 0
   ·refine Ev.pos (decide_eq_true c) (Ev.pos (by omega) (Ev.pos (by rw [farL_len]; omega) ?_))
    rw [farL_rd n i (by omega), wrap_one (n := 100) (by omega) (by omega)]
    by_cases e : farV n ring t i = mostF (farV n ring t) n
    ·rw [if_pos (by unfold polB; exact decide_eq_true ⟨e, c⟩)] at go
     exact Ev.pos e (Ev.pos (by omega) go)
    ·rw [if_neg (by unfold polB; simp only [decide_eq_true_eq]; omega)] at go
     exact Ev.neg e go
   ·refine Ev.neg (by simpa using c) ?_
    have none_ : ∀ j, listN (polB (farV n ring t) (mostF (farV n ring t) n)) j = [] := fun j => List.eq_nil_iff_forall_not_mem.2 fun x hx => by
     obtain ⟨q, _, h2, _⟩ := (mem_listN _ _ _).1 hx
     unfold polB at h2
     have := of_decide_eq_true h2
     omega
    unfold polL
    rw [none_ i, none_ n]
    exact Ev.now _
 have first : ∀ d i, i + d = n → Ev (fun k => spec_l3Polite.l0 k [] (farL n ring t n) (mostF (farV n ring t) i) i n ring t) (polL n ring t) := by
  intro d
  induction d with
  | zero =>
   intro i hi
   obtain rfl : i = n := by omega
   refine Ev.succ ?_
   simp only [spec_l3Polite.l0]
   exact Ev.neg (by omega) (second i 0 (by omega))
  | succ d ih =>
   intro i hi
   have go := ih (i + 1) (by omega)
   rw [mostF] at go
   refine Ev.succ ?_
   simp only [spec_l3Polite.l0]
   rw [farL_rd n i (by omega), wrap_one (n := 100) (by omega) (by omega)]
   refine Ev.pos (by omega) (Ev.pos (by omega) (Ev.pos (by rw [farL_len]; omega) (Ev.have (a := if farV n ring t i > mostF (farV n ring t) i then farV n ring t i else mostF (farV n ring t) i) ?_ go)))
   unfold spec_l1Most.f
   by_cases g : mostF (farV n ring t) i > farV n ring t i
   ·rw [if_pos g, if_neg (by omega)]
   ·rw [if_neg g]
    by_cases g2 : farV n ring t i > mostF (farV n ring t) i
    ·rw [if_pos g2]
    ·rw [if_neg g2]
     exact congrArg some (by omega)
 unfold spec_l3Polite.f
 exact Ev.bind (spec_all_ev hR) (first n 0 (by omega))
omit hR in
theorem range_nodup (m : Nat) : (castL (List.range m)).Nodup := by
 unfold castL
 exact (List.pairwise_map.2 (List.pairwise_lt_range.imp fun h => by omega))
omit hR in
theorem mem_castR (m : Nat) (x : Int) : x ∈ castL (List.range m) ↔ 0 ≤ x ∧ x < m := by
 unfold castL
 rw [List.mem_map]
 constructor
 ·rintro ⟨q, hq, rfl⟩
  have := List.mem_range.1 hq
  omega
 ·rintro ⟨h0, h1⟩
  exact ⟨x.toNat, List.mem_range.2 (by omega), by omega⟩
theorem pol_empty : polL n ring t = [] ↔ ¬ t.length < n := by
 have h := far_in hR
 have hN := rising_nodup t _ _ hR.2.2
 constructor
 ·intro e hlt
  have hex : ∃ q : Nat, q < n ∧ (q : Int) ∉ t := by
   refine Classical.byContradiction fun hno => ?_
   have hall : ∀ x ∈ castL (List.range n), x ∈ t := fun x hx => by
    have hx := (mem_castR n x).1 hx
    refine Classical.byContradiction fun hxt => hno ⟨x.toNat, by omega, ?_⟩
    rwa [show ((x.toNat : Nat) : Int) = x by omega]
   have := (cover_perm _ t (range_nodup n) hall (by simp [castL]; omega)).length_eq
   simp [castL] at this
   omega
  obtain ⟨q, hq, hqt⟩ := hex
  have h1 := far_range hR q hq
  have h2 : farV n ring t q ≠ 0 := fun e => hqt ((far_zero hR q hq).1 e)
  have h3 := most_le (farV n ring t) n q hq
  obtain ⟨j, hj, ej⟩ := most_at (farV n ring t) n (by omega)
  have : (j : Int) ∈ polL n ring t := (mem_listN _ _ _).2 ⟨j, hj, by unfold polB; exact decide_eq_true ⟨ej, by omega⟩, rfl⟩
  rw [e] at this
  simp at this
 ·intro hge
  refine List.eq_nil_iff_forall_not_mem.2 fun x hx => ?_
  obtain ⟨q, hq, rfl, hqt⟩ := pol_mem hR x hx
  have hp := cover_perm t (castL (List.range n)) hN (fun y hy => (mem_castR n y).2 (h y hy)) (by simp [castL]; omega)
  exact hqt (hp.mem_iff.1 ((mem_castR n q).2 ⟨by omega, by omega⟩))
theorem next_free (g : t.length < n) : ∃ q : Nat, q < n ∧ rd (polL n ring t) 0 = q ∧ (q : Int) ∉ t ∧ 0 < (polL n ring t).length := by
 have he := pol_empty hR
 have h1 : polL n ring t ≠ [] := fun e => he.1 e g
 have h2 : 0 < (polL n ring t).length := List.length_pos_iff.2 h1
 have h3 : rd (polL n ring t) ((0 : Nat) : Int) ∈ polL n ring t := by rw [rd_get _ 0 h2]; exact List.getElem_mem h2
 obtain ⟨q, hq, e, hqt⟩ := pol_mem hR _ h3
 exact ⟨q, hq, e, by rw [← e]; exact hqt, h2⟩
end

theorem first_at (x : Int) : ∀ c : List Int, x ∈ c → ∃ p, ∃ h : p < c.length, c[p] = x ∧ ∀ j, (hj : j < p) → c[j]'(by omega) ≠ x
 | a :: c, hx => by
  by_cases e : a = x
  ·exact ⟨0, by simp, by simpa using e, fun j hj => by omega⟩
  ·obtain ⟨p, h, h1, h2⟩ := first_at x c ((List.mem_cons.1 hx).resolve_left fun z => e z.symm)
   refine ⟨p + 1, by simp; omega, by simpa using h1, fun j hj => ?_⟩
   cases j with
   | zero => simpa using e
   | succ j => simpa using h2 j (by omega)
theorem spec_place_ev (c : List Int) (hc : c.length ≤ 1048576) (x : Int) (p : Nat) (hp : p < c.length) (h1 : c[p] = x) (h2 : ∀ j, (hj : j < p) → c[j]'(by omega) ≠ x) : Ev (fun k => spec_l12Place.f k c x) (p : Int) := by
 have main : ∀ d i : Nat, i + d = p → Ev (fun k => spec_l12Place.l0 k c x (i : Int)) (p : Int) := by
  intro d
  induction d with
  | zero =>
   intro i hi
   obtain rfl : i = p := by omega
   refine Ev.succ ?_
   simp only [spec_l12Place.l0]
   rw [rd_get c i hp]
   exact Ev.pos (by omega) (Ev.pos (by omega) (Ev.pos h1 (Ev.now _)))
  | succ d ih =>
   intro i hi
   have go := ih (i + 1) (by omega)
   refine Ev.succ ?_
   simp only [spec_l12Place.l0]
   rw [rd_get c i (by omega), wrap_one (n := c.length) (by omega) (by omega)]
   exact Ev.pos (by omega) (Ev.pos (by omega) (Ev.neg (h2 i (by omega)) go))
 exact main p 0 (by omega)



theorem filter_snoc (l : List Int) (q : Int → Bool) (i : Nat) (hi : i < l.length) : (l.take (i + 1)).filter q = (l.take i).filter q ++ (if q l[i] then [l[i]] else []) := by
 rw [List.take_add_one, List.getElem?_eq_getElem hi, Option.toList_some, List.filter_append]
 by_cases h : q l[i] = true
 ·simp [h]
 ·simp [h]

theorem spec_without_l0 (s : Int) (ring : Bool) (t : List Int) (p : Int) (ht : t.length ≤ 1048576) (d : Nat) : ∀ (k i : Nat), i ≤ t.length → t.length - i = d → d < k →
  spec_l2Without.l0 k p ((t.take i).filter fun x => !decide (x = p)) i s ring t = some (s, ring, t.filter fun x => !decide (x = p)) := by
 induction d with
 | zero =>
  intro k i hi hd hk
  obtain ⟨k, rfl, _⟩ := fuel hk
  simp only [spec_l2Without.l0]
  rw [if_neg (by omega), List.take_of_length_le (by omega), spec_l2Made.f, Option.bind_some]
 | succ d ih =>
  intro k i hi hd hk
  obtain ⟨k, rfl, _⟩ := fuel hk
  have h := ih k (i + 1) (by omega) (by omega) (by omega)
  rw [filter_snoc t _ i (by omega)] at h
  have l1 : ((t.take i).filter fun x => !decide (x = p)).length ≤ i := Nat.le_trans (List.length_filter_le _ _) (by simp; omega)
  simp only [spec_l2Without.l0]
  rw [if_pos (by omega), if_pos (by omega), rd_get t i (by omega), wrap_one (n := t.length) (i := i) (by omega) (by omega)]
  by_cases g : t[i]'(by omega) = p
  ·rw [if_pos g]
   rw [if_neg (by simp [g]), List.append_nil] at h
   exact h
  ·rw [if_neg g, if_pos (by omega)]
   rw [if_pos (by simp [g])] at h
   exact h
theorem spec_without_eq (s : Int) (ring : Bool) (t : List Int) (p : Int) (ht : t.length ≤ 1048576) (k : Nat) (hk : t.length < k) : spec_l2Without.f k s ring t p = some (s, ring, t.filter fun x => !decide (x = p)) :=
 spec_without_l0 s ring t p ht t.length k 0 (by omega) (by omega) hk

theorem rising_mk (l : List Int) (a b : Int) (hp : l.Pairwise (· < ·)) (hb : ∀ x ∈ l, a ≤ x ∧ x ≤ b) : Rising l a b := by
 intro i h
 refine ⟨hb _ (List.getElem_mem _), fun h0 => ?_⟩
 have := List.pairwise_iff_getElem.1 hp (i - 1) i (by omega) h (by omega)
 simpa [List.getD, show i - 1 < l.length from by omega] using this
theorem nodup_le : ∀ (a b : List Int), a.Nodup → (∀ x ∈ a, x ∈ b) → a.length ≤ b.length
 | [], _, _, _ => by simp
 | x :: a, b, hn, hs => by
  have hx := hs x List.mem_cons_self
  have hc := List.nodup_cons.1 hn
  have := nodup_le a (b.erase x) hc.2 fun y hy => (List.mem_erase_of_ne (by rintro rfl; exact hc.1 hy)).2 (hs y (List.mem_cons_of_mem _ hy))
  have hl := List.length_erase_of_mem hx
  have hpos := List.length_pos_of_mem hx
  simp only [List.length_cons]
  omega
theorem perm_taken {s : Int} {ring : Bool} {t c : List Int} {m : Int} (h : HouseOK s ring t c m) : c.Perm t := by
 have e := (sort_taken h.1).2 h.2.1
 have := (sort_perm c).symm
 rwa [e] at this
theorem house_mk {n : Nat} {ring : Bool} {t c : List Int} {m : Int} (hR : RowOK n ring t) (hl : c.length = t.length) (hm : ∀ x, x ∈ c ↔ x ∈ t) (h0 : 0 ≤ m) (h1 : m ≤ 1000) : HouseOK n ring t c m := ⟨hR, ⟨hl, fun x hx => (hm x).2 hx⟩, h0, h1⟩
theorem row_mk {n : Nat} {ring : Bool} {t t' : List Int} (hR : RowOK n ring t) (hw : t'.Pairwise (· < ·)) (hb : ∀ x ∈ t', 0 ≤ x ∧ x < n) : RowOK n ring t' := ⟨hR.1, hR.2.1, rising_mk t' 0 ((n : Int) - 1) hw fun x hx => by have := hb x hx; omega⟩
section
variable {n : Nat} {ring : Bool} {t c : List Int} {m : Int} (hH : HouseOK n ring t c m)
include hH
theorem taken_both (p : Int) : Ev (fun k => spec_l12Taken.f k n ring t c m p) (decide (p ∈ t)) := by
 have hn := hH.1.1
 have hl := row_len _ ring _ hH.1
 have hin := far_in hH.1
 unfold spec_l12Taken.f
 rw [show wrap64 ((n : Int) - 1) = n - 1 from wrap_id (by omega) (by omega)]
 by_cases hp : 0 ≤ p ∧ p ≤ (n : Int) - 1
 ·exact Ev.have (spec_l1In_eq p 0 _) (Ev.pos (decide_eq_true hp) (Ev.bind (spec_l2Is_ev n ring t p (by omega)) (Ev.now _)))
 ·have : p ∉ t := fun e => by have := hin p e; omega
  rw [decide_eq_false this]
  exact Ev.have (spec_l1In_eq p 0 _) (Ev.neg (by simpa using hp) (Ev.now _))
theorem seat_in {p : Int} (h0 : 0 ≤ p) (h1 : p < n) (hp : p ∉ t) : RowOK n ring (putL t p) ∧ (c ++ [p]).length = (putL t p).length ∧ ∀ x, x ∈ c ++ [p] ↔ x ∈ putL t p := by
 have hP := perm_taken hH
 have hw := row_pairwise hH.1
 have hin := far_in hH.1
 have hmem : ∀ x, x ∈ c ++ [p] ↔ x ∈ putL t p := fun x => by
  rw [mem_put t p x hp, List.mem_append, hP.mem_iff, List.mem_singleton]
  exact Or.comm
 have hR' : RowOK n ring (putL t p) := row_mk hH.1 (put_pairwise t p hw) fun x hx => by
  rcases (mem_put t p x hp).1 hx with e | e
  ·omega
  ·exact hin x e
 refine ⟨hR', ?_, hmem⟩
 have hN : (c ++ [p]).Nodup := List.nodup_append.2 ⟨hP.nodup_iff.2 (rising_nodup t _ _ hH.1.2.2), by simp, fun a ha b hb e => hp (by rw [List.mem_singleton] at hb; subst hb; subst e; exact hP.mem_iff.1 ha)⟩
 have h1 := nodup_le _ (putL t p) hN (fun x hx => (hmem x).1 hx)
 have h2 := nodup_le _ (c ++ [p]) (rising_nodup _ _ _ hR'.2.2) (fun x hx => (hmem x).2 hx)
 omega
theorem without_row (p : Int) (hp : p ∈ t) : RowOK n ring (t.filter fun x => !decide (x = p)) ∧ (t.filter fun x => !decide (x = p)).length + 1 = t.length := by
 have hw := row_pairwise hH.1
 have hin := far_in hH.1
 have hN := rising_nodup t _ _ hH.1.2.2
 refine ⟨row_mk hH.1 (hw.filter _) fun x hx => hin x (List.mem_filter.1 hx).1, ?_⟩
 have e1 := nodup_le (t.filter fun x => !decide (x = p)) (t.erase p) (hN.filter _) fun x hx => by
  obtain ⟨h1, h2⟩ := List.mem_filter.1 hx
  exact (List.mem_erase_of_ne (by simpa using h2)).2 h1
 have e2 := nodup_le (t.erase p) (t.filter fun x => !decide (x = p)) (hN.erase p) fun x hx => by
  have := (List.Nodup.mem_erase_iff hN).1 hx
  exact List.mem_filter.2 ⟨this.2, by simpa using this.1⟩
 have := List.length_erase_of_mem hp
 have := List.length_pos_of_mem hp
 omega
end

section
variable {n : Nat} {ring : Bool} {t c : List Int} {m : Int} (hH : HouseOK n ring t c m)
include hH
theorem spec_free12_ev (p : Int) : Ev (fun k => spec_l12Free.f k n ring t c m p) (decide ((0 ≤ p ∧ p < n) ∧ p ∉ t)) := by
 have hn := hH.1.1
 have hl := row_len _ ring _ hH.1
 unfold spec_l12Free.f
 rw [show wrap64 ((n : Int) - 1) = n - 1 from wrap_id (by omega) (by omega)]
 by_cases hp : 0 ≤ p ∧ p ≤ (n : Int) - 1
 ·refine Ev.have (spec_l1In_eq p 0 _) (Ev.pos (decide_eq_true hp) (Ev.bind (spec_l2Is_ev n ring t p (by omega)) (Ev.same (Ev.now _) ?_)))
  have hp2 : 0 ≤ p ∧ p < (n : Int) := by omega
  by_cases hx : p ∈ t <;> simp [hx, hp2]
 ·refine Ev.have (spec_l1In_eq p 0 _) (Ev.neg (by simpa using hp) (Ev.same (Ev.now _) ?_))
  have hp2 : ¬ (0 ≤ p ∧ p < (n : Int)) := by omega
  simp [hp2]
theorem spec_step (hs : t.length + c.length ≤ 1048576) (kind A B : Int) :
  Ev (fun k => spec_l12May.f k n ring t c m kind A B) false ∨
  (∃ t' c', Ev (fun k => spec_l12May.f k n ring t c m kind A B) true ∧ Ev (fun k => spec_l12Make.f k n ring t c m kind A B) (n, ring, t', c', m) ∧ RowOK n ring t' ∧ c'.length = t'.length ∧ ∀ x, x ∈ c' ↔ x ∈ t') := by
 have hP := perm_taken hH
 have hR := hH.1
 have hn := hH.1.1
 have hl := row_len _ ring _ hH.1
 have hcl := hP.length_eq
 have hin := far_in hR
 have hw := row_pairwise hR
 have hcN : c.Nodup := hP.nodup_iff.2 (rising_nodup t _ _ hR.2.2)
 have own : spec_l12Own.f n ring t c m = some ((n : Int), ring, t, c, m) := by
  unfold spec_l12Own.f
  rw [spec_l1Own_eq t (by omega), Option.bind_some, spec_l1Own_eq c (by omega), Option.bind_some]
 have sit : ∀ p : Int, 0 ≤ p → p < n → p ∉ t → Ev (fun k => spec_l12Sit.f k n ring t c m p) ((n : Int), ring, putL t p, c ++ [p], m) := by
  intro p h0 h1 hp
  unfold spec_l12Sit.f
  refine Ev.bind (Ev.bound t.length fun k hk => spec_l2With_eq n ring t p (by omega) (rising_of t hw) hp k hk) (Ev.have (spec_l1Own_eq c (by omega)) (Ev.pos (by omega) (Ev.now _)))
 by_cases k1 : kind = 1
 ·subst k1
  by_cases g : t.length < n ∧ A = 0 ∧ B = 0
  ·obtain ⟨g, rfl, rfl⟩ := g
   obtain ⟨q, hq, e, hqt, hL⟩ := next_free hR g
   have hs := seat_in hH (p := (q : Int)) (by omega) (by omega) hqt
   refine .inr ⟨putL t q, c ++ [(q : Int)], ?_, ?_, hs.1, hs.2.1, hs.2.2⟩
   ·unfold spec_l12May.f
    exact Ev.pos rfl (Ev.pos (by omega) (Ev.pos rfl (Ev.now _)))
   ·unfold spec_l12Make.f
    refine Ev.have own (Ev.pos rfl (Ev.bind (spec_polite_ev hR) (Ev.pos (by omega) ?_)))
    rw [e]
    exact Ev.bind (sit q (by omega) (by omega) hqt) (Ev.now _)
  ·refine .inl ?_
   unfold spec_l12May.f
   refine Ev.pos rfl ?_
   by_cases g1 : t.length < n
   ·refine Ev.pos (by omega) ?_
    by_cases a0 : A = 0
    ·exact Ev.pos a0 (Ev.same (Ev.now _) (by simpa using fun e => g ⟨g1, a0, e⟩))
    ·exact Ev.neg a0 (Ev.now _)
   ·exact Ev.neg (by omega) (Ev.now _)
 by_cases k2 : kind = 2
 ·subst k2
  have f2 := spec_free12_ev hH A
  by_cases hA : ((0 ≤ A ∧ A < n) ∧ A ∉ t) ∧ B = 0
  ·obtain ⟨⟨⟨h0, h1⟩, hp⟩, rfl⟩ := hA
   rw [decide_eq_true (show (0 ≤ A ∧ A < (n : Int)) ∧ A ∉ t from ⟨⟨h0, h1⟩, hp⟩)] at f2
   have hs := seat_in hH h0 h1 hp
   refine .inr ⟨putL t A, c ++ [A], ?_, ?_, hs.1, hs.2.1, hs.2.2⟩
   ·unfold spec_l12May.f
    exact Ev.neg (by omega) (Ev.pos rfl (Ev.bind f2 (Ev.pos rfl (Ev.now _))))
   ·unfold spec_l12Make.f
    exact Ev.have own (Ev.neg (by omega) (Ev.pos rfl (Ev.bind (sit A h0 h1 hp) (Ev.now _))))
  ·refine .inl ?_
   unfold spec_l12May.f
   refine Ev.neg (by omega) (Ev.pos rfl (Ev.bind f2 ?_))
   by_cases hb : (0 ≤ A ∧ A < (n : Int)) ∧ A ∉ t
   ·exact Ev.pos (decide_eq_true hb) (Ev.same (Ev.now _) (by simpa using fun e => hA ⟨hb, e⟩))
   ·exact Ev.neg (by rw [decide_eq_true_eq]; exact hb) (Ev.now _)
 by_cases k3 : kind = 3
 ·subst k3
  have tk := taken_both hH A
  by_cases hxt : A ∈ t ∧ B = 0
  ·obtain ⟨hxt, rfl⟩ := hxt
   rw [decide_eq_true hxt] at tk
   obtain ⟨p, hp, hx, h2⟩ := first_at A c (hP.mem_iff.2 hxt)
   have h3 := spec_place_ev c (by omega) A p hp hx h2
   have wp : wrap64 ((p : Int) + 1) = ((p + 1 : Nat) : Int) := wrap_one (n := c.length) hp (by omega)
   have wr := without_row hH A hxt
   refine .inr ⟨t.filter fun x => !decide (x = A), c.eraseIdx p, ?_, ?_, wr.1, ?_, ?_⟩
   ·unfold spec_l12May.f
    exact Ev.neg (by omega) (Ev.neg (by omega) (Ev.pos rfl (Ev.bind tk (Ev.pos rfl (Ev.now _)))))
   ·unfold spec_l12Make.f
    refine Ev.have own (Ev.neg (by omega) (Ev.neg (by omega) (Ev.pos rfl (Ev.bind h3 (Ev.bind (Ev.bound t.length fun k hk => spec_without_eq n ring t A (by omega) k hk) ?_)))))
    dsimp only
    rw [wp]
    exact Ev.pos (by omega) (Ev.pos (by omega) (Ev.pos (by omega) (Ev.pos (by omega) (Ev.now _))))
   ·rw [List.length_eraseIdx_of_lt hp]; omega
   ·intro x
    rw [List.mem_filter, ← hP.mem_iff]
    rw [List.mem_eraseIdx_iff_getElem?]
    have hh := List.pairwise_iff_getElem.1 hcN
    constructor
    ·rintro ⟨i, hi, e⟩
     obtain ⟨h1, e⟩ := List.getElem?_eq_some_iff.1 e
     refine ⟨e ▸ List.getElem_mem h1, ?_⟩
     have : x ≠ A := fun e2 => by
      rcases Nat.lt_trichotomy p i with g | g | g
      ·exact absurd (by rw [hx, ← e2, e]) (hh p i hp h1 g)
      ·exact hi g.symm
      ·exact absurd (by rw [hx, ← e2, e]) (hh i p h1 hp g)
     simpa using this
    ·rintro ⟨e, e2⟩
     obtain ⟨i, hi, rfl⟩ := List.getElem_of_mem e
     refine ⟨i, ?_, List.getElem?_eq_getElem hi⟩
     rintro rfl
     simp [hx] at e2
  ·refine .inl ?_
   unfold spec_l12May.f
   refine Ev.neg (by omega) (Ev.neg (by omega) (Ev.pos rfl (Ev.bind tk ?_)))
   by_cases h : A ∈ t
   ·exact Ev.pos (decide_eq_true h) (Ev.same (Ev.now _) (by simpa using fun e => hxt ⟨h, e⟩))
   ·exact Ev.neg (by rw [decide_eq_true_eq]; exact h) (Ev.now _)
 by_cases k4 : kind = 4
 ·subst k4
  have tk := taken_both hH A
  have f2 := spec_free12_ev hH B
  by_cases hxt : A ∈ t
  ·rw [decide_eq_true hxt] at tk
   by_cases hb : (0 ≤ B ∧ B < (n : Int)) ∧ B ∉ t
   ·rw [decide_eq_true hb] at f2
    obtain ⟨⟨h0, hB1⟩, hBt⟩ := hb
    obtain ⟨p, hp, hx, h2⟩ := first_at A c (hP.mem_iff.2 hxt)
    have h3 := spec_place_ev c (by omega) A p hp hx h2
    have wr := without_row hH A hxt
    have hw2 := row_pairwise wr.1
    have hBf : B ∉ t.filter fun x => !decide (x = A) := fun e => hBt (List.mem_filter.1 e).1
    have hAB : B ≠ A := fun e => hBt (e ▸ hxt)
    have hmem : ∀ x, x ∈ c.set p B ↔ x ∈ putL (t.filter fun x => !decide (x = A)) B := fun x => by
     rw [mem_put _ B x hBf, List.mem_filter, ← hP.mem_iff]
     constructor
     ·intro e
      obtain ⟨j, hj, e⟩ := List.getElem_of_mem e
      rw [List.getElem_set] at e
      split at e
      ·exact .inl e.symm
      ·rename_i hpj
       rw [List.length_set] at hj
       refine .inr ⟨e ▸ List.getElem_mem hj, ?_⟩
       have : x ≠ A := fun e2 => hpj (by
        have hh := List.pairwise_iff_getElem.1 hcN
        rcases Nat.lt_trichotomy p j with g | g | g
        ·exact absurd (by rw [hx, ← e2, e]) (hh p j hp hj g)
        ·exact g
        ·exact absurd (by rw [hx, ← e2, e]) (hh j p hj hp g))
       simpa using this
     ·rintro (e | ⟨e, e2⟩)
      ·rw [e]
       exact List.mem_iff_getElem.2 ⟨p, by simpa using hp, by simp⟩
      ·obtain ⟨j, hj, rfl⟩ := List.getElem_of_mem e
       refine List.mem_iff_getElem.2 ⟨j, by simpa using hj, ?_⟩
       rw [List.getElem_set, if_neg]
       rintro rfl
       simp [hx] at e2
    have hR' : RowOK n ring (putL (t.filter fun x => !decide (x = A)) B) := row_mk hR (put_pairwise _ B hw2) fun x hx => by
     rcases (mem_put _ B x hBf).1 hx with e | e
     ·omega
     ·exact hin x (List.mem_filter.1 e).1
    have hlen : (c.set p B).length = (putL (t.filter fun x => !decide (x = A)) B).length := by
     have hN1 := rising_nodup _ _ _ hR'.2.2
     have e1 := nodup_le _ (c.set p B) hN1 fun x hx => (hmem x).2 hx
     have hNB : (B :: t.filter fun x => !decide (x = A)).Nodup := List.nodup_cons.2 ⟨hBf, (rising_nodup t _ _ hR.2.2).filter _⟩
     have e2 := nodup_le _ (putL (t.filter fun x => !decide (x = A)) B) hNB fun x hx => (mem_put _ B x hBf).2 (by simpa using hx)
     rw [List.length_set] at e1 ⊢
     simp only [List.length_cons] at e2
     omega
    refine .inr ⟨_, c.set p B, ?_, ?_, hR', hlen, hmem⟩
    ·unfold spec_l12May.f
     exact Ev.neg (by omega) (Ev.neg (by omega) (Ev.neg (by omega) (Ev.pos rfl (Ev.bind tk (Ev.pos rfl (Ev.bind f2 (Ev.now _)))))))
    ·unfold spec_l12Make.f
     refine Ev.have own (Ev.neg (by omega) (Ev.neg (by omega) (Ev.neg (by omega) (Ev.pos rfl (Ev.bind (Ev.bound t.length fun k hk => spec_without_eq n ring t A (by omega) k hk) (Ev.bind (Ev.bound t.length fun k hk => spec_l2With_eq n ring _ B (by omega) (rising_of _ hw2) hBf k (by omega)) (Ev.bind h3 ?_)))))))
     dsimp only
     exact Ev.pos (by omega) (Ev.pos (by omega) (Ev.now _))
   ·refine .inl ?_
    rw [decide_eq_false hb] at f2
    unfold spec_l12May.f
    exact Ev.neg (by omega) (Ev.neg (by omega) (Ev.neg (by omega) (Ev.pos rfl (Ev.bind tk (Ev.pos rfl (Ev.bind f2 (Ev.now _)))))))
  ·refine .inl ?_
   rw [decide_eq_false hxt] at tk
   unfold spec_l12May.f
   exact Ev.neg (by omega) (Ev.neg (by omega) (Ev.neg (by omega) (Ev.pos rfl (Ev.bind tk (Ev.neg Bool.false_ne_true (Ev.now _))))))
 by_cases k5 : kind = 5
 ·subst k5
  by_cases hA : A = 0 ∧ B = 0
  ·obtain ⟨rfl, rfl⟩ := hA
   refine .inr ⟨[], [], ?_, ?_, row_mk hR (by simp) (by simp), rfl, by simp⟩
   ·unfold spec_l12May.f
    exact Ev.neg (by omega) (Ev.neg (by omega) (Ev.neg (by omega) (Ev.neg (by omega) (Ev.pos rfl (Ev.pos rfl (Ev.now _))))))
   ·unfold spec_l12Make.f
    exact Ev.have own (Ev.neg (by omega) (Ev.neg (by omega) (Ev.neg (by omega) (Ev.neg (by omega) (Ev.pos rfl (Ev.now _))))))
  ·refine .inl ?_
   unfold spec_l12May.f
   refine Ev.neg (by omega) (Ev.neg (by omega) (Ev.neg (by omega) (Ev.neg (by omega) (Ev.pos rfl ?_))))
   by_cases a0 : A = 0
   ·exact Ev.pos a0 (Ev.same (Ev.now _) (by simpa using fun e => hA ⟨a0, e⟩))
   ·exact Ev.neg a0 (Ev.now _)
 ·refine .inl ?_
  unfold spec_l12May.f
  exact Ev.neg k1 (Ev.neg k2 (Ev.neg k3 (Ev.neg k4 (Ev.neg k5 (Ev.now _)))))
end

open Classical in
theorem l12Do_ev {n : Nat} {ring : Bool} {t c : List Int} {m : Int} (hH : HouseOK n ring t c m) (kind A B : Int) : ∃ (s' : Int) (r' : Bool) (t' c' : List Int) (m' : Int) (b : Bool), Ev (fun k => spec_l12Do.f k n ring t c m kind A B) (s', r', t', c', m', b) ∧ (b = true → s' = n ∧ r' = ring ∧ HouseOK n ring t' c' m') := by
 have hl := row_len _ ring _ hH.1
 have hcl := (perm_taken hH).length_eq
 have hm := hH.2.2
 rcases spec_step hH (by omega) kind A B with e1 | ⟨t', c', e1, e2, hR', hl', hm'⟩
 ·refine ⟨0, false, [], [], 0, false, ?_, fun e => absurd e (by simp)⟩
  unfold spec_l12Do.f
  exact Ev.bind e1 (Ev.neg (by simp) (Ev.now _))
 ·have hl2 := row_len _ ring _ hR'
  have own : spec_l12Own.f n ring t' c' m = some ((n : Int), ring, t', c', m) := by
   unfold spec_l12Own.f
   rw [spec_l1Own_eq t' (by omega), Option.bind_some, spec_l1Own_eq c' (by omega), Option.bind_some]
  have g3 := spec_good_eq n ring t' c' (m + 1) (by omega) (by omega)
  have wm : wrap64 (m + 1) = m + 1 := wrap_id (by omega) (by omega)
  by_cases last : m = 1000
  ·have : ¬ HouseOK n ring t' c' (m + 1) := fun hh => by have := hh.2.2.2; omega
   rw [decide_eq_false this] at g3
   refine ⟨0, false, [], [], 0, false, ?_, fun e => absurd e (by simp)⟩
   unfold spec_l12Do.f
   refine Ev.bind e1 (Ev.pos rfl (Ev.bind e2 (Ev.have own ?_)))
   dsimp only
   rw [wm]
   exact Ev.bind g3 (Ev.neg (by simp) (Ev.now _))
  ·have hH' : HouseOK n ring t' c' (m + 1) := house_mk hR' hl' hm' (by omega) (by omega)
   rw [decide_eq_true hH'] at g3
   refine ⟨n, ring, t', c', m + 1, true, ?_, fun _ => ⟨rfl, rfl, hH'⟩⟩
   unfold spec_l12Do.f
   refine Ev.bind e1 (Ev.pos rfl (Ev.bind e2 (Ev.have own ?_)))
   dsimp only
   rw [wm]
   exact Ev.bind g3 (Ev.pos rfl (Ev.now _))

section
variable (code : List Int) (hb : ∀ x ∈ code, 0 ≤ x ∧ x ≤ 255)
include hb
theorem work_j2 (a : Nat) (ha : a ≤ 700) (seed x y z : Int) : ∃ (K A B s : Int) (a' : Nat), Ev (fun k => spec_l1Cur_work12.j2 k code a seed x y z) (K, A, B, (a' : Int), s) ∧ a' ≤ a + 2 := by
 obtain ⟨r, s, e, _⟩ := pick_ok code hb a (by omega) seed 32 (by omega) (by omega)
 obtain ⟨v1, s1, e1⟩ := among_ok code hb (a + 1) (by omega) s [-1, 24, 1, 4611686018427387904] (by simp) (by simp)
 obtain ⟨v2, s2, e2⟩ := among_ok code hb (a + 1) (by omega) s [-1, 24, 1] (by simp) (by simp)
 obtain ⟨v3, s3, e3⟩ := among_ok code hb (a + 1) (by omega) s [0, 6, -1] (by simp) (by simp)
 by_cases c0 : r = 0
 ·refine ⟨x, v1, z, s1, a + 2, Ev.succ ?_, by omega⟩
  simp only [spec_l1Cur_work12.j2]
  exact Ev.have e (Ev.pos c0 (Ev.have e1 (Ev.now _)))
 by_cases c1 : r = 1
 ·refine ⟨x, y, v2, s2, a + 2, Ev.succ ?_, by omega⟩
  simp only [spec_l1Cur_work12.j2]
  exact Ev.have e (Ev.neg c0 (Ev.pos c1 (Ev.have e2 (Ev.now _))))
 by_cases c2 : r = 2
 ·refine ⟨v3, y, z, s3, a + 2, Ev.succ ?_, by omega⟩
  simp only [spec_l1Cur_work12.j2]
  exact Ev.have e (Ev.neg c0 (Ev.neg c1 (Ev.pos c2 (Ev.have e3 (Ev.now _)))))
 ·refine ⟨x, y, z, s, a + 1, Ev.succ ?_, by omega⟩
  simp only [spec_l1Cur_work12.j2]
  exact Ev.have e (Ev.neg c0 (Ev.neg c1 (Ev.neg c2 (Ev.now _))))
theorem work_j1 (a : Nat) (ha : a ≤ 690) (b : Bool) (seed n : Int) (ring : Bool) (t c : List Int) (m x y z : Int) (ht : t.length ≤ 1048576) (hc : c.length ≤ 200) (hbc : b = true → 0 < c.length) : ∃ (K A B s : Int) (a' : Nat), Ev (fun k => spec_l1Cur_work12.j1 k b code a seed n ring t c m x y z) (K, A, B, (a' : Int), s) ∧ a' ≤ a + 6 := by
 cases b with
 | true =>
  have hpos := hbc rfl
  obtain ⟨r, s, a1, e, h1, h2, h3⟩ := pick_any code hb a (by omega) seed (c.length : Int) (by omega)
  by_cases c4 : x = 4
  ·obtain ⟨v, s2, a2, e2, h4⟩ := freeSeat_ev code hb a1 (by omega) s n ring t ht
   obtain ⟨K, A, B, s3, a3, e3, h5⟩ := work_j2 code hb a2 (by omega) s2 x (rd c r) v
   refine ⟨K, A, B, s3, a3, Ev.succ ?_, by omega⟩
   simp only [spec_l1Cur_work12.j1]
   exact Ev.pos (by first | rfl | exact True.intro) (Ev.have e (Ev.pos h2 (Ev.pos (h3 (by omega)) (Ev.pos c4 (Ev.bind e2 e3)))))
  ·obtain ⟨K, A, B, s3, a3, e3, h5⟩ := work_j2 code hb a1 (by omega) s x (rd c r) z
   refine ⟨K, A, B, s3, a3, Ev.succ ?_, by omega⟩
   simp only [spec_l1Cur_work12.j1]
   exact Ev.pos (by first | rfl | exact True.intro) (Ev.have e (Ev.pos h2 (Ev.pos (h3 (by omega)) (Ev.neg c4 e3))))
 | false =>
  by_cases c4 : x = 4
  ·obtain ⟨v, s2, a2, e2, h4⟩ := freeSeat_ev code hb a (by omega) seed n ring t ht
   obtain ⟨K, A, B, s3, a3, e3, h5⟩ := work_j2 code hb a2 (by omega) s2 x y v
   refine ⟨K, A, B, s3, a3, Ev.succ ?_, by omega⟩
   simp only [spec_l1Cur_work12.j1]
   exact Ev.neg (by simp) (Ev.pos c4 (Ev.bind e2 e3))
  ·obtain ⟨K, A, B, s3, a3, e3, h5⟩ := work_j2 code hb a (by omega) seed x y z
   refine ⟨K, A, B, s3, a3, Ev.succ ?_, by omega⟩
   simp only [spec_l1Cur_work12.j1]
   exact Ev.neg (by simp) (Ev.neg c4 e3)
theorem work_j0 (a : Nat) (ha : a ≤ 680) (w : Int) (b : Bool) (seed n : Int) (ring : Bool) (t c : List Int) (m x y z : Int) (ht : t.length ≤ 1048576) (hc : c.length ≤ 200) : ∃ (K A B s : Int) (a' : Nat), Ev (fun k => spec_l1Cur_work12.j0 k w b code a seed n ring t c m x y z) (K, A, B, (a' : Int), s) ∧ a' ≤ a + 9 := by
 cases b with
 | true =>
  obtain ⟨r, s, a1, e, h1⟩ := seat_ok code hb a (by omega) seed n ring t
  by_cases cl : (c.length : Int) > 0
  ·obtain ⟨o, s2, e2⟩ := one_ok code hb a1 (by omega) s 8 (by omega) (by omega)
   obtain ⟨K, A, B, s3, a3, e3, h5⟩ := work_j1 code hb (a1 + 1) (by omega) (!o) s2 n ring t c m x r z ht hc (fun _ => by omega)
   refine ⟨K, A, B, s3, a3, Ev.succ ?_, by omega⟩
   simp only [spec_l1Cur_work12.j0]
   exact Ev.pos (by first | rfl | exact True.intro) (Ev.have e (Ev.pos cl (Ev.have e2 e3)))
  ·obtain ⟨K, A, B, s3, a3, e3, h5⟩ := work_j1 code hb a1 (by omega) false s n ring t c m x r z ht hc (fun h => absurd h (by simp))
   refine ⟨K, A, B, s3, a3, Ev.succ ?_, by omega⟩
   simp only [spec_l1Cur_work12.j0]
   exact Ev.pos (by first | rfl | exact True.intro) (Ev.have e (Ev.neg cl e3))
 | false =>
  by_cases c5 : w = 5
  ·obtain ⟨o, s2, e2⟩ := one_ok code hb a (by omega) seed 4 (by omega) (by omega)
   cases o with
   | true =>
    obtain ⟨K, A, B, s3, a3, e3, h5⟩ := work_j2 code hb (a + 1) (by omega) s2 x y z
    refine ⟨K, A, B, s3, a3, Ev.succ ?_, by omega⟩
    simp only [spec_l1Cur_work12.j0]
    exact Ev.neg (by simp) (Ev.pos c5 (Ev.have e2 (Ev.pos rfl e3)))
   | false =>
    obtain ⟨K, A, B, s3, a3, e3, h5⟩ := work_j2 code hb (a + 1) (by omega) s2 1 y z
    refine ⟨K, A, B, s3, a3, Ev.succ ?_, by omega⟩
    simp only [spec_l1Cur_work12.j0]
    exact Ev.neg (by simp) (Ev.pos c5 (Ev.have e2 (Ev.neg (by simp) e3)))
  ·obtain ⟨K, A, B, s3, a3, e3, h5⟩ := work_j2 code hb a (by omega) seed x y z
   refine ⟨K, A, B, s3, a3, Ev.succ ?_, by omega⟩
   simp only [spec_l1Cur_work12.j0]
   exact Ev.neg (by simp) (Ev.neg c5 e3)
theorem work_ev (a : Nat) (ha : a ≤ 650) (seed n : Int) (ring : Bool) (t c : List Int) (m : Int) (ht : t.length ≤ 1048576) (hc : c.length ≤ 200) : ∃ (K A B s : Int) (a' : Nat), Ev (fun k => spec_l1Cur_work12.f k code a seed n ring t c m) (K, A, B, (a' : Int), s) ∧ a' ≤ a + 10 := by
 obtain ⟨r, s, e⟩ := among_ok code hb a (by omega) seed [1, 1, 1, 2, 2, 3, 4, 5] (by simp) (by simp)
 unfold spec_l1Cur_work12.f
 by_cases c2 : r = 2
 ·obtain ⟨v, s2, a2, e2, h4⟩ := freeSeat_ev code hb (a + 1) (by omega) s n ring t ht
  obtain ⟨K, A, B, s3, a3, e3, h5⟩ := work_j2 code hb a2 (by omega) s2 r v 0
  exact ⟨K, A, B, s3, a3, Ev.have e (Ev.pos c2 (Ev.bind e2 e3)), by omega⟩
 by_cases c3 : r = 3
 ·obtain ⟨K, A, B, s3, a3, e3, h5⟩ := work_j0 code hb (a + 1) (by omega) r (r == 3) s n ring t c m r 0 0 ht hc
  exact ⟨K, A, B, s3, a3, Ev.have e (Ev.neg c2 (Ev.pos c3 e3)), by omega⟩
 ·obtain ⟨K, A, B, s3, a3, e3, h5⟩ := work_j0 code hb (a + 1) (by omega) r (r == 4) s n ring t c m r 0 0 ht hc
  exact ⟨K, A, B, s3, a3, Ev.have e (Ev.neg c2 (Ev.neg c3 e3)), by omega⟩
theorem house_tail (a : Nat) (ha : a ≤ 700) (b : Bool) (w : Int) (seed s : Int) (ring : Bool) (t c : List Int) (m : Int) (ht : t.length ≤ 100) (hc : c.length ≤ 100) : ∃ (s' m' : Int) (c' : List Int) (a' : Nat) (z : Int), Ev (fun k => spec_l1Cur_house.j1 k b w false code a seed s ring t c m) (s', ring, t, c', m', (a' : Int), z) ∧ c'.length ≤ 101 ∧ a' ≤ a + 2 := by
 obtain ⟨r, s1, e, _⟩ := pick_ok code hb a (by omega) seed 48 (by omega) (by omega)
 obtain ⟨v1, z1, e1⟩ := among_ok code hb (a + 1) (by omega) s1 [-1, 1000, 1001] (by simp) (by simp)
 obtain ⟨v2, z2, e2⟩ := among_ok code hb (a + 1) (by omega) s1 [0, -1, 24] (by simp) (by simp)
 obtain ⟨v3, z3, e3⟩ := among_ok code hb (a + 1) (by omega) s1 [1, 24, 25, 4611686018427387904] (by simp) (by simp)
 by_cases c0 : r = 0
 ·refine ⟨s, v1, c, a + 2, z1, Ev.succ ?_, by omega, by omega⟩
  simp only [spec_l1Cur_house.j1]
  exact Ev.neg (by simp) (Ev.have e (Ev.pos c0 (Ev.have e1 (Ev.now _))))
 by_cases c1 : r = 1
 ·refine ⟨s, m, c ++ [v2], a + 2, z2, Ev.succ ?_, by simp; omega, by omega⟩
  simp only [spec_l1Cur_house.j1]
  exact Ev.neg (by simp) (Ev.have e (Ev.neg c0 (Ev.pos c1 (Ev.have (spec_l1Own_eq c (by omega)) (Ev.have e2 (Ev.pos (by omega) (Ev.now _)))))))
 by_cases c2 : r = 2
 ·by_cases cl : (c.length : Int) > 1
  ·refine ⟨s, m, c.set 0 (rd c 1), a + 1, s1, Ev.succ ?_, by simp; omega, by omega⟩
   simp only [spec_l1Cur_house.j1]
   exact Ev.neg (by simp) (Ev.have e (Ev.neg c0 (Ev.neg c1 (Ev.pos c2 (Ev.pos cl (Ev.pos (by omega) (Ev.pos (by omega) (Ev.now _))))))))
  ·refine ⟨s, m, c, a + 1, s1, Ev.succ ?_, by omega, by omega⟩
   simp only [spec_l1Cur_house.j1]
   exact Ev.neg (by simp) (Ev.have e (Ev.neg c0 (Ev.neg c1 (Ev.pos c2 (Ev.neg cl (Ev.now _))))))
 by_cases c3 : r = 3
 ·refine ⟨v3, m, c, a + 2, z3, Ev.succ ?_, by omega, by omega⟩
  simp only [spec_l1Cur_house.j1]
  exact Ev.neg (by simp) (Ev.have e (Ev.neg c0 (Ev.neg c1 (Ev.neg c2 (Ev.pos c3 (Ev.have e3 (Ev.now _)))))))
 ·refine ⟨s, m, c, a + 1, s1, Ev.succ ?_, by omega, by omega⟩
  simp only [spec_l1Cur_house.j1]
  exact Ev.neg (by simp) (Ev.have e (Ev.neg c0 (Ev.neg c1 (Ev.neg c2 (Ev.neg c3 (Ev.now _))))))
theorem house_loop (n : Nat) (ring : Bool) : ∀ (d : Nat), d ≤ 9 → ∀ (a : Nat), a + 10 * d ≤ 600 → ∀ (seed : Int) (t c : List Int) (m : Int), HouseOK n ring t c m → ∃ (s' m' : Int) (t' c' : List Int) (a' : Nat) (z : Int), Ev (fun k => spec_l1Cur_house.l0 k true (d : Int) code a seed n ring t c m) (s', ring, t', c', m', (a' : Int), z) ∧ t'.length ≤ 100 ∧ c'.length ≤ 101 ∧ a' ≤ a + 10 * d + 2 := by
 intro d
 induction d with
 | zero =>
  intro _ a ha seed t c m hH
  have hl := row_len _ ring _ hH.1
  have hcl := (perm_taken hH).length_eq
  obtain ⟨s', m', c', a', z, e, h1, h2⟩ := house_tail code hb a (by omega) true 0 seed n ring t c m (by omega) (by omega)
  refine ⟨s', m', t, c', a', z, Ev.succ ?_, by omega, h1, by omega⟩
  simp only [spec_l1Cur_house.l0]
  exact Ev.neg (by omega) e
 | succ d ih =>
  intro hd a ha seed t c m hH
  have hl := row_len _ ring _ hH.1
  have hcl := (perm_taken hH).length_eq
  obtain ⟨K, A, B, s1, a1, e1, h1⟩ := work_ev code hb a (by omega) seed n ring t c m (by omega) (by omega)
  obtain ⟨s2, r2, t2, c2, m2, b, e2, h2⟩ := l12Do_ev hH K A B
  have wd : wrap64 (((d + 1 : Nat) : Int) - 1) = (d : Int) := by rw [wrap_id (by omega) (by omega)]; omega
  cases b with
  | true =>
   obtain ⟨rfl, rfl, hH2⟩ := h2 rfl
   obtain ⟨s', m', t', c', a', z, e, h3, h4, h5⟩ := ih (by omega) a1 (by omega) s1 t2 c2 m2 hH2
   refine ⟨s', m', t', c', a', z, Ev.succ ?_, h3, h4, by omega⟩
   simp only [spec_l1Cur_house.l0]
   refine Ev.pos (by omega) (Ev.succ ?_)
   simp only [spec_l1Cur_house.j1]
   rw [wd]
   exact Ev.pos (by first | rfl | exact True.intro) (Ev.bind e1 (Ev.bind e2 (Ev.pos rfl e)))
  | false =>
   obtain ⟨s', m', t', c', a', z, e, h3, h4, h5⟩ := ih (by omega) a1 (by omega) s1 t c m hH
   refine ⟨s', m', t', c', a', z, Ev.succ ?_, h3, h4, by omega⟩
   simp only [spec_l1Cur_house.l0]
   refine Ev.pos (by omega) (Ev.succ ?_)
   simp only [spec_l1Cur_house.j1]
   rw [wd]
   exact Ev.pos (by first | rfl | exact True.intro) (Ev.bind e1 (Ev.bind e2 (Ev.neg (by simp) e)))
open Classical in
theorem house_ev : ∃ (s' m' : Int) (r' : Bool) (t' c' : List Int) (a' : Nat) (z : Int), Ev (fun k => spec_l1Cur_house.f k code 0 0) (s', r', t', c', m', (a' : Int), z) ∧ t'.length ≤ 100 ∧ c'.length ≤ 101 ∧ a' ≤ 150 := by
 obtain ⟨n, s1, e1, hn⟩ := among_mem code hb 0 (by omega) 0 [6, 8, 5, 10, 4, 7, 3, 12] (by simp) (by simp)
 obtain ⟨ring, s2, e2⟩ := one_ok code hb (0 + 1) (by omega) s1 2 (by omega) (by omega)
 obtain ⟨p, s3, e3, p0, p1⟩ := pick_ok code hb (0 + 1 + 1) (by omega) s2 8 (by omega) (by omega)
 have hn3 : 3 ≤ n ∧ n ≤ 12 := by
  simp only [List.mem_cons, List.not_mem_nil, or_false] at hn
  omega
 have own : spec_l12Own.f n ring [] [] 0 = some (n, ring, [], [], 0) := by
  unfold spec_l12Own.f
  rw [spec_l1Own_eq [] (by simp), Option.bind_some, Option.bind_some]
 obtain ⟨n, rfl⟩ : ∃ q : Nat, n = q := ⟨n.toNat, by omega⟩
 have hH : HouseOK n ring [] [] 0 := ⟨⟨by omega, fun _ => by omega, fun i h => by simp at h⟩, ⟨rfl, by simp⟩, by omega, by omega⟩
 have g := spec_good_eq (n : Int) ring [] [] 0 (by simp) (by simp)
 rw [decide_eq_true hH] at g
 have e4 : Ev (fun k => spec_NewHouse.f k n ring) ((n : Int), ring, [], [], 0, true) := by
  unfold spec_NewHouse.f
  exact Ev.have own (Ev.bind g (Ev.pos rfl (Ev.now _)))
 obtain ⟨d, hd⟩ : ∃ d : Nat, 1 + p = d := ⟨(1 + p).toNat, by omega⟩
 obtain ⟨s', m', t', c', a', z, e, h3, h4, h5⟩ := house_loop code hb n ring d (by omega) (0 + 1 + 1 + 1) (by omega) s3 [] [] 0 hH
 refine ⟨s', m', ring, t', c', a', z, ?_, h3, h4, by omega⟩
 unfold spec_l1Cur_house.f
 refine Ev.have e1 (Ev.have e2 (Ev.bind e4 (Ev.have e3 ?_)))
 dsimp only
 rw [wrap_id (x := 1 + p) (by omega) (by omega), hd]
 exact e
end
theorem drawHouse_ev (code : List Int) (hb : ∀ x ∈ code, 0 ≤ x ∧ x ≤ 255) : ∃ (s' m' : Int) (r' : Bool) (t' c' : List Int), Ev (fun k => spec_DrawIsHouse.f k code) (s', r', t', c', m') ∧ t'.length ≤ 100 ∧ c'.length ≤ 101 := by
 obtain ⟨s', m', r', t', c', a', z, e, h1, h2, _⟩ := house_ev code hb
 refine ⟨s', m', r', t', c', ?_, h1, h2⟩
 unfold spec_DrawIsHouse.f spec_DrawIsHouse_m.f
 exact Ev.bind (Ev.bind e (Ev.now _)) (Ev.now _)

section
variable {n : Nat} {ring : Bool} (h24 : n ≤ 24)
include h24
theorem impl_near_ev (p : Nat) (hp : p < n) : Ev (fun k => impl_bench_near.f k n ring p) ((bitsN (nearB n ring p) n : Nat) : Int) := by
 have main : ∀ d i, i + d = n → Ev (fun k => impl_bench_near.l0 k p ((bitsN (nearB n ring p) i : Nat) : Int) n i n ring) ((bitsN (nearB n ring p) n : Nat) : Int) := by
  intro d
  induction d with
  | zero =>
   intro i hi
   have : i = n := by omega
   subst this
   refine Ev.succ ?_
   simp only [impl_bench_near.l0]
   exact Ev.neg (by omega) (Ev.now _)
  | succ d ih =>
   intro i hi
   have go := ih (i + 1) (by omega)
   rw [bitsN] at go
   refine Ev.succ ?_
   simp only [impl_bench_near.l0]
   refine Ev.pos (by omega) (Ev.have (impl_gap_eq n ring p i h24 hp (by omega)) ?_)
   rw [wrap_one (n := 100) (by omega) (by omega)]
   by_cases g : gapI n ring p i = 1
   ·have hP : nearB n ring p i = true := decide_eq_true g
    rw [if_pos hP] at go
    have h2 : 2 ^ i < 2 ^ 32 := Nat.pow_lt_pow_right (by omega) (by omega)
    refine Ev.pos g (Ev.pos (by omega) ?_)
    rw [shl_one _ (by omega) (by omega), Int.toNat_natCast, or_cast _ _ (bitsN_lt _ _ (by omega)) (by omega)]
    exact go
   ·have hP : ¬ nearB n ring p i = true := by unfold nearB; simpa using g
    rw [if_neg hP] at go
    exact Ev.neg g go
 exact main n 0 (by omega)
theorem spec_near_ev (t : List Int) (p : Nat) (hp : p < n) : Ev (fun k => spec_l2Near.f k n ring t p) (listN (nearB n ring p) n) := by
 have main : ∀ d i, i + d = n → Ev (fun k => spec_l2Near.l0 k p (listN (nearB n ring p) i) i n ring t) (listN (nearB n ring p) n) := by
  intro d
  induction d with
  | zero =>
   intro i hi
   have : i = n := by omega
   subst this
   refine Ev.succ ?_
   simp only [spec_l2Near.l0]
   exact Ev.neg (by omega) (Ev.now _)
  | succ d ih =>
   intro i hi
   have go := ih (i + 1) (by omega)
   have hl := listN_len (nearB n ring p) i
   rw [listN_succ] at go
   refine Ev.succ ?_
   simp only [spec_l2Near.l0]
   refine Ev.pos (by omega) (Ev.have (spec_l2Gap_eq n ring t p i h24 hp (by omega)) ?_)
   rw [wrap_one (n := 100) (by omega) (by omega)]
   by_cases g : gapI n ring p i = 1
   ·have hP : nearB n ring p i = true := decide_eq_true g
    rw [if_pos hP] at go
    exact Ev.pos g (Ev.pos (by omega) go)
   ·have hP : ¬ nearB n ring p i = true := by unfold nearB; simpa using g
    rw [if_neg hP] at go
    exact Ev.neg g go
 exact main n 0 (by omega)
end

theorem near_self (n : Nat) (ring : Bool) (p : Nat) (hn : 0 < n) : nearB n ring p p = false := by
 unfold nearB gapI
 simp
 try omega
open Classical in
noncomputable def crB (n : Nat) (ring : Bool) (c : List Int) (p : Int) : Bool := decide (∃ a b : Nat, ∃ (h : b < c.length) (g : a < b), c[a]'(by omega) = p ∧ nearB n ring p.toNat (c[b]).toNat = true)
open Classical in
theorem crB_iff (n : Nat) (ring : Bool) (c : List Int) (p : Int) : crB n ring c p = true ↔ ∃ a b : Nat, ∃ (h : b < c.length) (g : a < b), c[a]'(by omega) = p ∧ nearB n ring p.toNat (c[b]).toNat = true := by
 unfold crB
 exact decide_eq_true_iff
section
variable {n : Nat} {ring : Bool} {t c : List Int} (h2 : 2 ≤ n) (h24 : n ≤ 24) (hR : RowOK n ring t) (hp : c.Perm t) (m : Int)
include h2 h24 hR hp
omit h2 h24 in
theorem came_nodup : c.Nodup := hp.nodup_iff.2 (rising_nodup t _ _ hR.2.2)
omit h2 h24 in
theorem came_range : ∀ x ∈ c, 0 ≤ x ∧ x < n := fun x hx => by
 have := rising_mem t _ _ hR.2.2 x (hp.mem_iff.1 hx)
 omega
omit h2 h24 in
theorem came_at (i j : Nat) (hi : i < c.length) (hj : j < c.length) (e : c[i] = c[j]) : i = j := by
 have hn := List.pairwise_iff_getElem.1 (came_nodup hR hp)
 rcases Nat.lt_trichotomy i j with g | g | g
 ·exact absurd e (hn i j hi hj g)
 ·exact g
 ·exact absurd e.symm (hn j i hj hi g)
omit h2 h24 in
theorem came_place (a : Nat) (ha : a < c.length) (hc : c.length ≤ 1048576) : Ev (fun k => spec_l12Place.f k c (c[a])) (a : Int) :=
 spec_place_ev c hc _ a ha rfl fun j hj e => by have := came_at hR hp j a (by omega) ha e; omega
omit h2 h24 in
theorem crowd_near (hc : c.length ≤ 1000) (out : List Int) (i : Nat) (a : Nat) (ha : a < c.length) (r : List Int) (F : Bool) (ho : out.length ≤ 1000) (hi : i ≤ 1000)
  (hcont : Ev (fun k => spec_l12Crowded.l0 k (if F = true then out ++ [c[a]] else out) ((i + 1 : Nat) : Int) n ring t c m) r) (near : List Int) (hl : near.length ≤ 100) (d : Nat) : ∀ (j : Nat) (b : Bool), j + d = near.length →
  (b = true ∨ ∃ e : Nat, ∃ (h : e < c.length), a < e ∧ c[e] ∈ near.drop j) = (F = true) → Ev (fun k => spec_l12Crowded.l1 k out (i : Int) (c[a]) near b (j : Int) n ring t c m) r := by
 have hlen := hp.length_eq
 have ht := row_len _ ring t hR
 induction d with
 | zero =>
  intro j b hj hF
  rw [List.drop_eq_nil_of_le (by omega)] at hF
  have hF : (b = true) = (F = true) := by rw [← hF]; simp
  refine Ev.succ ?_
  simp only [spec_l12Crowded.l1]
  refine Ev.neg (by omega) ?_
  rw [wrap_one (n := 2000) (by omega) (by omega)]
  by_cases hb : b = true
  ·rw [if_pos (hF ▸ hb)] at hcont
   exact Ev.pos hb (Ev.pos (by omega) hcont)
  ·rw [if_neg (hF ▸ hb)] at hcont
   exact Ev.neg hb hcont
 | succ d ih =>
  intro j b hj hF
  rw [List.drop_eq_getElem_cons (show j < near.length by omega)] at hF
  refine Ev.succ ?_
  simp only [spec_l12Crowded.l1]
  rw [rd_get near j (by omega), wrap_one (n := 2000) (by omega) (by omega)]
  refine Ev.pos (by omega) (Ev.pos (by omega) (Ev.bind (spec_l2Is_ev _ ring t _ (by omega)) ?_))
  have step : ∀ b' : Bool, (b' = true ↔ (b = true ∨ ∃ e : Nat, ∃ (h : e < c.length), a < e ∧ c[e] = near[j]'(by omega))) → Ev (fun k => spec_l12Crowded.l1 k out (i : Int) (c[a]) near b' ((j + 1 : Nat) : Int) n ring t c m) r := fun b' hb' => by
   refine ih (j + 1) b' (by omega) ?_
   rw [← hF]
   refine propext ⟨fun z => ?_, fun z => ?_⟩
   ·rcases z with z | ⟨e, h, g, z⟩
    ·rcases hb'.1 z with z | ⟨e, h, g, z⟩
     ·exact .inl z
     ·exact .inr ⟨e, h, g, z ▸ List.mem_cons_self⟩
    ·exact .inr ⟨e, h, g, List.mem_cons_of_mem _ z⟩
   ·rcases z with z | ⟨e, h, g, z⟩
    ·exact .inl (hb'.2 (.inl z))
    ·rcases List.mem_cons.1 z with y | y
     ·exact .inl (hb'.2 (.inr ⟨e, h, g, y⟩))
     ·exact .inr ⟨e, h, g, y⟩
  by_cases hin : near[j]'(by omega) ∈ t
  ·obtain ⟨e, he, e1⟩ := List.getElem_of_mem (hp.mem_iff.2 hin)
   have p1 := came_place hR hp e he (by omega)
   rw [e1] at p1
   refine Ev.pos (decide_eq_true hin) (Ev.bind p1 (Ev.bind (came_place hR hp a ha (by omega)) ?_))
   by_cases g : a < e
   ·exact Ev.pos (by omega) (step true ⟨fun _ => .inr ⟨e, he, g, e1⟩, fun _ => rfl⟩)
   ·refine Ev.neg (by omega) (step b ⟨.inl, fun z => ?_⟩)
    rcases z with z | ⟨e', he', g', z⟩
    ·exact z
    ·have := came_at hR hp e e' he he' (e1.trans z.symm)
     omega
  ·refine Ev.neg (by rw [decide_eq_true_eq]; exact hin) (step b ⟨.inl, fun z => ?_⟩)
   rcases z with z | ⟨e', he', g', z⟩
   ·exact z
   ·exact absurd (hp.mem_iff.1 (z ▸ List.getElem_mem he')) hin
theorem spec_crowded_ev : Ev (fun k => spec_l12Crowded.f k n ring t c m) (t.filter (crB n ring c)) := by
 have hlen := hp.length_eq
 have ht := row_len _ ring t hR
 have main : ∀ d i : Nat, i + d = t.length → ∀ out : List Int, out = (t.take i).filter (crB n ring c) → Ev (fun k => spec_l12Crowded.l0 k out (i : Int) n ring t c m) (t.filter (crB n ring c)) := by
  intro d
  induction d with
  | zero =>
   intro i hi out ho
   refine Ev.succ ?_
   simp only [spec_l12Crowded.l0]
   rw [ho, List.take_of_length_le (by omega)]
   exact Ev.neg (by omega) (Ev.now _)
  | succ d ih =>
   intro i hi out ho
   have hti := rising_mem t _ _ hR.2.2 (t[i]'(by omega)) (List.getElem_mem _)
   obtain ⟨a, ha, ea⟩ := List.getElem_of_mem (hp.mem_iff.2 (List.getElem_mem (show i < t.length by omega)))
   obtain ⟨p, hpn⟩ : ∃ p : Nat, t[i]'(by omega) = p := ⟨(t[i]'(by omega)).toNat, by omega⟩
   have hpl : p < n := by omega
   have hol : out.length ≤ 1000 := by rw [ho]; exact Nat.le_trans (List.length_filter_le _ _) (by simp; omega)
   refine Ev.succ ?_
   simp only [spec_l12Crowded.l0]
   rw [rd_get t i (by omega), hpn]
   refine Ev.pos (by omega) (Ev.pos (by omega) (Ev.bind (spec_near_ev h24 t p hpl) ?_))
   have hnl := listN_len (nearB n ring p) n
   rw [← hpn, ← ea]
   refine crowd_near hR hp m (by omega) out i a ha _ (crB n ring c (c[a])) hol (by omega) ?_ _ (by omega) (listN (nearB n ring p) n).length 0 false (by omega) ?_
   ·refine ih (i + 1) (by omega) _ ?_
    rw [List.take_add_one, List.getElem?_eq_getElem (by omega), Option.toList_some, List.filter_append, ← ho, ea]
    by_cases z : crB n ring c (t[i]'(by omega)) = true
    ·rw [if_pos z, List.filter_cons_of_pos z, List.filter_nil]
    ·rw [if_neg z, List.filter_cons_of_neg z, List.filter_nil, List.append_nil]
   ·rw [List.drop_zero]
    rw [crB_iff]
    refine propext ⟨fun z => ?_, fun ⟨a', b, hb, g, z1, z2⟩ => ?_⟩
    ·rcases z with z | ⟨e, he, g, z⟩
     ·cases z
     ·obtain ⟨q, hq, hq2, hq3⟩ := (mem_listN _ _ _).1 z
      refine ⟨a, e, he, g, rfl, ?_⟩
      rw [hq3, ea, hpn, Int.toNat_natCast, Int.toNat_natCast]
      exact hq2
    ·have e1 := came_at hR hp a' a (by omega) ha z1
     subst e1
     have hr := came_range hR hp _ (List.getElem_mem hb)
     refine .inr ⟨b, hb, g, (mem_listN _ _ _).2 ⟨(c[b]).toNat, by omega, ?_, by omega⟩⟩
     rw [ea, hpn, Int.toNat_natCast] at z2
     exact z2
 exact main t.length 0 (by omega) [] (by simp)
theorem impl_crowded_ev : Ev (fun k => impl_CrowdedGuests.l0 k 0 c (c.length : Int) 0 n ring t c m) (t.filter (crB n ring c), true) := by
 have hlen := hp.length_eq
 have ht := row_len _ ring t hR
 have hcr := came_range hR hp
 have htr : ∀ x ∈ t, 0 ≤ x ∧ x < 32 := fun x hx => by have := hcr x (hp.mem_iff.2 hx); omega
 have hfl : ∀ x ∈ t.filter (crB n ring c), 0 ≤ x ∧ x < 32 := fun x hx => htr x (List.mem_filter.1 hx).1
 have main : ∀ d i : Nat, i + d = c.length → ∀ S : Nat, S < 4294967296 → (∀ q, S.testBit q = decide (∃ j : Nat, ∃ h : j < c.length, j < i ∧ (c[j]).toNat = q ∧ crB n ring c (c[j]) = true)) → Ev (fun k => impl_CrowdedGuests.l0 k (S : Int) c (c.length : Int) (i : Int) n ring t c m) (t.filter (crB n ring c), true) := by
  intro d
  induction d with
  | zero =>
   intro i hi S hS hb
   refine Ev.succ ?_
   simp only [impl_CrowdedGuests.l0]
   have e : S = setN (t.filter (crB n ring c)) := by
    refine Nat.eq_of_testBit_eq fun q => ?_
    rw [hb, testBit_setN]
    refine decide_eq_decide.2 ?_
    constructor
    ·rintro ⟨j, h, _, e1, e2⟩
     exact ⟨c[j], List.mem_filter.2 ⟨hp.mem_iff.1 (List.getElem_mem h), e2⟩, e1⟩
    ·rintro ⟨x, hx, e1⟩
     obtain ⟨hx1, hx2⟩ := List.mem_filter.1 hx
     obtain ⟨j, hj, e2⟩ := List.getElem_of_mem (hp.mem_iff.2 hx1)
     exact ⟨j, hj, by omega, by rw [e2]; exact e1, by rw [e2]; exact hx2⟩
   rw [e]
   refine Ev.neg (by omega) (Ev.bind (set_list_ev _ ?_ hfl ?_) (Ev.now _))
   ·exact List.Pairwise.filter _ (List.pairwise_iff_getElem.2 fun i j hi hj hij => rising_lt t _ _ hR.2.2 i j hij hj)
   ·exact Nat.le_trans (List.length_filter_le _ _) (by omega)
  | succ d ih =>
   intro i hi S hS hb
   have hci := hcr _ (List.getElem_mem (show i < c.length by omega))
   obtain ⟨p, hpn⟩ : ∃ p : Nat, c[i]'(by omega) = p := ⟨(c[i]'(by omega)).toNat, by omega⟩
   have hpl : p < n := by omega
   have hnb := bitsN_lt (nearB n ring p) n (by omega)
   have hdr : ∀ x ∈ c.drop i, 0 ≤ x ∧ x < 32 := fun x hx => by have := hcr x (List.mem_of_mem_drop hx); omega
   have hsl := setN_u32 (c.drop i) fun x hx => (hdr x hx).2
   have so : Ev (fun k => impl_setOf.f k (c.drop i)) ((setN (c.drop i) : Nat) : Int) := Ev.bound (c.drop i).length fun k hk => impl_setOf_eq _ (by simp; omega) hdr k hk
   have key : crB n ring c (c[i]'(by omega)) = true ↔ bitsN (nearB n ring p) n &&& setN (c.drop i) ≠ 0 := by
    have hz : (bitsN (nearB n ring p) n &&& setN (c.drop i) = 0) ↔ ∀ q, ¬ ((bitsN (nearB n ring p) n).testBit q = true ∧ (setN (c.drop i)).testBit q = true) := by
     constructor
     ·intro z q ⟨h1, h2⟩
      have := congrArg (fun x => x.testBit q) z
      simp [Nat.testBit_and, h1, h2] at this
     ·intro z
      refine Nat.eq_of_testBit_eq fun q => ?_
      rw [Nat.testBit_and, Nat.zero_testBit]
      have := z q
      cases h1 : (bitsN (nearB n ring p) n).testBit q <;> cases h2 : (setN (c.drop i)).testBit q <;> simp_all
    rw [crB_iff, ne_eq, hz]
    constructor
    ·rintro ⟨a, b, hbl, g, z1, z2⟩ hno
     have := came_at hR hp a i (by omega) (by omega) z1
     subst this
     have hr := hcr _ (List.getElem_mem hbl)
     refine hno (c[b]).toNat ⟨?_, ?_⟩
     ·rw [testBit_bitsN, decide_eq_true (by omega), Bool.true_and]
      rw [hpn, Int.toNat_natCast] at z2
      exact z2
     ·rw [testBit_setN]
      refine decide_eq_true ⟨c[b], ?_, rfl⟩
      have := List.getElem_mem (l := c.drop a) (n := b - a) (by simp; omega)
      rw [List.getElem_drop] at this
      simpa only [show a + (b - a) = b from by omega] using this
    ·intro hno
     refine Classical.byContradiction fun hcon => hno fun q ⟨h1, h3⟩ => hcon ?_
     rw [testBit_bitsN] at h1
     rw [testBit_setN, decide_eq_true_eq] at h3
     obtain ⟨x, hx, e1⟩ := h3
     obtain ⟨k, hk, e2⟩ := List.getElem_of_mem hx
     rw [List.getElem_drop] at e2
     simp only [List.length_drop] at hk
     have hnb : nearB n ring p q = true := (Bool.and_eq_true_iff.1 h1).2
     have hk0 : k ≠ 0 := fun e0 => by
      subst e0
      have : c[i]'(by omega) = x := by simpa using e2
      rw [hpn] at this
      rw [← e1, ← this, Int.toNat_natCast, near_self n ring p (by omega)] at hnb
      cases hnb
     refine ⟨i, i + k, by omega, by omega, rfl, ?_⟩
     rw [e2, e1, hpn, Int.toNat_natCast]
     exact hnb
   refine Ev.succ ?_
   simp only [impl_CrowdedGuests.l0]
   rw [rd_get c i (by omega), hpn, wrap_one (n := 2000) (by omega) (by omega), Int.toNat_natCast]
   refine Ev.pos (by omega) (Ev.pos (by omega) (Ev.pos (by omega) (Ev.have rfl (Ev.bind (impl_near_ev h24 p hpl) (Ev.pos (by omega) (Ev.bind so ?_))))))
   rw [and_cast _ _ hnb hsl]
   have next : ∀ (S' : Nat), S' < 4294967296 → (∀ q, S'.testBit q = (S.testBit q || (decide (p = q) && crB n ring c (c[i]'(by omega))))) → Ev (fun k => impl_CrowdedGuests.l0 k (S' : Int) c (c.length : Int) ((i + 1 : Nat) : Int) n ring t c m) (t.filter (crB n ring c), true) := fun S' hS' hb' => by
    refine ih (i + 1) (by omega) S' hS' fun q => ?_
    rw [hb', hb, Bool.eq_iff_iff]
    simp only [Bool.or_eq_true, Bool.and_eq_true, decide_eq_true_eq]
    constructor
    ·rintro (⟨j, h, g, e1, e2⟩ | ⟨e1, e2⟩)
     ·exact ⟨j, h, by omega, e1, e2⟩
     ·exact ⟨i, by omega, by omega, by rw [hpn, Int.toNat_natCast]; exact e1, e2⟩
    ·rintro ⟨j, h, g, e1, e2⟩
     by_cases z : j = i
     ·subst z
      rw [hpn, Int.toNat_natCast] at e1
      exact .inr ⟨e1, e2⟩
     ·exact .inl ⟨j, h, by omega, e1, e2⟩
   by_cases z : crB n ring c (c[i]'(by omega)) = true
   ·have hz := key.1 z
    have p2 : 2 ^ p < 2 ^ 32 := Nat.pow_lt_pow_right (by omega) (by omega)
    rw [shl_one _ (by omega) (by omega), Int.toNat_natCast, or_cast _ _ hS (by omega)]
    refine Ev.neg (by omega) (Ev.pos (by omega) (next _ (Nat.or_lt_two_pow hS p2) fun q => ?_))
    rw [Nat.testBit_or, Nat.testBit_two_pow, z, Bool.and_true]
   ·have hz : bitsN (nearB n ring p) n &&& setN (c.drop i) = 0 := Classical.byContradiction fun e => z (key.2 e)
    refine Ev.pos (by omega) (next S hS fun q => ?_)
    rw [Bool.eq_false_iff.2 z, Bool.and_false, Bool.or_false]
 exact main c.length 0 (by omega) 0 (by omega) (fun q => by simp)
end

theorem popAux_filter : ∀ (n x : Nat), Lib.popAux n x = ((List.range n).filter fun i => x.testBit i).length
 | 0, x => by simp [Lib.popAux]
 | n + 1, x => by
  rw [Lib.popAux, popAux_filter n, List.range_succ_eq_map, List.filter_cons, List.filter_map, Nat.testBit_zero]
  have e : ((fun i => x.testBit i) ∘ Nat.succ) = fun i => (x / 2).testBit i := by
   funext i
   simp [Nat.testBit_succ]
  rw [e]
  by_cases h : x % 2 = 1
  ·simp [h]
   omega
  ·simp [h]
   omega
theorem onesCount_filter (x : Nat) : Lib.onesCount x = ((List.range 64).filter fun i => x.testBit i).length := popAux_filter 64 x
theorem onesCount_below (x n : Nat) (hx : x < 2 ^ n) (hn : n ≤ 64) : Lib.onesCount x = ((List.range n).filter fun i => x.testBit i).length := by
 rw [onesCount_filter, show 64 = n + (64 - n) from by omega, List.range_add, List.filter_append, List.length_append]
 have z : List.filter (fun i => x.testBit i) (List.map (fun x => n + x) (List.range (64 - n))) = [] := by
  rw [List.filter_eq_nil_iff]
  intro i hi
  obtain ⟨j, _, rfl⟩ := List.mem_map.1 hi
  rw [Nat.testBit_lt_two_pow (Nat.lt_of_lt_of_le hx (Nat.pow_le_pow_right (by omega) (by omega)))]
  simp
 rw [z, List.length_nil, Nat.add_zero]

theorem nodup_cover : ∀ (r l : List Int), r.Nodup → r ⊆ l → l.length ≤ r.length → l.Nodup
 | [], l, _, _, hl => by
  have : l = [] := List.eq_nil_of_length_eq_zero (by simpa using hl)
  subst this
  exact List.nodup_nil
 | a :: t, l, hn, hs, hl => by
  have ha : a ∈ l := hs List.mem_cons_self
  have hc := List.nodup_cons.1 hn
  have hlen := List.length_erase_of_mem ha
  have hpos := List.length_pos_of_mem ha
  have ht : t ⊆ l.erase a := fun x hx => (List.mem_erase_of_ne (by rintro rfl; exact hc.1 hx)).2 (hs (List.mem_cons_of_mem _ hx))
  have hl' : l.length ≤ t.length + 1 := by simpa using hl
  have ih := nodup_cover t (l.erase a) hc.2 ht (by omega)
  refine (List.perm_cons_erase ha).nodup_iff.2 (List.nodup_cons.2 ⟨fun hin => ?_, ih⟩)
  have hs' : (a :: t) ⊆ l.erase a := by
   intro x hx
   rcases List.mem_cons.1 hx with e | e
   ·exact e ▸ hin
   ·exact ht e
  have := List.Nodup.length_le_of_subset hn hs'
  simp at this
  omega

theorem count_setN (l : List Int) (hb : ∀ x ∈ l, 0 ≤ x ∧ x < 32) (n : Nat) (hn : n = l.length) : Lib.onesCount (setN l) = n ↔ l.Nodup := by
 rw [onesCount_below (setN l) 32 (setN_lt l 32 (fun p hp => (hb p hp).2) (by omega)) (by omega)]
 let F := ((List.range 32).filter fun i => (setN l).testBit i).map fun i : Nat => (i : Int)
 have hF : F.Nodup := by
  refine List.Pairwise.map _ ?_ (List.Pairwise.filter _ List.nodup_range)
  intro a b hab he
  exact hab (by omega)
 have hFl : F ⊆ l := by
  intro x hx
  obtain ⟨i, hi, rfl⟩ := List.mem_map.1 hx
  have := (List.mem_filter.1 hi).2
  rw [testBit_setN, decide_eq_true_eq] at this
  obtain ⟨p, hp, e⟩ := this
  have := hb p hp
  rw [show (i : Int) = p from by omega]
  exact hp
 have hlF : l ⊆ F := by
  intro x hx
  have := hb x hx
  refine List.mem_map.2 ⟨x.toNat, List.mem_filter.2 ⟨List.mem_range.2 (by omega), ?_⟩, by omega⟩
  rw [testBit_setN, decide_eq_true_eq]
  exact ⟨x, hx, rfl⟩
 have hlen : F.length = ((List.range 32).filter fun i => (setN l).testBit i).length := by simp [F]
 rw [← hlen]
 constructor
 ·intro e
  exact nodup_cover F l hF hFl (by omega)
 ·intro e
  have h1 := List.Nodup.length_le_of_subset hF hFl
  have h2 := List.Nodup.length_le_of_subset e hlF
  omega

theorem impl_set_count_eq (s : Nat) (hs : s < 4294967296) : impl_set_count.f (s : Int) = some ((Lib.onesCount s : Nat) : Int) := by
 unfold impl_set_count.f bits_OnesCount32.f
 rw [if_pos (by omega)]
 rfl

theorem sum_add_if (g : Int → Nat) (h : Int → Bool) : ∀ B : List Int, (B.map fun q => g q + (if h q = true then 1 else 0)).sum = (B.map g).sum + (B.filter h).length
 | [] => rfl
 | q :: B => by
  have := sum_add_if g h B
  simp only [List.map_cons, List.sum_cons]
  rw [this]
  by_cases e : h q = true
  ·rw [if_pos e, List.filter_cons_of_pos e, List.length_cons]; omega
  ·rw [if_neg e, List.filter_cons_of_neg e]; omega
theorem sum_swap (f : Int → Int → Bool) (B : List Int) : ∀ A : List Int, (A.map fun p => (B.filter fun q => f p q).length).sum = (B.map fun q => (A.filter fun p => f p q).length).sum
 | [] => by
  simp only [List.map_nil, List.filter_nil, List.length_nil, List.sum_nil]
  induction B with
  | nil => rfl
  | cons q B ih => simp [← ih]
 | a :: A => by
  rw [List.map_cons, List.sum_cons, sum_swap f B A]
  have := sum_add_if (fun q => (A.filter fun p => f p q).length) (fun q => f a q) B
  rw [show (B.map fun q => ((a :: A).filter fun p => f p q).length) = B.map fun q => (A.filter fun p => f p q).length + (if f a q = true then 1 else 0) from List.map_congr_left fun q _ => by
   by_cases e : f a q = true
   ·rw [if_pos e, List.filter_cons_of_pos (by exact e), List.length_cons]
   ·rw [if_neg e, List.filter_cons_of_neg (by exact e)]; rfl, this]
  omega
theorem filter_split (N A B : Int → Bool) : ∀ l : List Int, (∀ q ∈ l, (N q = true ↔ A q = true ∨ B q = true) ∧ ¬ (A q = true ∧ B q = true)) → (l.filter N).length = (l.filter A).length + (l.filter B).length
 | [], _ => rfl
 | q :: l, h => by
  have ih := filter_split N A B l fun x hx => h x (List.mem_cons_of_mem _ hx)
  obtain ⟨h1, h2⟩ := h q List.mem_cons_self
  by_cases a : A q = true
  ·have b : ¬ B q = true := fun b => h2 ⟨a, b⟩
   rw [List.filter_cons_of_pos (h1.2 (.inl a)), List.filter_cons_of_pos a, List.filter_cons_of_neg b, List.length_cons, List.length_cons]; omega
  ·by_cases b : B q = true
   ·rw [List.filter_cons_of_pos (h1.2 (.inr b)), List.filter_cons_of_neg a, List.filter_cons_of_pos b, List.length_cons, List.length_cons]; omega
   ·rw [List.filter_cons_of_neg (fun e => by rcases h1.1 e with e | e <;> contradiction), List.filter_cons_of_neg a, List.filter_cons_of_neg b]; omega
theorem filter_le_sum (C : Int → Bool) (g : Int → Nat) : ∀ l : List Int, (∀ p ∈ l, C p = true → 0 < g p) → (l.filter C).length ≤ (l.map g).sum
 | [], _ => by simp
 | p :: l, h => by
  have ih := filter_le_sum C g l fun x hx => h x (List.mem_cons_of_mem _ hx)
  rw [List.map_cons, List.sum_cons]
  by_cases e : C p = true
  ·have := h p List.mem_cons_self e
   rw [List.filter_cons_of_pos e, List.length_cons]; omega
  ·rw [List.filter_cons_of_neg e]; omega
theorem sum_zero (g : Int → Nat) : ∀ l : List Int, (∀ p ∈ l, g p = 0) → (l.map g).sum = 0
 | [], _ => rfl
 | p :: l, h => by rw [List.map_cons, List.sum_cons, h p List.mem_cons_self, sum_zero g l fun x hx => h x (List.mem_cons_of_mem _ hx)]
theorem gap_comm (n : Nat) (ring : Bool) (p q : Nat) : gapI n ring p q = gapI n ring q p := by
 unfold gapI
 have e : (if (p : Int) - q > (q : Int) - p then (p : Int) - q else (q : Int) - p) = (if (q : Int) - p > (p : Int) - q then (q : Int) - p else (p : Int) - q) := by
  split <;> split <;> omega
 rw [e]
def latB (n : Nat) (ring : Bool) (c : List Int) (p q : Int) : Bool := nearB n ring p.toNat q.toNat && decide (c.idxOf p < c.idxOf q)
section
variable {n : Nat} {ring : Bool} {t c : List Int} (h2 : 2 ≤ n) (hR : RowOK n ring t) (hp : c.Perm t)
include h2 hR hp
omit h2 hR in
theorem idx_at {x : Int} (hx : x ∈ t) : ∃ h : c.idxOf x < c.length, c[c.idxOf x] = x := by
 have := hp.mem_iff.2 hx
 have h := List.idxOf_lt_length_of_mem this
 exact ⟨h, List.getElem_idxOf h⟩
omit h2 in
theorem crB_later {p : Int} (hpt : p ∈ t) : crB n ring c p = true ↔ ∃ q ∈ t, latB n ring c p q = true := by
 rw [crB_iff]
 unfold latB
 constructor
 ·rintro ⟨a, b, h, g, e, hn⟩
  refine ⟨c[b], hp.mem_iff.1 (List.getElem_mem h), ?_⟩
  obtain ⟨h1, e1⟩ := idx_at hp hpt
  obtain ⟨h3, e3⟩ := idx_at hp (hp.mem_iff.1 (List.getElem_mem h))
  have i1 := came_at hR hp _ a h1 (by omega) (e1.trans e.symm)
  have i2 := came_at hR hp _ b h3 h e3
  rw [i1, i2, hn, Bool.true_and]
  exact decide_eq_true g
 ·rintro ⟨q, hq, e⟩
  obtain ⟨h1, e1⟩ := idx_at hp hpt
  obtain ⟨h3, e3⟩ := idx_at hp hq
  obtain ⟨en, el⟩ := Bool.and_eq_true_iff.1 e
  exact ⟨c.idxOf p, c.idxOf q, h3, of_decide_eq_true el, e1, by rw [e3]; exact en⟩
def pairN (n : Nat) (ring : Bool) (t c : List Int) : Nat := (t.map fun p => (t.filter fun q => latB n ring c p q).length).sum
theorem near_twice : (t.map fun p => (t.filter fun q => nearB n ring p.toNat q.toNat).length).sum = 2 * pairN n ring t c := by
 have hin := far_in hR
 have one : ∀ p ∈ t, (t.filter fun q => nearB n ring p.toNat q.toNat).length = (t.filter fun q => latB n ring c p q).length + (t.filter fun q => latB n ring c q p).length := fun p hpt => by
  refine filter_split _ _ _ t fun q hq => ?_
  unfold latB
  have hsym : nearB n ring q.toNat p.toNat = nearB n ring p.toNat q.toNat := by unfold nearB; rw [gap_comm]
  rw [hsym]
  have b1 := hin p hpt
  have b2 := hin q hq
  refine ⟨⟨fun e => ?_, fun e => ?_⟩, fun e => ?_⟩
  ·have hne : p ≠ q := by
    rintro rfl
    rw [near_self n ring p.toNat (by omega)] at e
    cases e
   obtain ⟨h1, e1⟩ := idx_at hp hpt
   obtain ⟨h3, e3⟩ := idx_at hp hq
   have : c.idxOf p ≠ c.idxOf q := fun e => hne (by rw [← e1, ← e3]; simp only [e])
   rw [e, Bool.true_and, Bool.true_and, decide_eq_true_eq, decide_eq_true_eq]
   omega
  ·rcases e with e | e
   ·exact (Bool.and_eq_true_iff.1 e).1
   ·exact (Bool.and_eq_true_iff.1 e).1
  ·have e1 := of_decide_eq_true (Bool.and_eq_true_iff.1 e.1).2
   have e2 := of_decide_eq_true (Bool.and_eq_true_iff.1 e.2).2
   omega
 have s1 : (t.map fun p => (t.filter fun q => nearB n ring p.toNat q.toNat).length) = t.map fun p => (t.filter fun q => latB n ring c p q).length + (t.filter fun q => latB n ring c q p).length := List.map_congr_left one
 have s2 : ∀ (f g : Int → Nat) (l : List Int), (l.map fun p => f p + g p).sum = (l.map f).sum + (l.map g).sum := fun f g l => by
  induction l with
  | nil => rfl
  | cons a l ih => simp only [List.map_cons, List.sum_cons, ih]; omega
 rw [s1, s2, sum_swap (fun p q => latB n ring c q p) t t]
 unfold pairN
 omega
omit h2 in
theorem crowd_count : (t.filter (crB n ring c)).length ≤ pairN n ring t c ∧ (pairN n ring t c = 0 ↔ (t.filter (crB n ring c)).length = 0) := by
 have h1 : (t.filter (crB n ring c)).length ≤ pairN n ring t c := filter_le_sum _ _ t fun p hpt e => by
  obtain ⟨q, hq, e⟩ := (crB_later hR hp hpt).1 e
  exact List.length_pos_iff.2 (List.ne_nil_of_mem (List.mem_filter.2 ⟨hq, e⟩))
 refine ⟨h1, fun e => by omega, fun e => sum_zero _ t fun p hpt => ?_⟩
 refine List.length_eq_zero_iff.2 (List.filter_eq_nil_iff.2 fun q hq e2 => ?_)
 have := (crB_later hR hp hpt).2 ⟨q, hq, e2⟩
 have hm : p ∈ t.filter (crB n ring c) := List.mem_filter.2 ⟨hpt, this⟩
 rw [List.length_eq_zero_iff.1 e] at hm
 simp at hm
end

def ordL (t c : List Int) : List Int := t.map fun p => (c.idxOf p : Int)
theorem vints_ev (l : List Int) (hl : l.length ≤ 1048576) : Ev (fun k => laws_vInts.f k l l) true := by
 have main : ∀ d i : Nat, i + d = l.length → Ev (fun k => laws_vInts.l0 k l l (i : Int)) true := by
  intro d
  induction d with
  | zero =>
   intro i hi
   refine Ev.succ ?_
   simp only [laws_vInts.l0]
   exact Ev.neg (by omega) (Ev.now _)
  | succ d ih =>
   intro i hi
   have go := ih (i + 1) (by omega)
   refine Ev.succ ?_
   simp only [laws_vInts.l0]
   rw [wrap_one (n := l.length) (by omega) (by omega)]
   exact Ev.pos (by omega) (Ev.pos (by omega) (Ev.pos (by omega) (Ev.pos (by first | rfl | exact True.intro) go)))
 unfold laws_vInts.f
 exact Ev.pos (by first | rfl | exact True.intro) (main l.length 0 (by omega))
theorem vhas_ev (l : List Int) (hl : l.length ≤ 1048576) (x : Int) : Ev (fun k => laws_vHas.f k l x) (decide (x ∈ l)) := by
 have main : ∀ d i : Nat, i + d = l.length → (∀ j, (h : j < l.length) → j < i → l[j] ≠ x) → Ev (fun k => laws_vHas.l0 k l x (i : Int)) (decide (x ∈ l)) := by
  intro d
  induction d with
  | zero =>
   intro i hi hn
   refine Ev.succ ?_
   simp only [laws_vHas.l0]
   refine Ev.neg (by omega) (Ev.same (Ev.now _) (decide_eq_false fun hm => ?_).symm)
   obtain ⟨j, hj, e⟩ := List.getElem_of_mem hm
   exact hn j hj (by omega) e
  | succ d ih =>
   intro i hi hn
   refine Ev.succ ?_
   simp only [laws_vHas.l0]
   rw [wrap_one (n := l.length) (by omega) (by omega), rd_get l i (by omega)]
   refine Ev.pos (by omega) (Ev.pos (by omega) ?_)
   by_cases g : l[i]'(by omega) = x
   ·exact Ev.pos g (Ev.same (Ev.now _) (decide_eq_true (g ▸ List.getElem_mem _)).symm)
   ·refine Ev.neg g (ih (i + 1) (by omega) fun j hj hji => ?_)
    rcases Nat.lt_or_ge j i with h | h
    ·exact hn j hj h
    ·obtain rfl : j = i := by omega
     exact g
 unfold laws_vHas.f
 exact main l.length 0 (by omega) fun j _ h => by omega
section
variable {n : Nat} {ring : Bool} {t c : List Int} (h2 : 2 ≤ n) (h24 : n ≤ 24) (hR : RowOK n ring t) (hp : c.Perm t) (m : Int)
include h2 h24 hR hp
omit h2 h24 in
theorem index_at (a : Nat) (ha : a < c.length) (hc : c.length ≤ 1000) : Ev (fun k => slices_Index_int_int.f k c (c[a])) (a : Int) := by
 have main : ∀ d i : Nat, i + d = a → Ev (fun k => slices_Index_int_int.l0 k c (c[a]) (c.length : Int) (i : Int)) (a : Int) := by
  intro d
  induction d with
  | zero =>
   intro i hi
   obtain rfl : i = a := by omega
   refine Ev.succ ?_
   simp only [slices_Index_int_int.l0]
   rw [rd_get c i ha]
   exact Ev.pos (by omega) (Ev.pos (by omega) (Ev.pos (by omega) (Ev.pos rfl (Ev.now _))))
  | succ d ih =>
   intro i hi
   have go := ih (i + 1) (by omega)
   refine Ev.succ ?_
   simp only [slices_Index_int_int.l0]
   rw [rd_get c i (by omega), wrap_one (n := c.length) (by omega) (by omega)]
   exact Ev.pos (by omega) (Ev.pos (by omega) (Ev.pos (by omega) (Ev.neg (fun e => by have := came_at hR hp a i ha (by omega) e; omega) go)))
 exact main a 0 (by omega)
omit h2 h24 in
theorem order_both : Ev (fun k => spec_GuestOrder.l0 k [] 0 n ring t c m) (ordL t c, true) ∧ Ev (fun k => impl_GuestOrder.l0 k [] t (t.length : Int) 0 n ring t c m) (ordL t c, true) := by
 have hl := row_len _ ring _ hR
 have hcl := hp.length_eq
 have main : ∀ d i : Nat, i + d = t.length → Ev (fun k => spec_GuestOrder.l0 k (ordL (t.take i) c) (i : Int) n ring t c m) (ordL t c, true) ∧ Ev (fun k => impl_GuestOrder.l0 k (ordL (t.take i) c) t (t.length : Int) (i : Int) n ring t c m) (ordL t c, true) := by
  intro d
  induction d with
  | zero =>
   intro i hi
   obtain rfl : i = t.length := by omega
   rw [List.take_length]
   refine ⟨Ev.succ ?_, Ev.succ ?_⟩
   ·simp only [spec_GuestOrder.l0]
    exact Ev.neg (by omega) (Ev.now _)
   ·simp only [impl_GuestOrder.l0]
    exact Ev.neg (by omega) (Ev.now _)
  | succ d ih =>
   intro i hi
   obtain ⟨g1, g2⟩ := ih (i + 1) (by omega)
   have hi' : i < t.length := by omega
   have e : ordL (t.take (i + 1)) c = ordL (t.take i) c ++ [(c.idxOf t[i] : Int)] := by
    unfold ordL
    rw [List.take_add_one, List.getElem?_eq_getElem hi', Option.toList_some, List.map_append]
    rfl
   rw [e] at g1 g2
   obtain ⟨ha, ea⟩ := idx_at hp (List.getElem_mem hi')
   have p1 := came_place hR hp _ ha (by omega)
   have p2 := index_at hR hp _ ha (by omega)
   rw [ea] at p1 p2
   have hlen : (ordL (t.take i) c).length ≤ 1000 := by unfold ordL; rw [List.length_map, List.length_take]; omega
   refine ⟨Ev.succ ?_, Ev.succ ?_⟩
   ·simp only [spec_GuestOrder.l0]
    rw [rd_get t i hi', wrap_one (n := t.length) (by omega) (by omega)]
    exact Ev.pos (by omega) (Ev.pos (by omega) (Ev.bind p1 (Ev.pos (by omega) g1)))
   ·simp only [impl_GuestOrder.l0]
    rw [rd_get t i hi', wrap_one (n := t.length) (by omega) (by omega)]
    exact Ev.pos (by omega) (Ev.pos (by omega) (Ev.pos (by omega) (Ev.bind p2 (Ev.pos (by omega) g2))))
 exact main t.length 0 (by omega)
omit h2 hp in
theorem near_and (p : Int) (hpt : p ∈ t) : ∃ x y : Int, Ev (fun k => impl_bench_near.f k n ring p) x ∧ Ev (fun k => impl_Row_taken.f k n ring t) y ∧ impl_set_count.f (Go.bits .and .u32 x y) = some (((t.filter fun q => nearB n ring p.toNat q.toNat).length : Nat) : Int) := by
 have hin := far_in hR
 have hpr := hin p hpt
 have e1 := impl_near_ev h24 (ring := ring) p.toNat (by omega)
 rw [show ((p.toNat : Nat) : Int) = p by omega] at e1
 refine ⟨_, _, e1, Ev.bound t.length fun k hk => impl_taken_eq n ring t hR k hk, ?_⟩
 have hs : setN t < 4294967296 := (taken_lt n ring t hR).2
 have hb := bitsN_lt (nearB n ring p.toNat) n (by omega)
 rw [and_cast _ _ hb hs]
 have e : bitsN (nearB n ring p.toNat) n &&& setN t = setN (t.filter fun q => nearB n ring p.toNat q.toNat) := by
  refine setN_ext _ _ fun i => ?_
  rw [Nat.testBit_and, testBit_bitsN, testBit_setN]
  simp only [Bool.and_eq_true, decide_eq_true_eq]
  constructor
  ·rintro ⟨⟨_, h⟩, q, hq, rfl⟩
   exact ⟨q, List.mem_filter.2 ⟨hq, h⟩, rfl⟩
  ·rintro ⟨q, hq, rfl⟩
   obtain ⟨h1, h2⟩ := List.mem_filter.1 hq
   have := hin q h1
   exact ⟨⟨by omega, h2⟩, q, h1, rfl⟩
 rw [e]
 have hlow : ∀ x ∈ t.filter fun q => nearB n ring p.toNat q.toNat, 0 ≤ x ∧ x < 32 := fun x hx => by have := hin x (List.mem_filter.1 hx).1; omega
 have hN : (t.filter fun q => nearB n ring p.toNat q.toNat).Nodup := (rising_nodup t _ _ hR.2.2).filter _
 rw [impl_set_count_eq _ (setN_u32 _ fun x hx => (hlow x hx).2), (count_setN _ hlow _ rfl).2 hN]
theorem touching_ev : Ev (fun k => impl_TouchingPairs.f k n ring t) ((pairN n ring t c : Int), true) := by
 have hl := row_len _ ring _ hR
 have htw := near_twice h2 hR hp
 have hle : ∀ l : List Int, l.length ≤ 24 → (l.map fun p => (t.filter fun q => nearB n ring p.toNat q.toNat).length).sum ≤ 24 * l.length := fun l => by
  induction l with
  | nil => intro _; simp
  | cons a l ih =>
   intro h
   rw [List.length_cons] at h
   have := ih (by omega)
   have h1 := List.length_filter_le (fun q => nearB n ring a.toNat q.toNat) t
   rw [List.map_cons, List.sum_cons, List.length_cons]
   omega
 have main : ∀ d i : Nat, i + d = t.length → Ev (fun k => impl_TouchingPairs.l0 k ((((t.take i).map fun p => (t.filter fun q => nearB n ring p.toNat q.toNat).length).sum : Nat) : Int) t (t.length : Int) (i : Int) n ring t) ((pairN n ring t c : Int), true) := by
  intro d
  induction d with
  | zero =>
   intro i hi
   obtain rfl : i = t.length := by omega
   refine Ev.succ ?_
   simp only [impl_TouchingPairs.l0]
   refine Ev.neg (by omega) (Ev.same (Ev.now _) ?_)
   rw [List.take_length, htw]
   have hb := hle t hl
   rw [htw] at hb
   have : Int.tdiv ((2 * pairN n ring t c : Nat) : Int) 2 = (pairN n ring t c : Int) := by
    rw [Int.tdiv_eq_ediv_of_nonneg (by omega)]; omega
   rw [this, wrap_id (by omega) (by omega)]
  | succ d ih =>
   intro i hi
   have hi' : i < t.length := by omega
   have go := ih (i + 1) (by omega)
   rw [List.take_add_one, List.getElem?_eq_getElem hi', Option.toList_some, List.map_append, List.sum_append] at go
   simp only [List.map_cons, List.map_nil, List.sum_cons, List.sum_nil, Nat.add_zero] at go
   obtain ⟨x, y, e1, e2, e3⟩ := near_and h24 hR t[i] (List.getElem_mem hi')
   have hb := hle (t.take i) (by rw [List.length_take]; omega)
   rw [List.length_take] at hb
   have hb2 := List.length_filter_le (fun q => nearB n ring (t[i]).toNat q.toNat) t
   refine Ev.succ ?_
   simp only [impl_TouchingPairs.l0]
   rw [rd_get t i hi', wrap_one (n := t.length) (by omega) (by omega)]
   refine Ev.pos (by omega) (Ev.pos (by omega) (Ev.pos (by omega) (Ev.have rfl (Ev.bind e1 (Ev.bind e2 (Ev.have e3 ?_))))))
   rw [wrap_id (by omega) (by omega)]
   exact go
 unfold impl_TouchingPairs.f
 exact Ev.bind (isRow_ev hR) (Ev.pos rfl (main t.length 0 (by omega)))
omit h2 hp in
theorem seatgap_ev (p q : Int) (hpt : p ∈ t) (hqt : q ∈ t) : Ev (fun k => impl_SeatGap.f k n ring t p q) (gapI n ring p.toNat q.toNat, true) := by
 have hin := far_in hR
 have b1 := hin p hpt
 have b2 := hin q hqt
 have hw : wrap64 ((n : Int) - 1) = n - 1 := wrap_id (by omega) (by omega)
 have e1 : Ev (fun k => impl_allWithin.f k [p, q] 0 ((n : Int) - 1)) true := Ev.same (Ev.bound 2 fun k hk => impl_allWithin_eq [p, q] 0 ((n : Int) - 1) (by simp) k (by simpa using hk)) (decide_eq_true (by simp; omega))
 have e2 := impl_gap_eq n ring p.toNat q.toNat h24 (by omega) (by omega)
 rw [show ((p.toNat : Nat) : Int) = p by omega, show ((q.toNat : Nat) : Int) = q by omega] at e2
 rw [← hw] at e1
 unfold impl_SeatGap.f impl_isSeat.f impl_bench_has.f
 exact Ev.bind (Ev.bind (isRow_ev hR) (Ev.pos rfl (Ev.have rfl (Ev.bind (Ev.bind e1 (Ev.now _)) (Ev.now _))))) (Ev.pos rfl (Ev.have rfl (Ev.have e2 (Ev.now _))))
end

















section
variable {n : Nat} {ring : Bool} {t c : List Int} (h2 : 2 ≤ n) (h24 : n ≤ 24) (hR : RowOK n ring t) (hp : c.Perm t) (m : Int)
include h2 h24 hR hp
theorem g_l1 : ∀ d i : Nat, i + d = t.length → Ev (fun k => laws_FnGuests.l1 k (ordL t c) (t.filter (crB n ring c)) (i : Int) n ring t c m) true := by
 have hl := row_len _ ring _ hR
 have hol : (ordL t c).length = t.length := List.length_map _
 intro d
 induction d with
 | zero =>
  intro i hi
  obtain ⟨c1, c2⟩ := crowd_count hR hp
  refine Ev.succ ?_
  simp only [laws_FnGuests.l1]
  refine Ev.neg (by omega) (Ev.bind (touching_ev h2 h24 hR hp) (Ev.pos (by first | rfl | exact True.intro) (Ev.pos ?_ (Ev.same (Ev.now _) (decide_eq_true (by dsimp only; omega))))))
  rw [beq_iff_eq, Bool.eq_iff_iff, beq_iff_eq, beq_iff_eq]
  dsimp only
  omega
 | succ d ih =>
  intro i hi
  have go := ih (i + 1) (by omega)
  have hi' : i < t.length := by omega
  have hti : t[i] ∈ t := List.getElem_mem hi'
  have inner : ∀ e j : Nat, j + e = t.length → ∀ b : Bool, ((b = true ∨ ∃ q ∈ t.drop j, latB n ring c t[i] q = true) ↔ crB n ring c t[i] = true) → Ev (fun k => laws_FnGuests.l2 k (ordL t c) (t.filter (crB n ring c)) (i : Int) b (j : Int) n ring t c m) true := by
   intro e
   induction e with
   | zero =>
    intro j hj b hb
    rw [List.drop_eq_nil_of_le (by omega)] at hb
    have hv := vhas_ev (t.filter (crB n ring c)) (by have := List.length_filter_le (crB n ring c) t; omega) t[i]
    have eb : b = decide (t[i] ∈ t.filter (crB n ring c)) := by
     rw [Bool.eq_iff_iff, decide_eq_true_iff, List.mem_filter]
     simp at hb
     rw [hb]
     exact ⟨fun h => ⟨hti, h⟩, fun h => h.2⟩
    refine Ev.succ ?_
    simp only [laws_FnGuests.l2]
    rw [rd_get t i hi', show wrap64 ((i : Int) + 1) = ((i + 1 : Nat) : Int) from wrap_one (n := t.length) (by omega) (by omega)]
    refine Ev.neg (by omega) (Ev.pos (by omega) (Ev.pos (by omega) (Ev.bind hv (Ev.neg ?_ go))))
    rw [← eb]
    simp
   | succ e ihe =>
    intro j hj b hb
    have hj' : j < t.length := by omega
    have htj : t[j] ∈ t := List.getElem_mem hj'
    rw [List.drop_eq_getElem_cons hj'] at hb
    have eg := seatgap_ev h24 hR t[i] t[j] hti htj
    have r1 : rd (ordL t c) (i : Int) = (c.idxOf t[i] : Int) := by rw [rd_get _ i (by omega)]; unfold ordL; rw [List.getElem_map]
    have r2 : rd (ordL t c) (j : Int) = (c.idxOf t[j] : Int) := by rw [rd_get _ j (by omega)]; unfold ordL; rw [List.getElem_map]
    have step : ∀ b' : Bool, (b' = true ↔ (b = true ∨ latB n ring c t[i] t[j] = true)) → Ev (fun k => laws_FnGuests.l2 k (ordL t c) (t.filter (crB n ring c)) (i : Int) b' ((j + 1 : Nat) : Int) n ring t c m) true := fun b' hb' => by
     refine ihe (j + 1) (by omega) b' ?_
     rw [← hb, hb']
     simp only [List.mem_cons, exists_eq_or_imp, or_assoc]
    refine Ev.succ ?_
    simp only [laws_FnGuests.l2]
    rw [rd_get t i hi', rd_get t j hj', show wrap64 ((j : Int) + 1) = ((j + 1 : Nat) : Int) from wrap_one (n := t.length) (by omega) (by omega), r1, r2]
    refine Ev.pos (by omega) (Ev.pos (by omega) (Ev.pos (by omega) (Ev.pos (by omega) (Ev.pos (by omega) (Ev.bind eg ?_)))))
    by_cases hbt : b = true
    ·exact Ev.pos hbt (step true ⟨fun _ => .inl hbt, fun _ => rfl⟩)
    ·refine Ev.neg hbt (Ev.pos (by first | rfl | exact True.intro) ?_)
     by_cases g : gapI n ring (t[i]).toNat (t[j]).toNat = 1
     ·refine Ev.pos g (Ev.pos (by omega) (step _ ?_))
      unfold latB nearB
      rw [decide_eq_true g, Bool.true_and, decide_eq_true_iff, decide_eq_true_iff]
      constructor
      ·intro h
       exact .inr (by omega)
      ·rintro (h | h)
       ·exact absurd h hbt
       ·omega
     ·refine Ev.neg g (step false ⟨fun h => (by cases h), ?_⟩)
      rintro (h | h)
      ·exact absurd h hbt
      ·unfold latB nearB at h
       rw [decide_eq_false g, Bool.false_and] at h
       cases h
  refine Ev.succ ?_
  simp only [laws_FnGuests.l1]
  refine Ev.pos (by omega) (inner t.length 0 (by omega) false ?_)
  rw [List.drop_zero, crB_later hR hp hti]
  simp
theorem g_l0 : ∀ d i : Nat, i + d = t.length → Ev (fun k => laws_FnGuests.l0 k (ordL t c) (t.filter (crB n ring c)) (i : Int) n ring t c m) true := by
 have hl := row_len _ ring _ hR
 have hol : (ordL t c).length = t.length := List.length_map _
 intro d
 induction d with
 | zero =>
  intro i hi
  refine Ev.succ ?_
  simp only [laws_FnGuests.l0]
  exact Ev.neg (by omega) (g_l1 h2 h24 hR hp m t.length 0 (by omega))
 | succ d ih =>
  intro i hi
  have hi' : i < t.length := by omega
  obtain ⟨ha, ea⟩ := idx_at hp (List.getElem_mem hi')
  have r1 : rd (ordL t c) (i : Int) = (c.idxOf t[i] : Int) := by rw [rd_get _ i (by omega)]; unfold ordL; rw [List.getElem_map]
  have r3 : rd c (c.idxOf t[i] : Int) = t[i] := by rw [rd_get _ _ ha, ea]
  refine Ev.succ ?_
  simp only [laws_FnGuests.l0]
  rw [r1, r3, rd_get t i hi', wrap_one (n := t.length) (by omega) (by omega)]
  exact Ev.pos (by omega) (Ev.pos (by omega) (Ev.neg (by omega) (Ev.neg (by omega) (Ev.pos (by omega) (Ev.pos (by omega) (Ev.pos (by omega) (Ev.pos rfl (ih (i + 1) (by omega)))))))))
end
open Classical in
theorem FnGuests : ∀ (l0 : List Int), l0.length ≤ maxLen → l0.length * 1 ≤ 140737488351232 → (∀ x ∈ l0, (Lit.int .u8 x).wf = true) → ∃ k, laws_FnGuests.f k l0 = some true := by
 intro l0 hl1 _ h0
 have hb : ∀ x ∈ l0, 0 ≤ x ∧ x ≤ 255 := fun x hx => u8_bounds (h0 x hx)
 refine Ev.rounds ?_
 unfold laws_FnGuests.f
 by_cases g : l0.length > 65536
 ·exact Ev.have (show laws_vBig.f l0 = some true from congrArg some (decide_eq_true (by omega))) (Ev.pos rfl (Ev.now _))
 refine Ev.have (show laws_vBig.f l0 = some false from congrArg some (decide_eq_false (by omega))) (Ev.neg (by simp) ?_)
 obtain ⟨s, m, ring, t, c, hd, ht, hc⟩ := drawHouse_ev l0 hb
 have hdraw : Ev (fun k => spec_DrawGuestOrder.f k l0) (s, ring, t, c, m) := by
  unfold spec_DrawGuestOrder.f
  exact Ev.bind hd (Ev.now _)
 refine Ev.bind hdraw ?_
 have g1 := spec_good_eq s ring t c m (by omega) (by omega)
 have g2 := impl_house_eq s ring t c m (by omega) (by omega)
 have v0 := vints_ev [] (by simp)
 by_cases h : HouseOK s ring t c m
 ·rw [decide_eq_true h] at g1 g2
  have hs := h.1.1
  obtain ⟨n, rfl⟩ : ∃ n : Nat, s = n := ⟨s.toNat, by omega⟩
  have hp := cover_perm t c (rising_nodup t _ _ h.1.2.2) h.2.1.2 (by have := h.2.1.1; omega)
  have hl := row_len _ ring _ h.1
  obtain ⟨o1, o2⟩ := order_both h.1 hp m
  have e1 : Ev (fun k => impl_GuestOrder.f k n ring t c m) (ordL t c, true) := by
   unfold impl_GuestOrder.f
   exact Ev.bind g2 (Ev.pos rfl o2)
  have e2 : Ev (fun k => spec_GuestOrder.f k n ring t c m) (ordL t c, true) := by
   unfold spec_GuestOrder.f
   exact Ev.have rfl (Ev.bind g1 (Ev.pos rfl o1))
  have e3 : Ev (fun k => impl_CrowdedGuests.f k n ring t c m) (t.filter (crB n ring c), true) := by
   unfold impl_CrowdedGuests.f
   exact Ev.bind g2 (Ev.pos rfl (impl_crowded_ev (by omega) (by omega) h.1 hp m))
  have e4 : Ev (fun k => spec_CrowdedGuests.f k n ring t c m) (t.filter (crB n ring c), true) := by
   unfold spec_CrowdedGuests.f
   exact Ev.bind g1 (Ev.pos rfl (Ev.bind (spec_crowded_ev (by omega) (by omega) h.1 hp m) (Ev.now _)))
  have v1 := vints_ev (ordL t c) (by unfold ordL; rw [List.length_map]; omega)
  have v2 := vints_ev (t.filter (crB n ring c)) (by have := List.length_filter_le (crB n ring c) t; omega)
  refine Ev.bind e1 (Ev.bind e2 (Ev.bind e3 (Ev.bind e4 (Ev.neg (by simp) (Ev.bind v1 (Ev.pos (by first | rfl | exact True.intro) (Ev.neg (by simp) (Ev.bind v2 (Ev.pos (by first | rfl | exact True.intro) (Ev.succ ?_))))))))))
  simp only [laws_FnGuests.j0]
  exact Ev.neg (by simp) (Ev.pos (by first | rfl | exact True.intro) (Ev.pos (by unfold ordL; rw [List.length_map]) (g_l0 (by omega) (by omega) h.1 hp m t.length 0 (by omega))))
 ·rw [decide_eq_false h] at g1 g2
  have e1 : Ev (fun k => impl_GuestOrder.f k s ring t c m) ([], false) := by
   unfold impl_GuestOrder.f
   exact Ev.bind g2 (Ev.neg (by simp) (Ev.now _))
  have e2 : Ev (fun k => spec_GuestOrder.f k s ring t c m) ([], false) := by
   unfold spec_GuestOrder.f
   exact Ev.have rfl (Ev.bind g1 (Ev.neg (by simp) (Ev.now _)))
  have e3 : Ev (fun k => impl_CrowdedGuests.f k s ring t c m) ([], false) := by
   unfold impl_CrowdedGuests.f
   exact Ev.bind g2 (Ev.neg (by simp) (Ev.now _))
  have e4 : Ev (fun k => spec_CrowdedGuests.f k s ring t c m) ([], false) := by
   unfold spec_CrowdedGuests.f
   exact Ev.bind g1 (Ev.neg (by simp) (Ev.now _))
  have e5 : Ev (fun k => spec_IsHouse.f k s ring t c m) false := by
   unfold spec_IsHouse.f
   exact Ev.bind g1 (Ev.now _)
  refine Ev.bind e1 (Ev.bind e2 (Ev.bind e3 (Ev.bind e4 (Ev.neg (by simp) (Ev.bind v0 (Ev.pos (by first | rfl | exact True.intro) (Ev.neg (by simp) (Ev.bind v0 (Ev.pos (by first | rfl | exact True.intro) (Ev.succ ?_))))))))))
  simp only [laws_FnGuests.j0]
  exact Ev.neg (by simp) (Ev.neg (by simp) (Ev.bind e5 (Ev.now _)))

end Go.Proofs.YtbohmfnjgjijdaaDoor.Pure
-- squeezed
