/- StandsOf of the program returns what the reference's returns, for every row, every list and both ways. No conditions. -/
import Derived.Test.YtmcgamhipilbpaaQFnExactStandsOfx
namespace Go.Proofs.Ytmcgamhipilbpaa.Pure
open Go.RowKit Go.Proofs.Ytmcgamhipilbpaa.QFnExactStandsOf Go.Proofs.YtmcgamhipilbpaaW.PrintWords Go.Proofs.YtmcgamhipilbpaaW.PrintLast Go.Proofs.YtmcgamhipilbpaaW.PrintMore
set_option linter.unusedVariables false
set_option linter.unusedSimpArgs false

/-! ### base -/
theorem wrap_id {x : Int} (h0 : -9223372036854775808 ≤ x) (h1 : x ≤ 9223372036854775807) : wrap64 x = x := by
  unfold wrap64
  omega
theorem wrap_one {i n : Nat} (h : i < n) (hn : n ≤ 4611686018427387904) : wrap64 ((i : Int) + 1) = ((i + 1 : Nat) : Int) := by
  unfold wrap64
  omega
theorem rd_nat (l : List Int) (i : Nat) : rd l (i : Int) = l.getD i 0 := by unfold rd; simp
theorem rd_get (l : List Int) (i : Nat) (h : i < l.length) : rd l (i : Int) = l[i] := by rw [rd_nat]; simp [List.getD, h]
theorem fuel {k d : Nat} (h : d < k) : ∃ m, k = m + 1 ∧ d ≤ m := ⟨k - 1, by omega, by omega⟩

/-! ### ev -/
theorem bne_self {α : Type} [BEq α] [LawfulBEq α] (a : α) : ¬ (a != a) = true := by simp
theorem Ev.succ {α : Type} {g : Nat → Option α} {r : α} (h : Ev (fun k => g (k + 1)) r) : Ev g r := by
  obtain ⟨K, h⟩ := h
  refine ⟨K + 1, fun k hk => ?_⟩
  obtain ⟨k, rfl, hk'⟩ := fuel (show K < k by omega)
  exact h k hk'
theorem Ev.pos {α : Type} {g f : Nat → Option α} {r : α} {c : Prop} [Decidable c] (hc : c) (h : Ev g r) : Ev (fun k => if c then g k else f k) r := by
  obtain ⟨K, h⟩ := h
  exact ⟨K, fun k hk => by show (if c then g k else f k) = some r; rw [if_pos hc]; exact h k hk⟩
theorem Ev.neg {α : Type} {g f : Nat → Option α} {r : α} {c : Prop} [Decidable c] (hc : ¬ c) (h : Ev f r) : Ev (fun k => if c then g k else f k) r := by
  obtain ⟨K, h⟩ := h
  exact ⟨K, fun k hk => by show (if c then g k else f k) = some r; rw [if_neg hc]; exact h k hk⟩
theorem Ev.have {α β : Type} {x : Option α} {a : α} {f : Nat → α → Option β} {r : β} (e : x = some a) (h : Ev (fun k => f k a) r) : Ev (fun k => x.bind (f k)) r := by
  obtain ⟨K, h⟩ := h
  exact ⟨K, fun k hk => by show x.bind (f k) = some r; rw [e, Option.bind_some]; exact h k hk⟩
theorem Ev.bound {α : Type} {g : Nat → Option α} {r : α} (K : Nat) (h : ∀ k, K < k → g k = some r) : Ev g r := ⟨K + 1, fun k hk => h k (by omega)⟩
theorem Ev.same {α : Type} {g : Nat → Option α} {r r' : α} (h : Ev g r) (e : r = r') : Ev g r' := e ▸ h

/-! ### laws_toIntS -/
theorem laws_toIntS_l0 (l : List Int) (hl : l.length ≤ 1048576) (d : Nat) : ∀ (k i : Nat) (x : List Int), x.length = l.length → i ≤ l.length → l.length - i = d → d < k → (∀ j (h : j < i) (h' : j < x.length) (h'' : j < l.length), x[j] = l[j]) → laws_toIntS.l0 k l x i = some l := by
  induction d with
  | zero =>
    intro k i x hx hi hd hk hp
    obtain ⟨k, rfl, _⟩ := fuel hk
    simp only [laws_toIntS.l0]
    rw [if_neg (by omega)]
    refine congrArg some ?_
    apply List.ext_getElem hx
    intro j h1 h2
    exact hp j (by omega) h1 h2
  | succ d ih =>
    intro k i x hx hi hd hk hp
    obtain ⟨k, rfl, _⟩ := fuel hk
    simp only [laws_toIntS.l0]
    rw [if_pos (by omega), if_pos (by omega), if_pos (by omega), wrap_one (n := l.length) (by omega) (by omega)]
    rw [rd_get l i (by omega), Int.toNat_natCast, ih k (i + 1) _ (by simp [hx]) (by omega) (by omega) (by omega)]
    intro j h h' h''
    rw [List.getElem_set]
    split
    · rename_i e
      subst e
      rfl
    · rename_i e
      exact hp j (by omega) (by simpa using h') h''
theorem laws_toIntS_eq (l : List Int) (hl : l.length ≤ 1048576) (k : Nat) (hk : l.length < k) : laws_toIntS.f k l = some l := by
  unfold laws_toIntS.f
  rw [if_pos (by omega), if_pos (by omega)]
  exact laws_toIntS_l0 l hl l.length k 0 _ (by simp) (by omega) (by omega) hk (fun j h => by omega)

/-! ### laws_eqIntS -/
theorem laws_eqIntS_l0 (a b : List Int) (hl : a.length ≤ 1048576) (he : a.length = b.length) (d : Nat) : ∀ (k i : Nat), i ≤ a.length → a.length - i = d → d < k → laws_eqIntS.l0 k a b i = some (decide (a.drop i = b.drop i)) := by
  induction d with
  | zero =>
    intro k i hi hd hk
    obtain ⟨k, rfl, _⟩ := fuel hk
    simp only [laws_eqIntS.l0]
    rw [if_neg (by omega), List.drop_eq_nil_of_le (by omega), List.drop_eq_nil_of_le (by omega)]
    simp
  | succ d ih =>
    intro k i hi hd hk
    obtain ⟨k, rfl, _⟩ := fuel hk
    simp only [laws_eqIntS.l0]
    rw [if_pos (by omega), if_pos (by omega), if_pos (by omega), wrap_one (n := a.length) (by omega) (by omega), rd_get a i (by omega), rd_get b i (by omega), ih k (i + 1) (by omega) (by omega) (by omega)]
    rw [List.drop_eq_getElem_cons (l := a) (i := i) (by omega), List.drop_eq_getElem_cons (l := b) (i := i) (by omega)]
    by_cases h : a[i]'(by omega) = b[i]'(by omega)
    · rw [if_pos h]
      refine congrArg some ?_
      rw [decide_eq_decide, List.cons.injEq]
      exact ⟨fun e => ⟨h, e⟩, fun e => e.2⟩
    · rw [if_neg h]
      refine congrArg some ?_
      symm
      rw [decide_eq_false_iff_not, List.cons.injEq]
      exact fun e => h e.1
theorem laws_eqIntS_eq (a b : List Int) (hl : a.length ≤ 1048576) (k : Nat) (hk : a.length < k) : laws_eqIntS.f k a b = some (decide (a = b)) := by
  unfold laws_eqIntS.f
  by_cases h : a.length = b.length
  · rw [if_pos (by omega)]
    have := laws_eqIntS_l0 a b hl h a.length k 0 (by omega) (by omega) hk
    simpa using this
  · rw [if_neg (by omega)]
    refine congrArg some ?_
    symm
    rw [decide_eq_false_iff_not]
    intro e
    exact h (by rw [e])
theorem laws_eqIntS_self (a : List Int) (hl : a.length ≤ 1048576) (k : Nat) (hk : a.length < k) : laws_eqIntS.f k a a = some true := by
  rw [laws_eqIntS_eq a a hl k hk]
  simp

/-! ### ev_laws -/
theorem laws_toIntS_ev (l : List Int) (hl : l.length ≤ 1048576) : Ev (fun k => laws_toIntS.f k l) l := Ev.bound l.length fun k hk => laws_toIntS_eq l hl k hk
theorem laws_eqIntS_ev (l : List Int) (hl : l.length ≤ 1048576) : Ev (fun k => laws_eqIntS.f k l l) true := Ev.bound l.length fun k hk => laws_eqIntS_self l hl k hk

/-! ### ev_row -/
theorem laws_szRow_eq (s : Int) (b : Bool) (t : List Int) (m : Nat) (hm : m ≤ 1048576) (ht : t.length ≤ maxLen) : laws_szRow.f s b t (m : Int) = some (if t.length ≤ m then ((m - t.length : Nat) : Int) else -1) := by
  have hmax : t.length ≤ 9223372036854775807 := ht
  unfold laws_szRow.f laws_szIntS.f
  rw [wrap_id (by omega) (by omega)]
  by_cases h : t.length ≤ m
  · rw [if_neg (by omega), Option.bind_some, if_neg (by omega), if_pos h]
    refine congrArg some ?_
    omega
  · rw [if_pos (by omega), Option.bind_some, if_pos (by omega), if_neg h]
theorem laws_toRow_ev (s : Int) (b : Bool) (t : List Int) (ht : t.length ≤ 1048576) : Ev (fun k => laws_toRow.f k s b t) (s, b, t) := by
  unfold laws_toRow.f
  exact Ev.bind (laws_toIntS_ev t ht) (Ev.now _)
theorem laws_eqRow_ev (s : Int) (b : Bool) (t : List Int) (ht : t.length ≤ 1048576) : Ev (fun k => laws_eqRow.f k s b t s b t) true := by
  unfold laws_eqRow.f
  refine Ev.pos rfl (Ev.neg (by simp) ?_)
  exact Ev.bind (laws_eqIntS_ev t ht) (Ev.pos rfl (Ev.now _))

/-! ### laws_marks -/
theorem laws_markIntS_l0 (d : Nat) : ∀ (k i : Nat) (x : List Int) (m : Nat), x.length ≤ 1048576 → m ≤ 1000000000 + i → i ≤ x.length → x.length - i = d → d < k →
    laws_markIntS.l0 k x m i = some (((m + (x.length - i) : Nat) : Int), x.take i ++ (List.range (x.length - i)).map fun j => ((m + j : Nat) : Int)) := by
  induction d with
  | zero =>
    intro k i x m hx hm hi hd hk
    obtain ⟨k, rfl, _⟩ := fuel hk
    simp only [laws_markIntS.l0]
    rw [if_neg (by omega), hd]
    simp [List.take_of_length_le (show x.length ≤ i by omega)]
  | succ d ih =>
    intro k i x m hx hm hi hd hk
    obtain ⟨k, rfl, _⟩ := fuel hk
    simp only [laws_markIntS.l0]
    rw [if_pos (by omega), if_pos (by omega), wrap_one (n := x.length) (i := i) (by omega) (by omega), wrap_one (n := m + 1) (i := m) (by omega) (by omega), Int.toNat_natCast]
    rw [ih k (i + 1) (x.set i m) (m + 1) (by simp; omega) (by omega) (by simp; omega) (by simp; omega) (by omega)]
    simp only [List.length_set, Option.some.injEq, Prod.mk.injEq]
    refine ⟨by omega, ?_⟩
    rw [hd, show x.length - (i + 1) = d from by omega, List.range_succ_eq_map, List.map_cons, List.map_map]
    rw [List.take_set, List.take_add_one, List.set_append_right _ _ (by simp; omega)]
    simp [List.length_take, show min i x.length = i from by omega, List.getElem?_eq_getElem (show i < x.length by omega)]
    intro a _
    omega
theorem laws_markIntS_eq (x : List Int) (m k : Nat) (hx : x.length ≤ 1048576) (hm : m ≤ 1000000000) (hk : x.length < k) :
    laws_markIntS.f k x m = some (((m + x.length : Nat) : Int), (List.range x.length).map fun j => ((m + j : Nat) : Int)) := by
  unfold laws_markIntS.f
  have := laws_markIntS_l0 x.length k 0 x m hx (by omega) (by omega) (by omega) hk
  simpa using this
theorem laws_heldIntS_l0 (n m : Nat) (hx : n ≤ 1048576) (hm : m ≤ 1000000000) (d : Nat) : ∀ (k i : Nat), i ≤ n → n - i = d → d < k →
    laws_heldIntS.l0 k ((List.range n).map fun j => ((m + j : Nat) : Int)) ((m + i : Nat) : Int) i = some (((m + n : Nat) : Int)) := by
  induction d with
  | zero =>
    intro k i hi hd hk
    obtain ⟨k, rfl, _⟩ := fuel hk
    simp only [laws_heldIntS.l0]
    rw [if_neg (by simp; omega), show i = n from by omega]
  | succ d ih =>
    intro k i hi hd hk
    obtain ⟨k, rfl, _⟩ := fuel hk
    simp only [laws_heldIntS.l0]
    rw [if_pos (by simp; omega), if_pos (by omega), rd_get _ i (by simp; omega)]
    simp only [List.getElem_map, List.getElem_range, if_true]
    rw [wrap_one (n := n) (i := i) (by omega) (by omega), wrap_one (n := m + i + 1) (i := m + i) (by omega) (by omega), show m + i + 1 = m + (i + 1) from by omega]
    exact ih k (i + 1) (by omega) (by omega) (by omega)
theorem laws_heldIntS_eq (n m k : Nat) (hx : n ≤ 1048576) (hm : m ≤ 1000000000) (hk : n < k) :
    laws_heldIntS.f k ((List.range n).map fun j => ((m + j : Nat) : Int)) m = some (((m + n : Nat) : Int)) :=
  laws_heldIntS_l0 n m hx hm n k 0 (by omega) (by omega) hk

/-! ### ev_marks -/
/-- The numbers from m on. -/
def marksL (n : Nat) (m : Int) : List Int := (List.range n).map fun j => ((m.toNat + j : Nat) : Int)
theorem marksL_length (n : Nat) (m : Int) : (marksL n m).length = n := by simp [marksL]
theorem laws_markIntS_ev (l : List Int) (m : Int) (hl : l.length ≤ 1048576) (h0 : 0 ≤ m) (hm : m ≤ 1000000000) : Ev (fun k => laws_markIntS.f k l m) (m + l.length, marksL l.length m) :=
  Ev.bound l.length fun k hk => by
    obtain ⟨n, rfl⟩ : ∃ n : Nat, m = n := ⟨m.toNat, by omega⟩
    rw [laws_markIntS_eq l n k hl (by omega) hk]
    unfold marksL
    rw [Int.toNat_natCast]
    refine congrArg some (Prod.ext ?_ rfl)
    exact Int.natCast_add _ _
theorem laws_heldIntS_ev (n : Nat) (m : Int) (hl : n ≤ 1048576) (h0 : 0 ≤ m) (hm : m ≤ 1000000000) : Ev (fun k => laws_heldIntS.f k (marksL n m) m) (m + n) :=
  Ev.bound n fun k hk => by
    obtain ⟨j, rfl⟩ : ∃ j : Nat, m = j := ⟨m.toNat, by omega⟩
    unfold marksL
    rw [Int.toNat_natCast, laws_heldIntS_eq n j k hl (by omega) hk]
    exact congrArg some (Int.natCast_add _ _)

/-! ### ev_markrow -/
theorem laws_markRow_ev (s : Int) (b : Bool) (l : List Int) (m : Int) (hl : l.length ≤ 1048576) (h0 : 0 ≤ m) (hm : m ≤ 1000000000) : Ev (fun k => laws_markRow.f k s b l m) (m + l.length, marksL l.length m) := by
  unfold laws_markRow.f
  exact Ev.bind (laws_markIntS_ev l m hl h0 hm) (Ev.now _)

/-! ### within -/
theorem spec_l1In_eq (n a b : Int) : spec_l1In.f n a b = some (decide (a ≤ n ∧ n ≤ b)) := by
  unfold spec_l1In.f
  by_cases h : n ≥ a
  · rw [if_pos h]
    simp [show a ≤ n from h]
  · rw [if_neg h]
    simp [show ¬ a ≤ n from h]
theorem impl_within_eq (n a b : Int) : impl_within.f n a b = some (decide (a ≤ n ∧ n ≤ b)) := by
  unfold impl_within.f
  by_cases h : n ≥ a
  · rw [if_pos h]
    simp [show a ≤ n from h]
  · rw [if_neg h]
    simp [show ¬ a ≤ n from h]

/-! ### impl_allWithin -/
theorem impl_allWithin_l0 (l : List Int) (a b : Int) (hl : l.length ≤ 1048576) (d : Nat) : ∀ (k i : Nat), i ≤ l.length → l.length - i = d → d < k → impl_allWithin.l0 k a b l (l.length : Int) i = some (decide (∀ x ∈ l.drop i, a ≤ x ∧ x ≤ b)) := by
  induction d with
  | zero =>
    intro k i hi hd hk
    obtain ⟨k, rfl, _⟩ := fuel hk
    simp only [impl_allWithin.l0]
    rw [if_neg (by omega), List.drop_eq_nil_of_le (by omega)]
    simp
  | succ d ih =>
    intro k i hi hd hk
    obtain ⟨k, rfl, _⟩ := fuel hk
    simp only [impl_allWithin.l0]
    rw [if_pos (by omega), if_pos (by omega), if_pos (by omega), wrap_one (n := l.length) (by omega) (by omega), rd_get l i (by omega), impl_within_eq, ih k (i + 1) (by omega) (by omega) (by omega)]
    rw [List.drop_eq_getElem_cons (l := l) (i := i) (by omega)]
    rw [Option.bind_some]
    by_cases h : a ≤ l[i]'(by omega) ∧ l[i]'(by omega) ≤ b
    · rw [if_pos (by simp only [h]; simp)]
      refine congrArg some ?_
      rw [decide_eq_decide]
      simp only [List.mem_cons]
      exact ⟨fun e x hx => hx.elim (fun z => z ▸ h) (e x), fun e x hx => e x (.inr hx)⟩
    · rw [if_neg (by rw [decide_eq_true_eq]; exact h)]
      refine congrArg some ?_
      symm
      rw [decide_eq_false_iff_not]
      exact fun e => h (e _ List.mem_cons_self)
theorem impl_allWithin_eq (l : List Int) (a b : Int) (hl : l.length ≤ 1048576) (k : Nat) (hk : l.length < k) : impl_allWithin.f k l a b = some (decide (∀ x ∈ l, a ≤ x ∧ x ≤ b)) :=
  impl_allWithin_l0 l a b hl l.length k 0 (by omega) (by omega) hk

/-! ### isrow -/
/-- Rising numbers within bounds. -/
def Rising (l : List Int) (a b : Int) : Prop := ∀ i, (h : i < l.length) → (a ≤ l[i] ∧ l[i] ≤ b) ∧ (0 < i → l.getD (i - 1) 0 < l[i])
/-- A row: 2 to 24 seats, of which rising ones are taken, at least 3 on a ring. -/
def RowOK (s : Int) (ring : Bool) (t : List Int) : Prop := (2 ≤ s ∧ s ≤ 24) ∧ (ring = true → 3 ≤ s) ∧ Rising t 0 (s - 1)
open Classical in
theorem spec_l1Rising_l0 (l : List Int) (a b : Int) (hl : l.length ≤ 1048576) (d : Nat) : ∀ (k i : Nat), i ≤ l.length → l.length - i = d → d < k → (∀ j, (h : j < i) → (hj : j < l.length) → (a ≤ l[j] ∧ l[j] ≤ b) ∧ (0 < j → l.getD (j - 1) 0 < l[j])) →
    spec_l1Rising.l0 k l a b i = some (decide (Rising l a b)) := by
  induction d with
  | zero =>
    intro k i hi hd hk hp
    obtain ⟨k, rfl, _⟩ := fuel hk
    simp only [spec_l1Rising.l0]
    rw [if_neg (by omega)]
    refine congrArg some ?_
    symm
    rw [decide_eq_true_eq]
    exact fun j hj => hp j (by omega) hj
  | succ d ih =>
    intro k i hi hd hk hp
    obtain ⟨k, rfl, _⟩ := fuel hk
    have no : ¬ ((a ≤ l[i]'(by omega) ∧ l[i]'(by omega) ≤ b) ∧ (0 < i → l.getD (i - 1) 0 < l[i]'(by omega))) → ¬ Rising l a b := fun g e => g (e i (by omega))
    have go : ((a ≤ l[i]'(by omega) ∧ l[i]'(by omega) ≤ b) ∧ (0 < i → l.getD (i - 1) 0 < l[i]'(by omega))) → spec_l1Rising.l0 k l a b (wrap64 ((i : Int) + 1)) = some (decide (Rising l a b)) := by
      intro g
      rw [wrap_one (n := l.length) (by omega) (by omega)]
      refine ih k (i + 1) (by omega) (by omega) (by omega) fun j hj hj' => ?_
      by_cases e : j = i
      · subst e; exact g
      · exact hp j (by omega) hj'
    simp only [spec_l1Rising.l0]
    rw [if_pos (by omega), if_pos (by omega), rd_get l i (by omega), spec_l1In_eq, Option.bind_some]
    by_cases g : a ≤ l[i]'(by omega) ∧ l[i]'(by omega) ≤ b
    · rw [if_pos (decide_eq_true g)]
      by_cases h0 : 0 < i
      · rw [if_pos (by omega), wrap_id (by omega) (by omega), if_pos (by omega), if_pos (by omega), show (i : Int) - 1 = ((i - 1 : Nat) : Int) from by omega, rd_nat]
        by_cases g2 : l.getD (i - 1) 0 < l[i]'(by omega)
        · rw [if_neg (by omega)]
          exact go ⟨g, fun _ => g2⟩
        · rw [if_pos (by omega), decide_eq_false (no fun e => g2 (e.2 h0))]
      · rw [if_neg (by omega)]
        exact go ⟨g, fun e => absurd e h0⟩
    · rw [if_neg (by rw [decide_eq_true_eq]; exact g), decide_eq_false (no fun e => g e.1)]
open Classical in
theorem spec_l1Rising_eq (l : List Int) (a b : Int) (hl : l.length ≤ 1048576) (k : Nat) (hk : l.length < k) : spec_l1Rising.f k l a b = some (decide (Rising l a b)) :=
  spec_l1Rising_l0 l a b hl l.length k 0 (by omega) (by omega) hk (fun j h => by omega)
open Classical in
theorem spec_l2Row_eq (s : Int) (ring : Bool) (t : List Int) (ht : t.length ≤ 1048576) (k : Nat) (hk : t.length < k) : spec_l2Row.f k s ring t = some (decide (RowOK s ring t)) := by
  unfold spec_l2Row.f
  rw [spec_l1In_eq, Option.bind_some]
  by_cases h : 2 ≤ s ∧ s ≤ 24
  · rw [if_pos (decide_eq_true h), wrap_id (by omega) (by omega), spec_l1Rising_eq t _ _ ht k hk, Option.bind_some]
    cases ring with
    | true =>
      rw [if_pos rfl]
      by_cases h3 : s > 2
      · rw [if_pos h3]
        refine congrArg some ?_
        rw [decide_eq_decide]
        exact ⟨fun e => ⟨h, fun _ => by omega, e⟩, fun e => e.2.2⟩
      · rw [if_neg h3]
        refine congrArg some ?_
        symm
        rw [decide_eq_false_iff_not]
        exact fun e => h3 (by have := e.2.1 rfl; omega)
    | false =>
      rw [if_neg (by simp)]
      refine congrArg some ?_
      rw [decide_eq_decide]
      exact ⟨fun e => ⟨h, (fun z => by cases z), e⟩, fun e => e.2.2⟩
  · rw [if_neg (by rw [decide_eq_true_eq]; exact h)]
    refine congrArg some ?_
    symm
    rw [decide_eq_false_iff_not]
    exact fun e => h e.1
theorem impl_bench_has_one (s : Int) (ring : Bool) (p : Int) (k : Nat) (hk : 2 < k) : impl_bench_has.f k s ring [p] = some (decide (0 ≤ p ∧ p ≤ wrap64 (s - 1))) := by
  unfold impl_bench_has.f
  rw [impl_allWithin_eq [p] _ _ (by simp) k (by simp; omega), Option.bind_some]
  refine congrArg some ?_
  rw [decide_eq_decide]
  simp
theorem impl_bench_valid_eq (s : Int) (ring : Bool) : impl_bench_valid.f s ring = some (decide ((2 ≤ s ∧ s ≤ 24) ∧ (ring = true → 3 ≤ s))) := by
  unfold impl_bench_valid.f
  rw [impl_within_eq, Option.bind_some]
  by_cases h : 2 ≤ s ∧ s ≤ 24
  · rw [if_pos (decide_eq_true h)]
    cases ring with
    | true =>
      rw [if_pos rfl]
      refine congrArg some ?_
      rw [decide_eq_decide]
      exact ⟨fun e => ⟨h, fun _ => e⟩, fun e => e.2 rfl⟩
    | false =>
      rw [if_neg (by simp)]
      refine congrArg some ?_
      symm
      rw [decide_eq_true_eq]
      exact ⟨h, (fun z => by cases z)⟩
  · rw [if_neg (by rw [decide_eq_true_eq]; exact h)]
    refine congrArg some ?_
    symm
    rw [decide_eq_false_iff_not]
    exact fun e => h e.1
open Classical in
theorem impl_IsRow_l0 (s : Int) (ring : Bool) (l : List Int) (hl : l.length ≤ 1048576) (d : Nat) : ∀ (k i : Nat), i ≤ l.length → l.length - i = d → d + 3 < k → ((2 ≤ s ∧ s ≤ 24) → ∀ j, (h : j < i) → (hj : j < l.length) → (0 ≤ l[j] ∧ l[j] ≤ s - 1) ∧ (0 < j → l.getD (j - 1) 0 < l[j])) →
    impl_IsRow.l0 k l (l.length : Int) i s ring l = some (decide (RowOK s ring l)) := by
  induction d with
  | zero =>
    intro k i hi hd hk hp
    obtain ⟨k, rfl, _⟩ := fuel hk
    simp only [impl_IsRow.l0]
    rw [if_neg (by omega), impl_Row_bench.f, Option.bind_some]
    dsimp only
    rw [impl_bench_valid_eq, Option.bind_some]
    refine congrArg some ?_
    rw [decide_eq_decide]
    exact ⟨fun e => ⟨e.1, e.2, fun j hj => hp e.1 j (by omega) hj⟩, fun e => ⟨e.1, e.2.1⟩⟩
  | succ d ih =>
    intro k i hi hd hk hp
    obtain ⟨k, rfl, _⟩ := fuel hk
    have no : (2 ≤ s ∧ s ≤ 24 → ¬ ((0 ≤ l[i]'(by omega) ∧ l[i]'(by omega) ≤ s - 1) ∧ (0 < i → l.getD (i - 1) 0 < l[i]'(by omega)))) → ¬ RowOK s ring l := fun g e => g e.1 (e.2.2 i (by omega))
    have go : (2 ≤ s ∧ s ≤ 24 → ((0 ≤ l[i]'(by omega) ∧ l[i]'(by omega) ≤ s - 1) ∧ (0 < i → l.getD (i - 1) 0 < l[i]'(by omega)))) → impl_IsRow.l0 k l (l.length : Int) (wrap64 ((i : Int) + 1)) s ring l = some (decide (RowOK s ring l)) := by
      intro g
      rw [wrap_one (n := l.length) (by omega) (by omega)]
      refine ih k (i + 1) (by omega) (by omega) (by omega) fun hs j hj hj' => ?_
      by_cases e : j = i
      · subst e; exact g hs
      · exact hp hs j (by omega) hj'
    simp only [impl_IsRow.l0]
    rw [if_pos (by omega), if_pos (by omega), if_pos (by omega), impl_Row_bench.f, Option.bind_some]
    dsimp only
    rw [rd_get l i (by omega), impl_bench_has_one _ _ _ k (by omega), Option.bind_some]
    by_cases g : 0 ≤ l[i]'(by omega) ∧ l[i]'(by omega) ≤ wrap64 (s - 1)
    · rw [if_pos (decide_eq_true g)]
      have g' : 2 ≤ s ∧ s ≤ 24 → 0 ≤ l[i]'(by omega) ∧ l[i]'(by omega) ≤ s - 1 := fun hs => by
        rw [wrap_id (by omega) (by omega)] at g
        exact g
      by_cases h0 : 0 < i
      · rw [if_pos (by omega), wrap_id (by omega) (by omega), if_pos (by omega), if_pos (by omega), show (i : Int) - 1 = ((i - 1 : Nat) : Int) from by omega, rd_nat]
        by_cases g2 : l.getD (i - 1) 0 < l[i]'(by omega)
        · rw [if_neg (by omega)]
          exact go fun hs => ⟨g' hs, fun _ => g2⟩
        · rw [if_pos (by omega), decide_eq_false (no fun _ e => g2 (e.2 h0))]
      · rw [if_neg (by omega)]
        exact go fun hs => ⟨g' hs, fun e => absurd e h0⟩
    · rw [if_neg (by rw [decide_eq_true_eq]; exact g)]
      rw [decide_eq_false (no fun hs e => g ?_)]
      rw [wrap_id (by omega) (by omega)]
      exact e.1
open Classical in
theorem impl_IsRow_eq (s : Int) (ring : Bool) (l : List Int) (hl : l.length ≤ 1048576) (k : Nat) (hk : l.length + 3 < k) : impl_IsRow.f k s ring l = some (decide (RowOK s ring l)) :=
  impl_IsRow_l0 s ring l hl l.length k 0 (by omega) (by omega) hk (fun _ j h => by omega)
theorem rising_lt (l : List Int) (a b : Int) (h : Rising l a b) (i j : Nat) (hij : i < j) (hj : j < l.length) : l[i]'(by omega) < l[j] := by
  induction j with
  | zero => omega
  | succ j ih =>
    have h1 := (h (j + 1) hj).2 (by omega)
    rw [show j + 1 - 1 = j from by omega, show l.getD j 0 = l[j]'(by omega) from by simp [List.getD, show j < l.length by omega]] at h1
    by_cases e : i = j
    · subst e; exact h1
    · have := ih (by omega) (by omega)
      omega
theorem rising_mem (l : List Int) (a b : Int) (h : Rising l a b) : ∀ x ∈ l, a ≤ x ∧ x ≤ b := by
  intro x hx
  obtain ⟨i, hi, rfl⟩ := List.getElem_of_mem hx
  exact (h i hi).1
theorem rising_nodup (l : List Int) (a b : Int) (h : Rising l a b) : l.Nodup := by
  refine List.pairwise_iff_getElem.2 fun i j hi hj hij e => ?_
  have := rising_lt l a b h i j hij hj
  omega
theorem row_len (s : Int) (ring : Bool) (t : List Int) (h : RowOK s ring t) : t.length ≤ 24 := by
  have hn := rising_nodup t _ _ h.2.2
  have hs : t ⊆ (List.range 24).map fun i : Nat => (i : Int) := by
    intro x hx
    have := rising_mem t _ _ h.2.2 x hx
    have := h.1
    exact List.mem_map.2 ⟨x.toNat, List.mem_range.2 (by omega), by omega⟩
  have := List.Nodup.length_le_of_subset hn hs
  simpa using this

/-! ### spec_l1Has -/
theorem spec_l1Has_l0 (l : List Int) (n : Int) (hl : l.length ≤ 1048576) (d : Nat) : ∀ (k i : Nat), i ≤ l.length → l.length - i = d → d < k → spec_l1Has.l0 k l n i = some (decide (n ∈ l.drop i)) := by
  induction d with
  | zero =>
    intro k i hi hd hk
    obtain ⟨k, rfl, _⟩ := fuel hk
    simp only [spec_l1Has.l0]
    rw [if_neg (by omega), List.drop_eq_nil_of_le (by omega)]
    simp
  | succ d ih =>
    intro k i hi hd hk
    obtain ⟨k, rfl, _⟩ := fuel hk
    simp only [spec_l1Has.l0]
    rw [if_pos (by omega), if_pos (by omega), wrap_one (n := l.length) (by omega) (by omega), rd_get l i (by omega), ih k (i + 1) (by omega) (by omega) (by omega)]
    rw [List.drop_eq_getElem_cons (l := l) (i := i) (by omega)]
    by_cases h : l[i]'(by omega) = n
    · rw [if_pos h, h]
      simp
    · rw [if_neg h]
      refine congrArg some ?_
      rw [decide_eq_decide, List.mem_cons]
      exact ⟨.inr, fun e => e.resolve_left fun e => h e.symm⟩
theorem spec_l1Has_eq (l : List Int) (n : Int) (hl : l.length ≤ 1048576) (k : Nat) (hk : l.length < k) : spec_l1Has.f k l n = some (decide (n ∈ l)) := by
  have := spec_l1Has_l0 l n hl l.length k 0 (by omega) (by omega) hk
  exact this

/-! ### sets -/
/-- A list of numbers as a set of bits. -/
def setN (l : List Int) : Nat := l.foldl (fun s p => s ||| 2 ^ p.toNat) 0
theorem testBit_foldl (l : List Int) : ∀ (s i : Nat), (l.foldl (fun s p => s ||| 2 ^ p.toNat) s).testBit i = (s.testBit i || decide (∃ p ∈ l, p.toNat = i)) := by
  induction l with
  | nil => intro s i; simp
  | cons a l ih =>
    intro s i
    rw [List.foldl_cons, ih, Nat.testBit_or, Nat.testBit_two_pow, Bool.or_assoc]
    congr 1
    rw [Bool.eq_iff_iff]
    simp
theorem testBit_setN (l : List Int) (i : Nat) : (setN l).testBit i = decide (∃ p ∈ l, p.toNat = i) := by
  unfold setN
  rw [testBit_foldl]
  simp
theorem foldl_lt (l : List Int) (n : Nat) (hl : ∀ p ∈ l, p < n) (hn : 0 < n) : ∀ s, s < 2 ^ n → l.foldl (fun s p => s ||| 2 ^ p.toNat) s < 2 ^ n := by
  induction l with
  | nil => intro s h; exact h
  | cons a l ih =>
    intro s h
    rw [List.foldl_cons]
    have := hl a (by simp)
    exact ih (fun p hp => hl p (by simp [hp])) _ (Nat.or_lt_two_pow h (Nat.pow_lt_pow_right (by omega) (by omega)))
theorem setN_lt (l : List Int) (n : Nat) (hl : ∀ p ∈ l, p < n) (hn : 0 < n) : setN l < 2 ^ n := foldl_lt l n hl hn 0 (Nat.two_pow_pos n)
theorem setN_u32 (l : List Int) (hl : ∀ p ∈ l, p < 32) : setN l < 4294967296 := setN_lt l 32 hl (by omega)
theorem or_cast (a b : Nat) (ha : a < 4294967296) (hb : b < 4294967296) : Go.bits .or .u32 (a : Int) (b : Int) = ((a ||| b : Nat) : Int) :=
  (bits_nat .u32 32 (by decide) (fun n h h' => by rw [IntKind.wrap_u32]; omega) a b ha hb).2
theorem and_cast (a b : Nat) (ha : a < 4294967296) (hb : b < 4294967296) : Go.bits .and .u32 (a : Int) (b : Int) = ((a &&& b : Nat) : Int) :=
  (bits_nat .u32 32 (by decide) (fun n h h' => by rw [IntKind.wrap_u32]; omega) a b ha hb).1
theorem shl_one (p : Int) (h0 : 0 ≤ p) (h1 : p < 32) : shl .u32 1 p = ((2 ^ p.toNat : Nat) : Int) := by
  unfold shl
  rw [Int.one_mul, IntKind.wrap_u32, show min p.toNat IntKind.u32.bits = p.toNat from Nat.min_eq_left (by show p.toNat ≤ 32; omega)]
  have : 2 ^ p.toNat < 2 ^ 32 := Nat.pow_lt_pow_right (by omega) (by omega)
  have e : ((2 ^ p.toNat : Nat) : Int) = (2 : Int) ^ p.toNat := by simp
  rw [← e]
  generalize 2 ^ p.toNat = y at *
  omega

/-! ### sets2 -/
/-- The bits of a that b has not. -/
def andN (a b : Nat) : Nat := a ^^^ (a &&& b)
theorem testBit_andN (a b i : Nat) : (andN a b).testBit i = (a.testBit i && !b.testBit i) := by
  unfold andN
  rw [Nat.testBit_xor, Nat.testBit_and]
  cases a.testBit i <;> cases b.testBit i <;> rfl
theorem lt_of_bits (x n : Nat) (h : ∀ i, n ≤ i → x.testBit i = false) : x < 2 ^ n := Nat.lt_pow_two_of_testBit x h
theorem andN_lt (a b n : Nat) (ha : a < 2 ^ n) : andN a b < 2 ^ n := by
  refine lt_of_bits _ n fun i hi => ?_
  rw [testBit_andN, Nat.testBit_lt_two_pow (Nat.lt_of_lt_of_le ha (Nat.pow_le_pow_right (by omega) hi))]
  rfl
theorem andNot_cast (a b : Nat) (ha : a < 4294967296) (hb : b < 4294967296) : Go.bits .andNot .u32 (a : Int) (b : Int) = ((andN a b : Nat) : Int) := by
  have e : (BitVec.ofInt 32 (a : Int) &&& ~~~ BitVec.ofInt 32 (b : Int)).toNat = andN a b := by
    refine Nat.eq_of_testBit_eq fun i => ?_
    rw [testBit_andN, BitVec.ofInt_natCast, BitVec.ofInt_natCast]
    show (BitVec.ofNat 32 a &&& ~~~ BitVec.ofNat 32 b).getLsbD i = _
    rw [BitVec.getLsbD_and, BitVec.getLsbD_not, BitVec.getLsbD_ofNat, BitVec.getLsbD_ofNat]
    by_cases h : i < 32
    · simp [h]
    · have e1 : a.testBit i = false := Nat.testBit_lt_two_pow (Nat.lt_of_lt_of_le (show a < 2 ^ 32 from ha) (Nat.pow_le_pow_right (by omega) (by omega)))
      simp [h, e1]
  have hl := andN_lt a b 32 ha
  show IntKind.u32.wrap (((BitVec.ofInt 32 (a : Int) &&& ~~~ BitVec.ofInt 32 (b : Int)).toNat : Nat) : Int) = _
  rw [e, IntKind.wrap_u32]
  omega
/-- The set of all seats of n. -/
theorem all_cast (s : Int) (h0 : 0 ≤ s) (h1 : s ≤ 31) : (shl .u32 1 s - 1) % 4294967296 = ((2 ^ s.toNat - 1 : Nat) : Int) := by
  rw [shl_one s h0 (by omega)]
  have : 0 < 2 ^ s.toNat := Nat.two_pow_pos _
  have h2 : 2 ^ s.toNat < 2 ^ 32 := Nat.pow_lt_pow_right (by omega) (by omega)
  generalize 2 ^ s.toNat = y at *
  omega
theorem testBit_all (n i : Nat) : (2 ^ n - 1).testBit i = decide (i < n) := Nat.testBit_two_pow_sub_one n i

/-! ### pop -/
theorem popAux_filter : ∀ (n x : Nat), Lib.popAux n x = ((List.range n).filter fun i => x.testBit i).length
  | 0, x => by simp [Lib.popAux]
  | n + 1, x => by
    rw [Lib.popAux, popAux_filter n, List.range_succ_eq_map, List.filter_cons, List.filter_map, Nat.testBit_zero]
    have e : ((fun i => x.testBit i) ∘ Nat.succ) = fun i => (x / 2).testBit i := by
      funext i
      simp [Nat.testBit_succ]
    rw [e]
    by_cases h : x % 2 = 1
    · simp [h]
      omega
    · simp [h]
      omega
theorem onesCount_filter (x : Nat) : Lib.onesCount x = ((List.range 64).filter fun i => x.testBit i).length := popAux_filter 64 x
/-- A set whose members are below n: their number. -/
theorem onesCount_below (x n : Nat) (hx : x < 2 ^ n) (hn : n ≤ 64) : Lib.onesCount x = ((List.range n).filter fun i => x.testBit i).length := by
  rw [onesCount_filter, show 64 = n + (64 - n) from by omega, List.range_add, List.filter_append, List.length_append]
  have z : List.filter (fun i => x.testBit i) (List.map (fun x => n + x) (List.range (64 - n))) = [] := by
    rw [List.filter_eq_nil_iff]
    intro i hi
    obtain ⟨j, _, rfl⟩ := List.mem_map.1 hi
    rw [Nat.testBit_lt_two_pow (Nat.lt_of_lt_of_le hx (Nat.pow_le_pow_right (by omega) (by omega)))]
    simp
  rw [z, List.length_nil, Nat.add_zero]

/-! ### cover -/
theorem nodup_cover : ∀ (r l : List Int), r.Nodup → r ⊆ l → l.length ≤ r.length → l.Nodup
  | [], l, _, _, hl => by
    have : l = [] := List.eq_nil_of_length_eq_zero (by simpa using hl)
    subst this
    exact List.nodup_nil
  | a :: t, l, hn, hs, hl => by
    have ha : a ∈ l := hs List.mem_cons_self
    have hc := List.nodup_cons.1 hn
    have hlen := List.length_erase_of_mem ha
    have hpos := List.length_pos_of_mem ha
    have ht : t ⊆ l.erase a := fun x hx => (List.mem_erase_of_ne (by rintro rfl; exact hc.1 hx)).2 (hs (List.mem_cons_of_mem _ hx))
    have hl' : l.length ≤ t.length + 1 := by simpa using hl
    have ih := nodup_cover t (l.erase a) hc.2 ht (by omega)
    refine (List.perm_cons_erase ha).nodup_iff.2 (List.nodup_cons.2 ⟨fun hin => ?_, ih⟩)
    have hs' : (a :: t) ⊆ l.erase a := by
      intro x hx
      rcases List.mem_cons.1 hx with e | e
      · exact e ▸ hin
      · exact ht e
    have := List.Nodup.length_le_of_subset hn hs'
    simp at this
    omega

/-! ### count -/
/-- How many different numbers a list has. -/
theorem count_setN (l : List Int) (hb : ∀ x ∈ l, 0 ≤ x ∧ x < 32) (n : Nat) (hn : n = l.length) : Lib.onesCount (setN l) = n ↔ l.Nodup := by
  rw [onesCount_below (setN l) 32 (setN_lt l 32 (fun p hp => (hb p hp).2) (by omega)) (by omega)]
  let F := ((List.range 32).filter fun i => (setN l).testBit i).map fun i : Nat => (i : Int)
  have hF : F.Nodup := by
    refine List.Pairwise.map _ ?_ (List.Pairwise.filter _ List.nodup_range)
    intro a b hab he
    exact hab (by omega)
  have hFl : F ⊆ l := by
    intro x hx
    obtain ⟨i, hi, rfl⟩ := List.mem_map.1 hx
    have := (List.mem_filter.1 hi).2
    rw [testBit_setN, decide_eq_true_eq] at this
    obtain ⟨p, hp, e⟩ := this
    have := hb p hp
    rw [show (i : Int) = p from by omega]
    exact hp
  have hlF : l ⊆ F := by
    intro x hx
    have := hb x hx
    refine List.mem_map.2 ⟨x.toNat, List.mem_filter.2 ⟨List.mem_range.2 (by omega), ?_⟩, by omega⟩
    rw [testBit_setN, decide_eq_true_eq]
    exact ⟨x, hx, rfl⟩
  have hlen : F.length = ((List.range 32).filter fun i => (setN l).testBit i).length := by simp [F]
  rw [← hlen]
  constructor
  · intro e
    exact nodup_cover F l hF hFl (by omega)
  · intro e
    have h1 := List.Nodup.length_le_of_subset hF hFl
    have h2 := List.Nodup.length_le_of_subset e hlF
    omega

/-! ### impl_setOf -/
theorem impl_setOf_l0 (l : List Int) (hl : l.length ≤ 1048576) (hb : ∀ x ∈ l, 0 ≤ x ∧ x < 32) (d : Nat) : ∀ (k i s : Nat), s < 4294967296 → i ≤ l.length → l.length - i = d → d < k →
    impl_setOf.l0 k (s : Int) l (l.length : Int) i = some (((l.drop i).foldl (fun s p => s ||| 2 ^ p.toNat) s : Nat) : Int) := by
  induction d with
  | zero =>
    intro k i s hs hi hd hk
    obtain ⟨k, rfl, _⟩ := fuel hk
    simp only [impl_setOf.l0]
    rw [if_neg (by omega), List.drop_eq_nil_of_le (by omega)]
    rfl
  | succ d ih =>
    intro k i s hs hi hd hk
    obtain ⟨k, rfl, _⟩ := fuel hk
    obtain ⟨b0, b1⟩ := hb (l[i]'(by omega)) (List.getElem_mem _)
    have hp : 2 ^ (l[i]'(by omega)).toNat < 2 ^ 32 := Nat.pow_lt_pow_right (by omega) (by omega)
    simp only [impl_setOf.l0]
    rw [if_pos (by omega), if_pos (by omega), if_pos (by omega), wrap_one (n := l.length) (by omega) (by omega), rd_get l i (by omega), if_pos b0, shl_one _ b0 b1, or_cast _ _ hs hp]
    rw [ih k (i + 1) _ (Nat.or_lt_two_pow (n := 32) hs hp) (by omega) (by omega) (by omega), List.drop_eq_getElem_cons (l := l) (i := i) (by omega)]
    rfl
theorem impl_setOf_eq (l : List Int) (hl : l.length ≤ 1048576) (hb : ∀ x ∈ l, 0 ≤ x ∧ x < 32) (k : Nat) (hk : l.length < k) : impl_setOf.f k l = some ((setN l : Nat) : Int) :=
  impl_setOf_l0 l hl hb l.length k 0 0 (by omega) (by omega) (by omega) hk

/-! ### impl_count -/
theorem impl_set_count_eq (s : Nat) (hs : s < 4294967296) : impl_set_count.f (s : Int) = some ((Lib.onesCount s : Nat) : Int) := by
  unfold impl_set_count.f bits_OnesCount32.f
  rw [if_pos (by omega)]
  rfl

/-! ### impl_sets -/


/-! ### different -/
/-- Different seats of a line, not too many, all taken or all free. -/
def Seat1 (s : Int) (t seats : List Int) (b : Bool) (j : Nat) : Prop := (0 ≤ seats.getD j 0 ∧ seats.getD j 0 ≤ s - 1) ∧ (seats.getD j 0 ∈ t ↔ b = true) ∧ seats.getD j 0 ∉ seats.take j
def Diff (s : Int) (ring : Bool) (t seats : List Int) (b : Bool) : Prop := (RowOK s ring t ∧ ring = false) ∧ seats.length ≤ 10 ∧ ∀ j, j < seats.length → Seat1 s t seats b j
open Classical in
theorem spec_l10Line_eq (s : Int) (ring : Bool) (t : List Int) (ht : t.length ≤ 1048576) (k : Nat) (hk : t.length < k) : spec_l10Line.f k s ring t = some (decide (RowOK s ring t ∧ ring = false)) := by
  unfold spec_l10Line.f
  rw [spec_l2Row_eq s ring t ht k hk, Option.bind_some]
  by_cases h : RowOK s ring t
  · rw [if_pos (decide_eq_true h)]
    refine congrArg some ?_
    cases ring <;> simp [h]
  · rw [if_neg (by rw [decide_eq_true_eq]; exact h)]
    simp [h]
open Classical in
theorem spec_l2Seat_eq (s : Int) (ring : Bool) (t : List Int) (p : Int) (ht : t.length ≤ 1048576) (k : Nat) (hk : t.length < k) : spec_l2Seat.f k s ring t p = some (decide (RowOK s ring t ∧ 0 ≤ p ∧ p ≤ s - 1)) := by
  unfold spec_l2Seat.f
  rw [spec_l2Row_eq s ring t ht k hk, Option.bind_some]
  by_cases h : RowOK s ring t
  · have := h.1
    rw [if_pos (decide_eq_true h), spec_l1In_eq, Option.bind_some, wrap_id (by omega) (by omega)]
    refine congrArg some ?_
    rw [decide_eq_decide]
    exact ⟨fun e => ⟨h, e⟩, fun e => e.2⟩
  · rw [if_neg (by rw [decide_eq_true_eq]; exact h)]
    simp [h]
open Classical in
theorem spec_l10Different_l0 (s : Int) (ring : Bool) (t seats : List Int) (b : Bool) (ht : t.length ≤ 1048576) (hs : seats.length ≤ 1048576) (d : Nat) : ∀ (k i : Nat), i ≤ seats.length → i ≤ 11 → 11 - i = d → 2 * d + t.length + seats.length + 10 < k → (∀ j, j < i → Seat1 s t seats b j) →
    spec_l10Different.l0 k seats b (i : Int) s ring t = some (decide (Diff s ring t seats b)) := by
  have stop : ∀ (k i : Nat), i ≤ seats.length → (i = seats.length ∨ 11 ≤ i) → (∀ j, j < i → Seat1 s t seats b j) → t.length < k → ((spec_l10Line.f k s ring t).bind fun t127 => (if t127 = true then (some (decide ((seats.length : Int) ≤ 10))) else (some false))) = some (decide (Diff s ring t seats b)) := by
    intro k i hi he hp hk
    rw [spec_l10Line_eq s ring t ht k hk, Option.bind_some]
    by_cases h : RowOK s ring t ∧ ring = false
    · rw [if_pos (decide_eq_true h)]
      refine congrArg some ?_
      rw [decide_eq_decide]
      refine ⟨fun e => ⟨h, by omega, fun j hj => hp j (by omega)⟩, fun e => ?_⟩
      have := e.2.1
      omega
    · rw [if_neg (by rw [decide_eq_true_eq]; exact h)]
      refine congrArg some ?_
      symm
      rw [decide_eq_false_iff_not]
      exact fun e => h e.1
  have false_ : ∀ i, i < seats.length → ¬ (RowOK s ring t ∧ Seat1 s t seats b i) → decide (Diff s ring t seats b) = false := by
    intro i hi g
    rw [decide_eq_false_iff_not]
    exact fun e => g ⟨e.1.1, e.2.2 i hi⟩
  induction d with
  | zero =>
    intro k i hi h11 hd hk hp
    obtain ⟨k, rfl, _⟩ := fuel (show 0 < k by omega)
    obtain ⟨k, rfl, _⟩ := fuel (show 0 < k by omega)
    simp only [spec_l10Different.l0]
    by_cases h : (i : Int) < seats.length
    · rw [if_pos h, decide_eq_false (by omega)]
      simp only [spec_l10Different.j1]
      rw [if_neg (by simp)]
      exact stop k i hi (by omega) hp (by omega)
    · rw [if_neg h]
      simp only [spec_l10Different.j1]
      rw [if_neg (by simp)]
      exact stop k i hi (by omega) hp (by omega)
  | succ d ih =>
    intro k i hi h11 hd hk hp
    obtain ⟨k, rfl, _⟩ := fuel (show 0 < k by omega)
    obtain ⟨k, rfl, _⟩ := fuel (show 0 < k by omega)
    simp only [spec_l10Different.l0]
    by_cases h : (i : Int) < seats.length
    · rw [if_pos h, decide_eq_true (by omega)]
      simp only [spec_l10Different.j1]
      rw [if_pos trivial, if_pos (by omega), if_pos (by omega), spec_l2Seat_eq s ring t _ ht k (by omega), Option.bind_some, rd_nat]
      by_cases g1 : RowOK s ring t ∧ 0 ≤ seats.getD i 0 ∧ seats.getD i 0 ≤ s - 1
      · rw [if_pos (decide_eq_true g1)]
        unfold spec_l2Is.f
        rw [spec_l1Has_eq t _ ht k (by omega), Option.bind_some, Option.bind_some]
        by_cases g2 : seats.getD i 0 ∈ t ↔ b = true
        · rw [if_neg (by cases b <;> simp_all), if_pos (by omega), spec_l1Has_eq _ _ (by simp; omega) k (by simp; omega), Option.bind_some, Int.toNat_natCast]
          by_cases g3 : seats.getD i 0 ∈ seats.take i
          · rw [if_pos (decide_eq_true g3), false_ i (by omega) (fun e => e.2.2.2 g3)]
          · rw [if_neg (by rw [decide_eq_true_eq]; exact g3), wrap_one (n := seats.length) (by omega) (by omega)]
            refine ih k (i + 1) (by omega) (by omega) (by omega) (by omega) fun j hj => ?_
            by_cases e : j = i
            · subst e; exact ⟨g1.2, g2, g3⟩
            · exact hp j (by omega)
        · rw [if_pos (by cases b <;> simp_all), false_ i (by omega) (fun e => g2 e.2.2.1)]
      · rw [if_neg (by rw [decide_eq_true_eq]; exact g1), false_ i (by omega) (fun e => g1 ⟨e.1, e.2.1⟩)]
    · rw [if_neg h]
      simp only [spec_l10Different.j1]
      rw [if_neg (by simp)]
      exact stop k i hi (by omega) hp (by omega)
open Classical in
theorem spec_l10Different_eq (s : Int) (ring : Bool) (t seats : List Int) (b : Bool) (ht : t.length ≤ 1048576) (hs : seats.length ≤ 1048576) (k : Nat) (hk : t.length + seats.length + 40 < k) : spec_l10Different.f k s ring t seats b = some (decide (Diff s ring t seats b)) :=
  spec_l10Different_l0 s ring t seats b ht hs 11 k 0 (by omega) (by omega) (by omega) (by omega) (fun j h => by omega)
theorem impl_areOf_eq (seats : List Int) (S : Nat) (hs : seats.length ≤ 1048576) (hS : S < 4294967296) (k : Nat) (hk : seats.length + 5 < k) :
    ∃ a : Bool, impl_areOf.f k seats (S : Int) = some a ∧ (a = true ↔ seats.length ≤ 10 ∧ (∀ p ∈ seats, (0 ≤ p ∧ p ≤ 23) ∧ S.testBit p.toNat = true) ∧ seats.Nodup) := by
  unfold impl_areOf.f
  obtain ⟨k, rfl, _⟩ := fuel (show 0 < k by omega)
  by_cases h : seats.length ≤ 10
  · rw [if_neg (by omega), impl_allWithin_eq seats _ _ hs _ (by omega), Option.bind_some]
    simp only [impl_areOf.j0]
    by_cases h2 : ∀ p ∈ seats, 0 ≤ p ∧ p ≤ 23
    · have hb : ∀ p ∈ seats, 0 ≤ p ∧ p < 32 := fun p hp => by have := h2 p hp; omega
      have hl : setN seats < 4294967296 := setN_u32 seats fun p hp => (hb p hp).2
      rw [decide_eq_true h2, if_neg (by simp), impl_setOf_eq seats hs hb _ (by omega), Option.bind_some, andNot_cast _ _ hl hS]
      by_cases h3 : ∀ p ∈ seats, S.testBit p.toNat = true
      · have e0 : andN (setN seats) S = 0 := by
          refine Nat.eq_of_testBit_eq fun i => ?_
          rw [testBit_andN, testBit_setN, Nat.zero_testBit]
          by_cases g : ∃ p ∈ seats, p.toNat = i
          · obtain ⟨p, hp, rfl⟩ := g
            rw [h3 p hp]
            simp
          · rw [decide_eq_false g]
            rfl
        rw [if_pos (by rw [e0]; rfl), Option.bind_some, impl_set_count_eq _ hl, Option.bind_some]
        refine ⟨_, rfl, ?_⟩
        rw [beq_iff_eq]
        have := count_setN seats hb seats.length rfl
        constructor
        · intro e
          exact ⟨h, fun p hp => ⟨h2 p hp, h3 p hp⟩, this.1 (by omega)⟩
        · intro e
          have := this.2 e.2.2
          omega
      · rw [if_neg]
        · exact ⟨false, rfl, by simp; intro _ e; exact absurd (fun p hp => (e p hp).2) h3⟩
        · intro e
          refine h3 fun p hp => ?_
          have e0 : andN (setN seats) S = 0 := by omega
          have e1 : (andN (setN seats) S).testBit p.toNat = false := by rw [e0, Nat.zero_testBit]
          rw [testBit_andN, testBit_setN, decide_eq_true ⟨p, hp, rfl⟩] at e1
          simpa using e1
    · rw [decide_eq_false h2]
      exact ⟨false, rfl, by simp; intro _ e; exact absurd (fun p hp => (e p hp).1) h2⟩
  · rw [if_pos (by omega)]
    simp only [impl_areOf.j0]
    exact ⟨false, rfl, by simp; omega⟩
theorem nodup_take (l : List Int) : l.Nodup ↔ ∀ j, j < l.length → l.getD j 0 ∉ l.take j := by
  constructor
  · intro h j hj hm
    obtain ⟨i, hi, e⟩ := List.getElem_of_mem hm
    rw [List.length_take] at hi
    rw [List.getElem_take, show l.getD j 0 = l[j] from by simp [List.getD, hj]] at e
    exact List.pairwise_iff_getElem.1 h i j (by omega) hj (by omega) e
  · intro h
    refine List.pairwise_iff_getElem.2 fun i j hi hj hij e => ?_
    refine h j hj ?_
    rw [show l.getD j 0 = l[j] from by simp [List.getD, hj], ← e]
    exact List.mem_take_iff_getElem.2 ⟨i, by omega, rfl⟩
theorem diff_iff (s : Int) (ring : Bool) (t seats : List Int) (b : Bool) (hr : RowOK s ring t) (hline : ring = false) (S : Nat) (hS : ∀ p : Int, 0 ≤ p → (S.testBit p.toNat = true ↔ (p ≤ s - 1 ∧ (p ∈ t ↔ b = true)))) :
    Diff s ring t seats b ↔ seats.length ≤ 10 ∧ (∀ p ∈ seats, (0 ≤ p ∧ p ≤ 23) ∧ S.testBit p.toNat = true) ∧ seats.Nodup := by
  rw [nodup_take]
  have h24 := hr.1
  constructor
  · intro h
    refine ⟨h.2.1, fun p hp => ?_, fun j hj => (h.2.2 j hj).2.2⟩
    obtain ⟨j, hj, rfl⟩ := List.getElem_of_mem hp
    have := h.2.2 j hj
    unfold Seat1 at this
    rw [show seats.getD j 0 = seats[j] from by simp [List.getD, hj]] at this
    exact ⟨by omega, (hS _ this.1.1).2 ⟨this.1.2, this.2.1⟩⟩
  · intro h
    refine ⟨⟨hr, hline⟩, h.1, fun j hj => ?_⟩
    have h1 := h.2.1 _ (List.getElem_mem hj)
    have h2 := (hS _ h1.1.1).1 h1.2
    have h3 := h.2.2 j hj
    unfold Seat1
    rw [show seats.getD j 0 = seats[j] from by simp [List.getD, hj]] at h3 ⊢
    exact ⟨⟨h1.1.1, h2.1⟩, h2.2, h3⟩
theorem free_bits (s : Int) (ring : Bool) (t : List Int) (hr : RowOK s ring t) (p : Int) (hp : 0 ≤ p) : (andN (2 ^ s.toNat - 1) (setN t)).testBit p.toNat = true ↔ (p ≤ s - 1 ∧ (p ∈ t ↔ false = true)) := by
  have h24 := hr.1
  have hm := rising_mem t _ _ hr.2.2
  rw [testBit_andN, testBit_all, testBit_setN, Bool.and_eq_true, decide_eq_true_eq, Bool.not_eq_true', decide_eq_false_iff_not]
  constructor
  · rintro ⟨h1, h2⟩
    refine ⟨by omega, ?_⟩
    simp only [Bool.false_eq_true, iff_false]
    exact fun e => h2 ⟨p, e, rfl⟩
  · rintro ⟨h1, h2⟩
    refine ⟨by omega, ?_⟩
    rintro ⟨q, hq, e⟩
    have := hm q hq
    simp only [Bool.false_eq_true, iff_false] at h2
    exact h2 (by rw [show p = q from by omega]; exact hq)
theorem taken_bits (s : Int) (ring : Bool) (t : List Int) (hr : RowOK s ring t) (p : Int) (hp : 0 ≤ p) : (setN t).testBit p.toNat = true ↔ (p ≤ s - 1 ∧ (p ∈ t ↔ true = true)) := by
  have hm := rising_mem t _ _ hr.2.2
  rw [testBit_setN, decide_eq_true_eq]
  constructor
  · rintro ⟨q, hq, e⟩
    have := hm q hq
    have e2 : p = q := by omega
    subst e2
    exact ⟨this.2, by simp [hq]⟩
  · rintro ⟨_, h2⟩
    exact ⟨p, h2.2 rfl, rfl⟩
theorem taken_lt (s : Int) (ring : Bool) (t : List Int) (hr : RowOK s ring t) : (∀ x ∈ t, 0 ≤ x ∧ x < 32) ∧ setN t < 4294967296 := by
  have hm := rising_mem t _ _ hr.2.2
  have h24 := hr.1
  exact ⟨fun x hx => by have := hm x hx; omega, setN_u32 t fun x hx => by have := hm x hx; omega⟩
theorem impl_taken_eq (s : Int) (ring : Bool) (t : List Int) (hr : RowOK s ring t) (k : Nat) (hk : t.length < k) : impl_Row_taken.f k s ring t = some ((setN t : Nat) : Int) := by
  unfold impl_Row_taken.f
  have := row_len s ring t hr
  rw [impl_setOf_eq t (by omega) (taken_lt s ring t hr).1 k hk, Option.bind_some]
open Classical in
theorem impl_isLine_eq (s : Int) (ring : Bool) (t : List Int) (ht : t.length ≤ 1048576) (k : Nat) (hk : t.length + 3 < k) : impl_isLine.f k s ring t = some (decide (RowOK s ring t ∧ ring = false)) := by
  unfold impl_isLine.f
  rw [impl_IsRow_eq s ring t ht k hk, Option.bind_some]
  by_cases h : RowOK s ring t
  · rw [if_pos (decide_eq_true h)]
    refine congrArg some ?_
    cases ring <;> simp [h]
  · rw [if_neg (by rw [decide_eq_true_eq]; exact h)]
    simp [h]

/-! ### rowfree -/
theorem impl_free_eq (s : Int) (ring : Bool) (t : List Int) (hr : RowOK s ring t) (k : Nat) (hk : t.length < k) : impl_Row_free.f k s ring t = some ((andN (2 ^ s.toNat - 1) (setN t) : Nat) : Int) := by
  unfold impl_Row_free.f
  have h24 := hr.1
  have hp : 2 ^ s.toNat < 2 ^ 32 := Nat.pow_lt_pow_right (by omega) (by omega)
  rw [impl_Row_bench.f, Option.bind_some]
  dsimp only
  unfold impl_bench_all.f
  rw [if_pos (by omega), Option.bind_some, impl_taken_eq s ring t hr k hk, Option.bind_some, all_cast s (by omega) (by omega), andNot_cast _ _ (by omega) (taken_lt s ring t hr).2]
theorem free_lt (s : Int) (ring : Bool) (t : List Int) (hr : RowOK s ring t) : andN (2 ^ s.toNat - 1) (setN t) < 4294967296 := by
  have h24 := hr.1
  have hp : 2 ^ s.toNat < 2 ^ 32 := Nat.pow_lt_pow_right (by omega) (by omega)
  exact andN_lt _ _ 32 (by omega)

/-! ### between -/
theorem filter_snoc (l : List Int) (q : Int → Bool) (i : Nat) (hi : i < l.length) : (l.take (i + 1)).filter q = (l.take i).filter q ++ (if q l[i] then [l[i]] else []) := by
  rw [List.take_add_one, List.getElem?_eq_getElem hi, Option.toList_some, List.filter_append]
  by_cases h : q l[i] = true
  · simp [h]
  · simp [h]
theorem spec_between_l0 (s : Int) (ring : Bool) (t : List Int) (p : Int) (ht : t.length ≤ 1048576) (d : Nat) : ∀ (k i : Nat), i ≤ t.length → t.length - i = d → d < k →
    spec_l10Between.l0 k p (((t.take i).filter fun x => decide (x < p)).length : Int) (((t.take i).filter fun x => decide (p < x)).length : Int) i s ring t = some (((t.filter fun x => decide (x < p)).length : Int), ((t.filter fun x => decide (p < x)).length : Int)) := by
  induction d with
  | zero =>
    intro k i hi hd hk
    obtain ⟨k, rfl, _⟩ := fuel hk
    simp only [spec_l10Between.l0]
    rw [if_neg (by omega), List.take_of_length_le (by omega)]
  | succ d ih =>
    intro k i hi hd hk
    obtain ⟨k, rfl, _⟩ := fuel hk
    have h := ih k (i + 1) (by omega) (by omega) (by omega)
    rw [filter_snoc t _ i (by omega), filter_snoc t _ i (by omega), List.length_append, List.length_append] at h
    have l1 : ((t.take i).filter fun x => decide (x < p)).length ≤ i := Nat.le_trans (List.length_filter_le _ _) (by simp; omega)
    have l2 : ((t.take i).filter fun x => decide (p < x)).length ≤ i := Nat.le_trans (List.length_filter_le _ _) (by simp; omega)
    simp only [spec_l10Between.l0]
    rw [if_pos (by omega), if_pos (by omega), rd_get t i (by omega), wrap_one (n := t.length) (i := i) (by omega) (by omega)]
    by_cases g : t[i]'(by omega) < p
    · rw [if_pos g, if_neg (by omega), wrap_one (n := t.length) (by omega) (by omega)]
      rw [if_pos (decide_eq_true g), if_neg (by simp; omega)] at h
      exact h
    · rw [if_neg g]
      by_cases g2 : t[i]'(by omega) > p
      · rw [if_pos g2, wrap_one (n := t.length) (by omega) (by omega)]
        rw [if_neg (by simpa using g), if_pos (decide_eq_true g2)] at h
        exact h
      · rw [if_neg g2]
        rw [if_neg (by simpa using g), if_neg (by simpa using g2)] at h
        exact h
theorem spec_between_eq (s : Int) (ring : Bool) (t : List Int) (p : Int) (ht : t.length ≤ 1048576) (k : Nat) (hk : t.length < k) :
    spec_l10Between.f k s ring t p = some (((t.filter fun x => decide (x < p)).length : Int), ((t.filter fun x => decide (p < x)).length : Int)) :=
  spec_between_l0 s ring t p ht t.length k 0 (by omega) (by omega) hk

/-! ### stands -/
/-- The numbers of a list that nobody has twice, all in 0..31. -/
structure Seats (t : List Int) : Prop where
  low : ∀ x ∈ t, 0 ≤ x ∧ x < 32
  nodup : t.Nodup
theorem seats_filter {t : List Int} (h : Seats t) (q : Int → Bool) : Seats (t.filter q) := ⟨fun x hx => h.low x (List.mem_filter.1 hx).1, List.Pairwise.filter _ h.nodup⟩
theorem seats_lt {t : List Int} (h : Seats t) : setN t < 4294967296 := setN_u32 t fun x hx => (h.low x hx).2
theorem seats_len {t : List Int} (h : Seats t) : t.length ≤ 32 := by
  have hs : t ⊆ (List.range 32).map fun i : Nat => (i : Int) := by
    intro x hx
    have := h.low x hx
    exact List.mem_map.2 ⟨x.toNat, List.mem_range.2 (by omega), by omega⟩
  have := List.Nodup.length_le_of_subset h.nodup hs
  simpa using this
theorem row_seats {s : Int} {ring : Bool} {t : List Int} (h : RowOK s ring t) : Seats t := ⟨fun x hx => by
  have := rising_mem t _ _ h.2.2 x hx
  have := h.1
  omega, rising_nodup t _ _ h.2.2⟩
theorem setN_ext (S : Nat) (l : List Int) (h : ∀ i, S.testBit i = true ↔ ∃ p ∈ l, p.toNat = i) : S = setN l := by
  refine Nat.eq_of_testBit_eq fun i => ?_
  rw [testBit_setN, Bool.eq_iff_iff, h, decide_eq_true_eq]
theorem left_set {t : List Int} (h : Seats t) (p : Int) (h0 : 0 ≤ p) : setN t &&& (2 ^ p.toNat - 1) = setN (t.filter fun x => decide (x < p)) := by
  refine setN_ext _ _ fun i => ?_
  rw [Nat.testBit_and, testBit_setN, testBit_all, Bool.and_eq_true, decide_eq_true_eq, decide_eq_true_eq]
  constructor
  · rintro ⟨⟨x, hx, e⟩, hi⟩
    have := h.low x hx
    exact ⟨x, List.mem_filter.2 ⟨hx, decide_eq_true (by omega)⟩, e⟩
  · rintro ⟨x, hx, e⟩
    have h1 := List.mem_filter.1 hx
    have := h.low x h1.1
    have := of_decide_eq_true h1.2
    exact ⟨⟨x, h1.1, e⟩, by omega⟩
theorem right_set {t : List Int} (h : Seats t) (p : Int) (h0 : 0 ≤ p) : setN t / 2 ^ p.toNat = setN ((t.filter fun x => decide (p ≤ x)).map fun x => x - p) := by
  refine setN_ext _ _ fun i => ?_
  rw [Nat.testBit_div_two_pow, testBit_setN, decide_eq_true_eq]
  constructor
  · rintro ⟨x, hx, e⟩
    have := h.low x hx
    exact ⟨x - p, List.mem_map.2 ⟨x, List.mem_filter.2 ⟨hx, decide_eq_true (by omega)⟩, rfl⟩, by omega⟩
  · rintro ⟨y, hy, e⟩
    obtain ⟨x, hx, rfl⟩ := List.mem_map.1 hy
    have h1 := List.mem_filter.1 hx
    have := h.low x h1.1
    have := of_decide_eq_true h1.2
    exact ⟨x, h1.1, by omega⟩
theorem count_seats {t : List Int} (h : Seats t) : Lib.onesCount (setN t) = t.length := (count_setN t h.low t.length rfl).2 h.nodup
theorem right_seats {t : List Int} (h : Seats t) (p : Int) (h0 : 0 ≤ p) : Seats ((t.filter fun x => decide (p ≤ x)).map fun x => x - p) := by
  refine ⟨fun y hy => ?_, ?_⟩
  · obtain ⟨x, hx, rfl⟩ := List.mem_map.1 hy
    have h1 := List.mem_filter.1 hx
    have := h.low x h1.1
    have := of_decide_eq_true h1.2
    omega
  · refine List.Pairwise.map _ ?_ (List.Pairwise.filter _ h.nodup)
    intro a b hab he
    exact hab (by omega)
theorem impl_stands_eq {t : List Int} (h : Seats t) (p : Int) (h0 : 0 ≤ p) (h1 : p ≤ 23) (both : Bool) :
    impl_stands.f ((setN t : Nat) : Int) p both = some (if both = true ∧ (t.filter fun x => decide (p ≤ x)).length < (t.filter fun x => decide (x < p)).length then (((t.filter fun x => decide (p ≤ x)).length : Int), 1) else (((t.filter fun x => decide (x < p)).length : Int), 0)) := by
  have hS := seats_lt h
  have hp : 2 ^ p.toNat < 2 ^ 32 := Nat.pow_lt_pow_right (by omega) (by omega)
  have hd : setN t / 2 ^ p.toNat ≤ setN t := Nat.div_le_self _ _
  have e1 : shr .u32 ((setN t : Nat) : Int) p = ((setN t / 2 ^ p.toNat : Nat) : Int) := by
    unfold shr
    rw [show min p.toNat IntKind.u32.bits = p.toNat from Nat.min_eq_left (by show p.toNat ≤ 32; omega)]
    simp
  unfold impl_stands.f
  rw [if_pos h0, all_cast p h0 (by omega), and_cast _ _ hS (by omega), left_set h p h0, impl_set_count_eq _ (seats_lt (seats_filter h _)), Option.bind_some, e1, impl_set_count_eq _ (by omega), Option.bind_some, count_seats (seats_filter h _), right_set h p h0, count_seats (right_seats h p h0), List.length_map]
  cases both with
  | true =>
    rw [if_pos rfl]
    by_cases g : (t.filter fun x => decide (p ≤ x)).length < (t.filter fun x => decide (x < p)).length
    · rw [if_pos (by omega), if_pos ⟨rfl, g⟩]
    · rw [if_neg (by omega), if_neg (fun e => g e.2)]
  | false =>
    rw [if_neg (by simp), if_neg (by simp)]
theorem impl_stands_left {t : List Int} (h : Seats t) (p : Int) (h0 : 0 ≤ p) (h1 : p ≤ 23) : impl_stands.f ((setN t : Nat) : Int) p false = some (((t.filter fun x => decide (x < p)).length : Int), 0) := by
  rw [impl_stands_eq h p h0 h1, if_neg (by simp)]

/-! ### own -/
theorem spec_l1Own_eq (l : List Int) (h : l.length < 17592186044416) : spec_l1Own.f l = some l := by
  unfold spec_l1Own.f
  rw [Option.bind_some, if_pos (by simpa using h)]
  rfl

/-! ### put -/
/-- A number put to its place. -/
def putL (t : List Int) (p : Int) : List Int := (t.filter fun x => decide (x < p)) ++ p :: t.filter fun x => decide (p < x)
theorem rising_split (t : List Int) (p : Int) (hr : ∀ i j, (h : i < j) → (hj : j < t.length) → t[i]'(by omega) < t[j]) (i : Nat) (hi : i ≤ t.length) (h1 : ∀ j, (h : j < i) → t[j]'(by omega) < p) (h2 : ∀ j, i ≤ j → (hj : j < t.length) → p < t[j]) :
    t.take i = (t.filter fun x => decide (x < p)) ∧ t.drop i = (t.filter fun x => decide (p < x)) := by
  have e := (List.take_append_drop i t).symm
  have a1 : ∀ x ∈ t.take i, x < p := fun x hx => by
    obtain ⟨j, hj, rfl⟩ := List.getElem_of_mem hx
    rw [List.length_take] at hj
    rw [List.getElem_take]
    exact h1 j (by omega)
  have a2 : ∀ x ∈ t.drop i, p < x := fun x hx => by
    obtain ⟨j, hj, rfl⟩ := List.getElem_of_mem hx
    rw [List.length_drop] at hj
    rw [List.getElem_drop]
    exact h2 _ (by omega) (by omega)
  constructor
  · conv => rhs; rw [e]
    rw [List.filter_append, List.filter_eq_self.2 (fun x hx => decide_eq_true (a1 x hx)), List.filter_eq_nil_iff.2 (fun x hx => by have := a2 x hx; simp; omega), List.append_nil]
  · conv => rhs; rw [e]
    rw [List.filter_append, List.filter_eq_nil_iff.2 (fun x hx => by have := a1 x hx; simp; omega), List.filter_eq_self.2 (fun x hx => decide_eq_true (a2 x hx)), List.nil_append]
theorem spec_l1Put_l0 (t : List Int) (p : Int) (ht : t.length ≤ 1048576) (hr : ∀ i j, (h : i < j) → (hj : j < t.length) → t[i]'(by omega) < t[j]) (hp : p ∉ t) (d : Nat) : ∀ (k i : Nat), i ≤ t.length → t.length - i = d → d < k → (∀ j, (h : j < i) → (hj : j < t.length) → t[j] < p) →
    spec_l1Put.l0 k t p (i : Int) = some (putL t p) := by
  have done : ∀ i, i ≤ t.length → (∀ j, (h : j < i) → (hj : j < t.length) → t[j] < p) → (∀ j, i ≤ j → (hj : j < t.length) → p < t[j]) → [] ++ t.take i ++ [p] ++ t.drop i = putL t p := by
    intro i hi h1 h2
    obtain ⟨e1, e2⟩ := rising_split t p hr i hi (fun j hj => h1 j hj (by omega)) h2
    rw [e1, e2]
    simp [putL]
  induction d with
  | zero =>
    intro k i hi hd hk h1
    obtain ⟨k, rfl, _⟩ := fuel hk
    simp only [spec_l1Put.l0]
    rw [if_neg (by omega), Option.bind_some, if_pos (by omega), if_pos (by omega), if_pos (by simp; omega), Option.bind_some, Option.bind_some, if_pos (by simp; omega), Option.bind_some, if_pos (by simp; omega), Int.toNat_natCast, done i hi h1 (fun j hj hj' => by omega)]
  | succ d ih =>
    intro k i hi hd hk h1
    obtain ⟨k, rfl, _⟩ := fuel hk
    simp only [spec_l1Put.l0]
    rw [if_pos (by omega), if_pos (by omega), rd_get t i (by omega)]
    by_cases g : t[i]'(by omega) < p
    · rw [if_pos g, wrap_one (n := t.length) (by omega) (by omega)]
      refine ih k (i + 1) (by omega) (by omega) (by omega) fun j hj hj' => ?_
      by_cases e : j = i
      · subst e; exact g
      · exact h1 j (by omega) hj'
    · have hne : t[i]'(by omega) ≠ p := fun e => hp (e ▸ List.getElem_mem _)
      rw [if_neg g, if_neg hne, Option.bind_some, if_pos (by omega), if_pos (by simp; omega), Option.bind_some, Option.bind_some, if_pos (by simp; omega), Option.bind_some, if_pos (by simp; omega), Int.toNat_natCast, done i hi h1]
      intro j hj hj'
      by_cases e : j = i
      · subst e; omega
      · have := hr i j (by omega) hj'
        omega
theorem spec_l1Put_eq (t : List Int) (p : Int) (ht : t.length ≤ 1048576) (hr : ∀ i j, (h : i < j) → (hj : j < t.length) → t[i]'(by omega) < t[j]) (hp : p ∉ t) (k : Nat) (hk : t.length < k) : spec_l1Put.f k t p = some (putL t p) :=
  spec_l1Put_l0 t p ht hr hp t.length k 0 (by omega) (by omega) hk (fun j h => by omega)
theorem spec_l2With_eq (s : Int) (ring : Bool) (t : List Int) (p : Int) (ht : t.length ≤ 1048576) (hr : ∀ i j, (h : i < j) → (hj : j < t.length) → t[i]'(by omega) < t[j]) (hp : p ∉ t) (k : Nat) (hk : t.length < k) : spec_l2With.f k s ring t p = some (s, ring, putL t p) := by
  unfold spec_l2With.f
  rw [spec_l1Own_eq t (by omega), Option.bind_some, spec_l1Put_eq t p ht hr hp k hk, Option.bind_some, spec_l2Made.f, Option.bind_some]
theorem mem_put (t : List Int) (p x : Int) (hp : p ∉ t) : x ∈ putL t p ↔ x = p ∨ x ∈ t := by
  unfold putL
  rw [List.mem_append, List.mem_cons, List.mem_filter, List.mem_filter, decide_eq_true_eq, decide_eq_true_eq]
  constructor
  · rintro (e | e | e)
    · exact .inr e.1
    · exact .inl e
    · exact .inr e.1
  · rintro (e | e)
    · exact .inr (.inl e)
    · rcases Int.lt_trichotomy x p with g | g | g
      · exact .inl ⟨e, g⟩
      · exact .inr (.inl g)
      · exact .inr (.inr ⟨e, g⟩)
theorem rising_of (t : List Int) (h : t.Pairwise (· < ·)) : ∀ i j, (h : i < j) → (hj : j < t.length) → t[i]'(by omega) < t[j] := fun i j hij hj => List.pairwise_iff_getElem.1 h i j (by omega) hj hij
theorem put_pairwise (t : List Int) (p : Int) (h : t.Pairwise (· < ·)) : (putL t p).Pairwise (· < ·) := by
  unfold putL
  rw [List.pairwise_append]
  refine ⟨List.Pairwise.filter _ h, List.pairwise_cons.2 ⟨fun x hx => ?_, List.Pairwise.filter _ h⟩, fun a ha b hb => ?_⟩
  · exact of_decide_eq_true (List.mem_filter.1 hx).2
  · have h1 := of_decide_eq_true (List.mem_filter.1 ha).2
    rcases List.mem_cons.1 hb with e | e
    · omega
    · have h2 := of_decide_eq_true (List.mem_filter.1 e).2
      omega
theorem row_pairwise {s : Int} {ring : Bool} {t : List Int} (h : RowOK s ring t) : t.Pairwise (· < ·) := List.pairwise_iff_getElem.2 fun i j hi hj hij => rising_lt t _ _ h.2.2 i j hij hj
theorem put_seats {t : List Int} (h : Seats t) (hw : t.Pairwise (· < ·)) (p : Int) (h0 : 0 ≤ p) (h1 : p < 32) (hp : p ∉ t) : Seats (putL t p) := by
  refine ⟨fun x hx => ?_, ?_⟩
  · rcases (mem_put t p x hp).1 hx with e | e
    · omega
    · exact h.low x e
  · refine List.Pairwise.imp ?_ (put_pairwise t p hw)
    intro a b hab e
    omega
theorem put_set (t : List Int) (p : Int) (hp : p ∉ t) : setN t ||| 2 ^ p.toNat = setN (putL t p) := by
  refine setN_ext _ _ fun i => ?_
  rw [Nat.testBit_or, testBit_setN, Nat.testBit_two_pow, Bool.or_eq_true, decide_eq_true_eq, decide_eq_true_eq]
  constructor
  · rintro (⟨x, hx, e⟩ | e)
    · exact ⟨x, (mem_put t p x hp).2 (.inr hx), e⟩
    · exact ⟨p, (mem_put t p p hp).2 (.inl rfl), e⟩
  · rintro ⟨x, hx, e⟩
    rcases (mem_put t p x hp).1 hx with g | g
    · subst g; exact .inr e
    · exact .inl ⟨x, g, e⟩
theorem filter_ge (t : List Int) (p : Int) (hp : p ∉ t) : (t.filter fun x => decide (p ≤ x)) = t.filter fun x => decide (p < x) := by
  refine List.filter_congr fun x hx => ?_
  rw [decide_eq_decide]
  constructor
  · intro e
    have : x ≠ p := fun z => hp (z ▸ hx)
    omega
  · intro e; omega

/-! ### law_FnExactStandsOf -/
def leftN (t : List Int) (p : Int) : Nat := (t.filter fun x => decide (x < p)).length
def rightN (t : List Int) (p : Int) : Nat := (t.filter fun x => decide (p < x)).length
def ownN (t : List Int) (both : Bool) (p : Int) : Int := if both = true ∧ rightN t p < leftN t p then (rightN t p : Int) else (leftN t p : Int)
def standL (both : Bool) : List Int → List Int → List Int
  | _, [] => []
  | t, p :: ps => ownN t both p :: standL both (putL t p) ps
theorem standL_length (both : Bool) : ∀ (ps t : List Int), (standL both t ps).length = ps.length
  | [], _ => rfl
  | _ :: ps, _ => by simp [standL, standL_length both ps]
theorem own_le {t : List Int} (h : Seats t) (both : Bool) (p : Int) : 0 ≤ ownN t both p ∧ ownN t both p ≤ 32 := by
  have hl := seats_len h
  have h1 : leftN t p ≤ t.length := List.length_filter_le _ _
  have h2 : rightN t p ≤ t.length := List.length_filter_le _ _
  unfold ownN
  split <;> omega
theorem spec_own_eq (s : Int) (ring : Bool) (t : List Int) (p : Int) (both : Bool) (ht : t.length ≤ 1048576) (k : Nat) (hk : t.length < k) : spec_l10Stands.f k s ring t p both = some (ownN t both p) := by
  unfold spec_l10Stands.f
  rw [spec_between_eq s ring t p ht k hk, Option.bind_some]
  dsimp only
  cases both with
  | true =>
    rw [if_pos rfl]
    unfold spec_l1Least.f ownN leftN rightN
    by_cases g : (t.filter fun x => decide (p < x)).length < (t.filter fun x => decide (x < p)).length
    · rw [if_neg (by omega), Option.bind_some, if_pos ⟨rfl, g⟩]
    · by_cases g2 : (t.filter fun x => decide (x < p)).length < (t.filter fun x => decide (p < x)).length
      · rw [if_pos (by omega), Option.bind_some, if_neg (fun e => g e.2)]
      · rw [if_neg (by omega), Option.bind_some, if_neg (fun e => g e.2)]
        refine congrArg some ?_
        omega
  | false =>
    rw [if_neg (by simp)]
    unfold ownN leftN
    rw [if_neg (by simp)]
theorem impl_own_eq {t : List Int} (h : Seats t) (p : Int) (h0 : 0 ≤ p) (h1 : p ≤ 23) (hp : p ∉ t) (both : Bool) : ∃ z, impl_stands.f ((setN t : Nat) : Int) p both = some (ownN t both p, z) := by
  rw [impl_stands_eq h p h0 h1, filter_ge t p hp]
  unfold ownN leftN rightN
  by_cases g : both = true ∧ (t.filter fun x => decide (p < x)).length < (t.filter fun x => decide (x < p)).length
  · rw [if_pos g, if_pos g]; exact ⟨_, rfl⟩
  · rw [if_neg g, if_neg g]; exact ⟨_, rfl⟩
theorem spec_stands_l0 (s : Int) (ring both : Bool) (seats : List Int) (hs : seats.length ≤ 10) (hb : ∀ p ∈ seats, 0 ≤ p ∧ p ≤ 23) (hn : seats.Nodup) (d : Nat) : ∀ (k i : Nat) (t out : List Int) (acc : Int), Seats t → t.Pairwise (· < ·) → (∀ j, i ≤ j → (hj : j < seats.length) → seats[j] ∉ t) → i ≤ seats.length → seats.length - i = d → d + 40 < k → out.length ≤ i → 0 ≤ acc → acc ≤ 40 * i →
    spec_StandsOf.l0 k seats both out acc (i : Int) s ring t = some (out ++ standL both t (seats.drop i), acc + (standL both t (seats.drop i)).sum, true) := by
  induction d with
  | zero =>
    intro k i t out acc h hw hf hi hd hk ho h0 h1
    obtain ⟨k, rfl, _⟩ := fuel (show 0 < k by omega)
    simp only [spec_StandsOf.l0]
    rw [if_neg (by omega), List.drop_eq_nil_of_le (by omega)]
    simp [standL]
  | succ d ih =>
    intro k i t out acc h hw hf hi hd hk ho h0 h1
    obtain ⟨k, rfl, _⟩ := fuel (show 0 < k by omega)
    have hl := seats_len h
    have hp := hb (seats[i]'(by omega)) (List.getElem_mem _)
    have hnot := hf i (Nat.le_refl _) (by omega)
    have hf' : ∀ j, i + 1 ≤ j → (hj : j < seats.length) → seats[j] ∉ putL t (seats[i]'(by omega)) := fun j hij hj e => by
      rcases (mem_put t _ _ hnot).1 e with g | g
      · exact (List.pairwise_iff_getElem.1 hn i j (by omega) hj (by omega)) g.symm
      · exact hf j (by omega) hj g
    have ho2 := own_le h both (seats[i]'(by omega))
    simp only [spec_StandsOf.l0]
    rw [if_pos (by omega), if_pos (by omega), rd_get seats i (by omega), spec_own_eq s ring t _ both (by omega) k (by omega), Option.bind_some, if_pos (by omega), spec_l2With_eq s ring t _ (by omega) (rising_of t hw) hnot k (by omega), Option.bind_some]
    dsimp only
    rw [wrap_one (n := seats.length) (by omega) (by omega), wrap_id (by omega) (by omega), ih k (i + 1) _ _ _ (put_seats h hw _ hp.1 (by omega) hnot) (put_pairwise t _ hw) hf' (by omega) (by omega) (by omega) (by simp; omega) (by omega) (by omega)]
    rw [List.drop_eq_getElem_cons (l := seats) (i := i) (by omega), standL, List.sum_cons, List.append_assoc]
    refine congrArg some (Prod.ext rfl (Prod.ext ?_ rfl))
    dsimp only
    omega
theorem impl_stands_l0 (both : Bool) (seats : List Int) (hs : seats.length ≤ 10) (hb : ∀ p ∈ seats, 0 ≤ p ∧ p ≤ 23) (hn : seats.Nodup) (d : Nat) : ∀ (k i : Nat) (t out : List Int) (acc : Int), Seats t → t.Pairwise (· < ·) → (∀ j, i ≤ j → (hj : j < seats.length) → seats[j] ∉ t) → i ≤ seats.length → seats.length - i = d → d + 40 < k → out.length ≤ i → 0 ≤ acc → acc ≤ 40 * i →
    impl_StandsOf.l0 k both out acc ((setN t : Nat) : Int) seats (seats.length : Int) (i : Int) = some (out ++ standL both t (seats.drop i), acc + (standL both t (seats.drop i)).sum, true) := by
  induction d with
  | zero =>
    intro k i t out acc h hw hf hi hd hk ho h0 h1
    obtain ⟨k, rfl, _⟩ := fuel (show 0 < k by omega)
    simp only [impl_StandsOf.l0]
    rw [if_neg (by omega), List.drop_eq_nil_of_le (by omega)]
    simp [standL]
  | succ d ih =>
    intro k i t out acc h hw hf hi hd hk ho h0 h1
    obtain ⟨k, rfl, _⟩ := fuel (show 0 < k by omega)
    have hp := hb (seats[i]'(by omega)) (List.getElem_mem _)
    have hnot := hf i (Nat.le_refl _) (by omega)
    have hf' : ∀ j, i + 1 ≤ j → (hj : j < seats.length) → seats[j] ∉ putL t (seats[i]'(by omega)) := fun j hij hj e => by
      rcases (mem_put t _ _ hnot).1 e with g | g
      · exact (List.pairwise_iff_getElem.1 hn i j (by omega) hj (by omega)) g.symm
      · exact hf j (by omega) hj g
    have h2 : 2 ^ (seats[i]'(by omega)).toNat < 2 ^ 32 := Nat.pow_lt_pow_right (by omega) (by omega)
    have hset := put_set t _ hnot
    have ho2 := own_le h both (seats[i]'(by omega))
    obtain ⟨z, hz⟩ := impl_own_eq h _ hp.1 hp.2 hnot both
    simp only [impl_StandsOf.l0]
    rw [if_pos (by omega), if_pos (by omega), if_pos (by omega), rd_get seats i (by omega), hz, Option.bind_some, if_pos (by omega), if_pos (by omega), shl_one _ hp.1 (by omega), or_cast _ _ (seats_lt h) (by omega), hset]
    dsimp only
    rw [wrap_one (n := seats.length) (by omega) (by omega), wrap_id (by omega) (by omega), ih k (i + 1) _ _ _ (put_seats h hw _ hp.1 (by omega) hnot) (put_pairwise t _ hw) hf' (by omega) (by omega) (by omega) (by simp; omega) (by omega) (by omega)]
    rw [List.drop_eq_getElem_cons (l := seats) (i := i) (by omega), standL, List.sum_cons, List.append_assoc]
    refine congrArg some (Prod.ext rfl (Prod.ext ?_ rfl))
    dsimp only
    omega
open Classical in
theorem stands_both (s : Int) (ring : Bool) (t seats : List Int) (both : Bool) (ht : t.length ≤ 1048576) (hs : seats.length ≤ 1048576) : ∃ (l : List Int) (n : Int) (b : Bool), l.length ≤ 1048576 ∧ Ev (fun k => spec_StandsOf.f k s ring t seats both) (l, n, b) ∧ Ev (fun k => impl_StandsOf.f k s ring t seats both) (l, n, b) := by
  by_cases h : Diff s ring t seats false
  · have hd := (diff_iff s ring t seats false h.1.1 h.1.2 _ (fun p hp => free_bits s ring t h.1.1 p hp)).1 h
    have hnot : ∀ j, 0 ≤ j → (hj : j < seats.length) → seats[j] ∉ t := fun j _ hj e => by
      have := (h.2.2 j hj).2.1
      rw [show seats.getD j 0 = seats[j] from by simp [List.getD, hj]] at this
      exact absurd (this.1 e) (by simp)
    refine ⟨standL both t seats, (standL both t seats).sum, true, by rw [standL_length]; omega, Ev.bound (t.length + seats.length + 200) fun k hk => ?_, Ev.bound (t.length + seats.length + 200) fun k hk => ?_⟩
    · unfold spec_StandsOf.f
      rw [Option.bind_some, spec_l10Different_eq s ring t seats false ht hs k (by omega), Option.bind_some, if_pos (decide_eq_true h)]
      have := spec_stands_l0 s ring both seats hd.1 (fun p hp => (hd.2.1 p hp).1) hd.2.2 seats.length k 0 t [] 0 (row_seats h.1.1) (row_pairwise h.1.1) hnot (by omega) (by omega) (by omega) (by simp) (by omega) (by omega)
      rw [List.drop_zero, List.nil_append, Int.zero_add] at this
      exact this
    · obtain ⟨k, rfl, _⟩ := fuel (show 0 < k by omega)
      unfold impl_StandsOf.f
      rw [impl_isLine_eq s ring t ht _ (by omega), Option.bind_some, if_pos (decide_eq_true h.1), impl_free_eq s ring t h.1.1 _ (by omega), Option.bind_some]
      obtain ⟨a, e, ha⟩ := impl_areOf_eq seats (andN (2 ^ s.toNat - 1) (setN t)) hs (free_lt s ring t h.1.1) (k + 1) (by omega)
      rw [e, Option.bind_some, ha.2 hd]
      simp only [impl_StandsOf.j0]
      rw [if_neg (by simp), impl_taken_eq s ring t h.1.1 _ (by omega), Option.bind_some]
      have := impl_stands_l0 both seats hd.1 (fun p hp => (hd.2.1 p hp).1) hd.2.2 seats.length k 0 t [] 0 (row_seats h.1.1) (row_pairwise h.1.1) hnot (by omega) (by omega) (by omega) (by simp) (by omega) (by omega)
      rw [List.drop_zero, List.nil_append, Int.zero_add] at this
      exact this
  · refine ⟨[], 0, false, by simp, Ev.bound (t.length + seats.length + 200) fun k hk => ?_, Ev.bound (t.length + seats.length + 200) fun k hk => ?_⟩
    · unfold spec_StandsOf.f
      rw [Option.bind_some, spec_l10Different_eq s ring t seats false ht hs k (by omega), Option.bind_some, if_neg (by rw [decide_eq_true_eq]; exact h)]
    · obtain ⟨k, rfl, _⟩ := fuel (show 0 < k by omega)
      unfold impl_StandsOf.f
      rw [impl_isLine_eq s ring t ht _ (by omega), Option.bind_some]
      by_cases g : RowOK s ring t ∧ ring = false
      · rw [if_pos (decide_eq_true g), impl_free_eq s ring t g.1 _ (by omega), Option.bind_some]
        obtain ⟨a, e, ha⟩ := impl_areOf_eq seats (andN (2 ^ s.toNat - 1) (setN t)) hs (free_lt s ring t g.1) (k + 1) (by omega)
        have hf : a = false := by
          rw [Bool.eq_false_iff]
          intro z
          exact h ((diff_iff s ring t seats false g.1 g.2 _ (fun p hp => free_bits s ring t g.1 p hp)).2 (ha.1 z))
        rw [e, Option.bind_some, hf]
        simp only [impl_StandsOf.j0]
        simp
      · rw [if_neg (by rw [decide_eq_true_eq]; exact g)]
        simp only [impl_StandsOf.j0]
        simp
theorem FnExactStandsOf : ∀ (a0_0 : Int) (a0_1 : Bool) (a0_2 : List Int) (a1 : List Int) (a2 : Bool), (Lit.int .i64 a0_0).wf = true → a0_2.length ≤ maxLen → (∀ x ∈ a0_2, (Lit.int .i64 x).wf = true) → a1.length ≤ maxLen → (∀ x ∈ a1, (Lit.int .i64 x).wf = true) → ∃ k, laws_FnExactStandsOf.f k a0_0 a0_1 a0_2 a1 a2 = some true := by
  intro s ring t seats both _ ht _ hs _
  refine Ev.rounds ?_
  unfold laws_FnExactStandsOf.f
  by_cases h1 : seats.length ≤ 1048576
  · by_cases h2 : t.length ≤ 1048576
    · obtain ⟨r, n, b, hr, e1, e2⟩ := stands_both s ring t seats both h2 h1
      refine Ev.neg (by omega) (Ev.have (laws_szRow_eq s ring t 1048576 (by omega) ht) ?_)
      rw [if_pos h2]
      repeat' (first
        | exact Ev.now _
        | (refine Ev.bind e1 ?_; dsimp only)
        | (refine Ev.bind e2 ?_; dsimp only)
        | (refine Ev.bind (laws_toIntS_ev _ (by omega)) ?_; (try dsimp only))
        | (refine Ev.bind (laws_eqIntS_ev _ (by omega)) ?_; (try dsimp only))
        | (refine Ev.bind (laws_markIntS_ev _ _ (by omega) (by omega) (by omega)) ?_; (try dsimp only))
        | (refine Ev.bind (laws_heldIntS_ev _ _ (by omega) (by omega) (by omega)) ?_; (try dsimp only))
        | (refine Ev.bind (laws_toRow_ev _ _ _ (by omega)) ?_; (try dsimp only))
        | (refine Ev.bind (laws_eqRow_ev _ _ _ (by omega)) ?_; (try dsimp only))
        | (refine Ev.bind (laws_markRow_ev _ _ _ _ (by omega) (by omega) (by omega)) ?_; (try dsimp only))
        | (refine Ev.have (laws_szRow_eq _ _ _ 1048576 (by omega) (by assumption)) ?_; (try dsimp only))
        | (refine Ev.pos rfl ?_; (try dsimp only))
        | (refine Ev.neg (by omega) ?_; (try dsimp only))
        | (refine Ev.pos (by omega) ?_; (try dsimp only))
        | (refine Ev.neg (bne_self _) ?_; (try dsimp only))
        | (refine Ev.neg Bool.false_ne_true ?_; (try dsimp only))
        | (refine Ev.neg (fun h => h) ?_; (try dsimp only))
        | (refine Ev.pos True.intro ?_; (try dsimp only))
        | (refine Ev.succ ?_; simp only [laws_FnExactStandsOf.j0, laws_FnExactStandsOf.j1, laws_FnExactStandsOf.j2]))
    · refine Ev.neg (by omega) (Ev.have (laws_szRow_eq s ring t 1048576 (by omega) ht) ?_)
      rw [if_neg h2]
      exact Ev.pos (by omega) (Ev.now _)
  · exact Ev.pos (by omega) (Ev.now _)

end Go.Proofs.Ytmcgamhipilbpaa.Pure
