/- IsValidRecord of the program returns what the reference's returns, for every record. No conditions. -/
import Derived.Test.YtphcagjmpaajmaaQFnExactIsValidRecordx
namespace Go.Proofs.Ytphcagjmpaajmaa.Pure
open Go.RowKit Go.Proofs.Ytphcagjmpaajmaa.QFnExactIsValidRecord Go.Proofs.YtphcagjmpaajmaaW.PrintWords Go.Proofs.YtphcagjmpaajmaaW.PrintLast Go.Proofs.YtphcagjmpaajmaaW.PrintMore
set_option linter.unusedVariables false
set_option linter.unusedSimpArgs false

/-! ### base -/
theorem wrap_id {x : Int} (h0 : -9223372036854775808 ≤ x) (h1 : x ≤ 9223372036854775807) : wrap64 x = x := by
  unfold wrap64
  omega
theorem wrap_one {i n : Nat} (h : i < n) (hn : n ≤ 4611686018427387904) : wrap64 ((i : Int) + 1) = ((i + 1 : Nat) : Int) := by
  unfold wrap64
  omega
theorem rd_nat (l : List Int) (i : Nat) : rd l (i : Int) = l.getD i 0 := by unfold rd; simp
theorem rd_get (l : List Int) (i : Nat) (h : i < l.length) : rd l (i : Int) = l[i] := by rw [rd_nat]; simp [List.getD, h]
theorem fuel {k d : Nat} (h : d < k) : ∃ m, k = m + 1 ∧ d ≤ m := ⟨k - 1, by omega, by omega⟩

/-! ### ev -/
theorem bne_self {α : Type} [BEq α] [LawfulBEq α] (a : α) : ¬ (a != a) = true := by simp
theorem Ev.succ {α : Type} {g : Nat → Option α} {r : α} (h : Ev (fun k => g (k + 1)) r) : Ev g r := by
  obtain ⟨K, h⟩ := h
  refine ⟨K + 1, fun k hk => ?_⟩
  obtain ⟨k, rfl, hk'⟩ := fuel (show K < k by omega)
  exact h k hk'
theorem Ev.pos {α : Type} {g f : Nat → Option α} {r : α} {c : Prop} [Decidable c] (hc : c) (h : Ev g r) : Ev (fun k => if c then g k else f k) r := by
  obtain ⟨K, h⟩ := h
  exact ⟨K, fun k hk => by show (if c then g k else f k) = some r; rw [if_pos hc]; exact h k hk⟩
theorem Ev.neg {α : Type} {g f : Nat → Option α} {r : α} {c : Prop} [Decidable c] (hc : ¬ c) (h : Ev f r) : Ev (fun k => if c then g k else f k) r := by
  obtain ⟨K, h⟩ := h
  exact ⟨K, fun k hk => by show (if c then g k else f k) = some r; rw [if_neg hc]; exact h k hk⟩
theorem Ev.have {α β : Type} {x : Option α} {a : α} {f : Nat → α → Option β} {r : β} (e : x = some a) (h : Ev (fun k => f k a) r) : Ev (fun k => x.bind (f k)) r := by
  obtain ⟨K, h⟩ := h
  exact ⟨K, fun k hk => by show x.bind (f k) = some r; rw [e, Option.bind_some]; exact h k hk⟩
theorem Ev.bound {α : Type} {g : Nat → Option α} {r : α} (K : Nat) (h : ∀ k, K < k → g k = some r) : Ev g r := ⟨K + 1, fun k hk => h k (by omega)⟩
theorem Ev.same {α : Type} {g : Nat → Option α} {r r' : α} (h : Ev g r) (e : r = r') : Ev g r' := e ▸ h

/-! ### law_FnExactIsValidRecord -/
theorem in_iff (a b c : Int) : spec_l1In.f a b c = some (decide (b ≤ a ∧ a ≤ c)) := by
  unfold spec_l1In.f
  by_cases h : a ≥ b
  · rw [if_pos h]
    refine congrArg some ?_
    rw [decide_eq_decide]
    omega
  · rw [if_neg h, decide_eq_false (by omega)]
def PR (s : ByteArray) (j : Nat) : Prop := 32 ≤ bt s j ∧ bt s j ≤ 126
theorem from_succ {n i : Nat} (h : i < n) (P : Nat → Prop) : (∀ j : Nat, i ≤ j → j < n → P j) ↔ P i ∧ ∀ j : Nat, i + 1 ≤ j → j < n → P j := by
  constructor
  · intro e
    exact ⟨e i (Nat.le_refl _) h, fun j h1 h2 => e j (by omega) h2⟩
  · rintro ⟨e1, e2⟩ j h1 h2
    by_cases c : j = i
    · rw [c]; exact e1
    · exact e2 j (by omega) h2
theorem bytes_ev (s : ByteArray) (hs : s.size ≤ 140737488351232) (most : Int) : ∃ v, Ev (fun k => spec_l12Bytes.f k s most) v ∧ (v = true ↔ (∀ j : Nat, 0 ≤ j → j < s.size → PR s j ∧ bt s j ≠ 35) ∧ (s.size : Int) ≤ most) := by
  have main : ∀ d i, i + d = s.size → ∃ v, Ev (fun k => spec_l12Bytes.l0 k s most i) v ∧ (v = true ↔ (∀ j : Nat, i ≤ j → j < s.size → PR s j ∧ bt s j ≠ 35) ∧ (s.size : Int) ≤ most) := by
    intro d
    induction d with
    | zero =>
      intro i hi
      refine ⟨decide ((s.size : Int) ≤ most), Ev.succ ?_, ?_⟩
      · simp only [spec_l12Bytes.l0]
        exact Ev.neg (by omega) (Ev.now _)
      · rw [decide_eq_true_eq]
        exact ⟨fun e => ⟨fun j h1 h2 => by omega, e⟩, fun e => e.2⟩
    | succ d ih =>
      intro i hi
      obtain ⟨v, go, hv⟩ := ih (i + 1) (by omega)
      have hr := bt_range s i
      have fs := from_succ (show i < s.size by omega) fun j => PR s j ∧ bt s j ≠ 35
      by_cases g : 32 ≤ bt s i ∧ bt s i ≤ 126
      · by_cases g2 : bt s i = 35
        · refine ⟨false, Ev.succ ?_, fun e => absurd e (by simp), fun e => absurd g2 (fs.1 e.1).1.2⟩
          simp only [spec_l12Bytes.l0]
          rw [wrap_id (x := bt s i) (by omega) (by omega), in_iff]
          exact Ev.pos (by omega) (Ev.pos (by omega) (Ev.have rfl (Ev.pos (decide_eq_true g) (Ev.pos g2 (Ev.now _)))))
        · refine ⟨v, Ev.succ ?_, hv.trans ⟨fun e => ⟨fs.2 ⟨⟨g, g2⟩, e.1⟩, e.2⟩, fun e => ⟨(fs.1 e.1).2, e.2⟩⟩⟩
          simp only [spec_l12Bytes.l0]
          rw [wrap_id (x := bt s i) (by omega) (by omega), wrap_one (n := s.size) (by omega) (by omega), in_iff]
          exact Ev.pos (by omega) (Ev.pos (by omega) (Ev.have rfl (Ev.pos (decide_eq_true g) (Ev.neg g2 go))))
      · refine ⟨false, Ev.succ ?_, fun e => absurd e (by simp), fun e => absurd (fs.1 e.1).1.1 g⟩
        simp only [spec_l12Bytes.l0]
        rw [wrap_id (x := bt s i) (by omega) (by omega), in_iff]
        exact Ev.pos (by omega) (Ev.pos (by omega) (Ev.have rfl (Ev.neg (by rw [decide_eq_true_eq]; exact g) (Ev.now _))))
  exact main s.size 0 (Nat.zero_add _)
theorem stands_ev (s : ByteArray) (hs : s.size ≤ 140737488351232) (c : Int) : ∃ v, Ev (fun k => spec_l1Stands.f k s c) v ∧ (v = true ↔ ¬ ∀ j : Nat, 0 ≤ j → j < s.size → bt s j ≠ c) := by
  have main : ∀ d i, i + d = s.size → ∃ v, Ev (fun k => spec_l1Stands.l0 k s c i) v ∧ (v = true ↔ ¬ ∀ j : Nat, i ≤ j → j < s.size → bt s j ≠ c) := by
    intro d
    induction d with
    | zero =>
      intro i hi
      refine ⟨false, Ev.succ ?_, fun e => absurd e (by simp), fun e => absurd (fun j h1 h2 => by omega) e⟩
      simp only [spec_l1Stands.l0]
      exact Ev.neg (by omega) (Ev.now _)
    | succ d ih =>
      intro i hi
      obtain ⟨v, go, hv⟩ := ih (i + 1) (by omega)
      have fs := from_succ (show i < s.size by omega) fun j => bt s j ≠ c
      by_cases g : bt s i = c
      · refine ⟨true, Ev.succ ?_, fun _ e => (fs.1 e).1 g, fun _ => rfl⟩
        simp only [spec_l1Stands.l0]
        exact Ev.pos (by omega) (Ev.pos (by omega) (Ev.pos g (Ev.now _)))
      · refine ⟨v, Ev.succ ?_, hv.trans ⟨fun e z => e (fs.1 z).2, fun e z => e (fs.2 ⟨g, z⟩)⟩⟩
        simp only [spec_l1Stands.l0]
        rw [wrap_one (n := s.size) (by omega) (by omega)]
        exact Ev.pos (by omega) (Ev.pos (by omega) (Ev.neg g go))
  exact main s.size 0 (Nat.zero_add _)
theorem idx_iff (chars : List UInt8) : ∀ l : List UInt8, 0 ≤ Lib.indexAny l chars ↔ ∃ b ∈ l, b ∈ chars
  | [] => by simp [Lib.indexAny]
  | b :: l => by
    have ih := idx_iff chars l
    have ge := Lib.indexAny_ge chars l
    unfold Lib.indexAny
    by_cases h : chars.contains b = true
    · rw [if_pos h]
      exact ⟨fun _ => ⟨b, List.mem_cons_self, by simpa using h⟩, fun _ => by omega⟩
    · rw [if_neg h]
      have hb : b ∉ chars := by simpa using h
      have rest : (∃ x ∈ b :: l, x ∈ chars) ↔ ∃ x ∈ l, x ∈ chars := by
        constructor
        · rintro ⟨x, hx, hc⟩
          rcases List.mem_cons.1 hx with e | e
          · exact absurd (e ▸ hc) hb
          · exact ⟨x, e, hc⟩
        · rintro ⟨x, hx, hc⟩
          exact ⟨x, List.mem_cons_of_mem _ hx, hc⟩
      rw [rest, ← ih]
      by_cases e : (Lib.indexAny l chars == -1) = true
      · rw [if_pos e]
        have : Lib.indexAny l chars = -1 := by simpa using e
        omega
      · rw [if_neg e]
        have : Lib.indexAny l chars ≠ -1 := by simpa using e
        omega
theorem bt_list (s : ByteArray) (j : Nat) (h : j < s.size) : bt s j = ((s.data.toList[j]'(by simpa using h)).toNat : Int) := by
  unfold bt
  rw [dif_pos (by simpa using h)]
  simp
  rfl
theorem mem_bytes (s : ByteArray) (b : UInt8) : b ∈ s.data.toList ↔ ∃ j : Nat, j < s.size ∧ bt s j = (b.toNat : Int) := by
  constructor
  · intro h
    obtain ⟨j, hj, e⟩ := List.getElem_of_mem h
    have hj2 : j < s.size := by simpa using hj
    exact ⟨j, hj2, by rw [bt_list s j hj2, e]⟩
  · rintro ⟨j, hj, e⟩
    rw [bt_list s j hj] at e
    have : s.data.toList[j]'(by simpa using hj) = b := UInt8.toNat_inj.1 (by omega)
    rw [← this]
    exact List.getElem_mem _
theorem plain_ev (s : ByteArray) (hs : s.size ≤ 140737488351232) (most : Int) (hm : most ≤ 1000) (o : ByteArray) (ho : o.size < 4294967281) (ha : (o.data.toList.all fun b => decide (b.toNat < 128)) = true) : ∃ v, Ev (fun k => impl_isPlain.f k s most o) v ∧ (v = true ↔ (∀ j : Nat, 0 ≤ j → j < s.size → PR s j) ∧ (s.size : Int) ≤ most ∧ ¬ ∃ b ∈ s.data.toList, b ∈ o.data.toList) := by
  have main : ∀ d i, i + d = s.size → (∀ j : Nat, j < i → PR s j) → ∃ v, Ev (fun k => impl_isPlain.l0 k s most o s.size i) v ∧ (v = true ↔ (∀ j : Nat, i ≤ j → j < s.size → PR s j) ∧ (s.size : Int) ≤ most ∧ ¬ ∃ b ∈ s.data.toList, b ∈ o.data.toList) := by
    intro d
    induction d with
    | zero =>
      intro i hi hp
      by_cases g : (s.size : Int) ≤ most
      · have asc : (s.data.toList.all fun b => decide (b.toNat < 128)) = true := by
          rw [List.all_eq_true]
          intro b hb
          obtain ⟨j, hj, e⟩ := (mem_bytes s b).1 hb
          have := (hp j (by omega)).2
          rw [e] at this
          exact decide_eq_true (by omega)
        have hc : strings_ContainsAny.f s o = some (Lib.containsAny s.data.toList o.data.toList) := by
          unfold strings_ContainsAny.f
          rw [if_pos ⟨by omega, ho, asc, ha⟩]
        refine ⟨!Lib.containsAny s.data.toList o.data.toList, Ev.succ ?_, ?_⟩
        · simp only [impl_isPlain.l0]
          exact Ev.neg (by omega) (Ev.pos g (Ev.have hc (Ev.now _)))
        · unfold Lib.containsAny
          rw [Bool.not_eq_true', decide_eq_false_iff_not, idx_iff]
          exact ⟨fun e => ⟨fun j h1 h2 => by omega, g, e⟩, fun e => e.2.2⟩
      · refine ⟨false, Ev.succ ?_, fun e => absurd e (by simp), fun e => absurd e.2.1 g⟩
        simp only [impl_isPlain.l0]
        exact Ev.neg (by omega) (Ev.neg g (Ev.now _))
    | succ d ih =>
      intro i hi hp
      have fs := from_succ (show i < s.size by omega) fun j => PR s j
      by_cases g1 : bt s i < 32
      · refine ⟨false, Ev.succ ?_, fun e => absurd e (by simp), fun e => by have := (fs.1 e.1).1.1; omega⟩
        simp only [impl_isPlain.l0]
        exact Ev.pos (by omega) (Ev.pos (by omega) (Ev.pos (by omega) (Ev.pos g1 (Ev.now _))))
      · by_cases g2 : bt s i > 126
        · refine ⟨false, Ev.succ ?_, fun e => absurd e (by simp), fun e => by have := (fs.1 e.1).1.2; omega⟩
          simp only [impl_isPlain.l0]
          exact Ev.pos (by omega) (Ev.pos (by omega) (Ev.pos (by omega) (Ev.neg g1 (Ev.pos g2 (Ev.now _)))))
        · have hpr : PR s i := ⟨by omega, by omega⟩
          obtain ⟨v, go, hv⟩ := ih (i + 1) (by omega) fun j hj => by
            by_cases c : j = i
            · rw [c]; exact hpr
            · exact hp j (by omega)
          refine ⟨v, Ev.succ ?_, hv.trans ⟨fun e => ⟨fs.2 ⟨hpr, e.1⟩, e.2⟩, fun e => ⟨(fs.1 e.1).2, e.2⟩⟩⟩
          simp only [impl_isPlain.l0]
          rw [wrap_one (n := s.size) (by omega) (by omega)]
          exact Ev.pos (by omega) (Ev.pos (by omega) (Ev.pos (by omega) (Ev.neg g1 (Ev.neg g2 go))))
  exact main s.size 0 (Nat.zero_add _) fun j hj => by omega
theorem one_of (s : ByteArray) (c : UInt8) : (∃ b ∈ s.data.toList, b = c) ↔ ¬ ∀ j : Nat, 0 ≤ j → j < s.size → bt s j ≠ (c.toNat : Int) := by
  constructor
  · rintro ⟨b, hb, rfl⟩ e
    obtain ⟨j, hj, z⟩ := (mem_bytes s b).1 hb
    exact e j (Nat.zero_le _) hj z
  · intro e
    refine Classical.byContradiction fun n => e fun j _ hj z => n ⟨c, (mem_bytes s c).2 ⟨j, hj, z⟩, rfl⟩
theorem reply_ev (s : ByteArray) (hs : s.size ≤ 140737488351232) : ∃ r, Ev (fun k => spec_l12Bytes.f k s 250) r ∧ Ev (fun k => impl_isPlain.f k s 250 (⟨#[35]⟩ : ByteArray)) r := by
  obtain ⟨v, e1, hv⟩ := bytes_ev s hs 250
  obtain ⟨u, e2, hu⟩ := plain_ev s hs 250 (by omega) ⟨#[35]⟩ (by decide) (by decide)
  refine ⟨v, e1, Ev.same e2 (Bool.eq_iff_iff.2 (hu.trans (Iff.trans ?_ hv.symm)))⟩
  have h := one_of s 35
  constructor
  · rintro ⟨h1, h2, h3⟩
    refine ⟨fun j a b => ⟨h1 j a b, fun z => h3 ?_⟩, h2⟩
    obtain ⟨x, hx, e⟩ := h.2 fun q => q j a b z
    exact ⟨x, hx, by rw [e]; simp⟩
  · rintro ⟨h1, h2⟩
    refine ⟨fun j a b => (h1 j a b).1, h2, ?_⟩
    rintro ⟨x, hx, e⟩
    have e : x = 35 := by simpa using e
    exact h.1 ⟨x, hx, e⟩ fun j a b => (h1 j a b).2
theorem command_ev (s : ByteArray) (hs : s.size ≤ 140737488351232) : ∃ a b, Ev (fun k => spec_l12Bytes.f k s 160) a ∧ Ev (fun k => spec_l1Stands.f k s 64) b ∧ Ev (fun k => impl_isPlain.f k s 160 (⟨#[35, 64]⟩ : ByteArray)) (a && !b) := by
  obtain ⟨v, e1, hv⟩ := bytes_ev s hs 160
  obtain ⟨z, e3, hz⟩ := stands_ev s hs 64
  obtain ⟨u, e2, hu⟩ := plain_ev s hs 160 (by omega) ⟨#[35, 64]⟩ (by decide) (by decide)
  refine ⟨v, z, e1, e3, Ev.same e2 ?_⟩
  rw [Bool.eq_iff_iff, Bool.and_eq_true, Bool.not_eq_true', ← Bool.not_eq_true, hu, hv, hz, Classical.not_not]
  have h := one_of s 35
  have h' := one_of s 64
  constructor
  · rintro ⟨h1, h2, h3⟩
    refine ⟨⟨fun j a b => ⟨h1 j a b, fun z => h3 ?_⟩, h2⟩, fun j a b z => h3 ?_⟩
    · obtain ⟨x, hx, e⟩ := h.2 fun q => q j a b z
      exact ⟨x, hx, by rw [e]; simp⟩
    · obtain ⟨x, hx, e⟩ := h'.2 fun q => q j a b z
      exact ⟨x, hx, by rw [e]; simp⟩
  · rintro ⟨⟨h1, h2⟩, h3⟩
    refine ⟨fun j a b => (h1 j a b).1, h2, ?_⟩
    rintro ⟨x, hx, e⟩
    have e : x = 35 ∨ x = 64 := by simpa using e
    rcases e with e | e
    · exact h.1 ⟨x, hx, e⟩ fun j a b => (h1 j a b).2
    · exact h'.1 ⟨x, hx, e⟩ h3
theorem record_both (c r : ByteArray) (hc : c.size ≤ 140737488351232) (hr : r.size ≤ 140737488351232) : ∃ v, Ev (fun k => spec_IsValidRecord.f k c r) v ∧ Ev (fun k => impl_IsValidRecord.f k c r) v := by
  obtain ⟨z, z1, z2⟩ := reply_ev r hr
  obtain ⟨a, b, a1, b1, p1⟩ := command_ev c hc
  by_cases he : c.toList = ([] : List UInt8)
  · refine ⟨false, ?_, ?_⟩
    · unfold spec_IsValidRecord.f spec_l12Record.f
      exact Ev.bind (Ev.pos he (Ev.now false)) (Ev.now _)
    · unfold impl_IsValidRecord.f impl_isCommand.f
      exact Ev.bind (Ev.pos he (Ev.now false)) (Ev.neg (by simp) (Ev.now _))
  · refine ⟨(a && !b) && z, ?_, ?_⟩
    · unfold spec_IsValidRecord.f spec_l12Record.f
      refine Ev.bind (a := (a && !b) && z) (Ev.neg he (Ev.bind a1 ?_)) (Ev.now _)
      cases a with
      | false => exact Ev.neg (by simp) (Ev.now _)
      | true =>
        refine Ev.pos rfl (Ev.bind b1 ?_)
        cases b with
        | true => exact Ev.pos rfl (Ev.now _)
        | false => exact Ev.neg (by simp) (Ev.bind z1 (Ev.now _))
    · unfold impl_IsValidRecord.f impl_isCommand.f
      refine Ev.bind (a := a && !b) (Ev.neg he (Ev.bind p1 (Ev.now _))) ?_
      cases hab : (a && !b) with
      | false => exact Ev.neg (by simp) (Ev.now _)
      | true => exact Ev.pos rfl (Ev.bind z2 (Ev.now _))
theorem FnExactIsValidRecord : ∀ (a0_0 : ByteArray) (a0_1 : ByteArray), a0_0.size ≤ maxLen → a0_1.size ≤ maxLen → ∃ k, laws_FnExactIsValidRecord.f k a0_0 a0_1 = some true := by
  intro c r hc hr
  have hc : c.size ≤ 9223372036854775807 := Nat.le_trans hc (by decide)
  have hr : r.size ≤ 9223372036854775807 := Nat.le_trans hr (by decide)
  refine Ev.rounds ?_
  unfold laws_FnExactIsValidRecord.f
  by_cases h1 : c.size ≤ 1048576
  · by_cases h2 : c.size + r.size ≤ 1048576
    · have ht : laws_szLogRecord.f c r 1048576 = some (1048576 - (c.size : Int) - r.size) := by
        unfold laws_szLogRecord.f
        rw [wrap_id (x := 1048576 - (c.size : Int)) (by omega) (by omega), if_neg (by omega), wrap_id (by omega) (by omega), if_neg (by omega)]
      obtain ⟨v, e1, e2⟩ := record_both c r (by omega) (by omega)
      refine Ev.have ht (Ev.neg (by omega) (Ev.have rfl ?_))
      exact Ev.bind e1 (Ev.have rfl (Ev.bind e2 (Ev.neg (bne_self _) (Ev.now _))))
    · have ht : laws_szLogRecord.f c r 1048576 = some (-1) := by
        unfold laws_szLogRecord.f
        rw [wrap_id (x := 1048576 - (c.size : Int)) (by omega) (by omega), if_neg (by omega), wrap_id (by omega) (by omega), if_pos (by omega)]
      exact Ev.have ht (Ev.pos (by omega) (Ev.now _))
  · have ht : laws_szLogRecord.f c r 1048576 = some (-1) := by
      unfold laws_szLogRecord.f
      rw [wrap_id (x := 1048576 - (c.size : Int)) (by omega) (by omega), if_pos (by omega)]
    exact Ev.have ht (Ev.pos (by omega) (Ev.now _))

end Go.Proofs.Ytphcagjmpaajmaa.Pure
