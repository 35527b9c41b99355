/- EncodeRecord of the program returns what the reference's returns, for every number and record. No conditions. -/
import Derived.Test.YtphcagjmpaajmaaDoorQFnExactEncodeRecordx
namespace Go.Proofs.YtphcagjmpaajmaaDoor.Pure
open Go.RowKit Go.Proofs.YtphcagjmpaajmaaDoor.QFnExactEncodeRecord Go.Proofs.YtphcagjmpaajmaaDoorW.PrintWords Go.Proofs.YtphcagjmpaajmaaDoorW.PrintLast Go.Proofs.YtphcagjmpaajmaaDoorW.PrintMore
set_option linter.unusedVariables false
set_option linter.unusedSimpArgs false

/-! ### base -/
theorem wrap_id {x : Int} (h0 : -9223372036854775808 ≤ x) (h1 : x ≤ 9223372036854775807) : wrap64 x = x := by
  unfold wrap64
  omega
theorem wrap_one {i n : Nat} (h : i < n) (hn : n ≤ 4611686018427387904) : wrap64 ((i : Int) + 1) = ((i + 1 : Nat) : Int) := by
  unfold wrap64
  omega
theorem rd_nat (l : List Int) (i : Nat) : rd l (i : Int) = l.getD i 0 := by unfold rd; simp
theorem rd_get (l : List Int) (i : Nat) (h : i < l.length) : rd l (i : Int) = l[i] := by rw [rd_nat]; simp [List.getD, h]
theorem fuel {k d : Nat} (h : d < k) : ∃ m, k = m + 1 ∧ d ≤ m := ⟨k - 1, by omega, by omega⟩

/-! ### ev -/
theorem bne_self {α : Type} [BEq α] [LawfulBEq α] (a : α) : ¬ (a != a) = true := by simp
theorem Ev.succ {α : Type} {g : Nat → Option α} {r : α} (h : Ev (fun k => g (k + 1)) r) : Ev g r := by
  obtain ⟨K, h⟩ := h
  refine ⟨K + 1, fun k hk => ?_⟩
  obtain ⟨k, rfl, hk'⟩ := fuel (show K < k by omega)
  exact h k hk'
theorem Ev.pos {α : Type} {g f : Nat → Option α} {r : α} {c : Prop} [Decidable c] (hc : c) (h : Ev g r) : Ev (fun k => if c then g k else f k) r := by
  obtain ⟨K, h⟩ := h
  exact ⟨K, fun k hk => by show (if c then g k else f k) = some r; rw [if_pos hc]; exact h k hk⟩
theorem Ev.neg {α : Type} {g f : Nat → Option α} {r : α} {c : Prop} [Decidable c] (hc : ¬ c) (h : Ev f r) : Ev (fun k => if c then g k else f k) r := by
  obtain ⟨K, h⟩ := h
  exact ⟨K, fun k hk => by show (if c then g k else f k) = some r; rw [if_neg hc]; exact h k hk⟩
theorem Ev.have {α β : Type} {x : Option α} {a : α} {f : Nat → α → Option β} {r : β} (e : x = some a) (h : Ev (fun k => f k a) r) : Ev (fun k => x.bind (f k)) r := by
  obtain ⟨K, h⟩ := h
  exact ⟨K, fun k hk => by show x.bind (f k) = some r; rw [e, Option.bind_some]; exact h k hk⟩
theorem Ev.bound {α : Type} {g : Nat → Option α} {r : α} (K : Nat) (h : ∀ k, K < k → g k = some r) : Ev g r := ⟨K + 1, fun k hk => h k (by omega)⟩
theorem Ev.same {α : Type} {g : Nat → Option α} {r r' : α} (h : Ev g r) (e : r = r') : Ev g r' := e ▸ h
theorem Ev.uniq {α : Type} {g : Nat → Option α} {r r' : α} (h : Ev g r) (h' : Ev g r') : r = r' := by
  obtain ⟨K, h⟩ := h
  obtain ⟨K', h'⟩ := h'
  exact Option.some.inj ((h (K + K') (by omega)).symm.trans (h' (K + K') (by omega)))

/-! ### record -/
theorem in_iff (a b c : Int) : spec_l1In.f a b c = some (decide (b ≤ a ∧ a ≤ c)) := by
  unfold spec_l1In.f
  by_cases h : a ≥ b
  · rw [if_pos h]
    refine congrArg some ?_
    rw [decide_eq_decide]
    omega
  · rw [if_neg h, decide_eq_false (by omega)]
def PR (s : ByteArray) (j : Nat) : Prop := 32 ≤ bt s j ∧ bt s j ≤ 126
theorem from_succ {n i : Nat} (h : i < n) (P : Nat → Prop) : (∀ j : Nat, i ≤ j → j < n → P j) ↔ P i ∧ ∀ j : Nat, i + 1 ≤ j → j < n → P j := by
  constructor
  · intro e
    exact ⟨e i (Nat.le_refl _) h, fun j h1 h2 => e j (by omega) h2⟩
  · rintro ⟨e1, e2⟩ j h1 h2
    by_cases c : j = i
    · rw [c]; exact e1
    · exact e2 j (by omega) h2
theorem bytes_ev (s : ByteArray) (hs : s.size ≤ 140737488351232) (most : Int) : ∃ v, Ev (fun k => spec_l12Bytes.f k s most) v ∧ (v = true ↔ (∀ j : Nat, 0 ≤ j → j < s.size → PR s j ∧ bt s j ≠ 35) ∧ (s.size : Int) ≤ most) := by
  have main : ∀ d i, i + d = s.size → ∃ v, Ev (fun k => spec_l12Bytes.l0 k s most i) v ∧ (v = true ↔ (∀ j : Nat, i ≤ j → j < s.size → PR s j ∧ bt s j ≠ 35) ∧ (s.size : Int) ≤ most) := by
    intro d
    induction d with
    | zero =>
      intro i hi
      refine ⟨decide ((s.size : Int) ≤ most), Ev.succ ?_, ?_⟩
      · simp only [spec_l12Bytes.l0]
        exact Ev.neg (by omega) (Ev.now _)
      · rw [decide_eq_true_eq]
        exact ⟨fun e => ⟨fun j h1 h2 => by omega, e⟩, fun e => e.2⟩
    | succ d ih =>
      intro i hi
      obtain ⟨v, go, hv⟩ := ih (i + 1) (by omega)
      have hr := bt_range s i
      have fs := from_succ (show i < s.size by omega) fun j => PR s j ∧ bt s j ≠ 35
      by_cases g : 32 ≤ bt s i ∧ bt s i ≤ 126
      · by_cases g2 : bt s i = 35
        · refine ⟨false, Ev.succ ?_, fun e => absurd e (by simp), fun e => absurd g2 (fs.1 e.1).1.2⟩
          simp only [spec_l12Bytes.l0]
          rw [wrap_id (x := bt s i) (by omega) (by omega), in_iff]
          exact Ev.pos (by omega) (Ev.pos (by omega) (Ev.have rfl (Ev.pos (decide_eq_true g) (Ev.pos g2 (Ev.now _)))))
        · refine ⟨v, Ev.succ ?_, hv.trans ⟨fun e => ⟨fs.2 ⟨⟨g, g2⟩, e.1⟩, e.2⟩, fun e => ⟨(fs.1 e.1).2, e.2⟩⟩⟩
          simp only [spec_l12Bytes.l0]
          rw [wrap_id (x := bt s i) (by omega) (by omega), wrap_one (n := s.size) (by omega) (by omega), in_iff]
          exact Ev.pos (by omega) (Ev.pos (by omega) (Ev.have rfl (Ev.pos (decide_eq_true g) (Ev.neg g2 go))))
      · refine ⟨false, Ev.succ ?_, fun e => absurd e (by simp), fun e => absurd (fs.1 e.1).1.1 g⟩
        simp only [spec_l12Bytes.l0]
        rw [wrap_id (x := bt s i) (by omega) (by omega), in_iff]
        exact Ev.pos (by omega) (Ev.pos (by omega) (Ev.have rfl (Ev.neg (by rw [decide_eq_true_eq]; exact g) (Ev.now _))))
  exact main s.size 0 (Nat.zero_add _)
theorem stands_ev (s : ByteArray) (hs : s.size ≤ 140737488351232) (c : Int) : ∃ v, Ev (fun k => spec_l1Stands.f k s c) v ∧ (v = true ↔ ¬ ∀ j : Nat, 0 ≤ j → j < s.size → bt s j ≠ c) := by
  have main : ∀ d i, i + d = s.size → ∃ v, Ev (fun k => spec_l1Stands.l0 k s c i) v ∧ (v = true ↔ ¬ ∀ j : Nat, i ≤ j → j < s.size → bt s j ≠ c) := by
    intro d
    induction d with
    | zero =>
      intro i hi
      refine ⟨false, Ev.succ ?_, fun e => absurd e (by simp), fun e => absurd (fun j h1 h2 => by omega) e⟩
      simp only [spec_l1Stands.l0]
      exact Ev.neg (by omega) (Ev.now _)
    | succ d ih =>
      intro i hi
      obtain ⟨v, go, hv⟩ := ih (i + 1) (by omega)
      have fs := from_succ (show i < s.size by omega) fun j => bt s j ≠ c
      by_cases g : bt s i = c
      · refine ⟨true, Ev.succ ?_, fun _ e => (fs.1 e).1 g, fun _ => rfl⟩
        simp only [spec_l1Stands.l0]
        exact Ev.pos (by omega) (Ev.pos (by omega) (Ev.pos g (Ev.now _)))
      · refine ⟨v, Ev.succ ?_, hv.trans ⟨fun e z => e (fs.1 z).2, fun e z => e (fs.2 ⟨g, z⟩)⟩⟩
        simp only [spec_l1Stands.l0]
        rw [wrap_one (n := s.size) (by omega) (by omega)]
        exact Ev.pos (by omega) (Ev.pos (by omega) (Ev.neg g go))
  exact main s.size 0 (Nat.zero_add _)
theorem idx_iff (chars : List UInt8) : ∀ l : List UInt8, 0 ≤ Lib.indexAny l chars ↔ ∃ b ∈ l, b ∈ chars
  | [] => by simp [Lib.indexAny]
  | b :: l => by
    have ih := idx_iff chars l
    have ge := Lib.indexAny_ge chars l
    unfold Lib.indexAny
    by_cases h : chars.contains b = true
    · rw [if_pos h]
      exact ⟨fun _ => ⟨b, List.mem_cons_self, by simpa using h⟩, fun _ => by omega⟩
    · rw [if_neg h]
      have hb : b ∉ chars := by simpa using h
      have rest : (∃ x ∈ b :: l, x ∈ chars) ↔ ∃ x ∈ l, x ∈ chars := by
        constructor
        · rintro ⟨x, hx, hc⟩
          rcases List.mem_cons.1 hx with e | e
          · exact absurd (e ▸ hc) hb
          · exact ⟨x, e, hc⟩
        · rintro ⟨x, hx, hc⟩
          exact ⟨x, List.mem_cons_of_mem _ hx, hc⟩
      rw [rest, ← ih]
      by_cases e : (Lib.indexAny l chars == -1) = true
      · rw [if_pos e]
        have : Lib.indexAny l chars = -1 := by simpa using e
        omega
      · rw [if_neg e]
        have : Lib.indexAny l chars ≠ -1 := by simpa using e
        omega
theorem bt_list (s : ByteArray) (j : Nat) (h : j < s.size) : bt s j = ((s.data.toList[j]'(by simpa using h)).toNat : Int) := by
  unfold bt
  rw [dif_pos (by simpa using h)]
  simp
  rfl
theorem mem_bytes (s : ByteArray) (b : UInt8) : b ∈ s.data.toList ↔ ∃ j : Nat, j < s.size ∧ bt s j = (b.toNat : Int) := by
  constructor
  · intro h
    obtain ⟨j, hj, e⟩ := List.getElem_of_mem h
    have hj2 : j < s.size := by simpa using hj
    exact ⟨j, hj2, by rw [bt_list s j hj2, e]⟩
  · rintro ⟨j, hj, e⟩
    rw [bt_list s j hj] at e
    have : s.data.toList[j]'(by simpa using hj) = b := UInt8.toNat_inj.1 (by omega)
    rw [← this]
    exact List.getElem_mem _
theorem plain_ev (s : ByteArray) (hs : s.size ≤ 140737488351232) (most : Int) (hm : most ≤ 1000) (o : ByteArray) (ho : o.size < 4294967281) (ha : (o.data.toList.all fun b => decide (b.toNat < 128)) = true) : ∃ v, Ev (fun k => impl_isPlain.f k s most o) v ∧ (v = true ↔ (∀ j : Nat, 0 ≤ j → j < s.size → PR s j) ∧ (s.size : Int) ≤ most ∧ ¬ ∃ b ∈ s.data.toList, b ∈ o.data.toList) := by
  have main : ∀ d i, i + d = s.size → (∀ j : Nat, j < i → PR s j) → ∃ v, Ev (fun k => impl_isPlain.l0 k s most o s.size i) v ∧ (v = true ↔ (∀ j : Nat, i ≤ j → j < s.size → PR s j) ∧ (s.size : Int) ≤ most ∧ ¬ ∃ b ∈ s.data.toList, b ∈ o.data.toList) := by
    intro d
    induction d with
    | zero =>
      intro i hi hp
      by_cases g : (s.size : Int) ≤ most
      · have asc : (s.data.toList.all fun b => decide (b.toNat < 128)) = true := by
          rw [List.all_eq_true]
          intro b hb
          obtain ⟨j, hj, e⟩ := (mem_bytes s b).1 hb
          have := (hp j (by omega)).2
          rw [e] at this
          exact decide_eq_true (by omega)
        have hc : strings_ContainsAny.f s o = some (Lib.containsAny s.data.toList o.data.toList) := by
          unfold strings_ContainsAny.f
          rw [if_pos ⟨by omega, ho, asc, ha⟩]
        refine ⟨!Lib.containsAny s.data.toList o.data.toList, Ev.succ ?_, ?_⟩
        · simp only [impl_isPlain.l0]
          exact Ev.neg (by omega) (Ev.pos g (Ev.have hc (Ev.now _)))
        · unfold Lib.containsAny
          rw [Bool.not_eq_true', decide_eq_false_iff_not, idx_iff]
          exact ⟨fun e => ⟨fun j h1 h2 => by omega, g, e⟩, fun e => e.2.2⟩
      · refine ⟨false, Ev.succ ?_, fun e => absurd e (by simp), fun e => absurd e.2.1 g⟩
        simp only [impl_isPlain.l0]
        exact Ev.neg (by omega) (Ev.neg g (Ev.now _))
    | succ d ih =>
      intro i hi hp
      have fs := from_succ (show i < s.size by omega) fun j => PR s j
      by_cases g1 : bt s i < 32
      · refine ⟨false, Ev.succ ?_, fun e => absurd e (by simp), fun e => by have := (fs.1 e.1).1.1; omega⟩
        simp only [impl_isPlain.l0]
        exact Ev.pos (by omega) (Ev.pos (by omega) (Ev.pos (by omega) (Ev.pos g1 (Ev.now _))))
      · by_cases g2 : bt s i > 126
        · refine ⟨false, Ev.succ ?_, fun e => absurd e (by simp), fun e => by have := (fs.1 e.1).1.2; omega⟩
          simp only [impl_isPlain.l0]
          exact Ev.pos (by omega) (Ev.pos (by omega) (Ev.pos (by omega) (Ev.neg g1 (Ev.pos g2 (Ev.now _)))))
        · have hpr : PR s i := ⟨by omega, by omega⟩
          obtain ⟨v, go, hv⟩ := ih (i + 1) (by omega) fun j hj => by
            by_cases c : j = i
            · rw [c]; exact hpr
            · exact hp j (by omega)
          refine ⟨v, Ev.succ ?_, hv.trans ⟨fun e => ⟨fs.2 ⟨hpr, e.1⟩, e.2⟩, fun e => ⟨(fs.1 e.1).2, e.2⟩⟩⟩
          simp only [impl_isPlain.l0]
          rw [wrap_one (n := s.size) (by omega) (by omega)]
          exact Ev.pos (by omega) (Ev.pos (by omega) (Ev.pos (by omega) (Ev.neg g1 (Ev.neg g2 go))))
  exact main s.size 0 (Nat.zero_add _) fun j hj => by omega
theorem one_of (s : ByteArray) (c : UInt8) : (∃ b ∈ s.data.toList, b = c) ↔ ¬ ∀ j : Nat, 0 ≤ j → j < s.size → bt s j ≠ (c.toNat : Int) := by
  constructor
  · rintro ⟨b, hb, rfl⟩ e
    obtain ⟨j, hj, z⟩ := (mem_bytes s b).1 hb
    exact e j (Nat.zero_le _) hj z
  · intro e
    refine Classical.byContradiction fun n => e fun j _ hj z => n ⟨c, (mem_bytes s c).2 ⟨j, hj, z⟩, rfl⟩
theorem reply_ev (s : ByteArray) (hs : s.size ≤ 140737488351232) : ∃ r, Ev (fun k => spec_l12Bytes.f k s 250) r ∧ Ev (fun k => impl_isPlain.f k s 250 (⟨#[35]⟩ : ByteArray)) r := by
  obtain ⟨v, e1, hv⟩ := bytes_ev s hs 250
  obtain ⟨u, e2, hu⟩ := plain_ev s hs 250 (by omega) ⟨#[35]⟩ (by decide) (by decide)
  refine ⟨v, e1, Ev.same e2 (Bool.eq_iff_iff.2 (hu.trans (Iff.trans ?_ hv.symm)))⟩
  have h := one_of s 35
  constructor
  · rintro ⟨h1, h2, h3⟩
    refine ⟨fun j a b => ⟨h1 j a b, fun z => h3 ?_⟩, h2⟩
    obtain ⟨x, hx, e⟩ := h.2 fun q => q j a b z
    exact ⟨x, hx, by rw [e]; simp⟩
  · rintro ⟨h1, h2⟩
    refine ⟨fun j a b => (h1 j a b).1, h2, ?_⟩
    rintro ⟨x, hx, e⟩
    have e : x = 35 := by simpa using e
    exact h.1 ⟨x, hx, e⟩ fun j a b => (h1 j a b).2
theorem command_ev (s : ByteArray) (hs : s.size ≤ 140737488351232) : ∃ a b, Ev (fun k => spec_l12Bytes.f k s 160) a ∧ Ev (fun k => spec_l1Stands.f k s 64) b ∧ Ev (fun k => impl_isPlain.f k s 160 (⟨#[35, 64]⟩ : ByteArray)) (a && !b) := by
  obtain ⟨v, e1, hv⟩ := bytes_ev s hs 160
  obtain ⟨z, e3, hz⟩ := stands_ev s hs 64
  obtain ⟨u, e2, hu⟩ := plain_ev s hs 160 (by omega) ⟨#[35, 64]⟩ (by decide) (by decide)
  refine ⟨v, z, e1, e3, Ev.same e2 ?_⟩
  rw [Bool.eq_iff_iff, Bool.and_eq_true, Bool.not_eq_true', ← Bool.not_eq_true, hu, hv, hz, Classical.not_not]
  have h := one_of s 35
  have h' := one_of s 64
  constructor
  · rintro ⟨h1, h2, h3⟩
    refine ⟨⟨fun j a b => ⟨h1 j a b, fun z => h3 ?_⟩, h2⟩, fun j a b z => h3 ?_⟩
    · obtain ⟨x, hx, e⟩ := h.2 fun q => q j a b z
      exact ⟨x, hx, by rw [e]; simp⟩
    · obtain ⟨x, hx, e⟩ := h'.2 fun q => q j a b z
      exact ⟨x, hx, by rw [e]; simp⟩
  · rintro ⟨⟨h1, h2⟩, h3⟩
    refine ⟨fun j a b => (h1 j a b).1, h2, ?_⟩
    rintro ⟨x, hx, e⟩
    have e : x = 35 ∨ x = 64 := by simpa using e
    rcases e with e | e
    · exact h.1 ⟨x, hx, e⟩ fun j a b => (h1 j a b).2
    · exact h'.1 ⟨x, hx, e⟩ h3
/-- A valid record: what both texts ask. -/
def Valid (c r : List UInt8) : Prop := c ≠ [] ∧ (∀ b ∈ c, 32 ≤ b.toNat ∧ b.toNat ≤ 126 ∧ b ≠ 35 ∧ b ≠ 64) ∧ c.length ≤ 160 ∧ (∀ b ∈ r, 32 ≤ b.toNat ∧ b.toNat ≤ 126 ∧ b ≠ 35) ∧ r.length ≤ 250
theorem each_byte (s : ByteArray) (P : UInt8 → Prop) (Q : Int → Prop) (h : ∀ b : UInt8, P b ↔ Q b.toNat) : (∀ j : Nat, 0 ≤ j → j < s.size → Q (bt s j)) ↔ ∀ b ∈ s.data.toList, P b := by
  constructor
  · intro e b hb
    obtain ⟨j, hj, z⟩ := (mem_bytes s b).1 hb
    exact (h b).2 (z ▸ e j (Nat.zero_le _) hj)
  · intro e j _ hj
    have hm : (s.data.toList[j]'(by simpa using hj)) ∈ s.data.toList := List.getElem_mem _
    rw [bt_list s j hj]
    exact (h _).1 (e _ hm)
theorem ne_nat (b : UInt8) (n : Nat) (hn : n < 256) : b ≠ UInt8.ofNat n ↔ (b.toNat : Int) ≠ n := by
  constructor
  · intro h e
    exact h (UInt8.toNat_inj.1 (by rw [UInt8.toNat_ofNat_of_lt' hn]; omega))
  · intro h e
    rw [e, UInt8.toNat_ofNat_of_lt' hn] at h
    exact h rfl
theorem record_ev (c r : ByteArray) (hc : c.size ≤ 140737488351232) (hr : r.size ≤ 140737488351232) : ∃ v, Ev (fun k => spec_l12Record.f k c r) v ∧ Ev (fun k => impl_IsValidRecord.f k c r) v ∧ (v = true ↔ Valid c.data.toList r.data.toList) := by
  obtain ⟨z, z1, hz⟩ := bytes_ev r hr 250
  obtain ⟨z', y1, z2⟩ := reply_ev r hr
  obtain ⟨a, a1, ha⟩ := bytes_ev c hc 160
  obtain ⟨b, b1, hb⟩ := stands_ev c hc 64
  obtain ⟨a', b', x1, x2, p1⟩ := command_ev c hc
  have ez : z' = z := Ev.uniq y1 z1
  have ea : a' = a := Ev.uniq x1 a1
  have eb : b' = b := Ev.uniq x2 b1
  subst ez ea eb
  have hsz : ∀ s : ByteArray, s.size = s.data.toList.length := fun s => by simp
  have hN : c.toList = ([] : List UInt8) ↔ c.data.toList = [] := by rw [Lib.toList_data]
  have mean : (c.data.toList ≠ [] ∧ ((a' && !b') && z') = true) ↔ Valid c.data.toList r.data.toList := by
    rw [Bool.and_eq_true, Bool.and_eq_true, Bool.not_eq_true', ← Bool.not_eq_true, ha, hb, hz, Classical.not_not]
    have e1 := each_byte c (fun b => 32 ≤ b.toNat ∧ b.toNat ≤ 126 ∧ b ≠ 35) (fun i => (32 ≤ i ∧ i ≤ 126) ∧ i ≠ 35) (fun b => by have := ne_nat b 35 (by decide); constructor <;> intro q <;> refine ⟨?_, ?_⟩ <;> first | omega | exact this.1 q.2.2 | (exact ⟨by omega, this.2 q.2⟩))
    have e2 := each_byte c (fun b => b ≠ 64) (fun i => i ≠ 64) (fun b => ne_nat b 64 (by decide))
    have e3 := each_byte r (fun b => 32 ≤ b.toNat ∧ b.toNat ≤ 126 ∧ b ≠ 35) (fun i => (32 ≤ i ∧ i ≤ 126) ∧ i ≠ 35) (fun b => by have := ne_nat b 35 (by decide); constructor <;> intro q <;> refine ⟨?_, ?_⟩ <;> first | omega | exact this.1 q.2.2 | (exact ⟨by omega, this.2 q.2⟩))
    unfold Valid PR
    rw [e1, e2, e3, hsz c, hsz r]
    constructor
    · rintro ⟨n, ⟨⟨h1, h2⟩, h3⟩, h4, h5⟩
      exact ⟨n, fun b hb => ⟨(h1 b hb).1, (h1 b hb).2.1, (h1 b hb).2.2, h3 b hb⟩, by omega, h4, by omega⟩
    · rintro ⟨n, h1, h2, h4, h5⟩
      exact ⟨n, ⟨⟨fun b hb => ⟨(h1 b hb).1, (h1 b hb).2.1, (h1 b hb).2.2.1⟩, by omega⟩, fun b hb => (h1 b hb).2.2.2⟩, h4, by omega⟩
  by_cases he : c.toList = ([] : List UInt8)
  · refine ⟨false, ?_, ?_, fun e => absurd e (by simp), fun e => absurd (hN.1 he) e.1⟩
    · unfold spec_l12Record.f
      exact Ev.pos he (Ev.now false)
    · unfold impl_IsValidRecord.f impl_isCommand.f
      exact Ev.bind (Ev.pos he (Ev.now false)) (Ev.neg (by simp) (Ev.now _))
  · refine ⟨(a' && !b') && z', ?_, ?_, ?_⟩
    · unfold spec_l12Record.f
      refine Ev.neg he (Ev.bind a1 ?_)
      cases a' with
      | false => exact Ev.neg (by simp) (Ev.now _)
      | true =>
        refine Ev.pos rfl (Ev.bind b1 ?_)
        cases b' with
        | true => exact Ev.pos rfl (Ev.now _)
        | false => exact Ev.neg (by simp) (Ev.bind z1 (Ev.now _))
    · unfold impl_IsValidRecord.f impl_isCommand.f
      refine Ev.bind (a := a' && !b') (Ev.neg he (Ev.bind p1 (Ev.now _))) ?_
      cases hab : (a' && !b') with
      | false => exact Ev.neg (by simp) (Ev.now _)
      | true => exact Ev.pos rfl (Ev.bind z2 (Ev.now _))
    · rw [← mean]
      exact ⟨fun e => ⟨fun q => he (hN.2 q), e⟩, fun e => e.2⟩

/-! ### numlog -/
/-- A text of these bytes. -/
def ofL (l : List UInt8) : ByteArray := ⟨l.toArray⟩
theorem data_ofL (l : List UInt8) : (ofL l).data.toList = l := by simp [ofL]
theorem ofL_data (s : ByteArray) : ofL s.data.toList = s := by
  apply ByteArray.ext
  simp [ofL]
theorem all_ofL (s : ByteArray) : ∃ l, s = ofL l := ⟨_, (ofL_data s).symm⟩
theorem ofL_size (l : List UInt8) : (ofL l).size = l.length := by simp [ofL, ByteArray.size]
theorem ofL_append (a b : List UInt8) : ofL a ++ ofL b = ofL (a ++ b) := by
  apply ByteArray.ext
  simp [ofL, ByteArray.data_append]
theorem ofL_extract (l : List UInt8) (i j : Nat) : (ofL l).extract i j = ofL ((l.take j).drop i) := by
  apply ByteArray.ext
  rw [ByteArray.data_extract]
  apply Array.toList_inj.1
  rw [Array.toList_extract, List.extract_eq_take_drop]
  simp [ofL, List.drop_take]
theorem ofL_inj {a b : List UInt8} (h : ofL a = ofL b) : a = b := by
  have := congrArg (fun s : ByteArray => s.data.toList) h
  simpa [ofL] using this
theorem toList_ofL (l : List UInt8) : (ofL l).toList = l := by rw [Lib.toList_data, data_ofL]
theorem bt_ofL (l : List UInt8) (i : Nat) (h : i < l.length) : bt (ofL l) (i : Int) = (l[i].toNat : Int) := by
  rw [bt_list (ofL l) i (by rw [ofL_size]; exact h)]
  simp [ofL]
/-- A number's digits. -/
def D (n : Nat) : List UInt8 := Lib.decDigits n
theorem D_small {n : Nat} (h : n < 10) : D n = [UInt8.ofNat (48 + n)] := Lib.decDigits_one h
theorem D_big {n : Nat} (h : ¬ n < 10) : D n = D (n / 10) ++ [UInt8.ofNat (48 + n % 10)] := by
  unfold D
  rw [Lib.decDigits, dif_neg h]
theorem D_len : ∀ d n, n < 10 ^ (d + 1) → (D n).length ≤ d + 1
  | 0, n, h => by rw [D_small (by omega)]; simp
  | d + 1, n, h => by
    by_cases c : n < 10
    · rw [D_small c]; simp
    · have := D_len d (n / 10) (by rw [Nat.pow_succ] at h; omega)
      rw [D_big c, List.length_append]
      simp
      omega
theorem D_ne (n : Nat) : D n ≠ [] := by
  by_cases c : n < 10
  · rw [D_small c]; simp
  · rw [D_big c]; simp
theorem digit_byte (m : Nat) (h : m < 10) : (UInt8.ofNat (48 + m)).toNat = 48 + m := UInt8.toNat_ofNat_of_lt' (by show 48 + m < 256; omega)
theorem D_digits (n : Nat) : ∀ b ∈ D n, 48 ≤ b.toNat ∧ b.toNat ≤ 57 := by
  induction n using Nat.strongRecOn with
  | _ n ih =>
  intro b hb
  by_cases c : n < 10
  · rw [D_small c] at hb
    rw [List.mem_singleton.1 hb, digit_byte n c]
    omega
  · rw [D_big c] at hb
    rcases List.mem_append.1 hb with h | h
    · exact ih (n / 10) (by omega) b h
    · rw [List.mem_singleton.1 h, digit_byte _ (Nat.mod_lt _ (by omega))]
      omega
theorem dig : ∀ n, n < 10 → (⟨#[48, 49, 50, 51, 52, 53, 54, 55, 56, 57]⟩ : ByteArray).extract n (n + 1) = ofL [UInt8.ofNat (48 + n)] := by
  intro n h
  rw [show (⟨#[48, 49, 50, 51, 52, 53, 54, 55, 56, 57]⟩ : ByteArray) = ofL [48, 49, 50, 51, 52, 53, 54, 55, 56, 57] from rfl, ofL_extract]
  refine congrArg ofL ?_
  match n, h with
  | 0, _ => rfl
  | 1, _ => rfl
  | 2, _ => rfl
  | 3, _ => rfl
  | 4, _ => rfl
  | 5, _ => rfl
  | 6, _ => rfl
  | 7, _ => rfl
  | 8, _ => rfl
  | 9, _ => rfl
theorem num_ev (n : Nat) (h : n < 1000000000) : Ev (fun k => spec_l1Num.f k (n : Int)) (ofL (D n)) := by
  induction n using Nat.strongRecOn with
  | _ n ih =>
  refine Ev.succ ?_
  simp only [spec_l1Num.f]
  refine Ev.neg (by omega) ?_
  by_cases c : n < 10
  · rw [wrap_one (n := 10) c (by omega)]
    refine Ev.pos (by omega) (Ev.pos (by omega) (Ev.pos (by omega) (Ev.pos (by omega) ?_)))
    rw [Int.toNat_natCast, Int.toNat_natCast, dig n c, D_small c]
    exact Ev.now _
  · have e1 : Int.tdiv (n : Int) 10 = ((n / 10 : Nat) : Int) := rfl
    have e2 : Int.tmod (n : Int) 10 = ((n % 10 : Nat) : Int) := rfl
    have hm : n % 10 < 10 := Nat.mod_lt _ (by omega)
    have hl : (D (n / 10)).length ≤ 9 := D_len 8 _ (by omega)
    rw [e1, e2, wrap_id (x := ((n / 10 : Nat) : Int)) (by omega) (by omega), wrap_one (n := 10) hm (by omega)]
    simp only [Int.toNat_natCast]
    rw [dig _ hm]
    refine Ev.neg (by omega) (Ev.bind (ih (n / 10) (by omega) (by omega)) ?_)
    refine Ev.pos (by omega) (Ev.pos (by omega) (Ev.pos (by omega) (Ev.pos (by rw [ofL_size, ofL_size]; simp; omega) ?_)))
    rw [ofL_append, ← D_big c]
    exact Ev.now _
theorem itoa_at (n : Nat) (h : n < 1000000000) : strconv_Itoa.f (n : Int) = some (ofL (D n)) := by
  unfold strconv_Itoa.f
  rw [if_pos (by omega), Lib.itoa_nonneg]
  rfl
/-- The checksum of bytes, going on from a number. -/
def sumL : List UInt8 → Nat → Nat
  | [], h => h
  | b :: l, h => sumL l ((41 * h + b.toNat + 1) % 999979)
theorem sumL_lt : ∀ (l : List UInt8) (h : Nat), h < 999979 → sumL l h < 999979
  | [], _, h => h
  | _ :: l, _, _ => sumL_lt l _ (Nat.mod_lt _ (by omega))
theorem sum_step (h b : Nat) (hh : h < 999979) (hb : b < 256) : Int.tmod (wrap64 ((wrap64 ((wrap64 (41 * (h : Int))) + (wrap64 (b : Int)))) + 1)) 999979 = (((41 * h + b + 1) % 999979 : Nat) : Int) := by
  rw [wrap_id (x := 41 * (h : Int)) (by omega) (by omega), wrap_id (x := (b : Int)) (by omega) (by omega), wrap_id (x := 41 * (h : Int) + b) (by omega) (by omega), wrap_id (by omega) (by omega),
    show 41 * (h : Int) + b + 1 = ((41 * h + b + 1 : Nat) : Int) by omega]
  rfl
theorem drop_cons {l pre rest : List UInt8} {b : UInt8} (e : l = pre ++ b :: rest) : ∃ h : pre.length < l.length, l[pre.length]'h = b := by
  subst e
  exact ⟨by simp, by simp⟩
theorem spec_sum_ev (l : List UInt8) (hl : l.length ≤ 140737488351232) : Ev (fun k => spec_l1Sum.f k (ofL l)) (sumL l 7 : Int) := by
  have main : ∀ (rest pre : List UInt8) (h : Nat), l = pre ++ rest → h < 999979 → Ev (fun k => spec_l1Sum.l0 k (ofL l) (h : Int) (pre.length : Int)) (sumL rest h : Int) := by
    intro rest
    induction rest with
    | nil =>
      intro pre h e hh
      refine Ev.succ ?_
      simp only [spec_l1Sum.l0]
      rw [List.append_nil] at e
      exact Ev.neg (by rw [ofL_size, e]; omega) (Ev.now _)
    | cons b rest ih =>
      intro pre h e hh
      obtain ⟨hlt, hb⟩ := drop_cons e
      have hbb := b.toNat_lt
      refine Ev.succ ?_
      simp only [spec_l1Sum.l0]
      rw [bt_ofL l _ hlt, hb, sum_step h b.toNat hh hbb, wrap_one hlt (by omega)]
      refine Ev.pos (by rw [ofL_size]; omega) (Ev.pos (by omega) ?_)
      have := ih (pre ++ [b]) ((41 * h + b.toNat + 1) % 999979) (by simp [e]) (Nat.mod_lt _ (by omega))
      rw [List.length_append, List.length_singleton] at this
      exact this
  exact main l [] 7 rfl (by omega)
theorem impl_sum_ev (l : List UInt8) (hl : l.length ≤ 140737488351232) : Ev (fun k => impl_checksum.f k (ofL l)) (sumL l 7 : Int) := by
  have main : ∀ (rest pre : List UInt8) (h : Nat), l = pre ++ rest → h < 999979 → Ev (fun k => impl_checksum.l0 k (ofL l) (h : Int) (((ofL l).size : Nat) : Int) (pre.length : Int)) (sumL rest h : Int) := by
    intro rest
    induction rest with
    | nil =>
      intro pre h e hh
      refine Ev.succ ?_
      simp only [impl_checksum.l0]
      rw [List.append_nil] at e
      exact Ev.neg (by rw [ofL_size, e]; omega) (Ev.now _)
    | cons b rest ih =>
      intro pre h e hh
      obtain ⟨hlt, hb⟩ := drop_cons e
      have hbb := b.toNat_lt
      refine Ev.succ ?_
      simp only [impl_checksum.l0]
      rw [bt_ofL l _ hlt, hb, sum_step h b.toNat hh hbb, wrap_one hlt (by omega)]
      refine Ev.pos (by rw [ofL_size]; omega) (Ev.pos (by omega) (Ev.pos (by rw [ofL_size]; omega) ?_))
      have := ih (pre ++ [b]) ((41 * h + b.toNat + 1) % 999979) (by simp [e]) (Nat.mod_lt _ (by omega))
      rw [List.length_append, List.length_singleton] at this
      exact this
  exact main l [] 7 rfl (by omega)
/-- A text with its checksum behind it. -/
def sealL (t : List UInt8) : List UInt8 := t ++ [35] ++ D (sumL t 7)
theorem sum_len (t : List UInt8) : (D (sumL t 7)).length ≤ 6 := D_len 5 _ (by have := sumL_lt t 7 (by omega); omega)
theorem sealL_len (t : List UInt8) : t.length + 1 ≤ (sealL t).length ∧ (sealL t).length ≤ t.length + 7 := by
  have := sum_len t
  unfold sealL
  simp
  omega
theorem spec_seal_ev (t : List UInt8) (ht : t.length ≤ 4611686018427) : Ev (fun k => spec_l1Seal.f k (ofL t)) (ofL (sealL t)) := by
  have h6 := sum_len t
  have hs := sumL_lt t 7 (by omega)
  unfold spec_l1Seal.f
  rw [show (⟨#[35]⟩ : ByteArray) = ofL [35] from rfl, ofL_append]
  refine Ev.pos (by rw [ofL_size]; omega) (Ev.bind (spec_sum_ev t (by omega)) (Ev.bind (num_ev _ (by omega)) ?_))
  refine Ev.pos (by rw [ofL_size, ofL_size]; simp; omega) ?_
  rw [ofL_append]
  exact Ev.now _
theorem has_iff (l : List UInt8) (c : UInt8) : c ∈ l ↔ 0 ≤ Lib.indexByte l c := by
  induction l with
  | nil => simp [Lib.indexByte]
  | cons b l ih =>
    have ge := Lib.indexByte_ge l c
    unfold Lib.indexByte
    by_cases h : (b == c) = true
    · rw [if_pos h]
      have : b = c := by simpa using h
      simp [this]
    · rw [if_neg h]
      have hb : ¬ c = b := fun e => h (by simp [e])
      rw [List.mem_cons, or_iff_right hb, ih]
      by_cases e : (Lib.indexByte l c == -1) = true
      · rw [if_pos e]
        have : Lib.indexByte l c = -1 := by simpa using e
        omega
      · rw [if_neg e]
        have : Lib.indexByte l c ≠ -1 := by simpa using e
        omega
theorem contains_at (l : List UInt8) (c : UInt8) : strings_Contains.f (ofL l) ⟨#[c]⟩ = some (decide (c ∈ l)) := by
  have e1 : stringslite_Index.f (ofL l) ⟨#[c]⟩ = some (Lib.indexByte l c) := by
    unfold stringslite_Index.f
    rw [if_pos (show (⟨#[c]⟩ : ByteArray).size = 1 from rfl), data_ofL]
    rfl
  unfold strings_Contains.f strings_Index.f
  rw [e1, Option.bind_some, Option.bind_some]
  refine congrArg some ?_
  rw [decide_eq_decide, has_iff]
/-- What the program's AppendChecksum does not refuse. -/
def Sealable (t : List UInt8) : Prop := t.length ≤ 4000 ∧ 35 ∉ t ∧ (sealL t).length ≤ 4000
theorem append_yes (t : List UInt8) (h : Sealable t) : Ev (fun k => impl_AppendChecksum.f k (ofL t)) (ofL (sealL t), true) := by
  obtain ⟨h1, h2, h3⟩ := h
  have h6 := sum_len t
  have hs := sumL_lt t 7 (by omega)
  have h3' := h3
  unfold sealL at h3'
  unfold impl_AppendChecksum.f
  rw [contains_at, decide_eq_false h2]
  refine Ev.neg (by rw [ofL_size]; omega) (Ev.have rfl (Ev.succ ?_))
  simp only [impl_AppendChecksum.j0]
  rw [show (⟨#[35]⟩ : ByteArray) = ofL [35] from rfl, ofL_append]
  refine Ev.neg (by simp) (Ev.pos (by rw [ofL_size]; omega) (Ev.bind (impl_sum_ev t (by omega)) (Ev.have (itoa_at _ (by omega)) ?_)))
  rw [ofL_append]
  refine Ev.pos (by rw [ofL_size, ofL_size]; simp; omega) (Ev.neg (by rw [ofL_size]; omega) ?_)
  exact Ev.now _
theorem append_no (t : List UInt8) (ht : t.length ≤ 1099511627776) (h : ¬ Sealable t) : Ev (fun k => impl_AppendChecksum.f k (ofL t)) (ofL [], false) := by
  have h6 := sum_len t
  have hs := sumL_lt t 7 (by omega)
  unfold impl_AppendChecksum.f
  by_cases h1 : t.length ≤ 4000
  · refine Ev.neg (by rw [ofL_size]; omega) ?_
    rw [contains_at]
    refine Ev.have rfl (Ev.succ ?_)
    simp only [impl_AppendChecksum.j0]
    by_cases h2 : 35 ∈ t
    · exact Ev.pos (by simpa using h2) (Ev.now _)
    · have h3 : ¬ (sealL t).length ≤ 4000 := fun z => h ⟨h1, h2, z⟩
      unfold sealL at h3
      rw [show (⟨#[35]⟩ : ByteArray) = ofL [35] from rfl, ofL_append]
      refine Ev.neg (by simpa using h2) (Ev.pos (by rw [ofL_size]; omega) (Ev.bind (impl_sum_ev t (by omega)) (Ev.have (itoa_at _ (by omega)) ?_)))
      rw [ofL_append]
      refine Ev.pos (by rw [ofL_size, ofL_size]; simp; omega) (Ev.pos (by rw [ofL_size]; omega) ?_)
      exact Ev.now _
  · refine Ev.pos (by rw [ofL_size]; omega) (Ev.succ ?_)
    simp only [impl_AppendChecksum.j0]
    exact Ev.pos trivial (Ev.now _)
/-- A record's text and its line. -/
def textL (k : Nat) (c r : List UInt8) : List UInt8 := D k ++ [32] ++ c ++ [64] ++ r
def lineL (k : Nat) (c r : List UInt8) : List UInt8 := sealL (textL k c r) ++ [10]
theorem textL_len (k : Nat) (hk : k < 1000000) (c r : List UInt8) : c.length + r.length + 2 ≤ (textL k c r).length ∧ (textL k c r).length ≤ c.length + r.length + 8 := by
  have := D_len 5 k (by omega)
  unfold textL
  simp
  omega
theorem spec_line_ev (k : Nat) (hk : k < 1000000) (c r : List UInt8) (hc : c.length ≤ 1099511627776) (hr : r.length ≤ 1099511627776) : Ev (fun n => spec_l12Line.f n (k : Int) (ofL c) (ofL r)) (ofL (lineL k c r)) := by
  have h6 := D_len 5 k (by omega)
  have ht := textL_len k hk c r
  have hs := sealL_len (textL k c r)
  unfold spec_l12Line.f
  refine Ev.bind (num_ev k (by omega)) ?_
  (try dsimp only)
  rw [show (⟨#[32]⟩ : ByteArray) = ofL [32] from rfl, show (⟨#[64]⟩ : ByteArray) = ofL [64] from rfl, show (⟨#[10]⟩ : ByteArray) = ofL [10] from rfl]
  simp only [ofL_append, ofL_size]
  refine Ev.pos (by omega) (Ev.pos (by simp; omega) (Ev.pos (by simp; omega) (Ev.pos (by simp; omega) ?_)))
  refine Ev.bind (spec_seal_ev (textL k c r) (by omega)) ?_
  (try dsimp only)
  rw [ofL_append, ofL_size]
  exact Ev.pos (by omega) (Ev.now _)
theorem valid_text (k : Nat) (hk : k < 1000000) (c r : List UInt8) (h : Valid c r) : Sealable (textL k c r) ∧ 35 ∉ textL k c r := by
  obtain ⟨_, h1, h2, h3, h4⟩ := h
  have ht := textL_len k hk c r
  have hs := sealL_len (textL k c r)
  have hn : 35 ∉ textL k c r := by
    unfold textL
    intro e
    simp only [List.mem_append, List.mem_singleton] at e
    rcases e with (((e | e) | e) | e) | e
    · have := D_digits k _ e
      exact absurd this (by decide)
    · exact absurd e (by decide)
    · exact (h1 _ e).2.2.1 rfl
    · exact absurd e (by decide)
    · exact (h3 _ e).2.2 rfl
  exact ⟨⟨by omega, hn, by omega⟩, hn⟩
theorem record_at (c r : List UInt8) (hc : c.length ≤ 140737488351232) (hr : r.length ≤ 140737488351232) : ∃ v, Ev (fun k => spec_l12Record.f k (ofL c) (ofL r)) v ∧ Ev (fun k => impl_IsValidRecord.f k (ofL c) (ofL r)) v ∧ (v = true ↔ Valid c r) := by
  have := record_ev (ofL c) (ofL r) (by rw [ofL_size]; exact hc) (by rw [ofL_size]; exact hr)
  rw [data_ofL, data_ofL] at this
  exact this
theorem within_at (a b c : Int) : impl_within.f a b c = some (decide (b ≤ a ∧ a ≤ c)) := by
  unfold impl_within.f
  by_cases h : a ≥ b
  · rw [if_pos h]
    refine congrArg some ?_
    rw [decide_eq_decide]
    omega
  · rw [if_neg h, decide_eq_false (by omega)]
theorem impl_enc_yes (k : Nat) (hk : k < 60) (c r : List UInt8) (h : Valid c r) : Ev (fun n => impl_EncodeRecord.f n (k : Int) (ofL c) (ofL r)) (ofL (lineL k c r), true) := by
  have ⟨_, _, l1, _, l2⟩ := h
  have h6 := D_len 5 k (by omega)
  have ht := textL_len k (by omega) c r
  have hs := sealL_len (textL k c r)
  obtain ⟨v, _, e2, hv⟩ := record_at c r (by omega) (by omega)
  obtain rfl : v = true := hv.2 h
  unfold impl_EncodeRecord.f
  rw [within_at, decide_eq_true (show (0 : Int) ≤ k ∧ (k : Int) ≤ 59 by omega)]
  refine Ev.have rfl (Ev.pos rfl (Ev.bind e2 (Ev.succ ?_)))
  simp only [impl_EncodeRecord.j0]
  refine Ev.neg (by simp) (Ev.have (itoa_at k (by omega)) ?_)
  rw [show (⟨#[32]⟩ : ByteArray) = ofL [32] from rfl, show (⟨#[64]⟩ : ByteArray) = ofL [64] from rfl, show (⟨#[10]⟩ : ByteArray) = ofL [10] from rfl]
  simp only [ofL_append, ofL_size]
  refine Ev.pos (by omega) (Ev.pos (by simp; omega) (Ev.pos (by simp; omega) (Ev.pos (by simp; omega) ?_)))
  refine Ev.bind (append_yes (textL k c r) (valid_text k (by omega) c r h).1) ?_
  (try dsimp only)
  rw [ofL_append, ofL_size]
  exact Ev.pos (by omega) (Ev.now _)
theorem impl_enc_no (k : Int) (c r : List UInt8) (hc : c.length ≤ 140737488351232) (hr : r.length ≤ 140737488351232) (h : ¬ ((0 ≤ k ∧ k ≤ 59) ∧ Valid c r)) : Ev (fun n => impl_EncodeRecord.f n k (ofL c) (ofL r)) (ofL [], false) := by
  obtain ⟨v, _, e2, hv⟩ := record_at c r hc hr
  unfold impl_EncodeRecord.f
  rw [within_at]
  refine Ev.have rfl ?_
  by_cases hk : 0 ≤ k ∧ k ≤ 59
  · have : v = false := by
      cases v
      · rfl
      · exact absurd ⟨hk, hv.1 rfl⟩ h
    subst this
    refine Ev.pos (decide_eq_true hk) (Ev.bind e2 (Ev.succ ?_))
    simp only [impl_EncodeRecord.j0]
    exact Ev.pos (by simp) (Ev.now _)
  · refine Ev.neg (by simpa using hk) (Ev.succ ?_)
    simp only [impl_EncodeRecord.j0]
    exact Ev.pos trivial (Ev.now _)

/-! ### law_FnExactEncodeRecord -/
theorem spec_enc (k : Int) (c r : List UInt8) (hc : c.length ≤ 140737488351232) (hr : r.length ≤ 140737488351232) :
    ∃ z, Ev (fun n => spec_EncodeRecord.f n k (ofL c) (ofL r)) z ∧ Ev (fun n => impl_EncodeRecord.f n k (ofL c) (ofL r)) z := by
  obtain ⟨v, e1, _, hv⟩ := record_at c r hc hr
  by_cases h : (0 ≤ k ∧ k ≤ 59) ∧ Valid c r
  · obtain ⟨k, rfl⟩ : ∃ n : Nat, k = n := ⟨k.toNat, by omega⟩
    have ⟨_, _, l1, _, l2⟩ := h.2
    refine ⟨_, ?_, impl_enc_yes k (by omega) c r h.2⟩
    obtain rfl : v = true := hv.2 h.2
    unfold spec_EncodeRecord.f
    rw [in_iff]
    exact Ev.have rfl (Ev.pos (decide_eq_true h.1) (Ev.bind e1 (Ev.pos rfl (Ev.bind (spec_line_ev k (by omega) c r (by omega) (by omega)) (Ev.now _)))))
  · refine ⟨_, ?_, impl_enc_no k c r hc hr h⟩
    unfold spec_EncodeRecord.f
    rw [in_iff]
    refine Ev.have rfl ?_
    by_cases hk : 0 ≤ k ∧ k ≤ 59
    · have : v = false := by
        cases v
        · rfl
        · exact absurd ⟨hk, hv.1 rfl⟩ h
      subst this
      exact Ev.pos (decide_eq_true hk) (Ev.bind e1 (Ev.neg (by simp) (Ev.now _)))
    · exact Ev.neg (by simpa using hk) (Ev.now _)
theorem FnExactEncodeRecord : ∀ (a0 : Int) (a1_0 : ByteArray) (a1_1 : ByteArray), (Lit.int .i64 a0).wf = true → a1_0.size ≤ maxLen → a1_1.size ≤ maxLen → ∃ k, laws_FnExactEncodeRecord.f k a0 a1_0 a1_1 = some true := by
  intro n c r _ hc hr
  have hc : c.size ≤ 9223372036854775807 := Nat.le_trans hc (by decide)
  have hr : r.size ≤ 9223372036854775807 := Nat.le_trans hr (by decide)
  refine Ev.rounds ?_
  unfold laws_FnExactEncodeRecord.f
  by_cases h1 : c.size ≤ 1048576
  · by_cases h2 : c.size + r.size ≤ 1048576
    · have ht : laws_szLogRecord.f c r 1048576 = some (1048576 - (c.size : Int) - r.size) := by
        unfold laws_szLogRecord.f
        rw [wrap_id (x := 1048576 - (c.size : Int)) (by omega) (by omega), if_neg (by omega), wrap_id (by omega) (by omega), if_neg (by omega)]
      refine Ev.have ht (Ev.neg (by omega) (Ev.have rfl ?_))
      obtain ⟨c, rfl⟩ := all_ofL c
      obtain ⟨r, rfl⟩ := all_ofL r
      rw [ofL_size] at h1 h2
      rw [ofL_size] at h2
      obtain ⟨z, e1, e2⟩ := spec_enc n c r (by omega) (by omega)
      exact Ev.bind e1 (Ev.have rfl (Ev.bind e2 (Ev.pos rfl (Ev.neg (bne_self _) (Ev.now _)))))
    · have ht : laws_szLogRecord.f c r 1048576 = some (-1) := by
        unfold laws_szLogRecord.f
        rw [wrap_id (x := 1048576 - (c.size : Int)) (by omega) (by omega), if_neg (by omega), wrap_id (by omega) (by omega), if_pos (by omega)]
      exact Ev.have ht (Ev.pos (by omega) (Ev.now _))
  · have ht : laws_szLogRecord.f c r 1048576 = some (-1) := by
      unfold laws_szLogRecord.f
      rw [wrap_id (x := 1048576 - (c.size : Int)) (by omega) (by omega), if_pos (by omega)]
    exact Ev.have ht (Ev.pos (by omega) (Ev.now _))

end Go.Proofs.YtphcagjmpaajmaaDoor.Pure
