/- What RecoverLog reads zb_ a crash are all durable records and some of the pending ones in order, and an untorn crash loses no whole record. No conditions. -/
import Derived.Test.YtphcagjmpaajmaaDoorQFnCrashesx
namespace Go.Proofs.YtphcagjmpaajmaaDoor.Pure
open Go.RowKit Go.Proofs.YtphcagjmpaajmaaDoor.QFnCrashes Go.Proofs.YtphcagjmpaajmaaDoorW.PrintWords Go.Proofs.YtphcagjmpaajmaaDoorW.PrintLast Go.Proofs.YtphcagjmpaajmaaDoorW.PrintMore
set_option linter.unusedVariables false
set_option linter.unusedSimpArgs false

theorem wi_ {x : Int} (h0 : -9223372036854775808 ≤ x) (h1 : x ≤ 9223372036854775807) : wrap64 x = x := by
 unfold wrap64
 omega
theorem zo_ {i n : Nat} (h : i < n) (hn : n ≤ 4611686018427387904) : wrap64 ((i : Int) + 1) = ((i + 1 : Nat) : Int) := by
 unfold wrap64
 omega
theorem rd_nat (l : List Int) (i : Nat) : rd l (i : Int) = l.getD i 0 := by unfold rd; simp
theorem rd_get (l : List Int) (i : Nat) (h : i < l.length) : rd l (i : Int) = l[i] := by rw [rd_nat]; simp [List.getD, h]
theorem fuel {k d : Nat} (h : d < k) : ∃ m, k = m + 1 ∧ d ≤ m := ⟨k - 1, by omega, by omega⟩

theorem bne_self {α : Type} [BEq α] [LawfulBEq α] (a : α) : ¬ (a != a) = true := by simp
theorem Es_ {α : Type} {g : Nat → Option α} {r : α} (h : Ev (fun k => g (k + 1)) r) : Ev g r := by
 obtain ⟨K, h⟩ := h
 refine ⟨K + 1, fun k hk => ?_⟩
 obtain ⟨k, rfl, hk'⟩ := fuel (show K < k by omega)
 exact h k hk'
theorem Ep_ {α : Type} {g f : Nat → Option α} {r : α} {c : Prop} [Decidable c] (hc : c) (h : Ev g r) : Ev (fun k => if c then g k else f k) r := by
 obtain ⟨K, h⟩ := h
 exact ⟨K, fun k hk => by show (if c then g k else f k) = some r; rw [if_pos hc]; exact h k hk⟩
theorem En_ {α : Type} {g f : Nat → Option α} {r : α} {c : Prop} [Decidable c] (hc : ¬ c) (h : Ev f r) : Ev (fun k => if c then g k else f k) r := by
 obtain ⟨K, h⟩ := h
 exact ⟨K, fun k hk => by show (if c then g k else f k) = some r; rw [if_neg hc]; exact h k hk⟩
theorem Eh_ {α β : Type} {x : Option α} {a : α} {f : Nat → α → Option β} {r : β} (e : x = some a) (h : Ev (fun k => f k a) r) : Ev (fun k => x.bind (f k)) r := by
 obtain ⟨K, h⟩ := h
 exact ⟨K, fun k hk => by show x.bind (f k) = some r; rw [e, Option.bind_some]; exact h k hk⟩
theorem Ev.same {α : Type} {g : Nat → Option α} {r r' : α} (h : Ev g r) (e : r = r') : Ev g r' := e ▸ h
theorem Ev.uniq {α : Type} {g : Nat → Option α} {r r' : α} (h : Ev g r) (h' : Ev g r') : r = r' := by
 obtain ⟨K, h⟩ := h
 obtain ⟨K', h'⟩ := h'
 exact Option.some.inj ((h (K + K') (by omega)).symm.trans (h' (K + K') (by omega)))

theorem u8_bounds {x : Int} (h : (Lit.int .u8 x).wf = true) : 0 ≤ x ∧ x ≤ 255 := by
 have h := h
 simp [Lit.wf, IntKind.min, IntKind.max, IntKind.signed, IntKind.bits] at h
 omega
theorem rd_bounds (l : List Int) (hb : ∀ x ∈ l, 0 ≤ x ∧ x ≤ 255) (i : Int) : 0 ≤ rd l i ∧ rd l i ≤ 255 := by
 unfold rd
 cases h : l[i.toNat]? with
 | none => simp [List.getD, h]
 | some x =>
  simp only [List.getD, h, Option.getD_some]
  exact hb x (List.mem_of_getElem? h)
theorem and255 (x : Int) : 0 ≤ Go.bits .and .u64 (IntKind.u64.wrap x / 1099511627776) 255 ∧ Go.bits .and .u64 (IntKind.u64.wrap x / 1099511627776) 255 ≤ 255 := by
 have h : 0 ≤ IntKind.u64.wrap x ∧ IntKind.u64.wrap x < 18446744073709551616 := by
  rw [IntKind.wrap_u64]
  omega
 generalize IntKind.u64.wrap x = y at h
 have e : y / 1099511627776 = ((y / 1099511627776).toNat : Int) := by omega
 rw [e, show (255 : Int) = ((255 : Nat) : Int) from rfl, (bits_nat .u64 64 (by decide) (fun n h h' => by rw [IntKind.wrap_u64]; omega) _ 255 (by omega) (by omega)).1]
 have := Nat.and_le_right (n := (y / 1099511627776).toNat) (m := 255)
 omega
theorem next_ok (code : List Int) (hb : ∀ x ∈ code, 0 ≤ x ∧ x ≤ 255) (a : Nat) (ha : a ≤ 1000) (seed : Int) : ∃ (b s : Int), spec_l1Cur_next.f code a seed = some (b, ((a + 1 : Nat) : Int), s) ∧ 0 ≤ b ∧ b ≤ 255 := by
 have h1 := rd_bounds code hb a
 unfold spec_l1Cur_next.f
 rw [wi_ (x := rd code a) (by omega) (by omega), zo_ (n := 2000) (by omega) (by omega)]
 have small : ∀ y : Int, 0 ≤ wrap64 (Go.bits .and .u64 (IntKind.u64.wrap y / 1099511627776) 255) ∧ wrap64 (Go.bits .and .u64 (IntKind.u64.wrap y / 1099511627776) 255) ≤ 255 := fun y => by
  have := and255 y
  rw [wi_ (by omega) (by omega)]
  exact this
 split
 ·rw [if_pos (by omega)]
  split
  ·exact ⟨_, _, rfl, h1.1, h1.2⟩
  ·exact ⟨_, _, rfl, (small _).1, (small _).2⟩
 ·split
  ·exact ⟨_, _, rfl, by omega, by omega⟩
  ·exact ⟨_, _, rfl, (small _).1, (small _).2⟩
theorem zp_ (code : List Int) (hb : ∀ x ∈ code, 0 ≤ x ∧ x ≤ 255) (a : Nat) (ha : a ≤ 900) (seed n : Int) (h1 : 1 < n) (h2 : n ≤ 200) : ∃ (r s : Int), spec_l1Cur_pick.f code a seed n = some (r, ((a + 1 : Nat) : Int), s) ∧ 0 ≤ r ∧ r < n := by
 obtain ⟨b, s, e, b0, b1⟩ := next_ok code hb a (by omega) seed
 unfold spec_l1Cur_pick.f
 rw [if_neg (by omega), e, Option.bind_some, if_neg (by omega), if_neg (by omega)]
 exact ⟨_, _, rfl, Int.tmod_nonneg _ b0, Int.tmod_lt_of_pos _ (by omega)⟩
theorem one_ok (code : List Int) (hb : ∀ x ∈ code, 0 ≤ x ∧ x ≤ 255) (a : Nat) (ha : a ≤ 900) (seed n : Int) (h1 : 1 < n) (h2 : n ≤ 200) : ∃ (r : Bool) (s : Int), spec_l1Cur_one.f code a seed n = some (r, ((a + 1 : Nat) : Int), s) := by
 obtain ⟨b, s, e, _⟩ := zp_ code hb a ha seed n h1 h2
 unfold spec_l1Cur_one.f
 rw [e]
 exact ⟨_, _, rfl⟩

theorem in_iff (a b c : Int) : spec_l1In.f a b c = some (decide (b ≤ a ∧ a ≤ c)) := by
 unfold spec_l1In.f
 by_cases h : a ≥ b
 ·rw [if_pos h]
  refine congrArg some ?_
  rw [decide_eq_decide]
  omega
 ·rw [if_neg h, decide_eq_false (by omega)]
def PR (s : ByteArray) (j : Nat) : Prop := 32 ≤ bt s j ∧ bt s j ≤ 126
theorem from_succ {n i : Nat} (h : i < n) (P : Nat → Prop) : (∀ j : Nat, i ≤ j → j < n → P j) ↔ P i ∧ ∀ j : Nat, i + 1 ≤ j → j < n → P j := by
 constructor
 ·intro e
  exact ⟨e i (Nat.le_refl _) h, fun j h1 h2 => e j (by omega) h2⟩
 ·rintro ⟨e1, e2⟩ j h1 h2
  by_cases c : j = i
  ·rw [c]; exact e1
  ·exact e2 j (by omega) h2
theorem bytes_ev (s : ByteArray) (hs : s.size ≤ 140737488351232) (most : Int) : ∃ v, Ev (fun k => spec_l12Bytes.f k s most) v ∧ (v = true ↔ (∀ j : Nat, 0 ≤ j → j < s.size → PR s j ∧ bt s j ≠ 35) ∧ (s.size : Int) ≤ most) := by
 have main : ∀ d i, i + d = s.size → ∃ v, Ev (fun k => spec_l12Bytes.l0 k s most i) v ∧ (v = true ↔ (∀ j : Nat, i ≤ j → j < s.size → PR s j ∧ bt s j ≠ 35) ∧ (s.size : Int) ≤ most) := by
  intro d
  induction d with
  | zero =>
   intro i hi
   refine ⟨decide ((s.size : Int) ≤ most), Es_ ?_, ?_⟩
   ·simp only [spec_l12Bytes.l0]
    exact En_ (by omega) (Ev.now _)
   ·rw [decide_eq_true_eq]
    exact ⟨fun e => ⟨fun j h1 h2 => by omega, e⟩, fun e => e.2⟩
  | succ d ih =>
   intro i hi
   obtain ⟨v, go, hv⟩ := ih (i + 1) (by omega)
   have hr := bt_range s i
   have fs := from_succ (show i < s.size by omega) fun j => PR s j ∧ bt s j ≠ 35
   by_cases g : 32 ≤ bt s i ∧ bt s i ≤ 126
   ·by_cases g2 : bt s i = 35
    ·refine ⟨false, Es_ ?_, fun e => absurd e (by simp), fun e => absurd g2 (fs.1 e.1).1.2⟩
     simp only [spec_l12Bytes.l0]
     rw [wi_ (x := bt s i) (by omega) (by omega), in_iff]
     exact Ep_ (by omega) (Ep_ (by omega) (Eh_ rfl (Ep_ (decide_eq_true g) (Ep_ g2 (Ev.now _)))))
    ·refine ⟨v, Es_ ?_, hv.trans ⟨fun e => ⟨fs.2 ⟨⟨g, g2⟩, e.1⟩, e.2⟩, fun e => ⟨(fs.1 e.1).2, e.2⟩⟩⟩
     simp only [spec_l12Bytes.l0]
     rw [wi_ (x := bt s i) (by omega) (by omega), zo_ (n := s.size) (by omega) (by omega), in_iff]
     exact Ep_ (by omega) (Ep_ (by omega) (Eh_ rfl (Ep_ (decide_eq_true g) (En_ g2 go))))
   ·refine ⟨false, Es_ ?_, fun e => absurd e (by simp), fun e => absurd (fs.1 e.1).1.1 g⟩
    simp only [spec_l12Bytes.l0]
    rw [wi_ (x := bt s i) (by omega) (by omega), in_iff]
    exact Ep_ (by omega) (Ep_ (by omega) (Eh_ rfl (En_ (by rw [decide_eq_true_eq]; exact g) (Ev.now _))))
 exact main s.size 0 (Nat.zero_add _)
theorem stands_ev (s : ByteArray) (hs : s.size ≤ 140737488351232) (c : Int) : ∃ v, Ev (fun k => spec_l1Stands.f k s c) v ∧ (v = true ↔ ¬ ∀ j : Nat, 0 ≤ j → j < s.size → bt s j ≠ c) := by
 have main : ∀ d i, i + d = s.size → ∃ v, Ev (fun k => spec_l1Stands.l0 k s c i) v ∧ (v = true ↔ ¬ ∀ j : Nat, i ≤ j → j < s.size → bt s j ≠ c) := by
  intro d
  induction d with
  | zero =>
   intro i hi
   refine ⟨false, Es_ ?_, fun e => absurd e (by simp), fun e => absurd (fun j h1 h2 => by omega) e⟩
   simp only [spec_l1Stands.l0]
   exact En_ (by omega) (Ev.now _)
  | succ d ih =>
   intro i hi
   obtain ⟨v, go, hv⟩ := ih (i + 1) (by omega)
   have fs := from_succ (show i < s.size by omega) fun j => bt s j ≠ c
   by_cases g : bt s i = c
   ·refine ⟨true, Es_ ?_, fun _ e => (fs.1 e).1 g, fun _ => rfl⟩
    simp only [spec_l1Stands.l0]
    exact Ep_ (by omega) (Ep_ (by omega) (Ep_ g (Ev.now _)))
   ·refine ⟨v, Es_ ?_, hv.trans ⟨fun e z => e (fs.1 z).2, fun e z => e (fs.2 ⟨g, z⟩)⟩⟩
    simp only [spec_l1Stands.l0]
    rw [zo_ (n := s.size) (by omega) (by omega)]
    exact Ep_ (by omega) (Ep_ (by omega) (En_ g go))
 exact main s.size 0 (Nat.zero_add _)
theorem idx_iff (chars : List UInt8) : ∀ l : List UInt8, 0 ≤ Lib.indexAny l chars ↔ ∃ b ∈ l, b ∈ chars
 | [] => by simp [Lib.indexAny]
 | b :: l => by
  have ih := idx_iff chars l
  have ge := Lib.indexAny_ge chars l
  unfold Lib.indexAny
  by_cases h : chars.contains b = true
  ·rw [if_pos h]
   exact ⟨fun _ => ⟨b, List.mem_cons_self, by simpa using h⟩, fun _ => by omega⟩
  ·rw [if_neg h]
   have hb : b ∉ chars := by simpa using h
   have rest : (∃ x ∈ b :: l, x ∈ chars) ↔ ∃ x ∈ l, x ∈ chars := by
    constructor
    ·rintro ⟨x, hx, hc⟩
     rcases List.mem_cons.1 hx with e | e
     ·exact absurd (e ▸ hc) hb
     ·exact ⟨x, e, hc⟩
    ·rintro ⟨x, hx, hc⟩
     exact ⟨x, List.mem_cons_of_mem _ hx, hc⟩
   rw [rest, ← ih]
   by_cases e : (Lib.indexAny l chars == -1) = true
   ·rw [if_pos e]
    have : Lib.indexAny l chars = -1 := by simpa using e
    omega
   ·rw [if_neg e]
    have : Lib.indexAny l chars ≠ -1 := by simpa using e
    omega
theorem bt_list (s : ByteArray) (j : Nat) (h : j < s.size) : bt s j = ((s.data.toList[j]'(by simpa using h)).toNat : Int) := by
 unfold bt
 rw [dif_pos (by simpa using h)]
 simp
 rfl
theorem mem_bytes (s : ByteArray) (b : UInt8) : b ∈ s.data.toList ↔ ∃ j : Nat, j < s.size ∧ bt s j = (b.toNat : Int) := by
 constructor
 ·intro h
  obtain ⟨j, hj, e⟩ := List.getElem_of_mem h
  have hj2 : j < s.size := by simpa using hj
  exact ⟨j, hj2, by rw [bt_list s j hj2, e]⟩
 ·rintro ⟨j, hj, e⟩
  rw [bt_list s j hj] at e
  have : s.data.toList[j]'(by simpa using hj) = b := UInt8.toNat_inj.1 (by omega)
  rw [← this]
  exact List.getElem_mem _
theorem plain_ev (s : ByteArray) (hs : s.size ≤ 140737488351232) (most : Int) (hm : most ≤ 1000) (o : ByteArray) (ho : o.size < 4294967281) (ha : (o.data.toList.all fun b => decide (b.toNat < 128)) = true) : ∃ v, Ev (fun k => impl_isPlain.f k s most o) v ∧ (v = true ↔ (∀ j : Nat, 0 ≤ j → j < s.size → PR s j) ∧ (s.size : Int) ≤ most ∧ ¬ ∃ b ∈ s.data.toList, b ∈ o.data.toList) := by
 have main : ∀ d i, i + d = s.size → (∀ j : Nat, j < i → PR s j) → ∃ v, Ev (fun k => impl_isPlain.l0 k s most o s.size i) v ∧ (v = true ↔ (∀ j : Nat, i ≤ j → j < s.size → PR s j) ∧ (s.size : Int) ≤ most ∧ ¬ ∃ b ∈ s.data.toList, b ∈ o.data.toList) := by
  intro d
  induction d with
  | zero =>
   intro i hi hp
   by_cases g : (s.size : Int) ≤ most
   ·have asc : (s.data.toList.all fun b => decide (b.toNat < 128)) = true := by
     rw [List.all_eq_true]
     intro b hb
     obtain ⟨j, hj, e⟩ := (mem_bytes s b).1 hb
     have := (hp j (by omega)).2
     rw [e] at this
     exact decide_eq_true (by omega)
    have hc : strings_ContainsAny.f s o = some (Lib.containsAny s.data.toList o.data.toList) := by
     unfold strings_ContainsAny.f
     rw [if_pos ⟨by omega, ho, asc, ha⟩]
    refine ⟨!Lib.containsAny s.data.toList o.data.toList, Es_ ?_, ?_⟩
    ·simp only [impl_isPlain.l0]
     exact En_ (by omega) (Ep_ g (Eh_ hc (Ev.now _)))
    ·unfold Lib.containsAny
     rw [Bool.not_eq_true', decide_eq_false_iff_not, idx_iff]
     exact ⟨fun e => ⟨fun j h1 h2 => by omega, g, e⟩, fun e => e.2.2⟩
   ·refine ⟨false, Es_ ?_, fun e => absurd e (by simp), fun e => absurd e.2.1 g⟩
    simp only [impl_isPlain.l0]
    exact En_ (by omega) (En_ g (Ev.now _))
  | succ d ih =>
   intro i hi hp
   have fs := from_succ (show i < s.size by omega) fun j => PR s j
   by_cases g1 : bt s i < 32
   ·refine ⟨false, Es_ ?_, fun e => absurd e (by simp), fun e => by have := (fs.1 e.1).1.1; omega⟩
    simp only [impl_isPlain.l0]
    exact Ep_ (by omega) (Ep_ (by omega) (Ep_ (by omega) (Ep_ g1 (Ev.now _))))
   ·by_cases g2 : bt s i > 126
    ·refine ⟨false, Es_ ?_, fun e => absurd e (by simp), fun e => by have := (fs.1 e.1).1.2; omega⟩
     simp only [impl_isPlain.l0]
     exact Ep_ (by omega) (Ep_ (by omega) (Ep_ (by omega) (En_ g1 (Ep_ g2 (Ev.now _)))))
    ·have hpr : PR s i := ⟨by omega, by omega⟩
     obtain ⟨v, go, hv⟩ := ih (i + 1) (by omega) fun j hj => by
      by_cases c : j = i
      ·rw [c]; exact hpr
      ·exact hp j (by omega)
     refine ⟨v, Es_ ?_, hv.trans ⟨fun e => ⟨fs.2 ⟨hpr, e.1⟩, e.2⟩, fun e => ⟨(fs.1 e.1).2, e.2⟩⟩⟩
     simp only [impl_isPlain.l0]
     rw [zo_ (n := s.size) (by omega) (by omega)]
     exact Ep_ (by omega) (Ep_ (by omega) (Ep_ (by omega) (En_ g1 (En_ g2 go))))
 exact main s.size 0 (Nat.zero_add _) fun j hj => by omega
theorem one_of (s : ByteArray) (c : UInt8) : (∃ b ∈ s.data.toList, b = c) ↔ ¬ ∀ j : Nat, 0 ≤ j → j < s.size → bt s j ≠ (c.toNat : Int) := by
 constructor
 ·rintro ⟨b, hb, rfl⟩ e
  obtain ⟨j, hj, z⟩ := (mem_bytes s b).1 hb
  exact e j (Nat.zero_le _) hj z
 ·intro e
  refine Classical.byContradiction fun n => e fun j _ hj z => n ⟨c, (mem_bytes s c).2 ⟨j, hj, z⟩, rfl⟩
theorem reply_ev (s : ByteArray) (hs : s.size ≤ 140737488351232) : ∃ r, Ev (fun k => spec_l12Bytes.f k s 250) r ∧ Ev (fun k => impl_isPlain.f k s 250 (⟨#[35]⟩ : ByteArray)) r := by
 obtain ⟨v, e1, hv⟩ := bytes_ev s hs 250
 obtain ⟨u, e2, hu⟩ := plain_ev s hs 250 (by omega) ⟨#[35]⟩ (by decide) (by decide)
 refine ⟨v, e1, Ev.same e2 (Bool.eq_iff_iff.2 (hu.trans (Iff.trans ?_ hv.symm)))⟩
 have h := one_of s 35
 constructor
 ·rintro ⟨h1, h2, h3⟩
  refine ⟨fun j a b => ⟨h1 j a b, fun z => h3 ?_⟩, h2⟩
  obtain ⟨x, hx, e⟩ := h.2 fun q => q j a b z
  exact ⟨x, hx, by rw [e]; simp⟩
 ·rintro ⟨h1, h2⟩
  refine ⟨fun j a b => (h1 j a b).1, h2, ?_⟩
  rintro ⟨x, hx, e⟩
  have e : x = 35 := by simpa using e
  exact h.1 ⟨x, hx, e⟩ fun j a b => (h1 j a b).2
theorem command_ev (s : ByteArray) (hs : s.size ≤ 140737488351232) : ∃ a b, Ev (fun k => spec_l12Bytes.f k s 160) a ∧ Ev (fun k => spec_l1Stands.f k s 64) b ∧ Ev (fun k => impl_isPlain.f k s 160 (⟨#[35, 64]⟩ : ByteArray)) (a && !b) := by
 obtain ⟨v, e1, hv⟩ := bytes_ev s hs 160
 obtain ⟨z, e3, hz⟩ := stands_ev s hs 64
 obtain ⟨u, e2, hu⟩ := plain_ev s hs 160 (by omega) ⟨#[35, 64]⟩ (by decide) (by decide)
 refine ⟨v, z, e1, e3, Ev.same e2 ?_⟩
 rw [Bool.eq_iff_iff, Bool.and_eq_true, Bool.not_eq_true', ← Bool.not_eq_true, hu, hv, hz, Classical.not_not]
 have h := one_of s 35
 have h' := one_of s 64
 constructor
 ·rintro ⟨h1, h2, h3⟩
  refine ⟨⟨fun j a b => ⟨h1 j a b, fun z => h3 ?_⟩, h2⟩, fun j a b z => h3 ?_⟩
  ·obtain ⟨x, hx, e⟩ := h.2 fun q => q j a b z
   exact ⟨x, hx, by rw [e]; simp⟩
  ·obtain ⟨x, hx, e⟩ := h'.2 fun q => q j a b z
   exact ⟨x, hx, by rw [e]; simp⟩
 ·rintro ⟨⟨h1, h2⟩, h3⟩
  refine ⟨fun j a b => (h1 j a b).1, h2, ?_⟩
  rintro ⟨x, hx, e⟩
  have e : x = 35 ∨ x = 64 := by simpa using e
  rcases e with e | e
  ·exact h.1 ⟨x, hx, e⟩ fun j a b => (h1 j a b).2
  ·exact h'.1 ⟨x, hx, e⟩ h3
def Valid (c r : List UInt8) : Prop := c ≠ [] ∧ (∀ b ∈ c, 32 ≤ b.toNat ∧ b.toNat ≤ 126 ∧ b ≠ 35 ∧ b ≠ 64) ∧ c.length ≤ 160 ∧ (∀ b ∈ r, 32 ≤ b.toNat ∧ b.toNat ≤ 126 ∧ b ≠ 35) ∧ r.length ≤ 250
theorem each_byte (s : ByteArray) (P : UInt8 → Prop) (Q : Int → Prop) (h : ∀ b : UInt8, P b ↔ Q b.toNat) : (∀ j : Nat, 0 ≤ j → j < s.size → Q (bt s j)) ↔ ∀ b ∈ s.data.toList, P b := by
 constructor
 ·intro e b hb
  obtain ⟨j, hj, z⟩ := (mem_bytes s b).1 hb
  exact (h b).2 (z ▸ e j (Nat.zero_le _) hj)
 ·intro e j _ hj
  have hm : (s.data.toList[j]'(by simpa using hj)) ∈ s.data.toList := List.getElem_mem _
  rw [bt_list s j hj]
  exact (h _).1 (e _ hm)
theorem ne_nat (b : UInt8) (n : Nat) (hn : n < 256) : b ≠ UInt8.ofNat n ↔ (b.toNat : Int) ≠ n := by
 constructor
 ·intro h e
  exact h (UInt8.toNat_inj.1 (by rw [UInt8.toNat_ofNat_of_lt' hn]; omega))
 ·intro h e
  rw [e, UInt8.toNat_ofNat_of_lt' hn] at h
  exact h rfl
theorem record_ev (c r : ByteArray) (hc : c.size ≤ 140737488351232) (hr : r.size ≤ 140737488351232) : ∃ v, Ev (fun k => spec_l12Record.f k c r) v ∧ Ev (fun k => impl_IsValidRecord.f k c r) v ∧ (v = true ↔ Valid c.data.toList r.data.toList) := by
 obtain ⟨z, z1, hz⟩ := bytes_ev r hr 250
 obtain ⟨z', y1, z2⟩ := reply_ev r hr
 obtain ⟨a, a1, ha⟩ := bytes_ev c hc 160
 obtain ⟨b, b1, hb⟩ := stands_ev c hc 64
 obtain ⟨a', b', x1, x2, p1⟩ := command_ev c hc
 have ez : z' = z := Ev.uniq y1 z1
 have ea : a' = a := Ev.uniq x1 a1
 have eb : b' = b := Ev.uniq x2 b1
 subst ez ea eb
 have hsz : ∀ s : ByteArray, s.size = s.data.toList.length := fun s => by simp
 have hN : c.toList = ([] : List UInt8) ↔ c.data.toList = [] := by rw [Lib.toList_data]
 have mean : (c.data.toList ≠ [] ∧ ((a' && !b') && z') = true) ↔ Valid c.data.toList r.data.toList := by
  rw [Bool.and_eq_true, Bool.and_eq_true, Bool.not_eq_true', ← Bool.not_eq_true, ha, hb, hz, Classical.not_not]
  have e1 := each_byte c (fun b => 32 ≤ b.toNat ∧ b.toNat ≤ 126 ∧ b ≠ 35) (fun i => (32 ≤ i ∧ i ≤ 126) ∧ i ≠ 35) (fun b => by have := ne_nat b 35 (by decide); constructor <;> intro q <;> refine ⟨?_, ?_⟩ <;> first | omega | exact this.1 q.2.2 | (exact ⟨by omega, this.2 q.2⟩))
  have e2 := each_byte c (fun b => b ≠ 64) (fun i => i ≠ 64) (fun b => ne_nat b 64 (by decide))
  have e3 := each_byte r (fun b => 32 ≤ b.toNat ∧ b.toNat ≤ 126 ∧ b ≠ 35) (fun i => (32 ≤ i ∧ i ≤ 126) ∧ i ≠ 35) (fun b => by have := ne_nat b 35 (by decide); constructor <;> intro q <;> refine ⟨?_, ?_⟩ <;> first | omega | exact this.1 q.2.2 | (exact ⟨by omega, this.2 q.2⟩))
  unfold Valid PR
  rw [e1, e2, e3, hsz c, hsz r]
  constructor
  ·rintro ⟨n, ⟨⟨h1, h2⟩, h3⟩, h4, h5⟩
   exact ⟨n, fun b hb => ⟨(h1 b hb).1, (h1 b hb).2.1, (h1 b hb).2.2, h3 b hb⟩, by omega, h4, by omega⟩
  ·rintro ⟨n, h1, h2, h4, h5⟩
   exact ⟨n, ⟨⟨fun b hb => ⟨(h1 b hb).1, (h1 b hb).2.1, (h1 b hb).2.2.1⟩, by omega⟩, fun b hb => (h1 b hb).2.2.2⟩, h4, by omega⟩
 by_cases he : c.toList = ([] : List UInt8)
 ·refine ⟨false, ?_, ?_, fun e => absurd e (by simp), fun e => absurd (hN.1 he) e.1⟩
  ·unfold spec_l12Record.f
   exact Ep_ he (Ev.now false)
  ·unfold impl_IsValidRecord.f impl_isCommand.f
   exact Ev.bind (Ep_ he (Ev.now false)) (En_ (by simp) (Ev.now _))
 ·refine ⟨(a' && !b') && z', ?_, ?_, ?_⟩
  ·unfold spec_l12Record.f
   refine En_ he (Ev.bind a1 ?_)
   cases a' with
   | false => exact En_ (by simp) (Ev.now _)
   | true =>
    refine Ep_ rfl (Ev.bind b1 ?_)
    cases b' with
    | true => exact Ep_ rfl (Ev.now _)
    | false => exact En_ (by simp) (Ev.bind z1 (Ev.now _))
  ·unfold impl_IsValidRecord.f impl_isCommand.f
   refine Ev.bind (a := a' && !b') (En_ he (Ev.bind p1 (Ev.now _))) ?_
   cases hab : (a' && !b') with
   | false => exact En_ (by simp) (Ev.now _)
   | true => exact Ep_ rfl (Ev.bind z2 (Ev.now _))
  ·rw [← mean]
   exact ⟨fun e => ⟨fun q => he (hN.2 q), e⟩, fun e => e.2⟩

def ofL (l : List UInt8) : ByteArray := ⟨l.toArray⟩
theorem zf_ (l : List UInt8) : (ofL l).data.toList = l := by simp [ofL]
theorem ofL_data (s : ByteArray) : ofL s.data.toList = s := by
 apply ByteArray.ext
 simp [ofL]
theorem all_ofL (s : ByteArray) : ∃ l, s = ofL l := ⟨_, (ofL_data s).symm⟩
theorem oz_ (l : List UInt8) : (ofL l).size = l.length := by simp [ofL, ByteArray.size]
theorem oa_ (a b : List UInt8) : ofL a ++ ofL b = ofL (a ++ b) := by
 apply ByteArray.ext
 simp [ofL, ByteArray.data_append]
theorem oe_ (l : List UInt8) (i j : Nat) : (ofL l).extract i j = ofL ((l.take j).drop i) := by
 apply ByteArray.ext
 rw [ByteArray.data_extract]
 apply Array.toList_inj.1
 rw [Array.toList_extract, List.extract_eq_take_drop]
 simp [ofL, List.drop_take]
theorem zl_ (l : List UInt8) : (ofL l).toList = l := by rw [Lib.toList_data, zf_]
theorem bt_ofL (l : List UInt8) (i : Nat) (h : i < l.length) : bt (ofL l) (i : Int) = (l[i].toNat : Int) := by
 rw [bt_list (ofL l) i (by rw [oz_]; exact h)]
 simp [ofL]
def D (n : Nat) : List UInt8 := Lib.decDigits n
theorem D_small {n : Nat} (h : n < 10) : D n = [UInt8.ofNat (48 + n)] := Lib.decDigits_one h
theorem D_big {n : Nat} (h : ¬ n < 10) : D n = D (n / 10) ++ [UInt8.ofNat (48 + n % 10)] := by
 unfold D
 rw [Lib.decDigits, dif_neg h]
theorem D_len : ∀ d n, n < 10 ^ (d + 1) → (D n).length ≤ d + 1
 | 0, n, h => by rw [D_small (by omega)]; simp
 | d + 1, n, h => by
  by_cases c : n < 10
  ·rw [D_small c]; simp
  ·have := D_len d (n / 10) (by rw [Nat.pow_succ] at h; omega)
   rw [D_big c, List.length_append]
   simp
   omega
theorem digit_byte (m : Nat) (h : m < 10) : (UInt8.ofNat (48 + m)).toNat = 48 + m := UInt8.toNat_ofNat_of_lt' (by show 48 + m < 256; omega)
theorem D_digits (n : Nat) : ∀ b ∈ D n, 48 ≤ b.toNat ∧ b.toNat ≤ 57 := by
 induction n using Nat.strongRecOn with
 | _ n ih =>
 intro b hb
 by_cases c : n < 10
 ·rw [D_small c] at hb
  rw [List.mem_singleton.1 hb, digit_byte n c]
  omega
 ·rw [D_big c] at hb
  rcases List.mem_append.1 hb with h | h
  ·exact ih (n / 10) (by omega) b h
  ·rw [List.mem_singleton.1 h, digit_byte _ (Nat.mod_lt _ (by omega))]
   omega
theorem dig : ∀ n, n < 10 → (⟨#[48, 49, 50, 51, 52, 53, 54, 55, 56, 57]⟩ : ByteArray).extract n (n + 1) = ofL [UInt8.ofNat (48 + n)] := by
 intro n h
 rw [show (⟨#[48, 49, 50, 51, 52, 53, 54, 55, 56, 57]⟩ : ByteArray) = ofL [48, 49, 50, 51, 52, 53, 54, 55, 56, 57] from rfl, oe_]
 refine congrArg ofL ?_
 match n, h with
 | 0, _ => rfl
 | 1, _ => rfl
 | 2, _ => rfl
 | 3, _ => rfl
 | 4, _ => rfl
 | 5, _ => rfl
 | 6, _ => rfl
 | 7, _ => rfl
 | 8, _ => rfl
 | 9, _ => rfl
theorem num_ev (n : Nat) (h : n < 1000000000) : Ev (fun k => spec_l1Num.f k (n : Int)) (ofL (D n)) := by
 induction n using Nat.strongRecOn with
 | _ n ih =>
 refine Es_ ?_
 simp only [spec_l1Num.f]
 refine En_ (by omega) ?_
 by_cases c : n < 10
 ·rw [zo_ (n := 10) c (by omega)]
  refine Ep_ (by omega) (Ep_ (by omega) (Ep_ (by omega) (Ep_ (by omega) ?_)))
  rw [Int.toNat_natCast, Int.toNat_natCast, dig n c, D_small c]
  exact Ev.now _
 ·have e1 : Int.tdiv (n : Int) 10 = ((n / 10 : Nat) : Int) := rfl
  have e2 : Int.tmod (n : Int) 10 = ((n % 10 : Nat) : Int) := rfl
  have hm : n % 10 < 10 := Nat.mod_lt _ (by omega)
  have hl : (D (n / 10)).length ≤ 9 := D_len 8 _ (by omega)
  rw [e1, e2, wi_ (x := ((n / 10 : Nat) : Int)) (by omega) (by omega), zo_ (n := 10) hm (by omega)]
  simp only [Int.toNat_natCast]
  rw [dig _ hm]
  refine En_ (by omega) (Ev.bind (ih (n / 10) (by omega) (by omega)) ?_)
  refine Ep_ (by omega) (Ep_ (by omega) (Ep_ (by omega) (Ep_ (by rw [oz_, oz_]; simp; omega) ?_)))
  rw [oa_, ← D_big c]
  exact Ev.now _
theorem itoa_at (n : Nat) (h : n < 1000000000) : strconv_Itoa.f (n : Int) = some (ofL (D n)) := by
 unfold strconv_Itoa.f
 rw [if_pos (by omega), Lib.itoa_nonneg]
 rfl
def sumL : List UInt8 → Nat → Nat
 | [], h => h
 | b :: l, h => sumL l ((41 * h + b.toNat + 1) % 999979)
theorem sumL_lt : ∀ (l : List UInt8) (h : Nat), h < 999979 → sumL l h < 999979
 | [], _, h => h
 | _ :: l, _, _ => sumL_lt l _ (Nat.mod_lt _ (by omega))
theorem sum_step (h b : Nat) (hh : h < 999979) (hb : b < 256) : Int.tmod (wrap64 ((wrap64 ((wrap64 (41 * (h : Int))) + (wrap64 (b : Int)))) + 1)) 999979 = (((41 * h + b + 1) % 999979 : Nat) : Int) := by
 rw [wi_ (x := 41 * (h : Int)) (by omega) (by omega), wi_ (x := (b : Int)) (by omega) (by omega), wi_ (x := 41 * (h : Int) + b) (by omega) (by omega), wi_ (by omega) (by omega),
  show 41 * (h : Int) + b + 1 = ((41 * h + b + 1 : Nat) : Int) by omega]
 rfl
theorem drop_cons {l pre rest : List UInt8} {b : UInt8} (e : l = pre ++ b :: rest) : ∃ h : pre.length < l.length, l[pre.length]'h = b := by
 subst e
 exact ⟨by simp, by simp⟩
theorem spec_sum_ev (l : List UInt8) (hl : l.length ≤ 140737488351232) : Ev (fun k => spec_l1Sum.f k (ofL l)) (sumL l 7 : Int) := by
 have main : ∀ (rest pre : List UInt8) (h : Nat), l = pre ++ rest → h < 999979 → Ev (fun k => spec_l1Sum.l0 k (ofL l) (h : Int) (pre.length : Int)) (sumL rest h : Int) := by
  intro rest
  induction rest with
  | nil =>
   intro pre h e hh
   refine Es_ ?_
   simp only [spec_l1Sum.l0]
   rw [List.append_nil] at e
   exact En_ (by rw [oz_, e]; omega) (Ev.now _)
  | cons b rest ih =>
   intro pre h e hh
   obtain ⟨hlt, hb⟩ := drop_cons e
   have hbb := b.toNat_lt
   refine Es_ ?_
   simp only [spec_l1Sum.l0]
   rw [bt_ofL l _ hlt, hb, sum_step h b.toNat hh hbb, zo_ hlt (by omega)]
   refine Ep_ (by rw [oz_]; omega) (Ep_ (by omega) ?_)
   have := ih (pre ++ [b]) ((41 * h + b.toNat + 1) % 999979) (by simp [e]) (Nat.mod_lt _ (by omega))
   rw [List.length_append, List.length_singleton] at this
   exact this
 exact main l [] 7 rfl (by omega)
theorem impl_sum_ev (l : List UInt8) (hl : l.length ≤ 140737488351232) : Ev (fun k => impl_checksum.f k (ofL l)) (sumL l 7 : Int) := by
 have main : ∀ (rest pre : List UInt8) (h : Nat), l = pre ++ rest → h < 999979 → Ev (fun k => impl_checksum.l0 k (ofL l) (h : Int) (((ofL l).size : Nat) : Int) (pre.length : Int)) (sumL rest h : Int) := by
  intro rest
  induction rest with
  | nil =>
   intro pre h e hh
   refine Es_ ?_
   simp only [impl_checksum.l0]
   rw [List.append_nil] at e
   exact En_ (by rw [oz_, e]; omega) (Ev.now _)
  | cons b rest ih =>
   intro pre h e hh
   obtain ⟨hlt, hb⟩ := drop_cons e
   have hbb := b.toNat_lt
   refine Es_ ?_
   simp only [impl_checksum.l0]
   rw [bt_ofL l _ hlt, hb, sum_step h b.toNat hh hbb, zo_ hlt (by omega)]
   refine Ep_ (by rw [oz_]; omega) (Ep_ (by omega) (Ep_ (by rw [oz_]; omega) ?_))
   have := ih (pre ++ [b]) ((41 * h + b.toNat + 1) % 999979) (by simp [e]) (Nat.mod_lt _ (by omega))
   rw [List.length_append, List.length_singleton] at this
   exact this
 exact main l [] 7 rfl (by omega)
def zs_ (t : List UInt8) : List UInt8 := t ++ [35] ++ D (sumL t 7)
theorem sum_len (t : List UInt8) : (D (sumL t 7)).length ≤ 6 := D_len 5 _ (by have := sumL_lt t 7 (by omega); omega)
theorem zv_ (t : List UInt8) : t.length + 1 ≤ (zs_ t).length ∧ (zs_ t).length ≤ t.length + 7 := by
 have := sum_len t
 unfold zs_
 simp
 omega
theorem spec_seal_ev (t : List UInt8) (ht : t.length ≤ 4611686018427) : Ev (fun k => spec_l1Seal.f k (ofL t)) (ofL (zs_ t)) := by
 have h6 := sum_len t
 have hs := sumL_lt t 7 (by omega)
 unfold spec_l1Seal.f
 rw [show (⟨#[35]⟩ : ByteArray) = ofL [35] from rfl, oa_]
 refine Ep_ (by rw [oz_]; omega) (Ev.bind (spec_sum_ev t (by omega)) (Ev.bind (num_ev _ (by omega)) ?_))
 refine Ep_ (by rw [oz_, oz_]; simp; omega) ?_
 rw [oa_]
 exact Ev.now _
theorem has_iff (l : List UInt8) (c : UInt8) : c ∈ l ↔ 0 ≤ Lib.indexByte l c := by
 induction l with
 | nil => simp [Lib.indexByte]
 | cons b l ih =>
  have ge := Lib.indexByte_ge l c
  unfold Lib.indexByte
  by_cases h : (b == c) = true
  ·rw [if_pos h]
   have : b = c := by simpa using h
   simp [this]
  ·rw [if_neg h]
   have hb : ¬ c = b := fun e => h (by simp [e])
   rw [List.mem_cons, or_iff_right hb, ih]
   by_cases e : (Lib.indexByte l c == -1) = true
   ·rw [if_pos e]
    have : Lib.indexByte l c = -1 := by simpa using e
    omega
   ·rw [if_neg e]
    have : Lib.indexByte l c ≠ -1 := by simpa using e
    omega
theorem contains_at (l : List UInt8) (c : UInt8) : strings_Contains.f (ofL l) ⟨#[c]⟩ = some (decide (c ∈ l)) := by
 have e1 : stringslite_Index.f (ofL l) ⟨#[c]⟩ = some (Lib.indexByte l c) := by
  unfold stringslite_Index.f
  rw [if_pos (show (⟨#[c]⟩ : ByteArray).size = 1 from rfl), zf_]
  rfl
 unfold strings_Contains.f strings_Index.f
 rw [e1, Option.bind_some, Option.bind_some]
 refine congrArg some ?_
 rw [decide_eq_decide, has_iff]
def Sealable (t : List UInt8) : Prop := t.length ≤ 4000 ∧ 35 ∉ t ∧ (zs_ t).length ≤ 4000
theorem append_yes (t : List UInt8) (h : Sealable t) : Ev (fun k => impl_AppendChecksum.f k (ofL t)) (ofL (zs_ t), true) := by
 obtain ⟨h1, h2, h3⟩ := h
 have h6 := sum_len t
 have hs := sumL_lt t 7 (by omega)
 have h3' := h3
 unfold zs_ at h3'
 unfold impl_AppendChecksum.f
 rw [contains_at, decide_eq_false h2]
 refine En_ (by rw [oz_]; omega) (Eh_ rfl (Es_ ?_))
 simp only [impl_AppendChecksum.j0]
 rw [show (⟨#[35]⟩ : ByteArray) = ofL [35] from rfl, oa_]
 refine En_ (by simp) (Ep_ (by rw [oz_]; omega) (Ev.bind (impl_sum_ev t (by omega)) (Eh_ (itoa_at _ (by omega)) ?_)))
 rw [oa_]
 refine Ep_ (by rw [oz_, oz_]; simp; omega) (En_ (by rw [oz_]; omega) ?_)
 exact Ev.now _
theorem append_no (t : List UInt8) (ht : t.length ≤ 1099511627776) (h : ¬ Sealable t) : Ev (fun k => impl_AppendChecksum.f k (ofL t)) (ofL [], false) := by
 have h6 := sum_len t
 have hs := sumL_lt t 7 (by omega)
 unfold impl_AppendChecksum.f
 by_cases h1 : t.length ≤ 4000
 ·refine En_ (by rw [oz_]; omega) ?_
  rw [contains_at]
  refine Eh_ rfl (Es_ ?_)
  simp only [impl_AppendChecksum.j0]
  by_cases h2 : 35 ∈ t
  ·exact Ep_ (by simpa using h2) (Ev.now _)
  ·have h3 : ¬ (zs_ t).length ≤ 4000 := fun z => h ⟨h1, h2, z⟩
   unfold zs_ at h3
   rw [show (⟨#[35]⟩ : ByteArray) = ofL [35] from rfl, oa_]
   refine En_ (by simpa using h2) (Ep_ (by rw [oz_]; omega) (Ev.bind (impl_sum_ev t (by omega)) (Eh_ (itoa_at _ (by omega)) ?_)))
   rw [oa_]
   refine Ep_ (by rw [oz_, oz_]; simp; omega) (Ep_ (by rw [oz_]; omega) ?_)
   exact Ev.now _
 ·refine Ep_ (by rw [oz_]; omega) (Es_ ?_)
  simp only [impl_AppendChecksum.j0]
  exact Ep_ trivial (Ev.now _)
def zx_ (k : Nat) (c r : List UInt8) : List UInt8 := D k ++ [32] ++ c ++ [64] ++ r
def lineL (k : Nat) (c r : List UInt8) : List UInt8 := zs_ (zx_ k c r) ++ [10]
theorem zy_ (k : Nat) (hk : k < 1000000) (c r : List UInt8) : c.length + r.length + 2 ≤ (zx_ k c r).length ∧ (zx_ k c r).length ≤ c.length + r.length + 8 := by
 have := D_len 5 k (by omega)
 unfold zx_
 simp
 omega
theorem spec_line_ev (k : Nat) (hk : k < 1000000) (c r : List UInt8) (hc : c.length ≤ 1099511627776) (hr : r.length ≤ 1099511627776) : Ev (fun n => spec_l12Line.f n (k : Int) (ofL c) (ofL r)) (ofL (lineL k c r)) := by
 have h6 := D_len 5 k (by omega)
 have ht := zy_ k hk c r
 have hs := zv_ (zx_ k c r)
 unfold spec_l12Line.f
 refine Ev.bind (num_ev k (by omega)) ?_
 (try dsimp only)
 rw [show (⟨#[32]⟩ : ByteArray) = ofL [32] from rfl, show (⟨#[64]⟩ : ByteArray) = ofL [64] from rfl, show (⟨#[10]⟩ : ByteArray) = ofL [10] from rfl]
 simp only [oa_, oz_]
 refine Ep_ (by omega) (Ep_ (by simp; omega) (Ep_ (by simp; omega) (Ep_ (by simp; omega) ?_)))
 refine Ev.bind (spec_seal_ev (zx_ k c r) (by omega)) ?_
 (try dsimp only)
 rw [oa_, oz_]
 exact Ep_ (by omega) (Ev.now _)
theorem valid_text (k : Nat) (hk : k < 1000000) (c r : List UInt8) (h : Valid c r) : Sealable (zx_ k c r) ∧ 35 ∉ zx_ k c r := by
 obtain ⟨_, h1, h2, h3, h4⟩ := h
 have ht := zy_ k hk c r
 have hs := zv_ (zx_ k c r)
 have hn : 35 ∉ zx_ k c r := by
  unfold zx_
  intro e
  simp only [List.mem_append, List.mem_singleton] at e
  rcases e with (((e | e) | e) | e) | e
  ·have := D_digits k _ e
   exact absurd this (by decide)
  ·exact absurd e (by decide)
  ·exact (h1 _ e).2.2.1 rfl
  ·exact absurd e (by decide)
  ·exact (h3 _ e).2.2 rfl
 exact ⟨⟨by omega, hn, by omega⟩, hn⟩
theorem record_at (c r : List UInt8) (hc : c.length ≤ 140737488351232) (hr : r.length ≤ 140737488351232) : ∃ v, Ev (fun k => spec_l12Record.f k (ofL c) (ofL r)) v ∧ Ev (fun k => impl_IsValidRecord.f k (ofL c) (ofL r)) v ∧ (v = true ↔ Valid c r) := by
 have := record_ev (ofL c) (ofL r) (by rw [oz_]; exact hc) (by rw [oz_]; exact hr)
 rw [zf_, zf_] at this
 exact this
theorem within_at (a b c : Int) : impl_within.f a b c = some (decide (b ≤ a ∧ a ≤ c)) := by
 unfold impl_within.f
 by_cases h : a ≥ b
 ·rw [if_pos h]
  refine congrArg some ?_
  rw [decide_eq_decide]
  omega
 ·rw [if_neg h, decide_eq_false (by omega)]
theorem impl_enc_yes (k : Nat) (hk : k < 60) (c r : List UInt8) (h : Valid c r) : Ev (fun n => impl_EncodeRecord.f n (k : Int) (ofL c) (ofL r)) (ofL (lineL k c r), true) := by
 have ⟨_, _, l1, _, l2⟩ := h
 have h6 := D_len 5 k (by omega)
 have ht := zy_ k (by omega) c r
 have hs := zv_ (zx_ k c r)
 obtain ⟨v, _, e2, hv⟩ := record_at c r (by omega) (by omega)
 obtain rfl : v = true := hv.2 h
 unfold impl_EncodeRecord.f
 rw [within_at, decide_eq_true (show (0 : Int) ≤ k ∧ (k : Int) ≤ 59 by omega)]
 refine Eh_ rfl (Ep_ rfl (Ev.bind e2 (Es_ ?_)))
 simp only [impl_EncodeRecord.j0]
 refine En_ (by simp) (Eh_ (itoa_at k (by omega)) ?_)
 rw [show (⟨#[32]⟩ : ByteArray) = ofL [32] from rfl, show (⟨#[64]⟩ : ByteArray) = ofL [64] from rfl, show (⟨#[10]⟩ : ByteArray) = ofL [10] from rfl]
 simp only [oa_, oz_]
 refine Ep_ (by omega) (Ep_ (by simp; omega) (Ep_ (by simp; omega) (Ep_ (by simp; omega) ?_)))
 refine Ev.bind (append_yes (zx_ k c r) (valid_text k (by omega) c r h).1) ?_
 (try dsimp only)
 rw [oa_, oz_]
 exact Ep_ (by omega) (Ev.now _)
theorem impl_enc_no (k : Int) (c r : List UInt8) (hc : c.length ≤ 140737488351232) (hr : r.length ≤ 140737488351232) (h : ¬ ((0 ≤ k ∧ k ≤ 59) ∧ Valid c r)) : Ev (fun n => impl_EncodeRecord.f n k (ofL c) (ofL r)) (ofL [], false) := by
 obtain ⟨v, _, e2, hv⟩ := record_at c r hc hr
 unfold impl_EncodeRecord.f
 rw [within_at]
 refine Eh_ rfl ?_
 by_cases hk : 0 ≤ k ∧ k ≤ 59
 ·have : v = false := by
   cases v
   ·rfl
   ·exact absurd ⟨hk, hv.1 rfl⟩ h
  subst this
  refine Ep_ (decide_eq_true hk) (Ev.bind e2 (Es_ ?_))
  simp only [impl_EncodeRecord.j0]
  exact Ep_ (by simp) (Ev.now _)
 ·refine En_ (by simpa using hk) (Es_ ?_)
  simp only [impl_EncodeRecord.j0]
  exact Ep_ trivial (Ev.now _)

def za_ (c : UInt8) (l : List UInt8) : List UInt8 := l.takeWhile (· != c)
def zb_ (c : UInt8) (l : List UInt8) : List UInt8 := (l.dropWhile (· != c)).tail
theorem zn_ {c : UInt8} {l : List UInt8} (h : c ∉ l) : za_ c l = l := by
 have := List.takeWhile_append_of_pos (p := (· != c)) (l₁ := l) (l₂ := []) (fun x hx => by simp only [bne_iff_ne]; intro e; exact h (e ▸ hx))
 rw [List.append_nil, List.takeWhile_nil, List.append_nil] at this
 exact this
theorem behind_none {c : UInt8} {l : List UInt8} (h : c ∉ l) : zb_ c l = [] := by
 unfold zb_
 have := List.takeWhile_append_dropWhile (p := (· != c)) (l := l)
 have e : l.takeWhile (· != c) = l := zn_ h
 rw [e] at this
 rw [List.append_right_eq_self.1 this]
 rfl
theorem zt_ {c : UInt8} {a : List UInt8} (b : List UInt8) (h : c ∉ a) : za_ c (a ++ c :: b) = a := by
 unfold za_
 rw [List.takeWhile_append_of_pos (fun x hx => by simp only [bne_iff_ne]; intro e; exact h (e ▸ hx))]
 simp
theorem zw_ {c : UInt8} {a : List UInt8} (b : List UInt8) (h : c ∉ a) : zb_ c (a ++ c :: b) = b := by
 unfold zb_
 rw [List.dropWhile_append_of_pos (fun x hx => by simp only [bne_iff_ne]; intro e; exact h (e ▸ hx))]
 simp
theorem has_cut {c : UInt8} {l : List UInt8} (h : c ∈ l) : ∃ a b, l = a ++ c :: b ∧ c ∉ a := by
 obtain ⟨a, b, e, n⟩ := List.eq_append_cons_of_mem h
 exact ⟨a, b, e, n⟩
theorem zu_ (c : UInt8) (l : List UInt8) : (za_ c l).length ≤ l.length := by
 by_cases h : c ∈ l
 ·obtain ⟨a, b, rfl, n⟩ := has_cut h
  rw [zt_ b n]
  simp
 ·rw [zn_ h]
  exact Nat.le_refl _
theorem behind_len (c : UInt8) (l : List UInt8) : (zb_ c l).length ≤ l.length := by
 by_cases h : c ∈ l
 ·obtain ⟨a, b, rfl, n⟩ := has_cut h
  rw [zw_ b n]
  simp
  omega
 ·rw [behind_none h]
  simp
theorem index_at {c : UInt8} : ∀ (a b : List UInt8), c ∉ a → Lib.indexByte (a ++ c :: b) c = a.length
 | [], b, _ => by simp [Lib.indexByte]
 | x :: a, b, h => by
  have ih := index_at a b (fun e => h (List.mem_cons_of_mem _ e))
  have hx : ¬ (x == c) = true := fun e => h (by simp at e; simp [e])
  rw [List.cons_append]
  unfold Lib.indexByte
  rw [if_neg hx, ih, if_neg (by simp <;> omega)]
  simp
theorem index_none {c : UInt8} {l : List UInt8} (h : c ∉ l) : Lib.indexByte l c = -1 := by
 have := Lib.indexByte_ge l c
 by_cases q : 0 ≤ Lib.indexByte l c
 ·exact absurd ((has_iff l c).2 q) h
 ·omega
theorem cut_at (l : List UInt8) (hl : l.length ≤ 140737488351232) (c : UInt8) : strings_Cut.f (ofL l) ⟨#[c]⟩ = some (ofL (za_ c l), ofL (zb_ c l), decide (c ∈ l)) := by
 have e1 : stringslite_Index.f (ofL l) ⟨#[c]⟩ = some (Lib.indexByte l c) := by
  unfold stringslite_Index.f
  rw [if_pos (show (⟨#[c]⟩ : ByteArray).size = 1 from rfl), zf_]
  rfl
 have e2 : (⟨#[c]⟩ : ByteArray).size = 1 := rfl
 unfold strings_Cut.f stringslite_Cut.f
 rw [e1, e2, Option.bind_some]
 by_cases h : c ∈ l
 ·rw [decide_eq_true h]
  obtain ⟨a, b, rfl, n⟩ := has_cut h
  have hsz : (a ++ c :: b).length = a.length + b.length + 1 := by simp; omega
  rw [index_at a b n, zt_ b n, zw_ b n, wi_ (x := (a.length : Int) + ((1 : Nat) : Int)) (by omega) (by omega), oz_, if_pos (by omega), if_pos (by omega), if_pos (by omega), if_pos (by omega), if_pos (by omega), Option.bind_some, oe_, oe_]
  have z1 : ((a ++ c :: b).take ((a.length : Int)).toNat).drop 0 = a := by simp
  have z2 : ((a ++ c :: b).take (a ++ c :: b).length).drop ((a.length : Int) + ((1 : Nat) : Int)).toNat = b := by
   rw [List.take_length, show ((a.length : Int) + ((1 : Nat) : Int)).toNat = a.length + 1 by omega]
   simp
  rw [z1, z2]
 ·rw [decide_eq_false h, index_none h, zn_ h, behind_none h, if_neg (by omega), Option.bind_some]
  rfl
theorem split_rest (l : List UInt8) (hl : l.length ≤ 4398046511104) (c : Int) : ∀ d i : Nat, i + d = l.length → ∀ (x5 : List ByteArray) (fr : Nat), fr ≤ i → x5.length ≤ i → ∃ L, L ≠ [] ∧ Ev (fun k => spec_l1Split.l0 k (ofL l) c x5 (fr : Int) (i : Int)) (x5 ++ L) := by
 intro d
 induction d with
 | zero =>
  intro i hi x5 fr hf hx
  refine ⟨[(ofL l).extract ((fr : Nat) : Int).toNat l.length], by simp, Es_ ?_⟩
  simp only [spec_l1Split.l0, oz_]
  exact En_ (by omega) (Ep_ (by omega) (Ep_ (by omega) (Ep_ (by omega) (Ev.now _))))
 | succ d ih =>
  intro i hi x5 fr hf hx
  have hlt : i < l.length := by omega
  by_cases g : bt (ofL l) i = c
  ·obtain ⟨L, hL, go⟩ := ih (i + 1) (by omega) (x5 ++ [(ofL l).extract (fr : Int).toNat (i : Int).toNat]) (i + 1) (Nat.le_refl _) (by simp; omega)
   refine ⟨(ofL l).extract ((fr : Nat) : Int).toNat ((i : Nat) : Int).toNat :: L, by simp, Es_ ?_⟩
   simp only [spec_l1Split.l0, oz_]
   rw [zo_ hlt (by omega)]
   rw [List.append_assoc] at go
   exact Ep_ (by omega) (Ep_ (by omega) (Ep_ g (Ep_ (by omega) (Ep_ (by omega) (Ep_ (by omega) (Ep_ (by omega) go))))))
  ·obtain ⟨L, hL, go⟩ := ih (i + 1) (by omega) x5 fr (by omega) (by omega)
   refine ⟨L, hL, Es_ ?_⟩
   simp only [spec_l1Split.l0, oz_]
   rw [zo_ hlt (by omega)]
   exact Ep_ (by omega) (Ep_ (by omega) (En_ g go))
theorem split_ev (l : List UInt8) (hl : l.length ≤ 4398046511104) (c : UInt8) (ci : Int) (hc : ci = c.toNat) : ∃ L, Ev (fun k => spec_l1Split.f k (ofL l) ci) (ofL (za_ c l) :: L) ∧ (L ≠ [] ↔ c ∈ l) := by
 have main : ∀ (rest pre : List UInt8), l = pre ++ rest → c ∉ pre → ∃ L, Ev (fun k => spec_l1Split.l0 k (ofL l) ci [] 0 (pre.length : Int)) (ofL (za_ c l) :: L) ∧ (L ≠ [] ↔ c ∈ l) := by
  intro rest
  induction rest with
  | nil =>
   intro pre e hn
   rw [List.append_nil] at e
   subst e
   refine ⟨[], Es_ ?_, by simpa using hn⟩
   simp only [spec_l1Split.l0, oz_]
   refine En_ (by omega) (Ep_ (by omega) (Ep_ (by omega) (Ep_ (by simp) ?_)))
   rw [oe_, zn_ hn]
   simp only [Int.toNat_zero, List.drop_zero, List.take_length, List.nil_append]
   exact Ev.now _
  | cons b rest ih =>
   intro pre e hn
   obtain ⟨hlt, hb⟩ := drop_cons e
   have hg : bt (ofL l) (pre.length : Int) = ci ↔ b = c := by
    rw [bt_ofL l _ hlt, hb, hc]
    constructor
    ·intro q
     exact UInt8.toNat_inj.1 (by omega)
    ·intro q
     rw [q]
   by_cases g : b = c
   ·obtain ⟨L, hL, go⟩ := split_rest l hl ci rest.length (pre.length + 1) (by rw [e]; simp; omega) [(ofL l).extract (0 : Int).toNat ((pre.length : Nat) : Int).toNat] (pre.length + 1) (Nat.le_refl _) (by simp)
    have hm : c ∈ l := by rw [e, g]; simp
    refine ⟨L, Es_ ?_, fun _ => hm, fun _ => hL⟩
    simp only [spec_l1Split.l0, oz_]
    rw [zo_ hlt (by omega)]
    refine Ep_ (by omega) (Ep_ (by omega) (Ep_ (hg.2 g) (Ep_ (by omega) (Ep_ (by omega) (Ep_ (by omega) (Ep_ (by simp) ?_))))))
    refine Ev.same go ?_
    rw [oe_]
    simp only [Int.toNat_zero, List.drop_zero, Int.toNat_natCast, List.singleton_append]
    refine congrArg (· :: L) (congrArg ofL ?_)
    rw [e, g, zt_ rest hn]
    simp
   ·obtain ⟨L, go, hL⟩ := ih (pre ++ [b]) (by simp [e]) (by simp; exact ⟨hn, fun q => g q.symm⟩)
    refine ⟨L, Es_ ?_, hL⟩
    simp only [spec_l1Split.l0, oz_]
    rw [zo_ hlt (by omega)]
    refine Ep_ (by omega) (Ep_ (by omega) (En_ (fun q => g (hg.1 q)) ?_))
    rw [List.length_append, List.length_singleton] at go
    exact go
 exact main l [] rfl (by simp)
def Rec (k : Nat) (L c r : List UInt8) : Prop := Valid c r ∧ lineL k c r = L ++ [10]
theorem no_digit {k : Nat} {c : UInt8} (h : c.toNat < 48) : c ∉ D k := fun e => by have := D_digits k c e; omega
theorem zr_ {k : Nat} {L c r : List UInt8} (hk : k < 1000000) (h : Rec k L c r) : L = zs_ (zx_ k c r) ∧ za_ 35 L = zx_ k c r := by
 have e : L = zs_ (zx_ k c r) := (List.append_cancel_right h.2).symm
 refine ⟨e, ?_⟩
 rw [e]
 unfold zs_
 rw [List.append_assoc, List.singleton_append]
 exact zt_ _ (valid_text k hk c r h.1).2
theorem text_cut (k : Nat) (c r : List UInt8) : zx_ k c r = D k ++ 32 :: (c ++ 64 :: r) := by
 unfold zx_
 simp
theorem zq_ {k : Nat} {c r : List UInt8} (h : Valid c r) : zb_ 32 (zx_ k c r) = c ++ 64 :: r ∧ za_ 64 (c ++ 64 :: r) = c ∧ zb_ 64 (c ++ 64 :: r) = r := by
 have hn : (64 : UInt8) ∉ c := fun e => (h.2.1 _ e).2.2.2 rfl
 refine ⟨?_, zt_ r hn, zw_ r hn⟩
 rw [text_cut]
 exact zw_ _ (no_digit (by decide))
theorem spec_decode_ev (L : List UInt8) (k : Nat) (hL : L.length ≤ 1048576) (hk : k < 60) : ∃ c r ok, Ev (fun n => spec_l12Decode.f n (ofL L) (k : Int)) (ofL c, ofL r, ok) ∧ (ok = true → Rec k L c r) ∧ (∀ c' r', Rec k L c' r' → ok = true ∧ c = c' ∧ r = r') := by
 have h6 := D_len 5 k (by omega)
 obtain ⟨L1, e1, _⟩ := split_ev L (by omega) 35 35 rfl
 have htl := zu_ 35 L
 have hl1 : 0 < ((ofL (za_ 35 L) :: L1).length : Int) := by simp <;> omega
 have sz : (D k ++ [32]).length = (D k).length + 1 := by simp
 by_cases g1 : (za_ 35 L).length < (D k).length + 1
 ·refine ⟨[], [], false, ?_, fun e => absurd e (by simp), fun c' r' h => ?_⟩
  ·unfold spec_l12Decode.f
   refine Ev.bind (num_ev k (by omega)) ?_
   rw [show (⟨#[32]⟩ : ByteArray) = ofL [32] from rfl, oa_, oz_]
   refine Ep_ (by omega) (Ev.bind e1 (Ep_ hl1 ?_))
   simp only [rdOf, List.getD_cons_zero, Int.toNat_zero, oz_]
   refine Ep_ (by omega) (Es_ ?_)
   simp only [spec_l12Decode.j0]
   exact Ep_ trivial (Ev.now _)
  ·have := (zr_ (by omega) h).2
   rw [this, text_cut] at g1
   simp at g1 <;> omega
 by_cases g2 : (za_ 35 L).take ((D k).length + 1) = D k ++ [32]
 case neg =>
  refine ⟨[], [], false, ?_, fun e => absurd e (by simp), fun c' r' h => ?_⟩
  ·unfold spec_l12Decode.f
   refine Ev.bind (num_ev k (by omega)) ?_
   rw [show (⟨#[32]⟩ : ByteArray) = ofL [32] from rfl, oa_, oz_]
   refine Ep_ (by omega) (Ev.bind e1 (Ep_ hl1 ?_))
   simp only [rdOf, List.getD_cons_zero, Int.toNat_zero, oz_, sz, oe_, zl_, Int.toNat_natCast, List.drop_zero]
   rw [bne_iff_ne.2 g2]
   refine En_ (by omega) (Ep_ (by omega) (Ep_ (by omega) (Es_ ?_)))
   simp only [spec_l12Decode.j0]
   exact Ep_ trivial (Ev.now _)
  ·refine absurd ?_ g2
   rw [(zr_ (by omega) h).2, text_cut, ← sz]
   have : D k ++ 32 :: (c' ++ 64 :: r') = (D k ++ [32]) ++ (c' ++ 64 :: r') := by simp
   rw [this, List.take_left]
 have hT : za_ 35 L = (D k ++ [32]) ++ (za_ 35 L).drop ((D k).length + 1) := by
  have := List.take_append_drop ((D k).length + 1) (za_ 35 L)
  rw [g2] at this
  exact this.symm
 obtain ⟨R, hR⟩ : ∃ R, (za_ 35 L).drop ((D k).length + 1) = R := ⟨_, rfl⟩
 rw [hR] at hT
 have hRl : R.length ≤ L.length := by rw [← hR, List.length_drop]; omega
 obtain ⟨L2, e2, _⟩ := split_ev R (by omega) 64 64 rfl
 have hl2 : 0 < ((ofL (za_ 64 R) :: L2).length : Int) := by simp <;> omega
 have hal := zu_ 64 R
 have hrec : ∀ c' r', Rec k L c' r' → R = c' ++ 64 :: r' := by
  intro c' r' h
  have e := (zr_ (by omega) h).2
  rw [hT, text_cut] at e
  have : D k ++ 32 :: (c' ++ 64 :: r') = (D k ++ [32]) ++ (c' ++ 64 :: r') := by simp
  rw [this] at e
  exact List.append_cancel_left e
 have start : ∀ {z : ByteArray × ByteArray × Bool}, Ev (fun n => if ((za_ 64 R).length : Int) = ((R.length : Nat) : Int) then some ((⟨#[]⟩ : ByteArray), (⟨#[]⟩ : ByteArray), false) else (if 0 ≤ (wrap64 (((za_ 64 R).length : Int) + 1)) then (if (wrap64 (((za_ 64 R).length : Int) + 1)) ≤ ((R.length : Nat) : Int) then ((spec_l12Record.f n (ofL (za_ 64 R)) ((ofL R).extract ((wrap64 (((za_ 64 R).length : Int) + 1)) : Int).toNat R.length)).bind fun t137 => (if t137 = true then ((spec_l12Line.f n (k : Int) (ofL (za_ 64 R)) ((ofL R).extract ((wrap64 (((za_ 64 R).length : Int) + 1)) : Int).toNat R.length)).bind fun t138 => (if L.length + 1 ≤ 9223372036854775807 then (some (ofL (za_ 64 R), (ofL R).extract ((wrap64 (((za_ 64 R).length : Int) + 1)) : Int).toNat R.length, (t138.toList == (ofL L ++ (⟨#[10]⟩ : ByteArray)).toList))) else (none))) else (some (ofL (za_ 64 R), (ofL R).extract ((wrap64 (((za_ 64 R).length : Int) + 1)) : Int).toNat R.length, false)))) else (none)) else (none))) z → Ev (fun n => spec_l12Decode.f n (ofL L) (k : Int)) z := by
  intro z hz
  unfold spec_l12Decode.f
  refine Ev.bind (num_ev k (by omega)) ?_
  rw [show (⟨#[32]⟩ : ByteArray) = ofL [32] from rfl, oa_, oz_]
  refine Ep_ (by omega) (Ev.bind e1 (Ep_ hl1 ?_))
  have hb : ((za_ 35 L).take ((D k).length + 1) != D k ++ [32]) = false := by rw [g2]; simp
  simp only [rdOf, List.getD_cons_zero, Int.toNat_zero, oz_, sz, oe_, zl_, Int.toNat_natCast, List.drop_zero]
  rw [hb]
  refine En_ (by omega) (Ep_ (by omega) (Ep_ (by omega) (Es_ ?_)))
  simp only [spec_l12Decode.j0, oz_, sz, oe_, Int.toNat_natCast, List.take_length, hR]
  refine En_ (by simp) (Ep_ (by omega) (Ep_ (by omega) (Ev.bind e2 (Ep_ hl2 ?_))))
  simp only [rdOf, List.getD_cons_zero, Int.toNat_zero, oz_]
  rw [oe_, List.take_length] at hz
  exact hz
 by_cases g3 : (64 : UInt8) ∈ R
 case neg =>
  refine ⟨[], [], false, start ?_, fun e => absurd e (by simp), fun c' r' h => ?_⟩
  ·exact Ep_ (by rw [zn_ g3]) (Ev.now _)
  ·refine absurd ?_ g3
   rw [hrec c' r' h]
   simp
 obtain ⟨a, b, hab, hn⟩ := has_cut g3
 have ha : za_ 64 R = a := by rw [hab, zt_ b hn]
 have hRn : R.length = a.length + b.length + 1 := by rw [hab]; simp; omega
 have hb : (ofL R).extract ((wrap64 (((za_ 64 R).length : Int) + 1)) : Int).toNat R.length = ofL b := by
  rw [ha, wi_ (by omega) (by omega), oe_, List.take_length, hab, show ((a.length : Int) + 1).toNat = a.length + 1 by omega]
  simp
 have hparse : ∀ c' r', Rec k L c' r' → a = c' ∧ b = r' := by
  intro c' r' h
  have e := hrec c' r' h
  have hp := zq_ (k := k) h.1
  have hb2 : zb_ 64 R = b := by rw [hab, zw_ b hn]
  exact ⟨by rw [← ha, e, hp.2.1], by rw [← hb2, e, hp.2.2]⟩
 obtain ⟨v, r1, _, hv⟩ := record_at a b (by omega) (by omega)
 rw [hb, ha] at start
 cases v with
 | false =>
  refine ⟨a, b, false, start ?_, fun e => absurd e (by simp), fun c' r' h => ?_⟩
  ·exact En_ (by omega) (Ep_ (by rw [wi_] <;> omega) (Ep_ (by rw [wi_] <;> omega) (Ev.bind r1 (En_ (by simp) (Ev.now _)))))
  ·obtain ⟨z1, z2⟩ := hparse c' r' h
   subst z1 z2
   exact absurd (hv.2 h.1) (by simp)
 | true =>
  have hva := hv.1 rfl
  refine ⟨a, b, lineL k a b == L ++ [10], start ?_, fun e => ⟨hva, by simpa using e⟩, fun c' r' h => ?_⟩
  ·refine En_ (by omega) (Ep_ (by rw [wi_] <;> omega) (Ep_ (by rw [wi_] <;> omega) (Ev.bind r1 (Ep_ rfl (Ev.bind (spec_line_ev k (by omega) a b (by omega) (by omega)) (Ep_ (by omega) ?_))))))
   rw [show (⟨#[10]⟩ : ByteArray) = ofL [10] from rfl, oa_, zl_, zl_]
   exact Ev.now _
  ·obtain ⟨z1, z2⟩ := hparse c' r' h
   subst z1 z2
   exact ⟨by simpa using h.2, rfl, rfl⟩
theorem verify_ev (L : List UInt8) (hL : L.length ≤ 1048576) : ∃ v b, Ev (fun n => impl_VerifyChecksum.f n (ofL L)) (ofL v, b) ∧ v.length ≤ L.length ∧ ∀ k c' r', k < 1000000 → Rec k L c' r' → v = zx_ k c' r' := by
 have hl := zu_ 35 L
 have cu := cut_at L (by omega) 35
 by_cases h : Sealable (za_ 35 L)
 ·by_cases e : zs_ (za_ 35 L) = L
  ·refine ⟨za_ 35 L, true, ?_, hl, fun k c' r' hk h => (zr_ hk h).2⟩
   unfold impl_VerifyChecksum.f
   refine Eh_ cu (Ev.bind (append_yes _ h) (Ep_ rfl (Ep_ ?_ (Ev.now _))))
   rw [zl_, zl_]
   exact e
  ·refine ⟨[], false, ?_, by simp, fun k c' r' hk h => absurd ?_ e⟩
   ·unfold impl_VerifyChecksum.f
    refine Eh_ cu (Ev.bind (append_yes _ ‹_›) (Ep_ rfl (En_ ?_ (Ev.now _))))
    rw [zl_, zl_]
    exact e
   ·obtain ⟨z1, z2⟩ := zr_ hk h
    rw [z2]
    exact z1.symm
 ·refine ⟨[], false, ?_, by simp, fun k c' r' hk h' => absurd ?_ h⟩
  ·unfold impl_VerifyChecksum.f
   exact Eh_ cu (Ev.bind (append_no _ (by omega) h) (En_ (by simp) (Ev.now _)))
  ·rw [(zr_ hk h').2]
   exact (valid_text k hk c' r' h'.1).1
def St (k : Nat) (x c r : List UInt8) (n : Nat) : Prop := k < 60 ∧ ∃ L b, x = L ++ 10 :: b ∧ (10 : UInt8) ∉ L ∧ Rec k L c r ∧ n = L.length + 1
theorem st_len {k : Nat} {x c r : List UInt8} {n : Nat} (h : St k x c r n) : 1 ≤ n ∧ n ≤ x.length := by
 obtain ⟨_, L, b, e, _, _, rfl⟩ := h
 rw [e]
 simp
theorem st_app {k : Nat} {x c r : List UInt8} {n : Nat} (h : St k x c r n) (y : List UInt8) : St k (x ++ y) c r n := by
 obtain ⟨hk, L, b, e, h1, h2, h3⟩ := h
 exact ⟨hk, L, b ++ y, by rw [e]; simp, h1, h2, h3⟩
theorem st_cut {k : Nat} {x y c r : List UInt8} {n : Nat} (h : St k (x ++ y) c r n) (hn : n ≤ x.length) : St k x c r n := by
 obtain ⟨hk, L, b, e, h1, h2, h3⟩ := h
 refine ⟨hk, L, x.drop n, ?_, h1, h2, h3⟩
 have e1 : (x ++ y).take n = x.take n := List.take_append_of_le_length hn
 have e2 : (L ++ 10 :: b).take n = L ++ [10] := by
  rw [show L ++ 10 :: b = (L ++ [10]) ++ b by simp, h3, show L.length + 1 = (L ++ [10]).length by simp, List.take_left]
 have e3 : x.take n = L ++ [10] := by rw [← e1, e, e2]
 have := (List.take_append_drop n x).symm
 rw [e3] at this
 simpa using this
theorem rec_det {k : Nat} {L c r c' r' : List UInt8} (hk : k < 60) (h : Rec k L c r) (h' : Rec k L c' r') : c = c' ∧ r = r' := by
 have e := (zr_ (by omega) h).2.symm.trans (zr_ (by omega) h').2
 have p := zq_ (k := k) h.1
 have p' := zq_ (k := k) h'.1
 have e2 : c ++ 64 :: r = c' ++ 64 :: r' := by rw [← p.1, ← p'.1, e]
 exact ⟨by rw [← p.2.1, e2, p'.2.1], by rw [← p.2.2, e2, p'.2.2]⟩
theorem st_det {k : Nat} {x c r c' r' : List UInt8} {n n' : Nat} (h : St k x c r n) (h' : St k x c' r' n') : c = c' ∧ r = r' ∧ n = n' := by
 obtain ⟨hk, L, b, e, h1, h2, h3⟩ := h
 obtain ⟨_, L', b', e', h1', h2', h3'⟩ := h'
 have : L = L' := by rw [← zt_ b h1, ← e, e', zt_ b' h1']
 subst this
 obtain ⟨z1, z2⟩ := rec_det hk h2 h2'
 exact ⟨z1, z2, by omega⟩
inductive Rd : Nat → List UInt8 → List (List UInt8 × List UInt8) → List Nat → Prop
 | stop (k : Nat) (x : List UInt8) (h : ∀ c r n, ¬ St k x c r n) : Rd k x [] []
 | more (k : Nat) (x c r : List UInt8) (n : Nat) (rs : List (List UInt8 × List UInt8)) (ns : List Nat) (h : St k x c r n) (t : Rd (k + 1) (x.drop n) rs ns) : Rd k x ((c, r) :: rs) (n :: ns)
def ps : Nat → List Nat → List Int
 | _, [] => []
 | a, n :: ns => ((a + n : Nat) : Int) :: ps (a + n) ns
def toS (p : List UInt8 × List UInt8) : S27 := ⟨ofL p.1, ofL p.2⟩
theorem both_read (s : List UInt8) (hs : s.length ≤ 1048576) : ∀ (d k a : Nat) (x4 : List S27) (x5 : List Int), k + d = 60 → x4.length = k → x5.length = k + 1 → a ≤ s.length → ∃ rs ns, Rd k (s.drop a) rs ns ∧ Ev (fun n => spec_l12Open.l0 n (ofL s) x4 (a : Int)) (x4 ++ rs.map toS, ((a + ns.sum : Nat) : Int)) ∧ Ev (fun n => impl_readRecords.l0 n (ofL s) x4 x5 (a : Int)) (x4 ++ rs.map toS, x5 ++ ps a ns) ∧ a + ns.sum ≤ s.length ∧ rs.length = ns.length ∧ k + rs.length ≤ 60 := by
 intro d
 induction d with
 | zero =>
  intro k a x4 x5 hk h4 h5 ha
  refine ⟨[], [], Rd.stop _ _ (fun c r n h => by have := h.1; omega), ?_, ?_, by simpa using ha, rfl, by simp; omega⟩
  ·refine Es_ ?_
   simp only [spec_l12Open.l0, List.map_nil, List.append_nil, List.sum_nil, Nat.add_zero]
   rw [decide_eq_false (show ¬ (x4.length : Int) < 60 by omega)]
   by_cases g : (a : Int) < ((ofL s).size : Int)
   ·refine Ep_ g (Es_ ?_)
    simp only [spec_l12Open.j1]
    exact En_ (by simp) (Ev.now _)
   ·refine En_ g (Es_ ?_)
    simp only [spec_l12Open.j1]
    exact En_ (by simp) (Ev.now _)
  ·refine Es_ ?_
   simp only [impl_readRecords.l0, List.map_nil, List.append_nil, ps]
   exact En_ (by omega) (Ev.now _)
 | succ d ih =>
  intro k a x4 x5 hk h4 h5 ha
  have hx : ((s.take s.length).drop a) = s.drop a := by rw [List.take_length]
  have hxl : (s.drop a).length = s.length - a := List.length_drop
  have cu := cut_at (s.drop a) (by omega) 10
  have nostop : (∀ c r n, ¬ St k (s.drop a) c r n) → Ev (fun n => spec_l12Open.l0 n (ofL s) x4 (a : Int)) (x4, (a : Int)) → Ev (fun n => impl_readRecords.l0 n (ofL s) x4 x5 (a : Int)) (x4, x5) → ∃ rs ns, Rd k (s.drop a) rs ns ∧ Ev (fun n => spec_l12Open.l0 n (ofL s) x4 (a : Int)) (x4 ++ rs.map toS, ((a + ns.sum : Nat) : Int)) ∧ Ev (fun n => impl_readRecords.l0 n (ofL s) x4 x5 (a : Int)) (x4 ++ rs.map toS, x5 ++ ps a ns) ∧ a + ns.sum ≤ s.length ∧ rs.length = ns.length ∧ k + rs.length ≤ 60 := by
   intro h1 h2 h3
   refine ⟨[], [], Rd.stop _ _ h1, ?_, ?_, by simpa using ha, rfl, by simp; omega⟩
   ·simpa using h2
   ·simpa [ps] using h3
  by_cases hm : (10 : UInt8) ∈ s.drop a
  case neg =>
   refine nostop (fun c r n h => ?_) ?_ ?_
   ·obtain ⟨_, L, b, e, _⟩ := h
    exact hm (by rw [e]; simp)
   ·by_cases g : (a : Int) < ((ofL s).size : Int)
    ·obtain ⟨L1, e1, hL1⟩ := split_ev (s.drop a) (by omega) 10 10 rfl
     have hL1 : L1 = [] := Classical.byContradiction fun q => hm (hL1.1 q)
     subst hL1
     obtain ⟨c, r, ok, e2, _, _⟩ := spec_decode_ev (za_ 10 (s.drop a)) k (by have := zu_ 10 (s.drop a); omega) (by omega)
     refine Es_ ?_
     simp only [spec_l12Open.l0]
     rw [decide_eq_true (show (x4.length : Int) < 60 by omega)]
     refine Ep_ g (Es_ ?_)
     simp only [spec_l12Open.j1, oz_, oe_, Int.toNat_natCast, hx]
     refine Ep_ trivial (Ep_ (by omega) (Ep_ (by omega) (Ev.bind e1 (Ep_ (by simp) ?_))))
     simp only [rdOf, List.getD_cons_zero, Int.toNat_zero, h4]
     exact Ev.bind e2 (Ep_ (by simp) (Ev.now _))
    ·refine Es_ ?_
     simp only [spec_l12Open.l0]
     refine En_ g (Es_ ?_)
     simp only [spec_l12Open.j1]
     exact En_ (by simp) (Ev.now _)
   ·refine Es_ ?_
    simp only [impl_readRecords.l0, oz_, oe_, Int.toNat_natCast, hx]
    refine Ep_ (by omega) (Ep_ (by omega) (Ep_ (by omega) (Eh_ cu (En_ (by simpa using hm) (Ev.now _)))))
  obtain ⟨L, b, hab, hn⟩ := has_cut hm
  have hLa : za_ 10 (s.drop a) = L := by rw [hab, zt_ b hn]
  have hln : L.length + 1 + b.length = s.length - a := by rw [← hxl, hab]; simp; omega
  obtain ⟨L1, e1, hL1⟩ := split_ev (s.drop a) (by omega) 10 10 rfl
  rw [hLa] at e1
  have hL1 := hL1.2 hm
  have hlen2 : ¬ (((ofL L :: L1).length : Nat) : Int) < 2 := by
   cases L1 with
   | nil => exact absurd rfl hL1
   | cons _ _ => simp; omega
  obtain ⟨c, r, ok, e2, h1, h2⟩ := spec_decode_ev L k (by omega) (by omega)
  obtain ⟨v, vb, e3, hvl, hv⟩ := verify_ev L (by omega)
  have c1 := behind_len 32 v
  have c2 := zu_ 64 (zb_ 32 v)
  have c3 := behind_len 64 (zb_ 32 v)
  have cu1 := cut_at v (by omega) 32
  have cu2 := cut_at (zb_ 32 v) (by omega) 64
  have spec_go : ∀ {z : List S27 × Int}, Ev (fun n => if ok = true then (if x4.length < 4398046511104 then (spec_l12Open.l0 n (ofL s) (x4 ++ [(⟨ofL c, ofL r⟩ : S27)]) (wrap64 ((wrap64 ((a : Int) + ((L.length : Nat) : Int))) + 1))) else (none)) else (some (x4, (a : Int)))) z → Ev (fun n => spec_l12Open.l0 n (ofL s) x4 (a : Int)) z := by
   intro z hz
   refine Es_ ?_
   simp only [spec_l12Open.l0]
   rw [decide_eq_true (show (x4.length : Int) < 60 by omega)]
   refine Ep_ (by rw [oz_]; omega) (Es_ ?_)
   simp only [spec_l12Open.j1, oz_, oe_, Int.toNat_natCast, hx]
   refine Ep_ trivial (Ep_ (by omega) (Ep_ (by omega) (Ev.bind e1 (Ep_ (by simp <;> omega) ?_))))
   simp only [rdOf, List.getD_cons_zero, Int.toNat_zero, h4, oz_]
   rw [h4] at hz
   exact Ev.bind e2 (En_ hlen2 hz)
  have impl_go : ∀ {z : List S27 × List Int} (y : ByteArray × Bool), Ev (fun n => impl_EncodeRecord.f n (k : Int) (ofL (za_ 64 (zb_ 32 v))) (ofL (zb_ 64 (zb_ 32 v)))) y → Ev (fun n => if y.2 = true then (if L.length + 1 ≤ 9223372036854775807 then (if y.1.toList = L ++ [10] then (if x4.length < 4398046511104 then (if x5.length < 17592186044416 then (impl_readRecords.l0 n (ofL s) (x4 ++ [(⟨ofL (za_ 64 (zb_ 32 v)), ofL (zb_ 64 (zb_ 32 v))⟩ : S27)]) (x5 ++ [wrap64 ((a : Int) + (wrap64 (((L.length : Nat) : Int) + 1)))]) (wrap64 ((a : Int) + (wrap64 (((L.length : Nat) : Int) + 1))))) else (none)) else (none)) else (some (x4, x5))) else (none)) else (some (x4, x5))) z → Ev (fun n => impl_readRecords.l0 n (ofL s) x4 x5 (a : Int)) z := by
   intro z y hy hz
   refine Es_ ?_
   simp only [impl_readRecords.l0, oz_, oe_, Int.toNat_natCast, hx]
   rw [hLa] at cu
   refine Ep_ (by omega) (Ep_ (by omega) (Ep_ (by omega) (Eh_ cu (Ep_ (decide_eq_true hm) (Ev.bind e3 (Eh_ cu1 (Eh_ cu2 ?_)))))))
   simp only [h4, oz_]
   refine Ev.bind hy ?_
   simp only [show (⟨#[10]⟩ : ByteArray) = ofL [10] from rfl, oa_, zl_]
   rw [h4] at hz
   exact hz
  by_cases hR : ∃ c' r', Rec k L c' r'
  case neg =>
   refine nostop (fun c r n h => ?_) (spec_go ?_) ?_
   ·obtain ⟨_, L', b', e', n', h', _⟩ := h
    have : L = L' := by rw [← hLa, e', zt_ b' n']
    subst this
    exact hR ⟨c, r, h'⟩
   ·exact En_ (fun q => hR ⟨c, r, h1 q⟩) (Ev.now _)
   ·by_cases hV : Valid (za_ 64 (zb_ 32 v)) (zb_ 64 (zb_ 32 v))
    ·refine impl_go _ (impl_enc_yes k (by omega) _ _ hV) (Ep_ rfl (Ep_ (by omega) (En_ ?_ (Ev.now _))))
     rw [zl_]
     exact fun q => hR ⟨_, _, hV, q⟩
    ·exact impl_go _ (impl_enc_no k _ _ (by omega) (by omega) (fun q => hV q.2)) (En_ (by simp) (Ev.now _))
  obtain ⟨c', r', hrec⟩ := hR
  obtain ⟨rfl, rfl, rfl⟩ := h2 c' r' hrec
  have hvt := hv k c r (by omega) hrec
  have pp := zq_ (k := k) hrec.1
  have p1 : za_ 64 (zb_ 32 v) = c := by rw [hvt, pp.1, pp.2.1]
  have p2 : zb_ 64 (zb_ 32 v) = r := by rw [hvt, pp.1, pp.2.2]
  rw [p1, p2] at impl_go
  have hdrop : s.drop (a + (L.length + 1)) = b := by
   rw [← List.drop_drop, hab]
   simp
  obtain ⟨rs, ns, hRd, s1, s2, s3, s4, s5⟩ := ih (k + 1) (a + (L.length + 1)) (x4 ++ [(⟨ofL c, ofL r⟩ : S27)]) (x5 ++ [((a + (L.length + 1) : Nat) : Int)]) (by omega) (by simp; omega) (by simp; omega) (by omega)
  refine ⟨(c, r) :: rs, (L.length + 1) :: ns, ?_, spec_go ?_, ?_, ?_, by simp; omega, by simp; omega⟩
  ·refine Rd.more k _ c r (L.length + 1) rs ns ⟨by omega, L, b, hab, hn, hrec, rfl⟩ ?_
   rw [List.drop_drop]
   exact hRd
  ·refine Ep_ rfl (Ep_ (by omega) ?_)
   rw [wi_ (x := (a : Int) + ((L.length : Nat) : Int)) (by omega) (by omega), wi_ (by omega) (by omega), show (a : Int) + ((L.length : Nat) : Int) + 1 = ((a + (L.length + 1) : Nat) : Int) by omega]
   refine Ev.same s1 ?_
   rw [List.map_cons, List.append_assoc, List.sum_cons, ← Nat.add_assoc, ← Nat.add_assoc]
   rfl
  ·refine impl_go _ (impl_enc_yes k (by omega) c r hrec.1) (Ep_ rfl (Ep_ (by omega) (Ep_ (by rw [zl_]; exact hrec.2) (Ep_ (by omega) (Ep_ (by omega) ?_)))))
   rw [wi_ (x := ((L.length : Nat) : Int) + 1) (by omega) (by omega), wi_ (by omega) (by omega), show (a : Int) + (((L.length : Nat) : Int) + 1) = ((a + (L.length + 1) : Nat) : Int) by omega]
   refine Ev.same s2 ?_
   rw [List.map_cons, List.append_assoc, ps, List.append_assoc]
   rfl
  ·rw [List.sum_cons]
   omega
theorem ps_len : ∀ (a : Nat) (ns : List Nat), (ps a ns).length = ns.length
 | _, [] => rfl
 | a, n :: ns => by rw [ps, List.length_cons, List.length_cons, ps_len]
theorem ps_last : ∀ (ns : List Nat) (a : Nat), ((a : Int) :: ps a ns).getD ns.length 0 = ((a + ns.sum : Nat) : Int)
 | [], a => by simp
 | n :: ns, a => by
  rw [ps, List.length_cons, List.getD_cons_succ, ps_last ns (a + n), List.sum_cons, Nat.add_assoc]
theorem zd_ (s : List UInt8) (hs : s.length ≤ 1048576) : ∃ rs ns, Rd 0 s rs ns ∧ Ev (fun n => spec_l12Open.f n (ofL s)) (rs.map toS, ((ns.sum : Nat) : Int)) ∧ Ev (fun n => impl_readRecords.f n (ofL s)) (rs.map toS, 0 :: ps 0 ns) ∧ ns.sum ≤ s.length ∧ rs.length = ns.length ∧ rs.length ≤ 60 := by
 obtain ⟨rs, ns, h1, h2, h3, h4, h5, h6⟩ := both_read s hs 60 0 0 [] [0] rfl rfl rfl (Nat.zero_le _)
 rw [List.drop_zero] at h1
 rw [Nat.zero_add] at h4 h2 h6
 exact ⟨rs, ns, h1, h2, h3, h4, h5, h6⟩

theorem contains_ev (l : List Int) (hl : l.length ≤ 1000000) (x : Int) : ∃ b, Ev (fun k => slices_Contains_int_int.f k l x) b ∧ (b = true ↔ x ∈ l) := by
 have main : ∀ d i : Nat, i + d = l.length → (∀ j, (h : j < l.length) → j < i → l[j] ≠ x) → ∃ p : Int, Ev (fun k => slices_Index_int_int.l0 k l x (l.length : Int) (i : Int)) p ∧ (0 ≤ p ↔ x ∈ l) := by
  intro d
  induction d with
  | zero =>
   intro i hi hn
   refine ⟨-1, Es_ ?_, by omega, fun hm => ?_⟩
   ·simp only [slices_Index_int_int.l0]
    exact En_ (by omega) (Ev.now _)
   ·obtain ⟨j, hj, e⟩ := List.getElem_of_mem hm
    exact absurd e (hn j hj (by omega))
  | succ d ih =>
   intro i hi hn
   have hlt : i < l.length := by omega
   by_cases g : x = l[i]
   ·refine ⟨(i : Int), Es_ ?_, fun _ => by rw [g]; exact List.getElem_mem _, fun _ => by omega⟩
    simp only [slices_Index_int_int.l0]
    rw [rd_get l i hlt]
    exact Ep_ (by omega) (Ep_ (by omega) (Ep_ (by omega) (Ep_ g (Ev.now _))))
   ·obtain ⟨p, go, hp⟩ := ih (i + 1) (by omega) (fun j hj hji => by
     by_cases c : j = i
     ·subst c
      exact fun q => g q.symm
     ·exact hn j hj (by omega))
    refine ⟨p, Es_ ?_, hp⟩
    simp only [slices_Index_int_int.l0]
    rw [rd_get l i hlt, zo_ hlt (by omega)]
    exact Ep_ (by omega) (Ep_ (by omega) (Ep_ (by omega) (En_ g go)))
 obtain ⟨p, e, hp⟩ := main l.length 0 (by omega) (fun j hj h => by omega)
 refine ⟨decide (p ≥ 0), ?_, by rw [decide_eq_true_eq, ← hp]⟩
 unfold slices_Contains_int_int.f
 exact Ev.bind e (Ev.now _)
theorem mem_ps : ∀ (ns : List Nat) (a v : Nat), ((v : Int) ∈ (a : Int) :: ps a ns) ↔ ∃ j, a + (ns.take j).sum = v
 | [], a, v => by
  rw [ps, List.mem_singleton]
  constructor
  ·intro h
   exact ⟨0, by simp; omega⟩
  ·rintro ⟨j, h⟩
   simp at h
   omega
 | n :: ns, a, v => by
  rw [ps, List.mem_cons, mem_ps ns (a + n) v]
  constructor
  ·rintro (h | ⟨j, h⟩)
   ·exact ⟨0, by simp; omega⟩
   ·exact ⟨j + 1, by rw [List.take_succ_cons, List.sum_cons]; omega⟩
  ·rintro ⟨j, h⟩
   cases j with
   | zero => exact Or.inl (by simp at h; omega)
   | succ j =>
    rw [List.take_succ_cons, List.sum_cons] at h
    exact Or.inr ⟨j, by omega⟩
theorem rd_nil {k : Nat} {rs : List (List UInt8 × List UInt8)} {ns : List Nat} (h : Rd k [] rs ns) : ns.sum = 0 := by
 cases h with
 | stop _ _ _ => rfl
 | more _ _ c r n rs ns h _ =>
  have := st_len h
  simp at this
  omega
theorem rd_keep {k : Nat} {x : List UInt8} {rs : List (List UInt8 × List UInt8)} {ns : List Nat} (h : Rd k x rs ns) : ns.sum = x.length → ∀ (y : List UInt8) (rs' : List (List UInt8 × List UInt8)) (ns' : List Nat), Rd k (x ++ y) rs' ns' → ∃ j, (ns'.take j).sum = x.length := by
 induction h with
 | stop k x h =>
  intro e y rs' ns' _
  exact ⟨0, by simpa using e⟩
 | more k x c r n rs ns h t ih =>
  intro e y rs' ns' h'
  have hl := st_len h
  have ha := st_app h y
  cases h' with
  | stop _ _ hn => exact absurd ha (hn c r n)
  | more _ _ c' r' n' rs' ns' h' t' =>
   obtain ⟨_, _, rfl⟩ := st_det ha h'
   rw [List.drop_append_of_le_length hl.2] at t'
   rw [List.sum_cons] at e
   obtain ⟨j, hj⟩ := ih (by rw [List.length_drop]; omega) y _ _ t'
   refine ⟨j + 1, ?_⟩
   rw [List.take_succ_cons, List.sum_cons, hj, List.length_drop]
   omega
theorem rd_back : ∀ (j k : Nat) (x y : List UInt8) (rs' : List (List UInt8 × List UInt8)) (ns' : List Nat) (rs : List (List UInt8 × List UInt8)) (ns : List Nat), Rd k (x ++ y) rs' ns' → (ns'.take j).sum = x.length → Rd k x rs ns → ns.sum = x.length := by
 intro j
 induction j with
 | zero =>
  intro k x y rs' ns' rs ns _ e h
  have : x = [] := List.eq_nil_of_length_eq_zero (by simpa using e.symm)
  subst this
  exact rd_nil h
 | succ j ih =>
  intro k x y rs' ns' rs ns h' e h
  cases h' with
  | stop _ _ hn =>
   have : x = [] := List.eq_nil_of_length_eq_zero (by simpa using e.symm)
   subst this
   exact rd_nil h
  | more _ _ c' r' n' rs' ns' h' t' =>
   rw [List.take_succ_cons, List.sum_cons] at e
   have hn : n' ≤ x.length := by omega
   have hx := st_cut h' hn
   rw [List.drop_append_of_le_length hn] at t'
   cases h with
   | stop _ _ hs => exact absurd hx (hs c' r' n')
   | more _ _ c r n rs ns h t =>
    obtain ⟨_, _, rfl⟩ := st_det hx h
    have := ih (k + 1) _ y _ _ _ _ t' (by rw [List.length_drop]; omega) t
    rw [List.length_drop] at this
    rw [List.sum_cons]
    omega
theorem valid_both (a b : List UInt8) (cnt : Int) (h : a.length + b.length ≤ 1048576) : ∃ v, Ev (fun n => spec_l12Valid.f n (ofL a) (ofL b) cnt) v ∧ Ev (fun n => impl_IsValidLog.f n (ofL a) (ofL b) cnt) v ∧ (v = true → a.length + b.length ≤ 30000 ∧ ∃ (rs : List (List UInt8 × List UInt8)) (ns : List Nat), Ev (fun n => spec_l12Open.f n (ofL (a ++ b))) (rs.map toS, ((ns.sum : Nat) : Int)) ∧ Ev (fun n => impl_readRecords.f n (ofL (a ++ b))) (rs.map toS, 0 :: ps 0 ns) ∧ cnt = (rs.length : Int) ∧ rs.length ≤ 60) := by
 have hs : (a ++ b).length = a.length + b.length := List.length_append
 by_cases g : a.length + b.length ≤ 30000
 case neg =>
  refine ⟨false, ?_, ?_, fun e => absurd e (by simp)⟩
  ·unfold spec_l12Valid.f
   rw [oz_, oz_, wi_ (by omega) (by omega)]
   exact Ep_ (by omega) (Ev.now _)
  ·unfold impl_IsValidLog.f
   rw [oz_, oz_, wi_ (by omega) (by omega)]
   exact Ep_ (by omega) (Ev.now _)
 obtain ⟨rs, ns, r1, e1, e2, h1, h2, h3⟩ := zd_ (a ++ b) (by omega)
 obtain ⟨rs', ns', r1', e1', _, h1', _, _⟩ := zd_ a (by omega)
 obtain ⟨c, ce, hc⟩ := contains_ev (0 :: ps 0 ns) (by rw [List.length_cons, ps_len]; omega) (a.length : Int)
 have key : c = true ↔ ns'.sum = a.length := by
  rw [hc]
  have m := mem_ps ns 0 a.length
  rw [Int.natCast_zero] at m
  rw [m]
  constructor
  ·rintro ⟨j, hj⟩
   exact rd_back j 0 a b rs ns rs' ns' r1 (by omega) r1'
  ·intro e
   obtain ⟨j, hj⟩ := rd_keep r1' e b rs ns r1
   exact ⟨j, by omega⟩
 have el : rd (0 :: ps 0 ns) ((rs.map toS).length : Int) = ((ns.sum : Nat) : Int) := by
  rw [List.length_map, h2, rd_nat]
  have := ps_last ns 0
  rw [Nat.zero_add] at this
  exact this
 have spec_go : ∀ {z : Bool}, Ev (fun _ => if ((ns.sum : Nat) : Int) = ((a.length : Nat) : Int) + ((b.length : Nat) : Int) then (if ((ns'.sum : Nat) : Int) = ((a.length : Nat) : Int) then (some (((rs.map toS).length : Int) == cnt)) else (some false)) else (some false)) z → Ev (fun n => spec_l12Valid.f n (ofL a) (ofL b) cnt) z := by
  intro z hz
  unfold spec_l12Valid.f
  rw [oz_, oz_, wi_ (by omega) (by omega), oa_]
  exact En_ (by omega) (Ep_ (by omega) (Ev.bind e1 (Ev.bind e1' hz)))
 have impl_go : ∀ {z : Bool}, Ev (fun n => if ((ns.sum : Nat) : Int) = ((a.length : Nat) : Int) + ((b.length : Nat) : Int) then (if cnt = ((rs.map toS).length : Int) then ((slices_Contains_int_int.f n (0 :: ps 0 ns) (a.length : Int)).bind fun t => (some t)) else (some false)) else (some false)) z → Ev (fun n => impl_IsValidLog.f n (ofL a) (ofL b) cnt) z := by
  intro z hz
  unfold impl_IsValidLog.f
  rw [oz_, oz_, wi_ (by omega) (by omega), oa_]
  refine En_ (by omega) (Ep_ (by omega) (Ev.bind e2 (Ep_ (by omega) (Ep_ (by rw [List.length_cons, ps_len, List.length_map]; omega) ?_))))
  dsimp only
  rw [el]
  exact hz
 by_cases g1 : ns.sum = a.length + b.length
 case neg => exact ⟨false, spec_go (En_ (by omega) (Ev.now _)), impl_go (En_ (by omega) (Ev.now _)), fun e => absurd e (by simp)⟩
 by_cases g2 : cnt = (rs.length : Int)
 case neg =>
  refine ⟨false, spec_go (Ep_ (by omega) ?_), impl_go (Ep_ (by omega) (En_ (by rw [List.length_map]; exact g2) (Ev.now _))), fun e => absurd e (by simp)⟩
  by_cases g3 : ns'.sum = a.length
  ·refine Ep_ (by omega) ?_
   have : (((rs.map toS).length : Int) == cnt) = false := by
    rw [List.length_map, beq_eq_false_iff_ne]
    exact fun q => g2 q.symm
   rw [this]
   exact Ev.now _
  ·exact En_ (by omega) (Ev.now _)
 refine ⟨c, spec_go (Ep_ (by omega) ?_), impl_go (Ep_ (by omega) (Ep_ (by rw [List.length_map]; exact g2) (Ev.bind ce (Ev.now _)))), fun _ => ⟨g, rs, ns, e1, e2, g2, h3⟩⟩
 cases c with
 | true =>
  refine Ep_ (by have := key.1 rfl; omega) ?_
  have : (((rs.map toS).length : Int) == cnt) = true := by
   rw [List.length_map, beq_iff_eq]
   exact g2.symm
  rw [this]
  exact Ev.now _
 | false => exact En_ (fun q => absurd (key.2 (by omega)) (by simp)) (Ev.now _)

theorem pick_wide (code : List Int) (hb : ∀ x ∈ code, 0 ≤ x ∧ x ≤ 255) (a : Nat) (ha : a ≤ 900) (seed n : Int) (h1 : 1 ≤ n) (h2 : n ≤ 1000000) : ∃ (r : Int) (a' : Nat) (s : Int), spec_l1Cur_pick.f code a seed n = some (r, (a' : Int), s) ∧ 0 ≤ r ∧ r < n ∧ a' ≤ a + 2 := by
 unfold spec_l1Cur_pick.f
 by_cases h : n ≤ 1
 ·rw [if_pos h]
  exact ⟨0, a, seed, rfl, by omega, by omega, by omega⟩
 ·obtain ⟨b, s, e, b0, b1⟩ := next_ok code hb a (by omega) seed
  rw [if_neg h, e, Option.bind_some]
  by_cases g : n > 200
  ·obtain ⟨b2, s2, e2, c0, c1⟩ := next_ok code hb (a + 1) (by omega) s
   rw [if_pos g, e2, Option.bind_some, if_neg (by omega)]
   have hw : wrap64 ((wrap64 (b * 256)) + b2) = b * 256 + b2 := by rw [wi_ (x := b * 256) (by omega) (by omega), wi_ (by omega) (by omega)]
   rw [hw]
   exact ⟨_, a + 2, s2, rfl, Int.tmod_nonneg _ (by omega), Int.tmod_lt_of_pos _ (by omega), by omega⟩
  ·rw [if_neg g, if_neg (by omega)]
   exact ⟨_, a + 1, s, rfl, Int.tmod_nonneg _ b0, Int.tmod_lt_of_pos _ (by omega), by omega⟩
theorem of_ok (code : List Int) (hb : ∀ x ∈ code, 0 ≤ x ∧ x ≤ 255) (a : Nat) (ha : a ≤ 900) (seed : Int) (l : List ByteArray) (h1 : 1 < l.length) (h2 : l.length ≤ 200) (B : Nat) (hB : ∀ x ∈ l, x.size ≤ B) : ∃ (r : ByteArray) (s : Int), spec_l1Cur_of.f code a seed l = some (r, ((a + 1 : Nat) : Int), s) ∧ r.size ≤ B := by
 obtain ⟨i, s, e, i0, i1⟩ := zp_ code hb a ha seed (l.length : Int) (by omega) (by omega)
 unfold spec_l1Cur_of.f
 rw [e, Option.bind_some, if_pos i0, if_pos i1]
 refine ⟨_, _, rfl, ?_⟩
 have hi : i.toNat < l.length := by omega
 unfold rdOf
 rw [List.getD_eq_getElem?_getD, List.getElem?_eq_getElem hi]
 exact hB _ (List.getElem_mem _)
theorem logRecord_ok (code : List Int) (hb : ∀ x ∈ code, 0 ≤ x ∧ x ≤ 255) (a : Nat) (ha : a ≤ 800) (seed : Int) : ∃ (c r : ByteArray) (a' : Nat) (s : Int), spec_l1Cur_logRecord.f code a seed = some (c, r, (a' : Int), s) ∧ c.size ≤ 10 ∧ r.size ≤ 10 ∧ a' ≤ a + 4 := by
 unfold spec_l1Cur_logRecord.f
 obtain ⟨c, s1, e1, hc⟩ := of_ok code hb a (by omega) seed [(⟨#[114, 111, 119]⟩ : ByteArray), (⟨#[115, 105, 116, 32, 49]⟩ : ByteArray), (⟨#[120]⟩ : ByteArray), (⟨#[109, 111, 118, 101, 32, 50, 32, 51]⟩ : ByteArray), (⟨#[48, 32, 49]⟩ : ByteArray)] (by decide) (by decide) 10 (by decide)
 obtain ⟨r, s2, e2, hr⟩ := of_ok code hb (a + 1) (by omega) s1 [(⟨#[]⟩ : ByteArray), (⟨#[51]⟩ : ByteArray), (⟨#[63]⟩ : ByteArray), (⟨#[97, 64, 98]⟩ : ByteArray), (⟨#[51, 32, 49, 32, 50]⟩ : ByteArray)] (by decide) (by decide) 10 (by decide)
 obtain ⟨x, s3, e3, _, _⟩ := zp_ code hb (a + 2) (by omega) s2 24 (by omega) (by omega)
 rw [e1, Option.bind_some, e2, Option.bind_some, e3, Option.bind_some]
 by_cases g : x = 0
 ·obtain ⟨c', s4, e4, hc'⟩ := of_ok code hb (a + 3) (by omega) s3 [(⟨#[]⟩ : ByteArray), (⟨#[97, 64, 98]⟩ : ByteArray), (⟨#[97, 35]⟩ : ByteArray), (⟨#[10]⟩ : ByteArray), strOfNums (List.replicate 3 0)] (by decide) (by decide) 10 (by decide)
  rw [if_pos g, if_pos (by omega), e4]
  exact ⟨_, _, _, _, rfl, hc', hr, by omega⟩
 ·rw [if_neg g]
  by_cases g2 : x = 1
  ·obtain ⟨r', s4, e4, hr'⟩ := of_ok code hb (a + 3) (by omega) s3 [(⟨#[35]⟩ : ByteArray), (⟨#[10]⟩ : ByteArray), (⟨#[127]⟩ : ByteArray)] (by decide) (by decide) 10 (by decide)
   rw [if_pos g2, e4]
   exact ⟨_, _, _, _, rfl, hc, hr', by omega⟩
  ·rw [if_neg g2]
   exact ⟨_, _, _, _, rfl, hc, hr, by omega⟩
theorem append_draw (a b c r : List UInt8) (n : Int) (g : a.length + b.length ≤ 1000000) (hc : c.length ≤ 100) (hr : r.length ≤ 100) : ∃ (a' b' : List UInt8) (n' st : Int), Ev (fun k => spec_AppendRecord.f k (ofL a) (ofL b) n (ofL c) (ofL r)) (ofL a', ofL b', n', st) ∧ a'.length + b'.length ≤ a.length + b.length + 300 := by
 obtain ⟨v, e1, _, hv⟩ := valid_both a b n (by omega)
 obtain ⟨u, r1, _, hu⟩ := record_at c r (by omega) (by omega)
 unfold spec_AppendRecord.f
 cases v with
 | false =>
  refine ⟨a, b, n, 1, Ev.bind e1 (En_ (by simp) (Es_ ?_)), by omega⟩
  simp only [spec_AppendRecord.j0]
  exact Ep_ trivial (Ev.now _)
 | true =>
 cases u with
 | false =>
  refine ⟨a, b, n, 1, Ev.bind e1 (Ep_ rfl (Ev.bind r1 (Es_ ?_))), by omega⟩
  simp only [spec_AppendRecord.j0]
  exact Ep_ (by simp) (Ev.now _)
 | true =>
 obtain ⟨hs, rs, ns, _, _, hn, h60⟩ := hv rfl
 by_cases h : rs.length = 60
 ·refine ⟨a, b, n, 2, Ev.bind e1 (Ep_ rfl (Ev.bind r1 (Es_ ?_))), by omega⟩
  simp only [spec_AppendRecord.j0]
  exact En_ (by simp) (Ep_ (by omega) (Ev.now _))
 ·subst hn
  have h6 := zy_ rs.length (by omega) c r
  have h7 := zv_ (zx_ rs.length c r)
  have h8 : (lineL rs.length c r).length = (zs_ (zx_ rs.length c r)).length + 1 := by unfold lineL; simp
  refine ⟨a, b ++ lineL rs.length c r, wrap64 ((rs.length : Int) + 1), 0, Ev.bind e1 (Ep_ rfl (Ev.bind r1 (Es_ ?_))), by rw [List.length_append]; omega⟩
  simp only [spec_AppendRecord.j0]
  rw [← oa_]
  exact En_ (by simp) (En_ (by omega) (Ev.bind (spec_line_ev rs.length (by omega) c r (by omega) (by omega)) (Ep_ (by rw [oz_, oz_]; omega) (Ev.now _))))
theorem sync_draw (a b : List UInt8) (n : Int) (g : a.length + b.length ≤ 1000000) : ∃ (a' b' : List UInt8) (n' : Int) (ok : Bool), Ev (fun k => spec_SyncLog.f k (ofL a) (ofL b) n) (ofL a', ofL b', n', ok) ∧ a'.length + b'.length ≤ a.length + b.length := by
 obtain ⟨v, e1, _, _⟩ := valid_both a b n (by omega)
 unfold spec_SyncLog.f
 cases v with
 | true =>
  refine ⟨a ++ b, [], n, true, Ev.bind e1 (Ep_ rfl (Ep_ (by rw [oz_, oz_]; omega) ?_)), by simp⟩
  rw [oa_]
  exact Ev.now _
 | false => exact ⟨[], [], 0, false, Ev.bind e1 (En_ (by simp) (Ev.now _)), by simp⟩
theorem log12_loop (code : List Int) (hb : ∀ x ∈ code, 0 ≤ x ∧ x ≤ 255) : ∀ (d : Nat) (at_ : Nat) (seed : Int) (a b : List UInt8) (n : Int), at_ + 6 * d ≤ 700 → a.length + b.length + 300 * d ≤ 20000 → ∃ (a' b' : List UInt8) (n' : Int) (at' : Nat) (s' : Int), Ev (fun k => spec_l1Cur_log12.l0 k (d : Int) code at_ seed (ofL a) (ofL b) n) (ofL a', ofL b', n', (at' : Int), s') ∧ a'.length + b'.length ≤ a.length + b.length + 300 * d ∧ at' ≤ at_ + 6 * d := by
 intro d
 induction d with
 | zero =>
  intro at_ seed a b n h1 h2
  refine ⟨a, b, n, at_, seed, Es_ ?_, by omega, by omega⟩
  simp only [spec_l1Cur_log12.l0]
  exact En_ (by omega) (Ev.now _)
 | succ d ih =>
  intro at_ seed a b n h1 h2
  obtain ⟨c, r, a1, s1, e1, hc, hr, ha1⟩ := logRecord_ok code hb at_ (by omega) seed
  obtain ⟨c, rfl⟩ := all_ofL c
  obtain ⟨r, rfl⟩ := all_ofL r
  rw [oz_] at hc hr
  obtain ⟨p, q, m, st, e2, hpq⟩ := append_draw a b c r n (by omega) (by omega) (by omega)
  obtain ⟨f, s2, e3⟩ := one_ok code hb a1 (by omega) s1 4 (by omega) (by omega)
  have hd : wrap64 (((d + 1 : Nat) : Int) - 1) = (d : Int) := by rw [wi_] <;> omega
  cases f with
  | true =>
   obtain ⟨p2, q2, m2, ok, e4, hp2⟩ := sync_draw p q m (by omega)
   obtain ⟨a', b', n', at', s', go, h3, h4⟩ := ih (a1 + 1) s2 p2 q2 m2 (by omega) (by omega)
   refine ⟨a', b', n', at', s', Es_ ?_, by omega, by omega⟩
   simp only [spec_l1Cur_log12.l0]
   rw [hd]
   exact Ep_ (by omega) (Eh_ e1 (Ev.bind e2 (Eh_ e3 (Ep_ rfl (Ev.bind e4 go)))))
  | false =>
   obtain ⟨a', b', n', at', s', go, h3, h4⟩ := ih (a1 + 1) s2 p q m (by omega) (by omega)
   refine ⟨a', b', n', at', s', Es_ ?_, by omega, by omega⟩
   simp only [spec_l1Cur_log12.l0]
   rw [hd]
   exact Ep_ (by omega) (Eh_ e1 (Ev.bind e2 (Eh_ e3 (En_ (by simp) go))))
theorem log12_ok (code : List Int) (hb : ∀ x ∈ code, 0 ≤ x ∧ x ≤ 255) : ∃ (a b : List UInt8) (n : Int) (at' : Nat) (s' : Int), Ev (fun k => spec_l1Cur_log12.f k code 0 0) (ofL a, ofL b, n, (at' : Int), s') ∧ a.length + b.length ≤ 2100 ∧ at' ≤ 60 := by
 obtain ⟨x, s, e, x0, x1⟩ := zp_ code hb 0 (by omega) 0 7 (by omega) (by omega)
 obtain ⟨d, rfl⟩ : ∃ d : Nat, x = d := ⟨x.toNat, by omega⟩
 obtain ⟨a, b, n, at', s', go, h3, h4⟩ := log12_loop code hb d 1 s [] [] 0 (by omega) (by simp; omega)
 refine ⟨a, b, n, at', s', ?_, by simp at h3; omega, by omega⟩
 unfold spec_l1Cur_log12.f
 exact Eh_ e go
theorem spoilt_ok (code : List Int) (hb : ∀ x ∈ code, 0 ≤ x ∧ x ≤ 255) (a : Nat) (ha : a ≤ 800) (seed : Int) (t : ByteArray) (ht : t.size ≤ 100000) : ∃ (r : ByteArray) (a' : Nat) (s : Int), spec_l1Cur_spoilt.f code a seed t (⟨#[35, 64, 10, 48, 49]⟩ : ByteArray) = some (r, (a' : Int), s) ∧ r.size ≤ t.size + 1 ∧ a' ≤ a + 5 := by
 obtain ⟨w, hw⟩ : ∃ w : ByteArray, (⟨#[35, 64, 10, 48, 49]⟩ : ByteArray) = w := ⟨_, rfl⟩
 have hws : w.size = 5 := by rw [← hw]; rfl
 rw [hw]
 unfold spec_l1Cur_spoilt.f
 by_cases h : t.toList = ([] : List UInt8)
 ·rw [if_pos h, if_pos (by omega), if_pos (by omega)]
  exact ⟨_, a, seed, rfl, by rw [ByteArray.size_extract]; omega, by omega⟩
 ·have hts : 1 ≤ t.size := by
   rw [Lib.toList_data] at h
   rcases Nat.eq_zero_or_pos t.size with q | q
   ·exact absurd (List.eq_nil_of_length_eq_zero (by simpa using q)) h
   ·exact q
  obtain ⟨i, a1, s1, e1, i0, i1, b1⟩ := pick_wide code hb a (by omega) seed (t.size : Int) (by omega) (by omega)
  obtain ⟨j, a2, s2, e2, j0, j1, b2⟩ := pick_wide code hb a1 (by omega) s1 (w.size : Int) (by omega) (by omega)
  obtain ⟨x, s3, e3, x0, x1⟩ := zp_ code hb a2 (by omega) s2 3 (by omega) (by omega)
  have hwi : wrap64 (i + 1) = i + 1 := by rw [wi_] <;> omega
  have z1 : (t.extract 0 i.toNat).size = i.toNat := by rw [ByteArray.size_extract]; omega
  have z2 : ((w.extract j.toNat w.size).extract 0 1).size ≤ 1 := by rw [ByteArray.size_extract, ByteArray.size_extract]; omega
  have z3 : (t.extract i.toNat t.size).size = t.size - i.toNat := by rw [ByteArray.size_extract]; omega
  have z4 : (t.extract (i + 1).toNat t.size).size = t.size - (i + 1).toNat := by rw [ByteArray.size_extract]; omega
  have z5 : (w.extract j.toNat w.size).size = w.size - j.toNat := by rw [ByteArray.size_extract]; omega
  rw [if_neg h, e1, Option.bind_some, e2, Option.bind_some]
  dsimp only
  rw [if_pos (by omega), if_pos (by omega), if_pos (by omega), if_pos (by omega), e3, Option.bind_some]
  dsimp only
  by_cases g : x = 0
  ·rw [if_pos g, if_pos (by omega), if_pos (by omega), if_pos (by omega), if_pos (by rw [ByteArray.size_append]; omega)]
   exact ⟨_, a2 + 1, s3, rfl, by rw [ByteArray.size_append, ByteArray.size_append]; omega, by omega⟩
  ·rw [if_neg g]
   by_cases g2 : x = 1
   ·rw [if_pos g2, if_pos (by omega), if_pos (by omega), if_pos (by omega), hwi, if_pos (by omega), if_pos (by omega), if_pos (by rw [ByteArray.size_append]; omega)]
    exact ⟨_, a2 + 1, s3, rfl, by rw [ByteArray.size_append, ByteArray.size_append]; omega, by omega⟩
   ·rw [if_neg g2, if_pos (by omega), if_pos (by omega), hwi, if_pos (by omega), if_pos (by omega), if_pos (by omega)]
    exact ⟨_, a2 + 1, s3, rfl, by rw [ByteArray.size_append]; omega, by omega⟩
theorem anyLog_ok (code : List Int) (hb : ∀ x ∈ code, 0 ≤ x ∧ x ≤ 255) : ∃ (a b : List UInt8) (n : Int) (at' : Nat) (s' : Int), Ev (fun k => spec_l1Cur_anyLog.f k code 0 0) (ofL a, ofL b, n, (at' : Int), s') ∧ a.length + b.length ≤ 5000 ∧ at' ≤ 80 := by
 obtain ⟨a, b, n, a1, s1, e, hab, h1⟩ := log12_ok code hb
 obtain ⟨x, s2, e2, x0, x1⟩ := zp_ code hb a1 (by omega) s1 24 (by omega) (by omega)
 unfold spec_l1Cur_anyLog.f
 by_cases g0 : x = 0
 ·exact ⟨a, b, wrap64 (n + 1), a1 + 1, s2, Ev.bind e (Eh_ e2 (Ep_ g0 (Ev.now _))), by omega, by omega⟩
 by_cases g1 : x = 1
 ·obtain ⟨r, a3, s3, e3, hr, h3⟩ := spoilt_ok code hb (a1 + 1) (by omega) s2 (ofL b) (by rw [oz_]; omega)
  obtain ⟨r, rfl⟩ := all_ofL r
  rw [oz_, oz_] at hr
  exact ⟨a, r, n, a3, s3, Ev.bind e (Eh_ e2 (En_ g0 (Ep_ g1 (Eh_ e3 (Ev.now _))))), by omega, by omega⟩
 by_cases g2 : x = 2
 ·refine ⟨a ++ b, b, n, a1 + 1, s2, Ev.bind e (Eh_ e2 (En_ g0 (En_ g1 (Ep_ g2 (Ep_ (by rw [oz_, oz_]; omega) ?_))))), by rw [List.length_append]; omega, by omega⟩
  rw [oa_]
  exact Ev.now _
 ·exact ⟨a, b, n, a1 + 1, s2, Ev.bind e (Eh_ e2 (En_ g0 (En_ g1 (En_ g2 (Ev.now _))))), by omega, by omega⟩
theorem drawCrash_ev (code : List Int) (hb : ∀ x ∈ code, 0 ≤ x ∧ x ≤ 255) : ∃ (a b : List UInt8) (n keep : Int) (torn : Bool), Ev (fun k => spec_DrawCrashLog.f k code) (ofL a, ofL b, n, keep, torn) ∧ a.length + b.length ≤ 5000 := by
 obtain ⟨a, b, n, a1, s1, e, hab, h1⟩ := anyLog_ok code hb
 have hw : wrap64 (((ofL b).size : Int) + 3) = ((b.length + 3 : Nat) : Int) := by rw [oz_, wi_] <;> omega
 obtain ⟨x, a2, s2, e2, x0, x1, h2⟩ := pick_wide code hb a1 (by omega) s1 ((b.length + 3 : Nat) : Int) (by omega) (by omega)
 obtain ⟨f, s3, e3⟩ := one_ok code hb a2 (by omega) s2 2 (by omega) (by omega)
 refine ⟨a, b, n, wrap64 (x - 1), f, ?_, hab⟩
 unfold spec_DrawCrashLog.f
 refine Ev.bind e ?_
 dsimp only
 rw [hw]
 exact Eh_ e2 (Eh_ e3 (Ev.now _))
theorem drawRecover_ev (code : List Int) (hb : ∀ x ∈ code, 0 ≤ x ∧ x ≤ 255) : ∃ t : List UInt8, Ev (fun k => spec_DrawRecoverLog.f k code) (ofL t) ∧ t.length ≤ 100000 := by
 have fin : ∀ (t : List UInt8) (a : Nat) (s : Int), t.length ≤ 50000 → a ≤ 800 → ∃ (u : List UInt8) (b v : Int), Ev (fun k => spec_DrawRecoverLog_m.j0 k (ofL t) code (a : Int) s) (ofL u, b, v) ∧ u.length ≤ 100000 := by
  intro t a s ht ha
  obtain ⟨f, s1, e1⟩ := one_ok code hb a (by omega) s 40 (by omega) (by omega)
  cases f with
  | false =>
   refine ⟨t, ((a + 1 : Nat) : Int), s1, Es_ ?_, by omega⟩
   simp only [spec_DrawRecoverLog_m.j0]
   exact Eh_ e1 (En_ (by simp) (Ev.now _))
  | true =>
   obtain ⟨x, s2, e2, x0, x1⟩ := zp_ code hb (a + 1) (by omega) s1 2 (by omega) (by omega)
   have hw : wrap64 (30000 + x) = 30000 + x := by rw [wi_] <;> omega
   obtain ⟨u, hu⟩ := all_ofL (strOfNums (List.replicate (30000 + x).toNat 0))
   have hul : u.length = (30000 + x).toNat := by
    rw [← oz_, ← hu]
    unfold strOfNums
    show (List.toArray _).size = _
    rw [List.size_toArray, List.length_map, List.length_replicate]
   refine ⟨u, ((a + 1 + 1 : Nat) : Int), s2, Es_ ?_, by omega⟩
   simp only [spec_DrawRecoverLog_m.j0]
   refine Eh_ e1 (Ep_ rfl (Eh_ e2 ?_))
   dsimp only
   rw [hw, hu]
   exact Ep_ (by omega) (Ep_ (by omega) (Ev.now _))
 obtain ⟨a, b, n, a1, s1, e, hab, h1⟩ := log12_ok code hb
 obtain ⟨x, s2, e2, x0, x1⟩ := zp_ code hb a1 (by omega) s1 4 (by omega) (by omega)
 have hsz : (ofL (a ++ b)).size = a.length + b.length := by rw [oz_, List.length_append]
 have go : ∀ (t : List UInt8) (a2 : Nat) (s3 : Int), t.length ≤ 50000 → a2 ≤ 800 → (∀ z, Ev (fun k => spec_DrawRecoverLog_m.j0 k (ofL t) code (a2 : Int) s3) z → Ev (fun k => spec_DrawRecoverLog_m.f k code 0 0) z) → ∃ t : List UInt8, Ev (fun k => spec_DrawRecoverLog.f k code) (ofL t) ∧ t.length ≤ 100000 := by
  intro t a2 s3 ht ha2 hz
  obtain ⟨u, p, q, e3, hu⟩ := fin t a2 s3 ht ha2
  refine ⟨u, ?_, hu⟩
  unfold spec_DrawRecoverLog.f
  exact Ev.bind (hz _ e3) (Ev.now _)
 by_cases g0 : x = 0
 ·obtain ⟨r, a3, s3, e3, hr, h3⟩ := spoilt_ok code hb (a1 + 1) (by omega) s2 (ofL (a ++ b)) (by omega)
  obtain ⟨r, rfl⟩ := all_ofL r
  rw [oz_] at hr
  refine go r a3 s3 (by omega) (by omega) fun z hz => ?_
  unfold spec_DrawRecoverLog_m.f
  refine Ev.bind e (Ep_ (by rw [oz_, oz_]; omega) (Eh_ e2 (Ep_ g0 ?_)))
  dsimp only
  rw [oa_]
  exact Eh_ e3 hz
 by_cases g1 : x = 1
 ·have hw : wrap64 (((ofL (a ++ b)).size : Int) + 1) = ((a.length + b.length + 1 : Nat) : Int) := by rw [hsz, wi_] <;> omega
  obtain ⟨y, a3, s3, e3, y0, y1, h3⟩ := pick_wide code hb (a1 + 1) (by omega) s2 ((a.length + b.length + 1 : Nat) : Int) (by omega) (by omega)
  refine go (((a ++ b).take y.toNat).drop 0) a3 s3 (by simp; omega) (by omega) fun z hz => ?_
  unfold spec_DrawRecoverLog_m.f
  refine Ev.bind e (Ep_ (by rw [oz_, oz_]; omega) (Eh_ e2 (En_ g0 (Ep_ g1 ?_))))
  dsimp only
  rw [oa_, hw]
  refine Eh_ e3 (Ep_ y0 (Ep_ (by omega) ?_))
  dsimp only
  rw [oe_]
  exact hz
 by_cases g2 : x = 2
 ·obtain ⟨y, s3, e3, y0, y1⟩ := zp_ code hb (a1 + 1) (by omega) s2 4 (by omega) (by omega)
  obtain ⟨y, rfl⟩ : ∃ m : Nat, y = m := ⟨y.toNat, by omega⟩
  obtain ⟨c, r, a4, s4, e4, hc, hr, h4⟩ := logRecord_ok code hb (a1 + 1 + 1) (by omega) s3
  obtain ⟨c, rfl⟩ := all_ofL c
  obtain ⟨r, rfl⟩ := all_ofL r
  rw [oz_] at hc hr
  have h6 := zy_ y (by omega) c r
  have h7 := zv_ (zx_ y c r)
  have h8 : (lineL y c r).length = (zs_ (zx_ y c r)).length + 1 := by unfold lineL; simp
  refine go ((a ++ b) ++ lineL y c r) a4 s4 (by simp; omega) (by omega) fun z hz => ?_
  unfold spec_DrawRecoverLog_m.f
  refine Ev.bind e (Ep_ (by rw [oz_, oz_]; omega) (Eh_ e2 (En_ g0 (En_ g1 (Ep_ g2 (Eh_ e3 (Eh_ e4 ?_)))))))
  refine Ev.bind (spec_line_ev y (by omega) c r (by omega) (by omega)) ?_
  dsimp only
  rw [oa_]
  refine Ep_ (by rw [hsz, oz_]; omega) ?_
  rw [oa_]
  exact hz
 ·refine go (a ++ b) (a1 + 1) s2 (by simp; omega) (by omega) fun z hz => ?_
  unfold spec_DrawRecoverLog_m.f
  refine Ev.bind e (Ep_ (by rw [oz_, oz_]; omega) (Eh_ e2 (En_ g0 (En_ g1 (En_ g2 ?_)))))
  dsimp only
  rw [oa_]
  exact hz

theorem rd_det {k : Nat} {x : List UInt8} {rs : List (List UInt8 × List UInt8)} {ns : List Nat} (h : Rd k x rs ns) : ∀ {rs' : List (List UInt8 × List UInt8)} {ns' : List Nat}, Rd k x rs' ns' → rs = rs' ∧ ns = ns' := by
 induction h with
 | stop k x h =>
  intro rs' ns' h'
  cases h' with
  | stop _ _ _ => exact ⟨rfl, rfl⟩
  | more _ _ c r n _ _ h1 _ => exact absurd h1 (h c r n)
 | more k x c r n rs ns h t ih =>
  intro rs' ns' h'
  cases h' with
  | stop _ _ h1 => exact absurd h (h1 c r n)
  | more _ _ c' r' n' rs' ns' h1 t' =>
   obtain ⟨rfl, rfl, rfl⟩ := st_det h h1
   obtain ⟨rfl, rfl⟩ := ih t'
   exact ⟨rfl, rfl⟩
theorem rd_len {k : Nat} {x : List UInt8} {rs : List (List UInt8 × List UInt8)} {ns : List Nat} (h : Rd k x rs ns) : rs.length = ns.length ∧ ns.sum ≤ x.length := by
 induction h with
 | stop k x h => exact ⟨rfl, by simp⟩
 | more k x c r n rs ns h t ih =>
  have := st_len h
  rw [List.length_drop] at ih
  exact ⟨by simp [ih.1], by rw [List.sum_cons]; omega⟩
theorem rd_take {k : Nat} {x : List UInt8} {rs : List (List UInt8 × List UInt8)} {ns : List Nat} (h : Rd k x rs ns) : Rd k (x.take ns.sum) rs ns := by
 induction h with
 | stop k x h =>
  refine Rd.stop _ _ fun c r n q => ?_
  have := st_len q
  simp at this
  omega
 | more k x c r n rs ns h t ih =>
  have hl := st_len h
  refine Rd.more _ _ c r n _ _ ?_ ?_
  ·refine st_cut (y := x.drop (n :: ns).sum) ?_ ?_
   ·rw [List.take_append_drop]
    exact h
   ·rw [List.length_take, List.sum_cons]
    omega
  ·rw [List.sum_cons, List.drop_take, Nat.add_sub_cancel_left]
   exact ih
theorem rd_prefix : ∀ (rs' : List (List UInt8 × List UInt8)) (k : Nat) (x y v : List UInt8) (ns' : List Nat) (rs : List (List UInt8 × List UInt8)) (ns : List Nat), (10 : UInt8) ∉ y → Rd k (x ++ y) rs' ns' → Rd k (x ++ v) rs ns → rs' = rs.take rs'.length ∧ ns' = ns.take rs'.length ∧ ns'.sum ≤ x.length := by
 intro rs'
 induction rs' with
 | nil =>
  intro k x y v ns' rs ns _ h _
  have hl := (rd_len h).1
  have : ns' = [] := List.eq_nil_of_length_eq_zero (by simpa using hl.symm)
  subst this
  exact ⟨by simp, by simp, by simp⟩
 | cons p rs' ih =>
  intro k x y v ns' rs ns hy h h2
  cases h with
  | more _ _ c r n _ ns' h t =>
   have hn : n ≤ x.length := by
    obtain ⟨_, L, b, e, h1, _, rfl⟩ := h
    have hm : (10 : UInt8) ∈ x := by
     have : (10 : UInt8) ∈ x ++ y := by rw [e]; simp
     rcases List.mem_append.1 this with q | q
     ·exact q
     ·exact absurd q hy
    obtain ⟨a, b', e', h'⟩ := has_cut hm
    have : L = a := by rw [← zt_ b h1, ← e, e', List.append_assoc, List.cons_append, zt_ _ h']
    rw [e', ← this]
    simp
   have hx := st_cut h hn
   rw [List.drop_append_of_le_length hn] at t
   have hv := st_app hx v
   cases h2 with
   | stop _ _ q => exact absurd hv (q c r n)
   | more _ _ c2 r2 n2 rs ns q t2 =>
    obtain ⟨rfl, rfl, rfl⟩ := st_det hv q
    rw [List.drop_append_of_le_length hn] at t2
    obtain ⟨z1, z2, z3⟩ := ih (k + 1) (x.drop n) y v ns' rs ns hy t t2
    rw [List.length_drop] at z3
    refine ⟨by rw [List.length_cons, List.take_succ_cons, ← z1], by rw [List.length_cons, List.take_succ_cons, ← z2], by rw [List.sum_cons]; omega⟩
theorem D_byte (k : Nat) : ∀ b ∈ D k, b.toNat ≤ 126 := fun b hb => by have := D_digits k b hb; omega
theorem st_bytes {k : Nat} {x c r : List UInt8} {n : Nat} (h : St k x c r n) : ∀ b ∈ x.take n, b.toNat ≤ 126 := by
 obtain ⟨hk, L, b, e, _, hrec, rfl⟩ := h
 have hL := (zr_ (by omega) hrec).1
 obtain ⟨_, h1, _, h2, _⟩ := hrec.1
 have e2 : x.take (L.length + 1) = L ++ [10] := by
  rw [e, show L ++ 10 :: b = (L ++ [10]) ++ b by simp, show L.length + 1 = (L ++ [10]).length by simp, List.take_left]
 rw [e2, hL]
 intro q hq
 unfold zs_ zx_ at hq
 simp only [List.mem_append, List.mem_singleton] at hq
 rcases hq with (((((((q1 | q1) | q1) | q1) | q1) | q1) | q1)) | q1
 ·exact D_byte _ _ q1
 ·rw [q1]; decide
 ·exact (h1 _ q1).2.1
 ·rw [q1]; decide
 ·exact (h2 _ q1).2.1
 ·rw [q1]; decide
 ·exact D_byte _ _ q1
 ·rw [q1]; decide
theorem rd_bytes {k : Nat} {x : List UInt8} {rs : List (List UInt8 × List UInt8)} {ns : List Nat} (h : Rd k x rs ns) : ∀ b ∈ x.take ns.sum, b.toNat ≤ 126 := by
 induction h with
 | stop k x h => simp
 | more k x c r n rs ns h t ih =>
  intro b hb
  rw [List.sum_cons, List.take_add] at hb
  rcases List.mem_append.1 hb with q | q
  ·exact st_bytes h b q
  ·exact ih b q

theorem valid_more (a b : List UInt8) (cnt : Int) (h : a.length + b.length ≤ 1048576) : ∃ v, Ev (fun n => spec_l12Valid.f n (ofL a) (ofL b) cnt) v ∧ Ev (fun n => impl_IsValidLog.f n (ofL a) (ofL b) cnt) v ∧ (v = true → a.length + b.length ≤ 30000 ∧ ∃ (rs rs' : List (List UInt8 × List UInt8)) (ns ns' : List Nat), Rd 0 (a ++ b) rs ns ∧ Rd 0 a rs' ns' ∧ Ev (fun n => impl_readRecords.f n (ofL (a ++ b))) (rs.map toS, 0 :: ps 0 ns) ∧ ns.sum = a.length + b.length ∧ ns'.sum = a.length ∧ cnt = (rs.length : Int) ∧ rs.length ≤ 60) := by
 have hs : (a ++ b).length = a.length + b.length := List.length_append
 by_cases g : a.length + b.length ≤ 30000
 case neg =>
  refine ⟨false, ?_, ?_, fun e => absurd e (by simp)⟩
  ·unfold spec_l12Valid.f
   rw [oz_, oz_, wi_ (by omega) (by omega)]
   exact Ep_ (by omega) (Ev.now _)
  ·unfold impl_IsValidLog.f
   rw [oz_, oz_, wi_ (by omega) (by omega)]
   exact Ep_ (by omega) (Ev.now _)
 obtain ⟨rs, ns, r1, e1, e2, h1, h2, h3⟩ := zd_ (a ++ b) (by omega)
 obtain ⟨rs', ns', r1', e1', _, h1', _, _⟩ := zd_ a (by omega)
 obtain ⟨c, ce, hc⟩ := contains_ev (0 :: ps 0 ns) (by rw [List.length_cons, ps_len]; omega) (a.length : Int)
 have key : c = true ↔ ns'.sum = a.length := by
  rw [hc]
  have m := mem_ps ns 0 a.length
  rw [Int.natCast_zero] at m
  rw [m]
  constructor
  ·rintro ⟨j, hj⟩
   exact rd_back j 0 a b rs ns rs' ns' r1 (by omega) r1'
  ·intro e
   obtain ⟨j, hj⟩ := rd_keep r1' e b rs ns r1
   exact ⟨j, by omega⟩
 have el : rd (0 :: ps 0 ns) ((rs.map toS).length : Int) = ((ns.sum : Nat) : Int) := by
  rw [List.length_map, h2, rd_nat]
  have := ps_last ns 0
  rw [Nat.zero_add] at this
  exact this
 have spec_go : ∀ {z : Bool}, Ev (fun _ => if ((ns.sum : Nat) : Int) = ((a.length : Nat) : Int) + ((b.length : Nat) : Int) then (if ((ns'.sum : Nat) : Int) = ((a.length : Nat) : Int) then (some (((rs.map toS).length : Int) == cnt)) else (some false)) else (some false)) z → Ev (fun n => spec_l12Valid.f n (ofL a) (ofL b) cnt) z := by
  intro z hz
  unfold spec_l12Valid.f
  rw [oz_, oz_, wi_ (by omega) (by omega), oa_]
  exact En_ (by omega) (Ep_ (by omega) (Ev.bind e1 (Ev.bind e1' hz)))
 have impl_go : ∀ {z : Bool}, Ev (fun n => if ((ns.sum : Nat) : Int) = ((a.length : Nat) : Int) + ((b.length : Nat) : Int) then (if cnt = ((rs.map toS).length : Int) then ((slices_Contains_int_int.f n (0 :: ps 0 ns) (a.length : Int)).bind fun t => (some t)) else (some false)) else (some false)) z → Ev (fun n => impl_IsValidLog.f n (ofL a) (ofL b) cnt) z := by
  intro z hz
  unfold impl_IsValidLog.f
  rw [oz_, oz_, wi_ (by omega) (by omega), oa_]
  refine En_ (by omega) (Ep_ (by omega) (Ev.bind e2 (Ep_ (by omega) (Ep_ (by rw [List.length_cons, ps_len, List.length_map]; omega) ?_))))
  dsimp only
  rw [el]
  exact hz
 by_cases g1 : ns.sum = a.length + b.length
 case neg => exact ⟨false, spec_go (En_ (by omega) (Ev.now _)), impl_go (En_ (by omega) (Ev.now _)), fun e => absurd e (by simp)⟩
 by_cases g2 : cnt = (rs.length : Int)
 case neg =>
  refine ⟨false, spec_go (Ep_ (by omega) ?_), impl_go (Ep_ (by omega) (En_ (by rw [List.length_map]; exact g2) (Ev.now _))), fun e => absurd e (by simp)⟩
  by_cases g3 : ns'.sum = a.length
  ·refine Ep_ (by omega) ?_
   have : (((rs.map toS).length : Int) == cnt) = false := by
    rw [List.length_map, beq_eq_false_iff_ne]
    exact fun q => g2 q.symm
   rw [this]
   exact Ev.now _
  ·exact En_ (by omega) (Ev.now _)
 refine ⟨c, spec_go (Ep_ (by omega) ?_), impl_go (Ep_ (by omega) (Ep_ (by rw [List.length_map]; exact g2) (Ev.bind ce (Ev.now _)))), fun hc' => ⟨g, rs, rs', ns, ns', r1, r1', e2, g1, key.1 hc', g2, h3⟩⟩
 cases c with
 | true =>
  refine Ep_ (by have := key.1 rfl; omega) ?_
  have : (((rs.map toS).length : Int) == cnt) = true := by
   rw [List.length_map, beq_iff_eq]
   exact g2.symm
  rw [this]
  exact Ev.now _
 | false => exact En_ (fun q => absurd (key.2 (by omega)) (by simp)) (Ev.now _)
theorem valid_yes (a : List UInt8) (rs : List (List UInt8 × List UInt8)) (ns : List Nat) (h : Rd 0 a rs ns) (hs : ns.sum = a.length) (hl : a.length ≤ 30000) : Ev (fun n => impl_IsValidLog.f n (ofL a) (ofL []) (rs.length : Int)) true ∧ Ev (fun n => impl_readRecords.f n (ofL a)) (rs.map toS, 0 :: ps 0 ns) := by
 obtain ⟨rs2, ns2, r2, _, e2, h1, h2, h3⟩ := zd_ a (by omega)
 obtain ⟨rfl, rfl⟩ := rd_det h r2
 refine ⟨?_, e2⟩
 obtain ⟨c, ce, hc⟩ := contains_ev (0 :: ps 0 ns) (by rw [List.length_cons, ps_len]; omega) (a.length : Int)
 have m := mem_ps ns 0 a.length
 rw [Int.natCast_zero] at m
 obtain rfl : c = true := hc.2 (m.2 ⟨ns.length, by rw [List.take_length]; omega⟩)
 have el : rd (0 :: ps 0 ns) ((rs.map toS).length : Int) = ((ns.sum : Nat) : Int) := by
  rw [List.length_map, h2, rd_nat]
  have := ps_last ns 0
  rw [Nat.zero_add] at this
  exact this
 have ez : (ofL []).size = 0 := rfl
 unfold impl_IsValidLog.f
 rw [oa_, List.append_nil, oz_, ez, wi_ (by omega) (by omega)]
 refine En_ (by omega) (Ep_ (by omega) (Ev.bind e2 (Ep_ (by omega) (Ep_ (by rw [List.length_cons, ps_len, List.length_map]; omega) ?_))))
 dsimp only
 rw [el]
 exact Ep_ (by omega) (Ep_ (by rw [List.length_map]) (Ev.bind ce (Ev.now _)))
theorem flip_last (m : List UInt8) (x : UInt8) : ∃ y : UInt8, flipLast (ofL (m ++ [x])) = ofL (m ++ [y]) ∧ (x.toNat ≤ 126 → y ≠ 10) := by
 have hx := x.toNat_lt
 have e1 : bnums (ofL (m ++ [x])) = m.map (fun b => (b.toNat : Int)) ++ [(x.toNat : Int)] := by
  unfold bnums
  rw [zf_]
  simp
 have e2 : (ofL (m ++ [x])).size - 1 = m.length := by rw [oz_]; simp
 have e3 : (m.map (fun b => (b.toNat : Int)) ++ [(x.toNat : Int)]).getD m.length 0 = (x.toNat : Int) := by
  rw [List.getD_eq_getElem?_getD, List.getElem?_append_right (by simp)]
  simp
 have hy : (UInt8.ofNat (255 - (x.toNat : Int)).toNat).toNat = 255 - x.toNat := by
  rw [UInt8.toNat_ofNat_of_lt' (by show _ < 256; omega)]
  omega
 refine ⟨UInt8.ofNat (255 - (x.toNat : Int)).toNat, ?_, fun h e => ?_⟩
 ·unfold flipLast
  rw [e1, e2, e3, List.set_append_right _ _ (by simp)]
  apply ByteArray.ext
  apply Array.toList_inj.1
  unfold strOfNums ofL
  simp only [List.length_map, Nat.sub_self, List.set_cons_zero, List.map_append, List.map_map, List.map_cons, List.map_nil]
  have : ((fun n : Int => UInt8.ofNat n.toNat) ∘ fun b : UInt8 => (b.toNat : Int)) = id := by
   funext b
   simp
  rw [this, List.map_id]
 ·rw [e] at hy
  have : (10 : UInt8).toNat = 10 := rfl
  omega

theorem numsLen (s : ByteArray) : (bnums s).length = s.size := by simp [bnums]
theorem strNums (s : ByteArray) : strOfNums (bnums s) = s := by
 apply ByteArray.ext
 apply Array.toList_inj.1
 unfold strOfNums bnums
 rw [List.map_map]
 have : ((fun n : Int => UInt8.ofNat n.toNat) ∘ fun b : UInt8 => (b.toNat : Int)) = id := by
  funext b
  simp
 rw [this, List.map_id]
theorem flipSize (s : ByteArray) : (flipLast s).size = s.size := by
 unfold flipLast strOfNums
 show (List.toArray _).size = _
 rw [List.size_toArray, List.length_map, List.length_set, numsLen]
theorem flip_append (a b : ByteArray) (hb : 0 < b.size) : flipLast (a ++ b) = a ++ flipLast b := by
 have e1 : bnums (a ++ b) = bnums a ++ bnums b := by simp [bnums]
 have e2 : (a ++ b).size - 1 = a.size + (b.size - 1) := by rw [ByteArray.size_append]; omega
 have la := numsLen a
 have e3 : (bnums a ++ bnums b).getD (a.size + (b.size - 1)) 0 = (bnums b).getD (b.size - 1) 0 := by
  rw [List.getD_eq_getElem?_getD, List.getD_eq_getElem?_getD, List.getElem?_append_right (by omega), la, Nat.add_sub_cancel_left]
 have e4 : ∀ x y : List Int, strOfNums (x ++ y) = strOfNums x ++ strOfNums y := fun x y => by
  apply ByteArray.ext
  rw [ByteArray.data_append]
  simp [strOfNums]
 unfold flipLast
 rw [e1, e2, e3, List.set_append_right _ _ (by omega), la, Nat.add_sub_cancel_left, e4, strNums]

theorem crash_is (a b : List UInt8) (n keep : Int) (torn : Bool) (g : a.length + b.length ≤ 1048576) : ∃ (s : List UInt8) (ok : Bool), Ev (fun k => spec_CrashLog.f k (ofL a) (ofL b) n keep torn) (ofL s, ok) ∧ Ev (fun k => impl_CrashLog.f k (ofL a) (ofL b) n keep torn) (ofL s, ok) ∧ (ok = true → ∃ (rs rs' : List (List UInt8 × List UInt8)) (ns ns' : List Nat) (m y w : List UInt8), a.length + b.length ≤ 30000 ∧ Rd 0 (a ++ b) rs ns ∧ Rd 0 a rs' ns' ∧ ns'.sum = a.length ∧ Ev (fun k => impl_readRecords.f k (ofL (a ++ b))) (rs.map toS, 0 :: ps 0 ns) ∧ Ev (fun k => impl_IsValidLog.f k (ofL a) (ofL b) n) true ∧ s = a ++ (m ++ y) ∧ b = m ++ w ∧ (10 : UInt8) ∉ y ∧ y.length ≤ w.length ∧ (torn = false → ¬ keep < (b.length : Int) → s = a ++ b)) := by
 obtain ⟨v, e1, e2, hv⟩ := valid_more a b n g
 unfold spec_CrashLog.f impl_CrashLog.f
 cases v with
 | false =>
  refine ⟨[], false, Ev.bind e1 (En_ (by simp) (Es_ ?_)), Ev.bind e2 (En_ (by simp) (Es_ ?_)), fun q => absurd q (by simp)⟩
  ·simp only [spec_CrashLog.j0]
   exact Ep_ trivial (Ev.now _)
  ·simp only [impl_CrashLog.j0]
   exact Ep_ trivial (Ev.now _)
 | true =>
 have hw := within_at keep 0 ((ofL b).size : Int)
 have hi := in_iff keep 0 ((ofL b).size : Int)
 by_cases hk : 0 ≤ keep ∧ keep ≤ ((ofL b).size : Int)
 case neg =>
  rw [decide_eq_false hk] at hw hi
  refine ⟨[], false, Ev.bind e1 (Ep_ rfl (Eh_ hi (Es_ ?_))), Ev.bind e2 (Ep_ rfl (Eh_ hw (Es_ ?_))), fun q => absurd q (by simp)⟩
  ·simp only [spec_CrashLog.j0]
   exact Ep_ (by simp) (Ev.now _)
  ·simp only [impl_CrashLog.j0]
   exact Ep_ (by simp) (Ev.now _)
 rw [decide_eq_true hk] at hw hi
 obtain ⟨h30, rs, rs', ns, ns', r1, r1', rd, hs1, hs2, hn, h60⟩ := hv rfl
 have ha : (ofL a).size = a.length := oz_ a
 have hb : (ofL b).size = b.length := oz_ b
 obtain ⟨K, rfl⟩ : ∃ K : Nat, keep = K := ⟨keep.toNat, by omega⟩
 have hS : (ofL b).extract 0 (K : Int).toNat = ofL (b.take K) := by rw [oe_]; simp
 have hsz : (ofL (b.take K)).size = K := by rw [oz_, List.length_take]; omega
 have start : ∀ (s : List UInt8) (m y w : List UInt8), Ev (fun k => spec_CrashLog.j0 k (K : Int) torn (!true) (ofL a) (ofL b) n) (ofL s, true) → Ev (fun k => impl_CrashLog.j0 k (K : Int) torn (!true) (ofL a) (ofL b) n) (ofL s, true) → s = a ++ (m ++ y) → b = m ++ w → (10 : UInt8) ∉ y → y.length ≤ w.length → (torn = false → ¬ (K : Int) < (b.length : Int) → s = a ++ b) → _ := fun s m y w h1 h2 h3 h4 h5 h6 h7 =>
  (⟨s, true, Ev.bind e1 (Ep_ rfl (Eh_ hi h1)), Ev.bind e2 (Ep_ rfl (Eh_ hw h2)), fun _ => ⟨rs, rs', ns, ns', m, y, w, h30, r1, r1', hs2, rd, e2, h3, h4, h5, h6, h7⟩⟩ : ∃ (s : List UInt8) (ok : Bool), Ev (fun k => (spec_l12Valid.f k (ofL a) (ofL b) n).bind fun t => (if t = true then ((spec_l1In.f (K : Int) 0 ((ofL b).size : Int)).bind fun u => (spec_CrashLog.j0 k (K : Int) torn (!u) (ofL a) (ofL b) n)) else (spec_CrashLog.j0 k (K : Int) torn true (ofL a) (ofL b) n))) (ofL s, ok) ∧ Ev (fun k => (impl_IsValidLog.f k (ofL a) (ofL b) n).bind fun t => (if t = true then ((impl_within.f (K : Int) 0 ((ofL b).size : Int)).bind fun u => (impl_CrashLog.j0 k (K : Int) torn (!u) (ofL a) (ofL b) n)) else (impl_CrashLog.j0 k (K : Int) torn true (ofL a) (ofL b) n))) (ofL s, ok) ∧ (ok = true → ∃ (rs rs' : List (List UInt8 × List UInt8)) (ns ns' : List Nat) (m y w : List UInt8), a.length + b.length ≤ 30000 ∧ Rd 0 (a ++ b) rs ns ∧ Rd 0 a rs' ns' ∧ ns'.sum = a.length ∧ Ev (fun k => impl_readRecords.f k (ofL (a ++ b))) (rs.map toS, 0 :: ps 0 ns) ∧ Ev (fun k => impl_IsValidLog.f k (ofL a) (ofL b) n) true ∧ s = a ++ (m ++ y) ∧ b = m ++ w ∧ (10 : UInt8) ∉ y ∧ y.length ≤ w.length ∧ (torn = false → ¬ (K : Int) < (b.length : Int) → s = a ++ b)))
 have split := (List.take_append_drop K b).symm
 have whole : ¬ (K : Int) < (b.length : Int) → a ++ b.take K = a ++ b := fun h => by rw [List.take_of_length_le (by omega)]
 cases torn with
 | false =>
  refine start (a ++ b.take K) (b.take K) [] (b.drop K) (Es_ ?_) (Es_ ?_) (by simp) split (by simp) (by simp) (fun _ h => whole h)
  ·simp only [spec_CrashLog.j0, hS]
   rw [← oa_]
   exact En_ (by simp) (Ep_ hk.1 (Ep_ hk.2 (En_ (by simp) (Ep_ (by omega) (Ev.now _)))))
  ·simp only [impl_CrashLog.j0, hS]
   rw [← oa_]
   exact En_ (by simp) (Ep_ hk.1 (Ep_ hk.2 (Ep_ (by omega) (En_ (by simp) (Ev.now _)))))
 | true =>
 by_cases hp : (K : Int) > 0
 ·obtain ⟨J, rfl⟩ : ∃ J, K = J + 1 := ⟨K - 1, by omega⟩
  have hJ : J < b.length := by omega
  have ht : b.take (J + 1) = b.take J ++ [b[J]] := by
   rw [List.take_add_one, List.getElem?_eq_getElem hJ]
   rfl
  have hx : (b[J]).toNat ≤ 126 := by
   refine rd_bytes r1 _ ?_
   rw [hs1, List.take_of_length_le (by rw [List.length_append]; omega)]
   exact List.mem_append_right _ (List.getElem_mem _)
  obtain ⟨y, hy, hyn⟩ := flip_last (b.take J) b[J]
  have hF : flipLast (ofL (b.take (J + 1))) = ofL (b.take J ++ [y]) := by rw [ht]; exact hy
  have hfs := flipSize (ofL (b.take (J + 1)))
  refine start (a ++ (b.take J ++ [y])) (b.take J) [y] (b.drop J) (Es_ ?_) (Es_ ?_) rfl (List.take_append_drop J b).symm (by simp; exact fun q => hyn hx q.symm) (by simp; omega) (fun q => absurd q (by simp))
  ·simp only [spec_CrashLog.j0, hS]
   rw [← oa_, ← hF]
   exact En_ (by simp) (Ep_ hk.1 (Ep_ hk.2 (Ep_ trivial (Ep_ hp (Ep_ (by omega) (Ev.now _))))))
  ·simp only [impl_CrashLog.j0, hS]
   rw [flip_append _ _ (by omega), ← oa_, ← hF]
   exact En_ (by simp) (Ep_ hk.1 (Ep_ hk.2 (Ep_ (by omega) (Ep_ trivial (Ep_ hp (Ev.now _))))))
 ·refine start (a ++ b.take K) (b.take K) [] (b.drop K) (Es_ ?_) (Es_ ?_) (by simp) split (by simp) (by simp) (fun _ h => whole h)
  ·simp only [spec_CrashLog.j0, hS]
   rw [← oa_]
   exact En_ (by simp) (Ep_ hk.1 (Ep_ hk.2 (Ep_ trivial (En_ hp (Ep_ (by omega) (Ev.now _))))))
  ·simp only [impl_CrashLog.j0, hS]
   rw [← oa_]
   exact En_ (by simp) (Ep_ hk.1 (Ep_ hk.2 (Ep_ (by omega) (Ep_ trivial (En_ hp (Ev.now _))))))
theorem recover_is (s : List UInt8) (g : s.length ≤ 30000) : ∃ rs ns, Rd 0 s rs ns ∧ Ev (fun k => impl_RecoverLog.f k (ofL s)) (ofL (s.take ns.sum), ofL [], (rs.length : Int), ((ns.sum : Nat) : Int), true) ∧ Ev (fun k => spec_RecoverLog.f k (ofL s)) (ofL (s.take ns.sum), ofL [], (rs.length : Int), ((ns.sum : Nat) : Int), true) := by
 obtain ⟨rs, ns, r1, e1, e2, h1, h2, _⟩ := zd_ s (by omega)
 have el : rd (0 :: ps 0 ns) ((rs.map toS).length : Int) = ((ns.sum : Nat) : Int) := by
  rw [List.length_map, h2, rd_nat]
  have := ps_last ns 0
  rw [Nat.zero_add] at this
  exact this
 have hx : (ofL s).extract 0 ((ns.sum : Nat) : Int).toNat = ofL (s.take ns.sum) := by rw [oe_]; simp
 refine ⟨rs, ns, r1, ?_, ?_⟩
 ·unfold impl_RecoverLog.f
  refine En_ (by rw [oz_]; omega) (Ev.bind e2 ?_)
  dsimp only
  rw [el, hx, List.length_map]
  exact Ep_ (by omega) (Ep_ (by rw [List.length_cons, ps_len]; omega) (Ep_ (by omega) (Ep_ (by rw [oz_]; omega) (Ev.now _))))
 ·unfold spec_RecoverLog.f
  refine En_ (by rw [oz_]; omega) (Ev.bind e1 ?_)
  dsimp only
  rw [hx, List.length_map]
  exact Ep_ (by omega) (Ep_ (by rw [oz_]; omega) (Ev.now _))
theorem recover_both (s : List UInt8) : ∃ z, Ev (fun k => spec_RecoverLog.f k (ofL s)) z ∧ Ev (fun k => impl_RecoverLog.f k (ofL s)) z := by
 by_cases g : s.length ≤ 30000
 ·obtain ⟨_, _, _, h1, h2⟩ := recover_is s g
  exact ⟨_, h2, h1⟩
 ·unfold spec_RecoverLog.f impl_RecoverLog.f
  exact ⟨_, Ep_ (by rw [oz_]; omega) (Ev.now _), Ep_ (by rw [oz_]; omega) (Ev.now _)⟩
theorem vRecords_ev (xs : List S27) (h : xs.length ≤ 1000) : Ev (fun k => laws_vRecords.f k xs xs) true := by
 have main : ∀ d i : Nat, i + d = xs.length → Ev (fun k => laws_vRecords.l0 k xs xs (i : Int)) true := by
  intro d
  induction d with
  | zero =>
   intro i hi
   refine Es_ ?_
   simp only [laws_vRecords.l0]
   exact En_ (by omega) (Ev.now _)
  | succ d ih =>
   intro i hi
   refine Es_ ?_
   simp only [laws_vRecords.l0]
   rw [zo_ (show i < xs.length by omega) (by omega)]
   exact Ep_ (by omega) (Ep_ (by omega) (Ep_ (by omega) (En_ (by simp) (ih (i + 1) (by omega)))))
 unfold laws_vRecords.f
 exact Ep_ rfl (main xs.length 0 (by omega))
theorem vCut_ok (l : List Int) (hb : ∀ x ∈ l, 0 ≤ x ∧ x ≤ 255) (h : l.length ≤ 65536) : ∃ r, laws_vCut.f l 1 = some r ∧ ∀ x ∈ r, 0 ≤ x ∧ x ≤ 255 := by
 have hd : ∀ j, ∀ x ∈ l.drop j, 0 ≤ x ∧ x ≤ 255 := fun j x hx => hb x (List.mem_of_mem_drop hx)
 have hl : ∀ j, (l.drop j).length ≤ 65536 := fun j => by rw [List.length_drop]; omega
 unfold laws_vCut.f
 by_cases g : (1 : Int) > (l.length : Int)
 ·have := hl ((l.length : Int)).toNat
  rw [if_pos g, Option.bind_some, if_pos (by omega), if_pos (by omega), if_pos (by simp), Option.bind_some, if_pos (by simp)]
  refine ⟨_, rfl, fun x hx => ?_⟩
  rcases List.mem_append.1 hx with q | q
  ·exact hd _ x (by rw [List.nil_append] at q; exact q)
  ·rw [List.mem_singleton.1 q]
   omega
 ·have := hl ((1 : Int)).toNat
  rw [if_neg g, Option.bind_some, if_pos (by omega), if_pos (by omega), if_pos (by rw [List.length_nil]; omega), Option.bind_some, if_pos (by rw [List.nil_append]; omega)]
  refine ⟨_, rfl, fun x hx => ?_⟩
  rcases List.mem_append.1 hx with q | q
  ·exact hd _ x (by rw [List.nil_append] at q; exact q)
  ·rw [List.mem_singleton.1 q]
   decide
theorem FnCrashes : laws_FnCrashes.Pure := by
 intro l0 _ _ h0
 have hb : ∀ x ∈ l0, 0 ≤ x ∧ x ≤ 255 := fun x hx => u8_bounds (h0 x hx)
 refine Ev.rounds ?_
 unfold laws_FnCrashes.f
 by_cases g : l0.length > 65536
 ·exact Eh_ (show laws_vBig.f l0 = some true from congrArg some (decide_eq_true (by omega))) (Ep_ rfl (Ev.now _))
 refine Eh_ (show laws_vBig.f l0 = some false from congrArg some (decide_eq_false (by omega))) (En_ (by simp) ?_)
 obtain ⟨a, b, n, keep, torn, d1, hab⟩ := drawCrash_ev l0 hb
 obtain ⟨s, ok, c1, c2, hok⟩ := crash_is a b n keep torn (by omega)
 obtain ⟨l1, hcut, hb1⟩ := vCut_ok l0 hb (by omega)
 obtain ⟨t, d2, _⟩ := drawRecover_ev l1 hb1
 obtain ⟨z, r1, r2⟩ := recover_both t
 refine Ev.bind d1 (Ev.bind c2 (Ev.bind c1 (Eh_ hcut (Ev.bind d2 (Ev.bind r2 (Ev.bind r1 (Ep_ rfl (En_ (bne_self _) (En_ (by simp) (Ep_ rfl (Es_ ?_)))))))))))
 simp only [laws_FnCrashes.j0]
 refine En_ (bne_self _) ?_
 cases ok with
 | false => exact En_ (by simp) (Ev.now _)
 | true =>
 refine Ep_ rfl ?_
 obtain ⟨rs, rsD, ns, nsD, m, y, w, h30, q1, qD, hsD, rdL, vL, es, eb, hy, hyw, hfull⟩ := hok rfl
 have hsl : s.length ≤ 30000 := by
  rw [es]
  rw [eb] at h30
  simp only [List.length_append] at h30 ⊢
  omega
 obtain ⟨rs2, ns2, q2, v1, _⟩ := recover_is s hsl
 have hl2 := rd_len q2
 have hT := rd_take q2
 obtain ⟨vB, rdB⟩ := valid_yes (s.take ns2.sum) rs2 ns2 hT (by rw [List.length_take]; omega) (by rw [List.length_take]; omega)
 have hge : a.length ≤ ns2.sum := by
  obtain ⟨j, hj⟩ := rd_keep qD hsD (m ++ y) rs2 ns2 (by rw [← es]; exact q2)
  have : (ns2.take j).sum ≤ ns2.sum := by
   have := List.take_append_drop j ns2
   have e := congrArg List.sum this
   rw [List.sum_append] at e
   omega
  omega
 obtain ⟨p1, _, _⟩ := rd_prefix rs2 0 (a ++ m) y w ns2 rs ns hy (by rw [List.append_assoc, ← es]; exact q2) (by rw [List.append_assoc, ← eb]; exact q1)
 have hle : rs2.length ≤ rs.length := by
  have e := congrArg List.length p1
  rw [List.length_take] at e
  omega
 have h60 : rs2.length ≤ 60 := by
  obtain ⟨rs3, ns3, q3, _, _, _, _, h3⟩ := zd_ s (by omega)
  obtain ⟨rfl, rfl⟩ := rd_det q2 q3
  exact h3
 have ez : (ofL []).size = 0 := rfl
 have hts : (ofL (s.take ns2.sum)).size = ns2.sum := by rw [oz_, List.length_take]; omega
 refine Ev.bind v1 (Ep_ rfl (Ev.bind vB (Ep_ rfl ?_)))
 dsimp only
 refine En_ (by rw [oz_]; omega) (Es_ ?_)
 simp only [laws_FnCrashes.j1, hts]
 refine En_ (bne_self _) ?_
 have L1 : Ev (fun k => impl_LogRecords.f k (ofL a) (ofL b) n) (rs.map toS, true) := by
  unfold impl_LogRecords.f
  refine Ev.bind vL (Ep_ rfl (Ep_ (by rw [oz_, oz_]; omega) ?_))
  rw [oa_]
  exact Ev.bind rdL (Ev.now _)
 have L2 : Ev (fun k => impl_LogRecords.f k (ofL (s.take ns2.sum)) (ofL []) (rs2.length : Int)) (rs2.map toS, true) := by
  unfold impl_LogRecords.f
  refine Ev.bind vB (Ep_ rfl (Ep_ (by rw [hts, ez]; omega) ?_))
  rw [oa_, List.append_nil]
  exact Ev.bind rdB (Ev.now _)
 have hcmp : (rs.map toS).take ((rs2.map toS).length : Int).toNat = rs2.map toS := by
  rw [Int.toNat_natCast, List.length_map, ← List.map_take, ← p1]
 refine Ev.bind L1 (Ev.bind L2 (Ep_ (by rw [List.length_map, List.length_map]; omega) (Ep_ (by omega) ?_)))
 dsimp only
 rw [hcmp]
 refine Ev.bind (vRecords_ev _ (by rw [List.length_map]; omega)) (Ep_ rfl ?_)
 cases torn with
 | true => exact Ep_ rfl (Ev.now _)
 | false =>
  refine En_ (by simp) ?_
  by_cases hk : keep < (b.length : Int)
  ·exact Ep_ (by rw [oz_]; exact hk) (Ev.now _)
  ·refine En_ (by rw [oz_]; exact hk) ?_
   have e := hfull rfl hk
   rw [e] at q2
   obtain ⟨rfl, _⟩ := rd_det q1 q2
   have : (((rs.map toS).length : Int) == ((rs.map toS).length : Int)) = true := by simp
   rw [this]
   exact Ev.now _

end Go.Proofs.YtphcagjmpaajmaaDoor.Pure
-- squeezed
