-- Written by px.py, a program of this session, over the kit's printer: some functions have a definition and a proof of this session's own.
import Derived.Lib.BitFns
import Derived.Lib.TrailingZeros
import Derived.Laws.Bits64b
import Derived.Test.YtohmonfaabofaaaDoorQFnTheatrex0
import Derived.Test.YtohmonfaabofaaaDoorQFnTheatrex1
import Derived.Maps.Own
import Derived.Maps.OwnSet
import Derived.Maps.AppendAt
import Derived.Maps.RangeWalk
import Derived.Maps.OwnOps
import Derived.KernelRfl
import Derived.Laws.EntriesVeiled
namespace Go.Proofs.YtohmonfaabofaaaDoor.QFnTheatre
open Go.RowKit Go.Proofs.YtohmonfaabofaaaDoorW.PrintWords Go.Proofs.YtohmonfaabofaaaDoorW.PrintLast Go.Proofs.YtohmonfaabofaaaDoorW.PrintMore
attribute [local go_sem] max2_int min2_int max_two min_two max_three min_three max_four min_four   -- for this text's walks alone
set_option linter.unusedVariables false
set_option linter.unusedSimpArgs false
set_option maxHeartbeats 8000000
set_option maxRecDepth 100000

def impl_Row_free.f (k : Nat) (a0_0 : Int) (a0_1 : Bool) (l0_2 : List Int) : Option (Int) := (impl_Row_bench.f a0_0 a0_1 l0_2).bind fun bt204 => ((impl_bench_all.f bt204.1 bt204.2).bind fun t206 => ((impl_Row_taken.f k a0_0 a0_1 l0_2).bind fun t207 => (some (Go.bits .andNot .u32 t206 t207))))
theorem impl_Row_free.mono : ∀ a0 a1 a2 k, LeO (impl_Row_free.f k a0 a1 a2) (impl_Row_free.f (k + 1) a0 a1 a2) := by
 intro a0 a1 a2 k
 unfold impl_Row_free.f
 repeat' with_reducible first | exact impl_Row_taken.mono .. | exact LeO.refl .. | exact LeO.none .. | refine LeO.ite ?_ ?_ | refine LeO.bind ?_ (fun _ => ?_)
theorem impl_Row_free.calls (k : Nat) (a0_0 : Int) (a0_1 : Bool) (A0_2 : Option Addr) (c0_2 : Nat) (l0_2 : List Int) (r : Int) (w : World) (hr0_2 : Kd.C (Kd.int .i64) w A0_2 l0_2.length l0_2) (hc0_2 : l0_2.length ≤ c0_2) (h : impl_Row_free.f k a0_0 a0_1 l0_2 = some r) :
  Calls Tryd.prog 54 #[.agg #[.int .i64 a0_0, .bool a0_1, .slice A0_2 l0_2.length c0_2]] w fun e w' => e = .returned (.int .u32 r) ∧ Below w.heap.size w w' := by
 have hu28 := Tryd.underlying28
 have HR0_2 := A0_ hr0_2
 have HC0_2 := A0_ hc0_2
 clear hr0_2 hc0_2
 have HB := A0_ (Below.refl w.heap.size w)
 have H : ((impl_Row_bench.f a0_0 a0_1 l0_2).bind fun bt1 => ((impl_bench_all.f bt1.1 bt1.2).bind fun t1 => ((impl_Row_taken.f k a0_0 a0_1 l0_2).bind fun t2 => (some (Go.bits .andNot .u32 t1 t2))))) = some r := h
 clear h
 obtain ⟨⟨t3, t4⟩, A2, H⟩ := o1_ H
 obtain ⟨t1, A4, H⟩ := o1_ H
 obtain ⟨t2, A6, H⟩ := o1_ H
 replace H : (some (Go.bits .andNot .u32 t1 t2)) = some r := H
 obtain rfl := si_ H
 go_enter Tryd.func54, Tryd.ntmps54
 try go_wp2_with (first | ((with_reducible refine gd_ (N := 1) rfl ?_); refine bx_ 1 #[.int .i64 a0_0, .bool a0_1, .slice A0_2 l0_2.length c0_2] 28 ?_; intro gb1 hg w1 BK1 hb; have GW1 := ge_ hg brt4_; have GE1 := GW1; replace HB := hb_ hb brt4_; clear hb hg))
 replace BK1 := A0_ (kd_ BK1.out)
 replace HB := A0_ (bd_ HB.out)
 refine start_ (n := 7) (S := fun w' => w'.cell? ⟨gb1, 0, none⟩ = some (.int .i64 a0_0) ∧ w'.cell? ⟨gb1, 1, none⟩ = some (.bool a0_1) ∧ w'.cell? ⟨gb1, 2, none⟩ = some (.slice A0_2 l0_2.length c0_2)) (ds := []) #[false, false, false, false, false, false, false] bfqv_ rfl rfl ⟨(kc_ BK1.out 0).trans rfl, (kc_ BK1.out 1).trans rfl, (kc_ BK1.out 2).trans rfl⟩ (fun hHeld => ?_)
 generalize w1.drew = w2 at BK1 HB hHeld ⊢
 refine tk_ 0 3 hHeld ?_
 refine tk_ 3 6 hHeld ?_
 refine on_ 1 (some 4) (fun K hK => ?_)
 refine gs_ Tryd.func45 #[.agg #[.int .i64 a0_0, .bool a0_1, .slice A0_2 l0_2.length c0_2]] ?_
 with_reducible refine (impl_Row_bench.calls a0_0 a0_1 _ _ l0_2 t3 t4 _ ?side1 ?side2 A2.out).mono ?_
 (case side1 => exact b6n8_)
 (case side2 => exact HC0_2.out)
 rintro e w3 ⟨rfl, hb⟩
 refine ⟨_, rfl, ?_⟩
 replace BK1 := k1_ BK1 hb
 replace HB := hb_ hb be6g_
 (try clear hb)
 refine hK.out _ _ (c3_ BK1) (fun hHeld => ?_)
 clear hK K
 refine nm_ 4 ?_
 refine on_ 2 (some 5) (fun K hK => ?_)
 refine gs_ Tryd.func46 #[.agg #[.int .i64 t3, .bool t4]] ?_
 with_reducible refine (impl_bench_all.calls t3 t4 t1 _ A4.out).mono ?_
 rintro e w4 ⟨rfl, hb⟩
 refine ⟨_, rfl, ?_⟩
 replace BK1 := k1_ BK1 hb
 replace HB := hb_ hb be6g_
 (try clear hb)
 refine hK.out _ _ (c3_ BK1) (fun hHeld => ?_)
 clear hK K
 refine nm_ 5 ?_
 refine on_ 4 (some 7) (fun K hK => ?_)
 refine gs_ Tryd.func41 #[.agg #[.int .i64 a0_0, .bool a0_1, .slice A0_2 l0_2.length c0_2]] ?_
 with_reducible refine (impl_Row_taken.calls k a0_0 a0_1 _ _ l0_2 t2 _ ?side1 ?side2 A6.out).mono ?_
 (case side1 => exact b6n8_)
 (case side2 => exact HC0_2.out)
 rintro e w5 ⟨rfl, hb⟩
 refine ⟨_, rfl, ?_⟩
 replace BK1 := k1_ BK1 hb
 replace HB := hb_ hb be6g_
 (try clear hb)
 refine hK.out _ _ (c3_ BK1) (fun hHeld => ?_)
 clear hK K
 refine nm_ 7 ?_
 refine pu_ 5 8 ?_
 refine pu_ 6 2 ?_
 refine done_ bfqv_ ?_
 try go_wp2
 go_ret
 exact ⟨bnwh_, be6g_⟩

theorem popAux_add (m : Nat) : ∀ (n x : Nat), Lib.popAux (n + m) x = Lib.popAux n x + Lib.popAux m (x / 2 ^ n)
 | 0, x => by simp [Lib.popAux]
 | n + 1, x => by
  rw [show n + 1 + m = (n + m) + 1 from by omega, Lib.popAux, Lib.popAux, popAux_add m n, Nat.pow_succ', Nat.div_div_eq_div_mul]
  omega
theorem popAux_mod : ∀ (n x : Nat), Lib.popAux n (x % 2 ^ n) = Lib.popAux n x
 | 0, x => by simp [Lib.popAux]
 | n + 1, x => by
  have h1 : x % 2 ^ (n + 1) % 2 = x % 2 := Nat.mod_mod_of_dvd x ⟨2 ^ n, Nat.pow_succ'⟩
  have h2 : x % 2 ^ (n + 1) / 2 = x / 2 % 2 ^ n := by rw [Nat.pow_succ', Nat.mod_mul_right_div_self]
  rw [Lib.popAux, Lib.popAux, h1, h2, popAux_mod n]
theorem popAux_zero : ∀ n, Lib.popAux n 0 = 0
 | 0 => rfl
 | n + 1 => by rw [Lib.popAux, popAux_zero n]
theorem onesCount_four (x : Nat) (h : x < 4294967296) : Lib.onesCount x = Lib.onesCount (x / 16777216) + Lib.onesCount (x / 65536 % 256) + Lib.onesCount (x / 256 % 256) + Lib.onesCount (x % 256) := by
 have e1 : ∀ y, y < 256 → Lib.onesCount y = Lib.popAux 8 y := fun y hy => by
  have h0 := popAux_add 56 8 y
  rw [show y / 2 ^ 8 = 0 from Nat.div_eq_of_lt hy, popAux_zero, Nat.add_zero] at h0
  exact h0
 have m8 : ∀ y, Lib.popAux 8 (y % 256) = Lib.popAux 8 y := fun y => popAux_mod 8 y
 rw [e1 (x / 16777216) bh19_, e1 _ (Nat.mod_lt _ bh19_), e1 _ (Nat.mod_lt _ bh19_), e1 _ (Nat.mod_lt _ bh19_), m8, m8, m8]
 have h1 := popAux_add 56 8 x
 have h2 := popAux_add 48 8 (x / 2 ^ 8)
 have h3 := popAux_add 40 8 (x / 2 ^ 8 / 2 ^ 8)
 have h4 := popAux_add 32 8 (x / 2 ^ 8 / 2 ^ 8 / 2 ^ 8)
 rw [show x / 2 ^ 8 / 2 ^ 8 / 2 ^ 8 / 2 ^ 8 = 0 from by omega, popAux_zero] at h4
 rw [show x / 16777216 = x / 2 ^ 8 / 2 ^ 8 / 2 ^ 8 from by omega, show x / 65536 = x / 2 ^ 8 / 2 ^ 8 from by omega, show x / 256 = x / 2 ^ 8 from by omega]
 unfold Lib.onesCount
 rw [show (64 : Nat) = 8 + 56 from rfl, h1, show (56 : Nat) = 8 + 48 from rfl, h2, show (48 : Nat) = 8 + 40 from rfl, h3, show (40 : Nat) = 8 + 32 from rfl, h4]
 omega
theorem pop8_ones (b : Int) (h0 : 0 ≤ b) (h1 : b ≤ 255) : Lib.pop8 b = (Lib.onesCount b.toNat : Int) := by
 have e := Lib.pop8_eq ⟨b.toNat, bh19_⟩
 simp only [Int.toNat_of_nonneg h0] at e
 exact e
theorem mask8 (x : Int) (h0 : 0 ≤ x) (h1 : x < 4294967296) : Go.bits .and .u32 x 255 = x % 256 :=
 bits_mask .u32 32 bi3y_ (fun n h h' => by rw [IntKind.wrap_u32]; omega) 8 bi3y_ x h0 h1
theorem pop_four (a : Int) (h0 : 0 ≤ a) (h1 : a < 4294967296) : (Lib.pop8 (a / 16777216) + Lib.pop8 (a / 65536 % 256) + Lib.pop8 (a / 256 % 256) + Lib.pop8 (a % 256)) % 256 = (Lib.onesCount a.toNat : Int) := by
 rw [pop8_ones _ bh19_ bh19_, pop8_ones _ bh19_ bh19_, pop8_ones _ bh19_ bh19_, pop8_ones _ bh19_ bh19_]
 have e := onesCount_four a.toNat bh19_
 have l1 := Lib.onesCount_le8 ⟨(a / 16777216).toNat, bh19_⟩
 have l2 := Lib.onesCount_le8 ⟨(a / 65536 % 256).toNat, bh19_⟩
 have l3 := Lib.onesCount_le8 ⟨(a / 256 % 256).toNat, bh19_⟩
 have l4 := Lib.onesCount_le8 ⟨(a % 256).toNat, bh19_⟩
 simp only at l1 l2 l3 l4
 rw [show (a / 16777216).toNat = a.toNat / 16777216 from by omega] at l1 ⊢
 rw [show (a / 65536 % 256).toNat = a.toNat / 65536 % 256 from by omega] at l2 ⊢
 rw [show (a / 256 % 256).toNat = a.toNat / 256 % 256 from by omega] at l3 ⊢
 rw [show (a % 256).toNat = a.toNat % 256 from by omega] at l4 ⊢
 omega
def bits_OnesCount32.f (a0 : Int) : Option (Int) := if 0 ≤ a0 ∧ a0 < 4294967296 then some (Lib.onesCount a0.toNat : Int) else none
set_option maxHeartbeats 400000 in
set_option maxRecDepth 100000 in
theorem bits_OnesCount32.calls (a0 : Int) (r : Int) (w : World) (h : bits_OnesCount32.f a0 = some r) :
  Calls Tryd.prog 85 #[.int .u32 a0] w fun e w' => e = .returned (.int .i64 r) ∧ Drawn0 w w' := by
 unfold bits_OnesCount32.f at h
 split at h
 ·rename_i hh
  obtain ⟨h0, h1⟩ := hh
  obtain rfl := si_ h
  have P := A0_ (pop_four a0 h0 h1)
  clear h
  have p1 : 0 ≤ a0 / 16777216 := by omega
  have p2 : a0 / 16777216 ≤ 255 := by omega
  have e1 := mask8 (a0 / 65536) bh19_ bh19_
  have e2 := mask8 (a0 / 256) bh19_ bh19_
  have e3 := mask8 a0 bh19_ bh19_
  go_enter Tryd.func85, Tryd.ntmps85
  go_wp2
  go_quiet (fail)
  go_wp2
  go_ret
  exact ⟨congrArg Ending.returned (congrArg (Value.int IntKind.i64) P.out), (Drawn0.refl _).step _⟩
 cases h


def impl_set_count.f (a0 : Int) : Option (Int) := (bits_OnesCount32.f a0).bind fun t208 => (some t208)
theorem impl_set_count.calls (a0 : Int) (r : Int) (w : World) (h : impl_set_count.f a0 = some r) :
  Calls Tryd.prog 66 #[.int .u32 a0] w fun e w' => e = .returned (.int .i64 r) ∧ Drawn0 w w' := by
 have H : ((bits_OnesCount32.f a0).bind fun t1 => (some t1)) = some r := h
 clear h
 obtain ⟨t1, A2, H⟩ := o1_ H
 replace H : (some t1) = some r := H
 obtain rfl := si_ H
 go_enter Tryd.func66, Tryd.ntmps66
 go_wp2_with (first | ((with_reducible refine gc_ (f := 85) rfl ?_); refine gl_ 4 Tryd.func85 #[.int .u32 a0] ?_; (with_reducible refine (bits_OnesCount32.calls a0 t1 _ A2.out).mono ?_); rintro e w' ⟨rfl, ⟨nd, rfl⟩⟩; refine ⟨_, rfl, ?_⟩))
 go_ret
 exact ⟨b04z_, boaj_⟩

def impl_isPublic.f (k : Nat) (a0_0 : Int) (a0_1 : Bool) (l0_2 : List Int) : Option (Bool) := (impl_isLine.f k a0_0 a0_1 l0_2).bind fun t210 => (if t210 = true then ((impl_Row_free.f k a0_0 a0_1 l0_2).bind fun t211 => ((impl_set_count.f t211).bind fun t212 => (some (decide (t212 ≤ 10))))) else (some false))
theorem impl_isPublic.mono : ∀ a0 a1 a2 k, LeO (impl_isPublic.f k a0 a1 a2) (impl_isPublic.f (k + 1) a0 a1 a2) := by
 intro a0 a1 a2 k
 unfold impl_isPublic.f
 repeat' with_reducible first | exact impl_Row_free.mono .. | exact impl_isLine.mono .. | exact LeO.refl .. | exact LeO.none .. | refine LeO.ite ?_ ?_ | refine LeO.bind ?_ (fun _ => ?_)
theorem impl_isPublic.calls (k : Nat) (a0_0 : Int) (a0_1 : Bool) (A0_2 : Option Addr) (c0_2 : Nat) (l0_2 : List Int) (r : Bool) (w : World) (hr0_2 : Kd.C (Kd.int .i64) w A0_2 l0_2.length l0_2) (hc0_2 : l0_2.length ≤ c0_2) (h : impl_isPublic.f k a0_0 a0_1 l0_2 = some r) :
  Calls Tryd.prog 39 #[.agg #[.int .i64 a0_0, .bool a0_1, .slice A0_2 l0_2.length c0_2]] w fun e w' => e = .returned (.bool r) ∧ Below w.heap.size w w' := by
 have hu28 := Tryd.underlying28
 have HR0_2 := A0_ hr0_2
 have HC0_2 := A0_ hc0_2
 clear hr0_2 hc0_2
 have HB := A0_ (Below.refl w.heap.size w)
 have H : ((impl_isLine.f k a0_0 a0_1 l0_2).bind fun t1 => (if t1 = true then ((impl_Row_free.f k a0_0 a0_1 l0_2).bind fun t2 => ((impl_set_count.f t2).bind fun t3 => (some (decide (t3 ≤ 10))))) else (some false))) = some r := h
 clear h
 obtain ⟨t1, A2, H⟩ := o1_ H
 by_cases c1 : t1 = true
 ·subst c1
  rw [if_pos rfl] at H
  obtain ⟨t2, A4, H⟩ := o1_ H
  obtain ⟨t3, A6, H⟩ := o1_ H
  replace H : (some (decide (t3 ≤ 10))) = some r := H
  obtain rfl := si_ H
  go_enter Tryd.func39, Tryd.ntmps39
  go_wp2_with (first | ((with_reducible refine gd_ (N := 1) rfl ?_); refine bx_ 1 #[.int .i64 a0_0, .bool a0_1, .slice A0_2 l0_2.length c0_2] 28 ?_; intro gb1 hg w1 BK1 hb; have GW1 := ge_ hg brt4_; have GE1 := GW1; replace HB := hb_ hb brt4_; clear hb hg; have hcz1 := c3_ BK1) | ((with_reducible refine gc_ (f := 52) rfl ?_); refine gl_ 4 Tryd.func52 #[.agg #[.int .i64 a0_0, .bool a0_1, .slice A0_2 l0_2.length c0_2]] ?_; (with_reducible refine (impl_isLine.calls k a0_0 a0_1 _ _ l0_2 true _ ?side1 ?side2 A2.out).mono ?_); (case side1 => exact b6n8_); (case side2 => exact HC0_2.out); rintro e w2 ⟨rfl, hb⟩; refine ⟨_, rfl, ?_⟩; replace BK1 := k1_ BK1 hb; replace HB := hb_ hb be6g_; (try clear hb); have hcz2 := c3_ BK1) | (go_at_call 54; (with_reducible refine (impl_Row_free.calls k a0_0 a0_1 _ _ l0_2 t2 _ ?side1 ?side2 A4.out).mono ?_); (case side1 => exact b6n8_); (case side2 => exact HC0_2.out); rintro e w3 ⟨rfl, hb⟩; replace BK1 := k1_ BK1 hb; replace HB := hb_ hb be6g_; (try clear hb)) | (go_at_call 66; (with_reducible refine (impl_set_count.calls t2 t3 _ A6.out).mono ?_); rintro e w' ⟨rfl, ⟨nd, rfl⟩⟩))
  go_ret
  exact ⟨bnwh_, be6g_⟩
 ·obtain rfl := bf_.mpr c1
  rw [if_neg ft_] at H
  obtain rfl := si_ H
  go_enter Tryd.func39, Tryd.ntmps39
  go_wp2_with (first | ((with_reducible refine gd_ (N := 1) rfl ?_); refine bx_ 1 #[.int .i64 a0_0, .bool a0_1, .slice A0_2 l0_2.length c0_2] 28 ?_; intro gb1 hg w1 BK1 hb; have GW1 := ge_ hg brt4_; have GE1 := GW1; replace HB := hb_ hb brt4_; clear hb hg; have hcz1 := c3_ BK1) | ((with_reducible refine gc_ (f := 52) rfl ?_); refine gl_ 4 Tryd.func52 #[.agg #[.int .i64 a0_0, .bool a0_1, .slice A0_2 l0_2.length c0_2]] ?_; (with_reducible refine (impl_isLine.calls k a0_0 a0_1 _ _ l0_2 false _ ?side1 ?side2 A2.out).mono ?_); (case side1 => exact b6n8_); (case side2 => exact HC0_2.out); rintro e w2 ⟨rfl, hb⟩; refine ⟨_, rfl, ?_⟩; replace BK1 := k1_ BK1 hb; replace HB := hb_ hb be6g_; (try clear hb)))
  go_ret
  exact ⟨bnwh_, be6g_⟩
 /-- The table of the library's stands in its variable: what the row's list gives. -/
def TabOK (w : World) : Prop := ∀ j, j < Lib.deBruijn32tab.length → w.cell? ⟨0, j, none⟩ = some (.int .u8 (Lib.deBruijn32tab.getD j 0))
theorem TabOK.below {w w' : World} (h : TabOK w) (hb : Below w.heap.size w w') : TabOK w' := fun j hj => (hb.cell (World.block_lt_of_cell? w _ (h j hj))).trans (h j hj)
theorem TabOK.drew {w : World} (h : TabOK w) : TabOK w.drew := h
theorem TabOK.drewN {w : World} (h : TabOK w) (n : Nat) : TabOK (w.drewN n) := fun j hj => h j hj
theorem tz_bits_and_u32_nat (a b : Nat) (ha : a < 4294967296) (hb : b < 4294967296) : Go.bits .and .u32 (a : Int) (b : Int) = ((a &&& b : Nat) : Int) := by
 have hx : a &&& b < 2 ^ 32 := Nat.and_lt_two_pow _ bh19_
 have h1 : (BitVec.ofInt 32 (a : Int)).toNat = a := by
  rw [BitVec.ofInt_natCast, BitVec.toNat_ofNat]; exact Nat.mod_eq_of_lt bh19_
 have h2 : (BitVec.ofInt 32 (b : Int)).toNat = b := by
  rw [BitVec.ofInt_natCast, BitVec.toNat_ofNat]; exact Nat.mod_eq_of_lt bh19_
 show IntKind.u32.wrap ((BitVec.ofInt 32 (a : Int) &&& BitVec.ofInt 32 (b : Int)).toNat : Int) = _
 rw [BitVec.toNat_and, h1, h2, IntKind.wrap_u32]
 omega
theorem tz_key (x a : Nat) (hx : x < 4294967296) (hx0 : x ≠ 0) (hlow : x &&& (4294967296 - x) = a) :
  Go.bits BinOp.and IntKind.u32 (x : Int) (-(x : Int) % 4294967296) * 125613361 % 4294967296 / 134217728 = ((a * 125613361 % 4294967296 / 134217728 : Nat) : Int) := by
 have e1 : -(x : Int) % 4294967296 = ((4294967296 - x : Nat) : Int) := by omega
 rw [e1, tz_bits_and_u32_nat x _ hx bh19_, hlow]
 omega
def bits_TrailingZeros32.f (a0 : Int) : Option (Int) := if 0 ≤ a0 ∧ a0 < 4294967296 then some (Lib.ctz 32 a0.toNat : Int) else none
set_option maxHeartbeats 1000000 in
theorem bits_TrailingZeros32.core (x k idx : Nat) (w : World) (hx0 : ((x : Int) == 0) = false)
  (key : Go.bits BinOp.and IntKind.u32 (x : Int) (-(x : Int) % 4294967296) * 125613361 % 4294967296 / 134217728 = (idx : Int))
  (hi : idx < 32) (hk : k < 32) (hcell : w.cell? ⟨0, idx, none⟩ = some (.int .u8 k)) :
  Calls Tryd.prog 74 #[.int .u32 x] w fun e w' => e = .returned (.int .i64 k) ∧ Drawn0 w w' := by
 go_enter Tryd.func74, Tryd.ntmps74
 go_wp2_with (simp only [key])
 go_ret
 exact ⟨rfl, boaj_⟩
theorem bits_TrailingZeros32.zero (w : World) :
  Calls Tryd.prog 74 #[.int .u32 0] w fun e w' => e = .returned (.int .i64 32) ∧ Drawn0 w w' := by
 go_enter Tryd.func74, Tryd.ntmps74
 go_wp2
 go_ret
 exact ⟨rfl, boaj_⟩
set_option maxHeartbeats 400000 in
set_option maxRecDepth 100000 in
theorem bits_TrailingZeros32.calls (a0 : Int) (r : Int) (w : World) (hG : TabOK w) (h : bits_TrailingZeros32.f a0 = some r) :
  Calls Tryd.prog 74 #[.int .u32 a0] w fun e w' => e = .returned (.int .i64 r) ∧ Drawn0 w w' := by
 unfold bits_TrailingZeros32.f at h
 split at h
 ·rename_i hh
  obtain ⟨h0, h1⟩ := hh
  obtain rfl := si_ h
  obtain ⟨x, rfl⟩ : ∃ x : Nat, a0 = x := ⟨a0.toNat, bh19_⟩
  rw [Int.toNat_natCast]
  by_cases hx1 : x = 0
  ·subst hx1
   exact bits_TrailingZeros32.zero w
  obtain ⟨hlow, hk⟩ := Lib.lowest_bit 32 x hx1 bh19_
  obtain ⟨hi, htab⟩ := Lib.deBruijn32_at _ hk
  have hcell := hG _ hi
  rw [htab] at hcell
  exact bits_TrailingZeros32.core x _ _ w (by simp; omega) (tz_key x _ bh19_ hx1 hlow) hi hk hcell
 cases h


def impl_set_list.l0 : Nat → Int → List Int → Option (List Int)
 | 0, _, _ => none
 | k + 1, x0, x3 => if x0 = 0 then (some x3) else ((bits_TrailingZeros32.f x0).bind fun t216 => (if x3.length < 17592186044416 then (impl_set_list.l0 k (Go.bits .and .u32 x0 ((x0 - 1) % 4294967296)) (x3 ++ [t216])) else (none)))
def impl_set_list.f (k : Nat) (a0 : Int) : Option (List Int) := impl_set_list.l0 k a0 (([] : List Int))
theorem impl_set_list.mono_l : ∀ k, (∀ y0 y1, LeO (impl_set_list.l0 k y0 y1) (impl_set_list.l0 (k + 1) y0 y1))
 | 0 => fun _ _ r h => by simp [impl_set_list.l0] at h
 | k + 1 => by
  have ih0 := impl_set_list.mono_l k
  ·intro y0 y1
   unfold impl_set_list.l0
   repeat' with_reducible first | exact ih0 .. | exact LeO.refl .. | exact LeO.none .. | refine LeO.ite ?_ ?_ | refine LeO.bind ?_ (fun _ => ?_)
theorem impl_set_list.mono : ∀ a0 k, LeO (impl_set_list.f k a0) (impl_set_list.f (k + 1) a0) := by
 intro a0 k
 have ih0 := impl_set_list.mono_l k
 unfold impl_set_list.f
 repeat' with_reducible first | exact ih0 .. | exact LeO.refl .. | exact LeO.none .. | refine LeO.ite ?_ ?_ | refine LeO.bind ?_ (fun _ => ?_)
theorem impl_set_list.calls (k : Nat) (a0 : Int) (r : List Int) (w : World) (hG : TabOK w) (h : impl_set_list.f k a0 = some r) :
  Calls Tryd.prog 47 #[.int .u32 a0] w fun e w' => ∃ v0_ : Value, e = .returned (v0_) ∧ Kd.R (Kd.int .i64) 3 w' w.heap.size (fun _ => True) v0_ r ∧ Below w.heap.size w w' := by
 have HG0 := A0_ hG
 clear hG
 have HB := A0_ (Below.refl w.heap.size w)
 have H : (impl_set_list.l0 k a0 (([] : List Int))) = some r := h
 clear h
 obtain ⟨y1, hy1⟩ : ∃ y_ : List Int, y_ = (([] : List Int)) := ⟨_, rfl⟩
 replace H : (impl_set_list.l0 k a0 y1) = some r := bgiq_
 have Ny1 := A0_ hy1
 clear hy1
 have H' := A0_ H
 clear H
 go_enter Tryd.func47, Tryd.ntmps47
 go_wp2_with (first | ((with_reducible refine gd_ (N := 4) rfl ?_); refine Kd.R_lit (Kd.int .i64) _ 3 ?hg (N := 4) ?hd (xs := ([] : List Int)) (inner := []) (ok := fun _ => True) (okp := fun _ => True) ?hr ?hp (fun _ hk => hk) trivial (Below.refl _ _) (Nat.le_refl _) bxka_ ?_; (case hd => rfl); (case hg => rfl); (case hr => go_simp; first | done | rfl); (case hp => exact (Reps.none _ _)); intro v1 w1 ho3 hb hg_ hnew_; clear hg_ hnew_; (first | rw [← Ny1.out] at ho3 | (simp only [Int.reduceToNat] at ho3; rw [← Ny1.out] at ho3)); have HO1 := A0_ (Kd.R_lower ho3 (bz_ brt4_)); replace HB := hb_ hb brt4_; clear hb ho3))
 go_loopg [0, 3] k (fun kq v0 v2 w' => ∃ (x0_1 : Int) (x3_1 : List Int), v0 = .int .u32 x0_1 ∧ Aside0 (impl_set_list.l0 kq x0_1 x3_1 = some r) ∧ Aside0 (kq ≤ k) ∧ Aside0 (Kd.R (Kd.int .i64) 3 w' w.heap.size (fun _ => True) v2 x3_1) ∧ Aside0 (Below w.heap.size w w'))
 case atStart => exact ⟨(a0), (y1), b2ew_, H', ⟨Nat.le_refl _⟩, ⟨bsm5_⟩, ⟨brt4_⟩⟩
 clear H'
 obtain ⟨x0_1, x3_1, rfl, HA, HK1, HO_1, HB⟩ := hrel
 cases gk with | zero => exact absurd HA.out (by simp [impl_set_list.l0]) | succ k1 => ?_
 have H := HA.out
 clear HA
 simp only [impl_set_list.l0] at H
 by_cases c1 : x0_1 = 0
 ·rw [if_pos c1] at H
  obtain ⟨c1b0, c1b1⟩ := et_ c1
  clear c1
  obtain rfl := si_ H
  go_wp2
  go_ret
  exact ⟨_, bnwh_, bwik_, brt4_⟩
 rw [if_neg c1] at H
 obtain ⟨c1b0, c1b1⟩ := ef_ c1
 obtain ⟨t1, A2, H⟩ := o1_ H
 by_cases c2 : x3_1.length < 17592186044416
 case neg =>
  rw [if_neg c2] at H
  exact absurd H bxka_
 rw [if_pos c2] at H
 have LMc1 := A0_ c2
 clear c2
 obtain ⟨y2, hy2⟩ : ∃ y_ : List Int, y_ = (x3_1 ++ [t1]) := ⟨_, rfl⟩
 replace H : (impl_set_list.l0 k1 (Go.bits .and .u32 x0_1 ((x0_1 - 1) % 4294967296)) y2) = some r := bscs_
 have Ny2 := A0_ hy2
 clear hy2
 have H' := A0_ H
 clear H
 go_wp2_with (first | ((with_reducible refine gc_ (f := 74) rfl ?_); refine gl_ 13 Tryd.func74 #[.int .u32 x0_1] ?_; (with_reducible refine (bits_TrailingZeros32.calls x0_1 t1 _ (by first | exact TabOK.below HG0.out brt4_ | (repeat (first | exact HG0.out | apply TabOK.drew | apply TabOK.drewN)) | exact TabOK.drawn HG0.out (by assumption)) A2.out).mono ?_); rintro e w' ⟨rfl, ⟨nd, rfl⟩⟩; refine ⟨_, rfl, ?_⟩) | ((with_reducible refine gate_builtin (b := .append) (xs := #[.tmp 11, .tmp 14]) rfl ?_); at_builtin; refine Kd.R_append (Kd.int .i64) (w0 := w) w.heap.size rfl (.tmp 11) (.tmp 14) 22 3 (.int .i64 0) 8 rfl Tryd.underlying22 info3 rfl bi3y_ bh19_ u3 x3_1 t1 [.int .i64 t1] (fun _ => True) (fun _ => False) rfl rfl ?aP (fun _ hk => hk.elim) ?aF ?aO ?aB ?aS ?aL ?_; (case aP => exact rfl); (case aB => exact brt4_); (case aF => exact (fun _ _ => trivial)); (case aO => exact bwik_); (case aS => exact (bz_ brt4_)); (case aL => have := LMc1.out; omega); intro v3 w2 ho hb hg hat; rw [← Ny2.out] at ho; have n0_ := A0_ (hb); have n1_ := A0_ (ho); clear HB HO_1; have HB := n0_; have HO2 := n1_; clear n0_ n1_ ho hb hg hat))
 go_roundg k1
 case measure => have := HK1.out; omega
 exact ⟨(Go.bits .and .u32 x0_1 ((x0_1 - 1) % 4294967296)), (y2), b2ew_, H', ⟨bxjq_⟩, ⟨b9so_⟩, ⟨brt4_⟩⟩

def impl_stands.f (a0 : Int) (a1 : Int) (a2 : Bool) : Option (Int × Int) := if 0 ≤ a1 then ((impl_set_count.f (Go.bits .and .u32 a0 (((shl .u32 1 a1) - 1) % 4294967296))).bind fun t220 => ((impl_set_count.f (shr .u32 a0 a1)).bind fun t221 => (if a2 = true then (if t221 < t220 then (some (t221, 1)) else (some (t220, 0))) else (some (t220, 0))))) else (none)
theorem impl_stands.calls (a0 : Int) (a1 : Int) (a2 : Bool) (r1 : Int) (r2 : Int) (w : World) (h : impl_stands.f a0 a1 a2 = some (r1, r2)) :
  Calls Tryd.prog 48 #[.int .u32 a0, .int .i64 a1, .bool a2] w fun e w' => e = .returned (.tuple #[.int .i64 r1, .int .i64 r2]) ∧ Drawn0 w w' := by
 have H : (if 0 ≤ a1 then ((impl_set_count.f (Go.bits .and .u32 a0 (((shl .u32 1 a1) - 1) % 4294967296))).bind fun t1 => ((impl_set_count.f (shr .u32 a0 a1)).bind fun t2 => (if a2 = true then (if t2 < t1 then (some (t2, 1)) else (some (t1, 0))) else (some (t1, 0))))) else (none)) = some (r1, r2) := h
 clear h
 by_cases c1 : 0 ≤ a1
 case neg =>
  rw [if_neg c1] at H
  exact absurd H bxka_
 rw [if_pos c1] at H
 have c1b0 := eq_true c1
 have c1b1 : decide (0 ≤ a1) = true := dt_ c1
 clear c1
 obtain ⟨ji1, hji1⟩ : ∃ j_ : Int, (shl .u32 1 a1) = j_ := ⟨_, rfl⟩
 replace H : ((impl_set_count.f (Go.bits .and .u32 a0 (((ji1) - 1) % 4294967296))).bind fun t1 => ((impl_set_count.f (shr .u32 a0 a1)).bind fun t2 => (if a2 = true then (if t2 < t1 then (some (t2, 1)) else (some (t1, 0))) else (some (t1, 0))))) = some (r1, r2) := bmns_
 have hji1_ : (IntKind.u32.wrap (1 * 2 ^ min a1.toNat 32)) = ji1 := hji1
 have hji5z : a1 ≤ 32 → (IntKind.u32.wrap (1 * 2 ^ a1.toNat)) = ji1 := shl_small hji1
 have hji5u : (IntKind.u32.wrap (2 ^ min a1.toNat 32)) = ji1 := by have h_ := hji1_; rw [Int.one_mul] at h_; exact h_
 have hji5v : a1 ≤ 32 → (IntKind.u32.wrap (2 ^ a1.toNat)) = ji1 := fun hle_ => by have h_ := hji5z hle_; rw [Int.one_mul] at h_; exact h_
 obtain ⟨t1, A2, H⟩ := o1_ H
 have c2b0 := eq_true (od_ bpil_ : 0 ≤ a1)
 obtain ⟨ji2, hji2⟩ : ∃ j_ : Int, (shr .u32 a0 a1) = j_ := ⟨_, rfl⟩
 replace H : ((impl_set_count.f (ji2)).bind fun t2 => (if a2 = true then (if t2 < t1 then (some (t2, 1)) else (some (t1, 0))) else (some (t1, 0)))) = some (r1, r2) := b9dm_
 (try rw [hji2] at A2)
 have hji2_ : (a0 / 2 ^ min a1.toNat 32) = ji2 := hji2
 have hji8z : a1 ≤ 32 → (a0 / 2 ^ a1.toNat) = ji2 := shr_small hji2
 obtain ⟨t2, A4, H⟩ := o1_ H
 by_cases c3 : a2 = true
 case neg =>
  obtain rfl := bf_.mpr c3
  rw [if_neg ft_] at H
  simp only [sj_, pj_] at H
  obtain ⟨rfl, rfl⟩ := H
  go_enter Tryd.func48, Tryd.ntmps48
  go_wp2_with (first | ((with_reducible refine gc_ (f := 66) rfl ?_); refine goesL_ (some 15) rfl rfl Tryd.func66 bfqv_ rfl #[.int .u32 (Go.bits .and .u32 a0 (((ji1) - 1) % 4294967296))] rfl bb5l_ ?_; (with_reducible refine (impl_set_count.calls (Go.bits .and .u32 a0 (((ji1) - 1) % 4294967296)) t1 _ A2.out).mono ?_); rintro e w' ⟨rfl, ⟨nd, rfl⟩⟩; refine ⟨_, rfl, ?_⟩) | ((with_reducible refine gc_ (f := 66) rfl ?_); refine goesL_ (some 19) rfl rfl Tryd.func66 bfqv_ rfl #[.int .u32 ji2] rfl by2s_ ?_; (with_reducible refine (impl_set_count.calls ji2 t2 _ A4.out).mono ?_); rintro e w' ⟨rfl, ⟨nd, rfl⟩⟩; refine ⟨_, rfl, ?_⟩))
  go_ret2
  exact ⟨b9t1_, boaj_⟩
 subst c3
 rw [if_pos rfl] at H
 by_cases c4 : t2 < t1
 ·rw [if_pos c4] at H
  have c4b0 : decide (t2 < t1) = true := dt_ c4
  clear c4
  simp only [sj_, pj_] at H
  obtain ⟨rfl, rfl⟩ := H
  go_enter Tryd.func48, Tryd.ntmps48
  go_wp2_with (first | ((with_reducible refine gc_ (f := 66) rfl ?_); refine goesL_ (some 15) rfl rfl Tryd.func66 bfqv_ rfl #[.int .u32 (Go.bits .and .u32 a0 (((ji1) - 1) % 4294967296))] rfl bb5l_ ?_; (with_reducible refine (impl_set_count.calls (Go.bits .and .u32 a0 (((ji1) - 1) % 4294967296)) t1 _ A2.out).mono ?_); rintro e w' ⟨rfl, ⟨nd, rfl⟩⟩; refine ⟨_, rfl, ?_⟩) | ((with_reducible refine gc_ (f := 66) rfl ?_); refine goesL_ (some 19) rfl rfl Tryd.func66 bfqv_ rfl #[.int .u32 ji2] rfl by2s_ ?_; (with_reducible refine (impl_set_count.calls ji2 t2 _ A4.out).mono ?_); rintro e w' ⟨rfl, ⟨nd, rfl⟩⟩; refine ⟨_, rfl, ?_⟩))
  go_ret2
  exact ⟨b9t1_, boaj_⟩
 rw [if_neg c4] at H
 have c4b0 : decide (t2 < t1) = false := decide_eq_false c4
 clear c4
 simp only [sj_, pj_] at H
 obtain ⟨rfl, rfl⟩ := H
 go_enter Tryd.func48, Tryd.ntmps48
 go_wp2_with (first | ((with_reducible refine gc_ (f := 66) rfl ?_); refine goesL_ (some 15) rfl rfl Tryd.func66 bfqv_ rfl #[.int .u32 (Go.bits .and .u32 a0 (((ji1) - 1) % 4294967296))] rfl bb5l_ ?_; (with_reducible refine (impl_set_count.calls (Go.bits .and .u32 a0 (((ji1) - 1) % 4294967296)) t1 _ A2.out).mono ?_); rintro e w' ⟨rfl, ⟨nd, rfl⟩⟩; refine ⟨_, rfl, ?_⟩) | ((with_reducible refine gc_ (f := 66) rfl ?_); refine goesL_ (some 19) rfl rfl Tryd.func66 bfqv_ rfl #[.int .u32 ji2] rfl by2s_ ?_; (with_reducible refine (impl_set_count.calls ji2 t2 _ A4.out).mono ?_); rintro e w' ⟨rfl, ⟨nd, rfl⟩⟩; refine ⟨_, rfl, ?_⟩))
 go_ret2
 exact ⟨b9t1_, boaj_⟩

def impl_LeastStands.lo (S : Int → Option Int) (t : Int) (both : Bool) : List Int → Int → Option Int
 | [], b => some b
 | p :: ps, b => if 0 ≤ p then (impl_stands.f t p both).bind fun s => (S (Go.bits .or .u32 t (shl .u32 1 p))).bind fun m => impl_LeastStands.lo S t both ps (if b < 0 then wrap64 (s.1 + m) else if wrap64 (s.1 + m) < b then wrap64 (s.1 + m) else b) else none
def impl_LeastStands.le (k : Nat) (A : Int) (both : Bool) : Nat → Int → Option Int
 | 0, _ => none
 | d + 1, t => if t = A then some 0 else (impl_set_list.f k (Go.bits .andNot .u32 A t)).bind fun ps => if ps.length ≤ 32 then impl_LeastStands.lo (impl_LeastStands.le k A both d) t both ps (-1) else none
def impl_LeastStands.f (k : Nat) (a0_0 : Int) (a0_1 : Bool) (l0_2 : List Int) (a1 : Bool) : Option (Int × Bool) := (impl_isPublic.f k a0_0 a0_1 l0_2).bind fun b => if b = true then (impl_bench_all.f a0_0 a0_1).bind fun A => (impl_Row_taken.f k a0_0 a0_1 l0_2).bind fun t => if 0 ≤ t ∧ t < 4294967296 then (impl_LeastStands.le k A a1 11 t).bind fun n => some (n, true) else none else some (0, false)
theorem impl_LeastStands.lo_mono {S S' : Int → Option Int} (hS : ∀ t, LeO (S t) (S' t)) (t : Int) (both : Bool) : ∀ ps b, LeO (impl_LeastStands.lo S t both ps b) (impl_LeastStands.lo S' t both ps b)
 | [], _ => LeO.refl _
 | p :: ps, b => by
  simp only [impl_LeastStands.lo]
  exact LeO.ite (LeO.bind (LeO.refl _) (fun _ => LeO.bind (hS _) (fun _ => impl_LeastStands.lo_mono hS t both ps _))) (LeO.refl _)
theorem impl_LeastStands.le_mono (k : Nat) (A : Int) (both : Bool) : ∀ d t, LeO (impl_LeastStands.le k A both d t) (impl_LeastStands.le (k + 1) A both d t)
 | 0, _ => LeO.none _
 | d + 1, t => by
  simp only [impl_LeastStands.le]
  exact LeO.ite (LeO.refl _) (LeO.bind (impl_set_list.mono _ _) fun _ => LeO.ite (impl_LeastStands.lo_mono (impl_LeastStands.le_mono k A both d) _ _ _ _) (LeO.refl _))
theorem impl_LeastStands.le_up (k : Nat) (A : Int) (both : Bool) : ∀ d t, LeO (impl_LeastStands.le k A both d t) (impl_LeastStands.le k A both (d + 1) t)
 | 0, _ => LeO.none _
 | d + 1, t => by
  rw [impl_LeastStands.le, impl_LeastStands.le]
  exact LeO.ite (LeO.refl _) (LeO.bind (LeO.refl _) fun _ => LeO.ite (impl_LeastStands.lo_mono (impl_LeastStands.le_up k A both d) _ _ _ _) (LeO.refl _))
theorem impl_LeastStands.le_add {k : Nat} {A : Int} {both : Bool} {d : Nat} {t v : Int} (h : impl_LeastStands.le k A both d t = some v) : ∀ m, impl_LeastStands.le k A both (d + m) t = some v
 | 0 => h
 | m + 1 => impl_LeastStands.le_up k A both (d + m) t v (impl_LeastStands.le_add h m)
theorem impl_LeastStands.le_same {k : Nat} {A : Int} {both : Bool} {d d' : Nat} {t v v' : Int} (h : impl_LeastStands.le k A both d t = some v) (h' : impl_LeastStands.le k A both d' t = some v') : v = v' := by
 have h1 := impl_LeastStands.le_add h d'
 have h2 := impl_LeastStands.le_add h' d
 rw [Nat.add_comm] at h2
 exact si_ (h1.symm.trans h2)
theorem impl_LeastStands.mono : ∀ a0 a1 a2 a3 k, LeO (impl_LeastStands.f k a0 a1 a2 a3) (impl_LeastStands.f (k + 1) a0 a1 a2 a3) := by
 intro a0 a1 a2 a3 k
 unfold impl_LeastStands.f
 exact LeO.bind (impl_isPublic.mono _ _ _ _) fun _ => LeO.ite (LeO.bind (LeO.refl _) fun _ => LeO.bind (impl_Row_taken.mono _ _ _ _) fun _ => LeO.ite (LeO.bind (impl_LeastStands.le_mono _ _ _ _ _) fun _ => LeO.refl _) (LeO.refl _)) (LeO.refl _)
def impl_LeastStands.U : Nat → Nat
 | 0 => 0
 | d + 1 => 32 * impl_LeastStands.U d + 1
theorem impl_LeastStands.law : Maps.Keyed Tryd.prog 61 := Maps.int_keyed Tryd.underlying61
theorem impl_LeastStands.zeroE (w : World) : (zeroValue 3).run Tryd.prog w = .ok (.int .i64 0) w := by rfl
theorem impl_LeastStands.grown {w w' : World} (h : Below w.heap.size w w') (row : Option Nat) : w.grownBy w' row := ⟨h.os, h.tape, h.output, h.size, fun k hk _ => h.block k hk⟩
theorem impl_LeastStands.gate_insert {P : Program} {ops : Array Oper} {rest : List Oper} {o : Oper} {a : Act} {W : World} {Q : Exit → Act → World → Prop} {t : TypeId} {m k v : Operand} (_ho : o.op = .insert t m k v) (h : wpList P ops Q (o :: rest) a W) : wpList P ops Q (o :: rest) a W := h
/-- A map literal's entry. -/
theorem impl_LeastStands.insert_own {H : Type} {P : Program} (w : World) {ops : Array Oper} {rest : List Oper} {o : Oper} {a : Act} {Q : Exit → Act → World → Prop}
  (hg : o.guard = none) (m x v : Operand) (t : TypeId) (hop : o.op = Op.insert t m x v)
  (k e : TypeId) (K : Maps.Keyed P k) (ht : P.underlying t = some (.map k e)) (R : Value → Option (DataW H × List MemPlace)) (b n : Nat) (D : DataW H)
  (hm : a.eval m = .map (some b)) (hown : w.ownsMap P k R b n D) (hn : n < maxLen) (key val : Value) (kl : Lit) (hx : a.eval x = key) (hv : a.eval v = val) (hkey : keyOf P k key = some kl)
  (d : DataW H) (ps : List MemPlace) (hval : R val = some (d, ps))
  (hK : ∀ w', w'.ownsMap P k R b (n + 1) (D.put kl d) → w.grownBy w' (some b) → wpList P ops Q rest (a.put o.dst undef) w') :
  wpList P ops Q (o :: rest) a w := by
 refine wpList_plain hg fun K' hK' => ?_
 obtain ⟨w', hrun, r1, r2⟩ := hown.update K ht hn hkey hval
 unfold Oper.wp
 simp [execOp, hop, hm, hx, hv, hrun, Result.andThen]
 exact hK' _ _ (hK w' r1 r2)
structure impl_LeastStands.Inv (k : Nat) (A : Int) (both : Bool) (a0 : Int) (a1 : Bool) (A0 : Option Addr) (c0 : Nat) (l : List Int) (bm bv br bb bl : Nat) (w0 : World) (n : Nat) (w : World) : Prop where
 below : Below w0.heap.size w0 w
 hm : w0.heap.size ≤ bm
 cv : w.heap[bv]? = some (.cells #[.map (some bm)] 85 (0, 0))
 cr : w.heap[br]? = some (.cells #[.int .i64 a0, .bool a1, .slice A0 l.length c0] 28 (0, 0))
 cb : w.heap[bb]? = some (.cells #[.bool both] 4 (0, 0))
 cl : w.heap[bl]? = some (.cells #[.func (.func 67) #[] #[.pointer (some ⟨bv, 0, none⟩), .pointer (some ⟨br, 0, none⟩), .pointer (some ⟨bb, 0, none⟩), .pointer (some ⟨bl, 0, none⟩)]] 58 (0, 0))
 map : ∃ D : DataW Unit, w.ownsMap Tryd.prog 61 (plainElem Tryd.prog 3) bm n D ∧ Maps.has D (.int .u32 A) = true ∧
  ∀ t c, Maps.has D (.int .u32 t) = true → D.atKey (.int .u32 t) (.lit (.int .i64 0)) = .lit (.int .i64 c) → ∃ d, impl_LeastStands.le k A both d t = some c
section
variable {k : Nat} {A : Int} {both : Bool} {a0 : Int} {a1 : Bool} {A0 : Option Addr} {c0 : Nat} {l : List Int} {bm bv br bb bl : Nat} {w0 : World} {n : Nat} {w w' : World}
theorem impl_LeastStands.ne_map {H : Type} {P : Program} {q : TypeId} {R : Value → Option (DataW H × List MemPlace)} {D : DataW H} {g : Nat} {cs : Array Value} {t : TypeId} (h : w.ownsMap P q R bm n D) (hc : w.heap[g]? = some (.cells cs t (0, 0))) : some g ≠ some bm := by
 rintro e
 obtain rfl := si_ e
 obtain ⟨es, clock, hb, _⟩ := h
 rw [hb] at hc
 cases hc
theorem impl_LeastStands.Inv.turn (h : impl_LeastStands.Inv k A both a0 a1 A0 c0 l bm bv br bb bl w0 n w) (hg : w.grownBy w' (some bm)) {n' : Nat}
  (hmap : ∃ D : DataW Unit, w'.ownsMap Tryd.prog 61 (plainElem Tryd.prog 3) bm n' D ∧ Maps.has D (.int .u32 A) = true ∧
   ∀ t c, Maps.has D (.int .u32 t) = true → D.atKey (.int .u32 t) (.lit (.int .i64 0)) = .lit (.int .i64 c) → ∃ d, impl_LeastStands.le k A both d t = some c) :
  impl_LeastStands.Inv k A both a0 a1 A0 c0 l bm bv br bb bl w0 n' w' := by
 obtain ⟨D, hown, _⟩ := h.map
 exact ⟨h.below.grown hg h.below.size (fun j hj => by cases hj; exact h.hm), h.hm, blk_grown h.cv hg (impl_LeastStands.ne_map hown h.cv), blk_grown h.cr hg (impl_LeastStands.ne_map hown h.cr), blk_grown h.cb hg (impl_LeastStands.ne_map hown h.cb), blk_grown h.cl hg (impl_LeastStands.ne_map hown h.cl), hmap⟩
theorem impl_LeastStands.Inv.step (h : impl_LeastStands.Inv k A both a0 a1 A0 c0 l bm bv br bb bl w0 n w) (hb : Below w.heap.size w w') : impl_LeastStands.Inv k A both a0 a1 A0 c0 l bm bv br bb bl w0 n w' := by
 obtain ⟨D, hown, h1, h2⟩ := h.map
 exact h.turn (impl_LeastStands.grown hb _) ⟨D, hown.kept (impl_LeastStands.grown hb none) bxka_, h1, h2⟩
theorem impl_LeastStands.Inv.up (h : impl_LeastStands.Inv k A both a0 a1 A0 c0 l bm bv br bb bl w0 n w) {n' : Nat} (hn : n ≤ n') : impl_LeastStands.Inv k A both a0 a1 A0 c0 l bm bv br bb bl w0 n' w := by
 obtain ⟨D, hown, h1, h2⟩ := h.map
 exact ⟨h.below, h.hm, h.cv, h.cr, h.cb, h.cl, D, hown.mono hn, h1, h2⟩
end
theorem impl_LeastStands.put_ok {D : DataW Unit} (hD : Maps.IsMap D) {t0 v : Int} (hkl : WideAt.IsKeyLit (.int .u32 t0)) {Pv : Int → Int → Prop}
  (h : ∀ t c, Maps.has D (.int .u32 t) = true → D.atKey (.int .u32 t) (.lit (.int .i64 0)) = .lit (.int .i64 c) → Pv t c) (hv : Pv t0 v) :
  ∀ t c, Maps.has (D.put (.int .u32 t0) (.lit (.int .i64 v))) (.int .u32 t) = true → (D.put (.int .u32 t0) (.lit (.int .i64 v))).atKey (.int .u32 t) (.lit (.int .i64 0)) = .lit (.int .i64 c) → Pv t c := by
 intro t c hh hat
 by_cases e : t = t0
 ·subst e
  rw [Maps.atKey_put_same hD hkl] at hat
  injection hat with hat
  injection hat with _ hat
  exact hat ▸ hv
 ·have hne : Lit.int .u32 t ≠ Lit.int .u32 t0 := fun h => e (by injection h)
  rw [Maps.has_put_other hne] at hh
  rw [Maps.atKey_put_other hne] at hat
  exact h t c hh hat
set_option maxHeartbeats 4000000 in
set_option maxRecDepth 100000 in
/-- The function that is made: its own memory holds, of every set that is known, the least sum. -/
theorem impl_LeastStands.made (k : Nat) (A : Int) (both : Bool) (a0 : Int) (a1 : Bool) (A0 : Option Addr) (c0 : Nat) (l : List Int) (w : World) (hR : Kd.C (Kd.int .i64) w A0 l.length l) (hc : l.length ≤ c0) (hA : impl_bench_all.f a0 a1 = some A) (hA0 : 0 ≤ A) (hA1 : A < 4294967296) :
  Calls Tryd.prog 40 #[.agg #[.int .i64 a0, .bool a1, .slice A0 l.length c0], .bool both] w fun e w' => ∃ bm bv br bb bl, e = .returned (.func (.func 67) #[] #[.pointer (some ⟨bv, 0, none⟩), .pointer (some ⟨br, 0, none⟩), .pointer (some ⟨bb, 0, none⟩), .pointer (some ⟨bl, 0, none⟩)]) ∧
   impl_LeastStands.Inv k A both a0 a1 A0 c0 l bm bv br bb bl w 1 w' := by
 have hmm := @run_makeMap Tryd.prog
 have hwfA : (Lit.int .u32 A).wf = true := by
  have hmin : IntKind.u32.min = 0 := rfl
  have hmax : IntKind.u32.max = 4294967295 := rfl
  simp only [Lit.wf, Bool.and_eq_true, decide_eq_true_eq]
  omega
 have hkey : keyOf Tryd.prog 61 (.int .u32 A) = some (.int .u32 A) := Maps.keyOf_int_mk Tryd.underlying61 hwfA
 have hB : Below w.heap.size w w := Below.refl _ _
 go_enter Tryd.func40, Tryd.ntmps40
 go_wp2_with (first
  | ((with_reducible refine gc_ (f := 45) rfl ?_); refine gl_ 9 Tryd.func45 #[.agg #[.int .i64 a0, .bool a1, .slice A0 l.length c0]] ?_; refine (impl_Row_bench.calls a0 a1 _ _ l a0 a1 _ (by repeat (first | exact hR | refine ca_ ?_ _ | refine cn_ ?_ _ | refine cd_ ?_)) hc rfl).mono ?_; rintro e w1 ⟨rfl, hb3⟩; refine ⟨_, rfl, ?_⟩)
  | ((with_reducible refine gc_ (f := 46) rfl ?_); refine gl_ 10 Tryd.func46 #[.agg #[.int .i64 a0, .bool a1]] ?_; refine (impl_bench_all.calls a0 a1 A _ hA).mono ?_; rintro e w2 ⟨rfl, hb4⟩; have hown : w2.ownsMap Tryd.prog 61 (plainElem Tryd.prog 3) (w.heap.size + 1 + 1) 0 (DataW.map [] : DataW Unit) := (by simpa using (((World.ownsMap_made (H := Unit) ((w.alloc (Obj.cells #[.int .i64 a0, .bool a1, .slice A0 l.length c0] 28)).alloc (Obj.cells #[.bool both] 4)) Tryd.prog 61 (plainElem Tryd.prog 3)).kept (impl_LeastStands.grown hb3 none) bxka_).kept (impl_LeastStands.grown hb4 none) bxka_)); refine ⟨_, rfl, ?_⟩)
  | ((with_reducible refine impl_LeastStands.gate_insert rfl ?_); refine impl_LeastStands.insert_own _ rfl _ _ _ 85 rfl 61 3 impl_LeastStands.law Tryd.underlying85 _ (w.heap.size + 1 + 1) 0 _ b139_ hown (by unfold maxLen; omega) _ _ (.int .u32 A) b139_ b139_ hkey (.lit (.int .i64 0)) [] (plainElem_int Tryd.underlying3 bi3y_) ?_; intro w3 hown5 hg5; have hbw := ((((ba_ (ba_ (ba_ (Below.refl w.heap.size w) (Obj.cells #[.int .i64 a0, .bool a1, .slice A0 l.length c0] 28)) (Obj.cells #[.bool both] 4)) (Obj.map #[] 0))))); have hbw4 := bt_ (bt_ hbw hb3) hb4; have hr5 := blk_grown (kb_ (kb_ (ka_ (ka_ (blk_new w (Obj.cells #[.int .i64 a0, .bool a1, .slice A0 l.length c0] 28)) (Obj.cells #[.bool both] 4)) (Obj.map #[] 0)) hb3) hb4) hg5 (by simp; omega); have hbb5 := blk_grown (kb_ (kb_ (ka_ (blk_new (w.alloc (Obj.cells #[.int .i64 a0, .bool a1, .slice A0 l.length c0] 28)) (Obj.cells #[.bool both] 4)) (Obj.map #[] 0)) hb3) hb4) hg5 bxka_; have hbw5 : Below w.heap.size w w3 := hbw4.grown hg5 hbw4.size (fun j hj => by cases hj; omega)))
 go_ret
 have hlt := hown5.lt
 have hs1 : (w3.alloc (Obj.cells #[.map (some (w.heap.size + 1 + 1))] 85)).heap.size = w3.heap.size + 1 := by simp
 refine ⟨w.heap.size + 1 + 1, w3.heap.size, w.heap.size, w.heap.size + 1, w3.heap.size + 1, rfl, ba_ (ba_ hbw5 _) _, bh19_, ka_ (blk_new w3 _) _, ka_ (ka_ hr5 _) _, ?_, ?_, _, (hown5.alloc _).alloc _, Maps.has_put_same ⟨_, rfl⟩ (impl_LeastStands.law.key hkey) _, impl_LeastStands.put_ok ⟨_, rfl⟩ (impl_LeastStands.law.key hkey) (fun t c hh => by simp [Maps.has] at hh) ⟨1, by simp [impl_LeastStands.le]⟩⟩
 ·exact ka_ (ka_ (by simpa using hbb5) _) _
 ·rw [← hs1]; exact blk_new _ _
/-- The function that is made, called: the least sum of a set; what it knows grows by sums that are right. -/
theorem impl_LeastStands.least (k : Nat) (A : Int) (both : Bool) (a0 : Int) (a1 : Bool) (A0 : Option Addr) (c0 : Nat) (l : List Int) (bm bv br bb bl : Nat) (w0 : World) (hG : TabOK w0) (hR : Kd.C (Kd.int .i64) w0 A0 l.length l) (hc : l.length ≤ c0) (hA : impl_bench_all.f a0 a1 = some A) :
  ∀ (d : Nat) (t v : Int) (n : Nat) (w : World), impl_LeastStands.le k A both d t = some v → 0 ≤ t → t < 4294967296 → impl_LeastStands.Inv k A both a0 a1 A0 c0 l bm bv br bb bl w0 n w → n + impl_LeastStands.U d < maxLen →
   Calls Tryd.prog 67 #[.int .u32 t, .pointer (some ⟨bv, 0, none⟩), .pointer (some ⟨br, 0, none⟩), .pointer (some ⟨bb, 0, none⟩), .pointer (some ⟨bl, 0, none⟩)] w fun e w' => e = .returned (.int .i64 v) ∧ impl_LeastStands.Inv k A both a0 a1 A0 c0 l bm bv br bb bl w0 (n + impl_LeastStands.U d) w' ∧ w.grownBy w' (some bm) := by
 intro d
 induction d with
 | zero => intro t v n w h; exact absurd h (by simp [impl_LeastStands.le])
 | succ d ih =>
  intro t v n w h ht0 ht1 hi hn
  obtain ⟨D, hmap, hall, hval⟩ := hi.map
  have hwf : (Lit.int .u32 t).wf = true := by
   have hmin : IntKind.u32.min = 0 := rfl
   have hmax : IntKind.u32.max = 4294967295 := rfl
   simp only [Lit.wf, Bool.and_eq_true, decide_eq_true_eq]
   omega
  have hkey : keyOf Tryd.prog 61 (.int .u32 t) = some (.int .u32 t) := Maps.keyOf_int_mk Tryd.underlying61 hwf
  have cv : w.cell? ⟨bv, 0, none⟩ = some (.map (some bm)) := (kc_ hi.cv 0).trans rfl
  by_cases hh : Maps.has D (.int .u32 t) = true
  ·go_enter Tryd.func67, Tryd.ntmps67
   go_wp2_with (at_lookup; refine wpList_lookup_own_ok_int _ rfl _ _ 85 rfl 61 3 .i64 impl_LeastStands.law Tryd.underlying85 Tryd.underlying3 (impl_LeastStands.zeroE _) bm n D rfl hmap _ _ rfl hkey ?_; intro c hat hwc)
   go_ret
   obtain ⟨d', hd'⟩ := hval t c hh hat
   exact ⟨by rw [impl_LeastStands.le_same h hd']; rfl, hi.up (Nat.le_add_right _ _), World.grownBy.refl _ _⟩
  ·have hA' : t ≠ A := by rintro rfl; exact hh hall
   have hh' : Maps.has D (.int .u32 t) = false := by simpa using hh
   clear hh
   have h0 := h
   simp only [impl_LeastStands.le, if_neg hA'] at h
   obtain ⟨ps, hps, h⟩ := ob_.mp h
   by_cases hl : ps.length ≤ 32
   ·rw [if_pos hl] at h
    have cr0 : w.cell? ⟨br, 0, none⟩ = some (.int .i64 a0) := (kc_ hi.cr 0).trans rfl
    have cr1 : w.cell? ⟨br, 1, none⟩ = some (.bool a1) := (kc_ hi.cr 1).trans rfl
    have cr2 : w.cell? ⟨br, 2, none⟩ = some (.slice A0 l.length c0) := (kc_ hi.cr 2).trans rfl
    go_enter Tryd.func67, Tryd.ntmps67
    go_wp2_with (first
     | (at_lookup; refine wpList_lookup_own_ok_int _ rfl _ _ 85 rfl 61 3 .i64 impl_LeastStands.law Tryd.underlying85 Tryd.underlying3 (impl_LeastStands.zeroE _) bm n D rfl hmap _ _ rfl hkey ?_; intro c hat hwc)
     | ((with_reducible refine gc_ (f := 45) rfl ?_); refine gl_ 23 Tryd.func45 #[.agg #[.int .i64 a0, .bool a1, .slice A0 l.length c0]] ?_; refine (impl_Row_bench.calls a0 a1 _ _ l a0 a1 _ (cb_ hR hi.below) hc rfl).mono ?_; rintro e w1 ⟨rfl, hb3⟩; refine ⟨_, rfl, ?_⟩)
     | ((with_reducible refine gc_ (f := 46) rfl ?_); refine gl_ 24 Tryd.func46 #[.agg #[.int .i64 a0, .bool a1]] ?_; refine (impl_bench_all.calls a0 a1 A _ hA).mono ?_; rintro e w2 ⟨rfl, hb4⟩; refine ⟨_, rfl, ?_⟩)
     | ((with_reducible refine gc_ (f := 47) rfl ?_); refine gl_ 27 Tryd.func47 #[.int .u32 (Go.bits .andNot .u32 A t)] ?_; refine (impl_set_list.calls k _ ps _ (TabOK.below hG (bt_ (bt_ hi.below hb3) hb4)) hps).mono ?_; rintro e w3 ⟨v1, rfl, ho, hb5⟩; obtain ⟨Ao, co, rfl⟩ := Kd.R_slice ho; have hbw := bt_ (bt_ hb3 hb4) hb5; have hi5 := hi.step hbw; have hRo := Kd.R_mono (ok' := fun q => some q ≠ some bm) (Kd.R_bound ho) (fun q hq e => by have h1 := hmap.lt; have h2 := hb3.size; have h3 := hb4.size; have h4 := hq.2.1; have h5 := si_ e; omega); refine ⟨_, rfl, ?_⟩))
    go_loopw [9, 29] (fun v2 v3 wr => ∃ (j : Nat) (b : Int), v2 = .int .i64 b ∧ v3 = .int .i64 (j : Int) ∧ j ≤ ps.length ∧ impl_LeastStands.lo (impl_LeastStands.le k A both d) t both (ps.drop j) b = some v ∧ (Lit.int .i64 b).wf = true ∧ impl_LeastStands.Inv k A both a0 a1 A0 c0 l bm bv br bb bl w0 (n + j * impl_LeastStands.U d) wr ∧ Kd.R (Kd.int .i64) 3 wr w2.heap.size (fun q => some q ≠ some bm) (.slice Ao ps.length co) ps ∧ w3.grownBy wr (some bm)) (fun _ v3 _ => ps.length - (intOf v3).toNat)
    case atStart => exact ⟨0, -1, rfl, rfl, Nat.zero_le _, by rw [List.drop_zero]; exact h, bi3y_, by rw [Nat.zero_mul]; exact hi5, hRo, World.grownBy.refl _ _⟩
    case round =>
     obtain ⟨j, b, rfl, rfl, hj, hlo, hwb, hij, hRj, hgj⟩ := hrel
     by_cases hjl : j < ps.length
     ·have p1 : (0 : Int) ≤ (j : Int) := Int.natCast_nonneg _
      have q1 : (j : Int) < (ps.length : Int) := by omega
      obtain ⟨ad, e, hx⟩ := Kd.at_int (rr_ hRj).2.2 (j : Int) p1 q1
      cases e
      have hrd : rd ps (j : Int) = ps[j] := by simp [rd, hjl]
      obtain ⟨p, hp⟩ : ∃ p, rd ps (j : Int) = p := ⟨_, rfl⟩
      rw [hp] at hx hrd
      rw [List.drop_eq_getElem_cons hjl, ← hrd] at hlo
      clear hrd hp
      have hx' : wr.cell? (ad.add j) = some (.int .i64 p) := by simpa using hx
      simp only [impl_LeastStands.lo] at hlo
      have p2 : 0 ≤ p := by
       by_cases p2 : 0 ≤ p
       ·exact p2
       ·rw [if_neg p2] at hlo
        cases hlo
      rw [if_pos p2] at hlo
      obtain ⟨⟨s1, s2⟩, hs, hlo1⟩ := ob_.mp hlo
      obtain ⟨m, hm, hlo2⟩ := ob_.mp hlo1
      clear hlo hlo1
      replace hlo := hlo2
      clear hlo2
      have cb : wr.cell? ⟨bb, 0, none⟩ = some (.bool both) := (kc_ hij.cb 0).trans rfl
      replace p1 := eq_true p1
      have q1b := eq_true q1
      have p0b := eq_true p2
      go_wp2_with (first | ((with_reducible refine gc_ (f := 48) rfl ?_); refine gl_ 37 Tryd.func48 #[.int .u32 t, .int .i64 p, .bool both] ?_; refine (impl_stands.calls t p both s1 s2 _ hs).mono ?_; rintro e w4 ⟨rfl, ⟨nd, rfl⟩⟩; refine ⟨_, rfl, ?_⟩))
      have hi8 := hij.step (Below.drew (bn_ (Below.refl wr.heap.size wr) nd))
      refine start_ (n := 9) (S := fun w' => w'.cell? ⟨bl, 0, none⟩ = some (.func (.func 67) #[] #[.pointer (some ⟨bv, 0, none⟩), .pointer (some ⟨br, 0, none⟩), .pointer (some ⟨bb, 0, none⟩), .pointer (some ⟨bl, 0, none⟩)])) (ds := []) #[false, false, false, false, false, false, false, false, false] bfqv_ rfl rfl ((kc_ hi8.cl 0).trans rfl) (fun hHeld => ?_)
      refine pu_ 0 40 ?_
      refine pu_ 2 42 ?_
      refine pu_ 3 43 ?_
      refine tk_ 1 41 hHeld ?_
      refine pu_ 4 44 ?_
      refine pu_ 5 45 ?_
      refine on_ 6 (some 46) (fun K hK => ?_)
      have hsh : shl .u32 1 p = IntKind.u32.wrap (2 ^ min p.toNat 32) := by
       unfold shl
       rw [Int.one_mul]
       rfl
      rw [hsh] at hm
      have hor : 0 ≤ Go.bits .or .u32 t (IntKind.u32.wrap (2 ^ min p.toNat 32)) ∧ Go.bits .or .u32 t (IntKind.u32.wrap (2 ^ min p.toNat 32)) < 4294967296 := by
       unfold Go.bits
       simp only [IntKind.wrap_u32]
       omega
      have hU : j * impl_LeastStands.U d + impl_LeastStands.U d ≤ 32 * impl_LeastStands.U d := by
       rw [← Nat.succ_mul]
       exact Nat.mul_le_mul_right _ bh19_
      have hUd : impl_LeastStands.U (d + 1) = 32 * impl_LeastStands.U d + 1 := rfl
      refine call_ 67 #[.int .u32 (Go.bits .or .u32 t (IntKind.u32.wrap (2 ^ min p.toNat 32))), .pointer (some ⟨bv, 0, none⟩), .pointer (some ⟨br, 0, none⟩), .pointer (some ⟨bb, 0, none⟩), .pointer (some ⟨bl, 0, none⟩)] b139_ rfl ?_ ?_
      ·have he := enters_ (P := Tryd.prog) Tryd.func67 bfqv_ rfl #[.int .u32 (Go.bits .or .u32 t (IntKind.u32.wrap (2 ^ min p.toNat 32))), .pointer (some ⟨bv, 0, none⟩), .pointer (some ⟨br, 0, none⟩), .pointer (some ⟨bb, 0, none⟩), .pointer (some ⟨bl, 0, none⟩)] (wr.drewN nd).drew
       unfold execOp
       simp [resolve, Deferred.ofValue, invoke, Act.eval, he]
      refine (ih _ m (n + j * impl_LeastStands.U d) _ hm hor.1 hor.2 hi8 bh19_).mono ?_
      rintro e w5 ⟨rfl, hi9, hg9⟩
      refine ⟨_, rfl, ?_⟩
      have hR9 := Kd.R_grown (rd_ (rn_ hRj nd)) hg9 (fun _ hq => hq)
      have hg19 : w3.grownBy w5 (some bm) := (hgj.trans (impl_LeastStands.grown (Below.drew (bn_ (Below.refl wr.heap.size wr) nd)) (some bm))).trans hg9
      refine hK.out _ _ ((kc_ hi9.cl 0).trans rfl) (fun hHeld => ?_)
      clear hK K
      refine nm_ 46 ?_
      refine pu_ 7 47 ?_
      refine pu_ 8 12 ?_
      refine done_ bfqv_ ?_
      by_cases b0 : b < 0
      ·rw [if_pos b0] at hlo
       have b0b : decide (b < 0) = true := dt_ b0
       go_wp2
       go_roundw
       case rel => exact ⟨j + 1, (wrap64 (s1 + m)), rfl, bxka_, bh19_, hlo, wrap64_wf _, bzdt_, hR9, hg19⟩
       case measure => simp [intOf]; omega
      ·rw [if_neg b0] at hlo
       have b0b : decide (b < 0) = false := decide_eq_false b0
       by_cases b1 : wrap64 (s1 + m) < b
       ·rw [if_pos b1] at hlo
        have b1b : decide (wrap64 (s1 + m) < b) = true := dt_ b1
        go_wp2
        go_roundw
        case rel => exact ⟨j + 1, (wrap64 (s1 + m)), rfl, bxka_, bh19_, hlo, wrap64_wf _, bzdt_, hR9, hg19⟩
        case measure => simp [intOf]; omega
       ·rw [if_neg b1] at hlo
        have b1b : decide (wrap64 (s1 + m) < b) = false := decide_eq_false b1
        go_wp2
        go_roundw
        case rel => exact ⟨j + 1, b, rfl, bxka_, bh19_, hlo, hwb, bzdt_, hR9, hg19⟩
        case measure => simp [intOf]; omega
     ·have hje : j = ps.length := by omega
      subst hje
      rw [List.drop_length] at hlo
      simp only [impl_LeastStands.lo, sj_] at hlo
      subst hlo
      obtain ⟨D', hmap', hall', hval'⟩ := hij.map
      have cv' : wr.cell? ⟨bv, 0, none⟩ = some (.map (some bm)) := (kc_ hij.cv 0).trans rfl
      have hU : ps.length * impl_LeastStands.U d ≤ 32 * impl_LeastStands.U d := Nat.mul_le_mul_right _ hl
      have hUd : impl_LeastStands.U (d + 1) = 32 * impl_LeastStands.U d + 1 := rfl
      go_wp2_with (at_mapUpdate; refine wpList_mapUpdate_own _ rfl _ _ _ 85 rfl 61 3 impl_LeastStands.law Tryd.underlying85 _ bm (n + ps.length * impl_LeastStands.U d) D' rfl hmap' bh19_ _ _ _ rfl rfl hkey _ [] (plainElem_int Tryd.underlying3 hwb) ?_; intro w4 hmap6 hg6)
      go_ret
      refine ⟨rfl, hij.turn hg6 ⟨_, hmap6.mono bh19_, ?_, impl_LeastStands.put_ok hmap'.isMap (impl_LeastStands.law.key hkey) hval' ⟨d + 1, h0⟩⟩, (impl_LeastStands.grown hbw (some bm)).trans (hgj.trans hg6)⟩
      rw [Maps.has_put_other (fun e => hA' (by injection e with _ e; exact e.symm))]
      exact hall'
   ·rw [if_neg hl] at h
    cases h
set_option maxHeartbeats 4000000 in
set_option maxRecDepth 100000 in
theorem impl_LeastStands.calls (k : Nat) (a0_0 : Int) (a0_1 : Bool) (A0_2 : Option Addr) (c0_2 : Nat) (l0_2 : List Int) (a1 : Bool) (r1 : Int) (r2 : Bool) (w : World) (hr0_2 : Kd.C (Kd.int .i64) w A0_2 l0_2.length l0_2) (hc0_2 : l0_2.length ≤ c0_2) (hG : TabOK w) (h : impl_LeastStands.f k a0_0 a0_1 l0_2 a1 = some (r1, r2)) :
  Calls Tryd.prog 9 #[.agg #[.int .i64 a0_0, .bool a0_1, .slice A0_2 l0_2.length c0_2], .bool a1] w fun e w' => e = .returned (.tuple #[.int .i64 r1, .bool r2]) ∧ Below w.heap.size w w' := by
 have HG0 := A0_ hG
 clear hG
 obtain ⟨b, hb, h1⟩ := ob_.mp (show (impl_isPublic.f k a0_0 a0_1 l0_2).bind _ = some (r1, r2) from h)
 clear h
 by_cases hbt : b = true
 case neg =>
  have hbf : b = false := by simpa using hbt
  subst hbf
  rw [if_neg bxka_] at h1
  simp only [sj_, pj_] at h1
  obtain ⟨rfl, rfl⟩ := h1
  go_enter Tryd.func9, Tryd.ntmps9
  go_wp2_with (first | ((with_reducible refine gc_ (f := 39) rfl ?_); refine gl_ 7 Tryd.func39 #[.agg #[.int .i64 a0_0, .bool a0_1, .slice A0_2 l0_2.length c0_2]] ?_; refine (impl_isPublic.calls k a0_0 a0_1 _ _ l0_2 false _ b2tp_ hc0_2 hb).mono ?_; rintro e w1 ⟨rfl, hb3⟩; refine ⟨_, rfl, ?_⟩))
  go_ret2
  exact ⟨rfl, bt_ (ba_ (Below.refl _ _) _) hb3⟩
 subst hbt
 rw [if_pos rfl] at h1
 obtain ⟨A, hA, h2⟩ := ob_.mp h1
 obtain ⟨T, hT, h3⟩ := ob_.mp h2
 clear h1 h2
 by_cases hTr : 0 ≤ T ∧ T < 4294967296
 case neg =>
  rw [if_neg hTr] at h3
  cases h3
 rw [if_pos hTr] at h3
 obtain ⟨n, hn, h4⟩ := ob_.mp h3
 simp only [sj_, pj_] at h4
 obtain ⟨rfl, rfl⟩ := h4
 have hAr : 0 ≤ A ∧ A < 4294967296 := by
  unfold impl_bench_all.f at hA
  split at hA
  ·have := si_ hA
   omega
  ·cases hA
 go_enter Tryd.func9, Tryd.ntmps9
 go_wp2_with (first | ((with_reducible refine gc_ (f := 39) rfl ?_); refine gl_ 7 Tryd.func39 #[.agg #[.int .i64 a0_0, .bool a0_1, .slice A0_2 l0_2.length c0_2]] ?_; refine (impl_isPublic.calls k a0_0 a0_1 _ _ l0_2 true _ b2tp_ hc0_2 hb).mono ?_; rintro e w1 ⟨rfl, hb3⟩; refine ⟨_, rfl, ?_⟩))
 have hbw3 : Below w.heap.size w w1 := bt_ (ba_ (Below.refl _ _) _) hb3
 have hrw3 : w1.heap[w.heap.size]? = some (.cells #[.int .i64 a0_0, .bool a0_1, .slice A0_2 l0_2.length c0_2] 28 (0, 0)) := kb_ (blk_new w _) hb3
 refine start_ (n := 8) (S := fun w' => w'.cell? ⟨w.heap.size, 0, none⟩ = some (.int .i64 a0_0) ∧ w'.cell? ⟨w.heap.size, 1, none⟩ = some (.bool a0_1) ∧ w'.cell? ⟨w.heap.size, 2, none⟩ = some (.slice A0_2 l0_2.length c0_2)) (ds := []) #[false, false, false, false, false, false, false, false] bfqv_ rfl rfl ⟨(kc_ (kd_ hrw3) 0).trans rfl, (kc_ (kd_ hrw3) 1).trans rfl, (kc_ (kd_ hrw3) 2).trans rfl⟩ (fun hHeld => ?_)
 refine pu_ 1 10 ?_
 refine tk_ 0 9 hHeld ?_
 refine tk_ 3 12 hHeld ?_
 refine on_ 2 (some 11) (fun K hK => ?_)
 refine gs_ Tryd.func40 #[.agg #[.int .i64 a0_0, .bool a0_1, .slice A0_2 l0_2.length c0_2], .bool a1] ?_
 have hbw4 : Below w.heap.size w w1.drew := Below.drew hbw3
 refine (impl_LeastStands.made k A a1 a0_0 a0_1 A0_2 c0_2 l0_2 _ (cb_ hr0_2 hbw4) hc0_2 hA hAr.1 hAr.2).mono ?_
 rintro e w2 ⟨bm, bv, br, bb, bl, rfl, hi5⟩
 refine ⟨_, rfl, ?_⟩
 have hrw5 : w2.heap[w.heap.size]? = some (.cells #[.int .i64 a0_0, .bool a0_1, .slice A0_2 l0_2.length c0_2] 28 (0, 0)) := kb_ (kd_ hrw3) hi5.below
 refine hK.out _ _ ⟨(kc_ hrw5 0).trans rfl, (kc_ hrw5 1).trans rfl, (kc_ hrw5 2).trans rfl⟩ (fun hHeld => ?_)
 clear hK K
 refine nm_ 11 ?_
 refine on_ 4 (some 13) (fun K hK => ?_)
 refine gs_ Tryd.func41 #[.agg #[.int .i64 a0_0, .bool a0_1, .slice A0_2 l0_2.length c0_2]] ?_
 refine (impl_Row_taken.calls k a0_0 a0_1 _ _ l0_2 T _ (cb_ hr0_2 (bt_ hbw4 hi5.below)) hc0_2 hT).mono ?_
 rintro e w3 ⟨rfl, hb6⟩
 refine ⟨_, rfl, ?_⟩
 have hrw6 : w3.heap[w.heap.size]? = some (.cells #[.int .i64 a0_0, .bool a0_1, .slice A0_2 l0_2.length c0_2] 28 (0, 0)) := kb_ hrw5 hb6
 have hi6 := hi5.step hb6
 refine hK.out _ _ ⟨(kc_ hrw6 0).trans rfl, (kc_ hrw6 1).trans rfl, (kc_ hrw6 2).trans rfl⟩ (fun hHeld => ?_)
 clear hK K
 refine nm_ 13 ?_
 refine on_ 5 (some 14) (fun K hK => ?_)
 refine call_ 67 #[.int .u32 T, .pointer (some ⟨bv, 0, none⟩), .pointer (some ⟨br, 0, none⟩), .pointer (some ⟨bb, 0, none⟩), .pointer (some ⟨bl, 0, none⟩)] b139_ rfl ?_ ?_
 ·have he := enters_ (P := Tryd.prog) Tryd.func67 bfqv_ rfl #[.int .u32 T, .pointer (some ⟨bv, 0, none⟩), .pointer (some ⟨br, 0, none⟩), .pointer (some ⟨bb, 0, none⟩), .pointer (some ⟨bl, 0, none⟩)] w3
  unfold execOp
  simp [resolve, Deferred.ofValue, invoke, Act.eval, he]
 refine (impl_LeastStands.least k A a1 a0_0 a0_1 A0_2 c0_2 l0_2 bm bv br bb bl _ (TabOK.below HG0.out hbw4) (cb_ hr0_2 hbw4) hc0_2 hA 11 T n 1 _ hn hTr.1 hTr.2 hi6 bi3y_).mono ?_
 rintro e w4 ⟨rfl, hi7, hg7⟩
 refine ⟨_, rfl, ?_⟩
 have hrw7 : w4.heap[w.heap.size]? = some (.cells #[.int .i64 a0_0, .bool a0_1, .slice A0_2 l0_2.length c0_2] 28 (0, 0)) := kb_ (kd_ hrw3) hi7.below
 refine hK.out _ _ ⟨(kc_ hrw7 0).trans rfl, (kc_ hrw7 1).trans rfl, (kc_ hrw7 2).trans rfl⟩ (fun hHeld => ?_)
 clear hK K
 refine nm_ 14 ?_
 refine pu_ 6 4 ?_
 refine pu_ 7 5 ?_
 refine done_ bfqv_ ?_
 go_wp2
 go_ret2
 exact ⟨rfl, bt_ hbw4 hi7.below⟩

mutual
def spec_BestArrival.l0 : Nat → Bool → List Int → List Int → List Int → Int → Int → Bool → List Int → Option (List Int × Bool)
 | 0, _, _, _, _, _, _, _, _ => none
 | k + 1, x1, x6, x7, x8, x10, x234000, x234001, x234002 => if (x6.length : Int) < (x8.length : Int) then (spec_BestArrival.l1 k x1 x6 x7 x8 x10 0 x234000 x234001 x234002) else (some (x6, true))
def spec_BestArrival.l1 : Nat → Bool → List Int → List Int → List Int → Int → Int → Int → Bool → List Int → Option (List Int × Bool)
 | 0, _, _, _, _, _, _, _, _, _ => none
 | k + 1, x1, x6, x7, x8, x10, x11, x234000, x234001, x234002 => if 0 ≤ x11 then (if (Go.bits .and .i64 (shr .i64 x10 x11) 1) = 1 then (spec_BestArrival.l1 k x1 x6 x7 x8 x10 (wrap64 (x11 + 1)) x234000 x234001 x234002) else (if x11 < (x8.length : Int) then ((spec_l10Stands.f k x234000 x234001 x234002 (rd x8 x11) x1).bind fun t235 => (if 0 ≤ (wrap64 (x10 + (shl .i64 1 x11))) then (if (wrap64 (x10 + (shl .i64 1 x11))) < (x7.length : Int) then (if 0 ≤ x10 then (if x10 < (x7.length : Int) then (if (wrap64 (t235 + (rd x7 (wrap64 (x10 + (shl .i64 1 x11)))))) = (rd x7 x10) then (if x6.length < 17592186044416 then ((spec_l2With.f k x234000 x234001 x234002 (rd x8 x11)).bind fun bt243 => (spec_BestArrival.l0 k x1 (x6 ++ [rd x8 x11]) x7 x8 (wrap64 (x10 + (shl .i64 1 x11))) bt243.1 bt243.2.1 bt243.2.2)) else (none)) else (spec_BestArrival.l1 k x1 x6 x7 x8 x10 (wrap64 (x11 + 1)) x234000 x234001 x234002)) else (none)) else (none)) else (none)) else (none))) else (none))) else (none)
end
def spec_BestArrival.f (k : Nat) (a0_0 : Int) (a0_1 : Bool) (l0_2 : List Int) (a1 : Bool) : Option (List Int × Bool) := (some (([] : List Int) : List Int)).bind fun y223 => ((spec_l10Full.f k a0_0 a0_1 l0_2).bind fun t226 => (if t226 = true then ((spec_l10Table.f k a0_0 a0_1 l0_2 a1).bind fun t227 => ((spec_l2Free.f k a0_0 a0_1 l0_2).bind fun t230 => (spec_BestArrival.l0 k a1 y223 t227 t230 0 a0_0 a0_1 l0_2))) else (some (y223, false))))
theorem spec_BestArrival.mono_l : ∀ k, (∀ y0 y1 y2 y3 y4 y5 y6 y7, LeO (spec_BestArrival.l0 k y0 y1 y2 y3 y4 y5 y6 y7) (spec_BestArrival.l0 (k + 1) y0 y1 y2 y3 y4 y5 y6 y7)) ∧ (∀ y0 y1 y2 y3 y4 y5 y6 y7 y8, LeO (spec_BestArrival.l1 k y0 y1 y2 y3 y4 y5 y6 y7 y8) (spec_BestArrival.l1 (k + 1) y0 y1 y2 y3 y4 y5 y6 y7 y8))
 | 0 => ⟨fun _ _ _ _ _ _ _ _ r h => by simp [spec_BestArrival.l0] at h, fun _ _ _ _ _ _ _ _ _ r h => by simp [spec_BestArrival.l1] at h⟩
 | k + 1 => by
  obtain ⟨ih0, ih1⟩ := spec_BestArrival.mono_l k
  refine ⟨?_, ?_⟩
  ·intro y0 y1 y2 y3 y4 y5 y6 y7
   unfold spec_BestArrival.l0
   repeat' with_reducible first | exact ih0 .. | exact ih1 .. | exact spec_l10Full.mono .. | exact spec_l10Stands.mono .. | exact spec_l10Table.mono .. | exact spec_l2Free.mono .. | exact spec_l2With.mono .. | exact LeO.refl .. | exact LeO.none .. | refine LeO.ite ?_ ?_ | refine LeO.bind ?_ (fun _ => ?_)
  ·intro y0 y1 y2 y3 y4 y5 y6 y7 y8
   unfold spec_BestArrival.l1
   repeat' with_reducible first | exact ih0 .. | exact ih1 .. | exact spec_l10Full.mono .. | exact spec_l10Stands.mono .. | exact spec_l10Table.mono .. | exact spec_l2Free.mono .. | exact spec_l2With.mono .. | exact LeO.refl .. | exact LeO.none .. | refine LeO.ite ?_ ?_ | refine LeO.bind ?_ (fun _ => ?_)
theorem spec_BestArrival.mono : ∀ a0 a1 a2 a3 k, LeO (spec_BestArrival.f k a0 a1 a2 a3) (spec_BestArrival.f (k + 1) a0 a1 a2 a3) := by
 intro a0 a1 a2 a3 k
 obtain ⟨ih0, ih1⟩ := spec_BestArrival.mono_l k
 unfold spec_BestArrival.f
 repeat' with_reducible first | exact ih0 .. | exact ih1 .. | exact spec_l10Full.mono .. | exact spec_l10Stands.mono .. | exact spec_l10Table.mono .. | exact spec_l2Free.mono .. | exact spec_l2With.mono .. | exact LeO.refl .. | exact LeO.none .. | refine LeO.ite ?_ ?_ | refine LeO.bind ?_ (fun _ => ?_)
def spec_BestArrival.T4 : Bool × List (List Nat × List Nat) := (true, [([], []), ([], []), ([0, 1], [0, 1]), ([], []), ([3, 2], [3]), ([], []), ([], []), ([2, 4, 0, 1, 2, 6], [2]), ([4, 7, 0, 1, 2, 3, 4, 6, 7], [4]), ([6, 5, 8, 0, 1, 2, 3, 4, 5, 6, 7, 8], [5, 6]), ([9, 0, 1, 2, 3, 4, 5, 6, 7, 8, 9], [])])
def spec_BestArrival.B4 : List Nat := [0, 0, 3, 0, 15, 0, 0, 95, 223, 511, 1023]
theorem spec_BestArrival.tab4 : rtab .any (opsOf Tryd.f11 4) = spec_BestArrival.T4 := by kernel_rfl
theorem spec_BestArrival.bits4 : waitsOk spec_BestArrival.T4.2 spec_BestArrival.B4 = true := by kernel_rfl
def spec_BestArrival.T7 : Bool × List (List Nat × List Nat) := (true, [([], []), ([], []), ([0, 1], [0, 1]), ([2], [2]), ([3], [3]), ([4], [4]), ([5], [5]), ([5], [5]), ([5], [5]), ([7, 8, 5], [5, 7, 8]), ([9, 5], [5, 9]), ([5], [5]), ([6, 10, 11, 5, 5], [5, 6, 10, 11]), ([5], [5]), ([5], [5]), ([5], [5]), ([15, 5], [5, 15]), ([14, 16, 5], [5, 14, 16]), ([13, 17, 5], [5, 13, 17]), ([18, 5], [5, 18]), ([12, 19, 5], [5, 12, 19]), ([5], [5]), ([5], [5]), ([21, 22, 5], [5, 21, 22]), ([23, 5], [5, 23]), ([20, 24, 5], [5, 20, 24]), ([5, 25], [5, 25])])
def spec_BestArrival.B7 : List Nat := [0, 0, 3, 7, 15, 31, 63, 63, 63, 447, 959, 63, 4095, 63, 63, 63, 32831, 114751, 254015, 516159, 1048575, 63, 63, 6291519, 14680127, 33554431, 67108863]
theorem spec_BestArrival.tab7 : rtab .any (opsOf Tryd.f11 7) = spec_BestArrival.T7 := by kernel_rfl
theorem spec_BestArrival.bits7 : waitsOk spec_BestArrival.T7.2 spec_BestArrival.B7 = true := by kernel_rfl
theorem spec_BestArrival.calls (k : Nat) (a0_0 : Int) (a0_1 : Bool) (P0_2_ : Nat → Prop) (A0_2 : Option Addr) (c0_2 : Nat) (l0_2 : List Int) (a1 : Bool) (r1 : List Int) (r2 : Bool) (w : World) (hs0_2 : Kd.V (Kd.int .i64) 3 w w.heap.size (fun k_ => P0_2_ k_) (.slice A0_2 l0_2.length c0_2) l0_2) (h : spec_BestArrival.f k a0_0 a0_1 l0_2 a1 = some (r1, r2)) :
  Calls Tryd.prog 11 #[.agg #[.int .i64 a0_0, .bool a0_1, .slice A0_2 l0_2.length c0_2], .bool a1] w fun e w' => ∃ v0_ : Value, e = .returned (.tuple #[v0_, .bool r2]) ∧ Kd.R (Kd.int .i64) 3 w' w.heap.size (fun k_ => (w.heap.size ≤ k_)) v0_ r1 ∧ Below w.heap.size w w' := by
 have hu28 := Tryd.underlying28
 have HO1_2 := A0_ (show Kd.V (Kd.int .i64) 3 w w.heap.size (fun k_ => (P0_2_ k_ ∨ w.heap.size ≤ k_)) (.slice A0_2 l0_2.length c0_2) l0_2 from Kd.V_mono hs0_2 (fun k_ hk => .inl hk))
 have HB := A0_ (Below.refl w.heap.size w)
 have H : ((some (([] : List Int) : List Int)).bind fun y1 => ((spec_l10Full.f k a0_0 a0_1 l0_2).bind fun t1 => (if t1 = true then ((spec_l10Table.f k a0_0 a0_1 l0_2 a1).bind fun t2 => ((spec_l2Free.f k a0_0 a0_1 l0_2).bind fun t3 => (spec_BestArrival.l0 k a1 y1 t2 t3 0 a0_0 a0_1 l0_2))) else (some (y1, false))))) = some (r1, r2) := h
 clear h
 obtain ⟨y1, hy1⟩ : ∃ y_ : List Int, y_ = (([] : List Int)) := ⟨_, rfl⟩
 replace H : ((spec_l10Full.f k a0_0 a0_1 l0_2).bind fun t1 => (if t1 = true then ((spec_l10Table.f k a0_0 a0_1 l0_2 a1).bind fun t2 => ((spec_l2Free.f k a0_0 a0_1 l0_2).bind fun t3 => (spec_BestArrival.l0 k a1 y1 t2 t3 0 a0_0 a0_1 l0_2))) else (some (y1, false)))) = some (r1, r2) := bgiq_
 have Ny1 := A0_ hy1
 clear hy1
 obtain ⟨t1, A2, H⟩ := o1_ H
 by_cases c1 : t1 = true
 case neg =>
  obtain rfl := bf_.mpr c1
  rw [if_neg ft_] at H
  simp only [sj_, pj_] at H
  obtain ⟨rfl, rfl⟩ := H
  go_enter Tryd.func11, Tryd.ntmps11
  go_wp2_with (first | ((with_reducible refine gd_ (N := 2) rfl ?_); refine bx_ 2 #[.int .i64 a0_0, .bool a0_1, .slice A0_2 l0_2.length c0_2] 28 ?_; intro gb1 hg w1 BK1 hb; replace HO1_2 := A0_ (Kd.V_below (Kd.V_elderB bqvv_ gb1 (Nat.le_of_eq hg.symm)) hb); have GW1 := ge_ hg brt4_; have GE1 := GW1; replace HB := hb_ hb brt4_; clear hb hg) | ((with_reducible refine gd_ (N := 12) rfl ?_); refine Kd.R_lit (Kd.int .i64) _ 3 ?hg (N := 12) ?hd (xs := ([] : List Int)) (inner := []) (ok := fun _ => True) (okp := fun _ => True) ?hr ?hp (fun _ hk => hk) trivial (Below.refl _ _) (Nat.le_refl _) bxka_ ?_; (case hd => rfl); (case hg => rfl); (case hr => go_simp; first | done | rfl); (case hp => exact (Reps.none _ _)); intro v1 w2 ho60 hb hg_ hnew_; clear hg_ hnew_; (first | rw [← Ny1.out] at ho60 | (simp only [Int.reduceToNat] at ho60; rw [← Ny1.out] at ho60)); replace HO1_2 := A0_ (Kd.V_elder' bqvv_ (Kd.R_base ho60) hb); have HO2 := A0_ (Kd.R_lower (Kd.R_newM (M := fun k_ => (w.heap.size ≤ k_)) ho60 (bz_ be6g_) (fun k_ h_ => h_)) (bz_ be6g_)); replace BK1 := k1_ BK1 hb; replace HB := hb_ hb be6g_; clear hb ho60; have hcz1 := z3_ BK1) | ((with_reducible refine gc_ (f := 36) rfl ?_); refine gl_ 14 Tryd.func36 #[.agg #[.int .i64 a0_0, .bool a0_1, .slice A0_2 l0_2.length c0_2]] ?_; (with_reducible refine (spec_l10Full.calls k a0_0 a0_1 _ _ l0_2 false _ ?side1 ?side2 A2.out).mono ?_); (case side1 => exact b26b_); (case side2 => exact (Kd.V_reads' HO1_2.out).2.1); rintro e w3 ⟨rfl, hb⟩; refine ⟨_, rfl, ?_⟩; replace HO1_2 := A0_ (Kd.V_below bqvv_ hb); replace HO2 := A0_ (Kd.R_below b9so_ hb); replace BK1 := k1_ BK1 hb; replace HB := hb_ hb be6g_; (try clear hb)))
  go_ret2
  exact ⟨_, bnwh_, b4xb_, be6g_⟩
 subst c1
 rw [if_pos rfl] at H
 obtain ⟨t2, A4, H⟩ := o1_ H
 obtain ⟨t3, A6, H⟩ := o1_ H
 have H' := A0_ H
 clear H
 go_enter Tryd.func11, Tryd.ntmps11
 try go_wp2_with (first | ((with_reducible refine gd_ (N := 2) rfl ?_); refine bx_ 2 #[.int .i64 a0_0, .bool a0_1, .slice A0_2 l0_2.length c0_2] 28 ?_; intro gb1 hg w1 BK1 hb; replace HO1_2 := A0_ (Kd.V_below (Kd.V_elderB bqvv_ gb1 (Nat.le_of_eq hg.symm)) hb); have GW1 := ge_ hg brt4_; have GE1 := GW1; replace HB := hb_ hb brt4_; clear hb hg) | ((with_reducible refine gd_ (N := 12) rfl ?_); refine Kd.R_lit (Kd.int .i64) _ 3 ?hg (N := 12) ?hd (xs := ([] : List Int)) (inner := []) (ok := fun _ => True) (okp := fun _ => True) ?hr ?hp (fun _ hk => hk) trivial (Below.refl _ _) (Nat.le_refl _) bxka_ ?_; (case hd => rfl); (case hg => rfl); (case hr => go_simp; first | done | rfl); (case hp => exact (Reps.none _ _)); intro v1 w2 ho9 hb hg_ hnew_; clear hg_ hnew_; (first | rw [← Ny1.out] at ho9 | (simp only [Int.reduceToNat] at ho9; rw [← Ny1.out] at ho9)); replace HO1_2 := A0_ (Kd.V_elder' bqvv_ (Kd.R_base ho9) hb); have HO2 := A0_ (Kd.R_lower (Kd.R_newM (M := fun k_ => (w.heap.size ≤ k_)) ho9 (bz_ be6g_) (fun k_ h_ => h_)) (bz_ be6g_)); replace BK1 := k1_ BK1 hb; replace HB := hb_ hb be6g_; clear hb ho9; have hcz1 := z3_ BK1) | ((with_reducible refine gc_ (f := 36) rfl ?_); refine gl_ 14 Tryd.func36 #[.agg #[.int .i64 a0_0, .bool a0_1, .slice A0_2 l0_2.length c0_2]] ?_; (with_reducible refine (spec_l10Full.calls k a0_0 a0_1 _ _ l0_2 true _ ?side1 ?side2 A2.out).mono ?_); (case side1 => exact b26b_); (case side2 => exact (Kd.V_reads' HO1_2.out).2.1); rintro e w3 ⟨rfl, hb⟩; refine ⟨_, rfl, ?_⟩; replace HO1_2 := A0_ (Kd.V_below bqvv_ hb); replace HO2 := A0_ (Kd.R_below b9so_ hb); replace BK1 := k1_ BK1 hb; replace HB := hb_ hb be6g_; (try clear hb)))
 replace HO1_2 := A0_ (Kd.V_drew HO1_2.out)
 replace HO2 := A0_ (rd_ HO2.out)
 replace BK1 := A0_ (kd_ BK1.out)
 replace HB := A0_ (bd_ HB.out)
 refine s3_ 11 [] BK1 spec_BestArrival.tab4 spec_BestArrival.bits4 (fun hHeld HT_ HW_ => ?_)
 generalize w3.drew = w4 at HO1_2 HO2 BK1 HB hHeld ⊢
 refine pu_ 1 18 ?_
 refine tk_ 0 17 hHeld ?_
 refine tk_ 3 20 hHeld ?_
 refine tk_ 5 22 hHeld ?_
 refine join_ (σ := Value × Value × Nat) 4 #[true, true, true, true, true, true, true, false, false, false, false] (fun s_ => [(19, s_.1), (21, s_.2.1), (9, .pointer (some ⟨s_.2.2, 0, none⟩))]) (fun s_ w' => (w'.cell? ⟨gb1, 0, none⟩ = some (.int .i64 a0_0) ∧ w'.cell? ⟨gb1, 1, none⟩ = some (.bool a0_1) ∧ w'.cell? ⟨gb1, 2, none⟩ = some (.slice A0_2 l0_2.length c0_2)) ∧ (Kd.V (Kd.int .i64) 3 w' w.heap.size (fun k_ => (P0_2_ k_ ∨ w.heap.size ≤ k_) ∧ no_ v1 k_ ∧ some k_ ≠ (s_.1 : Value).ownBlock ∧ some k_ ≠ (s_.2.1 : Value).ownBlock ∧ k_ ≠ gb1 ∧ k_ ≠ s_.2.2) (.slice A0_2 l0_2.length c0_2) l0_2) ∧ (Kd.R (Kd.int .i64) 3 w' w.heap.size (fun k_ => (w.heap.size ≤ k_) ∧ some k_ ≠ (s_.1 : Value).ownBlock ∧ some k_ ≠ (s_.2.1 : Value).ownBlock) v1 y1) ∧ (Kd.R (Kd.int .i64) 3 w' w.heap.size (fun k_ => (w.heap.size ≤ k_) ∧ no_ v1 k_ ∧ some k_ ≠ (s_.2.1 : Value).ownBlock) s_.1 t2) ∧ (Kd.R (Kd.int .i64) 3 w' w.heap.size (fun k_ => (w.heap.size ≤ k_) ∧ no_ v1 k_ ∧ some k_ ≠ (s_.1 : Value).ownBlock) s_.2.1 t3) ∧ (w'.heap[gb1]? = some (.cells #[.int .i64 a0_0, .bool a0_1, .slice A0_2 l0_2.length c0_2] 28 (0, 0))) ∧ (w'.heap[s_.2.2]? = some (.cells #[.int .i64 0, .bool false, .slice none 0 0] 28 (0, 0))) ∧ (w.heap.size ≤ s_.2.2) ∧ (w.heap.size ≤ s_.2.2) ∧ (gb1 ≠ s_.2.2) ∧ (s_.2.2 ≠ gb1) ∧ (Below w.heap.size w w')) ?_ ?_
 rotate_left
 ·intro hCont
  refine two_ (i := 2) (j := 6) (Ni := some 19) (Nj := some 9) #[true, true, true, true, false, true, false, false, false, false, false] #[true, true, false, true, false, true, true, false, false, false, false] rfl rfl rfl rfl (two_of HT_.out bfqv_) bi3y_ bi3y_ (fun K hK => ?_) (fun K hK => ?_)
  ·refine gs_ Tryd.func37 #[.agg #[.int .i64 a0_0, .bool a0_1, .slice A0_2 l0_2.length c0_2], .bool a1] ?_
   with_reducible refine (spec_l10Table.calls k a0_0 a0_1 (fun k_ => (((P0_2_ k_ ∨ w.heap.size ≤ k_) ∧ k_ ≠ gb1) ∧ no_ v1 k_)) _ _ l0_2 a1 t2 _ ?side1 A4.out).mono ?_
   (case side1 => exact HO1_2.out)
   rintro e w5 ⟨v2, rfl, ho0, hb⟩
   refine ⟨_, rfl, ?_⟩
   replace HO1_2 := A0_ (Kd.V_elder' bqvv_ (Kd.R_base ho0) hb)
   have HO3 := A0_ (Kd.R_lower (Kd.R_new' (Kd.R_newM (M := fun k_ => (w.heap.size ≤ k_)) (Kd.R_mono (ok' := fun k_ => True) ho0 (fun _ hk_ => trivial)) (bz_ be6g_) (fun k_ h_ => h_)) (Kd.R_lt b9so_)) (bz_ be6g_))
   replace HO2 := A0_ (Kd.R_elder' b9so_ (Kd.R_base ho0) hb)
   replace BK1 := k1_ BK1 hb
   replace HB := hb_ hb be6g_
   (try clear hb); (try clear ho0)
   refine hK.out _ _ (c3_ BK1) (fun hHeld => ?_)
   clear hK K
   refine nm_ 19 ?_
   refine two_ (i := 4) (j := 6) (Ni := some 21) (Nj := some 9) #[true, true, true, true, true, true, false, false, false, false, false] #[true, true, true, true, false, true, true, false, false, false, false] rfl rfl rfl rfl (two_of HT_.out bfqv_) bi3y_ bi3y_ (fun K hK => ?_) (fun K hK => ?_)
   ·refine gs_ Tryd.func42 #[.agg #[.int .i64 a0_0, .bool a0_1, .slice A0_2 l0_2.length c0_2]] ?_
    with_reducible refine (spec_l2Free.calls k a0_0 a0_1 _ _ l0_2 t3 _ ?side1 ?side2 A6.out).mono ?_
    (case side1 => exact b26b_)
    (case side2 => exact (Kd.V_reads' HO1_2.out).2.1)
    rintro e w6 ⟨v3, rfl, ho0, hb⟩
    refine ⟨_, rfl, ?_⟩
    replace HO1_2 := A0_ (Kd.V_elder' bqvv_ (Kd.R_base ho0) hb)
    have HO4 := A0_ (Kd.R_lower (Kd.R_new' (Kd.R_new' (Kd.R_newM (M := fun k_ => (w.heap.size ≤ k_)) ho0 (bz_ be6g_) (fun k_ h_ => h_)) (Kd.R_lt b9so_)) (Kd.R_lt buiy_)) (bz_ be6g_))
    replace HO2 := A0_ (Kd.R_elder' b9so_ (Kd.R_base ho0) hb)
    replace HO3 := A0_ (Kd.R_elder' buiy_ (Kd.R_base ho0) hb)
    replace BK1 := k1_ BK1 hb
    replace HB := hb_ hb be6g_
    (try clear hb); (try clear ho0)
    refine hK.out _ _ (c3_ BK1) (fun hHeld => ?_)
    clear hK K
    refine nm_ 21 ?_
    refine on_ 6 (some 9) (fun K hK => ?_)
    refine bp_ 9 #[.int .i64 0, .bool false, .slice none 0 0] 28 ?_
    intro gb2 hg w7 hbox hb
    replace HO1_2 := A0_ (Kd.V_below (Kd.V_elderB bqvv_ gb2 (Nat.le_of_eq hg.symm)) hb)
    replace HO2 := A0_ (Kd.R_below b9so_ hb)
    replace HO3 := A0_ (Kd.R_below buiy_ hb)
    replace HO4 := A0_ (Kd.R_below b6ip_ hb)
    have BK2 := A0_ (hbox)
    have GW2 := ge_ hg be6g_
    have GE2 := ge_ hg be6g_
    replace HB := hb_ hb be6g_
    have NB1_2 := nl_ hg BK1
    have NB2_1 := ng_ hg BK1
    replace BK1 := k1_ BK1 hb
    clear hb hbox hg
    refine hK.out _ _ (c3_ BK1) (fun hHeld => ?_)
    clear hK K
    refine nm_ 9 ?_
    exact norm_ bh00_ (hCont (v2, v3, gb2) _ ⟨hHeld, (by (with_reducible repeat (first | apply Kd.V_alloc | apply Kd.V_drewN | apply Kd.V_drew)); exact Kd.V_mono HO1_2.out (fun _ hk => ⟨hk.1.1.1.1.1, ⟨hk.1.1.1.2, ⟨hk.1.1.2, ⟨hk.1.2, ⟨hk.1.1.1.1.2, hk.2⟩⟩⟩⟩⟩)), baik_, bzf1_, bsrs_, (u1_ BK1), (u1_ BK2), GW2.out, GE2.out, NB1_2.out, NB2_1.out, bfnq_⟩)
   refine bp_ 9 #[.int .i64 0, .bool false, .slice none 0 0] 28 ?_
   intro gb2 hg w6 hbox hb
   replace HO1_2 := A0_ (Kd.V_below (Kd.V_elderB bqvv_ gb2 (Nat.le_of_eq hg.symm)) hb)
   replace HO2 := A0_ (Kd.R_below b9so_ hb)
   replace HO3 := A0_ (Kd.R_below buiy_ hb)
   have BK2 := A0_ (hbox)
   have GW2 := ge_ hg be6g_
   have GE2 := ge_ hg be6g_
   replace HB := hb_ hb be6g_
   have NB1_2 := nl_ hg BK1
   have NB2_1 := ng_ hg BK1
   replace BK1 := k1_ BK1 hb
   clear hb hbox hg
   refine hK.out _ _ (c3_ BK1) (fun hHeld => ?_)
   clear hK K
   refine nm_ 9 ?_
   refine on_ 4 (some 21) (fun K hK => ?_)
   refine gs_ Tryd.func42 #[.agg #[.int .i64 a0_0, .bool a0_1, .slice A0_2 l0_2.length c0_2]] ?_
   with_reducible refine (spec_l2Free.calls k a0_0 a0_1 _ _ l0_2 t3 _ ?side1 ?side2 A6.out).mono ?_
   (case side1 => exact b26b_)
   (case side2 => exact (Kd.V_reads' HO1_2.out).2.1)
   rintro e w7 ⟨v3, rfl, ho0, hb⟩
   refine ⟨_, rfl, ?_⟩
   replace HO1_2 := A0_ (Kd.V_elder' bqvv_ (Kd.R_base ho0) hb)
   have HO4 := A0_ (Kd.R_lower (Kd.R_new' (Kd.R_new' (Kd.R_newM (M := fun k_ => (w.heap.size ≤ k_)) ho0 (bz_ bfnq_) (fun k_ h_ => h_)) (Kd.R_lt b9so_)) (Kd.R_lt buiy_)) (bz_ bfnq_))
   replace HO2 := A0_ (Kd.R_elder' b9so_ (Kd.R_base ho0) hb)
   replace HO3 := A0_ (Kd.R_elder' buiy_ (Kd.R_base ho0) hb)
   replace BK1 := k1_ BK1 hb
   replace BK2 := k1_ BK2 hb
   replace HB := hb_ hb bfnq_
   (try clear hb); (try clear ho0)
   refine hK.out _ _ (c3_ BK1) (fun hHeld => ?_)
   clear hK K
   refine nm_ 21 ?_
   exact norm_ bh00_ (hCont (v2, v3, gb2) _ ⟨hHeld, (by (with_reducible repeat (first | apply Kd.V_alloc | apply Kd.V_drewN | apply Kd.V_drew)); exact Kd.V_mono HO1_2.out (fun _ hk => ⟨hk.1.1.1.1.1, ⟨hk.1.1.1.2, ⟨hk.1.1.2, ⟨hk.2, ⟨hk.1.1.1.1.2, hk.1.2⟩⟩⟩⟩⟩)), baik_, bzf1_, bsrs_, (u1_ BK1), (u1_ BK2), GW2.out, GE2.out, NB1_2.out, NB2_1.out, bfnq_⟩)
  refine bp_ 9 #[.int .i64 0, .bool false, .slice none 0 0] 28 ?_
  intro gb2 hg w5 hbox hb
  replace HO1_2 := A0_ (Kd.V_below (Kd.V_elderB bqvv_ gb2 (Nat.le_of_eq hg.symm)) hb)
  replace HO2 := A0_ (Kd.R_below b9so_ hb)
  have BK2 := A0_ (hbox)
  have GW2 := ge_ hg be6g_
  have GE2 := ge_ hg be6g_
  replace HB := hb_ hb be6g_
  have NB1_2 := nl_ hg BK1
  have NB2_1 := ng_ hg BK1
  replace BK1 := k1_ BK1 hb
  clear hb hbox hg
  refine hK.out _ _ (c3_ BK1) (fun hHeld => ?_)
  clear hK K
  refine nm_ 9 ?_
  refine on_ 2 (some 19) (fun K hK => ?_)
  refine gs_ Tryd.func37 #[.agg #[.int .i64 a0_0, .bool a0_1, .slice A0_2 l0_2.length c0_2], .bool a1] ?_
  with_reducible refine (spec_l10Table.calls k a0_0 a0_1 (fun k_ => ((((P0_2_ k_ ∨ w.heap.size ≤ k_) ∧ k_ ≠ gb1) ∧ no_ v1 k_) ∧ k_ ≠ gb2)) _ _ l0_2 a1 t2 _ ?side1 A4.out).mono ?_
  (case side1 => exact HO1_2.out)
  rintro e w6 ⟨v2, rfl, ho0, hb⟩
  refine ⟨_, rfl, ?_⟩
  replace HO1_2 := A0_ (Kd.V_elder' bqvv_ (Kd.R_base ho0) hb)
  have HO3 := A0_ (Kd.R_lower (Kd.R_new' (Kd.R_newM (M := fun k_ => (w.heap.size ≤ k_)) (Kd.R_mono (ok' := fun k_ => True) ho0 (fun _ hk_ => trivial)) (bz_ bfnq_) (fun k_ h_ => h_)) (Kd.R_lt b9so_)) (bz_ bfnq_))
  replace HO2 := A0_ (Kd.R_elder' b9so_ (Kd.R_base ho0) hb)
  replace BK1 := k1_ BK1 hb
  replace BK2 := k1_ BK2 hb
  replace HB := hb_ hb bfnq_
  (try clear hb); (try clear ho0)
  refine hK.out _ _ (c3_ BK1) (fun hHeld => ?_)
  clear hK K
  refine nm_ 19 ?_
  refine on_ 4 (some 21) (fun K hK => ?_)
  refine gs_ Tryd.func42 #[.agg #[.int .i64 a0_0, .bool a0_1, .slice A0_2 l0_2.length c0_2]] ?_
  with_reducible refine (spec_l2Free.calls k a0_0 a0_1 _ _ l0_2 t3 _ ?side1 ?side2 A6.out).mono ?_
  (case side1 => exact b26b_)
  (case side2 => exact (Kd.V_reads' HO1_2.out).2.1)
  rintro e w7 ⟨v3, rfl, ho0, hb⟩
  refine ⟨_, rfl, ?_⟩
  replace HO1_2 := A0_ (Kd.V_elder' bqvv_ (Kd.R_base ho0) hb)
  have HO4 := A0_ (Kd.R_lower (Kd.R_new' (Kd.R_new' (Kd.R_newM (M := fun k_ => (w.heap.size ≤ k_)) ho0 (bz_ bfnq_) (fun k_ h_ => h_)) (Kd.R_lt b9so_)) (Kd.R_lt buiy_)) (bz_ bfnq_))
  replace HO2 := A0_ (Kd.R_elder' b9so_ (Kd.R_base ho0) hb)
  replace HO3 := A0_ (Kd.R_elder' buiy_ (Kd.R_base ho0) hb)
  replace BK1 := k1_ BK1 hb
  replace BK2 := k1_ BK2 hb
  replace HB := hb_ hb bfnq_
  (try clear hb); (try clear ho0)
  refine hK.out _ _ (c3_ BK1) (fun hHeld => ?_)
  clear hK K
  refine nm_ 21 ?_
  exact norm_ bh00_ (hCont (v2, v3, gb2) _ ⟨hHeld, (by (with_reducible repeat (first | apply Kd.V_alloc | apply Kd.V_drewN | apply Kd.V_drew)); exact Kd.V_mono HO1_2.out (fun _ hk => ⟨hk.1.1.1.1.1, ⟨hk.1.1.1.2, ⟨hk.1.2, ⟨hk.2, ⟨hk.1.1.1.1.2, hk.1.1.2⟩⟩⟩⟩⟩)), baik_, bzf1_, bsrs_, (u1_ BK1), (u1_ BK2), GW2.out, GE2.out, NB1_2.out, NB2_1.out, bfnq_⟩)
 rintro ⟨v2, v3, gb2⟩ w5 ⟨hS_, h0_, h1_, h2_, h3_, h4_, h5_, h6_, h7_, h8_, h9_, h10_⟩
 try dsimp only at h0_ h1_ h2_ h3_ h4_ h5_ h6_ h7_ h8_ h9_ h10_
 replace HO1_2 := A0_ h0_
 replace HO2 := A0_ h1_
 have HO3 := A0_ h2_
 have HO4 := A0_ h3_
 replace BK1 := A0_ h4_
 have BK2 := A0_ h5_
 have GW2 := A0_ h6_
 have GE2 := A0_ h7_
 have NB1_2 := A0_ h8_
 have NB2_1 := A0_ h9_
 replace HB := A0_ h10_
 clear h0_ h1_ h2_ h3_ h4_ h5_ h6_ h7_ h8_ h9_ h10_
 have hHeld : w5.cell? ⟨gb1, 0, none⟩ = some (.int .i64 a0_0) ∧ w5.cell? ⟨gb1, 1, none⟩ = some (.bool a0_1) ∧ w5.cell? ⟨gb1, 2, none⟩ = some (.slice A0_2 l0_2.length c0_2) := hS_
 refine nq_ ?_
 refine pu_ 7 7 ?_
 refine pu_ 8 8 ?_
 refine on_ 9 none (fun K hK => ?_)
 have hs17 : w5.cell? ⟨gb2, 0, none⟩ = some (.int .i64 0) := (kc_ BK2.out 0).trans rfl
 have hfs17 := kf_ BK2.out 0
 have hns1_0 := NB1_2.out
 have hms1_0 := NB2_1.out
 have hs18 : w5.cell? ⟨gb2, 1, none⟩ = some (.bool false) := (kc_ BK2.out 1).trans rfl
 have hfs18 := kf_ BK2.out 1
 have hns2_0 := NB1_2.out
 have hms2_0 := NB2_1.out
 have hs19 : w5.cell? ⟨gb2, 2, none⟩ = some (.slice none 0 0) := (kc_ BK2.out 2).trans rfl
 have hfs19 := kf_ BK2.out 2
 have hns3_0 := NB1_2.out
 have hms3_0 := NB2_1.out
 refine skip_ (w1 := ?_) b139_ rfl ?_ ?_
 rotate_left
 ·go_simp
  rfl
 refine hK.out _ _ ⟨((cell_far (p := ⟨gb2, _, none⟩) NB1_2.out _).trans (((cell_far (p := ⟨gb2, _, none⟩) NB1_2.out _).trans (((cell_far (p := ⟨gb2, _, none⟩) NB1_2.out _).trans (hHeld.1)))))), ((cell_far (p := ⟨gb2, _, none⟩) NB1_2.out _).trans (((cell_far (p := ⟨gb2, _, none⟩) NB1_2.out _).trans (((cell_far (p := ⟨gb2, _, none⟩) NB1_2.out _).trans (hHeld.2.1)))))), ((cell_far (p := ⟨gb2, _, none⟩) NB1_2.out _).trans (((cell_far (p := ⟨gb2, _, none⟩) NB1_2.out _).trans (((cell_far (p := ⟨gb2, _, none⟩) NB1_2.out _).trans (hHeld.2.2))))))⟩ (fun hHeld => ?_)
 clear hK K
 refine pu_ 10 10 ?_
 refine dn_ ?_
 try go_wp2
 go_loopg [6, 10] k (fun kq v4 v5 w' => ∃ (x6_1 : List Int) (x10_1 : Int) (x234000_1 : Int) (x234001_1 : Bool) (x234002_1 : List Int) (u234002 : Value), v5 = .int .i64 x10_1 ∧ Aside0 (spec_BestArrival.l0 kq a1 x6_1 t2 t3 x10_1 x234000_1 x234001_1 x234002_1 = some (r1, r2)) ∧ Aside0 (kq ≤ k) ∧ Aside0 (Kd.R (Kd.int .i64) 3 w' w.heap.size (fun k_ => (w.heap.size ≤ k_) ∧ no_ v2 k_ ∧ no_ v3 k_) v4 x6_1) ∧ Aside0 (Kd.R (Kd.int .i64) 3 w' w.heap.size (fun k_ => (w.heap.size ≤ k_) ∧ no_ v4 k_ ∧ no_ v3 k_) v2 t2) ∧ Aside0 (Kd.R (Kd.int .i64) 3 w' w.heap.size (fun k_ => (w.heap.size ≤ k_) ∧ no_ v4 k_ ∧ no_ v2 k_) v3 t3) ∧ Aside0 (Kd.V (Kd.int .i64) 3 w' w.heap.size (fun k_ => (P0_2_ k_ ∨ w.heap.size ≤ k_) ∧ no_ v4 k_ ∧ no_ v2 k_ ∧ no_ v3 k_ ∧ k_ ≠ gb1 ∧ k_ ≠ gb2) (.slice A0_2 l0_2.length c0_2) l0_2) ∧ Aside0 (Kd.V (Kd.int .i64) 3 w' w.heap.size (fun k_ => (P0_2_ k_ ∨ w.heap.size ≤ k_) ∧ no_ v4 k_ ∧ no_ v2 k_ ∧ no_ v3 k_ ∧ k_ ≠ gb1 ∧ k_ ≠ gb2) u234002 x234002_1) ∧ Aside0 (w'.heap[gb1]? = some (.cells #[.int .i64 a0_0, .bool a0_1, (.slice A0_2 l0_2.length c0_2)] 28 (0, 0))) ∧ Aside0 (w'.heap[gb2]? = some (.cells #[.int .i64 x234000_1, .bool x234001_1, u234002] 28 (0, 0))) ∧ Aside0 (Below w.heap.size w w'))
 case atStart => exact ⟨(y1), (0), (a0_0), (a0_1), (l0_2), (.slice A0_2 l0_2.length c0_2), b2ew_, H', ⟨Nat.le_refl _⟩, ⟨by (with_reducible repeat (first | apply ra_ | apply rn_ | apply rd_)); exact Kd.R_mono (rf_ (rf_ (rf_ (Kd.R_types HO2.out BK2.out bi3y_) k2_0 _) k2_0 _) k2_0 _) (fun _ hk => ⟨hk.1.1, ⟨hk.1.2.1, hk.1.2.2⟩⟩)⟩, ⟨by (with_reducible repeat (first | apply ra_ | apply rn_ | apply rd_)); exact Kd.R_mono (rf_ (rf_ (rf_ (Kd.R_types HO3.out BK2.out bi3y_) k2_0 _) k2_0 _) k2_0 _) (fun _ hk => ⟨hk.1.1, ⟨hk.1.2.1, hk.1.2.2⟩⟩)⟩, ⟨by (with_reducible repeat (first | apply ra_ | apply rn_ | apply rd_)); exact Kd.R_mono (rf_ (rf_ (rf_ (Kd.R_types HO4.out BK2.out bi3y_) k2_0 _) k2_0 _) k2_0 _) (fun _ hk => ⟨hk.1.1, ⟨hk.1.2.1, hk.1.2.2⟩⟩)⟩, ⟨b9t7_⟩, ⟨b9t7_⟩, ⟨u1_ BK1⟩, ⟨u1_ BK2⟩, ⟨bfnq_⟩⟩
 clear H'
 try clear c1
 (try clear hcz1); (try clear hfz1)
 obtain ⟨x6_1, x10_1, x234000_1, x234001_1, x234002_1, u234002, rfl, HA, HK1, HO_1, HO_2, HO_3, HO_4, HO_5, BK1, BK2, HB⟩ := hrel
 cases gk with | zero => exact absurd HA.out (by simp [spec_BestArrival.l0]) | succ k1 => ?_
 have H := HA.out
 clear HA
 simp only [spec_BestArrival.l0] at H
 by_cases c2 : (x6_1.length : Int) < (t3.length : Int)
 case neg =>
  rw [if_neg c2] at H
  have c2b0 : decide ((x6_1.length : Int) < (t3.length : Int)) = false := decide_eq_false c2
  have c2b1 : decide (x6_1.length < t3.length) = false := decide_eq_false (fun h => c2 (Int.ofNat_lt.mpr h))
  clear c2
  simp only [sj_, pj_] at H
  obtain ⟨rfl, rfl⟩ := H
  obtain ⟨Ao1, co1, eo1⟩ := Kd.R_slice HO_1.out
  subst eo1
  obtain ⟨Ao2, co2, eo2⟩ := Kd.R_slice HO_3.out
  subst eo2
  go_wp2
  go_ret2
  exact ⟨_, bnwh_, by (with_reducible repeat (first | apply ra_ | apply rn_ | apply rd_)); exact Kd.R_mono HO_1.out (fun _ hk => hk.1), bfnq_⟩
 rw [if_pos c2] at H
 have c2b0 : decide ((x6_1.length : Int) < (t3.length : Int)) = true := dt_ c2
 have c2b1 : decide (x6_1.length < t3.length) = true := dt_ (Int.ofNat_lt.mp c2)
 clear c2
 have H' := A0_ H
 clear H
 obtain ⟨Ao1, co1, eo1⟩ := Kd.R_slice HO_1.out
 subst eo1
 obtain ⟨Ao2, co2, eo2⟩ := Kd.R_slice HO_3.out
 subst eo2
 go_wp2
 go_loopg [11] k1 (fun kq v6 w' => ∃ (x11_2 : Int), v6 = .int .i64 x11_2 ∧ Aside0 (spec_BestArrival.l1 kq a1 x6_1 t2 t3 x10_1 x11_2 x234000_1 x234001_1 x234002_1 = some (r1, r2)) ∧ Aside0 (kq ≤ k1) ∧ Aside0 (Kd.R (Kd.int .i64) 3 w' w.heap.size (fun k_ => (w.heap.size ≤ k_) ∧ no_ v2 k_ ∧ no_ (.slice Ao2 t3.length co2) k_) (.slice Ao1 x6_1.length co1) x6_1) ∧ Aside0 (Kd.R (Kd.int .i64) 3 w' w.heap.size (fun k_ => (w.heap.size ≤ k_) ∧ no_ (.slice Ao1 x6_1.length co1) k_ ∧ no_ (.slice Ao2 t3.length co2) k_) v2 t2) ∧ Aside0 (Kd.R (Kd.int .i64) 3 w' w.heap.size (fun k_ => (w.heap.size ≤ k_) ∧ no_ (.slice Ao1 x6_1.length co1) k_ ∧ no_ v2 k_) (.slice Ao2 t3.length co2) t3) ∧ Aside0 (Kd.V (Kd.int .i64) 3 w' w.heap.size (fun k_ => (P0_2_ k_ ∨ w.heap.size ≤ k_) ∧ no_ (.slice Ao1 x6_1.length co1) k_ ∧ no_ v2 k_ ∧ no_ (.slice Ao2 t3.length co2) k_ ∧ k_ ≠ gb1 ∧ k_ ≠ gb2) (.slice A0_2 l0_2.length c0_2) l0_2) ∧ Aside0 (Kd.V (Kd.int .i64) 3 w' w.heap.size (fun k_ => (P0_2_ k_ ∨ w.heap.size ≤ k_) ∧ no_ (.slice Ao1 x6_1.length co1) k_ ∧ no_ v2 k_ ∧ no_ (.slice Ao2 t3.length co2) k_ ∧ k_ ≠ gb1 ∧ k_ ≠ gb2) u234002 x234002_1) ∧ Aside0 (w'.heap[gb1]? = some (.cells #[.int .i64 a0_0, .bool a0_1, (.slice A0_2 l0_2.length c0_2)] 28 (0, 0))) ∧ Aside0 (w'.heap[gb2]? = some (.cells #[.int .i64 x234000_1, .bool x234001_1, u234002] 28 (0, 0))) ∧ Aside0 (Below w.heap.size w w'))
 case atStart => exact ⟨(0), b2ew_, H', ⟨Nat.le_refl _⟩, ⟨bwik_⟩, ⟨b7sq_⟩, ⟨bzfm_⟩, ⟨bp2e_⟩, ⟨b9i5_⟩, ⟨u1_ BK1⟩, ⟨u1_ BK2⟩, ⟨bfnq_⟩⟩
 clear H'
 try clear c1
 try clear c2
 try clear c2b0
 try clear c2b1
 (try clear hcz1); (try clear hfz1)
 obtain ⟨x11_2, rfl, HA, HK2, HO_1, HO_2, HO_3, HO_4, HO_5, BK1, BK2, HB⟩ := hrel
 cases gk with | zero => exact absurd HA.out (by simp [spec_BestArrival.l1]) | succ k2 => ?_
 have H := HA.out
 clear HA
 simp only [spec_BestArrival.l1] at H
 by_cases c3 : 0 ≤ x11_2
 case neg =>
  rw [if_neg c3] at H
  exact absurd H bxka_
 rw [if_pos c3] at H
 have c3b0 := eq_true c3
 have c3b1 : decide (0 ≤ x11_2) = true := dt_ c3
 clear c3
 obtain ⟨ji1, hji1⟩ : ∃ j_ : Int, (shr .i64 x10_1 x11_2) = j_ := ⟨_, rfl⟩
 replace H : (if (Go.bits .and .i64 (ji1) 1) = 1 then (spec_BestArrival.l1 k2 a1 x6_1 t2 t3 x10_1 (wrap64 (x11_2 + 1)) x234000_1 x234001_1 x234002_1) else (if x11_2 < (t3.length : Int) then ((spec_l10Stands.f k2 x234000_1 x234001_1 x234002_1 (rd t3 x11_2) a1).bind fun t4 => (if 0 ≤ (wrap64 (x10_1 + (shl .i64 1 x11_2))) then (if (wrap64 (x10_1 + (shl .i64 1 x11_2))) < (t2.length : Int) then (if 0 ≤ x10_1 then (if x10_1 < (t2.length : Int) then (if (wrap64 (t4 + (rd t2 (wrap64 (x10_1 + (shl .i64 1 x11_2)))))) = (rd t2 x10_1) then (if x6_1.length < 17592186044416 then ((spec_l2With.f k2 x234000_1 x234001_1 x234002_1 (rd t3 x11_2)).bind fun bt1 => (spec_BestArrival.l0 k2 a1 (x6_1 ++ [rd t3 x11_2]) t2 t3 (wrap64 (x10_1 + (shl .i64 1 x11_2))) bt1.1 bt1.2.1 bt1.2.2)) else (none)) else (spec_BestArrival.l1 k2 a1 x6_1 t2 t3 x10_1 (wrap64 (x11_2 + 1)) x234000_1 x234001_1 x234002_1)) else (none)) else (none)) else (none)) else (none))) else (none))) = some (r1, r2) := bmns_
 have hji1_ : (x10_1 / 2 ^ min x11_2.toNat 64) = ji1 := hji1
 have hji24z : x11_2 ≤ 64 → (x10_1 / 2 ^ x11_2.toNat) = ji1 := shr_small hji1
 by_cases c4 : (Go.bits .and .i64 (ji1) 1) = 1
 ·rw [if_pos c4] at H
  obtain ⟨c4b0, c4b1⟩ := et_ c4
  clear c4
  have H' := A0_ H
  clear H
  try go_wp2
  replace HO_1 := A0_ (rd_ HO_1.out)
  replace HO_2 := A0_ (rd_ HO_2.out)
  replace HO_3 := A0_ (rd_ HO_3.out)
  replace HO_4 := A0_ (Kd.V_drew HO_4.out)
  replace HO_5 := A0_ (Kd.V_drew HO_5.out)
  replace BK1 := A0_ (kd_ BK1.out)
  replace BK2 := A0_ (kd_ BK2.out)
  replace HB := A0_ (bd_ HB.out)
  refine start_ (n := 27) (S := fun w' => True) (ds := []) #[false, false, false, false, false, false, false, false, false, false, false, false, false, false, false, false, false, false, false, false, false, false, false, false, false, false, false] bfqv_ rfl rfl trivial (fun hHeld => ?_); refine with_tabW spec_BestArrival.tab7 spec_BestArrival.bits7 (fun HT_ HW_ => ?_)
  generalize wr.drew = w6 at HO_1 HO_2 HO_3 HO_4 HO_5 BK1 BK2 HB hHeld ⊢
  refine pu_ 0 28 ?_
  refine pu_ 1 29 ?_
  refine pu_ 2 30 ?_
  refine pu_ 3 31 ?_
  refine pu_ 4 32 ?_
  refine pu_ 5 33 ?_
  refine pv_ 6 34 ?_
  refine pv_ 7 35 ?_
  refine pv_ 8 36 ?_
  refine pv_ 9 37 ?_
  refine pv_ 10 38 ?_
  refine pv_ 11 39 ?_
  refine pv_ 12 40 ?_
  refine pv_ 13 41 ?_
  refine pv_ 14 42 ?_
  refine pv_ 15 43 ?_
  refine pv_ 16 44 ?_
  refine pv_ 17 45 ?_
  refine pv_ 18 46 ?_
  refine pv_ 19 47 ?_
  refine pv_ 20 48 ?_
  refine pv_ 21 49 ?_
  refine pv_ 22 50 ?_
  refine pv_ 23 51 ?_
  refine pv_ 24 52 ?_
  refine pv_ 25 53 ?_
  refine pu_ 26 54 ?_
  refine dn_ ?_
  try go_wp2
  go_roundg k2
  case measure => have := HK1.out; have := HK2.out; omega
  exact ⟨(wrap64 (x11_2 + 1)), b2ew_, H', ⟨b0r5_⟩, ⟨bwik_⟩, ⟨b7sq_⟩, ⟨bzfm_⟩, ⟨bp2e_⟩, ⟨b9i5_⟩, ⟨u1_ BK1⟩, ⟨u1_ BK2⟩, ⟨bfnq_⟩⟩
 rw [if_neg c4] at H
 obtain ⟨c4b0, c4b1⟩ := ef_ c4
 by_cases c5 : x11_2 < (t3.length : Int)
 case neg =>
  rw [if_neg c5] at H
  exact absurd H bxka_
 rw [if_pos c5] at H
 have c5b0 : decide (x11_2 < (t3.length : Int)) = true := dt_ c5
 clear c5
 obtain ⟨t4, A8, H⟩ := o1_ H
 have c6b0 := eq_true (od_ bpil_ : 0 ≤ x11_2)
 obtain ⟨ji2, hji2⟩ : ∃ j_ : Int, (shl .i64 1 x11_2) = j_ := ⟨_, rfl⟩
 replace H : (if 0 ≤ (wrap64 (x10_1 + (ji2))) then (if (wrap64 (x10_1 + (ji2))) < (t2.length : Int) then (if 0 ≤ x10_1 then (if x10_1 < (t2.length : Int) then (if (wrap64 (t4 + (rd t2 (wrap64 (x10_1 + (ji2)))))) = (rd t2 x10_1) then (if x6_1.length < 17592186044416 then ((spec_l2With.f k2 x234000_1 x234001_1 x234002_1 (rd t3 x11_2)).bind fun bt1 => (spec_BestArrival.l0 k2 a1 (x6_1 ++ [rd t3 x11_2]) t2 t3 (wrap64 (x10_1 + (ji2))) bt1.1 bt1.2.1 bt1.2.2)) else (none)) else (spec_BestArrival.l1 k2 a1 x6_1 t2 t3 x10_1 (wrap64 (x11_2 + 1)) x234000_1 x234001_1 x234002_1)) else (none)) else (none)) else (none)) else (none)) = some (r1, r2) := b9dm_
 (try rw [hji2] at A8)
 have hji2_ : (IntKind.i64.wrap (1 * 2 ^ min x11_2.toNat 64)) = ji2 := hji2
 have hji30z : x11_2 ≤ 64 → (IntKind.i64.wrap (1 * 2 ^ x11_2.toNat)) = ji2 := shl_small hji2
 have hji30u : (IntKind.i64.wrap (2 ^ min x11_2.toNat 64)) = ji2 := by have h_ := hji2_; rw [Int.one_mul] at h_; exact h_
 have hji30v : x11_2 ≤ 64 → (IntKind.i64.wrap (2 ^ x11_2.toNat)) = ji2 := fun hle_ => by have h_ := hji30z hle_; rw [Int.one_mul] at h_; exact h_
 have hji30y : (wrap64 (1 * 2 ^ min x11_2.toNat 64)) = ji2 := (i64_w _).symm.trans hji2_
 have hji30x : x11_2 ≤ 64 → (wrap64 (1 * 2 ^ x11_2.toNat)) = ji2 := fun h_ => (i64_w _).symm.trans (hji30z h_)
 obtain ⟨ji3, hji3⟩ : ∃ j_ : Int, (wrap64 (x10_1 + (ji2))) = j_ := ⟨_, rfl⟩
 replace H : (if 0 ≤ (ji3) then (if (ji3) < (t2.length : Int) then (if 0 ≤ x10_1 then (if x10_1 < (t2.length : Int) then (if (wrap64 (t4 + (rd t2 (ji3)))) = (rd t2 x10_1) then (if x6_1.length < 17592186044416 then ((spec_l2With.f k2 x234000_1 x234001_1 x234002_1 (rd t3 x11_2)).bind fun bt1 => (spec_BestArrival.l0 k2 a1 (x6_1 ++ [rd t3 x11_2]) t2 t3 ji3 bt1.1 bt1.2.1 bt1.2.2)) else (none)) else (spec_BestArrival.l1 k2 a1 x6_1 t2 t3 x10_1 (wrap64 (x11_2 + 1)) x234000_1 x234001_1 x234002_1)) else (none)) else (none)) else (none)) else (none)) = some (r1, r2) := by first | (rw [hji3] at H; exact H) | (simp only [hji3] at H ⊢; exact H)
 (try rw [hji3] at A8)
 have hji31w : (IntKind.i64.wrap (x10_1 + (ji2))) = ji3 := (i64_w _).trans hji3
 by_cases c7 : 0 ≤ (ji3)
 case neg =>
  rw [if_neg c7] at H
  exact absurd H bxka_
 rw [if_pos c7] at H
 have c7b0 : decide (0 ≤ (ji3)) = true := dt_ c7
 clear c7
 by_cases c8 : (ji3) < (t2.length : Int)
 case neg =>
  rw [if_neg c8] at H
  exact absurd H bxka_
 rw [if_pos c8] at H
 have c8b0 : decide ((ji3) < (t2.length : Int)) = true := dt_ c8
 clear c8
 by_cases c9 : 0 ≤ x10_1
 case neg =>
  rw [if_neg c9] at H
  exact absurd H bxka_
 rw [if_pos c9] at H
 have c9b0 : decide (0 ≤ x10_1) = true := dt_ c9
 clear c9
 by_cases c10 : x10_1 < (t2.length : Int)
 case neg =>
  rw [if_neg c10] at H
  exact absurd H bxka_
 rw [if_pos c10] at H
 have c10b0 : decide (x10_1 < (t2.length : Int)) = true := dt_ c10
 clear c10
 by_cases c11 : (wrap64 (t4 + (rd t2 (ji3)))) = (rd t2 x10_1)
 case neg =>
  rw [if_neg c11] at H
  obtain ⟨c11b0, c11b1⟩ := ef_ c11
  have H' := A0_ H
  clear H
  try go_wp2
  replace HO_1 := A0_ (rd_ HO_1.out)
  replace HO_2 := A0_ (rd_ HO_2.out)
  replace HO_3 := A0_ (rd_ HO_3.out)
  replace HO_4 := A0_ (Kd.V_drew HO_4.out)
  replace HO_5 := A0_ (Kd.V_drew HO_5.out)
  replace BK1 := A0_ (kd_ BK1.out)
  replace BK2 := A0_ (kd_ BK2.out)
  replace HB := A0_ (bd_ HB.out)
  have p1 : 0 ≤ (x11_2 : Int) := od_ bpil_
  have q1 : x11_2 < (t3.length : Int) := od_ bpil_
  obtain ⟨ad1, e1, hx1_0⟩ := Kd.at_int (rr_ HO_3.out).2.2 x11_2 p1 q1
  cases e1
  replace p1 := eq_true p1
  replace q1 := eq_true q1
  obtain ⟨Ao3, co3, eo3⟩ := Kd.R_slice HO_2.out
  (first | subst eo3 | (injection eo3 with f1_ f2_ f3_; have f4_ := f1_.symm; have f5_ := f3_.symm; clear f1_ f2_ f3_; subst f4_; subst f5_))
  have p2 : 0 ≤ ((ji3) : Int) := od_ bpil_
  have q2 : (ji3) < (t2.length : Int) := od_ bpil_
  obtain ⟨ad2, e2, hx2_0⟩ := Kd.at_int (rr_ HO_2.out).2.2 (ji3) p2 q2
  cases e2
  replace p2 := eq_true p2
  replace q2 := eq_true q2
  have p3 : 0 ≤ (x10_1 : Int) := od_ bpil_
  have q3 : x10_1 < (t2.length : Int) := od_ bpil_
  obtain ⟨ad3, e3, hx3_0⟩ := Kd.at_int (rr_ HO_2.out).2.2 x10_1 p3 q3
  obtain rfl : ad2 = ad3 := (by injection e3)
  replace p3 := eq_true p3
  replace q3 := eq_true q3
  obtain ⟨Ao4, co4, eo4⟩ := Kd.V_slice HO_5.out
  (first | subst eo4 | (injection eo4 with f1_ f2_ f3_; have f4_ := f1_.symm; have f5_ := f3_.symm; clear f1_ f2_ f3_; subst f4_; subst f5_))
  refine start_ (n := 27) (S := fun w' => w'.cell? ⟨gb2, 0, none⟩ = some (.int .i64 x234000_1) ∧ w'.cell? ⟨gb2, 1, none⟩ = some (.bool x234001_1) ∧ w'.cell? ⟨gb2, 2, none⟩ = some (.slice Ao4 x234002_1.length co4) ∧ w'.cell? (ad1.add (x11_2).toNat) = some (.int .i64 (rd t3 x11_2)) ∧ w'.cell? (ad2.add ((ji3)).toNat) = some (.int .i64 (rd t2 (ji3))) ∧ w'.cell? (ad2.add (x10_1).toNat) = some (.int .i64 (rd t2 x10_1))) (ds := []) #[false, false, false, false, false, false, false, false, false, false, false, false, false, false, false, false, false, false, false, false, false, false, false, false, false, false, false] bfqv_ rfl rfl ⟨(kc_ BK2.out 0).trans rfl, (kc_ BK2.out 1).trans rfl, (kc_ BK2.out 2).trans rfl, hx1_0, hx2_0, hx3_0⟩ (fun hHeld => ?_); refine with_tabW spec_BestArrival.tab7 spec_BestArrival.bits7 (fun HT_ HW_ => ?_)
  generalize wr.drew = w6 at HO_1 HO_2 HO_3 HO_4 HO_5 BK1 BK2 HB hx1_0 hx2_0 hx3_0 hHeld ⊢
  refine pu_ 0 28 ?_
  refine pu_ 1 29 ?_
  refine pu_ 2 30 ?_
  refine pu_ 3 31 ?_
  refine pu_ 4 32 ?_
  refine pu_ 5 33 ?_
  refine pu_ 7 35 ?_
  refine pu_ 8 36 ?_
  refine pu_ 9 37 ?_
  refine pu_ 11 39 ?_
  refine pu_ 13 41 ?_
  refine pu_ 14 42 ?_
  refine pu_ 15 43 ?_
  refine pu_ 16 44 ?_
  refine pu_ 17 45 ?_
  refine pu_ 18 46 ?_
  refine pu_ 21 49 ?_
  refine pu_ 22 50 ?_
  refine pu_ 23 51 ?_
  refine tk_ 6 34 hHeld ?_
  refine tk_ 10 38 hHeld ?_
  refine tk_ 19 47 hHeld ?_
  refine tk_ 24 52 hHeld ?_
  refine on_ 12 (some 40) (fun K hK => ?_)
  refine gs_ Tryd.func43 #[.agg #[.int .i64 x234000_1, .bool x234001_1, .slice Ao4 x234002_1.length co4], .int .i64 (rd t3 x11_2), .bool a1] ?_
  with_reducible refine (spec_l10Stands.calls k2 x234000_1 x234001_1 _ _ x234002_1 (rd t3 x11_2) a1 t4 _ ?side1 ?side2 A8.out).mono ?_
  (case side1 => exact b2rz_)
  (case side2 => exact (Kd.V_reads' HO_5.out).2.1)
  rintro e w7 ⟨rfl, hb⟩
  have HS3_ := (hb.cell (World.block_lt_of_cell? _ _ (hHeld.2.2.2.1))).trans (hHeld.2.2.2.1)
  have HS4_ := (hb.cell (World.block_lt_of_cell? _ _ (hHeld.2.2.2.2.1))).trans (hHeld.2.2.2.2.1)
  have HS5_ := (hb.cell (World.block_lt_of_cell? _ _ (hHeld.2.2.2.2.2))).trans (hHeld.2.2.2.2.2)
  refine ⟨_, rfl, ?_⟩
  replace HO_1 := A0_ (Kd.R_below bwik_ hb)
  replace HO_2 := A0_ (Kd.R_below b7sq_ hb)
  replace HO_3 := A0_ (Kd.R_below bzfm_ hb)
  replace HO_4 := A0_ (Kd.V_below bp2e_ hb)
  replace HO_5 := A0_ (Kd.V_below b9i5_ hb)
  replace BK1 := k1_ BK1 hb
  replace BK2 := k1_ BK2 hb
  replace HB := hb_ hb bfnq_
  (try clear hb)
  refine hK.out _ _ ⟨(kc_ BK2.out 0).trans rfl, (kc_ BK2.out 1).trans rfl, (kc_ BK2.out 2).trans rfl, HS3_, HS4_, HS5_⟩ (fun hHeld => ?_)
  clear hK K
  refine nm_ 40 ?_
  refine pu_ 20 48 ?_
  refine pu_ 25 53 ?_
  refine pu_ 26 54 ?_
  refine dn_ ?_
  try go_wp2
  go_roundg k2
  case measure => have := HK1.out; have := HK2.out; omega
  exact ⟨(wrap64 (x11_2 + 1)), b2ew_, H', ⟨b0r5_⟩, ⟨bwik_⟩, ⟨b7sq_⟩, ⟨bzfm_⟩, ⟨bp2e_⟩, ⟨b9i5_⟩, ⟨u1_ BK1⟩, ⟨u1_ BK2⟩, ⟨bfnq_⟩⟩
 rw [if_pos c11] at H
 obtain ⟨c11b0, c11b1⟩ := et_ c11
 clear c11
 by_cases c12 : x6_1.length < 17592186044416
 case neg =>
  rw [if_neg c12] at H
  exact absurd H bxka_
 rw [if_pos c12] at H
 have LMc1 := A0_ c12
 clear c12
 obtain ⟨y2, hy2⟩ : ∃ y_ : List Int, y_ = (x6_1 ++ [rd t3 x11_2]) := ⟨_, rfl⟩
 replace H : ((spec_l2With.f k2 x234000_1 x234001_1 x234002_1 (rd t3 x11_2)).bind fun bt1 => (spec_BestArrival.l0 k2 a1 y2 t2 t3 ji3 bt1.1 bt1.2.1 bt1.2.2)) = some (r1, r2) := bscs_
 have Ny2 := A0_ hy2
 clear hy2
 obtain ⟨⟨t5, t6, t7⟩, A10, H⟩ := o1_ H
 have c13b0 := eq_true (od_ bpil_ : 0 ≤ x11_2)
 have c14b0 := eq_true (od_ bpil_ : 0 ≤ x11_2)
 have H' := A0_ H
 clear H
 try go_wp2
 replace HO_1 := A0_ (rd_ HO_1.out)
 replace HO_2 := A0_ (rd_ HO_2.out)
 replace HO_3 := A0_ (rd_ HO_3.out)
 replace HO_4 := A0_ (Kd.V_drew HO_4.out)
 replace HO_5 := A0_ (Kd.V_drew HO_5.out)
 replace BK1 := A0_ (kd_ BK1.out)
 replace BK2 := A0_ (kd_ BK2.out)
 replace HB := A0_ (bd_ HB.out)
 have p1 : 0 ≤ (x11_2 : Int) := od_ bpil_
 have q1 : x11_2 < (t3.length : Int) := od_ bpil_
 obtain ⟨ad1, e1, hx1_0⟩ := Kd.at_int (rr_ HO_3.out).2.2 x11_2 p1 q1
 cases e1
 replace p1 := eq_true p1
 replace q1 := eq_true q1
 obtain ⟨Ao3, co3, eo3⟩ := Kd.R_slice HO_2.out
 (first | subst eo3 | (injection eo3 with f1_ f2_ f3_; have f4_ := f1_.symm; have f5_ := f3_.symm; clear f1_ f2_ f3_; subst f4_; subst f5_))
 have p2 : 0 ≤ ((ji3) : Int) := od_ bpil_
 have q2 : (ji3) < (t2.length : Int) := od_ bpil_
 obtain ⟨ad2, e2, hx2_0⟩ := Kd.at_int (rr_ HO_2.out).2.2 (ji3) p2 q2
 cases e2
 replace p2 := eq_true p2
 replace q2 := eq_true q2
 have p3 : 0 ≤ (x10_1 : Int) := od_ bpil_
 have q3 : x10_1 < (t2.length : Int) := od_ bpil_
 obtain ⟨ad3, e3, hx3_0⟩ := Kd.at_int (rr_ HO_2.out).2.2 x10_1 p3 q3
 obtain rfl : ad2 = ad3 := (by injection e3)
 replace p3 := eq_true p3
 replace q3 := eq_true q3
 obtain ⟨Ao4, co4, eo4⟩ := Kd.V_slice HO_5.out
 (first | subst eo4 | (injection eo4 with f1_ f2_ f3_; have f4_ := f1_.symm; have f5_ := f3_.symm; clear f1_ f2_ f3_; subst f4_; subst f5_))
 refine start_ (n := 27) (S := fun w' => w'.cell? ⟨gb2, 0, none⟩ = some (.int .i64 x234000_1) ∧ w'.cell? ⟨gb2, 1, none⟩ = some (.bool x234001_1) ∧ w'.cell? ⟨gb2, 2, none⟩ = some (.slice Ao4 x234002_1.length co4) ∧ w'.cell? (ad1.add (x11_2).toNat) = some (.int .i64 (rd t3 x11_2)) ∧ w'.cell? (ad2.add ((ji3)).toNat) = some (.int .i64 (rd t2 (ji3))) ∧ w'.cell? (ad2.add (x10_1).toNat) = some (.int .i64 (rd t2 x10_1))) (ds := []) #[false, false, false, false, false, false, false, false, false, false, false, false, false, false, false, false, false, false, false, false, false, false, false, false, false, false, false] bfqv_ rfl rfl ⟨(kc_ BK2.out 0).trans rfl, (kc_ BK2.out 1).trans rfl, (kc_ BK2.out 2).trans rfl, hx1_0, hx2_0, hx3_0⟩ (fun hHeld => ?_); refine with_tabW spec_BestArrival.tab7 spec_BestArrival.bits7 (fun HT_ HW_ => ?_)
 generalize wr.drew = w6 at HO_1 HO_2 HO_3 HO_4 HO_5 BK1 BK2 HB hx1_0 hx2_0 hx3_0 hHeld ⊢
 refine pu_ 0 28 ?_
 refine pu_ 1 29 ?_
 refine pu_ 2 30 ?_
 refine pu_ 3 31 ?_
 refine pu_ 4 32 ?_
 refine pu_ 5 33 ?_
 refine pu_ 7 35 ?_
 refine pu_ 8 36 ?_
 refine pu_ 9 37 ?_
 refine pu_ 11 39 ?_
 refine pu_ 13 41 ?_
 refine pu_ 14 42 ?_
 refine pu_ 15 43 ?_
 refine pu_ 16 44 ?_
 refine pu_ 17 45 ?_
 refine pu_ 18 46 ?_
 refine pu_ 21 49 ?_
 refine pu_ 22 50 ?_
 refine pu_ 23 51 ?_
 refine tk_ 6 34 hHeld ?_
 refine tk_ 10 38 hHeld ?_
 refine tk_ 19 47 hHeld ?_
 refine tk_ 24 52 hHeld ?_
 refine on_ 12 (some 40) (fun K hK => ?_)
 refine gs_ Tryd.func43 #[.agg #[.int .i64 x234000_1, .bool x234001_1, .slice Ao4 x234002_1.length co4], .int .i64 (rd t3 x11_2), .bool a1] ?_
 with_reducible refine (spec_l10Stands.calls k2 x234000_1 x234001_1 _ _ x234002_1 (rd t3 x11_2) a1 t4 _ ?side1 ?side2 A8.out).mono ?_
 (case side1 => exact b2rz_)
 (case side2 => exact (Kd.V_reads' HO_5.out).2.1)
 rintro e w7 ⟨rfl, hb⟩
 have HS3_ := (hb.cell (World.block_lt_of_cell? _ _ (hHeld.2.2.2.1))).trans (hHeld.2.2.2.1)
 have HS4_ := (hb.cell (World.block_lt_of_cell? _ _ (hHeld.2.2.2.2.1))).trans (hHeld.2.2.2.2.1)
 have HS5_ := (hb.cell (World.block_lt_of_cell? _ _ (hHeld.2.2.2.2.2))).trans (hHeld.2.2.2.2.2)
 refine ⟨_, rfl, ?_⟩
 replace HO_1 := A0_ (Kd.R_below bwik_ hb)
 replace HO_2 := A0_ (Kd.R_below b7sq_ hb)
 replace HO_3 := A0_ (Kd.R_below bzfm_ hb)
 replace HO_4 := A0_ (Kd.V_below bp2e_ hb)
 replace HO_5 := A0_ (Kd.V_below b9i5_ hb)
 replace BK1 := k1_ BK1 hb
 replace BK2 := k1_ BK2 hb
 replace HB := hb_ hb bfnq_
 (try clear hb)
 refine hK.out _ _ ⟨(kc_ BK2.out 0).trans rfl, (kc_ BK2.out 1).trans rfl, (kc_ BK2.out 2).trans rfl, HS3_, HS4_, HS5_⟩ (fun hHeld => ?_)
 clear hK K
 refine nm_ 40 ?_
 refine pu_ 20 48 ?_
 refine pu_ 25 53 ?_
 refine pu_ 26 54 ?_
 refine dn_ ?_
 have p4 : 0 ≤ (x11_2 : Int) := od_ bpil_
 have q4 : x11_2 < (t3.length : Int) := od_ bpil_
 obtain ⟨ad4, e4, hx4_0⟩ := Kd.at_int (rr_ HO_3.out).2.2 x11_2 p4 q4
 obtain rfl : ad1 = ad4 := (by injection e4)
 replace p4 := eq_true p4
 replace q4 := eq_true q4
 try go_wp2_with (first | ((with_reducible refine gate_builtin (b := .append) (xs := #[.tmp 57, .tmp 62]) rfl ?_); at_builtin; refine Kd.R_append (Kd.int .i64) (w0 := w) w.heap.size rfl (.tmp 57) (.tmp 62) 22 3 (.int .i64 0) 8 rfl Tryd.underlying22 info3 rfl bi3y_ bh19_ (.slice Ao1 x6_1.length co1) x6_1 (rd t3 x11_2) [.int .i64 (rd t3 x11_2)] (fun k_ => (w.heap.size ≤ k_) ∧ no_ (.slice (some ad2) t2.length co3) k_ ∧ no_ (.slice (some ad1) t3.length co2) k_) (fun _ => False) rfl rfl ?aP (fun _ hk => hk.elim) ?aF ?aO ?aB ?aS ?aL ?_; (case aP => exact rfl); (case aB => exact bfnq_); (case aF => exact (fun k_ hk => ⟨(Nat.le_trans (bz_ bfnq_) hk), Kd.fresh' (Kd.R_lt b7sq_) k_ hk, Kd.fresh' (Kd.R_lt bzfm_) k_ hk⟩)); (case aO => exact bwik_); (case aS => exact (bz_ bfnq_)); (case aL => have := LMc1.out; omega); intro v7 w8 ho hb hg hat; rw [← Ny2.out] at ho; have n0_ := A0_ (Kd.R_after (ok := (fun k_ => (w.heap.size ≤ k_) ∧ no_ (.slice (some ad1) t3.length co2) k_)) (by (with_reducible repeat (first | apply ra_ | apply rn_ | apply rd_)); exact Kd.R_mono HO_2.out (fun _ hk => ⟨⟨hk.1, hk.2.2⟩, hk.2.1⟩)) hg hat); have n1_ := A0_ (Kd.R_after (ok := (fun k_ => (w.heap.size ≤ k_) ∧ no_ (.slice (some ad2) t2.length co3) k_)) (by (with_reducible repeat (first | apply ra_ | apply rn_ | apply rd_)); exact Kd.R_mono HO_3.out (fun _ hk => ⟨⟨hk.1, hk.2.2⟩, hk.2.1⟩)) hg hat); have n2_ := A0_ (Kd.V_afterv (ok := (fun k_ => (P0_2_ k_ ∨ w.heap.size ≤ k_) ∧ no_ (.slice (some ad2) t2.length co3) k_ ∧ no_ (.slice (some ad1) t3.length co2) k_ ∧ k_ ≠ gb1 ∧ k_ ≠ gb2)) (by (with_reducible repeat (first | apply Kd.V_alloc | apply Kd.V_drewN | apply Kd.V_drew)); exact Kd.V_mono HO_4.out (fun _ hk => ⟨⟨hk.1, ⟨hk.2.2.1, ⟨hk.2.2.2.1, ⟨hk.2.2.2.2.1, hk.2.2.2.2.2⟩⟩⟩⟩, hk.2.1⟩)) hg hat); have n3_ := A0_ (Kd.V_afterv (ok := (fun k_ => (P0_2_ k_ ∨ w.heap.size ≤ k_) ∧ no_ (.slice (some ad2) t2.length co3) k_ ∧ no_ (.slice (some ad1) t3.length co2) k_ ∧ k_ ≠ gb1 ∧ k_ ≠ gb2)) (by (with_reducible repeat (first | apply Kd.V_alloc | apply Kd.V_drewN | apply Kd.V_drew)); exact Kd.V_mono HO_5.out (fun _ hk => ⟨⟨hk.1, ⟨hk.2.2.1, ⟨hk.2.2.2.1, ⟨hk.2.2.2.2.1, hk.2.2.2.2.2⟩⟩⟩⟩, hk.2.1⟩)) hg hat); have n4_ := A0_ (blk_grown (g := gb1) (o := .cells #[.int .i64 a0_0, .bool a0_1, .slice A0_2 l0_2.length c0_2] 28 (0, 0)) (u1_ BK1) hg (Kd.R_ne HO_1.out BK1.out bi3y_)); have n5_ := A0_ (blk_grown (g := gb2) (o := .cells #[.int .i64 x234000_1, .bool x234001_1, .slice Ao4 x234002_1.length co4] 28 (0, 0)) (u1_ BK2) hg (Kd.R_ne HO_1.out BK2.out bi3y_)); have n6_ := A0_ (hb); have n7_ := A0_ (ho); clear HO_2 HO_3 HO_4 HO_5 BK1 BK2 HB HO_1; have HO_2 := n0_; have HO_3 := n1_; have HO_4 := n2_; have HO_5 := n3_; have BK1 := n4_; have BK2 := n5_; have HB := n6_; have HO5 := n7_; clear n0_ n1_ n2_ n3_ n4_ n5_ n6_ n7_ ho hb hg hat))
 replace HO_2 := A0_ (rd_ HO_2.out)
 replace HO_3 := A0_ (rd_ HO_3.out)
 replace HO_4 := A0_ (Kd.V_drew HO_4.out)
 replace HO_5 := A0_ (Kd.V_drew HO_5.out)
 replace HO5 := A0_ (rd_ HO5.out)
 replace BK1 := A0_ (kd_ BK1.out)
 replace BK2 := A0_ (kd_ BK2.out)
 replace HB := A0_ (bd_ HB.out)
 have p5 : 0 ≤ (x11_2 : Int) := od_ bpil_
 have q5 : x11_2 < (t3.length : Int) := od_ bpil_
 obtain ⟨ad5, e5, hx5_0⟩ := Kd.at_int (rr_ HO_3.out).2.2 x11_2 p5 q5
 obtain rfl : ad1 = ad5 := (by injection e5)
 replace p5 := eq_true p5
 replace q5 := eq_true q5
 refine start_ (n := 7) (S := fun w' => w'.cell? ⟨gb2, 0, none⟩ = some (.int .i64 x234000_1) ∧ w'.cell? ⟨gb2, 1, none⟩ = some (.bool x234001_1) ∧ w'.cell? ⟨gb2, 2, none⟩ = some (.slice Ao4 x234002_1.length co4) ∧ w'.cell? (ad1.add (x11_2).toNat) = some (.int .i64 (rd t3 x11_2))) (ds := [6]) #[false, false, false, false, false, false, false] bfqv_ rfl rfl ⟨(kc_ BK2.out 0).trans rfl, (kc_ BK2.out 1).trans rfl, (kc_ BK2.out 2).trans rfl, hx5_0⟩ (fun hHeld => ?_)
 generalize w8.drew = w9 at HO_2 HO_3 HO_4 HO_5 HO5 BK1 BK2 HB hx5_0 hHeld ⊢
 refine pu_ 1 65 ?_
 refine pu_ 2 66 ?_
 refine pu_ 3 67 ?_
 refine tk_ 0 64 hHeld ?_
 refine tk_ 4 68 hHeld ?_
 refine on_ 5 (some 69) (fun K hK => ?_)
 refine gs_ Tryd.func44 #[.agg #[.int .i64 x234000_1, .bool x234001_1, .slice Ao4 x234002_1.length co4], .int .i64 (rd t3 x11_2)] ?_
 with_reducible refine (spec_l2With.calls k2 x234000_1 x234001_1 _ _ x234002_1 (rd t3 x11_2) t5 t6 t7 _ ?side1 ?side2 A10.out).mono ?_
 (case side1 => exact b2rz_)
 (case side2 => exact (Kd.V_reads' HO_5.out).2.1)
 rintro e w10 ⟨v8, rfl, ho0, hb⟩
 have HS3_ := (hb.cell (World.block_lt_of_cell? _ _ (hHeld.2.2.2))).trans (hHeld.2.2.2)
 refine ⟨_, rfl, ?_⟩
 replace HO_4 := A0_ (Kd.V_elder' bp2e_ (Kd.R_base ho0) hb)
 replace HO_5 := A0_ (Kd.V_elder' b9i5_ (Kd.R_base ho0) hb)
 have HO6 := A0_ (Kd.R_lower (Kd.R_new' (Kd.R_new' (Kd.R_new' (Kd.R_newM (M := fun k_ => (w.heap.size ≤ k_)) ho0 (bz_ bfnq_) (fun k_ h_ => h_)) (Kd.R_lt b7sq_)) (Kd.R_lt bzfm_)) (Kd.R_lt bzg4_)) (bz_ bfnq_))
 replace HO_2 := A0_ (Kd.R_elder' b7sq_ (Kd.R_base ho0) hb)
 replace HO_3 := A0_ (Kd.R_elder' bzfm_ (Kd.R_base ho0) hb)
 replace HO5 := A0_ (Kd.R_elder' bzg4_ (Kd.R_base ho0) hb)
 replace BK1 := k1_ BK1 hb
 replace BK2 := k1_ BK2 hb
 replace HB := hb_ hb bfnq_
 (try clear hb); (try clear ho0)
 obtain ⟨Ao5, co5, eo5⟩ := Kd.R_slice HO6.out
 (first | subst eo5 | (injection eo5 with f1_ f2_ f3_; have f4_ := f1_.symm; have f5_ := f3_.symm; clear f1_ f2_ f3_; subst f4_; subst f5_))
 refine hK.out _ _ ⟨(kc_ BK2.out 0).trans rfl, (kc_ BK2.out 1).trans rfl, (kc_ BK2.out 2).trans rfl, HS3_⟩ (fun hHeld => ?_)
 clear hK K
 refine nm_ 69 ?_
 refine last_ (i := 6) (N := none) #[true, true, true, true, true, true, true] rfl rfl bfqv_ bi3y_ (fun K hK => ?_)
 have hs48 : w10.cell? ⟨gb2, 0, none⟩ = some (.int .i64 x234000_1) := (kc_ BK2.out 0).trans rfl
 have hfs48 := kf_ BK2.out 0
 have hns4_0 := NB1_2.out
 have hms4_0 := NB2_1.out
 have hs49 : w10.cell? ⟨gb2, 1, none⟩ = some (.bool x234001_1) := (kc_ BK2.out 1).trans rfl
 have hfs49 := kf_ BK2.out 1
 have hns5_0 := NB1_2.out
 have hms5_0 := NB2_1.out
 have hs51 : w10.cell? ⟨gb2, 2, none⟩ = some (.slice Ao4 x234002_1.length co4) := (kc_ BK2.out 2).trans rfl
 have hfs51 := kf_ BK2.out 2
 have hns6_0 := NB1_2.out
 have hms6_0 := NB2_1.out
 refine skip_ (w1 := ?_) b139_ rfl ?_ ?_
 rotate_left
 ·go_simp
  rfl
 refine hK.out _ _ ?_
 clear hK K
 refine done_ bfqv_ ?_
 try go_wp2
 go_roundg k2
 case measure => have := HK1.out; have := HK2.out; omega
 exact ⟨(y2), (ji3), (t5), (t6), (t7), (.slice Ao5 t7.length co5), (by first | rfl | (simp; done) | (simp only [← hji3] <;> (first | rfl | simp)) | (simp [*]; done)), H', ⟨b0r5_⟩, ⟨by (with_reducible repeat (first | apply ra_ | apply rn_ | apply rd_)); exact Kd.R_mono (rf_ (rf_ (rf_ (Kd.R_types HO5.out BK2.out bi3y_) k2_0 _) k2_0 _) k2_0 _) (fun _ hk => ⟨hk.1.1.1, ⟨hk.1.1.2.1, hk.1.1.2.2⟩⟩)⟩, ⟨by (with_reducible repeat (first | apply ra_ | apply rn_ | apply rd_)); exact Kd.R_mono (rf_ (rf_ (rf_ (Kd.R_types HO_2.out BK2.out bi3y_) k2_0 _) k2_0 _) k2_0 _) (fun _ hk => ⟨hk.1.1.1.1, ⟨hk.1.1.2, hk.1.1.1.2⟩⟩)⟩, ⟨by (with_reducible repeat (first | apply ra_ | apply rn_ | apply rd_)); exact Kd.R_mono (rf_ (rf_ (rf_ (Kd.R_types HO_3.out BK2.out bi3y_) k2_0 _) k2_0 _) k2_0 _) (fun _ hk => ⟨hk.1.1.1.1, ⟨hk.1.1.2, hk.1.1.1.2⟩⟩)⟩, ⟨by (with_reducible repeat (first | apply Kd.V_alloc | apply Kd.V_drewN | apply Kd.V_drew)); exact Kd.V_mono (Kd.V_far (p := ⟨gb2, 2, none⟩) (Kd.V_far (p := ⟨gb2, 1, none⟩) (Kd.V_far (p := ⟨gb2, 0, none⟩) (Kd.V_mono HO_4.out (fun k_ hk => (⟨hk, hk.1.1.2.2.2.2⟩ : _ ∧ k_ ≠ gb2))) k2_0 _) k2_0 _) k2_0 _) (fun _ hk => ⟨hk.1.1.1.1, ⟨hk.1.1.2, ⟨hk.1.1.1.2.1, ⟨hk.1.1.1.2.2.1, ⟨hk.1.1.1.2.2.2.1, hk.1.1.1.2.2.2.2⟩⟩⟩⟩⟩)⟩, ⟨Kd.V_mono (Kd.R_V (by (with_reducible repeat (first | apply ra_ | apply rn_ | apply rd_)); exact (rf_ (rf_ (rf_ (Kd.R_types (Kd.R_types (Kd.R_types HO6.out BK1.out bi3y_) BK2.out bi3y_) BK2.out bi3y_) k2_0 _) k2_0 _) k2_0 _))) (fun k_ hk => by exact ⟨(.inr (hk.1.1.1.1.1.1.1)), ⟨hk.1.1.1.2, ⟨hk.1.1.1.1.1.2, ⟨hk.1.1.1.1.2, ⟨hk.1.1.2, hk.1.2⟩⟩⟩⟩⟩)⟩, ⟨u1_ BK1⟩, ⟨u1_ BK2⟩, ⟨bfnq_⟩⟩

def impl_BestArrival.lo (S : Int → Option Int) (t : Int) (both : Bool) : List Int → Int → Option Int
 | [], b => some b
 | p :: ps, b => if 0 ≤ p then (impl_stands.f t p both).bind fun s => (S (Go.bits .or .u32 t (shl .u32 1 p))).bind fun m => impl_BestArrival.lo S t both ps (if b < 0 then wrap64 (s.1 + m) else if wrap64 (s.1 + m) < b then wrap64 (s.1 + m) else b) else none
def impl_BestArrival.le (k : Nat) (A : Int) (both : Bool) : Nat → Int → Option Int
 | 0, _ => none
 | d + 1, t => if t = A then some 0 else (impl_set_list.f k (Go.bits .andNot .u32 A t)).bind fun ps => if ps.length ≤ 32 then impl_BestArrival.lo (impl_BestArrival.le k A both d) t both ps (-1) else none
theorem impl_BestArrival.lo_mono {S S' : Int → Option Int} (hS : ∀ t, LeO (S t) (S' t)) (t : Int) (both : Bool) : ∀ ps b, LeO (impl_BestArrival.lo S t both ps b) (impl_BestArrival.lo S' t both ps b)
 | [], _ => LeO.refl _
 | p :: ps, b => by
  simp only [impl_BestArrival.lo]
  exact LeO.ite (LeO.bind (LeO.refl _) (fun _ => LeO.bind (hS _) (fun _ => impl_BestArrival.lo_mono hS t both ps _))) (LeO.refl _)
theorem impl_BestArrival.le_mono (k : Nat) (A : Int) (both : Bool) : ∀ d t, LeO (impl_BestArrival.le k A both d t) (impl_BestArrival.le (k + 1) A both d t)
 | 0, _ => LeO.none _
 | d + 1, t => by
  simp only [impl_BestArrival.le]
  exact LeO.ite (LeO.refl _) (LeO.bind (impl_set_list.mono _ _) fun _ => LeO.ite (impl_BestArrival.lo_mono (impl_BestArrival.le_mono k A both d) _ _ _ _) (LeO.refl _))
theorem impl_BestArrival.le_up (k : Nat) (A : Int) (both : Bool) : ∀ d t, LeO (impl_BestArrival.le k A both d t) (impl_BestArrival.le k A both (d + 1) t)
 | 0, _ => LeO.none _
 | d + 1, t => by
  rw [impl_BestArrival.le, impl_BestArrival.le]
  exact LeO.ite (LeO.refl _) (LeO.bind (LeO.refl _) fun _ => LeO.ite (impl_BestArrival.lo_mono (impl_BestArrival.le_up k A both d) _ _ _ _) (LeO.refl _))
theorem impl_BestArrival.le_add {k : Nat} {A : Int} {both : Bool} {d : Nat} {t v : Int} (h : impl_BestArrival.le k A both d t = some v) : ∀ m, impl_BestArrival.le k A both (d + m) t = some v
 | 0 => h
 | m + 1 => impl_BestArrival.le_up k A both (d + m) t v (impl_BestArrival.le_add h m)
theorem impl_BestArrival.le_same {k : Nat} {A : Int} {both : Bool} {d d' : Nat} {t v v' : Int} (h : impl_BestArrival.le k A both d t = some v) (h' : impl_BestArrival.le k A both d' t = some v') : v = v' := by
 have h1 := impl_BestArrival.le_add h d'
 have h2 := impl_BestArrival.le_add h' d
 rw [Nat.add_comm] at h2
 exact si_ (h1.symm.trans h2)
def impl_BestArrival.U : Nat → Nat
 | 0 => 0
 | d + 1 => 32 * impl_BestArrival.U d + 1
theorem impl_BestArrival.law : Maps.Keyed Tryd.prog 61 := Maps.int_keyed Tryd.underlying61
theorem impl_BestArrival.zeroE (w : World) : (zeroValue 3).run Tryd.prog w = .ok (.int .i64 0) w := by rfl
theorem impl_BestArrival.grown {w w' : World} (h : Below w.heap.size w w') (row : Option Nat) : w.grownBy w' row := ⟨h.os, h.tape, h.output, h.size, fun k hk _ => h.block k hk⟩
theorem impl_BestArrival.gate_insert {P : Program} {ops : Array Oper} {rest : List Oper} {o : Oper} {a : Act} {W : World} {Q : Exit → Act → World → Prop} {t : TypeId} {m k v : Operand} (_ho : o.op = .insert t m k v) (h : wpList P ops Q (o :: rest) a W) : wpList P ops Q (o :: rest) a W := h
/-- A map literal's entry. -/
theorem impl_BestArrival.insert_own {H : Type} {P : Program} (w : World) {ops : Array Oper} {rest : List Oper} {o : Oper} {a : Act} {Q : Exit → Act → World → Prop}
  (hg : o.guard = none) (m x v : Operand) (t : TypeId) (hop : o.op = Op.insert t m x v)
  (k e : TypeId) (K : Maps.Keyed P k) (ht : P.underlying t = some (.map k e)) (R : Value → Option (DataW H × List MemPlace)) (b n : Nat) (D : DataW H)
  (hm : a.eval m = .map (some b)) (hown : w.ownsMap P k R b n D) (hn : n < maxLen) (key val : Value) (kl : Lit) (hx : a.eval x = key) (hv : a.eval v = val) (hkey : keyOf P k key = some kl)
  (d : DataW H) (ps : List MemPlace) (hval : R val = some (d, ps))
  (hK : ∀ w', w'.ownsMap P k R b (n + 1) (D.put kl d) → w.grownBy w' (some b) → wpList P ops Q rest (a.put o.dst undef) w') :
  wpList P ops Q (o :: rest) a w := by
 refine wpList_plain hg fun K' hK' => ?_
 obtain ⟨w', hrun, r1, r2⟩ := hown.update K ht hn hkey hval
 unfold Oper.wp
 simp [execOp, hop, hm, hx, hv, hrun, Result.andThen]
 exact hK' _ _ (hK w' r1 r2)
structure impl_BestArrival.Inv (k : Nat) (A : Int) (both : Bool) (a0 : Int) (a1 : Bool) (A0 : Option Addr) (c0 : Nat) (l : List Int) (bm bv br bb bl : Nat) (w0 : World) (n : Nat) (w : World) : Prop where
 below : Below w0.heap.size w0 w
 hm : w0.heap.size ≤ bm
 cv : w.heap[bv]? = some (.cells #[.map (some bm)] 85 (0, 0))
 cr : w.heap[br]? = some (.cells #[.int .i64 a0, .bool a1, .slice A0 l.length c0] 28 (0, 0))
 cb : w.heap[bb]? = some (.cells #[.bool both] 4 (0, 0))
 cl : w.heap[bl]? = some (.cells #[.func (.func 67) #[] #[.pointer (some ⟨bv, 0, none⟩), .pointer (some ⟨br, 0, none⟩), .pointer (some ⟨bb, 0, none⟩), .pointer (some ⟨bl, 0, none⟩)]] 58 (0, 0))
 map : ∃ D : DataW Unit, w.ownsMap Tryd.prog 61 (plainElem Tryd.prog 3) bm n D ∧ Maps.has D (.int .u32 A) = true ∧
  ∀ t c, Maps.has D (.int .u32 t) = true → D.atKey (.int .u32 t) (.lit (.int .i64 0)) = .lit (.int .i64 c) → ∃ d, impl_BestArrival.le k A both d t = some c
section
variable {k : Nat} {A : Int} {both : Bool} {a0 : Int} {a1 : Bool} {A0 : Option Addr} {c0 : Nat} {l : List Int} {bm bv br bb bl : Nat} {w0 : World} {n : Nat} {w w' : World}
theorem impl_BestArrival.ne_map {H : Type} {P : Program} {q : TypeId} {R : Value → Option (DataW H × List MemPlace)} {D : DataW H} {g : Nat} {cs : Array Value} {t : TypeId} (h : w.ownsMap P q R bm n D) (hc : w.heap[g]? = some (.cells cs t (0, 0))) : some g ≠ some bm := by
 rintro e
 obtain rfl := si_ e
 obtain ⟨es, clock, hb, _⟩ := h
 rw [hb] at hc
 cases hc
theorem impl_BestArrival.Inv.turn (h : impl_BestArrival.Inv k A both a0 a1 A0 c0 l bm bv br bb bl w0 n w) (hg : w.grownBy w' (some bm)) {n' : Nat}
  (hmap : ∃ D : DataW Unit, w'.ownsMap Tryd.prog 61 (plainElem Tryd.prog 3) bm n' D ∧ Maps.has D (.int .u32 A) = true ∧
   ∀ t c, Maps.has D (.int .u32 t) = true → D.atKey (.int .u32 t) (.lit (.int .i64 0)) = .lit (.int .i64 c) → ∃ d, impl_BestArrival.le k A both d t = some c) :
  impl_BestArrival.Inv k A both a0 a1 A0 c0 l bm bv br bb bl w0 n' w' := by
 obtain ⟨D, hown, _⟩ := h.map
 exact ⟨h.below.grown hg h.below.size (fun j hj => by cases hj; exact h.hm), h.hm, blk_grown h.cv hg (impl_BestArrival.ne_map hown h.cv), blk_grown h.cr hg (impl_BestArrival.ne_map hown h.cr), blk_grown h.cb hg (impl_BestArrival.ne_map hown h.cb), blk_grown h.cl hg (impl_BestArrival.ne_map hown h.cl), hmap⟩
theorem impl_BestArrival.Inv.step (h : impl_BestArrival.Inv k A both a0 a1 A0 c0 l bm bv br bb bl w0 n w) (hb : Below w.heap.size w w') : impl_BestArrival.Inv k A both a0 a1 A0 c0 l bm bv br bb bl w0 n w' := by
 obtain ⟨D, hown, h1, h2⟩ := h.map
 exact h.turn (impl_BestArrival.grown hb _) ⟨D, hown.kept (impl_BestArrival.grown hb none) bxka_, h1, h2⟩
theorem impl_BestArrival.Inv.up (h : impl_BestArrival.Inv k A both a0 a1 A0 c0 l bm bv br bb bl w0 n w) {n' : Nat} (hn : n ≤ n') : impl_BestArrival.Inv k A both a0 a1 A0 c0 l bm bv br bb bl w0 n' w := by
 obtain ⟨D, hown, h1, h2⟩ := h.map
 exact ⟨h.below, h.hm, h.cv, h.cr, h.cb, h.cl, D, hown.mono hn, h1, h2⟩
end
theorem impl_BestArrival.put_ok {D : DataW Unit} (hD : Maps.IsMap D) {t0 v : Int} (hkl : WideAt.IsKeyLit (.int .u32 t0)) {Pv : Int → Int → Prop}
  (h : ∀ t c, Maps.has D (.int .u32 t) = true → D.atKey (.int .u32 t) (.lit (.int .i64 0)) = .lit (.int .i64 c) → Pv t c) (hv : Pv t0 v) :
  ∀ t c, Maps.has (D.put (.int .u32 t0) (.lit (.int .i64 v))) (.int .u32 t) = true → (D.put (.int .u32 t0) (.lit (.int .i64 v))).atKey (.int .u32 t) (.lit (.int .i64 0)) = .lit (.int .i64 c) → Pv t c := by
 intro t c hh hat
 by_cases e : t = t0
 ·subst e
  rw [Maps.atKey_put_same hD hkl] at hat
  injection hat with hat
  injection hat with _ hat
  exact hat ▸ hv
 ·have hne : Lit.int .u32 t ≠ Lit.int .u32 t0 := fun h => e (by injection h)
  rw [Maps.has_put_other hne] at hh
  rw [Maps.atKey_put_other hne] at hat
  exact h t c hh hat
set_option maxHeartbeats 4000000 in
set_option maxRecDepth 100000 in
/-- The function that is made: its own memory holds, of every set that is known, the least sum. -/
theorem impl_BestArrival.made (k : Nat) (A : Int) (both : Bool) (a0 : Int) (a1 : Bool) (A0 : Option Addr) (c0 : Nat) (l : List Int) (w : World) (hR : Kd.C (Kd.int .i64) w A0 l.length l) (hc : l.length ≤ c0) (hA : impl_bench_all.f a0 a1 = some A) (hA0 : 0 ≤ A) (hA1 : A < 4294967296) :
  Calls Tryd.prog 40 #[.agg #[.int .i64 a0, .bool a1, .slice A0 l.length c0], .bool both] w fun e w' => ∃ bm bv br bb bl, e = .returned (.func (.func 67) #[] #[.pointer (some ⟨bv, 0, none⟩), .pointer (some ⟨br, 0, none⟩), .pointer (some ⟨bb, 0, none⟩), .pointer (some ⟨bl, 0, none⟩)]) ∧
   impl_BestArrival.Inv k A both a0 a1 A0 c0 l bm bv br bb bl w 1 w' := by
 have hmm := @run_makeMap Tryd.prog
 have hwfA : (Lit.int .u32 A).wf = true := by
  have hmin : IntKind.u32.min = 0 := rfl
  have hmax : IntKind.u32.max = 4294967295 := rfl
  simp only [Lit.wf, Bool.and_eq_true, decide_eq_true_eq]
  omega
 have hkey : keyOf Tryd.prog 61 (.int .u32 A) = some (.int .u32 A) := Maps.keyOf_int_mk Tryd.underlying61 hwfA
 have hB : Below w.heap.size w w := Below.refl _ _
 go_enter Tryd.func40, Tryd.ntmps40
 go_wp2_with (first
  | ((with_reducible refine gc_ (f := 45) rfl ?_); refine gl_ 9 Tryd.func45 #[.agg #[.int .i64 a0, .bool a1, .slice A0 l.length c0]] ?_; refine (impl_Row_bench.calls a0 a1 _ _ l a0 a1 _ (by repeat (first | exact hR | refine ca_ ?_ _ | refine cn_ ?_ _ | refine cd_ ?_)) hc rfl).mono ?_; rintro e w1 ⟨rfl, hb3⟩; refine ⟨_, rfl, ?_⟩)
  | ((with_reducible refine gc_ (f := 46) rfl ?_); refine gl_ 10 Tryd.func46 #[.agg #[.int .i64 a0, .bool a1]] ?_; refine (impl_bench_all.calls a0 a1 A _ hA).mono ?_; rintro e w2 ⟨rfl, hb4⟩; have hown : w2.ownsMap Tryd.prog 61 (plainElem Tryd.prog 3) (w.heap.size + 1 + 1) 0 (DataW.map [] : DataW Unit) := (by simpa using (((World.ownsMap_made (H := Unit) ((w.alloc (Obj.cells #[.int .i64 a0, .bool a1, .slice A0 l.length c0] 28)).alloc (Obj.cells #[.bool both] 4)) Tryd.prog 61 (plainElem Tryd.prog 3)).kept (impl_BestArrival.grown hb3 none) bxka_).kept (impl_BestArrival.grown hb4 none) bxka_)); refine ⟨_, rfl, ?_⟩)
  | ((with_reducible refine impl_BestArrival.gate_insert rfl ?_); refine impl_BestArrival.insert_own _ rfl _ _ _ 85 rfl 61 3 impl_BestArrival.law Tryd.underlying85 _ (w.heap.size + 1 + 1) 0 _ b139_ hown (by unfold maxLen; omega) _ _ (.int .u32 A) b139_ b139_ hkey (.lit (.int .i64 0)) [] (plainElem_int Tryd.underlying3 bi3y_) ?_; intro w3 hown5 hg5; have hbw := ((((ba_ (ba_ (ba_ (Below.refl w.heap.size w) (Obj.cells #[.int .i64 a0, .bool a1, .slice A0 l.length c0] 28)) (Obj.cells #[.bool both] 4)) (Obj.map #[] 0))))); have hbw4 := bt_ (bt_ hbw hb3) hb4; have hr5 := blk_grown (kb_ (kb_ (ka_ (ka_ (blk_new w (Obj.cells #[.int .i64 a0, .bool a1, .slice A0 l.length c0] 28)) (Obj.cells #[.bool both] 4)) (Obj.map #[] 0)) hb3) hb4) hg5 (by simp; omega); have hbb5 := blk_grown (kb_ (kb_ (ka_ (blk_new (w.alloc (Obj.cells #[.int .i64 a0, .bool a1, .slice A0 l.length c0] 28)) (Obj.cells #[.bool both] 4)) (Obj.map #[] 0)) hb3) hb4) hg5 bxka_; have hbw5 : Below w.heap.size w w3 := hbw4.grown hg5 hbw4.size (fun j hj => by cases hj; omega)))
 go_ret
 have hlt := hown5.lt
 have hs1 : (w3.alloc (Obj.cells #[.map (some (w.heap.size + 1 + 1))] 85)).heap.size = w3.heap.size + 1 := by simp
 refine ⟨w.heap.size + 1 + 1, w3.heap.size, w.heap.size, w.heap.size + 1, w3.heap.size + 1, rfl, ba_ (ba_ hbw5 _) _, bh19_, ka_ (blk_new w3 _) _, ka_ (ka_ hr5 _) _, ?_, ?_, _, (hown5.alloc _).alloc _, Maps.has_put_same ⟨_, rfl⟩ (impl_BestArrival.law.key hkey) _, impl_BestArrival.put_ok ⟨_, rfl⟩ (impl_BestArrival.law.key hkey) (fun t c hh => by simp [Maps.has] at hh) ⟨1, by simp [impl_BestArrival.le]⟩⟩
 ·exact ka_ (ka_ (by simpa using hbb5) _) _
 ·rw [← hs1]; exact blk_new _ _
/-- The function that is made, called: the least sum of a set; what it knows grows by sums that are right. -/
theorem impl_BestArrival.least (k : Nat) (A : Int) (both : Bool) (a0 : Int) (a1 : Bool) (A0 : Option Addr) (c0 : Nat) (l : List Int) (bm bv br bb bl : Nat) (w0 : World) (hG : TabOK w0) (hR : Kd.C (Kd.int .i64) w0 A0 l.length l) (hc : l.length ≤ c0) (hA : impl_bench_all.f a0 a1 = some A) :
  ∀ (d : Nat) (t v : Int) (n : Nat) (w : World), impl_BestArrival.le k A both d t = some v → 0 ≤ t → t < 4294967296 → impl_BestArrival.Inv k A both a0 a1 A0 c0 l bm bv br bb bl w0 n w → n + impl_BestArrival.U d < maxLen →
   Calls Tryd.prog 67 #[.int .u32 t, .pointer (some ⟨bv, 0, none⟩), .pointer (some ⟨br, 0, none⟩), .pointer (some ⟨bb, 0, none⟩), .pointer (some ⟨bl, 0, none⟩)] w fun e w' => e = .returned (.int .i64 v) ∧ impl_BestArrival.Inv k A both a0 a1 A0 c0 l bm bv br bb bl w0 (n + impl_BestArrival.U d) w' ∧ w.grownBy w' (some bm) := by
 intro d
 induction d with
 | zero => intro t v n w h; exact absurd h (by simp [impl_BestArrival.le])
 | succ d ih =>
  intro t v n w h ht0 ht1 hi hn
  obtain ⟨D, hmap, hall, hval⟩ := hi.map
  have hwf : (Lit.int .u32 t).wf = true := by
   have hmin : IntKind.u32.min = 0 := rfl
   have hmax : IntKind.u32.max = 4294967295 := rfl
   simp only [Lit.wf, Bool.and_eq_true, decide_eq_true_eq]
   omega
  have hkey : keyOf Tryd.prog 61 (.int .u32 t) = some (.int .u32 t) := Maps.keyOf_int_mk Tryd.underlying61 hwf
  have cv : w.cell? ⟨bv, 0, none⟩ = some (.map (some bm)) := (kc_ hi.cv 0).trans rfl
  by_cases hh : Maps.has D (.int .u32 t) = true
  ·go_enter Tryd.func67, Tryd.ntmps67
   go_wp2_with (at_lookup; refine wpList_lookup_own_ok_int _ rfl _ _ 85 rfl 61 3 .i64 impl_BestArrival.law Tryd.underlying85 Tryd.underlying3 (impl_BestArrival.zeroE _) bm n D rfl hmap _ _ rfl hkey ?_; intro c hat hwc)
   go_ret
   obtain ⟨d', hd'⟩ := hval t c hh hat
   exact ⟨by rw [impl_BestArrival.le_same h hd']; rfl, hi.up (Nat.le_add_right _ _), World.grownBy.refl _ _⟩
  ·have hA' : t ≠ A := by rintro rfl; exact hh hall
   have hh' : Maps.has D (.int .u32 t) = false := by simpa using hh
   clear hh
   have h0 := h
   simp only [impl_BestArrival.le, if_neg hA'] at h
   obtain ⟨ps, hps, h⟩ := ob_.mp h
   by_cases hl : ps.length ≤ 32
   ·rw [if_pos hl] at h
    have cr0 : w.cell? ⟨br, 0, none⟩ = some (.int .i64 a0) := (kc_ hi.cr 0).trans rfl
    have cr1 : w.cell? ⟨br, 1, none⟩ = some (.bool a1) := (kc_ hi.cr 1).trans rfl
    have cr2 : w.cell? ⟨br, 2, none⟩ = some (.slice A0 l.length c0) := (kc_ hi.cr 2).trans rfl
    go_enter Tryd.func67, Tryd.ntmps67
    go_wp2_with (first
     | (at_lookup; refine wpList_lookup_own_ok_int _ rfl _ _ 85 rfl 61 3 .i64 impl_BestArrival.law Tryd.underlying85 Tryd.underlying3 (impl_BestArrival.zeroE _) bm n D rfl hmap _ _ rfl hkey ?_; intro c hat hwc)
     | ((with_reducible refine gc_ (f := 45) rfl ?_); refine gl_ 23 Tryd.func45 #[.agg #[.int .i64 a0, .bool a1, .slice A0 l.length c0]] ?_; refine (impl_Row_bench.calls a0 a1 _ _ l a0 a1 _ (cb_ hR hi.below) hc rfl).mono ?_; rintro e w1 ⟨rfl, hb3⟩; refine ⟨_, rfl, ?_⟩)
     | ((with_reducible refine gc_ (f := 46) rfl ?_); refine gl_ 24 Tryd.func46 #[.agg #[.int .i64 a0, .bool a1]] ?_; refine (impl_bench_all.calls a0 a1 A _ hA).mono ?_; rintro e w2 ⟨rfl, hb4⟩; refine ⟨_, rfl, ?_⟩)
     | ((with_reducible refine gc_ (f := 47) rfl ?_); refine gl_ 27 Tryd.func47 #[.int .u32 (Go.bits .andNot .u32 A t)] ?_; refine (impl_set_list.calls k _ ps _ (TabOK.below hG (bt_ (bt_ hi.below hb3) hb4)) hps).mono ?_; rintro e w3 ⟨v1, rfl, ho, hb5⟩; obtain ⟨Ao, co, rfl⟩ := Kd.R_slice ho; have hbw := bt_ (bt_ hb3 hb4) hb5; have hi5 := hi.step hbw; have hRo := Kd.R_mono (ok' := fun q => some q ≠ some bm) (Kd.R_bound ho) (fun q hq e => by have h1 := hmap.lt; have h2 := hb3.size; have h3 := hb4.size; have h4 := hq.2.1; have h5 := si_ e; omega); refine ⟨_, rfl, ?_⟩))
    go_loopw [9, 29] (fun v2 v3 wr => ∃ (j : Nat) (b : Int), v2 = .int .i64 b ∧ v3 = .int .i64 (j : Int) ∧ j ≤ ps.length ∧ impl_BestArrival.lo (impl_BestArrival.le k A both d) t both (ps.drop j) b = some v ∧ (Lit.int .i64 b).wf = true ∧ impl_BestArrival.Inv k A both a0 a1 A0 c0 l bm bv br bb bl w0 (n + j * impl_BestArrival.U d) wr ∧ Kd.R (Kd.int .i64) 3 wr w2.heap.size (fun q => some q ≠ some bm) (.slice Ao ps.length co) ps ∧ w3.grownBy wr (some bm)) (fun _ v3 _ => ps.length - (intOf v3).toNat)
    case atStart => exact ⟨0, -1, rfl, rfl, Nat.zero_le _, by rw [List.drop_zero]; exact h, bi3y_, by rw [Nat.zero_mul]; exact hi5, hRo, World.grownBy.refl _ _⟩
    case round =>
     obtain ⟨j, b, rfl, rfl, hj, hlo, hwb, hij, hRj, hgj⟩ := hrel
     by_cases hjl : j < ps.length
     ·have p1 : (0 : Int) ≤ (j : Int) := Int.natCast_nonneg _
      have q1 : (j : Int) < (ps.length : Int) := by omega
      obtain ⟨ad, e, hx⟩ := Kd.at_int (rr_ hRj).2.2 (j : Int) p1 q1
      cases e
      have hrd : rd ps (j : Int) = ps[j] := by simp [rd, hjl]
      obtain ⟨p, hp⟩ : ∃ p, rd ps (j : Int) = p := ⟨_, rfl⟩
      rw [hp] at hx hrd
      rw [List.drop_eq_getElem_cons hjl, ← hrd] at hlo
      clear hrd hp
      have hx' : wr.cell? (ad.add j) = some (.int .i64 p) := by simpa using hx
      simp only [impl_BestArrival.lo] at hlo
      have p2 : 0 ≤ p := by
       by_cases p2 : 0 ≤ p
       ·exact p2
       ·rw [if_neg p2] at hlo
        cases hlo
      rw [if_pos p2] at hlo
      obtain ⟨⟨s1, s2⟩, hs, hlo1⟩ := ob_.mp hlo
      obtain ⟨m, hm, hlo2⟩ := ob_.mp hlo1
      clear hlo hlo1
      replace hlo := hlo2
      clear hlo2
      have cb : wr.cell? ⟨bb, 0, none⟩ = some (.bool both) := (kc_ hij.cb 0).trans rfl
      replace p1 := eq_true p1
      have q1b := eq_true q1
      have p0b := eq_true p2
      go_wp2_with (first | ((with_reducible refine gc_ (f := 48) rfl ?_); refine gl_ 37 Tryd.func48 #[.int .u32 t, .int .i64 p, .bool both] ?_; refine (impl_stands.calls t p both s1 s2 _ hs).mono ?_; rintro e w4 ⟨rfl, ⟨nd, rfl⟩⟩; refine ⟨_, rfl, ?_⟩))
      have hi8 := hij.step (Below.drew (bn_ (Below.refl wr.heap.size wr) nd))
      refine start_ (n := 9) (S := fun w' => w'.cell? ⟨bl, 0, none⟩ = some (.func (.func 67) #[] #[.pointer (some ⟨bv, 0, none⟩), .pointer (some ⟨br, 0, none⟩), .pointer (some ⟨bb, 0, none⟩), .pointer (some ⟨bl, 0, none⟩)])) (ds := []) #[false, false, false, false, false, false, false, false, false] bfqv_ rfl rfl ((kc_ hi8.cl 0).trans rfl) (fun hHeld => ?_)
      refine pu_ 0 40 ?_
      refine pu_ 2 42 ?_
      refine pu_ 3 43 ?_
      refine tk_ 1 41 hHeld ?_
      refine pu_ 4 44 ?_
      refine pu_ 5 45 ?_
      refine on_ 6 (some 46) (fun K hK => ?_)
      have hsh : shl .u32 1 p = IntKind.u32.wrap (2 ^ min p.toNat 32) := by
       unfold shl
       rw [Int.one_mul]
       rfl
      rw [hsh] at hm
      have hor : 0 ≤ Go.bits .or .u32 t (IntKind.u32.wrap (2 ^ min p.toNat 32)) ∧ Go.bits .or .u32 t (IntKind.u32.wrap (2 ^ min p.toNat 32)) < 4294967296 := by
       unfold Go.bits
       simp only [IntKind.wrap_u32]
       omega
      have hU : j * impl_BestArrival.U d + impl_BestArrival.U d ≤ 32 * impl_BestArrival.U d := by
       rw [← Nat.succ_mul]
       exact Nat.mul_le_mul_right _ bh19_
      have hUd : impl_BestArrival.U (d + 1) = 32 * impl_BestArrival.U d + 1 := rfl
      refine call_ 67 #[.int .u32 (Go.bits .or .u32 t (IntKind.u32.wrap (2 ^ min p.toNat 32))), .pointer (some ⟨bv, 0, none⟩), .pointer (some ⟨br, 0, none⟩), .pointer (some ⟨bb, 0, none⟩), .pointer (some ⟨bl, 0, none⟩)] b139_ rfl ?_ ?_
      ·have he := enters_ (P := Tryd.prog) Tryd.func67 bfqv_ rfl #[.int .u32 (Go.bits .or .u32 t (IntKind.u32.wrap (2 ^ min p.toNat 32))), .pointer (some ⟨bv, 0, none⟩), .pointer (some ⟨br, 0, none⟩), .pointer (some ⟨bb, 0, none⟩), .pointer (some ⟨bl, 0, none⟩)] (wr.drewN nd).drew
       unfold execOp
       simp [resolve, Deferred.ofValue, invoke, Act.eval, he]
      refine (ih _ m (n + j * impl_BestArrival.U d) _ hm hor.1 hor.2 hi8 bh19_).mono ?_
      rintro e w5 ⟨rfl, hi9, hg9⟩
      refine ⟨_, rfl, ?_⟩
      have hR9 := Kd.R_grown (rd_ (rn_ hRj nd)) hg9 (fun _ hq => hq)
      have hg19 : w3.grownBy w5 (some bm) := (hgj.trans (impl_BestArrival.grown (Below.drew (bn_ (Below.refl wr.heap.size wr) nd)) (some bm))).trans hg9
      refine hK.out _ _ ((kc_ hi9.cl 0).trans rfl) (fun hHeld => ?_)
      clear hK K
      refine nm_ 46 ?_
      refine pu_ 7 47 ?_
      refine pu_ 8 12 ?_
      refine done_ bfqv_ ?_
      by_cases b0 : b < 0
      ·rw [if_pos b0] at hlo
       have b0b : decide (b < 0) = true := dt_ b0
       go_wp2
       go_roundw
       case rel => exact ⟨j + 1, (wrap64 (s1 + m)), rfl, bxka_, bh19_, hlo, wrap64_wf _, bzdt_, hR9, hg19⟩
       case measure => simp [intOf]; omega
      ·rw [if_neg b0] at hlo
       have b0b : decide (b < 0) = false := decide_eq_false b0
       by_cases b1 : wrap64 (s1 + m) < b
       ·rw [if_pos b1] at hlo
        have b1b : decide (wrap64 (s1 + m) < b) = true := dt_ b1
        go_wp2
        go_roundw
        case rel => exact ⟨j + 1, (wrap64 (s1 + m)), rfl, bxka_, bh19_, hlo, wrap64_wf _, bzdt_, hR9, hg19⟩
        case measure => simp [intOf]; omega
       ·rw [if_neg b1] at hlo
        have b1b : decide (wrap64 (s1 + m) < b) = false := decide_eq_false b1
        go_wp2
        go_roundw
        case rel => exact ⟨j + 1, b, rfl, bxka_, bh19_, hlo, hwb, bzdt_, hR9, hg19⟩
        case measure => simp [intOf]; omega
     ·have hje : j = ps.length := by omega
      subst hje
      rw [List.drop_length] at hlo
      simp only [impl_BestArrival.lo, sj_] at hlo
      subst hlo
      obtain ⟨D', hmap', hall', hval'⟩ := hij.map
      have cv' : wr.cell? ⟨bv, 0, none⟩ = some (.map (some bm)) := (kc_ hij.cv 0).trans rfl
      have hU : ps.length * impl_BestArrival.U d ≤ 32 * impl_BestArrival.U d := Nat.mul_le_mul_right _ hl
      have hUd : impl_BestArrival.U (d + 1) = 32 * impl_BestArrival.U d + 1 := rfl
      go_wp2_with (at_mapUpdate; refine wpList_mapUpdate_own _ rfl _ _ _ 85 rfl 61 3 impl_BestArrival.law Tryd.underlying85 _ bm (n + ps.length * impl_BestArrival.U d) D' rfl hmap' bh19_ _ _ _ rfl rfl hkey _ [] (plainElem_int Tryd.underlying3 hwb) ?_; intro w4 hmap6 hg6)
      go_ret
      refine ⟨rfl, hij.turn hg6 ⟨_, hmap6.mono bh19_, ?_, impl_BestArrival.put_ok hmap'.isMap (impl_BestArrival.law.key hkey) hval' ⟨d + 1, h0⟩⟩, (impl_BestArrival.grown hbw (some bm)).trans (hgj.trans hg6)⟩
      rw [Maps.has_put_other (fun e => hA' (by injection e with _ e; exact e.symm))]
      exact hall'
   ·rw [if_neg hl] at h
    cases h
section
variable {k : Nat} {A : Int} {both : Bool} {a0 : Int} {a1 : Bool} {A0 : Option Addr} {c0 : Nat} {l : List Int} {bm bv br bb bl : Nat} {w0 : World} {n : Nat} {w w' : World}
theorem impl_BestArrival.Inv.back {wE : World} (h : impl_BestArrival.Inv k A both a0 a1 A0 c0 l bm bv br bb bl w0 n w) (hb : Below wE.heap.size wE w0) : impl_BestArrival.Inv k A both a0 a1 A0 c0 l bm bv br bb bl wE n w :=
 ⟨bt_ hb h.below, Nat.le_trans hb.size h.hm, h.cv, h.cr, h.cb, h.cl, h.map⟩
theorem impl_BestArrival.Inv.app (h : impl_BestArrival.Inv k A both a0 a1 A0 c0 l bm bv br bb bl w0 n w) {base : Nat} {ok : Nat → Prop} {v : Value} {xs : List Int} (hR : Kd.R (Kd.int .i64) 3 w base ok v xs) (hb : w0.heap.size ≤ base) (hg : w.grownBy w' v.ownBlock) : impl_BestArrival.Inv k A both a0 a1 A0 c0 l bm bv br bb bl w0 n w' := by
 obtain ⟨D, hown, h1, h2⟩ := h.map
 obtain ⟨inner, hrow⟩ := Kd.R_own hR
 have hne : some bm ≠ v.ownBlock := fun e => by
  obtain ⟨cells, hc⟩ := own_typed hrow bm e.symm
  obtain ⟨es, clock, hm, _⟩ := hown
  rw [hm] at hc
  cases hc
 exact ⟨h.below.grown hg h.below.size (fun j hj => Nat.le_trans hb (own_base hrow j hj)), h.hm, blk_grown h.cv hg (Kd.R_ne hR h.cv bi3y_), blk_grown h.cr hg (Kd.R_ne hR h.cr bi3y_), blk_grown h.cb hg (Kd.R_ne hR h.cb bi3y_), blk_grown h.cl hg (Kd.R_ne hR h.cl bi3y_), D, hown.kept hg hne, h1, h2⟩
end
def impl_BestArrival.bi (S : Int → Option Int) (t : Int) (both : Bool) : List Int → Option Int
 | [] => none
 | p :: ps => if 0 ≤ p then (impl_stands.f t p both).bind fun s => (S (Go.bits .or .u32 t (shl .u32 1 p))).bind fun m => (S t).bind fun v => if wrap64 (s.1 + m) = v then some p else impl_BestArrival.bi S t both ps else none
def impl_BestArrival.ba (k : Nat) (A : Int) (both : Bool) : Nat → List Int → Int → Option (List Int)
 | 0, _, _ => none
 | q + 1, out, t => if t = A then some out else if 0 ≤ t ∧ t < 4294967296 then (impl_set_list.f k (Go.bits .andNot .u32 A t)).bind fun ps => if ps.length ≤ 32 ∧ out.length ≤ 32 then (impl_BestArrival.bi (impl_BestArrival.le k A both 11) t both ps).bind fun p => impl_BestArrival.ba k A both q (out ++ [p]) (Go.bits .or .u32 t (shl .u32 1 p)) else none else none
def impl_BestArrival.f (k : Nat) (a0_0 : Int) (a0_1 : Bool) (l0_2 : List Int) (a1 : Bool) : Option (List Int × Bool) := (impl_isPublic.f k a0_0 a0_1 l0_2).bind fun b => if b = true then (impl_bench_all.f a0_0 a0_1).bind fun A => (impl_Row_taken.f k a0_0 a0_1 l0_2).bind fun t => (impl_BestArrival.ba k A a1 12 [] t).bind fun n => some (n, true) else some ([], false)
theorem impl_BestArrival.bi_mono {S S' : Int → Option Int} (hS : ∀ t, LeO (S t) (S' t)) (t : Int) (both : Bool) : ∀ ps, LeO (impl_BestArrival.bi S t both ps) (impl_BestArrival.bi S' t both ps)
 | [] => LeO.refl _
 | p :: ps => by
  simp only [impl_BestArrival.bi]
  exact LeO.ite (LeO.bind (LeO.refl _) (fun _ => LeO.bind (hS _) (fun _ => LeO.bind (hS _) (fun _ => LeO.ite (LeO.refl _) (impl_BestArrival.bi_mono hS t both ps))))) (LeO.refl _)
theorem impl_BestArrival.ba_mono (k : Nat) (A : Int) (both : Bool) : ∀ q out t, LeO (impl_BestArrival.ba k A both q out t) (impl_BestArrival.ba (k + 1) A both q out t)
 | 0, _, _ => LeO.none _
 | q + 1, out, t => by
  simp only [impl_BestArrival.ba]
  exact LeO.ite (LeO.refl _) (LeO.ite (LeO.bind (impl_set_list.mono _ _) fun _ => LeO.ite (LeO.bind (impl_BestArrival.bi_mono (fun t => impl_BestArrival.le_mono k A both 11 t) _ _ _) fun _ => impl_BestArrival.ba_mono k A both q _ _) (LeO.refl _)) (LeO.refl _))
theorem impl_BestArrival.mono : ∀ a0 a1 a2 a3 k, LeO (impl_BestArrival.f k a0 a1 a2 a3) (impl_BestArrival.f (k + 1) a0 a1 a2 a3) := by
 intro a0 a1 a2 a3 k
 unfold impl_BestArrival.f
 exact LeO.bind (impl_isPublic.mono _ _ _ _) fun _ => LeO.ite (LeO.bind (LeO.refl _) fun _ => LeO.bind (impl_Row_taken.mono _ _ _ _) fun _ => LeO.bind (impl_BestArrival.ba_mono _ _ _ _ _ _) fun _ => LeO.refl _) (LeO.refl _)
theorem impl_BestArrival.calls (k : Nat) (a0_0 : Int) (a0_1 : Bool) (A0_2 : Option Addr) (c0_2 : Nat) (l0_2 : List Int) (a1 : Bool) (r1 : List Int) (r2 : Bool) (w : World) (hr0_2 : Kd.C (Kd.int .i64) w A0_2 l0_2.length l0_2) (hc0_2 : l0_2.length ≤ c0_2) (hG : TabOK w) (h : impl_BestArrival.f k a0_0 a0_1 l0_2 a1 = some (r1, r2)) :
  Calls Tryd.prog 12 #[.agg #[.int .i64 a0_0, .bool a0_1, .slice A0_2 l0_2.length c0_2], .bool a1] w fun e w' => ∃ v0_ : Value, e = .returned (.tuple #[v0_, .bool r2]) ∧ Kd.R (Kd.int .i64) 3 w' w.heap.size (fun _ => True) v0_ r1 ∧ Below w.heap.size w w' := by
 have HG0 := A0_ hG
 clear hG
 obtain ⟨b, hb, h1⟩ := ob_.mp (show (impl_isPublic.f k a0_0 a0_1 l0_2).bind _ = some (r1, r2) from h)
 clear h
 by_cases hbt : b = true
 case neg =>
  have hbf : b = false := by simpa using hbt
  subst hbf
  rw [if_neg bxka_] at h1
  simp only [sj_, pj_] at h1
  obtain ⟨rfl, rfl⟩ := h1
  go_enter Tryd.func12, Tryd.ntmps12
  go_wp2_with (first | ((with_reducible refine gc_ (f := 39) rfl ?_); refine gl_ 14 Tryd.func39 #[.agg #[.int .i64 a0_0, .bool a0_1, .slice A0_2 l0_2.length c0_2]] ?_; refine (impl_isPublic.calls k a0_0 a0_1 _ _ l0_2 false _ b2tp_ hc0_2 hb).mono ?_; rintro e w1 ⟨rfl, hb3⟩; refine ⟨_, rfl, ?_⟩))
  go_ret2
  exact ⟨_, rfl, Kd.R_nil _ _ _ _ _, bt_ (ba_ (Below.refl _ _) _) hb3⟩
 subst hbt
 rw [if_pos rfl] at h1
 obtain ⟨A, hA, h2⟩ := ob_.mp h1
 obtain ⟨T0, hT, h3⟩ := ob_.mp h2
 obtain ⟨rr, hn, h4⟩ := ob_.mp h3
 clear h1 h2 h3
 simp only [sj_, pj_] at h4
 obtain ⟨rfl, rfl⟩ := h4
 have hAr : 0 ≤ A ∧ A < 4294967296 := by
  unfold impl_bench_all.f at hA
  split at hA
  ·have := si_ hA
   omega
  ·cases hA
 have hG := HG0.out
 have hSL := @impl_set_list.calls
 obtain ⟨u, hu⟩ : ∃ u, impl_BestArrival.U 11 = u := ⟨_, rfl⟩
 have hub : 1 + 12 * (64 * u) < maxLen := by
  rw [← hu]
  decide
 have hL := fun bm bv br bb bl => impl_BestArrival.least k A a1 a0_0 a0_1 A0_2 c0_2 l0_2 bm bv br bb bl w hG hr0_2 hc0_2 hA 11
 simp only [hu] at hL
 clear hu
 go_enter Tryd.func12, Tryd.ntmps12
 go_wp2_with (first
  | ((with_reducible refine gc_ (f := 39) rfl ?_); refine gl_ 14 Tryd.func39 #[.agg #[.int .i64 a0_0, .bool a0_1, .slice A0_2 l0_2.length c0_2]] ?_; refine (impl_isPublic.calls k a0_0 a0_1 _ _ l0_2 true _ b2tp_ hc0_2 hb).mono ?_; rintro e w1 ⟨rfl, hb3⟩; refine ⟨_, rfl, ?_⟩)
  | ((with_reducible refine gd_ (N := 16) rfl ?_); refine Kd.R_lit (Kd.int .i64) w.heap.size 3 ?hg (N := 16) ?hd (xs := ([] : List Int)) (inner := []) (ok := fun _ => True) (okp := fun _ => True) ?hr ?hp (fun _ hk => hk) trivial (bt_ (ba_ (Below.refl _ _) _) hb3) (bt_ (ba_ (Below.refl _ _) _) hb3).size bxka_ ?_; (case hd => rfl); (case hg => rfl); (case hr => go_simp; first | done | rfl); (case hp => exact (Reps.none _ _)); intro v1 w2 ho4 hb4 hg4 hnew4; have hrw4 : w2.heap[w.heap.size]? = some (.cells #[.int .i64 a0_0, .bool a0_1, .slice A0_2 l0_2.length c0_2] 28 (0, 0)) := blk_grown (kb_ (blk_new w _) hb3) hg4 bxka_; have cq0 : w2.cell? ⟨w.heap.size, 0, none⟩ = some (.int .i64 a0_0) := (kc_ hrw4 0).trans rfl; have cq1 : w2.cell? ⟨w.heap.size, 1, none⟩ = some (.bool a0_1) := (kc_ hrw4 1).trans rfl; have cq2 : w2.cell? ⟨w.heap.size, 2, none⟩ = some (.slice A0_2 l0_2.length c0_2) := (kc_ hrw4 2).trans rfl)
  | ((with_reducible refine gc_ (f := 40) rfl ?_); refine gl_ 19 Tryd.func40 #[.agg #[.int .i64 a0_0, .bool a0_1, .slice A0_2 l0_2.length c0_2], .bool a1] ?_; refine (impl_BestArrival.made k A a1 a0_0 a0_1 A0_2 c0_2 l0_2 _ (cb_ hr0_2 hb4) hc0_2 hA hAr.1 hAr.2).mono ?_; rintro e w3 ⟨bm, bv, br, bb, bl, rfl, hi5_⟩; have hi5 := hi5_.back hb4; have hrw5 := kb_ hrw4 hi5_.below; have ho5 := Kd.R_mono (ok' := fun q => some q ≠ some bm) (Kd.R_bound (Kd.R_below ho4 hi5_.below)) (fun q hq e => by have h1 := hi5_.hm; obtain ⟨_, _, _, q1, _, cells, hc⟩ := hq; obtain ⟨D, ⟨es, clock, hm, _⟩, _⟩ := hi5_.map; obtain rfl := si_ e; rw [hm] at hc; cases hc);           have cq0 : w3.cell? ⟨w.heap.size, 0, none⟩ = some (.int .i64 a0_0) := (kc_ hrw5 0).trans rfl; have cq1 : w3.cell? ⟨w.heap.size, 1, none⟩ = some (.bool a0_1) := (kc_ hrw5 1).trans rfl; have cq2 : w3.cell? ⟨w.heap.size, 2, none⟩ = some (.slice A0_2 l0_2.length c0_2) := (kc_ hrw5 2).trans rfl; refine ⟨_, rfl, ?_⟩)
  | ((with_reducible refine gc_ (f := 41) rfl ?_); refine gl_ 21 Tryd.func41 #[.agg #[.int .i64 a0_0, .bool a0_1, .slice A0_2 l0_2.length c0_2]] ?_; refine (impl_Row_taken.calls k a0_0 a0_1 _ _ l0_2 T0 _ (cb_ hr0_2 hi5.below) hc0_2 hT).mono ?_; rintro e w4 ⟨rfl, hb6⟩; have hi6 := hi5.step hb6; have hrw6 := kb_ hrw5 hb6; have ho6 := Kd.R_below ho5 hb6; refine ⟨_, rfl, ?_⟩))
 go_loopg [6, 8] 12 (fun kq v2 v3 wr => ∃ (out : List Int) (T : Int) (n : Nat), v3 = .int .u32 T ∧ impl_BestArrival.ba k A a1 kq out T = some rr ∧ kq ≤ 12 ∧ n + kq * (64 * u) < maxLen ∧ impl_BestArrival.Inv k A a1 a0_0 a0_1 A0_2 c0_2 l0_2 bm bv br bb bl w n wr ∧ Kd.R (Kd.int .i64) 3 wr w.heap.size (fun q => some q ≠ some bm) v2 out ∧ wr.heap[w.heap.size]? = some (.cells #[.int .i64 a0_0, .bool a0_1, .slice A0_2 l0_2.length c0_2] 28 (0, 0)) ∧ Below w.heap.size w wr)
 case atStart => exact ⟨[], T0, 1, rfl, hn, Nat.le_refl _, hub, hi6, ho6, hrw6, hi6.below⟩
 obtain ⟨out, T, n, rfl, hba, hkq, hbd, hi, ho, hrw, hB⟩ := hrel
 cases gk with | zero => exact absurd hba (by simp [impl_BestArrival.ba]) | succ k1 => ?_
 have cq0 : wr.cell? ⟨w.heap.size, 0, none⟩ = some (.int .i64 a0_0) := (kc_ hrw 0).trans rfl
 have cq1 : wr.cell? ⟨w.heap.size, 1, none⟩ = some (.bool a0_1) := (kc_ hrw 1).trans rfl
 have cq2 : wr.cell? ⟨w.heap.size, 2, none⟩ = some (.slice A0_2 l0_2.length c0_2) := (kc_ hrw 2).trans rfl
 rw [impl_BestArrival.ba] at hba
 by_cases hTA : T = A
 ·rw [if_pos hTA] at hba
  subst hTA
  obtain rfl := si_ hba
  go_wp2_with (first | ((with_reducible refine gc_ (f := 45) rfl ?_); refine gl_ 24 Tryd.func45 #[.agg #[.int .i64 a0_0, .bool a0_1, .slice A0_2 l0_2.length c0_2]] ?_; refine (impl_Row_bench.calls a0_0 a0_1 _ _ l0_2 a0_0 a0_1 _ (cb_ hr0_2 hB) hc0_2 rfl).mono ?_; rintro e w5 ⟨rfl, hb7⟩; refine ⟨_, rfl, ?_⟩) | ((with_reducible refine gc_ (f := 46) rfl ?_); refine gl_ 25 Tryd.func46 #[.agg #[.int .i64 a0_0, .bool a0_1]] ?_; refine (impl_bench_all.calls a0_0 a0_1 _ _ hA).mono ?_; rintro e w6 ⟨rfl, hb8⟩; have hb9 := bt_ hb7 hb8; have hrw8 := kb_ hrw hb9; have cq0 : w6.cell? ⟨w.heap.size, 0, none⟩ = some (.int .i64 a0_0) := (kc_ hrw8 0).trans rfl; have cq1 : w6.cell? ⟨w.heap.size, 1, none⟩ = some (.bool a0_1) := (kc_ hrw8 1).trans rfl; have cq2 : w6.cell? ⟨w.heap.size, 2, none⟩ = some (.slice A0_2 l0_2.length c0_2) := (kc_ hrw8 2).trans rfl; refine ⟨_, rfl, ?_⟩))
  go_ret2
  have hb9 := bt_ hb7 hb8
  exact ⟨_, rfl, Kd.R_mono (Kd.R_below ho hb9) (fun _ _ => trivial), bt_ hB hb9⟩
 rw [if_neg hTA] at hba
 have hTAb : (T == A) = false := by simpa using hTA
 have hTAc : (T != A) = true := by simpa using hTA
 by_cases hTr : 0 ≤ T ∧ T < 4294967296
 case neg =>
  rw [if_neg hTr] at hba
  cases hba
 rw [if_pos hTr] at hba
 obtain ⟨ps, hps, hba1⟩ := ob_.mp hba
 by_cases hll : ps.length ≤ 32 ∧ out.length ≤ 32
 case neg =>
  rw [if_neg hll] at hba1
  cases hba1
 rw [if_pos hll] at hba1
 obtain ⟨pq, hbi, hba2⟩ := ob_.mp hba1
 clear hba hba1
 go_wp2_with (first | ((with_reducible refine gc_ (f := 45) rfl ?_); refine gl_ 24 Tryd.func45 #[.agg #[.int .i64 a0_0, .bool a0_1, .slice A0_2 l0_2.length c0_2]] ?_; refine (impl_Row_bench.calls a0_0 a0_1 _ _ l0_2 a0_0 a0_1 _ (cb_ hr0_2 hB) hc0_2 rfl).mono ?_; rintro e w5 ⟨rfl, hb7⟩; refine ⟨_, rfl, ?_⟩) | ((with_reducible refine gc_ (f := 46) rfl ?_); refine gl_ 25 Tryd.func46 #[.agg #[.int .i64 a0_0, .bool a0_1]] ?_; refine (impl_bench_all.calls a0_0 a0_1 _ _ hA).mono ?_; rintro e w6 ⟨rfl, hb8⟩; have hb9 := bt_ hb7 hb8; have hrw8 := kb_ hrw hb9; have cq0 : w6.cell? ⟨w.heap.size, 0, none⟩ = some (.int .i64 a0_0) := (kc_ hrw8 0).trans rfl; have cq1 : w6.cell? ⟨w.heap.size, 1, none⟩ = some (.bool a0_1) := (kc_ hrw8 1).trans rfl; have cq2 : w6.cell? ⟨w.heap.size, 2, none⟩ = some (.slice A0_2 l0_2.length c0_2) := (kc_ hrw8 2).trans rfl; refine ⟨_, rfl, ?_⟩) | ((with_reducible refine gc_ (f := 45) rfl ?_); refine gl_ 28 Tryd.func45 #[.agg #[.int .i64 a0_0, .bool a0_1, .slice A0_2 l0_2.length c0_2]] ?_; refine (impl_Row_bench.calls a0_0 a0_1 _ _ l0_2 a0_0 a0_1 _ (cb_ hr0_2 (bt_ hB hb9)) hc0_2 rfl).mono ?_; rintro e w7 ⟨rfl, hb10⟩; refine ⟨_, rfl, ?_⟩) | ((with_reducible refine gc_ (f := 46) rfl ?_); refine gl_ 29 Tryd.func46 #[.agg #[.int .i64 a0_0, .bool a0_1]] ?_; refine (impl_bench_all.calls a0_0 a0_1 _ _ hA).mono ?_; rintro e w8 ⟨rfl, hb11⟩; refine ⟨_, rfl, ?_⟩) | ((with_reducible refine gc_ (f := 47) rfl ?_); refine gl_ 32 Tryd.func47 #[.int .u32 (Go.bits .andNot .u32 A T)] ?_; refine (hSL k _ ps _ (TabOK.below hG (bt_ (bt_ (bt_ hB hb9) hb10) hb11)) hps).mono ?_; rintro e w9 ⟨vl, rfl, hol, hb12⟩; obtain ⟨Ao, co, rfl⟩ := Kd.R_slice hol; have hb13 := bt_ (bt_ (bt_ hb9 hb10) hb11) hb12; have hi12 := hi.step hb13; have ho12 := Kd.R_below ho hb13; have hrw12 := kb_ hrw hb13; have hB12 := bt_ hB hb13; have hol2 := Kd.R_mono (ok' := fun q => some q ≠ some bm) (Kd.R_bound hol) (fun q hq e => by obtain ⟨D, ⟨es, clock, hm, _⟩, _⟩ := hi12.map; obtain ⟨_, _, _, q1, _, cells, hc⟩ := hq; obtain rfl := si_ e; rw [hm] at hc; cases hc); refine ⟨_, rfl, ?_⟩))
 go_loopw [6, 8, 34] (fun v6i v8i v4 wi => ∃ (j : Nat), v6i = u6 ∧ v8i = .int .u32 T ∧ v4 = .int .i64 (j : Int) ∧ j ≤ ps.length ∧ impl_BestArrival.bi (impl_BestArrival.le k A a1 11) T a1 (ps.drop j) = some pq ∧ impl_BestArrival.Inv k A a1 a0_0 a0_1 A0_2 c0_2 l0_2 bm bv br bb bl w (n + j * (2 * u)) wi ∧ Kd.R (Kd.int .i64) 3 wi w.heap.size (fun q => some q ≠ some bm) u6 out ∧ Kd.R (Kd.int .i64) 3 wi w8.heap.size (fun q => some q ≠ some bm) (.slice Ao ps.length co) ps ∧ wi.heap[w.heap.size]? = some (.cells #[.int .i64 a0_0, .bool a0_1, .slice A0_2 l0_2.length c0_2] 28 (0, 0)) ∧ Below w.heap.size w wi) (fun _ _ v4 _ => ps.length - (intOf v4).toNat)
 case atStart => exact ⟨0, rfl, rfl, rfl, Nat.zero_le _, by rw [List.drop_zero]; exact hbi, by rw [Nat.zero_mul]; exact hi12, ho12, hol2, hrw12, hB12⟩
 obtain ⟨j, rfl, rfl, rfl, hj, hbj, hij, hoj, hlj, hrwj, hBj⟩ := hrel
 by_cases hjl : j < ps.length
 case neg =>
  have hje : j = ps.length := by omega
  subst hje
  rw [List.drop_length] at hbj
  cases hbj
 have p1 : (0 : Int) ≤ (j : Int) := Int.natCast_nonneg _
 have q2 : (j : Int) < (ps.length : Int) := by omega
 obtain ⟨ad, e, hx⟩ := Kd.at_int (rr_ hlj).2.2 (j : Int) p1 q2
 cases e
 have hrd : rd ps (j : Int) = ps[j] := by simp [rd, hjl]
 obtain ⟨p, hp⟩ : ∃ p, rd ps (j : Int) = p := ⟨_, rfl⟩
 rw [hp] at hx hrd
 rw [List.drop_eq_getElem_cons hjl, ← hrd] at hbj
 clear hrd hp
 have hx' : wr.cell? (ad.add j) = some (.int .i64 p) := by simpa using hx
 simp only [impl_BestArrival.bi] at hbj
 have p2 : 0 ≤ p := by
  by_cases p2 : 0 ≤ p
  ·exact p2
  ·rw [if_neg p2] at hbj
   cases hbj
 rw [if_pos p2] at hbj
 obtain ⟨⟨s1, s2⟩, hs, hb1⟩ := ob_.mp hbj
 obtain ⟨m, hm, hb2⟩ := ob_.mp hb1
 obtain ⟨v, hv, hb3_⟩ := ob_.mp hb2
 clear hbj hb1 hb2
 obtain ⟨z, hz⟩ : ∃ z : Int, shl .u32 1 p = z := ⟨_, rfl⟩
 have hz1 : IntKind.u32.wrap (2 ^ min p.toNat 32) = z := by
  rw [← hz]
  unfold shl
  rw [Int.one_mul]
  rfl
 have hz2 : (2 : Int) ^ min p.toNat 32 % 4294967296 = z := by
  rw [← hz1, IntKind.wrap_u32]
 rw [hz] at hm
 have hor : 0 ≤ Go.bits .or .u32 T z ∧ Go.bits .or .u32 T z < 4294967296 := by
  unfold Go.bits
  simp only [IntKind.wrap_u32]
  omega
 have hUU : j * (2 * u) + 2 * u ≤ 32 * (2 * u) := by
  rw [← Nat.succ_mul]
  exact Nat.mul_le_mul_right _ bh19_
 have hkk : k1 * (64 * u) + 64 * u = (k1 + 1) * (64 * u) := (Nat.succ_mul _ _).symm
 have hbdA : n + j * (2 * u) + u < maxLen := by omega
 have hbdB : n + j * (2 * u) + u + u < maxLen := by omega
 have p1b := eq_true p1
 have q1b := eq_true q2
 have p0b := eq_true p2
 by_cases hq : wrap64 (s1 + m) = v
 case neg =>
  have hqb : (wrap64 (s1 + m) == v) = false := by simpa using hq
  rw [if_neg hq] at hb3_
  go_wp2_with (first | ((with_reducible refine gc_ (f := 48) rfl ?_); refine gl_ 42 Tryd.func48 #[.int .u32 T, .int .i64 p, .bool a1] ?_; refine (impl_stands.calls T p a1 s1 s2 _ hs).mono ?_; rintro e w5_ ⟨rfl, ⟨nd, rfl⟩⟩; have hid := hij.step (bn_ (Below.refl wr.heap.size wr) nd); refine ⟨_, rfl, ?_⟩) | (go_at_call 67; refine (hL bm bv br bb bl _ v _ _ hv hTr.1 hTr.2 hi9 hbdB).mono ?_; rintro e w7_ ⟨rfl, hi10, hg10⟩; have hrwz : w7_.heap[w.heap.size]? = some (.cells #[.int .i64 a0_0, .bool a0_1, .slice A0_2 l0_2.length c0_2] 28 (0, 0)) := blk_grown (blk_grown (kn_ hrwj nd) hg9 bqm1_) hg10 byul_) | (go_at_call 67; refine (hL bm bv br bb bl _ m _ _ hm hor.1 hor.2 hid hbdA).mono ?_; rintro e w10_ ⟨rfl, hi9, hg9⟩))
  go_roundw
  case rel => exact ⟨j + 1, rfl, rfl, bxka_, bh19_, hb3_, by rw [show n + (j + 1) * (2 * u) = n + j * (2 * u) + u + u from by rw [Nat.succ_mul]; omega]; exact hi10, Kd.R_grown (Kd.R_grown (rn_ hoj nd) hg9 (fun _ hq => hq)) hg10 (fun _ hq => hq), Kd.R_grown (Kd.R_grown (rn_ hlj nd) hg9 (fun _ hq => hq)) hg10 (fun _ hq => hq), hrwz, hi10.below⟩
  simp [intOf]; omega
 have hqb : (wrap64 (s1 + m) == v) = true := by simpa using hq
 rw [if_pos hq] at hb3_
 obtain rfl := si_ hb3_
 go_wp2_with (first | ((with_reducible refine gc_ (f := 48) rfl ?_); refine gl_ 42 Tryd.func48 #[.int .u32 T, .int .i64 p, .bool a1] ?_; refine (impl_stands.calls T p a1 s1 s2 _ hs).mono ?_; rintro e w5_ ⟨rfl, ⟨nd, rfl⟩⟩; have hid := hij.step (bn_ (Below.refl wr.heap.size wr) nd); refine ⟨_, rfl, ?_⟩) | (go_at_call 67; refine (hL bm bv br bb bl _ v _ _ hv hTr.1 hTr.2 hi9 hbdB).mono ?_; rintro e w7_ ⟨rfl, hi10, hg10⟩; have hrwz : w7_.heap[w.heap.size]? = some (.cells #[.int .i64 a0_0, .bool a0_1, .slice A0_2 l0_2.length c0_2] 28 (0, 0)) := blk_grown (blk_grown (kn_ hrwj nd) hg9 bqm1_) hg10 byul_) | (go_at_call 67; refine (hL bm bv br bb bl _ m _ _ hm hor.1 hor.2 hid hbdA).mono ?_; rintro e w10_ ⟨rfl, hi9, hg9⟩))
 have hi11 := hi10.step (Below.drew (Below.refl _ _))
 have ho11 := rd_ (Kd.R_grown (Kd.R_grown (rn_ hoj nd) hg9 (fun _ hq => hq)) hg10 (fun _ hq => hq))
 have hrw11 := kd_ hrwz
 have hbm11 : bm < w7_.drew.heap.size := by obtain ⟨D, hown, _⟩ := hi11.map; exact hown.lt
 refine start_ (n := 10) (S := fun w' => True) (ds := []) #[false, false, false, false, false, false, false, false, false, false] bfqv_ rfl rfl trivial (fun hHeld => ?_)
 generalize w7_.drew = w11 at hi11 ho11 hrw11 hbm11 hHeld ⊢
 refine pu_ 0 57 ?_
 refine pu_ 1 58 ?_
 refine pu_ 4 61 ?_
 refine pu_ 5 62 ?_
 refine pu_ 6 63 ?_
 refine pu_ 7 64 ?_
 refine on_ 2 (some 59) (fun K hK => ?_)
 refine value_ (w1 := ?_) (v := ?_) b139_ rfl ?_ ?_
 rotate_left 2
 ·go_simp
  constructor
  ·rfl
  rfl
 refine hK.out _ _ trivial (fun hHeld => ?_)
 clear hK K
 refine nm_ 59 ?_
 refine on_ 3 (some 60) (fun K hK => ?_)
 refine Kd.R_append_step (Kd.int .i64) (w0 := w) w.heap.size b139_ (.tmp 57) (.tmp 59) 22 3 (.int .i64 0) 8 rfl Tryd.underlying22 info3 rfl bi3y_ bh19_ u6 out p [.int .i64 p] (fun q => some q ≠ some bm) (fun _ => False) rfl rfl ?aP (fun _ hk => hk.elim) ?aF ?aO ?aB ?aS ?aL ?_
 (case aP => exact rfl)
 (case aF => intro q hq e; have := si_ e; omega)
 (case aO => exact ho11)
 (case aB => exact hi11.below)
 (case aS => exact hi11.below.size)
 (case aL => have := hll.2; omega)
 intro v5 w12 ho13 hb13_ hg13 hat13
 have hi13 := hi11.app ho11 (Nat.le_refl _) hg13
 have hrw13 := blk_grown hrw11 hg13 (Kd.R_ne ho11 hrw11 bi3y_)
 refine hK.out _ _ trivial (fun hHeld => ?_)
 clear hK K
 refine nm_ 60 ?_
 refine pu_ 8 6 ?_
 refine pu_ 9 8 ?_
 refine done_ bfqv_ ?_
 go_wp2
 go_roundg k1
 case measure => omega
 exact ⟨out ++ [p], Go.bits .or .u32 T z, n + j * (2 * u) + u + u, rfl, by rw [hz] at hba2; exact hba2, bh19_, bh19_, hi13, ho13, hrw13, hb13_⟩


def laws_rBig.f (l0 : List Int) : Option (Bool) := some (decide ((l0.length : Int) > 65536))
theorem laws_rBig.calls (A0 : Option Addr) (c0 : Nat) (l0 : List Int) (r : Bool) (w : World) (hr0 : Kd.C (Kd.int .u8) w A0 l0.length l0) (hc0 : l0.length ≤ c0) (h : laws_rBig.f l0 = some r) :
  Calls Tryd.prog 17 #[.slice A0 l0.length c0] w fun e w' => e = .returned (.bool r) ∧ Drawn0 w w' := by
 have HR0 := A0_ hr0
 have HC0 := A0_ hc0
 clear hr0 hc0
 have H : (some (decide ((l0.length : Int) > 65536))) = some r := h
 clear h
 obtain rfl := si_ H
 go_enter Tryd.func17, Tryd.ntmps17
 go_wp2
 go_ret
 exact ⟨b04z_, boaj_⟩
 /-- A state of type 75 at block g of W; what its slices lead to came in by w1. -/
def IsS75 (w0 W : World) (g : Nat) (f0 : List Int) (f1 : Int) (f2 : Int) : Prop := ∃ A0 c0, W.heap[g]? = some (.cells #[.slice A0 f0.length c0, .int .i64 f1, .int .u64 f2] 75 (0, 0)) ∧ w0.heap.size ≤ g ∧ Kd.C (Kd.int .u8) w0 A0 f0.length f0
theorem IsS75.grown {w0 W : World} {g : Nat} {f0 : List Int} {f1 : Int} {f2 : Int} {W1 : World} {row : Option Nat} (h : IsS75 w0 W g f0 f1 f2) (hw : W.grownBy W1 row) (hne : some g ≠ row) : IsS75 w0 W1 g f0 f1 f2 := by
 obtain ⟨A1, c1, hb, hg, hr0⟩ := h
 exact ⟨A1, c1, blk_grown hb hw hne, hg, hr0⟩
theorem IsS75.own_neN {w0 W : World} {g : Nat} {f0 : List Int} {f1 : Int} {f2 : Int} {α : Type} {d : Kd α} {e : Nat} {base : Nat} {ok : Nat → Prop} {v : Value} {xs : List α} (h : IsS75 w0 W g f0 f1 f2) (ho : Kd.N d e W base ok v xs) (ht : e ≠ 75) : some g ≠ v.ownBlock := by
 obtain ⟨A1, c1, hb, hg, hr0⟩ := h
 exact Kd.N_ne ho hb ht
theorem IsS75.fresh {w0 W : World} {g : Nat} {f0 : List Int} {f1 : Int} {f2 : Int} (h : IsS75 w0 W g f0 f1 f2) : ∀ k, W.heap.size ≤ k → k ≠ g := by
 obtain ⟨A1, c1, hb, hg, hr0⟩ := h
 exact Kd.freshB hb
theorem IsS75.kept {w0 W : World} {g : Nat} {f0 : List Int} {f1 : Int} {f2 : Int} {W1 : World} {S : Nat → Prop} (h : IsS75 w0 W g f0 f1 f2) (hk : Kept W W1 S) (hne : ¬ S g) : IsS75 w0 W1 g f0 f1 f2 := by
 obtain ⟨A1, c1, hb, hg, hr0⟩ := h
 exact ⟨A1, c1, blk_kept hb hk hne, hg, hr0⟩
theorem IsS75.below {w0 W : World} {g : Nat} {f0 : List Int} {f1 : Int} {f2 : Int} {W1 : World} (h : IsS75 w0 W g f0 f1 f2) (hw : Below W.heap.size W W1) : IsS75 w0 W1 g f0 f1 f2 := h.grown (grown_of_below hw none) bxka_
theorem IsS75.alloc {w0 W : World} {g : Nat} {f0 : List Int} {f1 : Int} {f2 : Int} (h : IsS75 w0 W g f0 f1 f2) (o : Obj) : IsS75 w0 (W.alloc o) g f0 f1 f2 := h.below (ba_ (Below.refl _ _) o)
theorem IsS75.drewN {w0 W : World} {g : Nat} {f0 : List Int} {f1 : Int} {f2 : Int} (h : IsS75 w0 W g f0 f1 f2) (m : Nat) : IsS75 w0 (W.drewN m) g f0 f1 f2 := h
theorem IsS75.drew {w0 W : World} {g : Nat} {f0 : List Int} {f1 : Int} {f2 : Int} (h : IsS75 w0 W g f0 f1 f2) : IsS75 w0 W.drew g f0 f1 f2 := h
theorem IsS75.at_ {w0 W : World} {g : Nat} {f0 : List Int} {f1 : Int} {f2 : Int} {w' : World} {m : Nat} (hq : W.drewN m = w') (h : IsS75 w0 W g f0 f1 f2) : IsS75 w0 w' g f0 f1 f2 := by subst hq; exact IsS75.drewN h m
theorem IsS75.apart {w0 W : World} {g : Nat} {f0 : List Int} {f1 : Int} {f2 : Int} {α : Type} {d : Kd α} {e : Nat} {base : Nat} {ok : Nat → Prop} {v : Value} {xs : List α} (h : IsS75 w0 W g f0 f1 f2) (ho : d.R e W base ok v xs) (ht : ∀ q, q ∈ e :: d.E → q ≠ 75) : d.R e W base (fun k => ok k ∧ k ≠ g) v xs := by
 obtain ⟨A1, c1, hb, hg, hr0⟩ := h
 exact Kd.R_types ho hb ht
theorem IsS75.own_ne {w0 W : World} {g : Nat} {f0 : List Int} {f1 : Int} {f2 : Int} {α : Type} {d : Kd α} {e : Nat} {base : Nat} {ok : Nat → Prop} {v : Value} {xs : List α} (h : IsS75 w0 W g f0 f1 f2) (ho : d.R e W base ok v xs) (ht : e ≠ 75) : some g ≠ v.ownBlock := by
 obtain ⟨A1, c1, hb, hg, hr0⟩ := h
 exact Kd.R_ne ho hb ht
theorem IsS75.apartQ {w0 W : World} {g : Nat} {f0 : List Int} {f1 : Int} {f2 : Int} {α : Type} {d : Kd α} {e : Nat} {base : Nat} {ok : Nat → Prop} {v : Value} {xs : List α} (h : IsS75 w0 W g f0 f1 f2) (ho : d.Q e W base ok v xs) (ht : ∀ q, q ∈ e :: d.E → q ≠ 75) : d.Q e W base (fun k => ok k ∧ k ≠ g) v xs := by
 obtain ⟨A1, c1, hb, hg, hr0⟩ := h
 exact Kd.Q_types ho hb ht
theorem IsS75.own_neQ {w0 W : World} {g : Nat} {f0 : List Int} {f1 : Int} {f2 : Int} {α : Type} {d : Kd α} {e : Nat} {base : Nat} {ok : Nat → Prop} {v : Value} {xs : List α} (h : IsS75 w0 W g f0 f1 f2) (ho : d.Q e W base ok v xs) (ht : e ≠ 75) : some g ≠ v.ownBlock := by
 obtain ⟨A1, c1, hb, hg, hr0⟩ := h
 exact Kd.Q_ne ho hb ht
theorem IsS75.apartS {w0 W : World} {g : Nat} {f0 : List Int} {f1 : Int} {f2 : Int} {α : Type} {d : Kd α} {e : Nat} {base : Nat} {ok : Nat → Prop} {v : Value} {xs : List α} (h : IsS75 w0 W g f0 f1 f2) (ho : d.S e W base ok v xs) (ht : ∀ q, q ∈ e :: d.E → q ≠ 75) : d.S e W base (fun k => ok k ∧ k ≠ g) v xs := by
 obtain ⟨A1, c1, hb, hg, hr0⟩ := h
 exact Kd.S_types ho hb ht
theorem IsS75.own_neS {w0 W : World} {g : Nat} {f0 : List Int} {f1 : Int} {f2 : Int} {α : Type} {d : Kd α} {e : Nat} {base : Nat} {ok : Nat → Prop} {v : Value} {xs : List α} (h : IsS75 w0 W g f0 f1 f2) (ho : d.S e W base ok v xs) (ht : e ≠ 75) : some g ≠ v.ownBlock := by
 obtain ⟨A1, c1, hb, hg, hr0⟩ := h
 exact Kd.S_ne ho hb ht
theorem IsS75.lt {w0 W : World} {g : Nat} {f0 : List Int} {f1 : Int} {f2 : Int} (h : IsS75 w0 W g f0 f1 f2) : g < W.heap.size := by
 obtain ⟨A1, c1, hb, hg, hr0⟩ := h
 exact blk_lt hb
theorem IsS75.ge {w0 W : World} {g : Nat} {f0 : List Int} {f1 : Int} {f2 : Int} (h : IsS75 w0 W g f0 f1 f2) : w0.heap.size ≤ g := by
 obtain ⟨A1, c1, hb, hg, hr0⟩ := h
 exact hg
theorem IsS75.ne_blk {w0 W : World} {g : Nat} {f0 : List Int} {f1 : Int} {f2 : Int} {a : Nat} {cs : Array Value} {t : TypeId} {fr : Nat × Nat} (h : IsS75 w0 W g f0 f1 f2) (hb2 : W.heap[a]? = some (.cells cs t fr)) (ht : t ≠ 75) : g ≠ a := by
 obtain ⟨A1, c1, hb, hg, hr0⟩ := h
 rintro rfl
 rw [hb] at hb2
 injection hb2 with hb2
 injection hb2 with _ ht2
 exact ht ht2.symm
theorem IsS75.far {w0 W : World} {g : Nat} {f0 : List Int} {f1 : Int} {f2 : Int} {p : Addr} (h : IsS75 w0 W g f0 f1 f2) (hne : g ≠ p.block) (u : Value) : IsS75 w0 (W.setCell p u) g f0 f1 f2 := by
 obtain ⟨A1, c1, hb, hg, hr0⟩ := h
 exact ⟨A1, c1, blk_far hb hne u, hg, hr0⟩
theorem cellS75_0 {W : World} {g : Nat} {A0 : Option Addr} {c0 : Nat} {f0 : List Int} {f1 : Int} {f2 : Int} (h : W.heap[g]? = some (.cells #[.slice A0 f0.length c0, .int .i64 f1, .int .u64 f2] 75 (0, 0))) : W.cell? ⟨g, 0, none⟩ = some (.slice A0 f0.length c0) := (kc_ h 0).trans rfl
theorem cellS75_1 {W : World} {g : Nat} {A0 : Option Addr} {c0 : Nat} {f0 : List Int} {f1 : Int} {f2 : Int} (h : W.heap[g]? = some (.cells #[.slice A0 f0.length c0, .int .i64 f1, .int .u64 f2] 75 (0, 0))) : W.cell? ⟨g, 1, none⟩ = some (.int .i64 f1) := (kc_ h 1).trans rfl
theorem IsS75.set_1 {w0 W : World} {g : Nat} {f0 : List Int} {f1 : Int} {f2 : Int} (h : IsS75 w0 W g f0 f1 f2) (x : Int) : IsS75 w0 (W.setCell ⟨g, 1, none⟩ (.int .i64 x)) g f0 x f2 := by
 obtain ⟨A1, c1, hb, hg, hr0⟩ := h
 exact ⟨A1, c1, by simpa using blk_set hb 1 (.int .i64 x), hg, hr0⟩
theorem cellS75_2 {W : World} {g : Nat} {A0 : Option Addr} {c0 : Nat} {f0 : List Int} {f1 : Int} {f2 : Int} (h : W.heap[g]? = some (.cells #[.slice A0 f0.length c0, .int .i64 f1, .int .u64 f2] 75 (0, 0))) : W.cell? ⟨g, 2, none⟩ = some (.int .u64 f2) := (kc_ h 2).trans rfl
theorem IsS75.set_2 {w0 W : World} {g : Nat} {f0 : List Int} {f1 : Int} {f2 : Int} (h : IsS75 w0 W g f0 f1 f2) (x : Int) : IsS75 w0 (W.setCell ⟨g, 2, none⟩ (.int .u64 x)) g f0 f1 x := by
 obtain ⟨A1, c1, hb, hg, hr0⟩ := h
 exact ⟨A1, c1, by simpa using blk_set hb 2 (.int .u64 x), hg, hr0⟩
theorem IsS75.new (w0 W : World) (A0 : Option Addr) (c0 : Nat) (f0 : List Int) (f1 : Int) (f2 : Int) (hB : Below w0.heap.size w0 W) (hr0 : Kd.C (Kd.int .u8) w0 A0 f0.length f0) : IsS75 w0 (W.alloc (.cells #[.slice A0 f0.length c0, .int .i64 f1, .int .u64 f2] 75)) W.heap.size f0 f1 f2 := ⟨A0, c0, by simpa using heap_alloc_new W _, hB.size, hr0⟩

def spec_l1Cur_next.f (s0_0 : List Int) (s0_1 : Int) (s0_2 : Int) : Option (Int × Int × Int) := if s0_1 < (s0_0.length : Int) then (if 0 ≤ s0_1 then (if (wrap64 (s0_1 + 1)) ≤ (s0_0.length : Int) then (some (wrap64 (rd s0_0 s0_1), wrap64 (s0_1 + 1), IntKind.u64.wrap ((IntKind.u64.wrap ((IntKind.u64.wrap (s0_2 * 6364136223846793005)) + (IntKind.u64.wrap (wrap64 (rd s0_0 s0_1))))) + 462197))) else (some (wrap64 (Go.bits .and .u64 ((IntKind.u64.wrap ((IntKind.u64.wrap ((IntKind.u64.wrap (s0_2 * 6364136223846793005)) + (IntKind.u64.wrap (wrap64 (rd s0_0 s0_1))))) + 462197)) / 1099511627776) 255), wrap64 (s0_1 + 1), IntKind.u64.wrap ((IntKind.u64.wrap ((IntKind.u64.wrap (s0_2 * 6364136223846793005)) + (IntKind.u64.wrap (wrap64 (rd s0_0 s0_1))))) + 462197)))) else (none)) else (if (wrap64 (s0_1 + 1)) ≤ (s0_0.length : Int) then (some (0, wrap64 (s0_1 + 1), IntKind.u64.wrap ((IntKind.u64.wrap ((IntKind.u64.wrap (s0_2 * 6364136223846793005)) + 0)) + 462197))) else (some (wrap64 (Go.bits .and .u64 ((IntKind.u64.wrap ((IntKind.u64.wrap ((IntKind.u64.wrap (s0_2 * 6364136223846793005)) + 0)) + 462197)) / 1099511627776) 255), wrap64 (s0_1 + 1), IntKind.u64.wrap ((IntKind.u64.wrap ((IntKind.u64.wrap (s0_2 * 6364136223846793005)) + 0)) + 462197))))
theorem spec_l1Cur_next.calls (g : Nat) (s0_0 : List Int) (s0_1 : Int) (s0_2 : Int) (r1 : Int) (r2 : Int) (r3 : Int) (w0 w : World) (hI : IsS75 w0 w g s0_0 s0_1 s0_2) (hB : Below w0.heap.size w0 w) (h : spec_l1Cur_next.f s0_0 s0_1 s0_2 = some (r1, r2, r3)) :
  Calls Tryd.prog 83 #[.pointer (some ⟨g, 0, none⟩)] w fun e w' => e = .returned (.int .i64 r1) ∧ IsS75 w0 w' g s0_0 r2 r3 ∧ Below w0.heap.size w0 w' ∧ KeepBut w w' g none := by
 have HI0 := A0_ hI
 have HK := A0_ (KeepBut.refl w g none)
 have HL := A0_ hB.size
 clear hI
 have HW0 := A0_ hB.size
 have HB := A0_ hB
 clear hB
 have H : (if s0_1 < (s0_0.length : Int) then (if 0 ≤ s0_1 then (if (wrap64 (s0_1 + 1)) ≤ (s0_0.length : Int) then (some (wrap64 (rd s0_0 s0_1), wrap64 (s0_1 + 1), IntKind.u64.wrap ((IntKind.u64.wrap ((IntKind.u64.wrap (s0_2 * 6364136223846793005)) + (IntKind.u64.wrap (wrap64 (rd s0_0 s0_1))))) + 462197))) else (some (wrap64 (Go.bits .and .u64 ((IntKind.u64.wrap ((IntKind.u64.wrap ((IntKind.u64.wrap (s0_2 * 6364136223846793005)) + (IntKind.u64.wrap (wrap64 (rd s0_0 s0_1))))) + 462197)) / 1099511627776) 255), wrap64 (s0_1 + 1), IntKind.u64.wrap ((IntKind.u64.wrap ((IntKind.u64.wrap (s0_2 * 6364136223846793005)) + (IntKind.u64.wrap (wrap64 (rd s0_0 s0_1))))) + 462197)))) else (none)) else (if (wrap64 (s0_1 + 1)) ≤ (s0_0.length : Int) then (some (0, wrap64 (s0_1 + 1), IntKind.u64.wrap ((IntKind.u64.wrap ((IntKind.u64.wrap (s0_2 * 6364136223846793005)) + 0)) + 462197))) else (some (wrap64 (Go.bits .and .u64 ((IntKind.u64.wrap ((IntKind.u64.wrap ((IntKind.u64.wrap (s0_2 * 6364136223846793005)) + 0)) + 462197)) / 1099511627776) 255), wrap64 (s0_1 + 1), IntKind.u64.wrap ((IntKind.u64.wrap ((IntKind.u64.wrap (s0_2 * 6364136223846793005)) + 0)) + 462197))))) = some (r1, r2, r3) := h
 clear h
 by_cases c1 : s0_1 < (s0_0.length : Int)
 case neg =>
  rw [if_neg c1] at H
  have c1b0 : decide (s0_1 < (s0_0.length : Int)) = false := decide_eq_false c1
  clear c1
  by_cases c2 : (wrap64 (s0_1 + 1)) ≤ (s0_0.length : Int)
  ·rw [if_pos c2] at H
   have c2b0 : decide ((wrap64 (s0_1 + 1)) ≤ (s0_0.length : Int)) = true := dt_ c2
   clear c2
   simp only [sj_, pj_] at H
   obtain ⟨rfl, rfl, rfl⟩ := H
   obtain ⟨ASz8_0, cSz8_0, HGz8, hgz8, HSz8_0⟩ := HI0.out
   have hcz1_0 := cellS75_0 HGz8
   have hcz1_1 := cellS75_1 HGz8
   have hcz1_2 := cellS75_2 HGz8
   have hfz1_1 := kf_ HGz8 1
   have hfz1_2 := kf_ HGz8 2
   clear HGz8 hgz8
   go_enter Tryd.func83, Tryd.ntmps83
   go_wp2
   repeat (go_quiet (fail); try go_wp2)
   go_ret
   exact ⟨bnwh_, bkm3_, bkjh_, bjmx_⟩
  rw [if_neg c2] at H
  have c2b0 : decide ((wrap64 (s0_1 + 1)) ≤ (s0_0.length : Int)) = false := decide_eq_false c2
  clear c2
  simp only [sj_, pj_] at H
  obtain ⟨rfl, rfl, rfl⟩ := H
  obtain ⟨ASz9_0, cSz9_0, HGz9, hgz9, HSz9_0⟩ := HI0.out
  have hcz1_0 := cellS75_0 HGz9
  have hcz1_1 := cellS75_1 HGz9
  have hcz1_2 := cellS75_2 HGz9
  have hfz1_1 := kf_ HGz9 1
  have hfz1_2 := kf_ HGz9 2
  clear HGz9 hgz9
  go_enter Tryd.func83, Tryd.ntmps83
  go_wp2
  repeat (go_quiet (fail); try go_wp2)
  go_ret
  exact ⟨bnwh_, bkm3_, bkjh_, bjmx_⟩
 rw [if_pos c1] at H
 have c1b0 : decide (s0_1 < (s0_0.length : Int)) = true := dt_ c1
 clear c1
 by_cases c2 : 0 ≤ s0_1
 case neg =>
  rw [if_neg c2] at H
  exact absurd H bxka_
 rw [if_pos c2] at H
 have c2b0 : decide (0 ≤ s0_1) = true := dt_ c2
 clear c2
 by_cases c3 : (wrap64 (s0_1 + 1)) ≤ (s0_0.length : Int)
 ·rw [if_pos c3] at H
  have c3b0 : decide ((wrap64 (s0_1 + 1)) ≤ (s0_0.length : Int)) = true := dt_ c3
  clear c3
  simp only [sj_, pj_] at H
  obtain ⟨rfl, rfl, rfl⟩ := H
  obtain ⟨ASz5_0, cSz5_0, HGz5, hgz5, HSz5_0⟩ := HI0.out
  have hcz1_0 := cellS75_0 HGz5
  have hcz1_1 := cellS75_1 HGz5
  have hcz1_2 := cellS75_2 HGz5
  have hfz1_1 := kf_ HGz5 1
  have hfz1_2 := kf_ HGz5 2
  clear HGz5 hgz5
  have p1 : 0 ≤ (s0_1 : Int) := od_ bpil_
  have q1 : s0_1 < (s0_0.length : Int) := od_ bpil_
  obtain ⟨ad1, e1, hx1_0⟩ := Kd.at_int HSz5_0 s0_1 p1 q1
  cases e1
  replace hx1_0 := pw_cell_below HB.out hx1_0
  replace p1 := eq_true p1
  replace q1 := eq_true q1
  go_enter Tryd.func83, Tryd.ntmps83
  go_wp2
  repeat (go_quiet (fail); try go_wp2)
  go_ret
  exact ⟨bnwh_, bkm3_, bkjh_, bjmx_⟩
 rw [if_neg c3] at H
 have c3b0 : decide ((wrap64 (s0_1 + 1)) ≤ (s0_0.length : Int)) = false := decide_eq_false c3
 clear c3
 simp only [sj_, pj_] at H
 obtain ⟨rfl, rfl, rfl⟩ := H
 obtain ⟨ASz6_0, cSz6_0, HGz6, hgz6, HSz6_0⟩ := HI0.out
 have hcz1_0 := cellS75_0 HGz6
 have hcz1_1 := cellS75_1 HGz6
 have hcz1_2 := cellS75_2 HGz6
 have hfz1_1 := kf_ HGz6 1
 have hfz1_2 := kf_ HGz6 2
 clear HGz6 hgz6
 have p1 : 0 ≤ (s0_1 : Int) := od_ bpil_
 have q1 : s0_1 < (s0_0.length : Int) := od_ bpil_
 obtain ⟨ad1, e1, hx1_0⟩ := Kd.at_int HSz6_0 s0_1 p1 q1
 cases e1
 replace hx1_0 := pw_cell_below HB.out hx1_0
 replace p1 := eq_true p1
 replace q1 := eq_true q1
 go_enter Tryd.func83, Tryd.ntmps83
 go_wp2
 repeat (go_quiet (fail); try go_wp2)
 go_ret
 exact ⟨bnwh_, bkm3_, bkjh_, bjmx_⟩

def spec_l1Cur_pick.f (s0_0 : List Int) (s0_1 : Int) (s0_2 : Int) (a1 : Int) : Option (Int × Int × Int) := if a1 ≤ 1 then (some (0, s0_1, s0_2)) else ((spec_l1Cur_next.f s0_0 s0_1 s0_2).bind fun bt249 => (if a1 > 200 then ((spec_l1Cur_next.f s0_0 bt249.2.1 bt249.2.2).bind fun bt252 => (if a1 = 0 then (none) else (some (Int.tmod (wrap64 ((wrap64 (bt249.1 * 256)) + bt252.1)) a1, bt252.2.1, bt252.2.2)))) else (if a1 = 0 then (none) else (some (Int.tmod bt249.1 a1, bt249.2.1, bt249.2.2)))))
theorem spec_l1Cur_pick.calls (g : Nat) (s0_0 : List Int) (s0_1 : Int) (s0_2 : Int) (a1 : Int) (r1 : Int) (r2 : Int) (r3 : Int) (w0 w : World) (hI : IsS75 w0 w g s0_0 s0_1 s0_2) (hB : Below w0.heap.size w0 w) (h : spec_l1Cur_pick.f s0_0 s0_1 s0_2 a1 = some (r1, r2, r3)) :
  Calls Tryd.prog 61 #[.pointer (some ⟨g, 0, none⟩), .int .i64 a1] w fun e w' => e = .returned (.int .i64 r1) ∧ IsS75 w0 w' g s0_0 r2 r3 ∧ Below w0.heap.size w0 w' ∧ KeepBut w w' g none := by
 have HI0 := A0_ hI
 have HK := A0_ (KeepBut.refl w g none)
 have HL := A0_ hB.size
 clear hI
 have HW0 := A0_ hB.size
 have HB := A0_ hB
 clear hB
 have H : (if a1 ≤ 1 then (some (0, s0_1, s0_2)) else ((spec_l1Cur_next.f s0_0 s0_1 s0_2).bind fun bt1 => (if a1 > 200 then ((spec_l1Cur_next.f s0_0 bt1.2.1 bt1.2.2).bind fun bt2 => (if a1 = 0 then (none) else (some (Int.tmod (wrap64 ((wrap64 (bt1.1 * 256)) + bt2.1)) a1, bt2.2.1, bt2.2.2)))) else (if a1 = 0 then (none) else (some (Int.tmod bt1.1 a1, bt1.2.1, bt1.2.2)))))) = some (r1, r2, r3) := h
 clear h
 by_cases c1 : a1 ≤ 1
 ·rw [if_pos c1] at H
  have c1b0 : decide (a1 ≤ 1) = true := dt_ c1
  clear c1
  simp only [sj_, pj_] at H
  obtain ⟨rfl, rfl, rfl⟩ := H
  go_enter Tryd.func61, Tryd.ntmps61
  go_wp2
  go_ret
  exact ⟨bnwh_, b5hs_, bkjh_, bjmx_⟩
 rw [if_neg c1] at H
 have c1b0 : decide (a1 ≤ 1) = false := decide_eq_false c1
 clear c1
 obtain ⟨⟨t1, t2, t3⟩, A2, H⟩ := o1_ H
 by_cases c2 : a1 > 200
 case neg =>
  rw [if_neg c2] at H
  have c2b0 : decide (200 < a1) = false := decide_eq_false c2
  clear c2
  by_cases c3 : a1 = 0
  ·rw [if_pos c3] at H
   exact absurd H bxka_
  rw [if_neg c3] at H
  obtain ⟨c3b0, c3b1⟩ := ef_ c3
  simp only [sj_, pj_] at H
  obtain ⟨rfl, rfl, rfl⟩ := H
  go_enter Tryd.func61, Tryd.ntmps61
  go_wp2_with (first | ((with_reducible refine gc_ (f := 83) rfl ?_); refine gl_ 9 Tryd.func83 #[.pointer (some ⟨g, 0, none⟩)] ?_; (with_reducible refine (spec_l1Cur_next.calls g s0_0 s0_1 s0_2 t1 t2 t3 w0 _ ?side1 ?side2 A2.out).mono ?_); (case side1 => exact b5hs_); (case side2 => exact bkjh_); rintro e w1 ⟨rfl, hi, hb, hk⟩; refine ⟨_, rfl, ?_⟩; replace HK := A0_ (KeepBut.trans bjmx_ hk (.inl rfl)); replace HB := A0_ (hb); replace HI0 := A0_ (hi); (try clear hb); (try clear hk); (try clear hi)))
  go_ret
  exact ⟨bnwh_, b5hs_, bkjh_, bjmx_⟩
 rw [if_pos c2] at H
 have c2b0 : decide (200 < a1) = true := dt_ c2
 clear c2
 obtain ⟨⟨t4, t5, t6⟩, A4, H⟩ := o1_ H
 by_cases c3 : a1 = 0
 ·rw [if_pos c3] at H
  exact absurd H bxka_
 rw [if_neg c3] at H
 obtain ⟨c3b0, c3b1⟩ := ef_ c3
 simp only [sj_, pj_] at H
 obtain ⟨rfl, rfl, rfl⟩ := H
 go_enter Tryd.func61, Tryd.ntmps61
 go_wp2_with (first | ((with_reducible refine gc_ (f := 83) rfl ?_); refine gl_ 9 Tryd.func83 #[.pointer (some ⟨g, 0, none⟩)] ?_; (with_reducible refine (spec_l1Cur_next.calls g s0_0 s0_1 s0_2 t1 t2 t3 w0 _ ?side1 ?side2 A2.out).mono ?_); (case side1 => exact b5hs_); (case side2 => exact bkjh_); rintro e w1 ⟨rfl, hi, hb, hk⟩; refine ⟨_, rfl, ?_⟩; replace HK := A0_ (KeepBut.trans bjmx_ hk (.inl rfl)); replace HB := A0_ (hb); replace HI0 := A0_ (hi); (try clear hb); (try clear hk); (try clear hi)) | ((with_reducible refine gc_ (f := 83) rfl ?_); refine gl_ 15 Tryd.func83 #[.pointer (some ⟨g, 0, none⟩)] ?_; (with_reducible refine (spec_l1Cur_next.calls g s0_0 t2 t3 t4 t5 t6 w0 _ ?side1 ?side2 A4.out).mono ?_); (case side1 => exact b5hs_); (case side2 => exact bkjh_); rintro e w2 ⟨rfl, hi, hb, hk⟩; refine ⟨_, rfl, ?_⟩; replace HK := A0_ (KeepBut.trans bjmx_ hk (.inl rfl)); replace HB := A0_ (hb); replace HI0 := A0_ (hi); (try clear hb); (try clear hk); (try clear hi)))
 go_ret
 exact ⟨bnwh_, b5hs_, bkjh_, bjmx_⟩

def spec_l1Cur_one.f (s0_0 : List Int) (s0_1 : Int) (s0_2 : Int) (a1 : Int) : Option (Bool × Int × Int) := (spec_l1Cur_pick.f s0_0 s0_1 s0_2 a1).bind fun bt255 => (some ((bt255.1 == 0), bt255.2.1, bt255.2.2))
theorem spec_l1Cur_one.calls (g : Nat) (s0_0 : List Int) (s0_1 : Int) (s0_2 : Int) (a1 : Int) (r1 : Bool) (r2 : Int) (r3 : Int) (w0 w : World) (hI : IsS75 w0 w g s0_0 s0_1 s0_2) (hB : Below w0.heap.size w0 w) (h : spec_l1Cur_one.f s0_0 s0_1 s0_2 a1 = some (r1, r2, r3)) :
  Calls Tryd.prog 51 #[.pointer (some ⟨g, 0, none⟩), .int .i64 a1] w fun e w' => e = .returned (.bool r1) ∧ IsS75 w0 w' g s0_0 r2 r3 ∧ Below w0.heap.size w0 w' ∧ KeepBut w w' g none := by
 have HI0 := A0_ hI
 have HK := A0_ (KeepBut.refl w g none)
 have HL := A0_ hB.size
 clear hI
 have HW0 := A0_ hB.size
 have HB := A0_ hB
 clear hB
 have H : ((spec_l1Cur_pick.f s0_0 s0_1 s0_2 a1).bind fun bt1 => (some ((bt1.1 == 0), bt1.2.1, bt1.2.2))) = some (r1, r2, r3) := h
 clear h
 obtain ⟨⟨t1, t2, t3⟩, A2, H⟩ := o1_ H
 replace H : (some ((t1 == 0), t2, t3)) = some (r1, r2, r3) := H
 simp only [sj_, pj_] at H
 obtain ⟨rfl, rfl, rfl⟩ := H
 go_enter Tryd.func51, Tryd.ntmps51
 go_wp2_with (first | ((with_reducible refine gc_ (f := 61) rfl ?_); refine gl_ 7 Tryd.func61 #[.pointer (some ⟨g, 0, none⟩), .int .i64 a1] ?_; (with_reducible refine (spec_l1Cur_pick.calls g s0_0 s0_1 s0_2 a1 t1 t2 t3 w0 _ ?side1 ?side2 A2.out).mono ?_); (case side1 => exact b5hs_); (case side2 => exact bkjh_); rintro e w1 ⟨rfl, hi, hb, hk⟩; refine ⟨_, rfl, ?_⟩; replace HK := A0_ (KeepBut.trans bjmx_ hk (.inl rfl)); replace HB := A0_ (hb); replace HI0 := A0_ (hi); (try clear hb); (try clear hk); (try clear hi)))
 go_ret
 exact ⟨bnwh_, b5hs_, bkjh_, bjmx_⟩

def spec_l1Cur_among.f (s0_0 : List Int) (s0_1 : Int) (s0_2 : Int) (l1 : List Int) : Option (Int × Int × Int) := (spec_l1Cur_pick.f s0_0 s0_1 s0_2 (l1.length : Int)).bind fun bt258 => (if 0 ≤ bt258.1 then (if bt258.1 < (l1.length : Int) then (some (rd l1 bt258.1, bt258.2.1, bt258.2.2)) else (none)) else (none))
theorem spec_l1Cur_among.calls (g : Nat) (s0_0 : List Int) (s0_1 : Int) (s0_2 : Int) (A1 : Option Addr) (c1 : Nat) (l1 : List Int) (r1 : Int) (r2 : Int) (r3 : Int) (w0 w : World) (hI : IsS75 w0 w g s0_0 s0_1 s0_2) (hB : Below w0.heap.size w0 w) (hr1 : Kd.C (Kd.int .i64) w A1 l1.length l1) (hc1 : l1.length ≤ c1) (hf1 : ∀ ad, A1 = some ad → 0 < l1.length → ad.block ≠ g) (h : spec_l1Cur_among.f s0_0 s0_1 s0_2 l1 = some (r1, r2, r3)) :
  Calls Tryd.prog 59 #[.pointer (some ⟨g, 0, none⟩), .slice A1 l1.length c1] w fun e w' => e = .returned (.int .i64 r1) ∧ IsS75 w0 w' g s0_0 r2 r3 ∧ Below w0.heap.size w0 w' ∧ KeepBut w w' g none := by
 have HR1 := A0_ hr1
 have HC1 := A0_ hc1
 clear hr1 hc1
 have HI0 := A0_ hI
 have HK := A0_ (KeepBut.refl w g none)
 have HL := A0_ hB.size
 clear hI
 have HW0 := A0_ hB.size
 have HB := A0_ hB
 clear hB
 have H : ((spec_l1Cur_pick.f s0_0 s0_1 s0_2 (l1.length : Int)).bind fun bt1 => (if 0 ≤ bt1.1 then (if bt1.1 < (l1.length : Int) then (some (rd l1 bt1.1, bt1.2.1, bt1.2.2)) else (none)) else (none))) = some (r1, r2, r3) := h
 clear h
 obtain ⟨⟨t1, t2, t3⟩, A3, H⟩ := o1_ H
 by_cases c2 : 0 ≤ t1
 case neg =>
  rw [if_neg c2] at H
  exact absurd H bxka_
 rw [if_pos c2] at H
 have c2b0 : decide (0 ≤ t1) = true := dt_ c2
 clear c2
 by_cases c3 : t1 < (l1.length : Int)
 case neg =>
  rw [if_neg c3] at H
  exact absurd H bxka_
 rw [if_pos c3] at H
 have c3b0 : decide (t1 < (l1.length : Int)) = true := dt_ c3
 clear c3
 simp only [sj_, pj_] at H
 obtain ⟨rfl, rfl, rfl⟩ := H
 go_enter Tryd.func59, Tryd.ntmps59
 go_wp2_with (first | ((with_reducible refine gc_ (f := 61) rfl ?_); refine gl_ 9 Tryd.func61 #[.pointer (some ⟨g, 0, none⟩), .int .i64 (l1.length : Int)] ?_; (with_reducible refine (spec_l1Cur_pick.calls g s0_0 s0_1 s0_2 (l1.length : Int) t1 t2 t3 w0 _ ?side1 ?side2 A3.out).mono ?_); (case side1 => exact b5hs_); (case side2 => exact bkjh_); rintro e w1 ⟨rfl, hi, hb, hk⟩; refine ⟨_, rfl, ?_⟩; replace HK := A0_ (KeepBut.trans bjmx_ hk (.inl rfl)); replace HB := A0_ (hb); replace HI0 := A0_ (hi); (try clear hb); (try clear hk); (try clear hi); have p1 : 0 ≤ (t1 : Int) := od_ bpil_; have q1 : t1 < (l1.length : Int) := od_ bpil_; obtain ⟨ad1, e1, hx1_0⟩ := Kd.at_int HR1.out t1 p1 q1; cases e1; replace hx1_0 := keep_cell HK.out hx1_0 (by first | (rw [add_block]; exact hf1 _ rfl bh19_) | exact hf1 _ rfl bh19_ | exact hf1 ad1 rfl bh19_); replace p1 := eq_true p1; replace q1 := eq_true q1))
 go_ret
 exact ⟨bnwh_, b5hs_, bkjh_, bjmx_⟩

def spec_l1Cur_seats.f (s0_0 : List Int) (s0_1 : Int) (s0_2 : Int) : Option (Int × Int × Int) := (spec_l1Cur_one.f s0_0 s0_1 s0_2 40).bind fun bt262 => (if bt262.1 = true then ((spec_l1Cur_among.f s0_0 bt262.2.1 bt262.2.2 (([1, 2, 24, 25, 0, (-1), 4611686018427387904] : List Int))).bind fun bt268 => (some (bt268.1, bt268.2.1, bt268.2.2))) else ((spec_l1Cur_among.f s0_0 bt262.2.1 bt262.2.2 (([6, 8, 5, 10, 7, 3, 12, 4, 20, 24] : List Int))).bind fun bt274 => (some (bt274.1, bt274.2.1, bt274.2.2))))
theorem spec_l1Cur_seats.calls (g : Nat) (s0_0 : List Int) (s0_1 : Int) (s0_2 : Int) (r1 : Int) (r2 : Int) (r3 : Int) (w0 w : World) (hI : IsS75 w0 w g s0_0 s0_1 s0_2) (hB : Below w0.heap.size w0 w) (h : spec_l1Cur_seats.f s0_0 s0_1 s0_2 = some (r1, r2, r3)) :
  Calls Tryd.prog 91 #[.pointer (some ⟨g, 0, none⟩)] w fun e w' => e = .returned (.int .i64 r1) ∧ IsS75 w0 w' g s0_0 r2 r3 ∧ Below w0.heap.size w0 w' ∧ KeepBut w w' g none := by
 have HI0 := A0_ hI
 have HK := A0_ (KeepBut.refl w g none)
 have HL := A0_ hB.size
 clear hI
 have HW0 := A0_ hB.size
 have HB := A0_ hB
 clear hB
 have H : ((spec_l1Cur_one.f s0_0 s0_1 s0_2 40).bind fun bt1 => (if bt1.1 = true then ((spec_l1Cur_among.f s0_0 bt1.2.1 bt1.2.2 (([1, 2, 24, 25, 0, (-1), 4611686018427387904] : List Int))).bind fun bt2 => (some (bt2.1, bt2.2.1, bt2.2.2))) else ((spec_l1Cur_among.f s0_0 bt1.2.1 bt1.2.2 (([6, 8, 5, 10, 7, 3, 12, 4, 20, 24] : List Int))).bind fun bt3 => (some (bt3.1, bt3.2.1, bt3.2.2))))) = some (r1, r2, r3) := h
 clear h
 obtain ⟨⟨t1, t2, t3⟩, A2, H⟩ := o1_ H
 by_cases c1 : t1 = true
 ·subst c1
  rw [if_pos rfl] at H
  obtain ⟨y1, hy1⟩ : ∃ y_ : List Int, y_ = (([1, 2, 24, 25, 0, (-1), 4611686018427387904] : List Int)) := ⟨_, rfl⟩
  replace H : ((spec_l1Cur_among.f s0_0 t2 t3 y1).bind fun bt2 => (some (bt2.1, bt2.2.1, bt2.2.2))) = some (r1, r2, r3) := bgiq_
  have Ny1 := A0_ hy1
  clear hy1
  obtain ⟨⟨t4, t5, t6⟩, A4, H⟩ := o1_ H
  replace H : (some (t4, t5, t6)) = some (r1, r2, r3) := H
  simp only [sj_, pj_] at H
  obtain ⟨rfl, rfl, rfl⟩ := H
  go_enter Tryd.func91, Tryd.ntmps91
  go_wp2_with (first | ((with_reducible refine gc_ (f := 51) rfl ?_); refine gl_ 4 Tryd.func51 #[.pointer (some ⟨g, 0, none⟩), .int .i64 40] ?_; (with_reducible refine (spec_l1Cur_one.calls g s0_0 s0_1 s0_2 40 true t2 t3 w0 _ ?side1 ?side2 A2.out).mono ?_); (case side1 => exact b5hs_); (case side2 => exact bkjh_); rintro e w1 ⟨rfl, hi, hb, hk⟩; refine ⟨_, rfl, ?_⟩; replace HK := A0_ (KeepBut.trans bjmx_ hk (.inl rfl)); replace HB := A0_ (hb); replace HI0 := A0_ (hi); (try clear hb); (try clear hk); (try clear hi)) | ((with_reducible refine gd_ (N := 6) rfl ?_); refine Kd.R_lit (Kd.int .i64) _ 3 ?hg (N := 6) ?hd (xs := ([1, 2, 24, 25, 0, (-1), 4611686018427387904] : List Int)) (inner := [.int .i64 1, .int .i64 2, .int .i64 24, .int .i64 25, .int .i64 0, .int .i64 (-1), .int .i64 4611686018427387904]) (ok := fun _ => True) (okp := fun _ => True) ?hr ?hp (fun _ hk => hk) trivial (Below.refl _ _) (Nat.le_refl _) bxka_ ?_; (case hd => rfl); (case hg => rfl); (case hr => go_simp; first | done | rfl); (case hp => exact (Reps.one (show Kd.M (Kd.int .i64) _ _ _ 1 [.int .i64 1] from rfl) (Reps.one (show Kd.M (Kd.int .i64) _ _ _ 2 [.int .i64 2] from rfl) (Reps.one (show Kd.M (Kd.int .i64) _ _ _ 24 [.int .i64 24] from rfl) (Reps.one (show Kd.M (Kd.int .i64) _ _ _ 25 [.int .i64 25] from rfl) (Reps.one (show Kd.M (Kd.int .i64) _ _ _ 0 [.int .i64 0] from rfl) (Reps.one (show Kd.M (Kd.int .i64) _ _ _ (-1) [.int .i64 (-1)] from rfl) (Reps.one (show Kd.M (Kd.int .i64) _ _ _ 4611686018427387904 [.int .i64 4611686018427387904] from rfl) (Reps.none _ _))))))))); intro v1 w2 ho7 hb hg_ hnew_; clear hg_ hnew_; (first | rw [← Ny1.out] at ho7 | (simp only [Int.reduceToNat] at ho7; rw [← Ny1.out] at ho7)); have HO1 := A0_ (Kd.R_lower ho7 (keep_size (w := w) (g := g) (row := none) bjmx_)); replace HK := A0_ (KeepBut.trans bjmx_ (KeepBut.of_below hb g none) (.inl rfl)); replace HB := hb_ hb bkjh_; replace HI0 := A0_ (IsS75.below b5hs_ hb); clear hb ho7; obtain ⟨Ao1, co1, eo1⟩ := Kd.R_slice HO1.out; subst eo1) | ((with_reducible refine gc_ (f := 59) rfl ?_); refine gl_ 7 Tryd.func59 #[.pointer (some ⟨g, 0, none⟩), .slice Ao1 y1.length co1] ?_; (with_reducible refine (spec_l1Cur_among.calls g s0_0 t2 t3 _ _ y1 t4 t5 t6 w0 _ ?side1 ?side2 ?side3 ?side4 ?side5 A4.out).mono ?_); (case side1 => exact b5hs_); (case side2 => exact bkjh_); (case side3 => exact bayy_); (case side4 => exact (rr_ HO1.out).2.1); (case side5 => exact far_slice (IsS75.own_ne HI0.out HO1.out bi3y_)); rintro e w3 ⟨rfl, hi, hb, hk⟩; refine ⟨_, rfl, ?_⟩; replace HO1 := A0_ (Kd.R_mono (Kd.R_keep (IsS75.apart (show IsS75 w0 _ g s0_0 t2 t3 from b5hs_) bsm5_ bi3y_) hk (fun _ h => h.2)) (fun _ h => h.1)); replace HK := A0_ (KeepBut.trans bjmx_ hk (.inl rfl)); replace HB := A0_ (hb); replace HI0 := A0_ (hi); (try clear hb); (try clear hk); (try clear hi)))
  go_ret
  exact ⟨bnwh_, b5hs_, bkjh_, bjmx_⟩
 obtain rfl := bf_.mpr c1
 rw [if_neg ft_] at H
 obtain ⟨y1, hy1⟩ : ∃ y_ : List Int, y_ = (([6, 8, 5, 10, 7, 3, 12, 4, 20, 24] : List Int)) := ⟨_, rfl⟩
 replace H : ((spec_l1Cur_among.f s0_0 t2 t3 y1).bind fun bt3 => (some (bt3.1, bt3.2.1, bt3.2.2))) = some (r1, r2, r3) := bgiq_
 have Ny1 := A0_ hy1
 clear hy1
 obtain ⟨⟨t4, t5, t6⟩, A4, H⟩ := o1_ H
 replace H : (some (t4, t5, t6)) = some (r1, r2, r3) := H
 simp only [sj_, pj_] at H
 obtain ⟨rfl, rfl, rfl⟩ := H
 go_enter Tryd.func91, Tryd.ntmps91
 go_wp2_with (first | ((with_reducible refine gc_ (f := 51) rfl ?_); refine gl_ 4 Tryd.func51 #[.pointer (some ⟨g, 0, none⟩), .int .i64 40] ?_; (with_reducible refine (spec_l1Cur_one.calls g s0_0 s0_1 s0_2 40 false t2 t3 w0 _ ?side1 ?side2 A2.out).mono ?_); (case side1 => exact b5hs_); (case side2 => exact bkjh_); rintro e w1 ⟨rfl, hi, hb, hk⟩; refine ⟨_, rfl, ?_⟩; replace HK := A0_ (KeepBut.trans bjmx_ hk (.inl rfl)); replace HB := A0_ (hb); replace HI0 := A0_ (hi); (try clear hb); (try clear hk); (try clear hi)) | ((with_reducible refine gd_ (N := 9) rfl ?_); refine Kd.R_lit (Kd.int .i64) _ 3 ?hg (N := 9) ?hd (xs := ([6, 8, 5, 10, 7, 3, 12, 4, 20, 24] : List Int)) (inner := [.int .i64 6, .int .i64 8, .int .i64 5, .int .i64 10, .int .i64 7, .int .i64 3, .int .i64 12, .int .i64 4, .int .i64 20, .int .i64 24]) (ok := fun _ => True) (okp := fun _ => True) ?hr ?hp (fun _ hk => hk) trivial (Below.refl _ _) (Nat.le_refl _) bxka_ ?_; (case hd => rfl); (case hg => rfl); (case hr => go_simp; first | done | rfl); (case hp => exact (Reps.one (show Kd.M (Kd.int .i64) _ _ _ 6 [.int .i64 6] from rfl) (Reps.one (show Kd.M (Kd.int .i64) _ _ _ 8 [.int .i64 8] from rfl) (Reps.one (show Kd.M (Kd.int .i64) _ _ _ 5 [.int .i64 5] from rfl) (Reps.one (show Kd.M (Kd.int .i64) _ _ _ 10 [.int .i64 10] from rfl) (Reps.one (show Kd.M (Kd.int .i64) _ _ _ 7 [.int .i64 7] from rfl) (Reps.one (show Kd.M (Kd.int .i64) _ _ _ 3 [.int .i64 3] from rfl) (Reps.one (show Kd.M (Kd.int .i64) _ _ _ 12 [.int .i64 12] from rfl) (Reps.one (show Kd.M (Kd.int .i64) _ _ _ 4 [.int .i64 4] from rfl) (Reps.one (show Kd.M (Kd.int .i64) _ _ _ 20 [.int .i64 20] from rfl) (Reps.one (show Kd.M (Kd.int .i64) _ _ _ 24 [.int .i64 24] from rfl) (Reps.none _ _)))))))))))); intro v1 w2 ho13 hb hg_ hnew_; clear hg_ hnew_; (first | rw [← Ny1.out] at ho13 | (simp only [Int.reduceToNat] at ho13; rw [← Ny1.out] at ho13)); have HO1 := A0_ (Kd.R_lower ho13 (keep_size (w := w) (g := g) (row := none) bjmx_)); replace HK := A0_ (KeepBut.trans bjmx_ (KeepBut.of_below hb g none) (.inl rfl)); replace HB := hb_ hb bkjh_; replace HI0 := A0_ (IsS75.below b5hs_ hb); clear hb ho13; obtain ⟨Ao1, co1, eo1⟩ := Kd.R_slice HO1.out; subst eo1) | ((with_reducible refine gc_ (f := 59) rfl ?_); refine gl_ 10 Tryd.func59 #[.pointer (some ⟨g, 0, none⟩), .slice Ao1 y1.length co1] ?_; (with_reducible refine (spec_l1Cur_among.calls g s0_0 t2 t3 _ _ y1 t4 t5 t6 w0 _ ?side1 ?side2 ?side3 ?side4 ?side5 A4.out).mono ?_); (case side1 => exact b5hs_); (case side2 => exact bkjh_); (case side3 => exact bayy_); (case side4 => exact (rr_ HO1.out).2.1); (case side5 => exact far_slice (IsS75.own_ne HI0.out HO1.out bi3y_)); rintro e w3 ⟨rfl, hi, hb, hk⟩; refine ⟨_, rfl, ?_⟩; replace HO1 := A0_ (Kd.R_mono (Kd.R_keep (IsS75.apart (show IsS75 w0 _ g s0_0 t2 t3 from b5hs_) bsm5_ bi3y_) hk (fun _ h => h.2)) (fun _ h => h.1)); replace HK := A0_ (KeepBut.trans bjmx_ hk (.inl rfl)); replace HB := A0_ (hb); replace HI0 := A0_ (hi); (try clear hb); (try clear hk); (try clear hi)))
 go_ret
 exact ⟨bnwh_, b5hs_, bkjh_, bjmx_⟩

def spec_l1Cur_freeRow.f (s0_0 : List Int) (s0_1 : Int) (s0_2 : Int) : Option (Int × Bool × List Int × Int × Int) := (spec_l1Cur_seats.f s0_0 s0_1 s0_2).bind fun bt278 => ((spec_l1Cur_one.f s0_0 bt278.2.1 bt278.2.2 2).bind fun bt281 => ((some (([] : List Int) : List Int)).bind fun y284 => (if bt281.1 = true then (if bt278.1 = 2 then ((spec_l1Cur_one.f s0_0 bt281.2.1 bt281.2.2 4).bind fun bt288 => (if bt288.1 = true then (some (bt278.1, bt281.1, y284, bt288.2.1, bt288.2.2)) else (some (3, bt281.1, y284, bt288.2.1, bt288.2.2)))) else (some (bt278.1, bt281.1, y284, bt281.2.1, bt281.2.2))) else (some (bt278.1, bt281.1, y284, bt281.2.1, bt281.2.2)))))
theorem spec_l1Cur_freeRow.calls (g : Nat) (s0_0 : List Int) (s0_1 : Int) (s0_2 : Int) (r1 : Int) (r2 : Bool) (r3 : List Int) (r4 : Int) (r5 : Int) (w0 w : World) (hI : IsS75 w0 w g s0_0 s0_1 s0_2) (hB : Below w0.heap.size w0 w) (h : spec_l1Cur_freeRow.f s0_0 s0_1 s0_2 = some (r1, r2, r3, r4, r5)) :
  Calls Tryd.prog 86 #[.pointer (some ⟨g, 0, none⟩)] w fun e w' => ∃ v2_ : Value, e = .returned (.agg #[.int .i64 r1, .bool r2, v2_]) ∧ Kd.R (Kd.int .i64) 3 w' w.heap.size (fun _ => True) v2_ r3 ∧ IsS75 w0 w' g s0_0 r4 r5 ∧ Below w0.heap.size w0 w' ∧ KeepBut w w' g none := by
 have hu28 := Tryd.underlying28
 have HI0 := A0_ hI
 have HK := A0_ (KeepBut.refl w g none)
 have HL := A0_ hB.size
 clear hI
 have HW0 := A0_ hB.size
 have HB := A0_ hB
 clear hB
 have H : ((spec_l1Cur_seats.f s0_0 s0_1 s0_2).bind fun bt1 => ((spec_l1Cur_one.f s0_0 bt1.2.1 bt1.2.2 2).bind fun bt2 => ((some (([] : List Int) : List Int)).bind fun y1 => (if bt2.1 = true then (if bt1.1 = 2 then ((spec_l1Cur_one.f s0_0 bt2.2.1 bt2.2.2 4).bind fun bt3 => (if bt3.1 = true then (some (bt1.1, bt2.1, y1, bt3.2.1, bt3.2.2)) else (some (3, bt2.1, y1, bt3.2.1, bt3.2.2)))) else (some (bt1.1, bt2.1, y1, bt2.2.1, bt2.2.2))) else (some (bt1.1, bt2.1, y1, bt2.2.1, bt2.2.2)))))) = some (r1, r2, r3, r4, r5) := h
 clear h
 obtain ⟨⟨t1, t2, t3⟩, A2, H⟩ := o1_ H
 obtain ⟨⟨t4, t5, t6⟩, A4, H⟩ := o1_ H
 obtain ⟨y1, hy1⟩ : ∃ y_ : List Int, y_ = (([] : List Int)) := ⟨_, rfl⟩
 replace H : (if t4 = true then (if t1 = 2 then ((spec_l1Cur_one.f s0_0 t5 t6 4).bind fun bt3 => (if bt3.1 = true then (some (t1, t4, y1, bt3.2.1, bt3.2.2)) else (some (3, t4, y1, bt3.2.1, bt3.2.2)))) else (some (t1, t4, y1, t5, t6))) else (some (t1, t4, y1, t5, t6))) = some (r1, r2, r3, r4, r5) := bgiq_
 have Ny1 := A0_ hy1
 clear hy1
 by_cases c1 : t4 = true
 case neg =>
  obtain rfl := bf_.mpr c1
  rw [if_neg ft_] at H
  simp only [sj_, pj_] at H
  obtain ⟨rfl, rfl, rfl, rfl, rfl⟩ := H
  go_enter Tryd.func86, Tryd.ntmps86
  go_wp2_with (first | ((with_reducible refine gd_ (N := 2) rfl ?_); refine bx_ 2 #[.int .i64 0, .bool false, .slice none 0 0] 28 ?_; intro gb1 hg w1 BK1 hb; replace HB := hb_ hb bkjh_; have GW1 := A0_ ((b7vg_ : w.heap.size ≤ gb1)); have GE1 := A0_ ((Nat.le_trans HW0.out (b7vg_ : w.heap.size ≤ gb1) : w0.heap.size ≤ gb1)); replace HK := A0_ (KeepBut.trans bjmx_ (KeepBut.of_below hb g none) (.inl rfl)); have NB0_1 := A0_ ((bzo9_ : g ≠ gb1)); have NB1_0 := A0_ ((b106_ : gb1 ≠ g)); replace HI0 := A0_ (IsS75.below b5hs_ hb); clear hb hg) | ((with_reducible refine gc_ (f := 91) rfl ?_); refine gl_ 5 Tryd.func91 #[.pointer (some ⟨g, 0, none⟩)] ?_; (with_reducible refine (spec_l1Cur_seats.calls g s0_0 s0_1 s0_2 t1 t2 t3 w0 _ ?side1 ?side2 A2.out).mono ?_); (case side1 => exact b9yh_); (case side2 => exact bois_); rintro e w2 ⟨rfl, hi, hb, hk⟩; refine ⟨_, rfl, ?_⟩; replace BK1 := kb1_ BK1 hk NB1_0; replace HK := A0_ (KeepBut.trans bcka_ hk (.inl rfl)); replace HB := A0_ (hb); replace HI0 := A0_ (hi); (try clear hb); (try clear hk); (try clear hi)) | ((with_reducible refine gc_ (f := 51) rfl ?_); refine gl_ 7 Tryd.func51 #[.pointer (some ⟨g, 0, none⟩), .int .i64 2] ?_; (with_reducible refine (spec_l1Cur_one.calls g s0_0 t2 t3 2 false t5 t6 w0 _ ?side1 ?side2 A4.out).mono ?_); (case side1 => exact b9yh_); (case side2 => exact bois_); rintro e w3 ⟨rfl, hi, hb, hk⟩; refine ⟨_, rfl, ?_⟩; replace BK1 := kb1_ BK1 hk NB1_0; replace HK := A0_ (KeepBut.trans bcka_ hk (.inl rfl)); replace HB := A0_ (hb); replace HI0 := A0_ (hi); (try clear hb); (try clear hk); (try clear hi)) | ((with_reducible refine gd_ (N := 8) rfl ?_); refine Kd.R_lit (Kd.int .i64) _ 3 ?hg (N := 8) ?hd (xs := ([] : List Int)) (inner := []) (ok := fun _ => True) (okp := fun _ => True) ?hr ?hp (fun _ hk => hk) trivial (Below.refl _ _) (Nat.le_refl _) bxka_ ?_; (case hd => rfl); (case hg => rfl); (case hr => go_simp; first | done | rfl); (case hp => exact (Reps.none _ _)); intro v1 w4 ho52 hb hg_ hnew_; clear hg_ hnew_; (first | rw [← Ny1.out] at ho52 | (simp only [Int.reduceToNat] at ho52; rw [← Ny1.out] at ho52)); have HO1 := A0_ (Kd.R_lower ho52 (keep_size (w := w) (g := g) (row := none) bcka_)); replace BK1 := k1_ BK1 hb; replace HK := A0_ (KeepBut.trans bcka_ (KeepBut.of_below hb g none) (.inl rfl)); replace HB := hb_ hb bois_; replace HI0 := A0_ (IsS75.below b9yh_ hb); clear hb ho52; obtain ⟨Ao1, co1, eo1⟩ := Kd.R_slice HO1.out; subst eo1) | ((with_reducible refine gd_ (N := 3) rfl ?_); refine bx_ 3 #[.int .i64 0, .bool false, .slice none 0 0] 28 ?_; intro gb2 hg w5 BK2 hb; replace HO1 := A0_ (Kd.R_below bsm5_ hb); replace HB := hb_ hb bois_; have GW2 := A0_ ((bejl_ : w.heap.size ≤ gb2)); have GE2 := A0_ ((Nat.le_trans HW0.out (bejl_ : w.heap.size ≤ gb2) : w0.heap.size ≤ gb2)); replace HK := A0_ (KeepBut.trans bcka_ (KeepBut.of_below hb g none) (.inl rfl)); have NB1_2 := nl_ hg BK1; have NB2_1 := ng_ hg BK1; replace BK1 := k1_ BK1 hb; have NB0_2 := A0_ ((b0kl_ : g ≠ gb2)); have NB2_0 := A0_ ((byo4_ : gb2 ≠ g)); replace HI0 := A0_ (IsS75.below b9yh_ hb); clear hb hg; have hnb1 := NB2_1.out; have hnc1 := NB1_2.out; have hnb2 := NB2_0.out; have hnc2 := NB0_2.out; have hcz1 := z3_ BK2; have hnb3 := NB1_0.out; have hnc3 := NB0_1.out; have hcz2_0 : w5.cell? ⟨gb1, 0, none⟩ = some (.int .i64 0) := (kc_ BK1.out 0).trans rfl; have hcz2_1 : w5.cell? ⟨gb1, 1, none⟩ = some (.bool false) := (kc_ BK1.out 1).trans rfl; have hcz2_2 : w5.cell? ⟨gb1, 2, none⟩ = some (.slice none 0 0) := (kc_ BK1.out 2).trans rfl; have hfz2_0 := kf_ BK1.out 0; have hfz2_1 := kf_ BK1.out 1; have hfz2_2 := kf_ BK1.out 2))
  refine bodyPost_ret (results_cell_row rfl _ _ gb1 28 #[.int .i64 t1, .bool false, .slice Ao1 y1.length co1] (0, 0) _ rfl (u1_ BK1) Tryd.underlying28 rfl bfqv_) rfl ?_
  exact ⟨_, bnwh_, by (with_reducible repeat (first | apply ra_ | apply rn_ | apply rd_)); exact Kd.R_mono (rf_ (rf_ (rf_ (rf_ (rf_ (rf_ (Kd.R_types (Kd.R_types HO1.out BK2.out bi3y_) BK1.out bi3y_) (fun _ hk => hk.1.2) (.int .i64 t1)) (fun _ hk => hk.1.2) (.bool false)) (fun _ hk => hk.1.2) (.slice Ao1 y1.length co1)) k2_0 _) k2_0 _) k2_0 _) (fun _ hk => trivial), bxkc_, b2rv_, bgjc_⟩
 subst c1
 rw [if_pos rfl] at H
 by_cases c2 : t1 = 2
 case neg =>
  rw [if_neg c2] at H
  obtain ⟨c2b0, c2b1⟩ := ef_ c2
  simp only [sj_, pj_] at H
  obtain ⟨rfl, rfl, rfl, rfl, rfl⟩ := H
  go_enter Tryd.func86, Tryd.ntmps86
  go_wp2_with (first | ((with_reducible refine gd_ (N := 2) rfl ?_); refine bx_ 2 #[.int .i64 0, .bool false, .slice none 0 0] 28 ?_; intro gb1 hg w1 BK1 hb; replace HB := hb_ hb bkjh_; have GW1 := A0_ ((b7vg_ : w.heap.size ≤ gb1)); have GE1 := A0_ ((Nat.le_trans HW0.out (b7vg_ : w.heap.size ≤ gb1) : w0.heap.size ≤ gb1)); replace HK := A0_ (KeepBut.trans bjmx_ (KeepBut.of_below hb g none) (.inl rfl)); have NB0_1 := A0_ ((bzo9_ : g ≠ gb1)); have NB1_0 := A0_ ((b106_ : gb1 ≠ g)); replace HI0 := A0_ (IsS75.below b5hs_ hb); clear hb hg) | ((with_reducible refine gc_ (f := 91) rfl ?_); refine gl_ 5 Tryd.func91 #[.pointer (some ⟨g, 0, none⟩)] ?_; (with_reducible refine (spec_l1Cur_seats.calls g s0_0 s0_1 s0_2 t1 t2 t3 w0 _ ?side1 ?side2 A2.out).mono ?_); (case side1 => exact b9yh_); (case side2 => exact bois_); rintro e w2 ⟨rfl, hi, hb, hk⟩; refine ⟨_, rfl, ?_⟩; replace BK1 := kb1_ BK1 hk NB1_0; replace HK := A0_ (KeepBut.trans bcka_ hk (.inl rfl)); replace HB := A0_ (hb); replace HI0 := A0_ (hi); (try clear hb); (try clear hk); (try clear hi)) | ((with_reducible refine gc_ (f := 51) rfl ?_); refine gl_ 7 Tryd.func51 #[.pointer (some ⟨g, 0, none⟩), .int .i64 2] ?_; (with_reducible refine (spec_l1Cur_one.calls g s0_0 t2 t3 2 true t5 t6 w0 _ ?side1 ?side2 A4.out).mono ?_); (case side1 => exact b9yh_); (case side2 => exact bois_); rintro e w3 ⟨rfl, hi, hb, hk⟩; refine ⟨_, rfl, ?_⟩; replace BK1 := kb1_ BK1 hk NB1_0; replace HK := A0_ (KeepBut.trans bcka_ hk (.inl rfl)); replace HB := A0_ (hb); replace HI0 := A0_ (hi); (try clear hb); (try clear hk); (try clear hi)) | ((with_reducible refine gd_ (N := 8) rfl ?_); refine Kd.R_lit (Kd.int .i64) _ 3 ?hg (N := 8) ?hd (xs := ([] : List Int)) (inner := []) (ok := fun _ => True) (okp := fun _ => True) ?hr ?hp (fun _ hk => hk) trivial (Below.refl _ _) (Nat.le_refl _) bxka_ ?_; (case hd => rfl); (case hg => rfl); (case hr => go_simp; first | done | rfl); (case hp => exact (Reps.none _ _)); intro v1 w4 ho40 hb hg_ hnew_; clear hg_ hnew_; (first | rw [← Ny1.out] at ho40 | (simp only [Int.reduceToNat] at ho40; rw [← Ny1.out] at ho40)); have HO1 := A0_ (Kd.R_lower ho40 (keep_size (w := w) (g := g) (row := none) bcka_)); replace BK1 := k1_ BK1 hb; replace HK := A0_ (KeepBut.trans bcka_ (KeepBut.of_below hb g none) (.inl rfl)); replace HB := hb_ hb bois_; replace HI0 := A0_ (IsS75.below b9yh_ hb); clear hb ho40; obtain ⟨Ao1, co1, eo1⟩ := Kd.R_slice HO1.out; subst eo1) | ((with_reducible refine gd_ (N := 3) rfl ?_); refine bx_ 3 #[.int .i64 0, .bool false, .slice none 0 0] 28 ?_; intro gb2 hg w5 BK2 hb; replace HO1 := A0_ (Kd.R_below bsm5_ hb); replace HB := hb_ hb bois_; have GW2 := A0_ ((bejl_ : w.heap.size ≤ gb2)); have GE2 := A0_ ((Nat.le_trans HW0.out (bejl_ : w.heap.size ≤ gb2) : w0.heap.size ≤ gb2)); replace HK := A0_ (KeepBut.trans bcka_ (KeepBut.of_below hb g none) (.inl rfl)); have NB1_2 := nl_ hg BK1; have NB2_1 := ng_ hg BK1; replace BK1 := k1_ BK1 hb; have NB0_2 := A0_ ((b0kl_ : g ≠ gb2)); have NB2_0 := A0_ ((byo4_ : gb2 ≠ g)); replace HI0 := A0_ (IsS75.below b9yh_ hb); clear hb hg; have hnb1 := NB2_1.out; have hnc1 := NB1_2.out; have hnb2 := NB2_0.out; have hnc2 := NB0_2.out; have hcz1 := z3_ BK2; have hnb3 := NB1_0.out; have hnc3 := NB0_1.out; have hcz2_0 : w5.cell? ⟨gb1, 0, none⟩ = some (.int .i64 0) := (kc_ BK1.out 0).trans rfl; have hcz2_1 : w5.cell? ⟨gb1, 1, none⟩ = some (.bool false) := (kc_ BK1.out 1).trans rfl; have hcz2_2 : w5.cell? ⟨gb1, 2, none⟩ = some (.slice none 0 0) := (kc_ BK1.out 2).trans rfl; have hfz2_0 := kf_ BK1.out 0; have hfz2_1 := kf_ BK1.out 1; have hfz2_2 := kf_ BK1.out 2))
  refine bodyPost_ret (results_cell_row rfl _ _ gb1 28 #[.int .i64 t1, .bool true, .slice Ao1 y1.length co1] (0, 0) _ rfl (u1_ BK1) Tryd.underlying28 rfl bfqv_) rfl ?_
  exact ⟨_, bnwh_, by (with_reducible repeat (first | apply ra_ | apply rn_ | apply rd_)); exact Kd.R_mono (rf_ (rf_ (rf_ (rf_ (rf_ (rf_ (Kd.R_types (Kd.R_types HO1.out BK2.out bi3y_) BK1.out bi3y_) (fun _ hk => hk.1.2) (.int .i64 t1)) (fun _ hk => hk.1.2) (.bool true)) (fun _ hk => hk.1.2) (.slice Ao1 y1.length co1)) k2_0 _) k2_0 _) k2_0 _) (fun _ hk => trivial), bxkc_, b2rv_, bgjc_⟩
 rw [if_pos c2] at H
 obtain ⟨c2b0, c2b1⟩ := et_ c2
 clear c2
 obtain ⟨⟨t7, t8, t9⟩, A6, H⟩ := o1_ H
 by_cases c3 : t7 = true
 ·subst c3
  rw [if_pos rfl] at H
  simp only [sj_, pj_] at H
  obtain ⟨rfl, rfl, rfl, rfl, rfl⟩ := H
  go_enter Tryd.func86, Tryd.ntmps86
  go_wp2_with (first | ((with_reducible refine gd_ (N := 2) rfl ?_); refine bx_ 2 #[.int .i64 0, .bool false, .slice none 0 0] 28 ?_; intro gb1 hg w1 BK1 hb; replace HB := hb_ hb bkjh_; have GW1 := A0_ ((b7vg_ : w.heap.size ≤ gb1)); have GE1 := A0_ ((Nat.le_trans HW0.out (b7vg_ : w.heap.size ≤ gb1) : w0.heap.size ≤ gb1)); replace HK := A0_ (KeepBut.trans bjmx_ (KeepBut.of_below hb g none) (.inl rfl)); have NB0_1 := A0_ ((bzo9_ : g ≠ gb1)); have NB1_0 := A0_ ((b106_ : gb1 ≠ g)); replace HI0 := A0_ (IsS75.below b5hs_ hb); clear hb hg) | ((with_reducible refine gc_ (f := 91) rfl ?_); refine gl_ 5 Tryd.func91 #[.pointer (some ⟨g, 0, none⟩)] ?_; (with_reducible refine (spec_l1Cur_seats.calls g s0_0 s0_1 s0_2 t1 t2 t3 w0 _ ?side1 ?side2 A2.out).mono ?_); (case side1 => exact b9yh_); (case side2 => exact bois_); rintro e w2 ⟨rfl, hi, hb, hk⟩; refine ⟨_, rfl, ?_⟩; replace BK1 := kb1_ BK1 hk NB1_0; replace HK := A0_ (KeepBut.trans bcka_ hk (.inl rfl)); replace HB := A0_ (hb); replace HI0 := A0_ (hi); (try clear hb); (try clear hk); (try clear hi)) | ((with_reducible refine gc_ (f := 51) rfl ?_); refine gl_ 7 Tryd.func51 #[.pointer (some ⟨g, 0, none⟩), .int .i64 2] ?_; (with_reducible refine (spec_l1Cur_one.calls g s0_0 t2 t3 2 true t5 t6 w0 _ ?side1 ?side2 A4.out).mono ?_); (case side1 => exact b9yh_); (case side2 => exact bois_); rintro e w3 ⟨rfl, hi, hb, hk⟩; refine ⟨_, rfl, ?_⟩; replace BK1 := kb1_ BK1 hk NB1_0; replace HK := A0_ (KeepBut.trans bcka_ hk (.inl rfl)); replace HB := A0_ (hb); replace HI0 := A0_ (hi); (try clear hb); (try clear hk); (try clear hi)) | ((with_reducible refine gd_ (N := 8) rfl ?_); refine Kd.R_lit (Kd.int .i64) _ 3 ?hg (N := 8) ?hd (xs := ([] : List Int)) (inner := []) (ok := fun _ => True) (okp := fun _ => True) ?hr ?hp (fun _ hk => hk) trivial (Below.refl _ _) (Nat.le_refl _) bxka_ ?_; (case hd => rfl); (case hg => rfl); (case hr => go_simp; first | done | rfl); (case hp => exact (Reps.none _ _)); intro v1 w4 ho12 hb hg_ hnew_; clear hg_ hnew_; (first | rw [← Ny1.out] at ho12 | (simp only [Int.reduceToNat] at ho12; rw [← Ny1.out] at ho12)); have HO1 := A0_ (Kd.R_lower ho12 (keep_size (w := w) (g := g) (row := none) bcka_)); replace BK1 := k1_ BK1 hb; replace HK := A0_ (KeepBut.trans bcka_ (KeepBut.of_below hb g none) (.inl rfl)); replace HB := hb_ hb bois_; replace HI0 := A0_ (IsS75.below b9yh_ hb); clear hb ho12; obtain ⟨Ao1, co1, eo1⟩ := Kd.R_slice HO1.out; subst eo1) | ((with_reducible refine gd_ (N := 3) rfl ?_); refine bx_ 3 #[.int .i64 0, .bool false, .slice none 0 0] 28 ?_; intro gb2 hg w5 BK2 hb; replace HO1 := A0_ (Kd.R_below bsm5_ hb); replace HB := hb_ hb bois_; have GW2 := A0_ ((bejl_ : w.heap.size ≤ gb2)); have GE2 := A0_ ((Nat.le_trans HW0.out (bejl_ : w.heap.size ≤ gb2) : w0.heap.size ≤ gb2)); replace HK := A0_ (KeepBut.trans bcka_ (KeepBut.of_below hb g none) (.inl rfl)); have NB1_2 := nl_ hg BK1; have NB2_1 := ng_ hg BK1; replace BK1 := k1_ BK1 hb; have NB0_2 := A0_ ((b0kl_ : g ≠ gb2)); have NB2_0 := A0_ ((byo4_ : gb2 ≠ g)); replace HI0 := A0_ (IsS75.below b9yh_ hb); clear hb hg; have hnb1 := NB2_1.out; have hnc1 := NB1_2.out; have hnb2 := NB2_0.out; have hnc2 := NB0_2.out; have hcz1 := z3_ BK2) | (go_at_call 51; (with_reducible refine (spec_l1Cur_one.calls g s0_0 t5 t6 4 true t8 t9 w0 _ ?side1 ?side2 A6.out).mono ?_); (case side1 => exact bxkc_); (case side2 => exact b2rv_); rintro e w6 ⟨rfl, hi, hb, hk⟩; replace BK1 := kb1_ BK1 hk NB1_0; replace HO1 := A0_ (Kd.R_mono (Kd.R_keep (IsS75.apart (show IsS75 w0 _ g s0_0 t5 t6 from bxkc_) byf5_ bi3y_) hk (fun _ h => h.2)) (fun _ h => h.1)); replace BK2 := A0_ (KeepBut.blk hk (g' := gb2) (o := .cells #[.int .i64 t1, .bool true, .slice Ao1 y1.length co1] 28 (0, 0)) (u1_ BK2) NB2_0.out bxka_); replace HK := A0_ (KeepBut.trans bgjc_ hk (.inl rfl)); replace HB := A0_ (hb); replace HI0 := A0_ (hi); (try clear hb); (try clear hk); (try clear hi); have hcz2 := z3_ BK2; have hnb3 := NB1_0.out; have hnc3 := NB0_1.out; have hcz3_0 : w6.cell? ⟨gb1, 0, none⟩ = some (.int .i64 0) := (kc_ BK1.out 0).trans rfl; have hcz3_1 : w6.cell? ⟨gb1, 1, none⟩ = some (.bool false) := (kc_ BK1.out 1).trans rfl; have hcz3_2 : w6.cell? ⟨gb1, 2, none⟩ = some (.slice none 0 0) := (kc_ BK1.out 2).trans rfl; have hfz3_0 := kf_ BK1.out 0; have hfz3_1 := kf_ BK1.out 1; have hfz3_2 := kf_ BK1.out 2))
  refine bodyPost_ret (results_cell_row rfl _ _ gb1 28 #[.int .i64 t1, .bool true, .slice Ao1 y1.length co1] (0, 0) _ rfl (u1_ BK1) Tryd.underlying28 rfl bfqv_) rfl ?_
  exact ⟨_, bnwh_, b083_, bxkc_, b2rv_, bgjc_⟩
 obtain rfl := bf_.mpr c3
 rw [if_neg ft_] at H
 simp only [sj_, pj_] at H
 obtain ⟨rfl, rfl, rfl, rfl, rfl⟩ := H
 go_enter Tryd.func86, Tryd.ntmps86
 go_wp2_with (first | ((with_reducible refine gd_ (N := 2) rfl ?_); refine bx_ 2 #[.int .i64 0, .bool false, .slice none 0 0] 28 ?_; intro gb1 hg w1 BK1 hb; replace HB := hb_ hb bkjh_; have GW1 := A0_ ((b7vg_ : w.heap.size ≤ gb1)); have GE1 := A0_ ((Nat.le_trans HW0.out (b7vg_ : w.heap.size ≤ gb1) : w0.heap.size ≤ gb1)); replace HK := A0_ (KeepBut.trans bjmx_ (KeepBut.of_below hb g none) (.inl rfl)); have NB0_1 := A0_ ((bzo9_ : g ≠ gb1)); have NB1_0 := A0_ ((b106_ : gb1 ≠ g)); replace HI0 := A0_ (IsS75.below b5hs_ hb); clear hb hg) | ((with_reducible refine gc_ (f := 91) rfl ?_); refine gl_ 5 Tryd.func91 #[.pointer (some ⟨g, 0, none⟩)] ?_; (with_reducible refine (spec_l1Cur_seats.calls g s0_0 s0_1 s0_2 t1 t2 t3 w0 _ ?side1 ?side2 A2.out).mono ?_); (case side1 => exact b9yh_); (case side2 => exact bois_); rintro e w2 ⟨rfl, hi, hb, hk⟩; refine ⟨_, rfl, ?_⟩; replace BK1 := kb1_ BK1 hk NB1_0; replace HK := A0_ (KeepBut.trans bcka_ hk (.inl rfl)); replace HB := A0_ (hb); replace HI0 := A0_ (hi); (try clear hb); (try clear hk); (try clear hi)) | ((with_reducible refine gc_ (f := 51) rfl ?_); refine gl_ 7 Tryd.func51 #[.pointer (some ⟨g, 0, none⟩), .int .i64 2] ?_; (with_reducible refine (spec_l1Cur_one.calls g s0_0 t2 t3 2 true t5 t6 w0 _ ?side1 ?side2 A4.out).mono ?_); (case side1 => exact b9yh_); (case side2 => exact bois_); rintro e w3 ⟨rfl, hi, hb, hk⟩; refine ⟨_, rfl, ?_⟩; replace BK1 := kb1_ BK1 hk NB1_0; replace HK := A0_ (KeepBut.trans bcka_ hk (.inl rfl)); replace HB := A0_ (hb); replace HI0 := A0_ (hi); (try clear hb); (try clear hk); (try clear hi)) | ((with_reducible refine gd_ (N := 8) rfl ?_); refine Kd.R_lit (Kd.int .i64) _ 3 ?hg (N := 8) ?hd (xs := ([] : List Int)) (inner := []) (ok := fun _ => True) (okp := fun _ => True) ?hr ?hp (fun _ hk => hk) trivial (Below.refl _ _) (Nat.le_refl _) bxka_ ?_; (case hd => rfl); (case hg => rfl); (case hr => go_simp; first | done | rfl); (case hp => exact (Reps.none _ _)); intro v1 w4 ho26 hb hg_ hnew_; clear hg_ hnew_; (first | rw [← Ny1.out] at ho26 | (simp only [Int.reduceToNat] at ho26; rw [← Ny1.out] at ho26)); have HO1 := A0_ (Kd.R_lower ho26 (keep_size (w := w) (g := g) (row := none) bcka_)); replace BK1 := k1_ BK1 hb; replace HK := A0_ (KeepBut.trans bcka_ (KeepBut.of_below hb g none) (.inl rfl)); replace HB := hb_ hb bois_; replace HI0 := A0_ (IsS75.below b9yh_ hb); clear hb ho26; obtain ⟨Ao1, co1, eo1⟩ := Kd.R_slice HO1.out; subst eo1) | ((with_reducible refine gd_ (N := 3) rfl ?_); refine bx_ 3 #[.int .i64 0, .bool false, .slice none 0 0] 28 ?_; intro gb2 hg w5 BK2 hb; replace HO1 := A0_ (Kd.R_below bsm5_ hb); replace HB := hb_ hb bois_; have GW2 := A0_ ((bejl_ : w.heap.size ≤ gb2)); have GE2 := A0_ ((Nat.le_trans HW0.out (bejl_ : w.heap.size ≤ gb2) : w0.heap.size ≤ gb2)); replace HK := A0_ (KeepBut.trans bcka_ (KeepBut.of_below hb g none) (.inl rfl)); have NB1_2 := nl_ hg BK1; have NB2_1 := ng_ hg BK1; replace BK1 := k1_ BK1 hb; have NB0_2 := A0_ ((b0kl_ : g ≠ gb2)); have NB2_0 := A0_ ((byo4_ : gb2 ≠ g)); replace HI0 := A0_ (IsS75.below b9yh_ hb); clear hb hg; have hnb1 := NB2_1.out; have hnc1 := NB1_2.out; have hnb2 := NB2_0.out; have hnc2 := NB0_2.out; have hcz1 := z3_ BK2) | (go_at_call 51; (with_reducible refine (spec_l1Cur_one.calls g s0_0 t5 t6 4 false t8 t9 w0 _ ?side1 ?side2 A6.out).mono ?_); (case side1 => exact bxkc_); (case side2 => exact b2rv_); rintro e w6 ⟨rfl, hi, hb, hk⟩; replace BK1 := kb1_ BK1 hk NB1_0; replace HO1 := A0_ (Kd.R_mono (Kd.R_keep (IsS75.apart (show IsS75 w0 _ g s0_0 t5 t6 from bxkc_) byf5_ bi3y_) hk (fun _ h => h.2)) (fun _ h => h.1)); replace BK2 := A0_ (KeepBut.blk hk (g' := gb2) (o := .cells #[.int .i64 t1, .bool true, .slice Ao1 y1.length co1] 28 (0, 0)) (u1_ BK2) NB2_0.out bxka_); replace HK := A0_ (KeepBut.trans bgjc_ hk (.inl rfl)); replace HB := A0_ (hb); replace HI0 := A0_ (hi); (try clear hb); (try clear hk); (try clear hi); have hcz2 := z3_ BK2; have hnb3 := NB1_0.out; have hnc3 := NB0_1.out; have hcz3_0 : w6.cell? ⟨gb1, 0, none⟩ = some (.int .i64 0) := (kc_ BK1.out 0).trans rfl; have hcz3_1 : w6.cell? ⟨gb1, 1, none⟩ = some (.bool false) := (kc_ BK1.out 1).trans rfl; have hcz3_2 : w6.cell? ⟨gb1, 2, none⟩ = some (.slice none 0 0) := (kc_ BK1.out 2).trans rfl; have hfz3_0 := kf_ BK1.out 0; have hfz3_1 := kf_ BK1.out 1; have hfz3_2 := kf_ BK1.out 2))
 refine bodyPost_ret (results_cell_row rfl _ _ gb1 28 #[.int .i64 3, .bool true, .slice Ao1 y1.length co1] (0, 0) _ rfl (u1_ BK1) Tryd.underlying28 rfl bfqv_) rfl ?_
 exact ⟨_, bnwh_, by (with_reducible repeat (first | apply ra_ | apply rn_ | apply rd_)); exact Kd.R_mono (rf_ (rf_ (rf_ (rf_ (Kd.R_types (Kd.R_types HO1.out BK2.out bi3y_) BK1.out bi3y_) (fun _ hk => hk.1.2) (.int .i64 3)) k2_0 _) k2_0 _) k2_0 _) (fun _ hk => trivial), bxkc_, b2rv_, bgjc_⟩

def spec_OtherSeats.f (k : Nat) (a0_0 : Int) (a0_1 : Bool) (l0_2 : List Int) : Option (Int × Bool × List Int × Bool) := (spec_l2Row.f k a0_0 a0_1 l0_2).bind fun t293 => (if t293 = true then ((spec_l2Free.f k a0_0 a0_1 l0_2).bind fun t294 => ((spec_l2Made.f a0_0 a0_1 l0_2 t294).bind fun bt297 => (some (bt297.1, bt297.2.1, bt297.2.2, true)))) else (some (0, false, ([] : List Int), false)))
theorem spec_OtherSeats.mono : ∀ a0 a1 a2 k, LeO (spec_OtherSeats.f k a0 a1 a2) (spec_OtherSeats.f (k + 1) a0 a1 a2) := by
 intro a0 a1 a2 k
 unfold spec_OtherSeats.f
 repeat' with_reducible first | exact spec_l2Free.mono .. | exact spec_l2Row.mono .. | exact LeO.refl .. | exact LeO.none .. | refine LeO.ite ?_ ?_ | refine LeO.bind ?_ (fun _ => ?_)
theorem spec_OtherSeats.calls (k : Nat) (a0_0 : Int) (a0_1 : Bool) (A0_2 : Option Addr) (c0_2 : Nat) (l0_2 : List Int) (r1 : Int) (r2 : Bool) (r3 : List Int) (r4 : Bool) (w : World) (hr0_2 : Kd.C (Kd.int .i64) w A0_2 l0_2.length l0_2) (hc0_2 : l0_2.length ≤ c0_2) (h : spec_OtherSeats.f k a0_0 a0_1 l0_2 = some (r1, r2, r3, r4)) :
  Calls Tryd.prog 87 #[.agg #[.int .i64 a0_0, .bool a0_1, .slice A0_2 l0_2.length c0_2]] w fun e w' => ∃ v2_ : Value, e = .returned (.tuple #[.agg #[.int .i64 r1, .bool r2, v2_], .bool r4]) ∧ Kd.R (Kd.int .i64) 3 w' w.heap.size (fun _ => True) v2_ r3 ∧ Below w.heap.size w w' := by
 have hu28 := Tryd.underlying28
 have HR0_2 := A0_ hr0_2
 have HC0_2 := A0_ hc0_2
 clear hr0_2 hc0_2
 have HB := A0_ (Below.refl w.heap.size w)
 have H : ((spec_l2Row.f k a0_0 a0_1 l0_2).bind fun t1 => (if t1 = true then ((spec_l2Free.f k a0_0 a0_1 l0_2).bind fun t2 => ((spec_l2Made.f a0_0 a0_1 l0_2 t2).bind fun bt1 => (some (bt1.1, bt1.2.1, bt1.2.2, true)))) else (some (0, false, ([] : List Int), false)))) = some (r1, r2, r3, r4) := h
 clear h
 obtain ⟨t1, A2, H⟩ := o1_ H
 by_cases c1 : t1 = true
 case neg =>
  obtain rfl := bf_.mpr c1
  rw [if_neg ft_] at H
  simp only [sj_, pj_] at H
  obtain ⟨rfl, rfl, rfl, rfl⟩ := H
  go_enter Tryd.func87, Tryd.ntmps87
  go_wp2_with (first | ((with_reducible refine gd_ (N := 1) rfl ?_); refine bx_ 1 #[.int .i64 a0_0, .bool a0_1, .slice A0_2 l0_2.length c0_2] 28 ?_; intro gb1 hg w1 BK1 hb; have GW1 := ge_ hg brt4_; have GE1 := GW1; replace HB := hb_ hb brt4_; clear hb hg) | ((with_reducible refine gd_ (N := 2) rfl ?_); refine bx_ 2 #[.int .i64 0, .bool false, .slice none 0 0] 28 ?_; intro gb2 hg w2 BK2 hb; have GW2 := ge_ hg be6g_; have GE2 := GW2; replace HB := hb_ hb be6g_; have NB1_2 := nl_ hg BK1; have NB2_1 := ng_ hg BK1; replace BK1 := k1_ BK1 hb; clear hb hg; have hnb1 := NB1_2.out; have hnc1 := NB2_1.out; have hcz1 := z3_ BK1) | ((with_reducible refine gc_ (f := 81) rfl ?_); refine gl_ 5 Tryd.func81 #[.agg #[.int .i64 a0_0, .bool a0_1, .slice A0_2 l0_2.length c0_2]] ?_; (with_reducible refine (spec_l2Row.calls k a0_0 a0_1 _ _ l0_2 false _ ?side1 ?side2 A2.out).mono ?_); (case side1 => exact b6n8_); (case side2 => exact HC0_2.out); rintro e w3 ⟨rfl, hb⟩; refine ⟨_, rfl, ?_⟩; replace BK1 := k1_ BK1 hb; replace BK2 := k1_ BK2 hb; replace HB := hb_ hb bfnq_; (try clear hb); have hcz2 := z3_ BK2))
  refine bodyPost_ret (results_ct rfl _ _ gb2 28 #[.int .i64 0, .bool false, .slice none 0 0] (0, 0) _ rfl (u1_ BK2) Tryd.underlying28 rfl bfqv_) rfl ?_
  exact ⟨_, bnwh_, bwfe_, bfnq_⟩
 subst c1
 rw [if_pos rfl] at H
 obtain ⟨t2, A4, H⟩ := o1_ H
 obtain ⟨⟨t3, t4, t5⟩, A6, H⟩ := o1_ H
 replace H : (some (t3, t4, t5, true)) = some (r1, r2, r3, r4) := H
 simp only [sj_, pj_] at H
 obtain ⟨rfl, rfl, rfl, rfl⟩ := H
 go_enter Tryd.func87, Tryd.ntmps87
 try go_wp2_with (first | ((with_reducible refine gd_ (N := 1) rfl ?_); refine bx_ 1 #[.int .i64 a0_0, .bool a0_1, .slice A0_2 l0_2.length c0_2] 28 ?_; intro gb1 hg w1 BK1 hb; have GW1 := ge_ hg brt4_; have GE1 := GW1; replace HB := hb_ hb brt4_; clear hb hg) | ((with_reducible refine gd_ (N := 2) rfl ?_); refine bx_ 2 #[.int .i64 0, .bool false, .slice none 0 0] 28 ?_; intro gb2 hg w2 BK2 hb; have GW2 := ge_ hg be6g_; have GE2 := GW2; replace HB := hb_ hb be6g_; have NB1_2 := nl_ hg BK1; have NB2_1 := ng_ hg BK1; replace BK1 := k1_ BK1 hb; clear hb hg; have hnb1 := NB1_2.out; have hnc1 := NB2_1.out; have hcz1 := z3_ BK1) | ((with_reducible refine gc_ (f := 81) rfl ?_); refine gl_ 5 Tryd.func81 #[.agg #[.int .i64 a0_0, .bool a0_1, .slice A0_2 l0_2.length c0_2]] ?_; (with_reducible refine (spec_l2Row.calls k a0_0 a0_1 _ _ l0_2 true _ ?side1 ?side2 A2.out).mono ?_); (case side1 => exact b6n8_); (case side2 => exact HC0_2.out); rintro e w3 ⟨rfl, hb⟩; refine ⟨_, rfl, ?_⟩; replace BK1 := k1_ BK1 hb; replace BK2 := k1_ BK2 hb; replace HB := hb_ hb bfnq_; (try clear hb)))
 replace BK1 := A0_ (kd_ BK1.out)
 replace BK2 := A0_ (kd_ BK2.out)
 replace HB := A0_ (bd_ HB.out)
 refine start_ (n := 6) (S := fun w' => w'.cell? ⟨gb1, 0, none⟩ = some (.int .i64 a0_0) ∧ w'.cell? ⟨gb1, 1, none⟩ = some (.bool a0_1) ∧ w'.cell? ⟨gb1, 2, none⟩ = some (.slice A0_2 l0_2.length c0_2)) (ds := []) #[false, false, false, false, false, false] bfqv_ rfl rfl ⟨(kc_ BK1.out 0).trans rfl, (kc_ BK1.out 1).trans rfl, (kc_ BK1.out 2).trans rfl⟩ (fun hHeld => ?_)
 generalize w3.drew = w4 at BK1 BK2 HB hHeld ⊢
 refine tk_ 0 8 hHeld ?_
 refine tk_ 1 9 hHeld ?_
 refine on_ 2 (some 10) (fun K hK => ?_)
 refine gs_ Tryd.func42 #[.agg #[.int .i64 a0_0, .bool a0_1, .slice A0_2 l0_2.length c0_2]] ?_
 with_reducible refine (spec_l2Free.calls k a0_0 a0_1 _ _ l0_2 t2 _ ?side1 ?side2 A4.out).mono ?_
 (case side1 => exact b6n8_)
 (case side2 => exact HC0_2.out)
 rintro e w5 ⟨v1, rfl, ho0, hb⟩
 refine ⟨_, rfl, ?_⟩
 have HO1 := A0_ (Kd.R_lower ho0 (bz_ bfnq_))
 replace BK1 := k1_ BK1 hb
 replace BK2 := k1_ BK2 hb
 replace HB := hb_ hb bfnq_
 (try clear hb); (try clear ho0)
 obtain ⟨Ao1, co1, eo1⟩ := Kd.R_slice HO1.out
 (first | subst eo1 | (injection eo1 with f1_ f2_ f3_; have f4_ := f1_.symm; have f5_ := f3_.symm; clear f1_ f2_ f3_; subst f4_; subst f5_))
 refine hK.out _ _ (c3_ BK1) (fun hHeld => ?_)
 clear hK K
 refine nm_ 10 ?_
 refine on_ 3 (some 11) (fun K hK => ?_)
 refine gs_ Tryd.func71 #[.agg #[.int .i64 a0_0, .bool a0_1, .slice A0_2 l0_2.length c0_2], .slice Ao1 t2.length co1] ?_
 with_reducible refine (spec_l2Made.calls a0_0 a0_1 _ _ l0_2 (fun k_ => some k_ = (.slice Ao1 t2.length co1 : Value).ownBlock) (.slice Ao1 t2.length co1) t2 t3 t4 t5 w _ ?side1 ?side2 ?side3 ?side4 A6.out).mono ?_
 (case side1 => exact bfnq_)
 (case side2 => exact Kd.C_kept_came (Kd.heap_int .i64) HR0_2.out bfnq_ (fun k_ hs_ => (fun e_ => Kd.R_base HO1.out k_ e_.symm) hs_))
 (case side3 => exact HC0_2.out)
 (case side4 => exact Kd.R_tight rfl HO1.out)
 rintro e w6 ⟨v3, rfl, ho0, hb, hkp⟩
 refine ⟨_, rfl, ?_⟩
 have n0_ := A0_ (blk_kept (u1_ BK1) hkp (fun hs_ => (fun e_ => (Kd.R_ne HO1.out BK1.out bi3y_) e_) hs_))
 have n1_ := A0_ (blk_kept (u1_ BK2) hkp (fun hs_ => (fun e_ => (Kd.R_ne HO1.out BK2.out bi3y_) e_) hs_))
 have n2_ := A0_ (Kd.R_mono (ok' := fun k_ => True) ho0 (fun k_ hk_ => trivial))
 have n3_ := A0_ (hb)
 clear BK1
 clear BK2
 clear HB
 clear HO1
 have BK1 := n0_
 have BK2 := n1_
 have HO2 := n2_
 have HB := n3_
 clear n0_ n1_ n2_ n3_
 (try clear hb)
 (try clear hkp)
 (try clear ho0)
 obtain ⟨Ao2, co2, eo2⟩ := Kd.R_slice HO2.out
 (first | subst eo2 | (injection eo2 with f1_ f2_ f3_; have f4_ := f1_.symm; have f5_ := f3_.symm; clear f1_ f2_ f3_; subst f4_; subst f5_))
 refine hK.out _ _ (c3_ BK1) (fun hHeld => ?_)
 clear hK K
 refine nm_ 11 ?_
 refine on_ 4 none (fun K hK => ?_)
 have hs15 : w6.cell? ⟨gb2, 0, none⟩ = some (.int .i64 0) := (kc_ BK2.out 0).trans rfl
 have hfs15 := kf_ BK2.out 0
 have hns1_0 := NB1_2.out
 have hms1_0 := NB2_1.out
 have hs16 : w6.cell? ⟨gb2, 1, none⟩ = some (.bool false) := (kc_ BK2.out 1).trans rfl
 have hfs16 := kf_ BK2.out 1
 have hns2_0 := NB1_2.out
 have hms2_0 := NB2_1.out
 have hs18 : w6.cell? ⟨gb2, 2, none⟩ = some (.slice none 0 0) := (kc_ BK2.out 2).trans rfl
 have hfs18 := kf_ BK2.out 2
 have hns3_0 := NB1_2.out
 have hms3_0 := NB2_1.out
 refine skip_ (w1 := ?_) b139_ rfl ?_ ?_
 rotate_left
 ·go_simp
  rfl
 refine hK.out _ _ ⟨((cell_far (p := ⟨gb2, _, none⟩) NB1_2.out _).trans (((cell_far (p := ⟨gb2, _, none⟩) NB1_2.out _).trans (((cell_far (p := ⟨gb2, _, none⟩) NB1_2.out _).trans (hHeld.1)))))), ((cell_far (p := ⟨gb2, _, none⟩) NB1_2.out _).trans (((cell_far (p := ⟨gb2, _, none⟩) NB1_2.out _).trans (((cell_far (p := ⟨gb2, _, none⟩) NB1_2.out _).trans (hHeld.2.1)))))), ((cell_far (p := ⟨gb2, _, none⟩) NB1_2.out _).trans (((cell_far (p := ⟨gb2, _, none⟩) NB1_2.out _).trans (((cell_far (p := ⟨gb2, _, none⟩) NB1_2.out _).trans (hHeld.2.2))))))⟩ (fun hHeld => ?_)
 clear hK K
 refine pu_ 5 3 ?_
 refine done_ bfqv_ ?_
 try go_wp2
 refine bodyPost_ret (results_ct rfl _ _ gb2 28 #[.int .i64 t3, .bool t4, .slice Ao2 t5.length co2] (0, 0) _ rfl (u1_ BK2) Tryd.underlying28 rfl bfqv_) rfl ?_
 exact ⟨_, bnwh_, bhxu_, bfnq_⟩

end Go.Proofs.YtohmonfaabofaaaDoor.QFnTheatre
-- packed
-- squeezed
