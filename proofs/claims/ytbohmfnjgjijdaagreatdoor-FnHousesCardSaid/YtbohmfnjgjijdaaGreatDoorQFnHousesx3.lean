-- Written by px.py, a program of this session, over the kit's printer: some functions have a definition and a proof of this session's own.
import Derived.Lib.TrailingZeros
import Derived.Laws.Bits64b
import Derived.Test.YtbohmfnjgjijdaaGreatDoorQFnHousesx0
import Derived.Test.YtbohmfnjgjijdaaGreatDoorQFnHousesx2
import Derived.Lib.SliceRun
import Derived.Shelf.Slices.Delete
import Derived.Sort.OwnSortedInts
import Derived.KernelRfl
import Derived.Maps.AppendAt
namespace Go.Proofs.YtbohmfnjgjijdaaGreatDoor.QFnHouses
open Go.RowKit Go.Proofs.YtbohmfnjgjijdaaGreatDoorW.PrintWords Go.Proofs.YtbohmfnjgjijdaaGreatDoorW.PrintLast Go.Proofs.YtbohmfnjgjijdaaGreatDoorW.PrintMore
attribute [local go_sem] ek el eM eN dU dV en eo   -- for this text's walks alone
set_option linter.unusedVariables false
set_option linter.unusedSimpArgs false
set_option maxHeartbeats 8000000
set_option maxRecDepth 100000

def aM.f (k:Nat) (a0_0:Int) (a0_1:Bool) (l0_2:List Int) (l0_3:List Int) (a0_4:Int):Option (Bool):=(be.f k a0_0 a0_1 l0_2).bind fun t173=>(if t173=true then ((cA.f l0_3).bind fun t174=>((az.f k t174 l0_2).bind fun t177=>(if t177=true then ((cm.f a0_4 0 1000).bind fun t178=>(some t178)) else (some false)))) else (some false))
theorem aM.mono:∀ a0 a1 a2 a3 a4 k,LeO (aM.f k a0 a1 a2 a3 a4) (aM.f (k+1) a0 a1 a2 a3 a4):=by
 intro a0 a1 a2 a3 a4 k;unfold aM.f
 repeat' with_reducible first|exact be.mono ..|exact az.mono ..|exact LeO.refl ..|exact LeO.none ..|refine LeO.ite ?_ ?_|refine LeO.bind ?_ (fun _=>?_)
def aM.T1:Bool × List (List Nat × List Nat):=(true,[([],[]),([0],[0]),([1],[1]),([2,2],[2]),([3],[3]),([4,3],[3,4]),([5,3,3],[3,5]),([6,6,3],[3,6]),([3],[3]),([8,3],[3,8]),([9,3],[3,9]),([7,10,7,3],[3,7,10]),([3,11],[3,11]),([12,11],[12]),([13],[13]),([14,13],[13,14]),([15,13,13],[13,15]),([13,16],[13,16]),([17,16,0,1,2,3,4,5,6,7,8,9,10,11,12,13,14,15,16,17],[17])])
def aM.B1:List Nat:=[0,1,3,7,15,31,63,127,15,271,783,2047,4095,8191,16383,32767,65535,131071,262143]
theorem aM.tab1:df .any (dO Tryz.f26 1)=aM.T1:=by kernel_rfl
theorem aM.bits1:ce aM.T1.2 aM.B1=true:=by kernel_rfl
theorem aM.calls (k:Nat) (a0_0:Int) (a0_1:Bool) (A0_2:Option Addr) (c0_2:Nat) (l0_2:List Int) (A0_3:Option Addr) (c0_3:Nat) (l0_3:List Int) (a0_4:Int) (r:Bool) (w:World) (hr0_2:Kd.C (Kd.int .i64) w A0_2 l0_2.length l0_2) (hc0_2:l0_2.length≤c0_2) (hr0_3:Kd.C (Kd.int .i64) w A0_3 l0_3.length l0_3) (hc0_3:l0_3.length≤c0_3) (H:aM.f k a0_0 a0_1 l0_2 l0_3 a0_4=some r) :
  Calls Tryz.prog 26 #[.agg #[.int .i64 a0_0,.bool a0_1,.slice A0_2 l0_2.length c0_2,.slice A0_3 l0_3.length c0_3,.int .i64 a0_4]] w fun e w'=>e=.returned (.bool r)∧Below w.heap.size w w':=by
 have hu31:=Tryz.underlying32;have hu29:=Tryz.underlying30;have HR0_2:=A0_ hr0_2;have HC0_2:=A0_ hc0_2;clear hr0_2 hc0_2;have HR0_3:=A0_ hr0_3;have HC0_3:=A0_ hc0_3;clear hr0_3 hc0_3;have HB:=A0_ (Below.refl w.heap.size w);unfold aM.f at H;obtain ⟨t1,A2,H⟩:=o1_ H
 by_cases c1:t1=true
 ·subst c1
  rw [if_pos rfl] at H;obtain ⟨t2,A4,H⟩:=o1_ H;obtain ⟨t3,A6,H⟩:=o1_ H
  by_cases c2:t3=true
  case neg =>
   obtain rfl:=bf_.mpr c2;rw [if_neg ft_] at H;obtain rfl:=si_ H;go_enter Tryz.func26,Tryz.ntmps26
   try go_wp2_with (first|((with_reducible refine gd_ (N:=1) rfl ?_);refine bx_ 1 #[.int .i64 a0_0,.bool a0_1,.slice A0_2 l0_2.length c0_2,.slice A0_3 l0_3.length c0_3,.int .i64 a0_4] 32 ?_;intro gb1 hg w1 BK1 hb;have GW1:=ge_ hg ai;have GE1:=GW1;replace HB:=hb_ hb ai;clear hb hg))
   replace BK1:=A0_ (kd_ BK1.out);replace HB:=A0_ (bd_ HB.out)
   refine s5_ 19 [] BK1 aM.tab1 aM.bits1 (fun hHeld HT_ HW_=>?_)
   generalize w1.drew=w2 at BK1 HB hHeld ⊢
   refine pu_ 0 3 ?_
   refine tk_ 1 4 hHeld ?_
   refine on_ 2 (some 5) (fun K hK=>?_)
   refine gs_ Tryz.func58 #[.agg #[.int .i64 a0_0,.bool a0_1,.slice A0_2 l0_2.length c0_2]] ?_
   with_reducible refine (be.calls k a0_0 a0_1 _ _ l0_2 true _ ?_ ?_ A2.out).mono ?_
   exact bz
   exact HC0_2.out
   rintro e w3 ⟨rfl,hb⟩
   refine ⟨_,rfl,?_⟩
   replace BK1:=k1_ BK1 hb;replace HB:=hb_ hb aj
   (try clear hb)
   refine hK.out _ _ (c5_ BK1) (fun hHeld=>?_)
   clear hK K
   refine nm_ 5 ?_
   refine pu_ 3 6 ?_
   refine pu_ 4 7 ?_
   refine pu_ 8 11 ?_
   refine pu_ 9 12 ?_
   refine tk_ 5 8 hHeld ?_
   refine tk_ 10 13 hHeld ?_
   refine on_ 6 (some 9) (fun K hK=>?_)
   refine gs_ Tryz.func61 #[.slice A0_3 l0_3.length c0_3] ?_
   with_reducible refine (eV.calls A0_3 l0_3.length c0_3 _).mono ?_
   rintro e wv_ ⟨gv_,rfl,hcv,hb⟩
   refine ⟨_,rfl,?_⟩
   have HGV:=A0_ hcv;clear hcv;replace BK1:=k1_ BK1 hb;replace HB:=hb_ hb aj
   (try clear hb)
   refine hK.out _ _ (c5_ BK1) (fun hHeld=>?_)
   clear hK K
   refine nm_ 9 ?_
   refine on_ 7 (some 10) (fun K hK=>?_)
   refine gs_ Tryz.func60 #[.func (.func 83) #[] #[.pointer (some ⟨gv_,0,none⟩)]] ?_
   with_reducible refine (cA.calls gv_ _ _ l0_3 t2 _ HGV.out ?_ ?_ A4.out).mono ?_
   exact b6
   exact HC0_3.out
   rintro e w4 ⟨v1,rfl,ho0,hb⟩
   refine ⟨_,rfl,?_⟩
   have HO1:=A0_ (Kd.R_lower ho0 (bz_ aj));replace BK1:=k1_ BK1 hb;replace HB:=hb_ hb aj
   (try clear hb ho0)
   obtain ⟨Ao1,co1,eo1⟩:=Kd.R_slice HO1.out
   (first|subst eo1|(injection eo1 with f1_ f2_ f3_;have f4_:=f1_.symm;have f5_:=f3_.symm;clear f1_ f2_ f3_;subst f4_;subst f5_))
   refine hK.out _ _ (c5_ BK1) (fun hHeld=>?_)
   clear hK K
   refine nm_ 10 ?_
   refine on_ 11 (some 14) (fun K hK=>?_)
   refine gs_ Tryz.func59 #[.slice Ao1 t2.length co1,.slice A0_2 l0_2.length c0_2] ?_
   with_reducible refine (az.calls k _ _ t2 _ _ l0_2 false _ ?_ ?_ ?_ ?_ A6.out).mono ?_
   exact dW
   exact (rr_ HO1.out).2.1
   exact bz
   exact HC0_2.out
   rintro e w' ⟨rfl,⟨nd,rfl⟩⟩
   refine ⟨_,rfl,?_⟩
   refine hK.out _ _ (c5_ BK1) (fun hHeld=>?_)
   clear hK K
   refine nm_ 14 ?_
   refine pu_ 12 15 ?_
   refine pu_ 13 16 ?_
   refine pv_ 14 17 ?_
   refine pv_ 15 18 ?_
   refine pv_ 16 19 ?_
   refine pu_ 17 20 ?_
   refine pu_ 18 2 ?_
   refine dn_ ?_
   try go_wp2
   go_ret
   exact ⟨aE,aj⟩
  subst c2;rw [if_pos rfl] at H;obtain ⟨t4,A8,H⟩:=o1_ H;replace H:(some t4)=some r:=H;obtain rfl:=si_ H;go_enter Tryz.func26,Tryz.ntmps26
  try go_wp2_with (first|((with_reducible refine gd_ (N:=1) rfl ?_);refine bx_ 1 #[.int .i64 a0_0,.bool a0_1,.slice A0_2 l0_2.length c0_2,.slice A0_3 l0_3.length c0_3,.int .i64 a0_4] 32 ?_;intro gb1 hg w1 BK1 hb;have GW1:=ge_ hg ai;have GE1:=GW1;replace HB:=hb_ hb ai;clear hb hg))
  replace BK1:=A0_ (kd_ BK1.out);replace HB:=A0_ (bd_ HB.out)
  refine s5_ 19 [] BK1 aM.tab1 aM.bits1 (fun hHeld HT_ HW_=>?_)
  generalize w1.drew=w2 at BK1 HB hHeld ⊢
  refine pu_ 0 3 ?_
  refine tk_ 1 4 hHeld ?_
  refine on_ 2 (some 5) (fun K hK=>?_)
  refine gs_ Tryz.func58 #[.agg #[.int .i64 a0_0,.bool a0_1,.slice A0_2 l0_2.length c0_2]] ?_
  with_reducible refine (be.calls k a0_0 a0_1 _ _ l0_2 true _ ?_ ?_ A2.out).mono ?_
  exact bz
  exact HC0_2.out
  rintro e w3 ⟨rfl,hb⟩
  refine ⟨_,rfl,?_⟩
  replace BK1:=k1_ BK1 hb;replace HB:=hb_ hb aj
  (try clear hb)
  refine hK.out _ _ (c5_ BK1) (fun hHeld=>?_)
  clear hK K
  refine nm_ 5 ?_
  refine pu_ 3 6 ?_
  refine pu_ 4 7 ?_
  refine pu_ 8 11 ?_
  refine pu_ 9 12 ?_
  refine tk_ 5 8 hHeld ?_
  refine tk_ 10 13 hHeld ?_
  refine on_ 6 (some 9) (fun K hK=>?_)
  refine gs_ Tryz.func61 #[.slice A0_3 l0_3.length c0_3] ?_
  with_reducible refine (eV.calls A0_3 l0_3.length c0_3 _).mono ?_
  rintro e wv_ ⟨gv_,rfl,hcv,hb⟩
  refine ⟨_,rfl,?_⟩
  have HGV:=A0_ hcv;clear hcv;replace BK1:=k1_ BK1 hb;replace HB:=hb_ hb aj
  (try clear hb)
  refine hK.out _ _ (c5_ BK1) (fun hHeld=>?_)
  clear hK K
  refine nm_ 9 ?_
  refine on_ 7 (some 10) (fun K hK=>?_)
  refine gs_ Tryz.func60 #[.func (.func 83) #[] #[.pointer (some ⟨gv_,0,none⟩)]] ?_
  with_reducible refine (cA.calls gv_ _ _ l0_3 t2 _ HGV.out ?_ ?_ A4.out).mono ?_
  exact b6
  exact HC0_3.out
  rintro e w4 ⟨v1,rfl,ho0,hb⟩
  refine ⟨_,rfl,?_⟩
  have HO1:=A0_ (Kd.R_lower ho0 (bz_ aj));replace BK1:=k1_ BK1 hb;replace HB:=hb_ hb aj
  (try clear hb ho0)
  obtain ⟨Ao1,co1,eo1⟩:=Kd.R_slice HO1.out
  (first|subst eo1|(injection eo1 with f1_ f2_ f3_;have f4_:=f1_.symm;have f5_:=f3_.symm;clear f1_ f2_ f3_;subst f4_;subst f5_))
  refine hK.out _ _ (c5_ BK1) (fun hHeld=>?_)
  clear hK K
  refine nm_ 10 ?_
  refine on_ 11 (some 14) (fun K hK=>?_)
  refine gs_ Tryz.func59 #[.slice Ao1 t2.length co1,.slice A0_2 l0_2.length c0_2] ?_
  with_reducible refine (az.calls k _ _ t2 _ _ l0_2 true _ ?_ ?_ ?_ ?_ A6.out).mono ?_
  exact dW
  exact (rr_ HO1.out).2.1
  exact bz
  exact HC0_2.out
  rintro e w' ⟨rfl,⟨nd,rfl⟩⟩
  refine ⟨_,rfl,?_⟩
  refine hK.out _ _ (c5_ BK1) (fun hHeld=>?_)
  clear hK K
  refine nm_ 14 ?_
  refine pu_ 12 15 ?_
  refine pu_ 13 16 ?_
  refine pu_ 14 17 ?_
  refine tk_ 15 18 hHeld ?_
  refine on_ 16 (some 19) (fun K hK=>?_)
  refine gs_ Tryz.func62 #[.int .i64 a0_4,.int .i64 0,.int .i64 1000] ?_
  with_reducible refine (cm.calls a0_4 0 1000 t4 _ A8.out).mono ?_
  rintro e w' ⟨rfl,⟨nd,rfl⟩⟩
  refine ⟨_,rfl,?_⟩
  refine hK.out _ _ (c5_ BK1) (fun hHeld=>?_)
  clear hK K
  refine nm_ 19 ?_
  refine pu_ 17 20 ?_
  refine pu_ 18 2 ?_
  refine dn_ ?_
  try go_wp2
  go_ret
  exact ⟨aE,aj⟩
 ·obtain rfl:=bf_.mpr c1
  rw [if_neg ft_] at H;obtain rfl:=si_ H;go_enter Tryz.func26,Tryz.ntmps26
  try go_wp2_with (first|((with_reducible refine gd_ (N:=1) rfl ?_);refine bx_ 1 #[.int .i64 a0_0,.bool a0_1,.slice A0_2 l0_2.length c0_2,.slice A0_3 l0_3.length c0_3,.int .i64 a0_4] 32 ?_;intro gb1 hg w1 BK1 hb;have GW1:=ge_ hg ai;have GE1:=GW1;replace HB:=hb_ hb ai;clear hb hg))
  replace BK1:=A0_ (kd_ BK1.out);replace HB:=A0_ (bd_ HB.out)
  refine s5_ 19 [] BK1 aM.tab1 aM.bits1 (fun hHeld HT_ HW_=>?_)
  generalize w1.drew=w2 at BK1 HB hHeld ⊢
  refine pu_ 0 3 ?_
  refine tk_ 1 4 hHeld ?_
  refine on_ 2 (some 5) (fun K hK=>?_)
  refine gs_ Tryz.func58 #[.agg #[.int .i64 a0_0,.bool a0_1,.slice A0_2 l0_2.length c0_2]] ?_
  with_reducible refine (be.calls k a0_0 a0_1 _ _ l0_2 false _ ?_ ?_ A2.out).mono ?_
  exact bz
  exact HC0_2.out
  rintro e w3 ⟨rfl,hb⟩
  refine ⟨_,rfl,?_⟩
  replace BK1:=k1_ BK1 hb;replace HB:=hb_ hb aj
  (try clear hb)
  refine hK.out _ _ (c5_ BK1) (fun hHeld=>?_)
  clear hK K
  refine nm_ 5 ?_
  refine pu_ 3 6 ?_
  refine pv_ 4 7 ?_
  refine pv_ 5 8 ?_
  refine pv_ 6 9 ?_
  refine pv_ 7 10 ?_
  refine pv_ 8 11 ?_
  refine pv_ 9 12 ?_
  refine pv_ 10 13 ?_
  refine pv_ 11 14 ?_
  refine pu_ 12 15 ?_
  refine pu_ 13 16 ?_
  refine pv_ 14 17 ?_
  refine pv_ 15 18 ?_
  refine pv_ 16 19 ?_
  refine pu_ 17 20 ?_
  refine pu_ 18 2 ?_
  refine dn_ ?_
  try go_wp2
  go_ret
  exact ⟨aE,aj⟩
 /-- The table of the library's stands in its variable: what the row's list gives. -/
def TabOK (w:World):Prop:=∀ j,j<Lib.deBruijn32tab.length→w.cell? ⟨0,j,none⟩=some (.int .u8 (Lib.deBruijn32tab.getD j 0))
theorem TabOK.below {w w':World} (h:TabOK w) (hb:Below w.heap.size w w'):TabOK w':=fun j hj=>(hb.cell (World.block_lt_of_cell? w _ (h j hj))).trans (h j hj)
theorem TabOK.drew {w:World} (h:TabOK w):TabOK w.drew:=h
theorem TabOK.drewN {w:World} (h:TabOK w) (n:Nat):TabOK (w.drewN n):=fun j hj=>h j hj
theorem fO (a b:Nat) (ha:a<4294967296) (hb:b<4294967296):Go.bits .and .u32 (a:Int) (b:Int)=((a &&& b:Nat):Int):=by
 have hx:a &&& b<2 ^ 32:=Nat.and_lt_two_pow _ bm
 have h1:(BitVec.ofInt 32 (a:Int)).toNat=a:=by
  rw [BitVec.ofInt_natCast,BitVec.toNat_ofNat];exact Nat.mod_eq_of_lt bm
 have h2:(BitVec.ofInt 32 (b:Int)).toNat=b:=by
  rw [BitVec.ofInt_natCast,BitVec.toNat_ofNat];exact Nat.mod_eq_of_lt bm
 show IntKind.u32.wrap ((BitVec.ofInt 32 (a:Int) &&& BitVec.ofInt 32 (b:Int)).toNat:Int)=_
 rw [BitVec.toNat_and,h1,h2,IntKind.wrap_u32]
 omega
theorem ox (x a:Nat) (hx:x<4294967296) (hx0:x≠0) (hlow:x &&& (4294967296 - x)=a) :
  Go.bits BinOp.and IntKind.u32 (x:Int) (-(x:Int) % 4294967296) * 125613361 % 4294967296 / 134217728=((a * 125613361 % 4294967296 / 134217728:Nat):Int):=by
 have e1 : -(x:Int) % 4294967296=((4294967296 - x:Nat):Int):=by omega
 rw [e1,fO x _ hx bm,hlow]
 omega
def bJ.f (a0:Int):Option (Int):=if 0≤a0∧a0<4294967296 then some (Lib.ctz 32 a0.toNat:Int) else none
set_option maxHeartbeats 1000000 in
theorem bJ.core (x k idx:Nat) (w:World) (hx0:((x:Int) == 0)=false)
  (key:Go.bits BinOp.and IntKind.u32 (x:Int) (-(x:Int) % 4294967296) * 125613361 % 4294967296 / 134217728=(idx:Int))
  (hi:idx<32) (hk:k<32) (hcell:w.cell? ⟨0,idx,none⟩=some (.int .u8 k)) :
  Calls Tryz.prog 94 #[.int .u32 x] w fun e w'=>e=.returned (.int .i64 k)∧Drawn0 w w':=by
 go_enter Tryz.func94,Tryz.ntmps94
 go_wp2_with (simp only [key])
 go_ret
 exact ⟨rfl,ck⟩
theorem bJ.zero (w:World) :
  Calls Tryz.prog 94 #[.int .u32 0] w fun e w'=>e=.returned (.int .i64 32)∧Drawn0 w w':=by
 go_enter Tryz.func94,Tryz.ntmps94
 go_wp2
 go_ret
 exact ⟨rfl,ck⟩
set_option maxHeartbeats 400000 in
set_option maxRecDepth 100000 in
theorem bJ.calls (a0:Int) (r:Int) (w:World) (hG:TabOK w) (h:bJ.f a0=some r) :
  Calls Tryz.prog 94 #[.int .u32 a0] w fun e w'=>e=.returned (.int .i64 r)∧Drawn0 w w':=by
 unfold bJ.f at h
 split at h
 ·rename_i hh
  obtain ⟨h0,h1⟩:=hh;obtain rfl:=si_ h;obtain ⟨x,rfl⟩:∃ x:Nat,a0=x:=⟨a0.toNat,bm⟩;rw [Int.toNat_natCast]
  by_cases hx1:x=0
  ·subst hx1
   exact bJ.zero w
  obtain ⟨hlow,hk⟩:=Lib.lowest_bit 32 x hx1 bm;obtain ⟨hi,htab⟩:=Lib.deBruijn32_at _ hk;have hcell:=hG _ hi;rw [htab] at hcell
  exact bJ.core x _ _ w (by simp;omega) (ox x _ bm hx1 hlow) hi hk hcell
 cases h


def aG.l0:Nat→Int→List Int→Option (List Int)
 | 0,_,_=>none
 | k+1,x0,x3=>if x0=0 then (some x3) else ((bJ.f x0).bind fun t380=>(if x3.length<17592186044416 then (aG.l0 k (Go.bits .and .u32 x0 ((x0 - 1) % 4294967296)) (x3++[t380])) else (none)))
def aG.f (k:Nat) (a0:Int):Option (List Int):=aG.l0 k a0 (([]:List Int))
theorem aG.mono_l:∀ k,(∀ y0 y1,LeO (aG.l0 k y0 y1) (aG.l0 (k+1) y0 y1))
 | 0=>fun _ _ r h=>by simp [aG.l0] at h
 | k+1=>by
  have ih0:=aG.mono_l k
  ·intro y0 y1
   unfold aG.l0
   repeat' with_reducible first|exact ih0 ..|exact LeO.refl ..|exact LeO.none ..|refine LeO.ite ?_ ?_|refine LeO.bind ?_ (fun _=>?_)
theorem aG.mono:∀ a0 k,LeO (aG.f k a0) (aG.f (k+1) a0):=by
 intro a0 k;have ih0:=aG.mono_l k;unfold aG.f
 repeat' with_reducible first|exact ih0 ..|exact LeO.refl ..|exact LeO.none ..|refine LeO.ite ?_ ?_|refine LeO.bind ?_ (fun _=>?_)
theorem aG.calls (k:Nat) (a0:Int) (r:List Int) (w:World) (hG:TabOK w) (H:aG.f k a0=some r) :
  Calls Tryz.prog 71 #[.int .u32 a0] w fun e w'=>∃ v0_:Value,e=.returned (v0_)∧Kd.R (Kd.int .i64) 3 w' w.heap.size (fun _=>True) v0_ r∧Below w.heap.size w w':=by
 have HG0:=A0_ hG;clear hG;have HB:=A0_ (Below.refl w.heap.size w);unfold aG.f at H;obtain ⟨y1,hy1⟩:∃ y_:List Int,y_=(([]:List Int)):=⟨_,rfl⟩;replace H:(aG.l0 k a0 y1)=some r:=dx;have Ny1:=A0_ hy1;clear hy1;have H':=A0_ H;clear H;go_enter Tryz.func71,Tryz.ntmps71
 go_wp2_with (first|((with_reducible refine gd_ (N:=4) rfl ?_);refine Kd.R_lit (Kd.int .i64) _ 3 ?hg (N:=4) ?hd (xs:=([]:List Int)) (inner:=[]) (ok:=fun _=>True) (okp:=fun _=>True) ?hr ?hp (fun _ hk=>hk) trivial (Below.refl _ _) (Nat.le_refl _) bB ?_;(case hd=>rfl);(case hg=>rfl);(case hr=>go_simp;first|done|rfl);(case hp=>exact (aN.none _ _));intro v1 w1 ho3 hb hg_ hnew_;clear hg_ hnew_;(first|rw [← Ny1.out] at ho3|(simp only [Int.reduceToNat] at ho3;rw [← Ny1.out] at ho3));have HO1:=A0_ (Kd.R_lower ho3 (bz_ ai));replace HB:=hb_ hb ai;clear hb ho3))
 go_loopg [0,3] k (fun kq v0 v2 w'=>∃ (x0_1:Int) (x3_1:List Int),v0=.int .u32 x0_1∧Aside0 (aG.l0 kq x0_1 x3_1=some r)∧Aside0 (kq≤k)∧Aside0 (Kd.R (Kd.int .i64) 3 w' w.heap.size (fun _=>True) v2 x3_1)∧Aside0 (Below w.heap.size w w'))
 case atStart=>exact ⟨(a0),(y1),aX,H',⟨Nat.le_refl _⟩,⟨bx⟩,⟨ai⟩⟩
 clear H';obtain ⟨x0_1,x3_1,rfl,HA,HK1,HO_1,HB⟩:=hrel
 cases gk with|zero=>exact absurd HA.out (by simp [aG.l0])|succ k1=>?_
 have H:=HA.out;clear HA;simp only [aG.l0] at H
 by_cases c1:x0_1=0
 ·rw [if_pos c1] at H
  obtain ⟨c1b0,c1b1⟩:=et_ c1;clear c1;obtain rfl:=si_ H
  go_wp2
  go_ret
  exact ⟨_,aE,br,ai⟩
 rw [if_neg c1] at H;obtain ⟨c1b0,c1b1⟩:=ef_ c1;obtain ⟨t1,A2,H⟩:=o1_ H;obtain ⟨c2,H⟩:=is_ H;have LMc1:=A0_ c2;clear c2;obtain ⟨y2,hy2⟩:∃ y_:List Int,y_=(x3_1++[t1]):=⟨_,rfl⟩;replace H:(aG.l0 k1 (Go.bits .and .u32 x0_1 ((x0_1 - 1) % 4294967296)) y2)=some r:=dH;have Ny2:=A0_ hy2;clear hy2;have H':=A0_ H;clear H
 go_wp2_with (first|((with_reducible refine gc_ (f:=94) rfl ?_);refine gl_ 13 Tryz.func94 #[.int .u32 x0_1] ?_;(with_reducible refine (bJ.calls x0_1 t1 _ (by first|exact TabOK.below HG0.out ai|(repeat (first|exact HG0.out|apply TabOK.drew|apply TabOK.drewN))|exact TabOK.drawn HG0.out oO) A2.out).mono ?_);rintro e w' ⟨rfl,⟨nd,rfl⟩⟩;refine ⟨_,rfl,?_⟩)|((with_reducible refine bX (b:=.append) (xs:=#[.tmp 11,.tmp 14]) rfl ?_);at_builtin;refine Kd.R_append (Kd.int .i64) (w0:=w) w.heap.size rfl (.tmp 11) (.tmp 14) 22 3 (.int .i64 0) 8 rfl Tryz.underlying22 cW rfl ag bm u3 x3_1 t1 [.int .i64 t1] (fun _=>True) (fun _=>False) rfl rfl ?aP (fun _ hk=>hk.elim) ?aF ?aO ?aB ?aS ?aL ?_;(case aP=>exact rfl);(case aB=>exact ai);(case aF=>exact (fun _ _=>trivial));(case aO=>exact br);(case aS=>exact (bz_ ai));(case aL=>have:=LMc1.out;omega);intro v3 w2 ho hb hg hat;rw [← Ny2.out] at ho;have n0_:=A0_ (hb);have n1_:=A0_ (ho);clear HB HO_1;have HB:=n0_;have HO2:=n1_;clear n0_ n1_ ho hb hg hat))
 go_roundg k1
 case measure=>have:=HK1.out;omega
 exact ⟨(Go.bits .and .u32 x0_1 ((x0_1 - 1) % 4294967296)),(y2),aX,H',⟨dj⟩,⟨cd⟩,⟨ai⟩⟩

def aV.f (k:Nat) (a0_0:Int) (a0_1:Bool) (a1:Int):Option (Int × Bool × List Int):=(aG.f k a1).bind fun t386=>(some (a0_0,a0_1,t386))
theorem aV.mono:∀ a0 a1 a2 k,LeO (aV.f k a0 a1 a2) (aV.f (k+1) a0 a1 a2):=by
 intro a0 a1 a2 k;unfold aV.f
 repeat' with_reducible first|exact aG.mono ..|exact LeO.refl ..|exact LeO.none ..|refine LeO.ite ?_ ?_|refine LeO.bind ?_ (fun _=>?_)
def aV.T1:Bool × List (List Nat × List Nat):=(true,[([],[]),([0],[0]),([],[]),([2],[2]),([],[]),([4],[4]),([1,3,5],[1,3,5]),([6,5,0,1,2,3,4,5,6],[6])])
def aV.B1:List Nat:=[0,1,0,4,0,16,63,127]
theorem aV.tab1:df .any (dO Tryz.f49 1)=aV.T1:=by kernel_rfl
theorem aV.bits1:ce aV.T1.2 aV.B1=true:=by kernel_rfl
theorem aV.calls (k:Nat) (a0_0:Int) (a0_1:Bool) (a1:Int) (r1:Int) (r2:Bool) (r3:List Int) (w:World) (hG:TabOK w) (H:aV.f k a0_0 a0_1 a1=some (r1,r2,r3)) :
  Calls Tryz.prog 49 #[.agg #[.int .i64 a0_0,.bool a0_1],.int .u32 a1] w fun e w'=>∃ v2_:Value,e=.returned (.agg #[.int .i64 r1,.bool r2,v2_])∧Kd.R (Kd.int .i64) 3 w' w.heap.size (fun _=>True) v2_ r3∧Below w.heap.size w w':=by
 have HG0:=A0_ hG;clear hG;have hu79:=Tryz.underlying79;have hu30:=Tryz.underlying30;have HB:=A0_ (Below.refl w.heap.size w);unfold aV.f at H;obtain ⟨t1,A2,H⟩:=o1_ H;replace H:(some (a0_0,a0_1,t1))=some (r1,r2,r3):=H;simp only [sj_,pj_] at H;obtain ⟨rfl,rfl,rfl⟩:=H;go_enter Tryz.func49,Tryz.ntmps49
 try go_wp2_with (first|((with_reducible refine gd_ (N:=2) rfl ?_);refine bx_ 2 #[.int .i64 a0_0,.bool a0_1] 79 ?_;intro gb1 hg w1 BK1 hb;have GW1:=ge_ hg ai;have GE1:=GW1;replace HB:=hb_ hb ai;clear hb hg)|((with_reducible refine gd_ (N:=4) rfl ?_);refine bx_ 4 #[.int .i64 0,.bool false,.slice none 0 0] 30 ?_;intro gb2 hg w2 BK2 hb;have GW2:=ge_ hg aj;have GE2:=GW2;replace HB:=hb_ hb aj;obtain ⟨NB1_2,NB2_1⟩:=nn_ hg BK1;replace BK1:=k1_ BK1 hb;clear hb hg))
 replace BK1:=A0_ (kd_ BK1.out);replace BK2:=A0_ (kd_ BK2.out);replace HB:=A0_ (bd_ HB.out)
 refine s2_ 8 [] BK1 aV.tab1 aV.bits1 (fun hHeld HT_ HW_=>?_)
 generalize w2.drew=w3 at BK1 BK2 HB hHeld ⊢
 refine pu_ 0 5 ?_
 refine pu_ 2 7 ?_
 refine pu_ 4 9 ?_
 refine tk_ 1 6 hHeld ?_
 refine tk_ 3 8 hHeld ?_
 refine on_ 5 (some 10) (fun K hK=>?_)
 refine gs_ Tryz.func71 #[.int .u32 a1] ?_
 with_reducible refine (aG.calls k a1 t1 _ om A2.out).mono ?_
 rintro e w4 ⟨v1,rfl,ho0,hb⟩
 refine ⟨_,rfl,?_⟩
 have HO1:=A0_ (Kd.R_lower ho0 (bz_ au));replace BK1:=k1_ BK1 hb;replace BK2:=k1_ BK2 hb;replace HB:=hb_ hb au
 (try clear hb ho0)
 obtain ⟨Ao1,co1,eo1⟩:=Kd.R_slice HO1.out
 (first|subst eo1|(injection eo1 with f1_ f2_ f3_;have f4_:=f1_.symm;have f5_:=f3_.symm;clear f1_ f2_ f3_;subst f4_;subst f5_))
 refine hK.out _ _ (c2_ BK1) (fun hHeld=>?_)
 clear hK K
 refine nm_ 10 ?_
 refine pu_ 6 11 ?_
 refine on_ 7 none (fun K hK=>?_)
 have hs9:=y_ BK2 0;have hfs9:=kf_ BK2.out 0;obtain ⟨hns1_0,hms1_0⟩:=n2_ NB1_2;have hs10:=y_ BK2 1;have hfs10:=kf_ BK2.out 1;obtain ⟨hns2_0,hms2_0⟩:=n2_ NB1_2;have hs11:=y_ BK2 2;have hfs11:=kf_ BK2.out 2;obtain ⟨hns3_0,hms3_0⟩:=n2_ NB1_2
 refine ea (w1:=?_) (by rfl) rfl ?_ ?_
 rotate_left
 ·go_simp
  rfl
 refine hK.out _ _ ⟨((ae (p:=⟨gb2,_,none⟩) NB1_2.out _).trans (((ae (p:=⟨gb2,_,none⟩) NB1_2.out _).trans (((ae (p:=⟨gb2,_,none⟩) NB1_2.out _).trans (hHeld.1)))))),((ae (p:=⟨gb2,_,none⟩) NB1_2.out _).trans (((ae (p:=⟨gb2,_,none⟩) NB1_2.out _).trans (((ae (p:=⟨gb2,_,none⟩) NB1_2.out _).trans (hHeld.2))))))⟩ (fun hHeld=>?_)
 clear hK K
 refine dn_ ?_
 try go_wp2
 refine bodyPost_ret (results_cell_row rfl _ _ gb2 30 #[.int .i64 a0_0,.bool a0_1,.slice Ao1 t1.length co1] (0,0) _ rfl (u1_ BK2) Tryz.underlying30 rfl aY) rfl ?_
 exact ⟨_,aE,by (with_reducible repeat (first|apply ra_|apply rn_|apply rd_));exact Kd.R_mono (d8 (Kd.R_types HO1.out BK2.out ag)) (fun _ hk=>trivial),au⟩

def cO.f (a0_0:Int) (a0_1:Bool) (a1:Int) (a2:Int):Option (Int):=if a0_1=true then (some (mn (mx (wrap64 (a1 - a2)) (wrap64 (a2 - a1))) (wrap64 (a0_0 - (mx (wrap64 (a1 - a2)) (wrap64 (a2 - a1))))))) else (some (mx (wrap64 (a1 - a2)) (wrap64 (a2 - a1))))
theorem cO.calls (a0_0:Int) (a0_1:Bool) (a1:Int) (a2:Int) (r:Int) (w:World) (H:cO.f a0_0 a0_1 a1 a2=some r) :
  Calls Tryz.prog 126 #[.agg #[.int .i64 a0_0,.bool a0_1],.int .i64 a1,.int .i64 a2] w fun e w'=>e=.returned (.int .i64 r)∧Below w.heap.size w w':=by
 have hu79:=Tryz.underlying79;have HB:=A0_ (Below.refl w.heap.size w);unfold cO.f at H;obtain ⟨ji1,hji1⟩:∃ j_:Int,(mx (wrap64 (a1 - a2)) (wrap64 (a2 - a1)))=j_:=⟨_,rfl⟩;replace H:(if a0_1=true then (some (mn (ji1) (wrap64 (a0_0 - (ji1))))) else (some ji1))=some r:=gG;have hji1_:(if (wrap64 (a1 - a2))<(wrap64 (a2 - a1)) then (wrap64 (a2 - a1)) else (wrap64 (a1 - a2)))=ji1:=hji1
 by_cases c1:a0_1=true
 case neg =>
  obtain rfl:=bf_.mpr c1;rw [if_neg ft_] at H;obtain rfl:=si_ H;go_enter Tryz.func126,Tryz.ntmps126
  go_wp2_with (first|((with_reducible refine gd_ (N:=3) rfl ?_);refine bx_ 3 #[.int .i64 a0_0,.bool false] 79 ?_;intro gb1 hg w1 BK1 hb;have GW1:=ge_ hg ai;have GE1:=GW1;replace HB:=hb_ hb ai;clear hb hg;have hcz1:=c2_ BK1))
  go_ret
  exact ⟨j9,aj⟩
 subst c1;rw [if_pos rfl] at H;obtain ⟨ji2,hji2⟩:∃ j_:Int,(mn (ji1) (wrap64 (a0_0 - (ji1))))=j_:=⟨_,rfl⟩
 replace H:(some ji2)=some r:=by first|(rw [hji2] at H;exact H)|(simp only [hji2] at H ⊢;exact H)
 have hji2_:(if (wrap64 (a0_0 - (ji1)))<(ji1) then (wrap64 (a0_0 - (ji1))) else (ji1))=ji2:=hji2;obtain rfl:=si_ H;go_enter Tryz.func126,Tryz.ntmps126
 go_wp2_with (first|((with_reducible refine gd_ (N:=3) rfl ?_);refine bx_ 3 #[.int .i64 a0_0,.bool true] 79 ?_;intro gb1 hg w1 BK1 hb;have GW1:=ge_ hg ai;have GE1:=GW1;replace HB:=hb_ hb ai;clear hb hg;have hcz1:=c2_ BK1))
 go_ret
 exact ⟨by first|rfl|(simp [eb,ec] <;> rfl)|(simp only [← hji1,← hji2];first|rfl|(simp [eb,ec] <;> rfl))|(simp [*,eb,ec] <;> rfl),aj⟩

def aw.l0:Nat→Int→Int→Int→List Int→Int→Int→Int→Bool→Option (Int × Int × Bool)
 | 0,_,_,_,_,_,_,_,_=>none
 | k+1,x1,x9,x10,x15,x16,x17,xa,xb=>if x17<x16 then (if 0≤x17 then (if x17<(x15.length:Int) then ((cO.f xa xb x1 (rd x15 x17)).bind fun t395=>(if x10<0 then (aw.l0 k x1 (rd x15 x17) t395 x15 x16 (wrap64 (x17+1)) xa xb) else (if t395<x10 then (aw.l0 k x1 (rd x15 x17) t395 x15 x16 (wrap64 (x17+1)) xa xb) else (aw.l0 k x1 x9 x10 x15 x16 (wrap64 (x17+1)) xa xb)))) else (none)) else (none)) else (some (x9,mx 0 x10,decide (x10 ≥ 0)))
def aw.f (k:Nat) (a0_0:Int) (a0_1:Bool) (a1:Int) (a2:Int):Option (Int × Int × Bool):=(aG.f k a2).bind fun t391=>(aw.l0 k a1 0 (-1) t391 (t391.length:Int) 0 a0_0 a0_1)
theorem aw.mono_l:∀ k,(∀ y0 y1 y2 y3 y4 y5 y6 y7,LeO (aw.l0 k y0 y1 y2 y3 y4 y5 y6 y7) (aw.l0 (k+1) y0 y1 y2 y3 y4 y5 y6 y7))
 | 0=>fun _ _ _ _ _ _ _ _ r h=>by simp [aw.l0] at h
 | k+1=>by
  have ih0:=aw.mono_l k
  ·intro y0 y1 y2 y3 y4 y5 y6 y7
   unfold aw.l0
   repeat' with_reducible first|exact ih0 ..|exact aG.mono ..|exact LeO.refl ..|exact LeO.none ..|refine LeO.ite ?_ ?_|refine LeO.bind ?_ (fun _=>?_)
theorem aw.mono:∀ a0 a1 a2 a3 k,LeO (aw.f k a0 a1 a2 a3) (aw.f (k+1) a0 a1 a2 a3):=by
 intro a0 a1 a2 a3 k;have ih0:=aw.mono_l k;unfold aw.f
 repeat' with_reducible first|exact ih0 ..|exact aG.mono ..|exact LeO.refl ..|exact LeO.none ..|refine LeO.ite ?_ ?_|refine LeO.bind ?_ (fun _=>?_)
theorem aw.calls (k:Nat) (a0_0:Int) (a0_1:Bool) (a1:Int) (a2:Int) (r1:Int) (r2:Int) (r3:Bool) (w:World) (hG:TabOK w) (H:aw.f k a0_0 a0_1 a1 a2=some (r1,r2,r3)) :
  Calls Tryz.prog 118 #[.agg #[.int .i64 a0_0,.bool a0_1],.int .i64 a1,.int .u32 a2] w fun e w'=>e=.returned (.tuple #[.int .i64 r1,.int .i64 r2,.bool r3])∧Below w.heap.size w w':=by
 have HG0:=A0_ hG;clear hG;have hu79:=Tryz.underlying79;have HB:=A0_ (Below.refl w.heap.size w);unfold aw.f at H;obtain ⟨t1,A2,H⟩:=o1_ H;have H':=A0_ H;clear H;go_enter Tryz.func118,Tryz.ntmps118
 go_wp2_with (first|((with_reducible refine gd_ (N:=3) rfl ?_);refine bx_ 3 #[.int .i64 a0_0,.bool a0_1] 79 ?_;intro gb1 hg w1 BK1 hb;have GW1:=ge_ hg ai;have GE1:=GW1;replace HB:=hb_ hb ai;clear hb hg)|((with_reducible refine gc_ (f:=71) rfl ?_);refine gl_ 15 Tryz.func71 #[.int .u32 a2] ?_;(with_reducible refine (aG.calls k a2 t1 _ gF A2.out).mono ?_);rintro e w2 ⟨v1,rfl,ho0,hb⟩;refine ⟨_,rfl,?_⟩;have HO1:=A0_ (Kd.R_lower ho0 (bz_ aj));replace BK1:=k1_ BK1 hb;replace HB:=hb_ hb aj;(try clear hb ho0);obtain ⟨Ao1,co1,eo1⟩:=Kd.R_slice HO1.out;subst eo1))
 go_loopg [9,10,17] k (fun kq v2 v3 v4 w'=>∃ (x9_1:Int) (x10_1:Int) (x17_1:Int),v2=.int .i64 x9_1∧v3=.int .i64 x10_1∧v4=.int .i64 x17_1∧Aside0 (aw.l0 kq a1 x9_1 x10_1 t1 (t1.length:Int) x17_1 a0_0 a0_1=some (r1,r2,r3))∧Aside0 (kq≤k)∧Aside0 (Kd.R (Kd.int .i64) 3 w' w.heap.size (fun _=>True) (.slice Ao1 t1.length co1) t1)∧Aside0 (w'.heap[gb1]?=some (.cells #[.int .i64 a0_0,.bool a0_1] 79 (0,0)))∧Aside0 (Below w.heap.size w w'))
 case atStart=>exact ⟨(0),((-1)),(0),aX,aX,aX,H',⟨Nat.le_refl _⟩,⟨bx⟩,⟨u1_ BK1⟩,⟨aj⟩⟩
 clear H';obtain ⟨x9_1,x10_1,x17_1,rfl,rfl,rfl,HA,HK1,HO_1,BK1,HB⟩:=hrel
 cases gk with|zero=>exact absurd HA.out (by simp [aw.l0])|succ k1=>?_
 have H:=HA.out;clear HA;simp only [aw.l0] at H
 by_cases c1:x17_1<(t1.length:Int)
 case neg =>
  rw [if_neg c1] at H;have c1b0:decide (x17_1<(t1.length:Int))=false:=decide_eq_false c1;clear c1;obtain ⟨ji1,hji1⟩:∃ j_:Int,(mx 0 x10_1)=j_:=⟨_,rfl⟩;replace H:(some (x9_1,ji1,decide (x10_1 ≥ 0)))=some (r1,r2,r3):=gG;have hji1_:(if 0<x10_1 then x10_1 else 0)=ji1:=hji1;simp only [sj_,pj_] at H;obtain ⟨rfl,rfl,rfl⟩:=H
  go_wp2
  go_ret3
  exact ⟨j9,aj⟩
 rw [if_pos c1] at H;have c1b0:decide (x17_1<(t1.length:Int))=true:=dt_ c1;clear c1;obtain ⟨c2b0,H⟩:=i1_ H;obtain ⟨c3b0,H⟩:=i1_ H;obtain ⟨t2,A4,H⟩:=o1_ H
 by_cases c4:x10_1<0
 ·rw [if_pos c4] at H
  have c4b0:decide (x10_1<0)=true:=dt_ c4;clear c4;have H':=A0_ H;clear H;have p1:0≤(x17_1:Int):=od_ ay;have q1:x17_1<(t1.length:Int):=od_ ay;obtain ⟨ad1,e1,hx1_0⟩:=Kd.at_int (rr_ HO_1.out).2.2 x17_1 p1 q1;cases e1;replace p1:=eq_true p1;replace q1:=eq_true q1;have hcz1:=c2_ BK1
  go_wp2_with (first|((with_reducible refine gc_ (f:=126) rfl ?_);refine gl_ 24 Tryz.func126 #[.agg #[.int .i64 a0_0,.bool a0_1],.int .i64 a1,.int .i64 (rd t1 x17_1)] ?_;(with_reducible refine (cO.calls a0_0 a0_1 a1 (rd t1 x17_1) t2 _ A4.out).mono ?_);rintro e w3 ⟨rfl,hb⟩;refine ⟨_,rfl,?_⟩;replace HO_1:=q1_ HO_1 hb;replace BK1:=k1_ BK1 hb;replace HB:=hb_ hb aj;(try clear hb)))
  go_roundg k1
  case measure=>have:=HK1.out;omega
  exact ⟨(rd t1 x17_1),(t2),(wrap64 (x17_1+1)),aX,aX,aX,H',⟨dj⟩,⟨br⟩,⟨u1_ BK1⟩,⟨aj⟩⟩
 rw [if_neg c4] at H;have c4b0:decide (x10_1<0)=false:=decide_eq_false c4;clear c4
 by_cases c5:t2<x10_1
 ·rw [if_pos c5] at H
  have c5b0:decide (t2<x10_1)=true:=dt_ c5;clear c5;have H':=A0_ H;clear H;have p1:0≤(x17_1:Int):=od_ ay;have q1:x17_1<(t1.length:Int):=od_ ay;obtain ⟨ad1,e1,hx1_0⟩:=Kd.at_int (rr_ HO_1.out).2.2 x17_1 p1 q1;cases e1;replace p1:=eq_true p1;replace q1:=eq_true q1;have hcz1:=c2_ BK1
  go_wp2_with (first|((with_reducible refine gc_ (f:=126) rfl ?_);refine gl_ 24 Tryz.func126 #[.agg #[.int .i64 a0_0,.bool a0_1],.int .i64 a1,.int .i64 (rd t1 x17_1)] ?_;(with_reducible refine (cO.calls a0_0 a0_1 a1 (rd t1 x17_1) t2 _ A4.out).mono ?_);rintro e w3 ⟨rfl,hb⟩;refine ⟨_,rfl,?_⟩;replace HO_1:=q1_ HO_1 hb;replace BK1:=k1_ BK1 hb;replace HB:=hb_ hb aj;(try clear hb)))
  go_roundg k1
  case measure=>have:=HK1.out;omega
  exact ⟨(rd t1 x17_1),(t2),(wrap64 (x17_1+1)),aX,aX,aX,H',⟨dj⟩,⟨br⟩,⟨u1_ BK1⟩,⟨aj⟩⟩
 rw [if_neg c5] at H;have c5b0:decide (t2<x10_1)=false:=decide_eq_false c5;clear c5;have H':=A0_ H;clear H;have p1:0≤(x17_1:Int):=od_ ay;have q1:x17_1<(t1.length:Int):=od_ ay;obtain ⟨ad1,e1,hx1_0⟩:=Kd.at_int (rr_ HO_1.out).2.2 x17_1 p1 q1;cases e1;replace p1:=eq_true p1;replace q1:=eq_true q1;have hcz1:=c2_ BK1
 go_wp2_with (first|((with_reducible refine gc_ (f:=126) rfl ?_);refine gl_ 24 Tryz.func126 #[.agg #[.int .i64 a0_0,.bool a0_1],.int .i64 a1,.int .i64 (rd t1 x17_1)] ?_;(with_reducible refine (cO.calls a0_0 a0_1 a1 (rd t1 x17_1) t2 _ A4.out).mono ?_);rintro e w3 ⟨rfl,hb⟩;refine ⟨_,rfl,?_⟩;replace HO_1:=q1_ HO_1 hb;replace BK1:=k1_ BK1 hb;replace HB:=hb_ hb aj;(try clear hb)))
 go_roundg k1
 case measure=>have:=HK1.out;omega
 exact ⟨(x9_1),(x10_1),(wrap64 (x17_1+1)),aX,aX,aX,H',⟨dj⟩,⟨br⟩,⟨u1_ BK1⟩,⟨aj⟩⟩

def ax.l0:Nat→Int→List Int→Int→Int→Int→Bool→Option (List Int)
 | 0,_,_,_,_,_,_=>none
 | k+1,x1,x5,x12,x13,xa,xb=>if x13<x12 then ((aw.f k xa xb x13 x1).bind fun bt400=>(if bt400.2.2=true then (if x5.length<17592186044416 then (ax.l0 k x1 (x5++[bt400.2.1]) x12 (wrap64 (x13+1)) xa xb) else (none)) else (if x5.length<17592186044416 then (ax.l0 k x1 (x5++[xa]) x12 (wrap64 (x13+1)) xa xb) else (none)))) else (some x5)
def ax.f (k:Nat) (a0_0:Int) (a0_1:Bool) (a1:Int):Option (List Int):=ax.l0 k a1 (([]:List Int)) a0_0 0 a0_0 a0_1
theorem ax.mono_l:∀ k,(∀ y0 y1 y2 y3 y4 y5,LeO (ax.l0 k y0 y1 y2 y3 y4 y5) (ax.l0 (k+1) y0 y1 y2 y3 y4 y5))
 | 0=>fun _ _ _ _ _ _ r h=>by simp [ax.l0] at h
 | k+1=>by
  have ih0:=ax.mono_l k
  ·intro y0 y1 y2 y3 y4 y5
   unfold ax.l0
   repeat' with_reducible first|exact ih0 ..|exact aw.mono ..|exact LeO.refl ..|exact LeO.none ..|refine LeO.ite ?_ ?_|refine LeO.bind ?_ (fun _=>?_)
theorem ax.mono:∀ a0 a1 a2 k,LeO (ax.f k a0 a1 a2) (ax.f (k+1) a0 a1 a2):=by
 intro a0 a1 a2 k;have ih0:=ax.mono_l k;unfold ax.f
 repeat' with_reducible first|exact ih0 ..|exact aw.mono ..|exact LeO.refl ..|exact LeO.none ..|refine LeO.ite ?_ ?_|refine LeO.bind ?_ (fun _=>?_)
theorem ax.calls (k:Nat) (a0_0:Int) (a0_1:Bool) (a1:Int) (r:List Int) (w:World) (hG:TabOK w) (H:ax.f k a0_0 a0_1 a1=some r) :
  Calls Tryz.prog 102 #[.agg #[.int .i64 a0_0,.bool a0_1],.int .u32 a1] w fun e w'=>∃ v0_:Value,e=.returned (v0_)∧Kd.R (Kd.int .i64) 3 w' w.heap.size (fun _=>True) v0_ r∧Below w.heap.size w w':=by
 have HG0:=A0_ hG;clear hG;have hu79:=Tryz.underlying79;have HB:=A0_ (Below.refl w.heap.size w);unfold ax.f at H;obtain ⟨y1,hy1⟩:∃ y_:List Int,y_=(([]:List Int)):=⟨_,rfl⟩;replace H:(ax.l0 k a1 y1 a0_0 0 a0_0 a0_1)=some r:=dx;have Ny1:=A0_ hy1;clear hy1;have H':=A0_ H;clear H;go_enter Tryz.func102,Tryz.ntmps102
 go_wp2_with (first|((with_reducible refine gd_ (N:=2) rfl ?_);refine bx_ 2 #[.int .i64 a0_0,.bool a0_1] 79 ?_;intro gb1 hg w1 BK1 hb;have GW1:=ge_ hg ai;have GE1:=GW1;replace HB:=hb_ hb ai;clear hb hg)|((with_reducible refine gd_ (N:=10) rfl ?_);refine Kd.R_lit (Kd.int .i64) _ 3 ?hg (N:=10) ?hd (xs:=([]:List Int)) (inner:=[]) (ok:=fun _=>True) (okp:=fun _=>True) ?hr ?hp (fun _ hk=>hk) trivial (Below.refl _ _) (Nat.le_refl _) bB ?_;(case hd=>rfl);(case hg=>rfl);(case hr=>go_simp;first|done|rfl);(case hp=>exact (aN.none _ _));intro v1 w2 ho5 hb hg_ hnew_;clear hg_ hnew_;(first|rw [← Ny1.out] at ho5|(simp only [Int.reduceToNat] at ho5;rw [← Ny1.out] at ho5));have HO1:=A0_ (Kd.R_lower ho5 (bz_ aj));replace BK1:=k1_ BK1 hb;replace HB:=hb_ hb aj;clear hb ho5;have hcz1:=c2_ BK1))
 go_loopg [5,13] k (fun kq v2 v3 w'=>∃ (x5_1:List Int) (x13_1:Int),v3=.int .i64 x13_1∧Aside0 (ax.l0 kq a1 x5_1 a0_0 x13_1 a0_0 a0_1=some r)∧Aside0 (kq≤k)∧Aside0 (Kd.R (Kd.int .i64) 3 w' w.heap.size (fun _=>True) v2 x5_1)∧Aside0 (w'.heap[gb1]?=some (.cells #[.int .i64 a0_0,.bool a0_1] 79 (0,0)))∧Aside0 (Below w.heap.size w w'))
 case atStart=>exact ⟨(y1),(0),aX,H',⟨Nat.le_refl _⟩,⟨bx⟩,⟨u1_ BK1⟩,⟨aj⟩⟩
 clear H'
 (try clear hcz1)
 obtain ⟨x5_1,x13_1,rfl,HA,HK1,HO_1,BK1,HB⟩:=hrel
 cases gk with|zero=>exact absurd HA.out (by simp [ax.l0])|succ k1=>?_
 have H:=HA.out;clear HA;simp only [ax.l0] at H
 by_cases c1:x13_1<a0_0
 case neg =>
  rw [if_neg c1] at H;have c1b0:decide (x13_1<a0_0)=false:=decide_eq_false c1;clear c1;obtain rfl:=si_ H
  go_wp2
  go_ret
  exact ⟨_,aE,br,aj⟩
 rw [if_pos c1] at H;have c1b0:decide (x13_1<a0_0)=true:=dt_ c1;clear c1;obtain ⟨⟨t1,t2,t3⟩,A2,H⟩:=o1_ H
 by_cases c2:t3=true
 ·subst c2
  rw [if_pos rfl] at H;obtain ⟨c3,H⟩:=is_ H;have LMc1:=A0_ c3;clear c3;obtain ⟨y2,hy2⟩:∃ y_:List Int,y_=(x5_1++[t2]):=⟨_,rfl⟩;replace H:(ax.l0 k1 a1 y2 a0_0 (wrap64 (x13_1+1)) a0_0 a0_1)=some r:=dH;have Ny2:=A0_ hy2;clear hy2;have H':=A0_ H;clear H;have hcz2:=c2_ BK1
  go_wp2_with (first|((with_reducible refine gc_ (f:=118) rfl ?_);refine gl_ 20 Tryz.func118 #[.agg #[.int .i64 a0_0,.bool a0_1],.int .i64 x13_1,.int .u32 a1] ?_;(with_reducible refine (aw.calls k1 a0_0 a0_1 x13_1 a1 t1 t2 true _ gF A2.out).mono ?_);rintro e w3 ⟨rfl,hb⟩;refine ⟨_,rfl,?_⟩;replace HO_1:=q1_ HO_1 hb;replace BK1:=k1_ BK1 hb;replace HB:=hb_ hb aj;(try clear hb))|((with_reducible refine bX (b:=.append) (xs:=#[.tmp 28,.tmp 30]) rfl ?_);at_builtin;refine Kd.R_append (Kd.int .i64) (w0:=w) w.heap.size rfl (.tmp 28) (.tmp 30) 22 3 (.int .i64 0) 8 rfl Tryz.underlying22 cW rfl ag bm u5 x5_1 t2 [.int .i64 t2] (fun _=>True) (fun _=>False) rfl rfl ?aP (fun _ hk=>hk.elim) ?aF ?aO ?aB ?aS ?aL ?_;(case aP=>exact rfl);(case aB=>exact aj);(case aF=>exact (fun _ _=>trivial));(case aO=>exact br);(case aS=>exact (bz_ aj));(case aL=>have:=LMc1.out;omega);intro v4 w4 ho hb hg hat;rw [← Ny2.out] at ho;have n0_:=A0_ (aJ (g:=gb1) (o:=.cells #[.int .i64 a0_0,.bool a0_1] 79 (0,0)) (u1_ BK1) hg (Kd.R_ne HO_1.out BK1.out ag));have n1_:=A0_ (hb);have n2_:=A0_ (ho);clear BK1 HB HO_1;have BK1:=n0_;have HB:=n1_;have HO2:=n2_;clear n0_ n1_ n2_ ho hb hg hat))
  go_roundg k1
  case measure=>have:=HK1.out;omega
  exact ⟨(y2),(wrap64 (x13_1+1)),aX,H',⟨dj⟩,⟨cd⟩,⟨u1_ BK1⟩,⟨aj⟩⟩
 obtain rfl:=bf_.mpr c2;rw [if_neg ft_] at H;obtain ⟨c3,H⟩:=is_ H;have LMc1:=A0_ c3;clear c3;obtain ⟨y2,hy2⟩:∃ y_:List Int,y_=(x5_1++[a0_0]):=⟨_,rfl⟩;replace H:(ax.l0 k1 a1 y2 a0_0 (wrap64 (x13_1+1)) a0_0 a0_1)=some r:=dH;have Ny2:=A0_ hy2;clear hy2;have H':=A0_ H;clear H;have hcz2:=c2_ BK1
 go_wp2_with (first|((with_reducible refine gc_ (f:=118) rfl ?_);refine gl_ 20 Tryz.func118 #[.agg #[.int .i64 a0_0,.bool a0_1],.int .i64 x13_1,.int .u32 a1] ?_;(with_reducible refine (aw.calls k1 a0_0 a0_1 x13_1 a1 t1 t2 false _ gF A2.out).mono ?_);rintro e w3 ⟨rfl,hb⟩;refine ⟨_,rfl,?_⟩;replace HO_1:=q1_ HO_1 hb;replace BK1:=k1_ BK1 hb;replace HB:=hb_ hb aj;(try clear hb);have hcz3:=c2_ BK1)|((with_reducible refine bX (b:=.append) (xs:=#[.tmp 28,.tmp 30]) rfl ?_);at_builtin;refine Kd.R_append (Kd.int .i64) (w0:=w) w.heap.size rfl (.tmp 28) (.tmp 30) 22 3 (.int .i64 0) 8 rfl Tryz.underlying22 cW rfl ag bm u5 x5_1 a0_0 [.int .i64 a0_0] (fun _=>True) (fun _=>False) rfl rfl ?aP (fun _ hk=>hk.elim) ?aF ?aO ?aB ?aS ?aL ?_;(case aP=>exact rfl);(case aB=>exact aj);(case aF=>exact (fun _ _=>trivial));(case aO=>exact br);(case aS=>exact (bz_ aj));(case aL=>have:=LMc1.out;omega);intro v4 w4 ho hb hg hat;rw [← Ny2.out] at ho;have n0_:=A0_ (aJ (g:=gb1) (o:=.cells #[.int .i64 a0_0,.bool a0_1] 79 (0,0)) (u1_ BK1) hg (Kd.R_ne HO_1.out BK1.out ag));have n1_:=A0_ (hb);have n2_:=A0_ (ho);clear BK1 HB HO_1;have BK1:=n0_;have HB:=n1_;have HO2:=n2_;clear n0_ n1_ n2_ ho hb hg hat))
 go_roundg k1
 case measure=>have:=HK1.out;omega
 exact ⟨(y2),(wrap64 (x13_1+1)),aX,H',⟨dj⟩,⟨cd⟩,⟨u1_ BK1⟩,⟨aj⟩⟩

mutual
def an.l0:Nat→Int→Int→List Int→Int→Int→Option (Int × Int)
 | 0,_,_,_,_,_=>none
 | k+1,x6,x7,x12,x13,x14=>if x14<x13 then (if 0≤x14 then (if x14<(x12.length:Int) then (if (rd x12 x14)=0 then (an.j1 k x6 x7 x14 (rd x12 x14) x12 x13 x14 true) else (an.j1 k x6 x7 x14 (rd x12 x14) x12 x13 x14 (decide ((rd x12 x14)<x7)))) else (none)) else (none)) else (some (x6,x7))
def an.j1:Nat→Int→Int→Int→Int→List Int→Int→Int→Bool→Option (Int × Int)
 | 0,_,_,_,_,_,_,_,_=>none
 | k+1,x6,x7,x8,x9,x12,x13,x14,x25=>if x25=true then (an.l0 k x6 x7 x12 x13 (wrap64 (x14+1))) else (if x9 > x7 then (if 0≤x8 then (an.l0 k (Go.bits .or .u32 0 (shl .u32 1 x8)) x9 x12 x13 (wrap64 (x14+1))) else (none)) else (if 0≤x8 then (an.l0 k (Go.bits .or .u32 x6 (shl .u32 1 x8)) x7 x12 x13 (wrap64 (x14+1))) else (none)))
end
def an.f (k:Nat) (a0_0:Int) (a0_1:Bool) (a1:Int):Option (Int × Int):=(ax.f k a0_0 a0_1 a1).bind fun t410=>(an.l0 k 0 0 t410 (t410.length:Int) 0)
theorem an.mono_l:∀ k,(∀ y0 y1 y2 y3 y4,LeO (an.l0 k y0 y1 y2 y3 y4) (an.l0 (k+1) y0 y1 y2 y3 y4))∧(∀ y0 y1 y2 y3 y4 y5 y6 y7,LeO (an.j1 k y0 y1 y2 y3 y4 y5 y6 y7) (an.j1 (k+1) y0 y1 y2 y3 y4 y5 y6 y7))
 | 0=>⟨fun _ _ _ _ _ r h=>by simp [an.l0] at h,fun _ _ _ _ _ _ _ _ r h=>by simp [an.j1] at h⟩
 | k+1=>by
  obtain ⟨ih0,ih1⟩:=an.mono_l k
  refine ⟨?_,?_⟩
  ·intro y0 y1 y2 y3 y4
   unfold an.l0
   repeat' with_reducible first|exact ih0 ..|exact ih1 ..|exact ax.mono ..|exact LeO.refl ..|exact LeO.none ..|refine LeO.ite ?_ ?_|refine LeO.bind ?_ (fun _=>?_)
  ·intro y0 y1 y2 y3 y4 y5 y6 y7
   unfold an.j1
   repeat' with_reducible first|exact ih0 ..|exact ih1 ..|exact ax.mono ..|exact LeO.refl ..|exact LeO.none ..|refine LeO.ite ?_ ?_|refine LeO.bind ?_ (fun _=>?_)
theorem an.mono:∀ a0 a1 a2 k,LeO (an.f k a0 a1 a2) (an.f (k+1) a0 a1 a2):=by
 intro a0 a1 a2 k;obtain ⟨ih0,ih1⟩:=an.mono_l k;unfold an.f
 repeat' with_reducible first|exact ih0 ..|exact ih1 ..|exact ax.mono ..|exact LeO.refl ..|exact LeO.none ..|refine LeO.ite ?_ ?_|refine LeO.bind ?_ (fun _=>?_)
theorem an.calls (k:Nat) (a0_0:Int) (a0_1:Bool) (a1:Int) (r1:Int) (r2:Int) (w:World) (hG:TabOK w) (H:an.f k a0_0 a0_1 a1=some (r1,r2)) :
  Calls Tryz.prog 84 #[.agg #[.int .i64 a0_0,.bool a0_1],.int .u32 a1] w fun e w'=>e=.returned (.tuple #[.int .u32 r1,.int .i64 r2])∧Below w.heap.size w w':=by
 have HG0:=A0_ hG;clear hG;have hu79:=Tryz.underlying79;have HB:=A0_ (Below.refl w.heap.size w);unfold an.f at H;obtain ⟨t1,A2,H⟩:=o1_ H;have H':=A0_ H;clear H;go_enter Tryz.func84,Tryz.ntmps84
 go_wp2_with (first|((with_reducible refine gd_ (N:=2) rfl ?_);refine bx_ 2 #[.int .i64 a0_0,.bool a0_1] 79 ?_;intro gb1 hg w1 BK1 hb;have GW1:=ge_ hg ai;have GE1:=GW1;replace HB:=hb_ hb ai;clear hb hg;have hcz1:=c2_ BK1)|((with_reducible refine gc_ (f:=102) rfl ?_);refine gl_ 12 Tryz.func102 #[.agg #[.int .i64 a0_0,.bool a0_1],.int .u32 a1] ?_;(with_reducible refine (ax.calls k a0_0 a0_1 a1 t1 _ gF A2.out).mono ?_);rintro e w2 ⟨v1,rfl,ho0,hb⟩;refine ⟨_,rfl,?_⟩;have HO1:=A0_ (Kd.R_lower ho0 (bz_ aj));replace BK1:=k1_ BK1 hb;replace HB:=hb_ hb aj;(try clear hb ho0);obtain ⟨Ao1,co1,eo1⟩:=Kd.R_slice HO1.out;subst eo1))
 go_loopg [6,7,14] k (fun kq v2 v3 v4 w'=>∃ (x6_1:Int) (x7_1:Int) (x14_1:Int),v2=.int .u32 x6_1∧v3=.int .i64 x7_1∧v4=.int .i64 x14_1∧Aside0 (an.l0 kq x6_1 x7_1 t1 (t1.length:Int) x14_1=some (r1,r2))∧Aside0 (kq≤k)∧Aside0 (Kd.R (Kd.int .i64) 3 w' w.heap.size (fun _=>True) (.slice Ao1 t1.length co1) t1)∧Aside0 (w'.heap[gb1]?=some (.cells #[.int .i64 a0_0,.bool a0_1] 79 (0,0)))∧Aside0 (Below w.heap.size w w'))
 case atStart=>exact ⟨(0),(0),(0),aX,aX,aX,H',⟨Nat.le_refl _⟩,⟨bx⟩,⟨u1_ BK1⟩,⟨aj⟩⟩
 clear H'
 (try clear hcz1)
 obtain ⟨x6_1,x7_1,x14_1,rfl,rfl,rfl,HA,HK1,HO_1,BK1,HB⟩:=hrel
 cases gk with|zero=>exact absurd HA.out (by simp [an.l0])|succ k1=>?_
 have H:=HA.out;clear HA;simp only [an.l0] at H
 by_cases c1:x14_1<(t1.length:Int)
 case neg =>
  rw [if_neg c1] at H;have c1b0:decide (x14_1<(t1.length:Int))=false:=decide_eq_false c1;clear c1;simp only [sj_,pj_] at H;obtain ⟨rfl,rfl⟩:=H
  go_wp2
  go_ret2
  exact ⟨aE,aj⟩
 rw [if_pos c1] at H;have c1b0:decide (x14_1<(t1.length:Int))=true:=dt_ c1;clear c1;obtain ⟨c2b0,H⟩:=i1_ H;obtain ⟨c3b0,H⟩:=i1_ H;have HC11:=A0_ H;clear H;have p1:0≤(x14_1:Int):=od_ ay;have q1:x14_1<(t1.length:Int):=od_ ay;obtain ⟨ad1,e1,hx1_0⟩:=Kd.at_int (rr_ HO_1.out).2.2 x14_1 p1 q1;cases e1;replace p1:=eq_true p1;replace q1:=eq_true q1
 go_upto_region 5 with (fail)
 go_cut [25] (fun v5 wc=>∃ (kq:Nat) (x25_10:Bool),v5=.bool x25_10∧Aside0 (an.j1 kq x6_1 x7_1 x14_1 (rd t1 x14_1) t1 (t1.length:Int) x14_1 x25_10=some (r1,r2))∧Aside0 (kq≤k1)∧Aside0 (Kd.R (Kd.int .i64) 3 wc w.heap.size (fun _=>True) (.slice (some ad1) t1.length co1) t1)∧Aside0 (wc.heap[gb1]?=some (.cells #[.int .i64 a0_0,.bool a0_1] 79 (0,0)))∧Aside0 (Below w.heap.size w wc))
 case first =>
  have H:=HC11.out;clear HC11
  by_cases c4:(rd t1 x14_1)=0
  ·rw [if_pos c4] at H
   obtain ⟨c4b0,c4b1⟩:=et_ c4;clear c4
   (first|rw [c4b0]|(simp only [dD,dM];rw [c4b0])|skip)
   have H':=A0_ H;clear H
   go_wp2
   go_meet
   exact ⟨_,(true),aX,H',⟨ji⟩,⟨br⟩,⟨u1_ BK1⟩,⟨aj⟩⟩
  rw [if_neg c4] at H;obtain ⟨c4b0,c4b1⟩:=ef_ c4
  (first|rw [c4b0]|(simp only [dD,dM];rw [c4b0])|skip)
  have H':=A0_ H;clear H
  go_wp2
  go_meet
  exact ⟨_,(decide ((rd t1 x14_1)<x7_1)),aX,H',⟨ji⟩,⟨br⟩,⟨u1_ BK1⟩,⟨aj⟩⟩
 clear HC11
 try clear c1
 try clear c1b0
 try clear c2
 try clear c2b0
 try clear c3
 try clear c3b0
 (try clear hcz1)
 try clear hx1_0
 try clear p1
 try clear q1
 obtain ⟨kq,x25_10,rfl,HA,HJ1,HO_1,BK1,HB⟩:=hcut
 cases kq with|zero=>exact absurd HA.out (by simp [an.j1])|succ kj1=>?_
 have H:=HA.out;clear HA;simp only [an.j1] at H
 by_cases c4:x25_10=true
 ·subst c4
  rw [if_pos rfl] at H;have H':=A0_ H;clear H
  go_wp2
  go_roundg kj1
  case measure=>have:=HK1.out;have:=HJ1.out;omega
  exact ⟨(x6_1),(x7_1),(wrap64 (x14_1+1)),aX,aX,aX,H',⟨iA⟩,⟨br⟩,⟨u1_ BK1⟩,⟨aj⟩⟩
 obtain rfl:=bf_.mpr c4;rw [if_neg ft_] at H
 by_cases c5:(rd t1 x14_1) > x7_1
 ·rw [if_pos c5] at H
  have c5b0:decide (x7_1<(rd t1 x14_1))=true:=dt_ c5;clear c5;obtain ⟨c6b0,c6b1,H⟩:=i2_ H;obtain ⟨ji1,hji1⟩:∃ j_:Int,(shl .u32 1 x14_1)=j_:=⟨_,rfl⟩;replace H:(an.l0 kj1 (Go.bits .or .u32 0 (ji1)) (rd t1 x14_1) t1 (t1.length:Int) (wrap64 (x14_1+1)))=some (r1,r2):=gG;have hji1_:(IntKind.u32.wrap (1 * 2 ^ min x14_1.toNat 32))=ji1:=hji1;have hji16z:x14_1≤32→(IntKind.u32.wrap (1 * 2 ^ x14_1.toNat))=ji1:=gR hji1
  have hji16u:(IntKind.u32.wrap (2 ^ min x14_1.toNat 32))=ji1:=by have h_:=hji1_;rw [Int.one_mul] at h_;exact h_
  have hji16v:x14_1≤32→(IntKind.u32.wrap (2 ^ x14_1.toNat))=ji1:=fun hle_=>by have h_:=hji16z hle_;rw [Int.one_mul] at h_;exact h_
  have H':=A0_ H;clear H
  go_wp2
  go_roundg kj1
  case measure=>have:=HK1.out;have:=HJ1.out;omega
  exact ⟨(Go.bits .or .u32 0 (ji1)),((rd t1 x14_1)),(wrap64 (x14_1+1)),jZ,aX,aX,H',⟨iA⟩,⟨br⟩,⟨u1_ BK1⟩,⟨aj⟩⟩
 rw [if_neg c5] at H;have c5b0:decide (x7_1<(rd t1 x14_1))=false:=decide_eq_false c5;clear c5;obtain ⟨c6b0,c6b1,H⟩:=i2_ H;obtain ⟨ji1,hji1⟩:∃ j_:Int,(shl .u32 1 x14_1)=j_:=⟨_,rfl⟩;replace H:(an.l0 kj1 (Go.bits .or .u32 x6_1 (ji1)) x7_1 t1 (t1.length:Int) (wrap64 (x14_1+1)))=some (r1,r2):=gG;have hji1_:(IntKind.u32.wrap (1 * 2 ^ min x14_1.toNat 32))=ji1:=hji1;have hji18z:x14_1≤32→(IntKind.u32.wrap (1 * 2 ^ x14_1.toNat))=ji1:=gR hji1
 have hji18u:(IntKind.u32.wrap (2 ^ min x14_1.toNat 32))=ji1:=by have h_:=hji1_;rw [Int.one_mul] at h_;exact h_
 have hji18v:x14_1≤32→(IntKind.u32.wrap (2 ^ x14_1.toNat))=ji1:=fun hle_=>by have h_:=hji18z hle_;rw [Int.one_mul] at h_;exact h_
 have H':=A0_ H;clear H
 go_wp2
 go_roundg kj1
 case measure=>have:=HK1.out;have:=HJ1.out;omega
 exact ⟨(Go.bits .or .u32 x6_1 (ji1)),(x7_1),(wrap64 (x14_1+1)),jZ,aX,aX,H',⟨iA⟩,⟨br⟩,⟨u1_ BK1⟩,⟨aj⟩⟩

def bn.l0:Nat→Int→List Int→Int→Int→Option (Int)
 | 0,_,_,_,_=>none
 | k+1,x3,x6,x7,x8=>if x8<x7 then (if 0≤x8 then (if x8<(x6.length:Int) then (if 0≤(rd x6 x8) then (bn.l0 k (Go.bits .or .u32 x3 (shl .u32 1 (rd x6 x8))) x6 x7 (wrap64 (x8+1))) else (none)) else (none)) else (none)) else (some x3)
def bn.f (k:Nat) (l0:List Int):Option (Int):=bn.l0 k 0 l0 (l0.length:Int) 0
theorem bn.mono_l:∀ k,(∀ y0 y1 y2 y3,LeO (bn.l0 k y0 y1 y2 y3) (bn.l0 (k+1) y0 y1 y2 y3))
 | 0=>fun _ _ _ _ r h=>by simp [bn.l0] at h
 | k+1=>by
  have ih0:=bn.mono_l k
  ·intro y0 y1 y2 y3
   unfold bn.l0
   repeat' with_reducible first|exact ih0 ..|exact LeO.refl ..|exact LeO.none ..|refine LeO.ite ?_ ?_|refine LeO.bind ?_ (fun _=>?_)
theorem bn.mono:∀ a0 k,LeO (bn.f k a0) (bn.f (k+1) a0):=by
 intro a0 k;have ih0:=bn.mono_l k;unfold bn.f
 repeat' with_reducible first|exact ih0 ..|exact LeO.refl ..|exact LeO.none ..|refine LeO.ite ?_ ?_|refine LeO.bind ?_ (fun _=>?_)
theorem bn.calls (k:Nat) (A0:Option Addr) (c0:Nat) (l0:List Int) (r:Int) (w:World) (hr0:Kd.C (Kd.int .i64) w A0 l0.length l0) (hc0:l0.length≤c0) (H:bn.f k l0=some r) :
  Calls Tryz.prog 54 #[.slice A0 l0.length c0] w fun e w'=>e=.returned (.int .u32 r)∧Drawn0 w w':=by
 have HR0:=A0_ hr0;have HC0:=A0_ hc0;clear hr0 hc0;unfold bn.f at H;have H':=A0_ H;clear H;go_enter Tryz.func54,Tryz.ntmps54
 go_wp2
 go_loopg [3,8] k (fun kq v1 v2 w'=>∃ (x3_1:Int) (x8_1:Int),v1=.int .u32 x3_1∧v2=.int .i64 x8_1∧Aside0 (bn.l0 kq x3_1 l0 (l0.length:Int) x8_1=some r)∧Aside0 (kq≤k)∧Drawn0 w w')
 case atStart=>exact ⟨(0),(0),aX,aX,H',⟨Nat.le_refl _⟩,ck⟩
 clear H';obtain ⟨x3_1,x8_1,rfl,rfl,HA,HK1,⟨m1,rfl⟩⟩:=hrel
 cases gk with|zero=>exact absurd HA.out (by simp [bn.l0])|succ k1=>?_
 have H:=HA.out;clear HA;simp only [bn.l0] at H
 by_cases c1:x8_1<(l0.length:Int)
 case neg =>
  rw [if_neg c1] at H;have c1b0:decide (x8_1<(l0.length:Int))=false:=decide_eq_false c1;clear c1;obtain rfl:=si_ H
  go_wp2
  go_ret
  exact ⟨dv,ck⟩
 rw [if_pos c1] at H;have c1b0:decide (x8_1<(l0.length:Int))=true:=dt_ c1;clear c1;obtain ⟨c2b0,H⟩:=i1_ H;obtain ⟨c3b0,H⟩:=i1_ H;obtain ⟨c4b0,c4b1,H⟩:=i2_ H;obtain ⟨ji1,hji1⟩:∃ j_:Int,(shl .u32 1 (rd l0 x8_1))=j_:=⟨_,rfl⟩;replace H:(bn.l0 k1 (Go.bits .or .u32 x3_1 (ji1)) l0 (l0.length:Int) (wrap64 (x8_1+1)))=some r:=gG;have hji1_:(IntKind.u32.wrap (1 * 2 ^ min (rd l0 x8_1).toNat 32))=ji1:=hji1;have hji6z:(rd l0 x8_1)≤32→(IntKind.u32.wrap (1 * 2 ^ (rd l0 x8_1).toNat))=ji1:=gR hji1
 have hji6u:(IntKind.u32.wrap (2 ^ min (rd l0 x8_1).toNat 32))=ji1:=by have h_:=hji1_;rw [Int.one_mul] at h_;exact h_
 have hji6v:(rd l0 x8_1)≤32→(IntKind.u32.wrap (2 ^ (rd l0 x8_1).toNat))=ji1:=fun hle_=>by have h_:=hji6z hle_;rw [Int.one_mul] at h_;exact h_
 have H':=A0_ H;clear H;have p1:0≤(x8_1:Int):=od_ ay;have q1:x8_1<(l0.length:Int):=od_ ay;obtain ⟨ad1,e1,hx1_0⟩:=Kd.at_int HR0.out x8_1 p1 q1;cases e1;replace p1:=eq_true p1;replace q1:=eq_true q1
 go_wp2
 go_roundg k1
 case measure=>have:=HK1.out;omega
 exact ⟨(Go.bits .or .u32 x3_1 (ji1)),(wrap64 (x8_1+1)),jZ,aX,H',⟨dj⟩,ck⟩

def cf.f (k:Nat) (a0_0:Int) (a0_1:Bool) (l0_2:List Int):Option (Int):=(bn.f k l0_2).bind fun t416=>(some t416)
theorem cf.mono:∀ a0 a1 a2 k,LeO (cf.f k a0 a1 a2) (cf.f (k+1) a0 a1 a2):=by
 intro a0 a1 a2 k;unfold cf.f
 repeat' with_reducible first|exact bn.mono ..|exact LeO.refl ..|exact LeO.none ..|refine LeO.ite ?_ ?_|refine LeO.bind ?_ (fun _=>?_)
theorem cf.calls (k:Nat) (a0_0:Int) (a0_1:Bool) (A0_2:Option Addr) (c0_2:Nat) (l0_2:List Int) (r:Int) (w:World) (hr0_2:Kd.C (Kd.int .i64) w A0_2 l0_2.length l0_2) (hc0_2:l0_2.length≤c0_2) (H:cf.f k a0_0 a0_1 l0_2=some r) :
  Calls Tryz.prog 85 #[.agg #[.int .i64 a0_0,.bool a0_1,.slice A0_2 l0_2.length c0_2]] w fun e w'=>e=.returned (.int .u32 r)∧Below w.heap.size w w':=by
 have hu30:=Tryz.underlying30;have HR0_2:=A0_ hr0_2;have HC0_2:=A0_ hc0_2;clear hr0_2 hc0_2;have HB:=A0_ (Below.refl w.heap.size w);unfold cf.f at H;obtain ⟨t1,A2,H⟩:=o1_ H;replace H:(some t1)=some r:=H;obtain rfl:=si_ H;go_enter Tryz.func85,Tryz.ntmps85
 go_wp2_with (first|((with_reducible refine gd_ (N:=1) rfl ?_);refine bx_ 1 #[.int .i64 a0_0,.bool a0_1,.slice A0_2 l0_2.length c0_2] 30 ?_;intro gb1 hg w1 BK1 hb;have GW1:=ge_ hg ai;have GE1:=GW1;replace HB:=hb_ hb ai;clear hb hg;have hcz1:=c3_ BK1)|((with_reducible refine gc_ (f:=54) rfl ?_);refine gl_ 5 Tryz.func54 #[.slice A0_2 l0_2.length c0_2] ?_;(with_reducible refine (bn.calls k _ _ l0_2 t1 _ ?_ ?_ A2.out).mono ?_);exact bz;exact HC0_2.out;rintro e w' ⟨rfl,⟨nd,rfl⟩⟩;refine ⟨_,rfl,?_⟩))
 go_ret
 exact ⟨aE,aj⟩

def bb.f (k:Nat) (a0_0:Int) (a0_1:Bool) (l0_2:List Int):Option (List Int × Bool):=(be.f k a0_0 a0_1 l0_2).bind fun t418=>(if t418=true then ((bD.f a0_0 a0_1 l0_2).bind fun bt419=>((cf.f k a0_0 a0_1 l0_2).bind fun t421=>((an.f k bt419.1 bt419.2 t421).bind fun bt422=>((aG.f k bt422.1).bind fun t424=>(some (t424,true)))))) else (some (([]:List Int),false)))
theorem bb.mono:∀ a0 a1 a2 k,LeO (bb.f k a0 a1 a2) (bb.f (k+1) a0 a1 a2):=by
 intro a0 a1 a2 k;unfold bb.f
 repeat' with_reducible first|exact be.mono ..|exact cf.mono ..|exact an.mono ..|exact aG.mono ..|exact LeO.refl ..|exact LeO.none ..|refine LeO.ite ?_ ?_|refine LeO.bind ?_ (fun _=>?_)
def bb.T3:Bool × List (List Nat × List Nat):=(true,[([],[]),([0],[0]),([],[]),([2,1],[2]),([1,3,3],[1,3]),([4],[4]),([5],[5]),([5],[5]),([6,4,0,1,2,3,4,5,6],[6]),([7,8,0,1,2,3,4,5,6,7,8],[7])])
def bb.B3:List Nat:=[0,1,0,7,15,31,63,63,127,511]
theorem bb.tab3:df .any (dO Tryz.f63 3)=bb.T3:=by kernel_rfl
theorem bb.bits3:ce bb.T3.2 bb.B3=true:=by kernel_rfl
theorem bb.calls (k:Nat) (a0_0:Int) (a0_1:Bool) (A0_2:Option Addr) (c0_2:Nat) (l0_2:List Int) (r1:List Int) (r2:Bool) (w:World) (hr0_2:Kd.C (Kd.int .i64) w A0_2 l0_2.length l0_2) (hc0_2:l0_2.length≤c0_2) (hG:TabOK w) (H:bb.f k a0_0 a0_1 l0_2=some (r1,r2)) :
  Calls Tryz.prog 63 #[.agg #[.int .i64 a0_0,.bool a0_1,.slice A0_2 l0_2.length c0_2]] w fun e w'=>∃ v0_:Value,e=.returned (.tuple #[v0_,.bool r2])∧Kd.R (Kd.int .i64) 3 w' w.heap.size (fun _=>True) v0_ r1∧Below w.heap.size w w':=by
 have HG0:=A0_ hG;clear hG;have hu30:=Tryz.underlying30;have HR0_2:=A0_ hr0_2;have HC0_2:=A0_ hc0_2;clear hr0_2 hc0_2;have HB:=A0_ (Below.refl w.heap.size w);unfold bb.f at H;obtain ⟨t1,A2,H⟩:=o1_ H
 by_cases c1:t1=true
 case neg =>
  obtain rfl:=bf_.mpr c1;rw [if_neg ft_] at H;simp only [sj_,pj_] at H;obtain ⟨rfl,rfl⟩:=H;go_enter Tryz.func63,Tryz.ntmps63
  go_wp2_with (first|((with_reducible refine gd_ (N:=1) rfl ?_);refine bx_ 1 #[.int .i64 a0_0,.bool a0_1,.slice A0_2 l0_2.length c0_2] 30 ?_;intro gb1 hg w1 BK1 hb;have GW1:=ge_ hg ai;have GE1:=GW1;replace HB:=hb_ hb ai;clear hb hg;have hcz1:=c3_ BK1)|((with_reducible refine gc_ (f:=58) rfl ?_);refine gl_ 7 Tryz.func58 #[.agg #[.int .i64 a0_0,.bool a0_1,.slice A0_2 l0_2.length c0_2]] ?_;(with_reducible refine (be.calls k a0_0 a0_1 _ _ l0_2 false _ ?_ ?_ A2.out).mono ?_);exact bz;exact HC0_2.out;rintro e w2 ⟨rfl,hb⟩;refine ⟨_,rfl,?_⟩;replace BK1:=k1_ BK1 hb;replace HB:=hb_ hb aj;(try clear hb)))
  go_ret2
  exact ⟨_,aE,dF,aj⟩
 subst c1;rw [if_pos rfl] at H;obtain ⟨⟨t4,t5⟩,A4,H⟩:=o1_ H;obtain ⟨t2,A6,H⟩:=o1_ H;obtain ⟨⟨t6,t7⟩,A8,H⟩:=o1_ H;obtain ⟨t3,A10,H⟩:=o1_ H;replace H:(some (t3,true))=some (r1,r2):=H;simp only [sj_,pj_] at H;obtain ⟨rfl,rfl⟩:=H;go_enter Tryz.func63,Tryz.ntmps63
 try go_wp2_with (first|((with_reducible refine gd_ (N:=1) rfl ?_);refine bx_ 1 #[.int .i64 a0_0,.bool a0_1,.slice A0_2 l0_2.length c0_2] 30 ?_;intro gb1 hg w1 BK1 hb;have GW1:=ge_ hg ai;have GE1:=GW1;replace HB:=hb_ hb ai;clear hb hg;have hcz1:=c3_ BK1)|((with_reducible refine gc_ (f:=58) rfl ?_);refine gl_ 7 Tryz.func58 #[.agg #[.int .i64 a0_0,.bool a0_1,.slice A0_2 l0_2.length c0_2]] ?_;(with_reducible refine (be.calls k a0_0 a0_1 _ _ l0_2 true _ ?_ ?_ A2.out).mono ?_);exact bz;exact HC0_2.out;rintro e w2 ⟨rfl,hb⟩;refine ⟨_,rfl,?_⟩;replace BK1:=k1_ BK1 hb;replace HB:=hb_ hb aj;(try clear hb)))
 replace BK1:=A0_ (kd_ BK1.out);replace HB:=A0_ (bd_ HB.out)
 refine s3_ 10 [] BK1 bb.tab3 bb.bits3 (fun hHeld HT_ HW_=>?_)
 generalize w2.drew=w3 at BK1 HB hHeld ⊢
 refine tk_ 0 10 hHeld ?_
 refine tk_ 2 12 hHeld ?_
 refine on_ 1 (some 11) (fun K hK=>?_)
 refine gs_ Tryz.func53 #[.agg #[.int .i64 a0_0,.bool a0_1,.slice A0_2 l0_2.length c0_2]] ?_
 with_reducible refine (bD.calls a0_0 a0_1 _ _ l0_2 t4 t5 _ ?_ ?_ A4.out).mono ?_
 exact bz
 exact HC0_2.out
 rintro e w4 ⟨rfl,hb⟩
 refine ⟨_,rfl,?_⟩
 replace BK1:=k1_ BK1 hb;replace HB:=hb_ hb aj
 (try clear hb)
 refine hK.out _ _ (c3_ BK1) (fun hHeld=>?_)
 clear hK K
 refine nm_ 11 ?_
 refine on_ 3 (some 13) (fun K hK=>?_)
 refine gs_ Tryz.func85 #[.agg #[.int .i64 a0_0,.bool a0_1,.slice A0_2 l0_2.length c0_2]] ?_
 with_reducible refine (cf.calls k a0_0 a0_1 _ _ l0_2 t2 _ ?_ ?_ A6.out).mono ?_
 exact bz
 exact HC0_2.out
 rintro e w5 ⟨rfl,hb⟩
 refine ⟨_,rfl,?_⟩
 replace BK1:=k1_ BK1 hb;replace HB:=hb_ hb aj
 (try clear hb)
 refine hK.out _ _ (c3_ BK1) (fun hHeld=>?_)
 clear hK K
 refine nm_ 13 ?_
 refine on_ 4 (some 14) (fun K hK=>?_)
 refine gs_ Tryz.func84 #[.agg #[.int .i64 t4,.bool t5],.int .u32 t2] ?_
 with_reducible refine (an.calls k t4 t5 t2 t6 t7 _ gF A8.out).mono ?_
 rintro e w6 ⟨rfl,hb⟩
 refine ⟨_,rfl,?_⟩
 replace BK1:=k1_ BK1 hb;replace HB:=hb_ hb aj
 (try clear hb)
 refine hK.out _ _ (c3_ BK1) (fun hHeld=>?_)
 clear hK K
 refine nm_ 14 ?_
 refine pu_ 5 9 ?_
 refine pu_ 6 15 ?_
 refine pu_ 7 16 ?_
 refine pu_ 8 4 ?_
 refine pu_ 9 5 ?_
 refine dn_ ?_
 try go_wp2_with (first|((with_reducible refine gc_ (f:=71) rfl ?_);refine gl_ 18 Tryz.func71 #[.int .u32 t6] ?_;(with_reducible refine (aG.calls k t6 t3 _ gF A10.out).mono ?_);rintro e w7 ⟨v1,rfl,ho0,hb⟩;refine ⟨_,rfl,?_⟩;have HO1:=A0_ (Kd.R_lower ho0 (bz_ aj));replace BK1:=k1_ BK1 hb;replace HB:=hb_ hb aj;(try clear hb ho0)))
 go_ret2
 exact ⟨_,aE,bx,aj⟩

def bE.f (k:Nat) (a0_0:Int) (a0_1:Bool) (l0_2:List Int):Option (Int × Bool):=(bb.f k a0_0 a0_1 l0_2).bind fun bt428=>(if bt428.2=true then (if (bt428.1.length:Int)=0 then (some (0,false)) else (if 0<(bt428.1.length:Int) then (some (rd bt428.1 0,true)) else (none))) else (some (0,false)))
theorem bE.mono:∀ a0 a1 a2 k,LeO (bE.f k a0 a1 a2) (bE.f (k+1) a0 a1 a2):=by
 intro a0 a1 a2 k;unfold bE.f
 repeat' with_reducible first|exact bb.mono ..|exact LeO.refl ..|exact LeO.none ..|refine LeO.ite ?_ ?_|refine LeO.bind ?_ (fun _=>?_)
theorem bE.calls (k:Nat) (a0_0:Int) (a0_1:Bool) (A0_2:Option Addr) (c0_2:Nat) (l0_2:List Int) (r1:Int) (r2:Bool) (w:World) (hr0_2:Kd.C (Kd.int .i64) w A0_2 l0_2.length l0_2) (hc0_2:l0_2.length≤c0_2) (hG:TabOK w) (H:bE.f k a0_0 a0_1 l0_2=some (r1,r2)) :
  Calls Tryz.prog 28 #[.agg #[.int .i64 a0_0,.bool a0_1,.slice A0_2 l0_2.length c0_2]] w fun e w'=>e=.returned (.tuple #[.int .i64 r1,.bool r2])∧Below w.heap.size w w':=by
 have HG0:=A0_ hG;clear hG;have hu30:=Tryz.underlying30;have HR0_2:=A0_ hr0_2;have HC0_2:=A0_ hc0_2;clear hr0_2 hc0_2;have HB:=A0_ (Below.refl w.heap.size w);unfold bE.f at H;obtain ⟨⟨t1,t2⟩,A2,H⟩:=o1_ H
 by_cases c1:t2=true
 case neg =>
  obtain rfl:=bf_.mpr c1;rw [if_neg ft_] at H;simp only [sj_,pj_] at H;obtain ⟨rfl,rfl⟩:=H;go_enter Tryz.func28,Tryz.ntmps28
  go_wp2_with (first|((with_reducible refine gd_ (N:=1) rfl ?_);(try (refine ed (by rfl) ?_;dsimp only));refine bx_ 1 #[.int .i64 a0_0,.bool a0_1,.slice A0_2 l0_2.length c0_2] 30 ?_;intro gb1 hg w1 BK1 hb;have GW1:=ge_ hg ai;have GE1:=GW1;replace HB:=hb_ hb ai;clear hb hg;have hcz1:=c3_ BK1)|((with_reducible refine gc_ (f:=63) rfl ?_);refine gl_ 8 Tryz.func63 #[.agg #[.int .i64 a0_0,.bool a0_1,.slice A0_2 l0_2.length c0_2]] ?_;(with_reducible refine (bb.calls k a0_0 a0_1 _ _ l0_2 t1 false _ ?_ ?_ gF A2.out).mono ?_);exact bz;exact HC0_2.out;rintro e w2 ⟨v1,rfl,ho0,hb⟩;refine ⟨_,rfl,?_⟩;have HO1:=A0_ (Kd.R_lower ho0 (bz_ aj));replace BK1:=k1_ BK1 hb;replace HB:=hb_ hb aj;(try clear hb ho0)))
  go_ret2
  exact ⟨aE,aj⟩
 subst c1;rw [if_pos rfl] at H
 by_cases c2:(t1.length:Int)=0
 ·rw [if_pos c2] at H
  obtain ⟨c2b0,c2b1⟩:=et_ c2;clear c2;simp only [sj_,pj_] at H;obtain ⟨rfl,rfl⟩:=H;go_enter Tryz.func28,Tryz.ntmps28
  go_wp2_with (first|((with_reducible refine gd_ (N:=1) rfl ?_);(try (refine ed (by rfl) ?_;dsimp only));refine bx_ 1 #[.int .i64 a0_0,.bool a0_1,.slice A0_2 l0_2.length c0_2] 30 ?_;intro gb1 hg w1 BK1 hb;have GW1:=ge_ hg ai;have GE1:=GW1;replace HB:=hb_ hb ai;clear hb hg;have hcz1:=c3_ BK1)|((with_reducible refine gc_ (f:=63) rfl ?_);refine gl_ 8 Tryz.func63 #[.agg #[.int .i64 a0_0,.bool a0_1,.slice A0_2 l0_2.length c0_2]] ?_;(with_reducible refine (bb.calls k a0_0 a0_1 _ _ l0_2 t1 true _ ?_ ?_ gF A2.out).mono ?_);exact bz;exact HC0_2.out;rintro e w2 ⟨v1,rfl,ho0,hb⟩;refine ⟨_,rfl,?_⟩;have HO1:=A0_ (Kd.R_lower ho0 (bz_ aj));replace BK1:=k1_ BK1 hb;replace HB:=hb_ hb aj;(try clear hb ho0);obtain ⟨Ao1,co1,eo1⟩:=Kd.R_slice HO1.out;subst eo1))
  go_ret2
  exact ⟨aE,aj⟩
 rw [if_neg c2] at H;obtain ⟨c2b0,c2b1⟩:=ef_ c2
 have c2b2:¬ (t1=[]):=fun h_=>c2 (by rw [h_];rfl)
 obtain ⟨c3,H⟩:=is_ H;have c3b0:decide (0<(t1.length:Int))=true:=dt_ c3;have c3b1:decide (0<t1.length)=true:=dt_ bm;clear c3;simp only [sj_,pj_] at H;obtain ⟨rfl,rfl⟩:=H;go_enter Tryz.func28,Tryz.ntmps28
 go_wp2_with (first|((with_reducible refine gd_ (N:=1) rfl ?_);(try (refine ed (by rfl) ?_;dsimp only));refine bx_ 1 #[.int .i64 a0_0,.bool a0_1,.slice A0_2 l0_2.length c0_2] 30 ?_;intro gb1 hg w1 BK1 hb;have GW1:=ge_ hg ai;have GE1:=GW1;replace HB:=hb_ hb ai;clear hb hg;have hcz1:=c3_ BK1)|((with_reducible refine gc_ (f:=63) rfl ?_);refine gl_ 8 Tryz.func63 #[.agg #[.int .i64 a0_0,.bool a0_1,.slice A0_2 l0_2.length c0_2]] ?_;(with_reducible refine (bb.calls k a0_0 a0_1 _ _ l0_2 t1 true _ ?_ ?_ gF A2.out).mono ?_);exact bz;exact HC0_2.out;rintro e w2 ⟨v1,rfl,ho0,hb⟩;refine ⟨_,rfl,?_⟩;have HO1:=A0_ (Kd.R_lower ho0 (bz_ aj));replace BK1:=k1_ BK1 hb;replace HB:=hb_ hb aj;(try clear hb ho0);obtain ⟨Ao1,co1,eo1⟩:=Kd.R_slice HO1.out;subst eo1;have p1:0≤(0:Int):=bm;have q1:0<(t1.length:Int):=od_ ay;obtain ⟨ad1,e1,hx1_0⟩:=Kd.at_int (rr_ HO1.out).2.2 0 p1 q1;cases e1;have qi432:(0<t1.length)=True:=eq_true bm;(try rw [show ((0:Int)).toNat=0 from rfl] at hx1_0);(try rw [Addr.add_zero'] at hx1_0);replace p1:=eq_true p1;replace q1:=eq_true q1))
 go_ret2
 exact ⟨aE,aj⟩

def aW.f (l0:List Int):Option (List Int):=if l0.length<17592186044416 then some l0 else none
set_option maxHeartbeats 400000 in
set_option maxRecDepth 100000 in
theorem aW.calls (A0:Option Addr) (c0:Nat) (l0:List Int) (r:List Int) (w:World) (hr0:Kd.C (Kd.int .i64) w A0 l0.length l0) (hc0:l0.length≤c0) (h:aW.f l0=some r) :
  Calls Tryz.prog 74 #[.slice A0 l0.length c0] w fun e w'=>∃ v0_:Value,e=.returned (v0_)∧Kd.R (Kd.int .i64) 3 w' w.heap.size (fun _=>True) v0_ r∧Below w.heap.size w w':=by
 unfold aW.f at h
 split at h
 case isFalse=>cases h
 case isTrue hlt =>
 obtain rfl:=si_ h;clear h;have HR0:=A0_ hr0;have HC0:=A0_ hc0;have LM:=A0_ hlt;clear hlt;have HB:=A0_ (Below.refl w.heap.size w)
 cases A0 with
 | none =>
  have hnil:l0=[]:=by
   rcases Nat.eq_zero_or_pos l0.length with e|e
   ·exact List.eq_nil_of_length_eq_zero e
   ·obtain ⟨ad,e1,_⟩:=Kd.at_int hr0 0 bm bm
    cases e1
  clear hr0 hc0;subst hnil
  have q1:=fun (w:World) (n c n' c':Nat)=>Lib.run_eql_slice_nil w 22 3 none n c n' c' Tryz.underlying22
  go_enter Tryz.func74,Tryz.ntmps74
  go_wp2
  go_ret
  exact ⟨_,rfl,Kd.R_nil _ _ _ _ _,Below.refl _ _⟩
 | some ad =>
  clear hr0 hc0
  have q1:=fun (w:World) (n c n' c':Nat)=>Lib.run_eql_slice_nil w 22 3 (some ad) n c n' c' Tryz.underlying22
  go_enter Tryz.func74,Tryz.ntmps74
  go_wp2_with (first|((with_reducible refine gd_ (N:=5) rfl ?_);refine Kd.R_lit (Kd.int .i64) _ 3 ?hg (N:=5) ?hd (xs:=([]:List Int)) (inner:=[]) (ok:=fun _=>True) (okp:=fun _=>True) ?hr ?hp (fun _ hk=>hk) trivial (Below.refl _ _) (Nat.le_refl _) bB ?_;(case hd=>rfl);(case hg=>rfl);(case hr=>go_simp;first|done|rfl);(case hp=>exact (aN.none _ _));intro v1 w1 ho4 hb hg_ hnew_;clear hg_ hnew_;have HO1:=A0_ (Kd.R_lower ho4 (bz_ HB.out));replace HB:=A0_ (bt_ HB.out hb);clear hb ho4)|((with_reducible refine bX (b:=.append) (xs:=#[.tmp 5,.tmp 6]) rfl ?_);at_builtin;refine Kd.R_append_rows (Kd.int .i64) (w0:=w) w.heap.size rfl (.tmp 5) (.tmp 6) 22 3 (.int .i64 0) 8 rfl Tryz.underlying22 cW rfl ag bm v1 [] l0 _ _ _ (fun _=>True) (fun _=>False) rfl rfl ?aO ?aR (fun _ _ h=>h) (fun _ h=>h.elim) ?aF ?aB ?aS ?aL ?_;(case aR=>exact oc);(case aB=>exact ai);(case aF=>exact (fun _ _=>trivial));(case aO=>exact bx);(case aS=>exact (bz_ ai));(case aL=>have:=LM.out;simp only [List.length_nil];omega);intro v2 w2 ho hb hg hat;rw [List.nil_append] at ho;have n0_:=A0_ (hb);have n1_:=A0_ (ho);clear HB HO1;have HB:=n0_;have HO2:=n1_;clear n0_ n1_ ho hb hg hat))
  go_ret
  exact ⟨_,rfl,HO2.out,HB.out⟩


def ak.l0:Nat→List Int→Int→Int→Int→Option (Int)
 | 0,_,_,_,_=>none
 | k+1,x0,x1,x7,x8=>if x8<x7 then (if 0≤x8 then (if x8<(x0.length:Int) then (if x1=(rd x0 x8) then (some x8) else (ak.l0 k x0 x1 x7 (wrap64 (x8+1)))) else (none)) else (none)) else (some (-1))
def ak.f (k:Nat) (l0:List Int) (a1:Int):Option (Int):=ak.l0 k l0 a1 (l0.length:Int) 0
theorem ak.mono_l:∀ k,(∀ y0 y1 y2 y3,LeO (ak.l0 k y0 y1 y2 y3) (ak.l0 (k+1) y0 y1 y2 y3))
 | 0=>fun _ _ _ _ r h=>by simp [ak.l0] at h
 | k+1=>by
  have ih0:=ak.mono_l k
  ·intro y0 y1 y2 y3
   unfold ak.l0
   repeat' with_reducible first|exact ih0 ..|exact LeO.refl ..|exact LeO.none ..|refine LeO.ite ?_ ?_|refine LeO.bind ?_ (fun _=>?_)
theorem ak.mono:∀ a0 a1 k,LeO (ak.f k a0 a1) (ak.f (k+1) a0 a1):=by
 intro a0 a1 k;have ih0:=ak.mono_l k;unfold ak.f
 repeat' with_reducible first|exact ih0 ..|exact LeO.refl ..|exact LeO.none ..|refine LeO.ite ?_ ?_|refine LeO.bind ?_ (fun _=>?_)
theorem ak.calls (k:Nat) (A0:Option Addr) (c0:Nat) (l0:List Int) (a1:Int) (r:Int) (w:World) (hr0:Kd.C (Kd.int .i64) w A0 l0.length l0) (hc0:l0.length≤c0) (H:ak.f k l0 a1=some r) :
  Calls Tryz.prog 78 #[.slice A0 l0.length c0,.int .i64 a1] w fun e w'=>e=.returned (.int .i64 r)∧Drawn0 w w':=by
 have HR0:=A0_ hr0;have HC0:=A0_ hc0;clear hr0 hc0;unfold ak.f at H;have H':=A0_ H;clear H;go_enter Tryz.func78,Tryz.ntmps78
 go_wp2
 go_loopg [8] k (fun kq v1 w'=>∃ (x8_1:Int),v1=.int .i64 x8_1∧Aside0 (ak.l0 kq l0 a1 (l0.length:Int) x8_1=some r)∧Aside0 (kq≤k)∧Drawn0 w w')
 case atStart=>exact ⟨(0),aX,H',⟨Nat.le_refl _⟩,ck⟩
 clear H';obtain ⟨x8_1,rfl,HA,HK1,⟨m1,rfl⟩⟩:=hrel
 cases gk with|zero=>exact absurd HA.out (by simp [ak.l0])|succ k1=>?_
 have H:=HA.out;clear HA;simp only [ak.l0] at H
 by_cases c1:x8_1<(l0.length:Int)
 case neg =>
  rw [if_neg c1] at H;have c1b0:decide (x8_1<(l0.length:Int))=false:=decide_eq_false c1;clear c1;obtain rfl:=si_ H
  go_wp2
  go_ret
  exact ⟨dv,ck⟩
 rw [if_pos c1] at H;have c1b0:decide (x8_1<(l0.length:Int))=true:=dt_ c1;clear c1;obtain ⟨c2b0,H⟩:=i1_ H;obtain ⟨c3b0,H⟩:=i1_ H
 by_cases c4:a1=(rd l0 x8_1)
 ·rw [if_pos c4] at H
  obtain ⟨c4b0,c4b1⟩:=et_ c4;clear c4;obtain rfl:=si_ H;have p1:0≤(x8_1:Int):=od_ ay;have q1:x8_1<(l0.length:Int):=od_ ay;obtain ⟨ad1,e1,hx1_0⟩:=Kd.at_int HR0.out x8_1 p1 q1;cases e1;replace p1:=eq_true p1;replace q1:=eq_true q1
  go_wp2
  go_ret
  exact ⟨dv,ck⟩
 rw [if_neg c4] at H;obtain ⟨c4b0,c4b1⟩:=ef_ c4;have H':=A0_ H;clear H;have p1:0≤(x8_1:Int):=od_ ay;have q1:x8_1<(l0.length:Int):=od_ ay;obtain ⟨ad1,e1,hx1_0⟩:=Kd.at_int HR0.out x8_1 p1 q1;cases e1;replace p1:=eq_true p1;replace q1:=eq_true q1
 go_wp2
 go_roundg k1
 case measure=>have:=HK1.out;omega
 exact ⟨(wrap64 (x8_1+1)),aX,H',⟨dj⟩,ck⟩

def bc.f (k:Nat) (l0:List Int) (a1:Int):Option (Bool):=(ak.f k l0 a1).bind fun t434=>(some (decide (t434 ≥ 0)))
theorem bc.mono:∀ a0 a1 k,LeO (bc.f k a0 a1) (bc.f (k+1) a0 a1):=by
 intro a0 a1 k;unfold bc.f
 repeat' with_reducible first|exact ak.mono ..|exact LeO.refl ..|exact LeO.none ..|refine LeO.ite ?_ ?_|refine LeO.bind ?_ (fun _=>?_)
theorem bc.calls (k:Nat) (A0:Option Addr) (c0:Nat) (l0:List Int) (a1:Int) (r:Bool) (w:World) (hr0:Kd.C (Kd.int .i64) w A0 l0.length l0) (hc0:l0.length≤c0) (H:bc.f k l0 a1=some r) :
  Calls Tryz.prog 77 #[.slice A0 l0.length c0,.int .i64 a1] w fun e w'=>e=.returned (.bool r)∧Drawn0 w w':=by
 have HR0:=A0_ hr0;have HC0:=A0_ hc0;clear hr0 hc0;unfold bc.f at H;obtain ⟨t1,A2,H⟩:=o1_ H;replace H:(some (decide (t1 ≥ 0)))=some r:=H;obtain rfl:=si_ H;go_enter Tryz.func77,Tryz.ntmps77
 go_wp2_with (first|((with_reducible refine gc_ (f:=78) rfl ?_);refine gl_ 7 Tryz.func78 #[.slice A0 l0.length c0,.int .i64 a1] ?_;(with_reducible refine (ak.calls k _ _ l0 a1 t1 _ ?_ ?_ A2.out).mono ?_);exact kO;exact HC0.out;rintro e w' ⟨rfl,⟨nd,rfl⟩⟩;refine ⟨_,rfl,?_⟩))
 go_ret
 exact ⟨dv,ck⟩

def iE:Go.Shelf.Ren where
 f:=fun x=>match x with
  | 23=>79
  | n=>n
 t:=fun x=>match x with
  | 22=>22
  | 3=>3
  | 4=>4
  | 0=>0
  | n=>n
 g:=fun x=>x
theorem oy:Lays2.n23 Tryz.prog iE where
 mixed:=by kernel_rfl
 f23:=Tryz.func79.trans aY
 t0:=Tryz.underlying0
 a0:=Tryz.isAgg0
 z0:=Tryz.sizeOf0
 v0:=Tryz.zeroValue0
 t3:=Tryz.underlying3
 a3:=Tryz.isAgg3
 z3:=Tryz.sizeOf3
 v3:=Tryz.zeroValue3
 t4:=Tryz.underlying4
 a4:=Tryz.isAgg4
 z4:=Tryz.sizeOf4
 v4:=Tryz.zeroValue4
 t22:=Tryz.underlying22
 a22:=Tryz.isAgg22
 z22:=Tryz.sizeOf22
 v22:=Tryz.zeroValue22
 i3:=by kernel_rfl
def bj.f (l0:List Int) (a1 a2:Int):Option (List Int):=if 0≤a1∧a1<a2∧a2≤(l0.length:Int) then some (l0.take a1.toNat++l0.drop a2.toNat) else none
theorem bj.reps1 (M:Int→List Value→Prop) (hM:∀ x,M x [.int .i64 x]) (l:List Int):aN M 1 l (l.map (Value.int .i64)):=by
 refine ⟨bB,fun j p hp=>?_⟩
 have hj:j<l.length:=(List.getElem?_eq_some_iff.1 hp).1
 have:((l.map (Value.int .i64)).drop (j * 1)).take 1=[.int .i64 p]:=by
  rw [Nat.mul_one,List.drop_eq_getElem_cons (by simpa using hj)]
  simp [(List.getElem?_eq_some_iff.1 hp).2]
 rw [this]
 exact hM p
theorem bj.reps2 (M:Int→List Value→Prop) (hM:∀ x c,M x c→c=[.int .i64 x]) (l:List Int) (cs:List Value) (h:aN M 1 l cs):cs=l.map (Value.int .i64):=by
 refine List.ext_getElem? fun j=>?_
 have hl:cs.length=l.length:=by rw [h.1,Nat.mul_one]
 by_cases hj:j<l.length
 ·have:=hM _ _ (h.2 j _ (List.getElem?_eq_getElem hj))
  rw [Nat.mul_one,List.drop_eq_getElem_cons bm] at this;simp only [List.take_succ_cons,List.take_zero,List.cons.injEq,and_true] at this;rw [List.getElem?_eq_getElem bm,this]
  simp [hj]
 ·rw [List.getElem?_eq_none bm,List.getElem?_eq_none (by simp;omega)]
/-- A row of the call's own, cut in place. -/
theorem bj.own (Ao:Option Addr) (co:Nat) (l:List Int) (i j:Int) (r:List Int) (w:World) (base:Nat) (ok:Nat→Prop) (HO:Kd.R (Kd.int .i64) 3 w base ok (.slice Ao l.length co) l) (h:bj.f l i j=some r) :
  Calls Tryz.prog 79 #[.slice Ao l.length co,.int .i64 i,.int .i64 j] w fun e w'=>e=.returned (.slice Ao r.length co)∧Kd.R (Kd.int .i64) 3 w' base ok (.slice Ao r.length co) r∧w.grownBy w' (Value.ownBlock (.slice Ao l.length co)):=by
 unfold bj.f at h
 split at h
 case isFalse=>cases h
 case isTrue hij =>
 obtain ⟨i,rfl⟩:∃ n:Nat,i=n:=⟨i.toNat,bm⟩;obtain ⟨j,rfl⟩:∃ n:Nat,j=n:=⟨j.toNat,bm⟩;obtain ⟨_,h1,h2⟩:=hij
 have h1:i<j:=by omega
 have h2:j≤l.length:=by omega
 simp only [Int.toNat_natCast] at h;obtain rfl:=si_ h;clear h;obtain ⟨hok,inner,⟨hl,hv⟩,hr⟩:=HO
 rcases hv with ⟨_,hz⟩|⟨g,cap,cur,hv,hg,hb,hn,hm,hs,ht⟩
 ·omega
 cases hv;have hin:=bj.reps2 _ (fun x c hc=>hc) l inner hr;subst hin
 have ht':cur.toList.take l.length=l.map (Value.int .i64):=by rw [← ht];exact congrArg (fun n=>cur.toList.take n) (Nat.mul_one _).symm
 have hs':cur.size=co:=by rw [hs];exact Nat.mul_one co
 have hH:=holds_of_blockI hb ht'
 refine (Any.slices_Delete_int (ρ:=iE) oy g 0 co i j l w hH hn hm (Nat.le_of_lt h1) h2).mono ?_
 rintro e w' ⟨rfl,q,rfl⟩
 have hlen:(l.take i++l.drop j).length=l.length - (j - i):=by simp;omega
 have htot:(l.take i++l.drop j++List.replicate (j - i) (0:Int)).length=l.length:=by simp;omega
 refine ⟨by rw [hlen],⟨fun k hk=>hok k hk,(l.take i++l.drop j).map (Value.int .i64),⟨by rw [List.length_map];exact (Nat.mul_one _).symm,.inr ⟨g,co,_,rfl,hg,heap_sortedI (os:=#[]) (n:=q) (l.take i++l.drop j++List.replicate (j - i) (0:Int)).toArray hb,?_,hm,?_,?_⟩⟩,bj.reps1 ((Kd.int .i64).M _ base _) (fun x=>rfl) _⟩,grownBy_sortedI (os:=#[]) _⟩
 ·rw [hlen];omega
 ·show _=co * 1
  simp [Sort.putCells,hs']
 ·have h3:=take_putCellsI cur (l.take i++l.drop j++List.replicate (j - i) (0:Int)) (by rw [htot];omega)
  rw [htot] at h3;have h4:=congrArg (List.take (l.take i++l.drop j).length) h3;rw [List.take_take,Nat.min_eq_left (by rw [hlen];omega)] at h4
  show List.take (_ * 1) _=_
  rw [Nat.mul_one]
  refine h4.trans ?_
  rw [List.map_append (l₁:=l.take i++l.drop j)]
  exact List.take_left' (by rw [List.length_map])

theorem ac.append {P:Program} {ops:Array Oper} {o:Oper} {a:Act} {K:Act→World→Prop} {Q:Exit→Act→World→Prop} {w0 W:World} (base:Nat) (hw:Region.wanted o (yielded ops a.tmps)=true) (s x:Operand) (t e:TypeId)
  (ho:o.op=.call { callee:=.builtin .append,args:=#[s,x],argTypes:=#[t,t] })
  (ht:P.underlying t=some (.slice e)) (hinfo:(P.info? e).map (fun i=>(i.zero,i.size,i.bytes))=some (some (.int .i64 0),1,8))
  (Ao:Option Addr) (co:Nat) (xs:List Int) (p:Int) (ok:Nat→Prop) (hs:a.eval s=.slice Ao xs.length co) (hx:a.eval x=.slice (some ⟨W.heap.size,0,none⟩) 1 1) (hfresh:∀ k,W.heap.size≤k→ok k)
  (HO:Kd.R (Kd.int .i64) e W base ok (.slice Ao xs.length co) xs) (HB:Below base w0 W) (hbase:base≤W.heap.size) (hl:(xs.length+1) * 8≤140737488355328)
  (h:∀ v1 w1,Kd.R (Kd.int .i64) e w1 base ok v1 (xs++[p])→Below base w0 w1→W.grownBy w1 (Value.ownBlock (.slice Ao xs.length co))→Kd.C (Kd.int .i64) w1 Ao xs.length xs→K (a.put o.dst v1) w1) :
  if Region.wanted o (yielded ops a.tmps)=true then Oper.wp P o a (W.alloc (.cells #[.int .i64 p] e)) K Q else K (a.put o.dst undef) (W.alloc (.cells #[.int .i64 p] e)):=by
 obtain ⟨h0,inner,hown,hr⟩:=HO;have hin:=bj.reps2 _ (fun x c hc=>hc) xs inner hr;subst hin;have hown':W.ownsRow base e 1 (.slice Ao xs.length co) xs.length (xs.map (Value.int .i64)):=hown;obtain ⟨i0,hi,hzz⟩:=Option.map_eq_some_iff.1 hinfo;simp only [pj_] at hzz;obtain ⟨hz0,hz1,hz2⟩:=hzz
 have hlen:xs.length+1≤140737488355328:=by omega
 have hnews:∀ j u,[Value.int .i64 p][j]?=some u→(W.alloc (.cells #[.int .i64 p] e)).cell? ((⟨W.heap.size,0,none⟩:Addr).add j)=some u:=cell_one_new W (.int .i64 p) e
 have h1:∀ u ∈ [Value.int .i64 p],u.oneCell'=true:=by
  intro u hu;rw [List.mem_singleton.1 hu]
  rfl
 rw [if_pos hw];obtain ⟨v1,w1,hrun,hown1,hg,_,hat⟩:=run_append_own_at (P:=P) (W.alloc (.cells #[.int .i64 p] e)) base t o.type e i0 (.int .i64 0) 1 8 ht hi hz0 hz1 hz2 rfl ag _ xs.length _ (hown'.alloc _) ⟨W.heap.size,0,none⟩ 1 1 [.int .i64 p] rfl hnews h1 (by simp only [maxLen];omega) hl (by simp;omega)
 have hC:Kd.C (Kd.int .i64) w1 Ao xs.length xs:=by
  refine ⟨rfl,bm,fun hpos=>?_⟩
  rcases hown'.2 with ⟨_,hz⟩|⟨g,cap,cur,hv,hbg,hgb,hnc,hcm,hcs,htake⟩
  ·omega
  cases hv
  refine ⟨⟨g,0,none⟩,rfl,fun j y hj=>⟨[.int .i64 y],rfl,rfl,fun i u hu=>?_⟩⟩
  have hi0:i=0:=by
   rcases i with _|i
   ·rfl
   ·simp at hu
  subst hi0;simp only [List.getElem?_cons_zero,sj_] at hu;subst hu;have hjl:j<xs.length:=(List.getElem?_eq_some_iff.1 hj).1
  have hjm:(xs.map (Value.int .i64))[j]?=some (.int .i64 y):=by rw [List.getElem?_map,hj];rfl
  show w1.cell? ((⟨g,0,none⟩:Addr).add (j * 1+0))=_
  rw [Nat.mul_one,Nat.add_zero]
  rcases hat with hat|hat
  ·exact hown1.cells (g:=g) (by rw [hat];rfl) j _ (by rw [List.getElem?_append_left (by simpa using hjl)];exact hjm)
  ·have hgl:g<W.heap.size:=(Array.getElem?_eq_some_iff.1 hgb).1
   have hgA:(W.alloc (.cells #[.int .i64 p] e)).heap[g]?=some (.cells cur e (0,0)):=(by first|exact heap_alloc_old W _ hgl|exact heap_alloc_old W _ g hgl:(W.alloc (.cells #[.int .i64 p] e)).heap[g]?=W.heap[g]?).trans hgb
   by_cases hroom:xs.length+1≤co
   ·have hr':=run_append_room (P:=P) (W.alloc (.cells #[.int .i64 p] e)) t o.type e i0 ht hi g xs.length co cur hgA ⟨W.heap.size,0,none⟩ 1 1 [.int .i64 p] (by rw [hz1];rfl) hnews h1 hroom (by rw [hz1,hcs];simp only [List.length_singleton];omega)
    have:=hrun.symm.trans hr'
    injection this with hv1 _
    rw [hv1] at hat
    simp [Value.ownBlock] at hat
    omega
   ·have hr':=run_append_grow (P:=P) (W.alloc (.cells #[.int .i64 p] e)) t o.type e i0 (.int .i64 0) ht hi hz0 ⟨g,0,none⟩ xs.length co (xs.map (Value.int .i64)) (by rw [hz1];simp) ((hown'.alloc _).cells (g:=g) rfl) ⟨W.heap.size,0,none⟩ 1 1 [.int .i64 p] (by rw [hz1];rfl) hnews bm bm (growslice_fits bm (by rw [hz2];exact hl))
    have:=hrun.symm.trans hr'
    injection this with _ hw1
    subst hw1;have hc0:=(hown'.alloc (.cells #[.int .i64 p] e)).cells (g:=g) rfl j _ hjm
    have e_:((⟨g,0,none⟩:Addr).add j).block=g:=by unfold Addr.add;split <;> rfl
    refine (World.cell?_of_block (w:=W.alloc (.cells #[.int .i64 p] e)) ?_).trans hc0
    rw [e_]
    have hlt_:g<(W.alloc (.cells #[.int .i64 p] e)).drew.heap.size:=by show g<(W.alloc (.cells #[.int .i64 p] e)).heap.size;simp;omega
    first|exact heap_alloc_old (W.alloc (.cells #[.int .i64 p] e)).drew _ hlt_|exact heap_alloc_old (W.alloc (.cells #[.int .i64 p] e)).drew _ g hlt_
 unfold Oper.wp execOp;simp only [ho,resolve,invoke,builtin,Sem.run_bind,Sem.run_pure,Result.andThen_ok,ma_,mc_,mn_,hs,hx,hrun]
 refine h v1 w1 ?_ ((HB.alloc hbase _).grown hg (by simp;omega) (d3 hown)) (World.grownBy.trans (World.grownBy_alloc W _ _) hg) hC
 refine ⟨fun k hk=>?_,(xs++[p]).map (Value.int .i64),?_,bj.reps1 ((Kd.int .i64).M _ base _) (fun x=>rfl) _⟩
 ·rcases hat with e1|e1
  ·exact h0 k (by rw [← e1];exact hk)
  ·rw [e1] at hk
   injection hk with hk
   subst hk
   exact hfresh _ bB
 ·show w1.ownsRow base e 1 v1 (xs++[p]).length ((xs++[p]).map (Value.int .i64))
  simpa using hown1
def bK.f (k:Nat) (a0_0:Int) (a0_1:Bool) (l0_2:List Int) (l0_3:List Int) (a1:Int):Option (Bool):=(bD.f a0_0 a0_1 l0_2).bind fun bt436=>((bo.f k bt436.1 bt436.2 (([a1]:List Int))).bind fun t441=>(if t441=true then ((bc.f k l0_3 a1).bind fun t442=>(some (!t442))) else (some false)))
theorem bK.mono:∀ a0 a1 a2 a3 a4 k,LeO (bK.f k a0 a1 a2 a3 a4) (bK.f (k+1) a0 a1 a2 a3 a4):=by
 intro a0 a1 a2 a3 a4 k;unfold bK.f
 repeat' with_reducible first|exact bo.mono ..|exact bc.mono ..|exact LeO.refl ..|exact LeO.none ..|refine LeO.ite ?_ ?_|refine LeO.bind ?_ (fun _=>?_)
theorem bK.calls (k:Nat) (a0_0:Int) (a0_1:Bool) (A0_2:Option Addr) (c0_2:Nat) (l0_2:List Int) (V3 V4:Value) (A0_3:Option Addr) (c0_3:Nat) (l0_3:List Int) (a1:Int) (r:Bool) (g1 g3:Nat) (w:World) (hr0_2:Kd.C (Kd.int .i64) w A0_2 l0_2.length l0_2) (hc0_2:l0_2.length≤c0_2) (hr0_3:Kd.C (Kd.int .i64) w A0_3 l0_3.length l0_3) (hc0_3:l0_3.length≤c0_3) (hB1:w.heap[g1]?=some (.cells #[.int .i64 a0_0,.bool a0_1,.slice A0_2 l0_2.length c0_2,V3,V4] 32 (0,0))) (hB3:w.heap[g3]?=some (.cells #[.slice A0_3 l0_3.length c0_3] 22 (0,0))) (H:bK.f k a0_0 a0_1 l0_2 l0_3 a1=some r) :
  Calls Tryz.prog 75 #[.int .i64 a1,.pointer (some ⟨g1,0,none⟩),.pointer (some ⟨g3,0,none⟩)] w fun e w'=>e=.returned (.bool r)∧Below w.heap.size w w':=by
 have BK1:=A0_ hB1;have BK2:=A0_ hB3;clear hB1 hB3;have hu_26_:=Tryz.underlying32;have hu_24_:=Tryz.underlying30;have HR0_2:=A0_ hr0_2;have HC0_2:=A0_ hc0_2;clear hr0_2 hc0_2;have HR0_3:=A0_ hr0_3;have HC0_3:=A0_ hc0_3;clear hr0_3 hc0_3;have HB:=A0_ (Below.refl w.heap.size w);unfold bK.f at H;obtain ⟨⟨t3,t4⟩,A2,H⟩:=o1_ H;obtain ⟨y1,hy1⟩:∃ y_:List Int,y_=(([a1]:List Int)):=⟨_,rfl⟩;replace H:((bo.f k t3 t4 y1).bind fun t1=>(if t1=true then ((bc.f k l0_3 a1).bind fun t2=>(some (!t2))) else (some false)))=some r:=dx;have Ny1:=A0_ hy1;clear hy1;obtain ⟨t1,A4,H⟩:=o1_ H
 by_cases c1:t1=true
 case neg =>
  obtain rfl:=bf_.mpr c1;rw [if_neg ft_] at H;obtain rfl:=si_ H;have hc0_0:w.cell? ⟨g1,0,none⟩=some (.int .i64 a0_0):=(kc_ BK1.out 0).trans rfl;have hc0_1:w.cell? ⟨g1,1,none⟩=some (.bool a0_1):=(kc_ BK1.out 1).trans rfl;have hc0_2:w.cell? ⟨g1,2,none⟩=some (.slice A0_2 l0_2.length c0_2):=(kc_ BK1.out 2).trans rfl;go_enter Tryz.func75,Tryz.ntmps75
  go_wp2_with (first|((with_reducible refine gc_ (f:=53) rfl ?_);refine gl_ 7 Tryz.func53 #[.agg #[.int .i64 a0_0,.bool a0_1,.slice A0_2 l0_2.length c0_2]] ?_;(with_reducible refine (bD.calls a0_0 a0_1 _ _ l0_2 t3 t4 _ ?_ ?_ A2.out).mono ?_);exact bz;exact HC0_2.out;rintro e w1 ⟨rfl,hb⟩;refine ⟨_,rfl,?_⟩;have BK3':=A0_ (kb_ (g:=g3) (o:=.cells #[.slice A0_3 l0_3.length c0_3] 22 (0,0)) (u1_ BK2) hb);clear BK2;have BK2:=BK3';clear BK3';replace BK1:=A0_ (kb_ (g:=g1) (o:=.cells #[.int .i64 a0_0,.bool a0_1,.slice A0_2 l0_2.length c0_2,V3,V4] 32 (0,0)) (u1_ BK1) hb);replace HB:=hb_ hb ai;(try clear hb))|((with_reducible refine gd_ (N:=9) rfl ?_);refine Kd.R_lit (Kd.int .i64) _ 3 ?hg (N:=9) ?hd (xs:=([a1]:List Int)) (inner:=[.int .i64 a1]) (ok:=fun _=>True) (okp:=fun _=>True) ?hr ?hp (fun _ hk=>hk) trivial (Below.refl _ _) (Nat.le_refl _) bB ?_;(case hd=>rfl);(case hg=>rfl);(case hr=>go_simp;first|done|rfl);(case hp=>exact (aN.one (show Kd.M (Kd.int .i64) _ _ _ a1 [.int .i64 a1] from rfl) (aN.none _ _)));intro v1 w2 ho19 hb hg_ hnew_;clear hg_ hnew_;have BK3':=A0_ (kb_ (g:=g3) (o:=.cells #[.slice A0_3 l0_3.length c0_3] 22 (0,0)) (u1_ BK2) hb);clear BK2;have BK2:=BK3';clear BK3';(first|rw [← Ny1.out] at ho19|(simp only [Int.reduceToNat] at ho19;rw [← Ny1.out] at ho19));have HO1:=A0_ (Kd.R_lower ho19 (bz_ ai));replace BK1:=A0_ (kb_ (g:=g1) (o:=.cells #[.int .i64 a0_0,.bool a0_1,.slice A0_2 l0_2.length c0_2,V3,V4] 32 (0,0)) (u1_ BK1) hb);replace HB:=hb_ hb ai;clear hb ho19;obtain ⟨Ao1,co1,eo1⟩:=Kd.R_slice HO1.out;subst eo1)|((with_reducible refine gc_ (f:=76) rfl ?_);refine gl_ 10 Tryz.func76 #[.agg #[.int .i64 t3,.bool t4],.slice Ao1 y1.length co1] ?_;(with_reducible refine (bo.calls k t3 t4 _ _ y1 false _ ?_ ?_ A4.out).mono ?_);exact dW;exact (rr_ HO1.out).2.1;rintro e w3 ⟨rfl,hb⟩;refine ⟨_,rfl,?_⟩;have BK3':=A0_ (kb_ (g:=g3) (o:=.cells #[.slice A0_3 l0_3.length c0_3] 22 (0,0)) (u1_ BK2) hb);clear BK2;have BK2:=BK3';clear BK3';replace HO1:=q1_ HO1 hb;replace BK1:=A0_ (kb_ (g:=g1) (o:=.cells #[.int .i64 a0_0,.bool a0_1,.slice A0_2 l0_2.length c0_2,V3,V4] 32 (0,0)) (u1_ BK1) hb);replace HB:=hb_ hb ai;(try clear hb)))
  go_ret
  exact ⟨aE,ai⟩
 subst c1;rw [if_pos rfl] at H;obtain ⟨t2,A6,H⟩:=o1_ H;replace H:(some (!t2))=some r:=H;obtain rfl:=si_ H;have hc0_0:w.cell? ⟨g1,0,none⟩=some (.int .i64 a0_0):=(kc_ BK1.out 0).trans rfl;have hc0_1:w.cell? ⟨g1,1,none⟩=some (.bool a0_1):=(kc_ BK1.out 1).trans rfl;have hc0_2:w.cell? ⟨g1,2,none⟩=some (.slice A0_2 l0_2.length c0_2):=(kc_ BK1.out 2).trans rfl;go_enter Tryz.func75,Tryz.ntmps75
 go_wp2_with (first|((with_reducible refine gc_ (f:=53) rfl ?_);refine gl_ 7 Tryz.func53 #[.agg #[.int .i64 a0_0,.bool a0_1,.slice A0_2 l0_2.length c0_2]] ?_;(with_reducible refine (bD.calls a0_0 a0_1 _ _ l0_2 t3 t4 _ ?_ ?_ A2.out).mono ?_);exact bz;exact HC0_2.out;rintro e w1 ⟨rfl,hb⟩;refine ⟨_,rfl,?_⟩;have BK3':=A0_ (kb_ (g:=g3) (o:=.cells #[.slice A0_3 l0_3.length c0_3] 22 (0,0)) (u1_ BK2) hb);clear BK2;have BK2:=BK3';clear BK3';replace BK1:=A0_ (kb_ (g:=g1) (o:=.cells #[.int .i64 a0_0,.bool a0_1,.slice A0_2 l0_2.length c0_2,V3,V4] 32 (0,0)) (u1_ BK1) hb);replace HB:=hb_ hb ai;(try clear hb))|((with_reducible refine gd_ (N:=9) rfl ?_);refine Kd.R_lit (Kd.int .i64) _ 3 ?hg (N:=9) ?hd (xs:=([a1]:List Int)) (inner:=[.int .i64 a1]) (ok:=fun _=>True) (okp:=fun _=>True) ?hr ?hp (fun _ hk=>hk) trivial (Below.refl _ _) (Nat.le_refl _) bB ?_;(case hd=>rfl);(case hg=>rfl);(case hr=>go_simp;first|done|rfl);(case hp=>exact (aN.one (show Kd.M (Kd.int .i64) _ _ _ a1 [.int .i64 a1] from rfl) (aN.none _ _)));intro v1 w2 ho11 hb hg_ hnew_;clear hg_ hnew_;have BK3':=A0_ (kb_ (g:=g3) (o:=.cells #[.slice A0_3 l0_3.length c0_3] 22 (0,0)) (u1_ BK2) hb);clear BK2;have BK2:=BK3';clear BK3';(first|rw [← Ny1.out] at ho11|(simp only [Int.reduceToNat] at ho11;rw [← Ny1.out] at ho11));have HO1:=A0_ (Kd.R_lower ho11 (bz_ ai));replace BK1:=A0_ (kb_ (g:=g1) (o:=.cells #[.int .i64 a0_0,.bool a0_1,.slice A0_2 l0_2.length c0_2,V3,V4] 32 (0,0)) (u1_ BK1) hb);replace HB:=hb_ hb ai;clear hb ho11;obtain ⟨Ao1,co1,eo1⟩:=Kd.R_slice HO1.out;subst eo1)|((with_reducible refine gc_ (f:=76) rfl ?_);refine gl_ 10 Tryz.func76 #[.agg #[.int .i64 t3,.bool t4],.slice Ao1 y1.length co1] ?_;(with_reducible refine (bo.calls k t3 t4 _ _ y1 true _ ?_ ?_ A4.out).mono ?_);exact dW;exact (rr_ HO1.out).2.1;rintro e w3 ⟨rfl,hb⟩;refine ⟨_,rfl,?_⟩;have BK3':=A0_ (kb_ (g:=g3) (o:=.cells #[.slice A0_3 l0_3.length c0_3] 22 (0,0)) (u1_ BK2) hb);clear BK2;have BK2:=BK3';clear BK3';replace HO1:=q1_ HO1 hb;replace BK1:=A0_ (kb_ (g:=g1) (o:=.cells #[.int .i64 a0_0,.bool a0_1,.slice A0_2 l0_2.length c0_2,V3,V4] 32 (0,0)) (u1_ BK1) hb);replace HB:=hb_ hb ai;(try clear hb);have hd14:w3.cell? ⟨g3,0,none⟩=some (.slice A0_3 l0_3.length c0_3):=(kc_ BK2.out 0).trans rfl;have hcz1_0:w3.cell? ⟨g1,0,none⟩=some (.int .i64 a0_0):=(kc_ BK1.out 0).trans rfl;have hcz1_1:w3.cell? ⟨g1,1,none⟩=some (.bool a0_1):=(kc_ BK1.out 1).trans rfl;have hcz1_2:w3.cell? ⟨g1,2,none⟩=some (.slice A0_2 l0_2.length c0_2):=(kc_ BK1.out 2).trans rfl;have hfz1:=oL BK1)|(go_at_call 77;(with_reducible refine (bc.calls k _ _ l0_3 a1 t2 _ ?_ ?_ A6.out).mono ?_);exact b6;exact HC0_3.out;rintro e w' ⟨rfl,⟨nd,rfl⟩⟩))
 go_ret
 exact ⟨aE,ai⟩

def ac.f (k:Nat) (a0_0:Int) (a0_1:Bool) (l0_2:List Int) (l0_3:List Int) (a0_4:Int) (a1_0:Int) (a1_1:Int) (a1_2:Int):Option (List Int × Bool):=(aW.f l0_3).bind fun t488=>((ak.f k t488 a1_1).bind fun t492=>(if a1_0=1 then ((bE.f k a0_0 a0_1 l0_2).bind fun bt493=>(if t488.length<17592186044416 then ((some (t488++[bt493.1]:List Int)).bind fun y495=>(if bt493.2=true then (if a1_1=0 then (some (y495,(a1_2 == 0))) else (some (y495,false))) else (some (y495,false)))) else (none))) else (if a1_0=2 then (if t488.length<17592186044416 then ((some (t488++[a1_1]:List Int)).bind fun y498=>((bK.f k a0_0 a0_1 l0_2 t488 a1_1).bind fun t501=>(if t501=true then (some (y498,(a1_2 == 0))) else (some (y498,false))))) else (none)) else (if a1_0=3 then (if t492<0 then (some (([]:List Int),false)) else ((bj.f t488 t492 (wrap64 (t492+1))).bind fun t502=>(some (t502,(a1_2 == 0))))) else (if a1_0=4 then (if t492<0 then (some (([]:List Int),false)) else ((bK.f k a0_0 a0_1 l0_2 t488 a1_2).bind fun t505=>(if t505=true then (if 0≤t492 then (if t492<(t488.length:Int) then (some ((t488.set (t492:Int).toNat a1_2),true)) else (none)) else (none)) else (some (([]:List Int),false))))) else (if a1_0=5 then ((some (([]:List Int):List Int)).bind fun y507=>(if a1_1=0 then (some (y507,(a1_2 == 0))) else (some (y507,false)))) else (some (([]:List Int),false))))))))
theorem ac.mono:∀ a0 a1 a2 a3 a4 a5 a6 a7 k,LeO (ac.f k a0 a1 a2 a3 a4 a5 a6 a7) (ac.f (k+1) a0 a1 a2 a3 a4 a5 a6 a7):=by
 intro a0 a1 a2 a3 a4 a5 a6 a7 k;unfold ac.f
 repeat' with_reducible first|exact bE.mono ..|exact bK.mono ..|exact ak.mono ..|exact LeO.refl ..|exact LeO.none ..|refine LeO.ite ?_ ?_|refine LeO.bind ?_ (fun _=>?_)
def ac.T7:Bool × List (List Nat × List Nat):=(true,[([],[]),([],[]),([1],[1]),([0,2],[0,2]),([],[]),([4,3],[4]),([5],[5]),([6,5],[5,6]),([7,5],[5,7]),([5,8],[5,8]),([9,5],[9]),([10],[10]),([11,10],[10,11]),([12,10],[10,12]),([10,13],[10,13]),([3,10,0,1,2,3],[3]),([14,15,0,1,2,3,4,5,6,7,8,9,10,11,12,13,14,15],[14])])
def ac.B7:List Nat:=[0,0,2,7,0,31,63,127,255,511,1023,2047,4095,8191,16383,2047,65535]
theorem ac.tab7:df .any (dO Tryz.f52 7)=ac.T7:=by kernel_rfl
theorem ac.bits7:ce ac.T7.2 ac.B7=true:=by kernel_rfl
def ac.T9:Bool × List (List Nat × List Nat):=(true,[([],[]),([],[]),([1],[1]),([2],[2]),([0,3],[0,3]),([],[]),([],[]),([6],[6]),([5,7,4],[5,7]),([8,8],[8]),([9],[9]),([10,9],[9,10]),([11,9],[9,11]),([9,12],[9,12]),([4,9,0,1,2,3,4],[4]),([13,14,0,1,2,3,4,5,6,7,8,9,10,11,12,13,14],[13])])
def ac.B9:List Nat:=[0,0,2,6,15,0,0,64,255,511,1023,2047,4095,8191,1023,32767]
theorem ac.tab9:df .any (dO Tryz.f52 9)=ac.T9:=by kernel_rfl
theorem ac.bits9:ce ac.T9.2 ac.B9=true:=by kernel_rfl
def ac.T13:Bool × List (List Nat × List Nat):=(true,[([],[]),([],[]),([],[]),([2],[2]),([0,1,3],[0,1,3]),([],[]),([5],[5]),([6],[6]),([4,4,0,1,2,3,4],[4]),([7,8,0,1,2,3,4,5,6,7,8],[7])])
def ac.B13:List Nat:=[0,0,0,4,15,0,32,96,31,511]
theorem ac.tab13:df .any (dO Tryz.f52 13)=ac.T13:=by kernel_rfl
theorem ac.bits13:ce ac.T13.2 ac.B13=true:=by kernel_rfl
def ac.T20:Bool × List (List Nat × List Nat):=(true,[([],[]),([],[]),([1],[1]),([2],[2]),([3],[3]),([4],[4]),([5,4],[4,5]),([6,4],[4,6]),([4,7],[4,7]),([0,4,0],[0]),([8,9,0,1,2,3,4,5,6,7,8,9],[8])])
def ac.B20:List Nat:=[0,0,2,6,14,30,62,126,254,31,1023]
theorem ac.tab20:df .any (dO Tryz.f52 20)=ac.T20:=by kernel_rfl
theorem ac.bits20:ce ac.T20.2 ac.B20=true:=by kernel_rfl
theorem ac.calls (k:Nat) (a0_0:Int) (a0_1:Bool) (A0_2:Option Addr) (c0_2:Nat) (l0_2:List Int) (A0_3:Option Addr) (c0_3:Nat) (l0_3:List Int) (a0_4:Int) (a1_0:Int) (a1_1:Int) (a1_2:Int) (r1:List Int) (r2:Bool) (w:World) (hr0_2:Kd.C (Kd.int .i64) w A0_2 l0_2.length l0_2) (hc0_2:l0_2.length≤c0_2) (hr0_3:Kd.C (Kd.int .i64) w A0_3 l0_3.length l0_3) (hc0_3:l0_3.length≤c0_3) (hG:TabOK w) (H:ac.f k a0_0 a0_1 l0_2 l0_3 a0_4 a1_0 a1_1 a1_2=some (r1,r2)) :
  Calls Tryz.prog 52 #[.agg #[.int .i64 a0_0,.bool a0_1,.slice A0_2 l0_2.length c0_2,.slice A0_3 l0_3.length c0_3,.int .i64 a0_4],.agg #[.int .i64 a1_0,.int .i64 a1_1,.int .i64 a1_2]] w fun e w'=>∃ v0_:Value,e=.returned (.tuple #[v0_,.bool r2])∧Kd.R (Kd.int .i64) 3 w' w.heap.size (fun _=>True) v0_ r1∧Below w.heap.size w w':=by
 have HG0:=A0_ hG;clear hG;have hu_26_:=Tryz.underlying32;have hu_45_:=Tryz.underlying50;have hu_24_:=Tryz.underlying30;have HR0_2:=A0_ hr0_2;have HC0_2:=A0_ hc0_2;clear hr0_2 hc0_2;have HR0_3:=A0_ hr0_3;have HC0_3:=A0_ hc0_3;clear hr0_3 hc0_3;have HB:=A0_ (Below.refl w.heap.size w);unfold ac.f at H;obtain ⟨t1,A2,H⟩:=o1_ H;obtain ⟨t2,A4,H⟩:=o1_ H
 by_cases c1:a1_0=1
 ·rw [if_pos c1] at H
  obtain ⟨c1b0,c1b1⟩:=et_ c1;clear c1;obtain ⟨⟨t6,t7⟩,A6,H⟩:=o1_ H;obtain ⟨c2,H⟩:=is_ H;have LMc1:=A0_ c2;clear c2;obtain ⟨y1,hy1⟩:∃ y_:List Int,y_=(t1++[t6]):=⟨_,rfl⟩;replace H:(if t7=true then (if a1_1=0 then (some (y1,(a1_2 == 0))) else (some (y1,false))) else (some (y1,false)))=some (r1,r2):=dx;have Ny1:=A0_ hy1;clear hy1
  by_cases c3:t7=true
  case neg =>
   obtain rfl:=bf_.mpr c3;rw [if_neg ft_] at H;simp only [sj_,pj_] at H;obtain ⟨rfl,rfl⟩:=H;go_enter Tryz.func52,Tryz.ntmps52
   try go_wp2_with (first|((with_reducible refine gd_ (N:=2) rfl ?_);refine bx_ 2 #[.int .i64 a0_0,.bool a0_1,.slice A0_2 l0_2.length c0_2,.slice A0_3 l0_3.length c0_3,.int .i64 a0_4] 32 ?_;intro gb1 hg w1 BK1 hb;have GW1:=ge_ hg ai;have GE1:=GW1;replace HB:=hb_ hb ai;clear hb hg)|((with_reducible refine gd_ (N:=3) rfl ?_);refine bx_ 3 #[.int .i64 a1_0,.int .i64 a1_1,.int .i64 a1_2] 50 ?_;intro gb2 hg w2 BK2 hb;have GW2:=ge_ hg aj;have GE2:=GW2;replace HB:=hb_ hb aj;obtain ⟨NB1_2,NB2_1⟩:=nn_ hg BK1;replace BK1:=k1_ BK1 hb;clear hb hg;obtain ⟨hnb1,hnc1⟩:=n2_ NB1_2;have hcz1:=z5_ BK1)|((with_reducible refine gc_ (f:=74) rfl ?_);refine gl_ 13 Tryz.func74 #[.slice A0_3 l0_3.length c0_3] ?_;(with_reducible refine (aW.calls _ _ l0_3 t1 _ ?_ ?_ A2.out).mono ?_);exact b6;exact HC0_3.out;rintro e w3 ⟨v1,rfl,ho0,hb⟩;refine ⟨_,rfl,?_⟩;have HO1:=A0_ (Kd.R_lower ho0 (bz_ au));replace BK1:=k1_ BK1 hb;replace BK2:=k1_ BK2 hb;replace HB:=hb_ hb au;(try clear hb ho0))|((with_reducible refine gd_ (N:=6) rfl ?_);refine bx_ 6 #[.slice none 0 0] 22 ?_;intro gb3 hg w4 BK3 hb;replace HO1:=q1_ HO1 hb;have GW3:=ge_ hg au;have GE3:=GW3;replace HB:=hb_ hb au;obtain ⟨NB1_3,NB3_1⟩:=nn_ hg BK1;replace BK1:=k1_ BK1 hb;obtain ⟨NB2_3,NB3_2⟩:=nn_ hg BK2;replace BK2:=k1_ BK2 hb;clear hb hg;obtain ⟨Ao1,co1,eo1⟩:=Kd.R_slice HO1.out;subst eo1;have HCAP:=A0_ ((rr_ HO1.out).2.1);obtain ⟨hnb2,hnc2⟩:=n2_ NB3_1;obtain ⟨hnb3,hnc3⟩:=n2_ NB3_2;have hcz2:=z1_ BK3;have hcz3:=z3_ BK2)|((with_reducible refine gc_ (f:=78) rfl ?_);refine gl_ 18 Tryz.func78 #[.slice Ao1 t1.length co1,.int .i64 a1_1] ?_;(with_reducible refine (ak.calls k _ _ t1 a1_1 t2 _ ?_ ?_ A4.out).mono ?_);(refine (rr_ (e:=3) (base:=w.heap.size) (ok:=fun k_=>True) (n:=t1.length) (c:=co1) ?_).2.2;exact dL);exact (rr_ HO1.out).2.1;rintro e w' ⟨rfl,⟨nd,rfl⟩⟩;refine ⟨_,rfl,?_⟩;have hcz4:=z5_ BK1)|((with_reducible refine gc_ (f:=28) rfl ?_);refine gl_ 26 Tryz.func28 #[.agg #[.int .i64 a0_0,.bool a0_1,.slice A0_2 l0_2.length c0_2]] ?_;(with_reducible refine (bE.calls k a0_0 a0_1 _ _ l0_2 t6 false _ ?_ ?_ jW A6.out).mono ?_);exact cb_ HR0_2.out aD;exact HC0_2.out;rintro e w5 ⟨rfl,hb⟩;refine ⟨_,rfl,?_⟩;replace HO1:=A0_ (Kd.R_below dL hb);replace BK1:=k1_ BK1 hb;replace BK2:=k1_ BK2 hb;replace BK3:=k2_ (.cells #[.slice Ao1 t1.length co1] 22 (0,0)) BK3 hb;replace HB:=hb_ hb aD;(try clear hb)))
   replace HO1:=A0_ (rd_ HO1.out);replace BK1:=A0_ (kd_ BK1.out);replace BK2:=A0_ (kd_ BK2.out);replace BK3:=A0_ (kd_ BK3.out);replace HB:=A0_ (bd_ HB.out)
   refine dd (n:=17) (S:=fun w'=>w'.cell? ⟨gb3,0,none⟩=some (.slice Ao1 t1.length co1)) (ds:=[]) #[false,false,false,false,false,false,false,false,false,false,false,false,false,false,false,false,false] aY rfl rfl ((kc_ BK3.out 0).trans rfl) (fun hHeld=>?_);refine cu ac.tab7 ac.bits7 (fun HT_ HW_=>?_)
   generalize w5.drew=w6 at HO1 BK1 BK2 BK3 HB hHeld ⊢
   refine pu_ 1 30 ?_
   refine pu_ 4 33 ?_
   refine tk_ 0 29 hHeld ?_
   refine on_ 2 (some 31) (fun K hK=>?_)
   refine gS (w1:=?_) (v:=?_) (by rfl) rfl ?_ ?_
   rotate_left 2
   ·go_simp
    constructor
    ·rfl
    rfl
   refine hK.out _ _ ((kc_ (ka_ BK3.out _) 0).trans rfl) (fun hHeld=>?_)
   clear hK K
   refine nm_ 31 ?_
   refine on_ 3 (some 32) (fun K hK=>?_)
   refine Kd.R_append_step (Kd.int .i64) (w0:=w) w.heap.size (by rfl) (.tmp 29) (.tmp 31) 22 3 (.int .i64 0) 8 rfl Tryz.underlying22 cW rfl ag bm (.slice Ao1 t1.length co1) t1 t6 [.int .i64 t6] (fun _=>True) (fun _=>False) rfl rfl ?aP (fun _ hk=>hk.elim) ?aF ?aO ?aB ?aS ?aL ?_
   (case aP=>exact rfl)
   (case aB=>exact aD)
   (case aF=>exact (fun _ _=>trivial))
   (case aO=>exact bx)
   (case aS=>exact (bz_ aD))
   (case aL=>have:=LMc1.out;omega)
   intro v2 w7 ho hb hg hat;rw [← Ny1.out] at ho;have n0_:=A0_ (aJ (g:=gb1) (o:=.cells #[.int .i64 a0_0,.bool a0_1,.slice A0_2 l0_2.length c0_2,.slice A0_3 l0_3.length c0_3,.int .i64 a0_4] 32 (0,0)) (u1_ BK1) hg (Kd.R_ne HO1.out BK1.out ag));have n1_:=A0_ (aJ (g:=gb2) (o:=.cells #[.int .i64 a1_0,.int .i64 a1_1,.int .i64 a1_2] 50 (0,0)) (u1_ BK2) hg (Kd.R_ne HO1.out BK2.out ag));have n2_:=A0_ (aJ (g:=gb3) (o:=.cells #[.slice Ao1 t1.length co1] 22 (0,0)) (u1_ BK3) hg (Kd.R_ne HO1.out BK3.out ag));have n3_:=A0_ (hb);have n4_:=A0_ (ho);clear BK1 BK2 BK3 HB HO1;have BK1:=n0_;have BK2:=n1_;have BK3:=n2_;have HB:=n3_;have HO2:=n4_;clear n0_ n1_ n2_ n3_ n4_ ho hb hg hat
   refine hK.out _ _ ((kc_ BK3.out 0).trans rfl) (fun hHeld=>?_)
   clear hK K
   refine nm_ 32 ?_
   refine pu_ 5 34 ?_
   refine pv_ 6 35 ?_
   refine pv_ 7 36 ?_
   refine pv_ 8 37 ?_
   refine pu_ 9 38 ?_
   refine pu_ 10 39 ?_
   refine pv_ 11 40 ?_
   refine pv_ 12 41 ?_
   refine pv_ 13 42 ?_
   refine pu_ 14 43 ?_
   refine pu_ 15 4 ?_
   refine pu_ 16 5 ?_
   refine dn_ ?_
   try go_wp2
   go_ret2
   exact ⟨_,aE,cd,aD⟩
  subst c3;rw [if_pos rfl] at H
  by_cases c4:a1_1=0
  case neg =>
   rw [if_neg c4] at H;obtain ⟨c4b0,c4b1⟩:=ef_ c4;simp only [sj_,pj_] at H;obtain ⟨rfl,rfl⟩:=H;go_enter Tryz.func52,Tryz.ntmps52
   try go_wp2_with (first|((with_reducible refine gd_ (N:=2) rfl ?_);refine bx_ 2 #[.int .i64 a0_0,.bool a0_1,.slice A0_2 l0_2.length c0_2,.slice A0_3 l0_3.length c0_3,.int .i64 a0_4] 32 ?_;intro gb1 hg w1 BK1 hb;have GW1:=ge_ hg ai;have GE1:=GW1;replace HB:=hb_ hb ai;clear hb hg)|((with_reducible refine gd_ (N:=3) rfl ?_);refine bx_ 3 #[.int .i64 a1_0,.int .i64 a1_1,.int .i64 a1_2] 50 ?_;intro gb2 hg w2 BK2 hb;have GW2:=ge_ hg aj;have GE2:=GW2;replace HB:=hb_ hb aj;obtain ⟨NB1_2,NB2_1⟩:=nn_ hg BK1;replace BK1:=k1_ BK1 hb;clear hb hg;obtain ⟨hnb1,hnc1⟩:=n2_ NB1_2;have hcz1:=z5_ BK1)|((with_reducible refine gc_ (f:=74) rfl ?_);refine gl_ 13 Tryz.func74 #[.slice A0_3 l0_3.length c0_3] ?_;(with_reducible refine (aW.calls _ _ l0_3 t1 _ ?_ ?_ A2.out).mono ?_);exact b6;exact HC0_3.out;rintro e w3 ⟨v1,rfl,ho0,hb⟩;refine ⟨_,rfl,?_⟩;have HO1:=A0_ (Kd.R_lower ho0 (bz_ au));replace BK1:=k1_ BK1 hb;replace BK2:=k1_ BK2 hb;replace HB:=hb_ hb au;(try clear hb ho0))|((with_reducible refine gd_ (N:=6) rfl ?_);refine bx_ 6 #[.slice none 0 0] 22 ?_;intro gb3 hg w4 BK3 hb;replace HO1:=q1_ HO1 hb;have GW3:=ge_ hg au;have GE3:=GW3;replace HB:=hb_ hb au;obtain ⟨NB1_3,NB3_1⟩:=nn_ hg BK1;replace BK1:=k1_ BK1 hb;obtain ⟨NB2_3,NB3_2⟩:=nn_ hg BK2;replace BK2:=k1_ BK2 hb;clear hb hg;obtain ⟨Ao1,co1,eo1⟩:=Kd.R_slice HO1.out;subst eo1;have HCAP:=A0_ ((rr_ HO1.out).2.1);obtain ⟨hnb2,hnc2⟩:=n2_ NB3_1;obtain ⟨hnb3,hnc3⟩:=n2_ NB3_2;have hcz2:=z1_ BK3;have hcz3:=z3_ BK2)|((with_reducible refine gc_ (f:=78) rfl ?_);refine gl_ 18 Tryz.func78 #[.slice Ao1 t1.length co1,.int .i64 a1_1] ?_;(with_reducible refine (ak.calls k _ _ t1 a1_1 t2 _ ?_ ?_ A4.out).mono ?_);(refine (rr_ (e:=3) (base:=w.heap.size) (ok:=fun k_=>True) (n:=t1.length) (c:=co1) ?_).2.2;exact dL);exact (rr_ HO1.out).2.1;rintro e w' ⟨rfl,⟨nd,rfl⟩⟩;refine ⟨_,rfl,?_⟩;have hcz4:=z5_ BK1)|((with_reducible refine gc_ (f:=28) rfl ?_);refine gl_ 26 Tryz.func28 #[.agg #[.int .i64 a0_0,.bool a0_1,.slice A0_2 l0_2.length c0_2]] ?_;(with_reducible refine (bE.calls k a0_0 a0_1 _ _ l0_2 t6 true _ ?_ ?_ jW A6.out).mono ?_);exact cb_ HR0_2.out aD;exact HC0_2.out;rintro e w5 ⟨rfl,hb⟩;refine ⟨_,rfl,?_⟩;replace HO1:=A0_ (Kd.R_below dL hb);replace BK1:=k1_ BK1 hb;replace BK2:=k1_ BK2 hb;replace BK3:=k2_ (.cells #[.slice Ao1 t1.length co1] 22 (0,0)) BK3 hb;replace HB:=hb_ hb aD;(try clear hb)))
   replace HO1:=A0_ (rd_ HO1.out);replace BK1:=A0_ (kd_ BK1.out);replace BK2:=A0_ (kd_ BK2.out);replace BK3:=A0_ (kd_ BK3.out);replace HB:=A0_ (bd_ HB.out)
   refine dd (n:=17) (S:=fun w'=>w'.cell? ⟨gb3,0,none⟩=some (.slice Ao1 t1.length co1)∧w'.cell? ⟨gb2,0,none⟩=some (.int .i64 a1_0)∧w'.cell? ⟨gb2,1,none⟩=some (.int .i64 a1_1)∧w'.cell? ⟨gb2,2,none⟩=some (.int .i64 a1_2)) (ds:=[]) #[false,false,false,false,false,false,false,false,false,false,false,false,false,false,false,false,false] aY rfl rfl (a1_ BK3 (c3_ BK2)) (fun hHeld=>?_);refine cu ac.tab7 ac.bits7 (fun HT_ HW_=>?_)
   generalize w5.drew=w6 at HO1 BK1 BK2 BK3 HB hHeld ⊢
   refine pu_ 1 30 ?_
   refine pu_ 4 33 ?_
   refine tk_ 0 29 hHeld ?_
   refine on_ 2 (some 31) (fun K hK=>?_)
   refine gS (w1:=?_) (v:=?_) (by rfl) rfl ?_ ?_
   rotate_left 2
   ·go_simp
    constructor
    ·rfl
    rfl
   refine hK.out _ _ ⟨(kc_ (ka_ BK3.out _) 0).trans rfl,(kc_ (ka_ BK2.out _) 0).trans rfl,(kc_ (ka_ BK2.out _) 1).trans rfl,(kc_ (ka_ BK2.out _) 2).trans rfl⟩ (fun hHeld=>?_)
   clear hK K
   refine nm_ 31 ?_
   refine on_ 3 (some 32) (fun K hK=>?_)
   refine Kd.R_append_step (Kd.int .i64) (w0:=w) w.heap.size (by rfl) (.tmp 29) (.tmp 31) 22 3 (.int .i64 0) 8 rfl Tryz.underlying22 cW rfl ag bm (.slice Ao1 t1.length co1) t1 t6 [.int .i64 t6] (fun _=>True) (fun _=>False) rfl rfl ?aP (fun _ hk=>hk.elim) ?aF ?aO ?aB ?aS ?aL ?_
   (case aP=>exact rfl)
   (case aB=>exact aD)
   (case aF=>exact (fun _ _=>trivial))
   (case aO=>exact bx)
   (case aS=>exact (bz_ aD))
   (case aL=>have:=LMc1.out;omega)
   intro v2 w7 ho hb hg hat;rw [← Ny1.out] at ho;have n0_:=A0_ (aJ (g:=gb1) (o:=.cells #[.int .i64 a0_0,.bool a0_1,.slice A0_2 l0_2.length c0_2,.slice A0_3 l0_3.length c0_3,.int .i64 a0_4] 32 (0,0)) (u1_ BK1) hg (Kd.R_ne HO1.out BK1.out ag));have n1_:=A0_ (aJ (g:=gb2) (o:=.cells #[.int .i64 a1_0,.int .i64 a1_1,.int .i64 a1_2] 50 (0,0)) (u1_ BK2) hg (Kd.R_ne HO1.out BK2.out ag));have n2_:=A0_ (aJ (g:=gb3) (o:=.cells #[.slice Ao1 t1.length co1] 22 (0,0)) (u1_ BK3) hg (Kd.R_ne HO1.out BK3.out ag));have n3_:=A0_ (hb);have n4_:=A0_ (ho);clear BK1 BK2 BK3 HB HO1;have BK1:=n0_;have BK2:=n1_;have BK3:=n2_;have HB:=n3_;have HO2:=n4_;clear n0_ n1_ n2_ n3_ n4_ ho hb hg hat
   refine hK.out _ _ (a1_ BK3 (c3_ BK2)) (fun hHeld=>?_)
   clear hK K
   refine nm_ 32 ?_
   refine pu_ 5 34 ?_
   refine pu_ 6 35 ?_
   refine tk_ 7 36 hHeld ?_
   refine pu_ 8 37 ?_
   refine pu_ 9 38 ?_
   refine pu_ 10 39 ?_
   refine pv_ 11 40 ?_
   refine pv_ 12 41 ?_
   refine pv_ 13 42 ?_
   refine pu_ 14 43 ?_
   refine pu_ 15 4 ?_
   refine pu_ 16 5 ?_
   refine dn_ ?_
   try go_wp2
   go_ret2
   exact ⟨_,aE,cd,aD⟩
  rw [if_pos c4] at H;obtain ⟨c4b0,c4b1⟩:=et_ c4;clear c4;simp only [sj_,pj_] at H;obtain ⟨rfl,rfl⟩:=H;go_enter Tryz.func52,Tryz.ntmps52
  try go_wp2_with (first|((with_reducible refine gd_ (N:=2) rfl ?_);refine bx_ 2 #[.int .i64 a0_0,.bool a0_1,.slice A0_2 l0_2.length c0_2,.slice A0_3 l0_3.length c0_3,.int .i64 a0_4] 32 ?_;intro gb1 hg w1 BK1 hb;have GW1:=ge_ hg ai;have GE1:=GW1;replace HB:=hb_ hb ai;clear hb hg)|((with_reducible refine gd_ (N:=3) rfl ?_);refine bx_ 3 #[.int .i64 a1_0,.int .i64 a1_1,.int .i64 a1_2] 50 ?_;intro gb2 hg w2 BK2 hb;have GW2:=ge_ hg aj;have GE2:=GW2;replace HB:=hb_ hb aj;obtain ⟨NB1_2,NB2_1⟩:=nn_ hg BK1;replace BK1:=k1_ BK1 hb;clear hb hg;obtain ⟨hnb1,hnc1⟩:=n2_ NB1_2;have hcz1:=z5_ BK1)|((with_reducible refine gc_ (f:=74) rfl ?_);refine gl_ 13 Tryz.func74 #[.slice A0_3 l0_3.length c0_3] ?_;(with_reducible refine (aW.calls _ _ l0_3 t1 _ ?_ ?_ A2.out).mono ?_);exact b6;exact HC0_3.out;rintro e w3 ⟨v1,rfl,ho0,hb⟩;refine ⟨_,rfl,?_⟩;have HO1:=A0_ (Kd.R_lower ho0 (bz_ au));replace BK1:=k1_ BK1 hb;replace BK2:=k1_ BK2 hb;replace HB:=hb_ hb au;(try clear hb ho0))|((with_reducible refine gd_ (N:=6) rfl ?_);refine bx_ 6 #[.slice none 0 0] 22 ?_;intro gb3 hg w4 BK3 hb;replace HO1:=q1_ HO1 hb;have GW3:=ge_ hg au;have GE3:=GW3;replace HB:=hb_ hb au;obtain ⟨NB1_3,NB3_1⟩:=nn_ hg BK1;replace BK1:=k1_ BK1 hb;obtain ⟨NB2_3,NB3_2⟩:=nn_ hg BK2;replace BK2:=k1_ BK2 hb;clear hb hg;obtain ⟨Ao1,co1,eo1⟩:=Kd.R_slice HO1.out;subst eo1;have HCAP:=A0_ ((rr_ HO1.out).2.1);obtain ⟨hnb2,hnc2⟩:=n2_ NB3_1;obtain ⟨hnb3,hnc3⟩:=n2_ NB3_2;have hcz2:=z1_ BK3;have hcz3:=z3_ BK2)|((with_reducible refine gc_ (f:=78) rfl ?_);refine gl_ 18 Tryz.func78 #[.slice Ao1 t1.length co1,.int .i64 a1_1] ?_;(with_reducible refine (ak.calls k _ _ t1 a1_1 t2 _ ?_ ?_ A4.out).mono ?_);(refine (rr_ (e:=3) (base:=w.heap.size) (ok:=fun k_=>True) (n:=t1.length) (c:=co1) ?_).2.2;exact dL);exact (rr_ HO1.out).2.1;rintro e w' ⟨rfl,⟨nd,rfl⟩⟩;refine ⟨_,rfl,?_⟩;have hcz4:=z5_ BK1)|((with_reducible refine gc_ (f:=28) rfl ?_);refine gl_ 26 Tryz.func28 #[.agg #[.int .i64 a0_0,.bool a0_1,.slice A0_2 l0_2.length c0_2]] ?_;(with_reducible refine (bE.calls k a0_0 a0_1 _ _ l0_2 t6 true _ ?_ ?_ jW A6.out).mono ?_);exact cb_ HR0_2.out aD;exact HC0_2.out;rintro e w5 ⟨rfl,hb⟩;refine ⟨_,rfl,?_⟩;replace HO1:=A0_ (Kd.R_below dL hb);replace BK1:=k1_ BK1 hb;replace BK2:=k1_ BK2 hb;replace BK3:=k2_ (.cells #[.slice Ao1 t1.length co1] 22 (0,0)) BK3 hb;replace HB:=hb_ hb aD;(try clear hb)))
  replace HO1:=A0_ (rd_ HO1.out);replace BK1:=A0_ (kd_ BK1.out);replace BK2:=A0_ (kd_ BK2.out);replace BK3:=A0_ (kd_ BK3.out);replace HB:=A0_ (bd_ HB.out)
  refine dd (n:=17) (S:=fun w'=>w'.cell? ⟨gb3,0,none⟩=some (.slice Ao1 t1.length co1)∧w'.cell? ⟨gb2,0,none⟩=some (.int .i64 a1_0)∧w'.cell? ⟨gb2,1,none⟩=some (.int .i64 a1_1)∧w'.cell? ⟨gb2,2,none⟩=some (.int .i64 a1_2)) (ds:=[]) #[false,false,false,false,false,false,false,false,false,false,false,false,false,false,false,false,false] aY rfl rfl (a1_ BK3 (c3_ BK2)) (fun hHeld=>?_);refine cu ac.tab7 ac.bits7 (fun HT_ HW_=>?_)
  generalize w5.drew=w6 at HO1 BK1 BK2 BK3 HB hHeld ⊢
  refine pu_ 1 30 ?_
  refine pu_ 4 33 ?_
  refine tk_ 0 29 hHeld ?_
  refine on_ 2 (some 31) (fun K hK=>?_)
  refine gS (w1:=?_) (v:=?_) (by rfl) rfl ?_ ?_
  rotate_left 2
  ·go_simp
   constructor
   ·rfl
   rfl
  refine hK.out _ _ ⟨(kc_ (ka_ BK3.out _) 0).trans rfl,(kc_ (ka_ BK2.out _) 0).trans rfl,(kc_ (ka_ BK2.out _) 1).trans rfl,(kc_ (ka_ BK2.out _) 2).trans rfl⟩ (fun hHeld=>?_)
  clear hK K
  refine nm_ 31 ?_
  refine on_ 3 (some 32) (fun K hK=>?_)
  refine Kd.R_append_step (Kd.int .i64) (w0:=w) w.heap.size (by rfl) (.tmp 29) (.tmp 31) 22 3 (.int .i64 0) 8 rfl Tryz.underlying22 cW rfl ag bm (.slice Ao1 t1.length co1) t1 t6 [.int .i64 t6] (fun _=>True) (fun _=>False) rfl rfl ?aP (fun _ hk=>hk.elim) ?aF ?aO ?aB ?aS ?aL ?_
  (case aP=>exact rfl)
  (case aB=>exact aD)
  (case aF=>exact (fun _ _=>trivial))
  (case aO=>exact bx)
  (case aS=>exact (bz_ aD))
  (case aL=>have:=LMc1.out;omega)
  intro v2 w7 ho hb hg hat;rw [← Ny1.out] at ho;have n0_:=A0_ (aJ (g:=gb1) (o:=.cells #[.int .i64 a0_0,.bool a0_1,.slice A0_2 l0_2.length c0_2,.slice A0_3 l0_3.length c0_3,.int .i64 a0_4] 32 (0,0)) (u1_ BK1) hg (Kd.R_ne HO1.out BK1.out ag));have n1_:=A0_ (aJ (g:=gb2) (o:=.cells #[.int .i64 a1_0,.int .i64 a1_1,.int .i64 a1_2] 50 (0,0)) (u1_ BK2) hg (Kd.R_ne HO1.out BK2.out ag));have n2_:=A0_ (aJ (g:=gb3) (o:=.cells #[.slice Ao1 t1.length co1] 22 (0,0)) (u1_ BK3) hg (Kd.R_ne HO1.out BK3.out ag));have n3_:=A0_ (hb);have n4_:=A0_ (ho);clear BK1 BK2 BK3 HB HO1;have BK1:=n0_;have BK2:=n1_;have BK3:=n2_;have HB:=n3_;have HO2:=n4_;clear n0_ n1_ n2_ n3_ n4_ ho hb hg hat
  refine hK.out _ _ (a1_ BK3 (c3_ BK2)) (fun hHeld=>?_)
  clear hK K
  refine nm_ 32 ?_
  refine pu_ 5 34 ?_
  refine pu_ 6 35 ?_
  refine tk_ 7 36 hHeld ?_
  refine pu_ 8 37 ?_
  refine pu_ 9 38 ?_
  refine pu_ 10 39 ?_
  refine pu_ 11 40 ?_
  refine pu_ 15 4 ?_
  refine tk_ 12 41 hHeld ?_
  refine pu_ 13 42 ?_
  refine pu_ 14 43 ?_
  refine pu_ 16 5 ?_
  refine dn_ ?_
  try go_wp2
  go_ret2
  exact ⟨_,aE,cd,aD⟩
 rw [if_neg c1] at H;obtain ⟨c1b0,c1b1⟩:=ef_ c1
 by_cases c2:a1_0=2
 ·rw [if_pos c2] at H
  obtain ⟨c2b0,c2b1⟩:=et_ c2;clear c2;obtain ⟨c3,H⟩:=is_ H;have LMc1:=A0_ c3;clear c3;obtain ⟨y2,hy1⟩:∃ y_:List Int,y_=(t1++[a1_1]):=⟨_,rfl⟩;replace H:((bK.f k a0_0 a0_1 l0_2 t1 a1_1).bind fun t3=>(if t3=true then (some (y2,(a1_2 == 0))) else (some (y2,false))))=some (r1,r2):=dx;have Ny1:=A0_ hy1;clear hy1;obtain ⟨t3,A6,H⟩:=o1_ H
  by_cases c4:t3=true
  ·subst c4
   rw [if_pos rfl] at H;simp only [sj_,pj_] at H;obtain ⟨rfl,rfl⟩:=H;go_enter Tryz.func52,Tryz.ntmps52
   try go_wp2_with (first|((with_reducible refine gd_ (N:=2) rfl ?_);refine bx_ 2 #[.int .i64 a0_0,.bool a0_1,.slice A0_2 l0_2.length c0_2,.slice A0_3 l0_3.length c0_3,.int .i64 a0_4] 32 ?_;intro gb1 hg w1 BK1 hb;have GW1:=ge_ hg ai;have GE1:=GW1;replace HB:=hb_ hb ai;clear hb hg)|((with_reducible refine gd_ (N:=3) rfl ?_);refine bx_ 3 #[.int .i64 a1_0,.int .i64 a1_1,.int .i64 a1_2] 50 ?_;intro gb2 hg w2 BK2 hb;have GW2:=ge_ hg aj;have GE2:=GW2;replace HB:=hb_ hb aj;obtain ⟨NB1_2,NB2_1⟩:=nn_ hg BK1;replace BK1:=k1_ BK1 hb;clear hb hg;obtain ⟨hnb1,hnc1⟩:=n2_ NB1_2;have hcz1:=z5_ BK1)|((with_reducible refine gc_ (f:=74) rfl ?_);refine gl_ 13 Tryz.func74 #[.slice A0_3 l0_3.length c0_3] ?_;(with_reducible refine (aW.calls _ _ l0_3 t1 _ ?_ ?_ A2.out).mono ?_);exact b6;exact HC0_3.out;rintro e w3 ⟨v1,rfl,ho0,hb⟩;refine ⟨_,rfl,?_⟩;have HO1:=A0_ (Kd.R_lower ho0 (bz_ au));replace BK1:=k1_ BK1 hb;replace BK2:=k1_ BK2 hb;replace HB:=hb_ hb au;(try clear hb ho0))|((with_reducible refine gd_ (N:=6) rfl ?_);refine bx_ 6 #[.slice none 0 0] 22 ?_;intro gb3 hg w4 BK3 hb;replace HO1:=q1_ HO1 hb;have GW3:=ge_ hg au;have GE3:=GW3;replace HB:=hb_ hb au;obtain ⟨NB1_3,NB3_1⟩:=nn_ hg BK1;replace BK1:=k1_ BK1 hb;obtain ⟨NB2_3,NB3_2⟩:=nn_ hg BK2;replace BK2:=k1_ BK2 hb;clear hb hg;obtain ⟨Ao1,co1,eo1⟩:=Kd.R_slice HO1.out;subst eo1;have HCAP:=A0_ ((rr_ HO1.out).2.1);obtain ⟨hnb2,hnc2⟩:=n2_ NB3_1;obtain ⟨hnb3,hnc3⟩:=n2_ NB3_2;have hcz2:=z1_ BK3;have hcz3:=z3_ BK2)|((with_reducible refine gc_ (f:=78) rfl ?_);refine gl_ 18 Tryz.func78 #[.slice Ao1 t1.length co1,.int .i64 a1_1] ?_;(with_reducible refine (ak.calls k _ _ t1 a1_1 t2 _ ?_ ?_ A4.out).mono ?_);(refine (rr_ (e:=3) (base:=w.heap.size) (ok:=fun k_=>True) (n:=t1.length) (c:=co1) ?_).2.2;exact dL);exact (rr_ HO1.out).2.1;rintro e w' ⟨rfl,⟨nd,rfl⟩⟩;refine ⟨_,rfl,?_⟩))
   have n0_:Aside0 (Kd.R (Kd.int .i64) 3 (w4.setCell ⟨gb3,0,none⟩ (.slice Ao1 t1.length co1)) w.heap.size (fun _=>True) (.slice Ao1 t1.length co1) t1):=⟨ka⟩;have n1_:Aside0 ((w4.setCell ⟨gb3,0,none⟩ (.slice Ao1 t1.length co1)).heap[gb1]?=some (.cells #[.int .i64 a0_0,.bool a0_1,.slice A0_2 l0_2.length c0_2,.slice A0_3 l0_3.length c0_3,.int .i64 a0_4] 32 (0,0))):=⟨u1_ BK1⟩;have n2_:Aside0 ((w4.setCell ⟨gb3,0,none⟩ (.slice Ao1 t1.length co1)).heap[gb2]?=some (.cells #[.int .i64 a1_0,.int .i64 a1_1,.int .i64 a1_2] 50 (0,0))):=⟨u1_ BK2⟩;have n3_:Aside0 ((w4.setCell ⟨gb3,0,none⟩ (.slice Ao1 t1.length co1)).heap[gb3]?=some (.cells #[.slice Ao1 t1.length co1] 22 (0,0))):=⟨u1_ BK3⟩;have n4_:Aside0 (Below w.heap.size w (w4.setCell ⟨gb3,0,none⟩ (.slice Ao1 t1.length co1))):=⟨aD⟩
   (try clear HO1)
   (try clear BK1)
   (try clear BK2)
   (try clear BK3)
   (try clear HB)
   generalize (w4.setCell ⟨gb3,0,none⟩ (.slice Ao1 t1.length co1))=w5 at n0_ n1_ n2_ n3_ n4_ ⊢;have HO1:=n0_;have BK1:=n1_;have BK2:=n2_;have BK3:=n3_;have HB:=n4_;clear n0_ n1_ n2_ n3_ n4_
   (try (rw [eF w5];generalize hq_:World.drewN w5 _=w5;have n0_:Aside0 (Kd.R (Kd.int .i64) 3 w5 w.heap.size (fun _=>True) (.slice Ao1 t1.length co1) t1):=⟨jU⟩;have n1_:Aside0 (w5.heap[gb1]?=some (.cells #[.int .i64 a0_0,.bool a0_1,.slice A0_2 l0_2.length c0_2,.slice A0_3 l0_3.length c0_3,.int .i64 a0_4] 32 (0,0))):=⟨by rw [← hq_];exact (u1_ BK1)⟩;have n2_:Aside0 (w5.heap[gb2]?=some (.cells #[.int .i64 a1_0,.int .i64 a1_1,.int .i64 a1_2] 50 (0,0))):=⟨by rw [← hq_];exact (u1_ BK2)⟩;have n3_:Aside0 (w5.heap[gb3]?=some (.cells #[.slice Ao1 t1.length co1] 22 (0,0))):=⟨by rw [← hq_];exact (u1_ BK3)⟩;have n4_:Aside0 (Below w.heap.size w w5):=⟨j5⟩;clear HO1 BK1 BK2 BK3 HB hq_;have HO1:=n0_;have BK1:=n1_;have BK2:=n2_;have BK3:=n3_;have HB:=n4_;clear n0_ n1_ n2_ n3_ n4_))
   replace HO1:=A0_ (rd_ HO1.out);replace BK1:=A0_ (kd_ BK1.out);replace BK2:=A0_ (kd_ BK2.out);replace BK3:=A0_ (kd_ BK3.out);replace HB:=A0_ (bd_ HB.out)
   refine dd (n:=16) (S:=fun w'=>w'.cell? ⟨gb3,0,none⟩=some (.slice Ao1 t1.length co1)∧w'.cell? ⟨gb2,0,none⟩=some (.int .i64 a1_0)∧w'.cell? ⟨gb2,1,none⟩=some (.int .i64 a1_1)∧w'.cell? ⟨gb2,2,none⟩=some (.int .i64 a1_2)) (ds:=[]) #[false,false,false,false,false,false,false,false,false,false,false,false,false,false,false,false] aY rfl rfl (a1_ BK3 (c3_ BK2)) (fun hHeld=>?_);refine cu ac.tab9 ac.bits9 (fun HT_ HW_=>?_)
   generalize w5.drew=w6 at HO1 BK1 BK2 BK3 HB hHeld ⊢
   refine pu_ 1 47 ?_
   refine pu_ 5 51 ?_
   refine pu_ 6 52 ?_
   refine tk_ 0 46 hHeld ?_
   refine tk_ 2 48 hHeld ?_
   refine tk_ 7 53 hHeld ?_
   refine on_ 3 (some 49) (fun K hK=>?_)
   refine gS (w1:=?_) (v:=?_) (by rfl) rfl ?_ ?_
   rotate_left 2
   ·go_simp
    constructor
    ·rfl
    rfl
   refine hK.out _ _ ⟨(kc_ (ka_ BK3.out _) 0).trans rfl,(kc_ (ka_ BK2.out _) 0).trans rfl,(kc_ (ka_ BK2.out _) 1).trans rfl,(kc_ (ka_ BK2.out _) 2).trans rfl⟩ (fun hHeld=>?_)
   clear hK K
   refine nm_ 49 ?_
   refine on_ 4 (some 50) (fun K hK=>?_)
   refine ac.append (w0:=w) w.heap.size (by rfl) (.tmp 46) (.tmp 49) 22 3 rfl Tryz.underlying22 cW Ao1 co1 t1 a1_1 (fun _=>True) rfl rfl ?aF ?aO ?aB ?aS ?aL ?_
   (case aB=>exact aD)
   (case aF=>exact (fun _ _=>trivial))
   (case aO=>exact bx)
   (case aS=>exact (bz_ aD))
   (case aL=>have:=LMc1.out;omega)
   intro v2 w7 ho hb hg hkc_;have HKC:=A0_ hkc_;rw [← Ny1.out] at ho;have n0_:=A0_ (aJ (g:=gb1) (o:=.cells #[.int .i64 a0_0,.bool a0_1,.slice A0_2 l0_2.length c0_2,.slice A0_3 l0_3.length c0_3,.int .i64 a0_4] 32 (0,0)) (u1_ BK1) hg (Kd.R_ne HO1.out BK1.out ag));have n1_:=A0_ (aJ (g:=gb2) (o:=.cells #[.int .i64 a1_0,.int .i64 a1_1,.int .i64 a1_2] 50 (0,0)) (u1_ BK2) hg (Kd.R_ne HO1.out BK2.out ag));have n2_:=A0_ (aJ (g:=gb3) (o:=.cells #[.slice Ao1 t1.length co1] 22 (0,0)) (u1_ BK3) hg (Kd.R_ne HO1.out BK3.out ag));have n3_:=A0_ (hb);have n4_:=A0_ (ho);clear BK1 BK2 BK3 HB HO1;have BK1:=n0_;have BK2:=n1_;have BK3:=n2_;have HB:=n3_;have HO2:=n4_;clear n0_ n1_ n2_ n3_ n4_ ho hb hg hkc_
   refine hK.out _ _ (a1_ BK3 (c3_ BK2)) (fun hHeld=>?_)
   clear hK K
   refine nm_ 50 ?_
   refine on_ 8 (some 54) (fun K hK=>?_)
   refine l7 75 #[.int .i64 a1_1,.pointer (some ⟨gb1,0,none⟩),.pointer (some ⟨gb3,0,none⟩)] (by rfl) rfl ?_ ?_
   ·have he:=fun W_:World=>im (P:=Tryz.prog) Tryz.func75 aY rfl #[.int .i64 a1_1,.pointer (some ⟨gb1,0,none⟩),.pointer (some ⟨gb3,0,none⟩)] W_
    unfold execOp
    simp [resolve,Deferred.ofValue,invoke,Act.eval,he]
   with_reducible refine (bK.calls k a0_0 a0_1 A0_2 c0_2 l0_2 (.slice A0_3 l0_3.length c0_3) (.int .i64 a0_4) Ao1 co1 t1 a1_1 true gb1 gb3 _ ?_ ?_ ?_ ?_ ?_ ?_ A6.out).mono ?_
   exact bz
   exact HC0_2.out
   exact m9
   exact HCAP.out
   exact (u1_ BK1)
   exact (u1_ BK3)
   rintro e w8 ⟨rfl,hb⟩
   refine ⟨_,rfl,?_⟩
   replace HO2:=q1_ HO2 hb;replace BK1:=k1_ BK1 hb;replace BK2:=k1_ BK2 hb;replace BK3:=k1_ BK3 hb;replace HB:=hb_ hb aD
   (try clear hb)
   refine hK.out _ _ (a1_ BK3 (c3_ BK2)) (fun hHeld=>?_)
   clear hK K
   refine nm_ 54 ?_
   refine pu_ 9 55 ?_
   refine pu_ 10 56 ?_
   refine pu_ 14 4 ?_
   refine tk_ 11 57 hHeld ?_
   refine pu_ 12 58 ?_
   refine pu_ 13 59 ?_
   refine pu_ 15 5 ?_
   refine dn_ ?_
   try go_wp2
   go_ret2
   exact ⟨_,aE,cd,aD⟩
  obtain rfl:=bf_.mpr c4;rw [if_neg ft_] at H;simp only [sj_,pj_] at H;obtain ⟨rfl,rfl⟩:=H;go_enter Tryz.func52,Tryz.ntmps52
  try go_wp2_with (first|((with_reducible refine gd_ (N:=2) rfl ?_);refine bx_ 2 #[.int .i64 a0_0,.bool a0_1,.slice A0_2 l0_2.length c0_2,.slice A0_3 l0_3.length c0_3,.int .i64 a0_4] 32 ?_;intro gb1 hg w1 BK1 hb;have GW1:=ge_ hg ai;have GE1:=GW1;replace HB:=hb_ hb ai;clear hb hg)|((with_reducible refine gd_ (N:=3) rfl ?_);refine bx_ 3 #[.int .i64 a1_0,.int .i64 a1_1,.int .i64 a1_2] 50 ?_;intro gb2 hg w2 BK2 hb;have GW2:=ge_ hg aj;have GE2:=GW2;replace HB:=hb_ hb aj;obtain ⟨NB1_2,NB2_1⟩:=nn_ hg BK1;replace BK1:=k1_ BK1 hb;clear hb hg;obtain ⟨hnb1,hnc1⟩:=n2_ NB1_2;have hcz1:=z5_ BK1)|((with_reducible refine gc_ (f:=74) rfl ?_);refine gl_ 13 Tryz.func74 #[.slice A0_3 l0_3.length c0_3] ?_;(with_reducible refine (aW.calls _ _ l0_3 t1 _ ?_ ?_ A2.out).mono ?_);exact b6;exact HC0_3.out;rintro e w3 ⟨v1,rfl,ho0,hb⟩;refine ⟨_,rfl,?_⟩;have HO1:=A0_ (Kd.R_lower ho0 (bz_ au));replace BK1:=k1_ BK1 hb;replace BK2:=k1_ BK2 hb;replace HB:=hb_ hb au;(try clear hb ho0))|((with_reducible refine gd_ (N:=6) rfl ?_);refine bx_ 6 #[.slice none 0 0] 22 ?_;intro gb3 hg w4 BK3 hb;replace HO1:=q1_ HO1 hb;have GW3:=ge_ hg au;have GE3:=GW3;replace HB:=hb_ hb au;obtain ⟨NB1_3,NB3_1⟩:=nn_ hg BK1;replace BK1:=k1_ BK1 hb;obtain ⟨NB2_3,NB3_2⟩:=nn_ hg BK2;replace BK2:=k1_ BK2 hb;clear hb hg;obtain ⟨Ao1,co1,eo1⟩:=Kd.R_slice HO1.out;subst eo1;have HCAP:=A0_ ((rr_ HO1.out).2.1);obtain ⟨hnb2,hnc2⟩:=n2_ NB3_1;obtain ⟨hnb3,hnc3⟩:=n2_ NB3_2;have hcz2:=z1_ BK3;have hcz3:=z3_ BK2)|((with_reducible refine gc_ (f:=78) rfl ?_);refine gl_ 18 Tryz.func78 #[.slice Ao1 t1.length co1,.int .i64 a1_1] ?_;(with_reducible refine (ak.calls k _ _ t1 a1_1 t2 _ ?_ ?_ A4.out).mono ?_);(refine (rr_ (e:=3) (base:=w.heap.size) (ok:=fun k_=>True) (n:=t1.length) (c:=co1) ?_).2.2;exact dL);exact (rr_ HO1.out).2.1;rintro e w' ⟨rfl,⟨nd,rfl⟩⟩;refine ⟨_,rfl,?_⟩))
  have n0_:Aside0 (Kd.R (Kd.int .i64) 3 (w4.setCell ⟨gb3,0,none⟩ (.slice Ao1 t1.length co1)) w.heap.size (fun _=>True) (.slice Ao1 t1.length co1) t1):=⟨ka⟩;have n1_:Aside0 ((w4.setCell ⟨gb3,0,none⟩ (.slice Ao1 t1.length co1)).heap[gb1]?=some (.cells #[.int .i64 a0_0,.bool a0_1,.slice A0_2 l0_2.length c0_2,.slice A0_3 l0_3.length c0_3,.int .i64 a0_4] 32 (0,0))):=⟨u1_ BK1⟩;have n2_:Aside0 ((w4.setCell ⟨gb3,0,none⟩ (.slice Ao1 t1.length co1)).heap[gb2]?=some (.cells #[.int .i64 a1_0,.int .i64 a1_1,.int .i64 a1_2] 50 (0,0))):=⟨u1_ BK2⟩;have n3_:Aside0 ((w4.setCell ⟨gb3,0,none⟩ (.slice Ao1 t1.length co1)).heap[gb3]?=some (.cells #[.slice Ao1 t1.length co1] 22 (0,0))):=⟨u1_ BK3⟩;have n4_:Aside0 (Below w.heap.size w (w4.setCell ⟨gb3,0,none⟩ (.slice Ao1 t1.length co1))):=⟨aD⟩
  (try clear HO1)
  (try clear BK1)
  (try clear BK2)
  (try clear BK3)
  (try clear HB)
  generalize (w4.setCell ⟨gb3,0,none⟩ (.slice Ao1 t1.length co1))=w5 at n0_ n1_ n2_ n3_ n4_ ⊢;have HO1:=n0_;have BK1:=n1_;have BK2:=n2_;have BK3:=n3_;have HB:=n4_;clear n0_ n1_ n2_ n3_ n4_
  (try (rw [eF w5];generalize hq_:World.drewN w5 _=w5;have n0_:Aside0 (Kd.R (Kd.int .i64) 3 w5 w.heap.size (fun _=>True) (.slice Ao1 t1.length co1) t1):=⟨jU⟩;have n1_:Aside0 (w5.heap[gb1]?=some (.cells #[.int .i64 a0_0,.bool a0_1,.slice A0_2 l0_2.length c0_2,.slice A0_3 l0_3.length c0_3,.int .i64 a0_4] 32 (0,0))):=⟨by rw [← hq_];exact (u1_ BK1)⟩;have n2_:Aside0 (w5.heap[gb2]?=some (.cells #[.int .i64 a1_0,.int .i64 a1_1,.int .i64 a1_2] 50 (0,0))):=⟨by rw [← hq_];exact (u1_ BK2)⟩;have n3_:Aside0 (w5.heap[gb3]?=some (.cells #[.slice Ao1 t1.length co1] 22 (0,0))):=⟨by rw [← hq_];exact (u1_ BK3)⟩;have n4_:Aside0 (Below w.heap.size w w5):=⟨j5⟩;clear HO1 BK1 BK2 BK3 HB hq_;have HO1:=n0_;have BK1:=n1_;have BK2:=n2_;have BK3:=n3_;have HB:=n4_;clear n0_ n1_ n2_ n3_ n4_))
  replace HO1:=A0_ (rd_ HO1.out);replace BK1:=A0_ (kd_ BK1.out);replace BK2:=A0_ (kd_ BK2.out);replace BK3:=A0_ (kd_ BK3.out);replace HB:=A0_ (bd_ HB.out)
  refine dd (n:=16) (S:=fun w'=>w'.cell? ⟨gb3,0,none⟩=some (.slice Ao1 t1.length co1)∧w'.cell? ⟨gb2,0,none⟩=some (.int .i64 a1_0)∧w'.cell? ⟨gb2,1,none⟩=some (.int .i64 a1_1)∧w'.cell? ⟨gb2,2,none⟩=some (.int .i64 a1_2)) (ds:=[]) #[false,false,false,false,false,false,false,false,false,false,false,false,false,false,false,false] aY rfl rfl (a1_ BK3 (c3_ BK2)) (fun hHeld=>?_);refine cu ac.tab9 ac.bits9 (fun HT_ HW_=>?_)
  generalize w5.drew=w6 at HO1 BK1 BK2 BK3 HB hHeld ⊢
  refine pu_ 1 47 ?_
  refine pu_ 5 51 ?_
  refine pu_ 6 52 ?_
  refine tk_ 0 46 hHeld ?_
  refine tk_ 2 48 hHeld ?_
  refine tk_ 7 53 hHeld ?_
  refine on_ 3 (some 49) (fun K hK=>?_)
  refine gS (w1:=?_) (v:=?_) (by rfl) rfl ?_ ?_
  rotate_left 2
  ·go_simp
   constructor
   ·rfl
   rfl
  refine hK.out _ _ ⟨(kc_ (ka_ BK3.out _) 0).trans rfl,(kc_ (ka_ BK2.out _) 0).trans rfl,(kc_ (ka_ BK2.out _) 1).trans rfl,(kc_ (ka_ BK2.out _) 2).trans rfl⟩ (fun hHeld=>?_)
  clear hK K
  refine nm_ 49 ?_
  refine on_ 4 (some 50) (fun K hK=>?_)
  refine ac.append (w0:=w) w.heap.size (by rfl) (.tmp 46) (.tmp 49) 22 3 rfl Tryz.underlying22 cW Ao1 co1 t1 a1_1 (fun _=>True) rfl rfl ?aF ?aO ?aB ?aS ?aL ?_
  (case aB=>exact aD)
  (case aF=>exact (fun _ _=>trivial))
  (case aO=>exact bx)
  (case aS=>exact (bz_ aD))
  (case aL=>have:=LMc1.out;omega)
  intro v2 w7 ho hb hg hkc_;have HKC:=A0_ hkc_;rw [← Ny1.out] at ho;have n0_:=A0_ (aJ (g:=gb1) (o:=.cells #[.int .i64 a0_0,.bool a0_1,.slice A0_2 l0_2.length c0_2,.slice A0_3 l0_3.length c0_3,.int .i64 a0_4] 32 (0,0)) (u1_ BK1) hg (Kd.R_ne HO1.out BK1.out ag));have n1_:=A0_ (aJ (g:=gb2) (o:=.cells #[.int .i64 a1_0,.int .i64 a1_1,.int .i64 a1_2] 50 (0,0)) (u1_ BK2) hg (Kd.R_ne HO1.out BK2.out ag));have n2_:=A0_ (aJ (g:=gb3) (o:=.cells #[.slice Ao1 t1.length co1] 22 (0,0)) (u1_ BK3) hg (Kd.R_ne HO1.out BK3.out ag));have n3_:=A0_ (hb);have n4_:=A0_ (ho);clear BK1 BK2 BK3 HB HO1;have BK1:=n0_;have BK2:=n1_;have BK3:=n2_;have HB:=n3_;have HO2:=n4_;clear n0_ n1_ n2_ n3_ n4_ ho hb hg hkc_
  refine hK.out _ _ (a1_ BK3 (c3_ BK2)) (fun hHeld=>?_)
  clear hK K
  refine nm_ 50 ?_
  refine on_ 8 (some 54) (fun K hK=>?_)
  refine l7 75 #[.int .i64 a1_1,.pointer (some ⟨gb1,0,none⟩),.pointer (some ⟨gb3,0,none⟩)] (by rfl) rfl ?_ ?_
  ·have he:=fun W_:World=>im (P:=Tryz.prog) Tryz.func75 aY rfl #[.int .i64 a1_1,.pointer (some ⟨gb1,0,none⟩),.pointer (some ⟨gb3,0,none⟩)] W_
   unfold execOp
   simp [resolve,Deferred.ofValue,invoke,Act.eval,he]
  with_reducible refine (bK.calls k a0_0 a0_1 A0_2 c0_2 l0_2 (.slice A0_3 l0_3.length c0_3) (.int .i64 a0_4) Ao1 co1 t1 a1_1 false gb1 gb3 _ ?_ ?_ ?_ ?_ ?_ ?_ A6.out).mono ?_
  exact bz
  exact HC0_2.out
  exact m9
  exact HCAP.out
  exact (u1_ BK1)
  exact (u1_ BK3)
  rintro e w8 ⟨rfl,hb⟩
  refine ⟨_,rfl,?_⟩
  replace HO2:=q1_ HO2 hb;replace BK1:=k1_ BK1 hb;replace BK2:=k1_ BK2 hb;replace BK3:=k1_ BK3 hb;replace HB:=hb_ hb aD
  (try clear hb)
  refine hK.out _ _ (a1_ BK3 (c3_ BK2)) (fun hHeld=>?_)
  clear hK K
  refine nm_ 54 ?_
  refine pu_ 9 55 ?_
  refine pv_ 10 56 ?_
  refine pv_ 11 57 ?_
  refine pv_ 12 58 ?_
  refine pu_ 13 59 ?_
  refine pu_ 14 4 ?_
  refine pu_ 15 5 ?_
  refine dn_ ?_
  try go_wp2
  go_ret2
  exact ⟨_,aE,cd,aD⟩
 rw [if_neg c2] at H;obtain ⟨c2b0,c2b1⟩:=ef_ c2
 by_cases c3:a1_0=3
 ·rw [if_pos c3] at H
  obtain ⟨c3b0,c3b1⟩:=et_ c3;clear c3
  by_cases c4:t2<0
  ·rw [if_pos c4] at H
   have c4b0:decide (t2<0)=true:=dt_ c4;clear c4;simp only [sj_,pj_] at H;obtain ⟨rfl,rfl⟩:=H;go_enter Tryz.func52,Tryz.ntmps52
   go_wp2_with (first|((with_reducible refine gd_ (N:=2) rfl ?_);refine bx_ 2 #[.int .i64 a0_0,.bool a0_1,.slice A0_2 l0_2.length c0_2,.slice A0_3 l0_3.length c0_3,.int .i64 a0_4] 32 ?_;intro gb1 hg w1 BK1 hb;have GW1:=ge_ hg ai;have GE1:=GW1;replace HB:=hb_ hb ai;clear hb hg)|((with_reducible refine gd_ (N:=3) rfl ?_);refine bx_ 3 #[.int .i64 a1_0,.int .i64 a1_1,.int .i64 a1_2] 50 ?_;intro gb2 hg w2 BK2 hb;have GW2:=ge_ hg aj;have GE2:=GW2;replace HB:=hb_ hb aj;obtain ⟨NB1_2,NB2_1⟩:=nn_ hg BK1;replace BK1:=k1_ BK1 hb;clear hb hg;obtain ⟨hnb1,hnc1⟩:=n2_ NB1_2;have hcz1:=z5_ BK1)|((with_reducible refine gc_ (f:=74) rfl ?_);refine gl_ 13 Tryz.func74 #[.slice A0_3 l0_3.length c0_3] ?_;(with_reducible refine (aW.calls _ _ l0_3 t1 _ ?_ ?_ A2.out).mono ?_);exact b6;exact HC0_3.out;rintro e w3 ⟨v1,rfl,ho0,hb⟩;refine ⟨_,rfl,?_⟩;have HO1:=A0_ (Kd.R_lower ho0 (bz_ au));replace BK1:=k1_ BK1 hb;replace BK2:=k1_ BK2 hb;replace HB:=hb_ hb au;(try clear hb ho0))|((with_reducible refine gd_ (N:=6) rfl ?_);refine bx_ 6 #[.slice none 0 0] 22 ?_;intro gb3 hg w4 BK3 hb;replace HO1:=q1_ HO1 hb;have GW3:=ge_ hg au;have GE3:=GW3;replace HB:=hb_ hb au;obtain ⟨NB1_3,NB3_1⟩:=nn_ hg BK1;replace BK1:=k1_ BK1 hb;obtain ⟨NB2_3,NB3_2⟩:=nn_ hg BK2;replace BK2:=k1_ BK2 hb;clear hb hg;obtain ⟨Ao1,co1,eo1⟩:=Kd.R_slice HO1.out;subst eo1;have HCAP:=A0_ ((rr_ HO1.out).2.1);obtain ⟨hnb2,hnc2⟩:=n2_ NB3_1;obtain ⟨hnb3,hnc3⟩:=n2_ NB3_2;have hcz2:=z1_ BK3;have hcz3:=z3_ BK2)|((with_reducible refine gc_ (f:=78) rfl ?_);refine gl_ 18 Tryz.func78 #[.slice Ao1 t1.length co1,.int .i64 a1_1] ?_;(with_reducible refine (ak.calls k _ _ t1 a1_1 t2 _ ?_ ?_ A4.out).mono ?_);(refine (rr_ (e:=3) (base:=w.heap.size) (ok:=fun k_=>True) (n:=t1.length) (c:=co1) ?_).2.2;exact dL);exact (rr_ HO1.out).2.1;rintro e w' ⟨rfl,⟨nd,rfl⟩⟩;refine ⟨_,rfl,?_⟩))
   go_ret2
   exact ⟨_,aE,dF,aD⟩
  rw [if_neg c4] at H;have c4b0:decide (t2<0)=false:=decide_eq_false c4;clear c4;obtain ⟨t4,A6,H⟩:=o1_ H;replace H:(some (t4,(a1_2 == 0)))=some (r1,r2):=H;simp only [sj_,pj_] at H;obtain ⟨rfl,rfl⟩:=H;go_enter Tryz.func52,Tryz.ntmps52
  try go_wp2_with (first|((with_reducible refine gd_ (N:=2) rfl ?_);refine bx_ 2 #[.int .i64 a0_0,.bool a0_1,.slice A0_2 l0_2.length c0_2,.slice A0_3 l0_3.length c0_3,.int .i64 a0_4] 32 ?_;intro gb1 hg w1 BK1 hb;have GW1:=ge_ hg ai;have GE1:=GW1;replace HB:=hb_ hb ai;clear hb hg)|((with_reducible refine gd_ (N:=3) rfl ?_);refine bx_ 3 #[.int .i64 a1_0,.int .i64 a1_1,.int .i64 a1_2] 50 ?_;intro gb2 hg w2 BK2 hb;have GW2:=ge_ hg aj;have GE2:=GW2;replace HB:=hb_ hb aj;obtain ⟨NB1_2,NB2_1⟩:=nn_ hg BK1;replace BK1:=k1_ BK1 hb;clear hb hg;obtain ⟨hnb1,hnc1⟩:=n2_ NB1_2;have hcz1:=z5_ BK1)|((with_reducible refine gc_ (f:=74) rfl ?_);refine gl_ 13 Tryz.func74 #[.slice A0_3 l0_3.length c0_3] ?_;(with_reducible refine (aW.calls _ _ l0_3 t1 _ ?_ ?_ A2.out).mono ?_);exact b6;exact HC0_3.out;rintro e w3 ⟨v1,rfl,ho0,hb⟩;refine ⟨_,rfl,?_⟩;have HO1:=A0_ (Kd.R_lower ho0 (bz_ au));replace BK1:=k1_ BK1 hb;replace BK2:=k1_ BK2 hb;replace HB:=hb_ hb au;(try clear hb ho0))|((with_reducible refine gd_ (N:=6) rfl ?_);refine bx_ 6 #[.slice none 0 0] 22 ?_;intro gb3 hg w4 BK3 hb;replace HO1:=q1_ HO1 hb;have GW3:=ge_ hg au;have GE3:=GW3;replace HB:=hb_ hb au;obtain ⟨NB1_3,NB3_1⟩:=nn_ hg BK1;replace BK1:=k1_ BK1 hb;obtain ⟨NB2_3,NB3_2⟩:=nn_ hg BK2;replace BK2:=k1_ BK2 hb;clear hb hg;obtain ⟨Ao1,co1,eo1⟩:=Kd.R_slice HO1.out;subst eo1;have HCAP:=A0_ ((rr_ HO1.out).2.1);obtain ⟨hnb2,hnc2⟩:=n2_ NB3_1;obtain ⟨hnb3,hnc3⟩:=n2_ NB3_2;have hcz2:=z1_ BK3;have hcz3:=z3_ BK2)|((with_reducible refine gc_ (f:=78) rfl ?_);refine gl_ 18 Tryz.func78 #[.slice Ao1 t1.length co1,.int .i64 a1_1] ?_;(with_reducible refine (ak.calls k _ _ t1 a1_1 t2 _ ?_ ?_ A4.out).mono ?_);(refine (rr_ (e:=3) (base:=w.heap.size) (ok:=fun k_=>True) (n:=t1.length) (c:=co1) ?_).2.2;exact dL);exact (rr_ HO1.out).2.1;rintro e w' ⟨rfl,⟨nd,rfl⟩⟩;refine ⟨_,rfl,?_⟩))
  have n0_:Aside0 (Kd.R (Kd.int .i64) 3 (w4.setCell ⟨gb3,0,none⟩ (.slice Ao1 t1.length co1)) w.heap.size (fun _=>True) (.slice Ao1 t1.length co1) t1):=⟨ka⟩;have n1_:Aside0 ((w4.setCell ⟨gb3,0,none⟩ (.slice Ao1 t1.length co1)).heap[gb1]?=some (.cells #[.int .i64 a0_0,.bool a0_1,.slice A0_2 l0_2.length c0_2,.slice A0_3 l0_3.length c0_3,.int .i64 a0_4] 32 (0,0))):=⟨u1_ BK1⟩;have n2_:Aside0 ((w4.setCell ⟨gb3,0,none⟩ (.slice Ao1 t1.length co1)).heap[gb2]?=some (.cells #[.int .i64 a1_0,.int .i64 a1_1,.int .i64 a1_2] 50 (0,0))):=⟨u1_ BK2⟩;have n3_:Aside0 ((w4.setCell ⟨gb3,0,none⟩ (.slice Ao1 t1.length co1)).heap[gb3]?=some (.cells #[.slice Ao1 t1.length co1] 22 (0,0))):=⟨u1_ BK3⟩;have n4_:Aside0 (Below w.heap.size w (w4.setCell ⟨gb3,0,none⟩ (.slice Ao1 t1.length co1))):=⟨aD⟩
  (try clear HO1)
  (try clear BK1)
  (try clear BK2)
  (try clear BK3)
  (try clear HB)
  generalize (w4.setCell ⟨gb3,0,none⟩ (.slice Ao1 t1.length co1))=w5 at n0_ n1_ n2_ n3_ n4_ ⊢;have HO1:=n0_;have BK1:=n1_;have BK2:=n2_;have BK3:=n3_;have HB:=n4_;clear n0_ n1_ n2_ n3_ n4_
  (try (rw [eF w5];generalize hq_:World.drewN w5 _=w5;have n0_:Aside0 (Kd.R (Kd.int .i64) 3 w5 w.heap.size (fun _=>True) (.slice Ao1 t1.length co1) t1):=⟨jU⟩;have n1_:Aside0 (w5.heap[gb1]?=some (.cells #[.int .i64 a0_0,.bool a0_1,.slice A0_2 l0_2.length c0_2,.slice A0_3 l0_3.length c0_3,.int .i64 a0_4] 32 (0,0))):=⟨by rw [← hq_];exact (u1_ BK1)⟩;have n2_:Aside0 (w5.heap[gb2]?=some (.cells #[.int .i64 a1_0,.int .i64 a1_1,.int .i64 a1_2] 50 (0,0))):=⟨by rw [← hq_];exact (u1_ BK2)⟩;have n3_:Aside0 (w5.heap[gb3]?=some (.cells #[.slice Ao1 t1.length co1] 22 (0,0))):=⟨by rw [← hq_];exact (u1_ BK3)⟩;have n4_:Aside0 (Below w.heap.size w w5):=⟨j5⟩;clear HO1 BK1 BK2 BK3 HB hq_;have HO1:=n0_;have BK1:=n1_;have BK2:=n2_;have BK3:=n3_;have HB:=n4_;clear n0_ n1_ n2_ n3_ n4_))
  replace HO1:=A0_ (rd_ HO1.out);replace BK1:=A0_ (kd_ BK1.out);replace BK2:=A0_ (kd_ BK2.out);replace BK3:=A0_ (kd_ BK3.out);replace HB:=A0_ (bd_ HB.out)
  refine dd (n:=10) (S:=fun w'=>w'.cell? ⟨gb3,0,none⟩=some (.slice Ao1 t1.length co1)∧w'.cell? ⟨gb2,0,none⟩=some (.int .i64 a1_0)∧w'.cell? ⟨gb2,1,none⟩=some (.int .i64 a1_1)∧w'.cell? ⟨gb2,2,none⟩=some (.int .i64 a1_2)) (ds:=[]) #[false,false,false,false,false,false,false,false,false,false] aY rfl rfl (a1_ BK3 (c3_ BK2)) (fun hHeld=>?_);refine cu ac.tab13 ac.bits13 (fun HT_ HW_=>?_)
  generalize w5.drew=w6 at HO1 BK1 BK2 BK3 HB hHeld ⊢
  refine pu_ 1 65 ?_
  refine pu_ 2 66 ?_
  refine pu_ 3 67 ?_
  refine pu_ 5 69 ?_
  refine tk_ 0 64 hHeld ?_
  refine tk_ 6 70 hHeld ?_
  refine pu_ 7 71 ?_
  refine on_ 4 (some 68) (fun K hK=>?_)
  refine gs_ Tryz.func79 #[.slice Ao1 t1.length co1,.int .i64 t2,.int .i64 (wrap64 (t2+1))] ?_
  with_reducible refine (bj.own Ao1 co1 t1 t2 (wrap64 (t2+1)) t4 _ w.heap.size (fun _=>True) bx A6.out).mono ?_
  rintro e w7 ⟨rfl,ho0,hg⟩
  refine ⟨_,rfl,?_⟩
  have HO2:=A0_ ho0;replace BK1:=A0_ (aJ (g:=gb1) (o:=.cells #[.int .i64 a0_0,.bool a0_1,.slice A0_2 l0_2.length c0_2,.slice A0_3 l0_3.length c0_3,.int .i64 a0_4] 32 (0,0)) (u1_ BK1) hg (Kd.R_ne HO1.out BK1.out ag));replace BK2:=A0_ (aJ (g:=gb2) (o:=.cells #[.int .i64 a1_0,.int .i64 a1_1,.int .i64 a1_2] 50 (0,0)) (u1_ BK2) hg (Kd.R_ne HO1.out BK2.out ag));replace BK3:=A0_ (aJ (g:=gb3) (o:=.cells #[.slice Ao1 t1.length co1] 22 (0,0)) (u1_ BK3) hg (Kd.R_ne HO1.out BK3.out ag));replace HB:=A0_ (Below.grown HB.out hg (bz_ HB.out) (by obtain ⟨_,inner_,ho_,_⟩:=HO1.out;exact d3 ho_));replace HO1:=A0_ ho0
  (try clear hg)
  (try clear hb2)
  (try clear hk)
  (try clear hi)
  (try clear ho0)
  refine hK.out _ _ (a1_ BK3 (c3_ BK2)) (fun hHeld=>?_)
  clear hK K
  refine nm_ 68 ?_
  refine pu_ 8 4 ?_
  refine pu_ 9 5 ?_
  refine dn_ ?_
  try go_wp2
  go_ret2
  exact ⟨_,aE,lX,aD⟩
 rw [if_neg c3] at H;obtain ⟨c3b0,c3b1⟩:=ef_ c3
 by_cases c4:a1_0=4
 ·rw [if_pos c4] at H
  obtain ⟨c4b0,c4b1⟩:=et_ c4;clear c4
  by_cases c5:t2<0
  ·rw [if_pos c5] at H
   have c5b0:decide (t2<0)=true:=dt_ c5;clear c5;simp only [sj_,pj_] at H;obtain ⟨rfl,rfl⟩:=H;go_enter Tryz.func52,Tryz.ntmps52
   go_wp2_with (first|((with_reducible refine gd_ (N:=2) rfl ?_);refine bx_ 2 #[.int .i64 a0_0,.bool a0_1,.slice A0_2 l0_2.length c0_2,.slice A0_3 l0_3.length c0_3,.int .i64 a0_4] 32 ?_;intro gb1 hg w1 BK1 hb;have GW1:=ge_ hg ai;have GE1:=GW1;replace HB:=hb_ hb ai;clear hb hg)|((with_reducible refine gd_ (N:=3) rfl ?_);refine bx_ 3 #[.int .i64 a1_0,.int .i64 a1_1,.int .i64 a1_2] 50 ?_;intro gb2 hg w2 BK2 hb;have GW2:=ge_ hg aj;have GE2:=GW2;replace HB:=hb_ hb aj;obtain ⟨NB1_2,NB2_1⟩:=nn_ hg BK1;replace BK1:=k1_ BK1 hb;clear hb hg;obtain ⟨hnb1,hnc1⟩:=n2_ NB1_2;have hcz1:=z5_ BK1)|((with_reducible refine gc_ (f:=74) rfl ?_);refine gl_ 13 Tryz.func74 #[.slice A0_3 l0_3.length c0_3] ?_;(with_reducible refine (aW.calls _ _ l0_3 t1 _ ?_ ?_ A2.out).mono ?_);exact b6;exact HC0_3.out;rintro e w3 ⟨v1,rfl,ho0,hb⟩;refine ⟨_,rfl,?_⟩;have HO1:=A0_ (Kd.R_lower ho0 (bz_ au));replace BK1:=k1_ BK1 hb;replace BK2:=k1_ BK2 hb;replace HB:=hb_ hb au;(try clear hb ho0))|((with_reducible refine gd_ (N:=6) rfl ?_);refine bx_ 6 #[.slice none 0 0] 22 ?_;intro gb3 hg w4 BK3 hb;replace HO1:=q1_ HO1 hb;have GW3:=ge_ hg au;have GE3:=GW3;replace HB:=hb_ hb au;obtain ⟨NB1_3,NB3_1⟩:=nn_ hg BK1;replace BK1:=k1_ BK1 hb;obtain ⟨NB2_3,NB3_2⟩:=nn_ hg BK2;replace BK2:=k1_ BK2 hb;clear hb hg;obtain ⟨Ao1,co1,eo1⟩:=Kd.R_slice HO1.out;subst eo1;have HCAP:=A0_ ((rr_ HO1.out).2.1);obtain ⟨hnb2,hnc2⟩:=n2_ NB3_1;obtain ⟨hnb3,hnc3⟩:=n2_ NB3_2;have hcz2:=z1_ BK3;have hcz3:=z3_ BK2)|((with_reducible refine gc_ (f:=78) rfl ?_);refine gl_ 18 Tryz.func78 #[.slice Ao1 t1.length co1,.int .i64 a1_1] ?_;(with_reducible refine (ak.calls k _ _ t1 a1_1 t2 _ ?_ ?_ A4.out).mono ?_);(refine (rr_ (e:=3) (base:=w.heap.size) (ok:=fun k_=>True) (n:=t1.length) (c:=co1) ?_).2.2;exact dL);exact (rr_ HO1.out).2.1;rintro e w' ⟨rfl,⟨nd,rfl⟩⟩;refine ⟨_,rfl,?_⟩))
   go_ret2
   exact ⟨_,aE,dF,aD⟩
  rw [if_neg c5] at H;have c5b0:decide (t2<0)=false:=decide_eq_false c5;clear c5;obtain ⟨t5,A6,H⟩:=o1_ H
  by_cases c6:t5=true
  case neg =>
   obtain rfl:=bf_.mpr c6;rw [if_neg ft_] at H;simp only [sj_,pj_] at H;obtain ⟨rfl,rfl⟩:=H;go_enter Tryz.func52,Tryz.ntmps52
   go_wp2_with (first|((with_reducible refine gd_ (N:=2) rfl ?_);refine bx_ 2 #[.int .i64 a0_0,.bool a0_1,.slice A0_2 l0_2.length c0_2,.slice A0_3 l0_3.length c0_3,.int .i64 a0_4] 32 ?_;intro gb1 hg w1 BK1 hb;have GW1:=ge_ hg ai;have GE1:=GW1;replace HB:=hb_ hb ai;clear hb hg)|((with_reducible refine gd_ (N:=3) rfl ?_);refine bx_ 3 #[.int .i64 a1_0,.int .i64 a1_1,.int .i64 a1_2] 50 ?_;intro gb2 hg w2 BK2 hb;have GW2:=ge_ hg aj;have GE2:=GW2;replace HB:=hb_ hb aj;obtain ⟨NB1_2,NB2_1⟩:=nn_ hg BK1;replace BK1:=k1_ BK1 hb;clear hb hg;obtain ⟨hnb1,hnc1⟩:=n2_ NB1_2;have hcz1:=z5_ BK1)|((with_reducible refine gc_ (f:=74) rfl ?_);refine gl_ 13 Tryz.func74 #[.slice A0_3 l0_3.length c0_3] ?_;(with_reducible refine (aW.calls _ _ l0_3 t1 _ ?_ ?_ A2.out).mono ?_);exact b6;exact HC0_3.out;rintro e w3 ⟨v1,rfl,ho0,hb⟩;refine ⟨_,rfl,?_⟩;have HO1:=A0_ (Kd.R_lower ho0 (bz_ au));replace BK1:=k1_ BK1 hb;replace BK2:=k1_ BK2 hb;replace HB:=hb_ hb au;(try clear hb ho0))|((with_reducible refine gd_ (N:=6) rfl ?_);refine bx_ 6 #[.slice none 0 0] 22 ?_;intro gb3 hg w4 BK3 hb;replace HO1:=q1_ HO1 hb;have GW3:=ge_ hg au;have GE3:=GW3;replace HB:=hb_ hb au;obtain ⟨NB1_3,NB3_1⟩:=nn_ hg BK1;replace BK1:=k1_ BK1 hb;obtain ⟨NB2_3,NB3_2⟩:=nn_ hg BK2;replace BK2:=k1_ BK2 hb;clear hb hg;obtain ⟨Ao1,co1,eo1⟩:=Kd.R_slice HO1.out;subst eo1;have HCAP:=A0_ ((rr_ HO1.out).2.1);obtain ⟨hnb2,hnc2⟩:=n2_ NB3_1;obtain ⟨hnb3,hnc3⟩:=n2_ NB3_2;have hcz2:=z1_ BK3;have hcz3:=z3_ BK2)|((with_reducible refine gc_ (f:=78) rfl ?_);refine gl_ 18 Tryz.func78 #[.slice Ao1 t1.length co1,.int .i64 a1_1] ?_;(with_reducible refine (ak.calls k _ _ t1 a1_1 t2 _ ?_ ?_ A4.out).mono ?_);(refine (rr_ (e:=3) (base:=w.heap.size) (ok:=fun k_=>True) (n:=t1.length) (c:=co1) ?_).2.2;exact dL);exact (rr_ HO1.out).2.1;rintro e w' ⟨rfl,⟨nd,rfl⟩⟩;refine ⟨_,rfl,?_⟩)|(go_at_call 75;(with_reducible refine (bK.calls k a0_0 a0_1 A0_2 c0_2 l0_2 (.slice A0_3 l0_3.length c0_3) (.int .i64 a0_4) Ao1 co1 t1 a1_2 false gb1 gb3 _ ?_ ?_ ?_ ?_ ?_ ?_ A6.out).mono ?_);exact cb_ HR0_2.out aD;exact HC0_2.out;(refine (rr_ (e:=3) (base:=w.heap.size) (ok:=fun k_=>True) (n:=t1.length) (c:=co1) ?_).2.2;exact dL);exact HCAP.out;exact (u1_ BK1);exact (u1_ BK3);rintro e w5 ⟨rfl,hb⟩;replace HO1:=A0_ (Kd.R_below dL hb);replace BK1:=k1_ BK1 hb;replace BK2:=k1_ BK2 hb;replace BK3:=k2_ (.cells #[.slice Ao1 t1.length co1] 22 (0,0)) BK3 hb;replace HB:=hb_ hb aD;(try clear hb)))
   go_ret2
   exact ⟨_,aE,dF,aD⟩
  subst c6;rw [if_pos rfl] at H;obtain ⟨c7b0,H⟩:=i1_ H;obtain ⟨c8b0,H⟩:=i1_ H;obtain ⟨y4,hy1⟩:∃ y_:List Int,y_=(t1.set (t2:Int).toNat a1_2):=⟨_,rfl⟩;replace H:(some (y4,true))=some (r1,r2):=dx;have Ny1:=A0_ hy1;clear hy1;simp only [sj_,pj_] at H;obtain ⟨rfl,rfl⟩:=H;go_enter Tryz.func52,Tryz.ntmps52
  go_wp2_with (first|((with_reducible refine gd_ (N:=2) rfl ?_);refine bx_ 2 #[.int .i64 a0_0,.bool a0_1,.slice A0_2 l0_2.length c0_2,.slice A0_3 l0_3.length c0_3,.int .i64 a0_4] 32 ?_;intro gb1 hg w1 BK1 hb;have GW1:=ge_ hg ai;have GE1:=GW1;replace HB:=hb_ hb ai;clear hb hg)|((with_reducible refine gd_ (N:=3) rfl ?_);refine bx_ 3 #[.int .i64 a1_0,.int .i64 a1_1,.int .i64 a1_2] 50 ?_;intro gb2 hg w2 BK2 hb;have GW2:=ge_ hg aj;have GE2:=GW2;replace HB:=hb_ hb aj;obtain ⟨NB1_2,NB2_1⟩:=nn_ hg BK1;replace BK1:=k1_ BK1 hb;clear hb hg;obtain ⟨hnb1,hnc1⟩:=n2_ NB1_2;have hcz1:=z5_ BK1)|((with_reducible refine gc_ (f:=74) rfl ?_);refine gl_ 13 Tryz.func74 #[.slice A0_3 l0_3.length c0_3] ?_;(with_reducible refine (aW.calls _ _ l0_3 t1 _ ?_ ?_ A2.out).mono ?_);exact b6;exact HC0_3.out;rintro e w3 ⟨v1,rfl,ho0,hb⟩;refine ⟨_,rfl,?_⟩;have HO1:=A0_ (Kd.R_lower ho0 (bz_ au));replace BK1:=k1_ BK1 hb;replace BK2:=k1_ BK2 hb;replace HB:=hb_ hb au;(try clear hb ho0))|((with_reducible refine gd_ (N:=6) rfl ?_);refine bx_ 6 #[.slice none 0 0] 22 ?_;intro gb3 hg w4 BK3 hb;replace HO1:=q1_ HO1 hb;have GW3:=ge_ hg au;have GE3:=GW3;replace HB:=hb_ hb au;obtain ⟨NB1_3,NB3_1⟩:=nn_ hg BK1;replace BK1:=k1_ BK1 hb;obtain ⟨NB2_3,NB3_2⟩:=nn_ hg BK2;replace BK2:=k1_ BK2 hb;clear hb hg;obtain ⟨Ao1,co1,eo1⟩:=Kd.R_slice HO1.out;subst eo1;have HCAP:=A0_ ((rr_ HO1.out).2.1);obtain ⟨hnb2,hnc2⟩:=n2_ NB3_1;obtain ⟨hnb3,hnc3⟩:=n2_ NB3_2;have hcz2:=z1_ BK3;have hcz3:=z3_ BK2)|((with_reducible refine gc_ (f:=78) rfl ?_);refine gl_ 18 Tryz.func78 #[.slice Ao1 t1.length co1,.int .i64 a1_1] ?_;(with_reducible refine (ak.calls k _ _ t1 a1_1 t2 _ ?_ ?_ A4.out).mono ?_);(refine (rr_ (e:=3) (base:=w.heap.size) (ok:=fun k_=>True) (n:=t1.length) (c:=co1) ?_).2.2;exact dL);exact (rr_ HO1.out).2.1;rintro e w' ⟨rfl,⟨nd,rfl⟩⟩;refine ⟨_,rfl,?_⟩)|(go_at_call 75;(with_reducible refine (bK.calls k a0_0 a0_1 A0_2 c0_2 l0_2 (.slice A0_3 l0_3.length c0_3) (.int .i64 a0_4) Ao1 co1 t1 a1_2 true gb1 gb3 _ ?_ ?_ ?_ ?_ ?_ ?_ A6.out).mono ?_);exact cb_ HR0_2.out aD;exact HC0_2.out;(refine (rr_ (e:=3) (base:=w.heap.size) (ok:=fun k_=>True) (n:=t1.length) (c:=co1) ?_).2.2;exact dL);exact HCAP.out;exact (u1_ BK1);exact (u1_ BK3);rintro e w5 ⟨rfl,hb⟩;replace HO1:=A0_ (Kd.R_below dL hb);replace BK1:=k1_ BK1 hb;replace BK2:=k1_ BK2 hb;replace BK3:=k2_ (.cells #[.slice Ao1 t1.length co1] 22 (0,0)) BK3 hb;replace HB:=hb_ hb aD;(try clear hb);have hcz4:=z1_ BK3;have hcz5:=z3_ BK2;have p1:0≤(t2:Int):=od_ ay;have q1:(t2:Int)<((t1.length:Int):Int):=od_ ay;obtain ⟨go134,co2,eo2,gb4,gl134,cl134,HG134⟩:=Kd.R_form HO1.out bm;(first|cases eo2|(injection eo2 with ea_ en_ ec_;(first|subst ea_|(injection ea_ with ea_;subst ea_));subst ec_;clear en_));have GB134:=A0_ gb4;have GG134:=A0_ HG134;clear gb4 gl134 HG134;obtain ⟨hx1_0,hf1_0⟩:=Kd.R_celln 0 HO1.out (t2:Int) p1 q1;replace p1:=eq_true p1;replace q1:=eq_true q1;obtain ⟨hy2_,hz149_⟩:=Kd.R_celln 0 HO1.out (t2:Int) (od_ ay) (od_ ay);have HP1:=Kd.R_putg HO1.out (t2:Int) a1_2)|((with_reducible refine ky (t:=3) (p:=87) rfl ?_);refine kb (t:=3) (p:=87) (v:=?vo_w150) (w1:=(w5.setCell ⟨go134,(t2:Int).toNat,none⟩ (.int .i64 a1_2))) ?hg ?ho ?hn ?hr ?_;(case ho=>rfl);(case hg=>rfl);(case hn=>rfl);(case hr=>go_simp;first|done|rfl);intro w6 hw;have hg:w5.grownBy w6 (some go134):=(by rw [hw];exact HP1.2);have hp_:Kd.R (Kd.int .i64) 3 w6 w.heap.size (fun _=>True) (.slice (some ⟨go134,0,none⟩) t1.length co1) y4:=(by rw [hw,Ny1.out];exact HP1.1);clear HP1;replace BK1:=A0_ (aJ (g:=gb1) (o:=.cells #[.int .i64 a0_0,.bool a0_1,.slice A0_2 l0_2.length c0_2,.slice A0_3 l0_3.length c0_3,.int .i64 a0_4] 32 (0,0)) (u1_ BK1) hg (Kd.R_ne HO1.out BK1.out ag));replace BK2:=A0_ (aJ (g:=gb2) (o:=.cells #[.int .i64 a1_0,.int .i64 a1_1,.int .i64 a1_2] 50 (0,0)) (u1_ BK2) hg (Kd.R_ne HO1.out BK2.out ag));replace BK3:=A0_ (aJ (g:=gb3) (o:=.cells #[.slice (some ⟨go134,0,none⟩) t1.length co1] 22 (0,0)) (u1_ BK3) hg (Kd.R_ne HO1.out BK3.out ag));replace HO1:=A0_ (hp_);replace HB:=A0_ ((by rw [hw];exact bs_ (HB.out) GB134.out:Below w.heap.size w w6));clear hg hw hp_;have hcz6:=z1_ BK3))
  go_ret2
  exact ⟨_,aE,bx,aD⟩
 rw [if_neg c4] at H;obtain ⟨c4b0,c4b1⟩:=ef_ c4
 by_cases c5:a1_0=5
 case neg =>
  rw [if_neg c5] at H;obtain ⟨c5b0,c5b1⟩:=ef_ c5;simp only [sj_,pj_] at H;obtain ⟨rfl,rfl⟩:=H;go_enter Tryz.func52,Tryz.ntmps52
  go_wp2_with (first|((with_reducible refine gd_ (N:=2) rfl ?_);refine bx_ 2 #[.int .i64 a0_0,.bool a0_1,.slice A0_2 l0_2.length c0_2,.slice A0_3 l0_3.length c0_3,.int .i64 a0_4] 32 ?_;intro gb1 hg w1 BK1 hb;have GW1:=ge_ hg ai;have GE1:=GW1;replace HB:=hb_ hb ai;clear hb hg)|((with_reducible refine gd_ (N:=3) rfl ?_);refine bx_ 3 #[.int .i64 a1_0,.int .i64 a1_1,.int .i64 a1_2] 50 ?_;intro gb2 hg w2 BK2 hb;have GW2:=ge_ hg aj;have GE2:=GW2;replace HB:=hb_ hb aj;obtain ⟨NB1_2,NB2_1⟩:=nn_ hg BK1;replace BK1:=k1_ BK1 hb;clear hb hg;obtain ⟨hnb1,hnc1⟩:=n2_ NB1_2;have hcz1:=z5_ BK1)|((with_reducible refine gc_ (f:=74) rfl ?_);refine gl_ 13 Tryz.func74 #[.slice A0_3 l0_3.length c0_3] ?_;(with_reducible refine (aW.calls _ _ l0_3 t1 _ ?_ ?_ A2.out).mono ?_);exact b6;exact HC0_3.out;rintro e w3 ⟨v1,rfl,ho0,hb⟩;refine ⟨_,rfl,?_⟩;have HO1:=A0_ (Kd.R_lower ho0 (bz_ au));replace BK1:=k1_ BK1 hb;replace BK2:=k1_ BK2 hb;replace HB:=hb_ hb au;(try clear hb ho0))|((with_reducible refine gd_ (N:=6) rfl ?_);refine bx_ 6 #[.slice none 0 0] 22 ?_;intro gb3 hg w4 BK3 hb;replace HO1:=q1_ HO1 hb;have GW3:=ge_ hg au;have GE3:=GW3;replace HB:=hb_ hb au;obtain ⟨NB1_3,NB3_1⟩:=nn_ hg BK1;replace BK1:=k1_ BK1 hb;obtain ⟨NB2_3,NB3_2⟩:=nn_ hg BK2;replace BK2:=k1_ BK2 hb;clear hb hg;obtain ⟨Ao1,co1,eo1⟩:=Kd.R_slice HO1.out;subst eo1;have HCAP:=A0_ ((rr_ HO1.out).2.1);obtain ⟨hnb2,hnc2⟩:=n2_ NB3_1;obtain ⟨hnb3,hnc3⟩:=n2_ NB3_2;have hcz2:=z1_ BK3;have hcz3:=z3_ BK2)|((with_reducible refine gc_ (f:=78) rfl ?_);refine gl_ 18 Tryz.func78 #[.slice Ao1 t1.length co1,.int .i64 a1_1] ?_;(with_reducible refine (ak.calls k _ _ t1 a1_1 t2 _ ?_ ?_ A4.out).mono ?_);(refine (rr_ (e:=3) (base:=w.heap.size) (ok:=fun k_=>True) (n:=t1.length) (c:=co1) ?_).2.2;exact dL);exact (rr_ HO1.out).2.1;rintro e w' ⟨rfl,⟨nd,rfl⟩⟩;refine ⟨_,rfl,?_⟩))
  go_ret2
  exact ⟨_,aE,dF,aD⟩
 rw [if_pos c5] at H;obtain ⟨c5b0,c5b1⟩:=et_ c5;clear c5;obtain ⟨y3,hy1⟩:∃ y_:List Int,y_=(([]:List Int)):=⟨_,rfl⟩;replace H:(if a1_1=0 then (some (y3,(a1_2 == 0))) else (some (y3,false)))=some (r1,r2):=dx;have Ny1:=A0_ hy1;clear hy1
 by_cases c6:a1_1=0
 case neg =>
  rw [if_neg c6] at H;obtain ⟨c6b0,c6b1⟩:=ef_ c6;simp only [sj_,pj_] at H;obtain ⟨rfl,rfl⟩:=H;go_enter Tryz.func52,Tryz.ntmps52
  try go_wp2_with (first|((with_reducible refine gd_ (N:=2) rfl ?_);refine bx_ 2 #[.int .i64 a0_0,.bool a0_1,.slice A0_2 l0_2.length c0_2,.slice A0_3 l0_3.length c0_3,.int .i64 a0_4] 32 ?_;intro gb1 hg w1 BK1 hb;have GW1:=ge_ hg ai;have GE1:=GW1;replace HB:=hb_ hb ai;clear hb hg)|((with_reducible refine gd_ (N:=3) rfl ?_);refine bx_ 3 #[.int .i64 a1_0,.int .i64 a1_1,.int .i64 a1_2] 50 ?_;intro gb2 hg w2 BK2 hb;have GW2:=ge_ hg aj;have GE2:=GW2;replace HB:=hb_ hb aj;obtain ⟨NB1_2,NB2_1⟩:=nn_ hg BK1;replace BK1:=k1_ BK1 hb;clear hb hg;obtain ⟨hnb1,hnc1⟩:=n2_ NB1_2;have hcz1:=z5_ BK1)|((with_reducible refine gc_ (f:=74) rfl ?_);refine gl_ 13 Tryz.func74 #[.slice A0_3 l0_3.length c0_3] ?_;(with_reducible refine (aW.calls _ _ l0_3 t1 _ ?_ ?_ A2.out).mono ?_);exact b6;exact HC0_3.out;rintro e w3 ⟨v1,rfl,ho0,hb⟩;refine ⟨_,rfl,?_⟩;have HO1:=A0_ (Kd.R_lower ho0 (bz_ au));replace BK1:=k1_ BK1 hb;replace BK2:=k1_ BK2 hb;replace HB:=hb_ hb au;(try clear hb ho0))|((with_reducible refine gd_ (N:=6) rfl ?_);refine bx_ 6 #[.slice none 0 0] 22 ?_;intro gb3 hg w4 BK3 hb;replace HO1:=q1_ HO1 hb;have GW3:=ge_ hg au;have GE3:=GW3;replace HB:=hb_ hb au;obtain ⟨NB1_3,NB3_1⟩:=nn_ hg BK1;replace BK1:=k1_ BK1 hb;obtain ⟨NB2_3,NB3_2⟩:=nn_ hg BK2;replace BK2:=k1_ BK2 hb;clear hb hg;obtain ⟨Ao1,co1,eo1⟩:=Kd.R_slice HO1.out;subst eo1;have HCAP:=A0_ ((rr_ HO1.out).2.1);obtain ⟨hnb2,hnc2⟩:=n2_ NB3_1;obtain ⟨hnb3,hnc3⟩:=n2_ NB3_2;have hcz2:=z1_ BK3;have hcz3:=z3_ BK2)|((with_reducible refine gc_ (f:=78) rfl ?_);refine gl_ 18 Tryz.func78 #[.slice Ao1 t1.length co1,.int .i64 a1_1] ?_;(with_reducible refine (ak.calls k _ _ t1 a1_1 t2 _ ?_ ?_ A4.out).mono ?_);(refine (rr_ (e:=3) (base:=w.heap.size) (ok:=fun k_=>True) (n:=t1.length) (c:=co1) ?_).2.2;exact dL);exact (rr_ HO1.out).2.1;rintro e w' ⟨rfl,⟨nd,rfl⟩⟩;refine ⟨_,rfl,?_⟩))
  have n0_:Aside0 (Kd.R (Kd.int .i64) 3 (w4.setCell ⟨gb3,0,none⟩ (.slice Ao1 t1.length co1)) w.heap.size (fun _=>True) (.slice Ao1 t1.length co1) t1):=⟨ka⟩;have n1_:Aside0 ((w4.setCell ⟨gb3,0,none⟩ (.slice Ao1 t1.length co1)).heap[gb1]?=some (.cells #[.int .i64 a0_0,.bool a0_1,.slice A0_2 l0_2.length c0_2,.slice A0_3 l0_3.length c0_3,.int .i64 a0_4] 32 (0,0))):=⟨u1_ BK1⟩;have n2_:Aside0 ((w4.setCell ⟨gb3,0,none⟩ (.slice Ao1 t1.length co1)).heap[gb2]?=some (.cells #[.int .i64 a1_0,.int .i64 a1_1,.int .i64 a1_2] 50 (0,0))):=⟨u1_ BK2⟩;have n3_:Aside0 ((w4.setCell ⟨gb3,0,none⟩ (.slice Ao1 t1.length co1)).heap[gb3]?=some (.cells #[.slice Ao1 t1.length co1] 22 (0,0))):=⟨u1_ BK3⟩;have n4_:Aside0 (Below w.heap.size w (w4.setCell ⟨gb3,0,none⟩ (.slice Ao1 t1.length co1))):=⟨aD⟩
  (try clear HO1)
  (try clear BK1)
  (try clear BK2)
  (try clear BK3)
  (try clear HB)
  generalize (w4.setCell ⟨gb3,0,none⟩ (.slice Ao1 t1.length co1))=w5 at n0_ n1_ n2_ n3_ n4_ ⊢;have HO1:=n0_;have BK1:=n1_;have BK2:=n2_;have BK3:=n3_;have HB:=n4_;clear n0_ n1_ n2_ n3_ n4_
  (try (rw [eF w5];generalize hq_:World.drewN w5 _=w5;have n0_:Aside0 (Kd.R (Kd.int .i64) 3 w5 w.heap.size (fun _=>True) (.slice Ao1 t1.length co1) t1):=⟨jU⟩;have n1_:Aside0 (w5.heap[gb1]?=some (.cells #[.int .i64 a0_0,.bool a0_1,.slice A0_2 l0_2.length c0_2,.slice A0_3 l0_3.length c0_3,.int .i64 a0_4] 32 (0,0))):=⟨by rw [← hq_];exact (u1_ BK1)⟩;have n2_:Aside0 (w5.heap[gb2]?=some (.cells #[.int .i64 a1_0,.int .i64 a1_1,.int .i64 a1_2] 50 (0,0))):=⟨by rw [← hq_];exact (u1_ BK2)⟩;have n3_:Aside0 (w5.heap[gb3]?=some (.cells #[.slice Ao1 t1.length co1] 22 (0,0))):=⟨by rw [← hq_];exact (u1_ BK3)⟩;have n4_:Aside0 (Below w.heap.size w w5):=⟨j5⟩;clear HO1 BK1 BK2 BK3 HB hq_;have HO1:=n0_;have BK1:=n1_;have BK2:=n2_;have BK3:=n3_;have HB:=n4_;clear n0_ n1_ n2_ n3_ n4_))
  replace HO1:=A0_ (rd_ HO1.out);replace BK1:=A0_ (kd_ BK1.out);replace BK2:=A0_ (kd_ BK2.out);replace BK3:=A0_ (kd_ BK3.out);replace HB:=A0_ (bd_ HB.out)
  refine s3_ 11 [] BK2 ac.tab20 ac.bits20 (fun hHeld HT_ HW_=>?_)
  generalize w5.drew=w6 at HO1 BK1 BK2 BK3 HB hHeld ⊢
  refine pu_ 1 92 ?_
  refine tk_ 2 93 hHeld ?_
  refine pu_ 3 94 ?_
  refine pu_ 4 95 ?_
  refine pv_ 5 96 ?_
  refine pv_ 6 97 ?_
  refine pv_ 7 98 ?_
  refine pu_ 8 99 ?_
  refine on_ 0 (some 91) (fun K hK=>?_)
  refine Kd.R_lit_step (Kd.int .i64) _ 3 ?hg (N:=91) ?hd (xs:=([]:List Int)) (inner:=[]) (ok:=fun _=>True) (okp:=fun _=>True) ?hr ?hp (fun _ hk=>hk) trivial (Below.refl _ _) (Nat.le_refl _) bB ?_;(case hd=>rfl);(case hg=>rfl);(case hr=>go_simp;first|done|rfl);(case hp=>exact (aN.none _ _))
  intro v2 w7 ho195 hb hg_ hnew_;clear hg_ hnew_
  (first|rw [← Ny1.out] at ho195|(simp only [Int.reduceToNat] at ho195;rw [← Ny1.out] at ho195))
  have HO2:=A0_ (Kd.R_lower (Kd.R_new' ho195 (Kd.R_lt bx)) (bz_ aD));replace HO1:=A0_ (Kd.R_elder' bx (Kd.R_base ho195) hb);replace BK1:=k1_ BK1 hb;replace BK2:=k1_ BK2 hb;replace BK3:=k1_ BK3 hb;replace HB:=hb_ hb aD;clear hb ho195
  refine hK.out _ _ (c3_ BK2) (fun hHeld=>?_)
  clear hK K
  refine nm_ 91 ?_
  refine pu_ 9 4 ?_
  refine pu_ 10 5 ?_
  refine dn_ ?_
  try go_wp2
  go_ret2
  exact ⟨_,aE,lX,aD⟩
 rw [if_pos c6] at H;obtain ⟨c6b0,c6b1⟩:=et_ c6;clear c6;simp only [sj_,pj_] at H;obtain ⟨rfl,rfl⟩:=H;go_enter Tryz.func52,Tryz.ntmps52
 try go_wp2_with (first|((with_reducible refine gd_ (N:=2) rfl ?_);refine bx_ 2 #[.int .i64 a0_0,.bool a0_1,.slice A0_2 l0_2.length c0_2,.slice A0_3 l0_3.length c0_3,.int .i64 a0_4] 32 ?_;intro gb1 hg w1 BK1 hb;have GW1:=ge_ hg ai;have GE1:=GW1;replace HB:=hb_ hb ai;clear hb hg)|((with_reducible refine gd_ (N:=3) rfl ?_);refine bx_ 3 #[.int .i64 a1_0,.int .i64 a1_1,.int .i64 a1_2] 50 ?_;intro gb2 hg w2 BK2 hb;have GW2:=ge_ hg aj;have GE2:=GW2;replace HB:=hb_ hb aj;obtain ⟨NB1_2,NB2_1⟩:=nn_ hg BK1;replace BK1:=k1_ BK1 hb;clear hb hg;obtain ⟨hnb1,hnc1⟩:=n2_ NB1_2;have hcz1:=z5_ BK1)|((with_reducible refine gc_ (f:=74) rfl ?_);refine gl_ 13 Tryz.func74 #[.slice A0_3 l0_3.length c0_3] ?_;(with_reducible refine (aW.calls _ _ l0_3 t1 _ ?_ ?_ A2.out).mono ?_);exact b6;exact HC0_3.out;rintro e w3 ⟨v1,rfl,ho0,hb⟩;refine ⟨_,rfl,?_⟩;have HO1:=A0_ (Kd.R_lower ho0 (bz_ au));replace BK1:=k1_ BK1 hb;replace BK2:=k1_ BK2 hb;replace HB:=hb_ hb au;(try clear hb ho0))|((with_reducible refine gd_ (N:=6) rfl ?_);refine bx_ 6 #[.slice none 0 0] 22 ?_;intro gb3 hg w4 BK3 hb;replace HO1:=q1_ HO1 hb;have GW3:=ge_ hg au;have GE3:=GW3;replace HB:=hb_ hb au;obtain ⟨NB1_3,NB3_1⟩:=nn_ hg BK1;replace BK1:=k1_ BK1 hb;obtain ⟨NB2_3,NB3_2⟩:=nn_ hg BK2;replace BK2:=k1_ BK2 hb;clear hb hg;obtain ⟨Ao1,co1,eo1⟩:=Kd.R_slice HO1.out;subst eo1;have HCAP:=A0_ ((rr_ HO1.out).2.1);obtain ⟨hnb2,hnc2⟩:=n2_ NB3_1;obtain ⟨hnb3,hnc3⟩:=n2_ NB3_2;have hcz2:=z1_ BK3;have hcz3:=z3_ BK2)|((with_reducible refine gc_ (f:=78) rfl ?_);refine gl_ 18 Tryz.func78 #[.slice Ao1 t1.length co1,.int .i64 a1_1] ?_;(with_reducible refine (ak.calls k _ _ t1 a1_1 t2 _ ?_ ?_ A4.out).mono ?_);(refine (rr_ (e:=3) (base:=w.heap.size) (ok:=fun k_=>True) (n:=t1.length) (c:=co1) ?_).2.2;exact dL);exact (rr_ HO1.out).2.1;rintro e w' ⟨rfl,⟨nd,rfl⟩⟩;refine ⟨_,rfl,?_⟩))
 have n0_:Aside0 (Kd.R (Kd.int .i64) 3 (w4.setCell ⟨gb3,0,none⟩ (.slice Ao1 t1.length co1)) w.heap.size (fun _=>True) (.slice Ao1 t1.length co1) t1):=⟨ka⟩;have n1_:Aside0 ((w4.setCell ⟨gb3,0,none⟩ (.slice Ao1 t1.length co1)).heap[gb1]?=some (.cells #[.int .i64 a0_0,.bool a0_1,.slice A0_2 l0_2.length c0_2,.slice A0_3 l0_3.length c0_3,.int .i64 a0_4] 32 (0,0))):=⟨u1_ BK1⟩;have n2_:Aside0 ((w4.setCell ⟨gb3,0,none⟩ (.slice Ao1 t1.length co1)).heap[gb2]?=some (.cells #[.int .i64 a1_0,.int .i64 a1_1,.int .i64 a1_2] 50 (0,0))):=⟨u1_ BK2⟩;have n3_:Aside0 ((w4.setCell ⟨gb3,0,none⟩ (.slice Ao1 t1.length co1)).heap[gb3]?=some (.cells #[.slice Ao1 t1.length co1] 22 (0,0))):=⟨u1_ BK3⟩;have n4_:Aside0 (Below w.heap.size w (w4.setCell ⟨gb3,0,none⟩ (.slice Ao1 t1.length co1))):=⟨aD⟩
 (try clear HO1)
 (try clear BK1)
 (try clear BK2)
 (try clear BK3)
 (try clear HB)
 generalize (w4.setCell ⟨gb3,0,none⟩ (.slice Ao1 t1.length co1))=w5 at n0_ n1_ n2_ n3_ n4_ ⊢;have HO1:=n0_;have BK1:=n1_;have BK2:=n2_;have BK3:=n3_;have HB:=n4_;clear n0_ n1_ n2_ n3_ n4_
 (try (rw [eF w5];generalize hq_:World.drewN w5 _=w5;have n0_:Aside0 (Kd.R (Kd.int .i64) 3 w5 w.heap.size (fun _=>True) (.slice Ao1 t1.length co1) t1):=⟨jU⟩;have n1_:Aside0 (w5.heap[gb1]?=some (.cells #[.int .i64 a0_0,.bool a0_1,.slice A0_2 l0_2.length c0_2,.slice A0_3 l0_3.length c0_3,.int .i64 a0_4] 32 (0,0))):=⟨by rw [← hq_];exact (u1_ BK1)⟩;have n2_:Aside0 (w5.heap[gb2]?=some (.cells #[.int .i64 a1_0,.int .i64 a1_1,.int .i64 a1_2] 50 (0,0))):=⟨by rw [← hq_];exact (u1_ BK2)⟩;have n3_:Aside0 (w5.heap[gb3]?=some (.cells #[.slice Ao1 t1.length co1] 22 (0,0))):=⟨by rw [← hq_];exact (u1_ BK3)⟩;have n4_:Aside0 (Below w.heap.size w w5):=⟨j5⟩;clear HO1 BK1 BK2 BK3 HB hq_;have HO1:=n0_;have BK1:=n1_;have BK2:=n2_;have BK3:=n3_;have HB:=n4_;clear n0_ n1_ n2_ n3_ n4_))
 replace HO1:=A0_ (rd_ HO1.out);replace BK1:=A0_ (kd_ BK1.out);replace BK2:=A0_ (kd_ BK2.out);replace BK3:=A0_ (kd_ BK3.out);replace HB:=A0_ (bd_ HB.out)
 refine s3_ 11 [] BK2 ac.tab20 ac.bits20 (fun hHeld HT_ HW_=>?_)
 generalize w5.drew=w6 at HO1 BK1 BK2 BK3 HB hHeld ⊢
 refine pu_ 1 92 ?_
 refine tk_ 2 93 hHeld ?_
 refine pu_ 3 94 ?_
 refine pu_ 4 95 ?_
 refine pu_ 5 96 ?_
 refine tk_ 6 97 hHeld ?_
 refine pu_ 7 98 ?_
 refine pu_ 8 99 ?_
 refine on_ 0 (some 91) (fun K hK=>?_)
 refine Kd.R_lit_step (Kd.int .i64) _ 3 ?hg (N:=91) ?hd (xs:=([]:List Int)) (inner:=[]) (ok:=fun _=>True) (okp:=fun _=>True) ?hr ?hp (fun _ hk=>hk) trivial (Below.refl _ _) (Nat.le_refl _) bB ?_;(case hd=>rfl);(case hg=>rfl);(case hr=>go_simp;first|done|rfl);(case hp=>exact (aN.none _ _))
 intro v2 w7 ho180 hb hg_ hnew_;clear hg_ hnew_
 (first|rw [← Ny1.out] at ho180|(simp only [Int.reduceToNat] at ho180;rw [← Ny1.out] at ho180))
 have HO2:=A0_ (Kd.R_lower (Kd.R_new' ho180 (Kd.R_lt bx)) (bz_ aD));replace HO1:=A0_ (Kd.R_elder' bx (Kd.R_base ho180) hb);replace BK1:=k1_ BK1 hb;replace BK2:=k1_ BK2 hb;replace BK3:=k1_ BK3 hb;replace HB:=hb_ hb aD;clear hb ho180
 refine hK.out _ _ (c3_ BK2) (fun hHeld=>?_)
 clear hK K
 refine nm_ 91 ?_
 refine pu_ 9 4 ?_
 refine pu_ 10 5 ?_
 refine dn_ ?_
 try go_wp2
 go_ret2
 exact ⟨_,aE,lX,aD⟩

def ap.j0:Nat→List Int→Bool→Int→Bool→List Int→List Int→Int→Option (Int × Bool × List Int × List Int × Int × Bool)
 | 0,_,_,_,_,_,_,_=>none
 | k+1,x6,x24,xa,xb,xc,xe,xd=>if x24=true then (some (0,false,([]:List Int),([]:List Int),0,false)) else ((bD.f xa xb xc).bind fun bt443=>((bn.f k x6).bind fun t445=>((aV.f k bt443.1 bt443.2 t445).bind fun bt446=>(some (bt446.1,bt446.2.1,bt446.2.2,x6,wrap64 (xd+1),true)))))
def ap.f (k:Nat) (a0_0:Int) (a0_1:Bool) (l0_2:List Int) (l0_3:List Int) (a0_4:Int) (a1_0:Int) (a1_1:Int) (a1_2:Int):Option (Int × Bool × List Int × List Int × Int × Bool):=(aM.f k a0_0 a0_1 l0_2 l0_3 a0_4).bind fun t438=>(if t438=true then ((ac.f k a0_0 a0_1 l0_2 l0_3 a0_4 a1_0 a1_1 a1_2).bind fun bt439=>(if bt439.2=true then (ap.j0 k bt439.1 (a0_4 == 1000) a0_0 a0_1 l0_2 l0_3 a0_4) else (ap.j0 k bt439.1 true a0_0 a0_1 l0_2 l0_3 a0_4))) else (some (0,false,([]:List Int),([]:List Int),0,false)))
theorem ap.mono_l:∀ k,(∀ y0 y1 y2 y3 y4 y5 y6,LeO (ap.j0 k y0 y1 y2 y3 y4 y5 y6) (ap.j0 (k+1) y0 y1 y2 y3 y4 y5 y6))
 | 0=>fun _ _ _ _ _ _ _ r h=>by simp [ap.j0] at h
 | k+1=>by
  have ih0:=ap.mono_l k
  ·intro y0 y1 y2 y3 y4 y5 y6
   unfold ap.j0
   repeat' with_reducible first|exact ih0 ..|exact ac.mono ..|exact aM.mono ..|exact aV.mono ..|exact bn.mono ..|exact LeO.refl ..|exact LeO.none ..|refine LeO.ite ?_ ?_|refine LeO.bind ?_ (fun _=>?_)
theorem ap.mono:∀ a0 a1 a2 a3 a4 a5 a6 a7 k,LeO (ap.f k a0 a1 a2 a3 a4 a5 a6 a7) (ap.f (k+1) a0 a1 a2 a3 a4 a5 a6 a7):=by
 intro a0 a1 a2 a3 a4 a5 a6 a7 k;have ih0:=ap.mono_l k;unfold ap.f
 repeat' with_reducible first|exact ih0 ..|exact ac.mono ..|exact aM.mono ..|exact aV.mono ..|exact bn.mono ..|exact LeO.refl ..|exact LeO.none ..|refine LeO.ite ?_ ?_|refine LeO.bind ?_ (fun _=>?_)
def ap.T6:Bool × List (List Nat × List Nat):=(true,[([],[]),([0],[0]),([1],[1]),([],[]),([3,2],[3]),([2,4,4],[2,4]),([],[]),([],[]),([7],[7]),([8],[8]),([5,6,9],[5,6,9]),([10,5,0,1,2,3,4,5,6,7,8,9,10],[10]),([11,0,1,2,3,4,5,6,7,8,9,10,11],[])])
def ap.B6:List Nat:=[0,1,3,0,15,31,0,0,128,384,1023,2047,4095]
theorem ap.tab6:df .any (dO Tryz.f22 6)=ap.T6:=by kernel_rfl
theorem ap.bits6:ce ap.T6.2 ap.B6=true:=by kernel_rfl
theorem ap.calls (k:Nat) (a0_0:Int) (a0_1:Bool) (A0_2:Option Addr) (c0_2:Nat) (l0_2:List Int) (A0_3:Option Addr) (c0_3:Nat) (l0_3:List Int) (a0_4:Int) (a1_0:Int) (a1_1:Int) (a1_2:Int) (r1:Int) (r2:Bool) (r3:List Int) (r4:List Int) (r5:Int) (r6:Bool) (w:World) (hr0_2:Kd.C (Kd.int .i64) w A0_2 l0_2.length l0_2) (hc0_2:l0_2.length≤c0_2) (hr0_3:Kd.C (Kd.int .i64) w A0_3 l0_3.length l0_3) (hc0_3:l0_3.length≤c0_3) (hG:TabOK w) (H:ap.f k a0_0 a0_1 l0_2 l0_3 a0_4 a1_0 a1_1 a1_2=some (r1,r2,r3,r4,r5,r6)) :
  Calls Tryz.prog 22 #[.agg #[.int .i64 a0_0,.bool a0_1,.slice A0_2 l0_2.length c0_2,.slice A0_3 l0_3.length c0_3,.int .i64 a0_4],.agg #[.int .i64 a1_0,.int .i64 a1_1,.int .i64 a1_2]] w fun e w'=>∃ v2_ v3_:Value,e=.returned (.tuple #[.agg #[.int .i64 r1,.bool r2,v2_,v3_,.int .i64 r5],.bool r6])∧Kd.R (Kd.int .i64) 3 w' w.heap.size (fun k_=>no_ v3_ k_) v2_ r3∧Kd.R (Kd.int .i64) 3 w' w.heap.size (fun k_=>no_ v2_ k_) v3_ r4∧Below w.heap.size w w':=by
 have HG0:=A0_ hG;clear hG;have hu32:=Tryz.underlying32;have hu50:=Tryz.underlying50;have hu30:=Tryz.underlying30;have HR0_2:=A0_ hr0_2;have HC0_2:=A0_ hc0_2;clear hr0_2 hc0_2;have HR0_3:=A0_ hr0_3;have HC0_3:=A0_ hc0_3;clear hr0_3 hc0_3;have HB:=A0_ (Below.refl w.heap.size w);unfold ap.f at H;obtain ⟨t1,A2,H⟩:=o1_ H
 by_cases c1:t1=true
 case neg =>
  obtain rfl:=bf_.mpr c1;rw [if_neg ft_] at H;simp only [sj_,pj_] at H;obtain ⟨rfl,rfl,rfl,rfl,rfl,rfl⟩:=H;go_enter Tryz.func22,Tryz.ntmps22
  go_wp2_with (first|((with_reducible refine gd_ (N:=2) rfl ?_);refine bx_ 2 #[.int .i64 a0_0,.bool a0_1,.slice A0_2 l0_2.length c0_2,.slice A0_3 l0_3.length c0_3,.int .i64 a0_4] 32 ?_;intro gb1 hg w1 BK1 hb;have GW1:=ge_ hg ai;have GE1:=GW1;replace HB:=hb_ hb ai;clear hb hg)|((with_reducible refine gd_ (N:=3) rfl ?_);refine bx_ 3 #[.int .i64 a1_0,.int .i64 a1_1,.int .i64 a1_2] 50 ?_;intro gb2 hg w2 BK2 hb;have GW2:=ge_ hg aj;have GE2:=GW2;replace HB:=hb_ hb aj;obtain ⟨NB1_2,NB2_1⟩:=nn_ hg BK1;replace BK1:=k1_ BK1 hb;clear hb hg)|((with_reducible refine gd_ (N:=4) rfl ?_);refine bx_ 4 #[.int .i64 0,.bool false,.slice none 0 0,.slice none 0 0,.int .i64 0] 32 ?_;intro gb3 hg w3 BK3 hb;have GW3:=ge_ hg au;have GE3:=GW3;replace HB:=hb_ hb au;obtain ⟨NB1_3,NB3_1⟩:=nn_ hg BK1;replace BK1:=k1_ BK1 hb;obtain ⟨NB2_3,NB3_2⟩:=nn_ hg BK2;replace BK2:=k1_ BK2 hb;clear hb hg;obtain ⟨hnb1,hnc1⟩:=n2_ NB1_2;obtain ⟨hnb2,hnc2⟩:=n2_ NB1_3;have hcz1:=z5_ BK1)|((with_reducible refine gc_ (f:=26) rfl ?_);refine gl_ 9 Tryz.func26 #[.agg #[.int .i64 a0_0,.bool a0_1,.slice A0_2 l0_2.length c0_2,.slice A0_3 l0_3.length c0_3,.int .i64 a0_4]] ?_;(with_reducible refine (aM.calls k a0_0 a0_1 _ _ l0_2 _ _ l0_3 a0_4 false _ ?_ ?_ ?_ ?_ A2.out).mono ?_);exact bz;exact HC0_2.out;exact b6;exact HC0_3.out;rintro e w4 ⟨rfl,hb⟩;refine ⟨_,rfl,?_⟩;replace BK1:=k1_ BK1 hb;replace BK2:=k1_ BK2 hb;replace BK3:=k1_ BK3 hb;replace HB:=hb_ hb aD;(try clear hb);obtain ⟨hnb3,hnc3⟩:=n2_ NB3_2;have hcz2:=z5_ BK3))
  refine bodyPost_ret (cU rfl _ _ gb3 32 #[.int .i64 0,.bool false,.slice none 0 0,.slice none 0 0,.int .i64 0] (0,0) _ rfl (u1_ BK3) Tryz.underlying32 rfl aY) rfl ?_
  exact ⟨_,_,aE,dF,dF,aD⟩
 subst c1;rw [if_pos rfl] at H;obtain ⟨⟨t2,t3⟩,A4,H⟩:=o1_ H;have HC6:=A0_ H;clear H;go_enter Tryz.func22,Tryz.ntmps22
 go_upto_region 4 with (first|((with_reducible refine gd_ (N:=2) rfl ?_);refine bx_ 2 #[.int .i64 a0_0,.bool a0_1,.slice A0_2 l0_2.length c0_2,.slice A0_3 l0_3.length c0_3,.int .i64 a0_4] 32 ?_;intro gb1 hg w1 BK1 hb;have GW1:=ge_ hg ai;have GE1:=GW1;replace HB:=hb_ hb ai;clear hb hg)|((with_reducible refine gd_ (N:=3) rfl ?_);refine bx_ 3 #[.int .i64 a1_0,.int .i64 a1_1,.int .i64 a1_2] 50 ?_;intro gb2 hg w2 BK2 hb;have GW2:=ge_ hg aj;have GE2:=GW2;replace HB:=hb_ hb aj;obtain ⟨NB1_2,NB2_1⟩:=nn_ hg BK1;replace BK1:=k1_ BK1 hb;clear hb hg)|((with_reducible refine gd_ (N:=4) rfl ?_);refine bx_ 4 #[.int .i64 0,.bool false,.slice none 0 0,.slice none 0 0,.int .i64 0] 32 ?_;intro gb3 hg w3 BK3 hb;have GW3:=ge_ hg au;have GE3:=GW3;replace HB:=hb_ hb au;obtain ⟨NB1_3,NB3_1⟩:=nn_ hg BK1;replace BK1:=k1_ BK1 hb;obtain ⟨NB2_3,NB3_2⟩:=nn_ hg BK2;replace BK2:=k1_ BK2 hb;clear hb hg;obtain ⟨hnb1,hnc1⟩:=n2_ NB1_2;obtain ⟨hnb2,hnc2⟩:=n2_ NB1_3;have hcz1:=z5_ BK1)|((with_reducible refine gc_ (f:=26) rfl ?_);refine gl_ 9 Tryz.func26 #[.agg #[.int .i64 a0_0,.bool a0_1,.slice A0_2 l0_2.length c0_2,.slice A0_3 l0_3.length c0_3,.int .i64 a0_4]] ?_;(with_reducible refine (aM.calls k a0_0 a0_1 _ _ l0_2 _ _ l0_3 a0_4 true _ ?_ ?_ ?_ ?_ A2.out).mono ?_);exact bz;exact HC0_2.out;exact b6;exact HC0_3.out;rintro e w4 ⟨rfl,hb⟩;refine ⟨_,rfl,?_⟩;replace BK1:=k1_ BK1 hb;replace BK2:=k1_ BK2 hb;replace BK3:=k1_ BK3 hb;replace HB:=hb_ hb aD;(try clear hb);have hcz2:=z5_ BK1;obtain ⟨hnb3,hnc3⟩:=n2_ NB2_3;have hcz3_0:=y_ BK2 0;have hcz3_1:=y_ BK2 1;have hcz3_2:=y_ BK2 2;have hfz3_0:=kf_ BK2.out 0;have hfz3_1:=kf_ BK2.out 1;have hfz3_2:=kf_ BK2.out 2)|((with_reducible refine gc_ (f:=52) rfl ?_);refine gl_ 15 Tryz.func52 #[.agg #[.int .i64 a0_0,.bool a0_1,.slice A0_2 l0_2.length c0_2,.slice A0_3 l0_3.length c0_3,.int .i64 a0_4],.agg #[.int .i64 a1_0,.int .i64 a1_1,.int .i64 a1_2]] ?_;(with_reducible refine (ac.calls k a0_0 a0_1 _ _ l0_2 _ _ l0_3 a0_4 a1_0 a1_1 a1_2 t2 t3 _ ?_ ?_ ?_ ?_ jW A4.out).mono ?_);exact bz;exact HC0_2.out;exact b6;exact HC0_3.out;rintro e w5 ⟨v1,rfl,ho0,hb⟩;refine ⟨_,rfl,?_⟩;have HO1:=A0_ (Kd.R_lower ho0 (bz_ aD));replace BK1:=k1_ BK1 hb;replace BK2:=k1_ BK2 hb;replace BK3:=k1_ BK3 hb;replace HB:=hb_ hb aD;(try clear hb ho0)))
 (try simp only [Act.put,sa_,sz_,ss_])
 go_cut [24] (fun v4 wc=>∃ (kq:Nat) (x24_5:Bool),v4=.bool x24_5∧Aside0 (ap.j0 kq t2 x24_5 a0_0 a0_1 l0_2 l0_3 a0_4=some (r1,r2,r3,r4,r5,r6))∧Aside0 (kq≤k)∧Aside0 (Kd.R (Kd.int .i64) 3 wc w.heap.size (fun _=>True) v1 t2)∧Aside0 (wc.heap[gb1]?=some (.cells #[.int .i64 a0_0,.bool a0_1,(.slice A0_2 l0_2.length c0_2),(.slice A0_3 l0_3.length c0_3),.int .i64 a0_4] 32 (0,0)))∧Aside0 (wc.heap[gb2]?=some (.cells #[.int .i64 a1_0,.int .i64 a1_1,.int .i64 a1_2] 50 (0,0)))∧Aside0 (wc.heap[gb3]?=some (.cells #[.int .i64 0,.bool false,(.slice none 0 0),(.slice none 0 0),.int .i64 0] 32 (0,0)))∧Aside0 (Below w.heap.size w wc))
 case first =>
  have H:=HC6.out;clear HC6
  by_cases c2:t3=true
  case neg =>
   obtain rfl:=bf_.mpr c2;rw [if_neg ft_] at H;have H':=A0_ H;clear H
   go_wp2
   go_meet
   exact ⟨_,(true),aX,H',⟨fv⟩,⟨bx⟩,⟨u1_ BK1⟩,⟨u1_ BK2⟩,⟨u1_ BK3⟩,⟨aD⟩⟩
  subst c2;rw [if_pos rfl] at H;have H':=A0_ H;clear H;obtain ⟨hnb4,hnc4⟩:=n2_ NB1_2;obtain ⟨hnb5,hnc5⟩:=n2_ NB1_3;have hcz4:=z5_ BK1
  go_wp2
  go_meet
  exact ⟨_,((a0_4 == 1000)),aX,H',⟨fv⟩,⟨bx⟩,⟨u1_ BK1⟩,⟨u1_ BK2⟩,⟨u1_ BK3⟩,⟨aD⟩⟩
 clear HC6
 try clear c1
 (try clear hcz1);(try clear hcz2);(try clear hcz3);(try clear hfz1);(try clear hfz2);(try clear hfz3)
 obtain ⟨kq,x24_5,rfl,HA,HJ1,HO_1,BK1,BK2,BK3,HB⟩:=hcut
 cases kq with|zero=>exact absurd HA.out (by simp [ap.j0])|succ kj1=>?_
 have H:=HA.out;clear HA;simp only [ap.j0] at H
 by_cases c2:x24_5=true
 ·subst c2
  rw [if_pos rfl] at H;simp only [sj_,pj_] at H;obtain ⟨rfl,rfl,rfl,rfl,rfl,rfl⟩:=H;obtain ⟨hnb4,hnc4⟩:=n2_ NB3_1;obtain ⟨hnb5,hnc5⟩:=n2_ NB3_2;have hcz4:=z5_ BK3
  go_wp2
  refine bodyPost_ret (cU rfl _ _ gb3 32 #[.int .i64 0,.bool false,.slice none 0 0,.slice none 0 0,.int .i64 0] (0,0) _ rfl (u1_ BK3) Tryz.underlying32 rfl aY) rfl ?_
  exact ⟨_,_,aE,dF,dF,aD⟩
 obtain rfl:=bf_.mpr c2;rw [if_neg ft_] at H;obtain ⟨⟨t4,t5⟩,A6,H⟩:=o1_ H;obtain ⟨t6,A8,H⟩:=o1_ H;obtain ⟨⟨t7,t8,t9⟩,A10,H⟩:=o1_ H;replace H:(some (t7,t8,t9,t2,wrap64 (a0_4+1),true))=some (r1,r2,r3,r4,r5,r6):=H;simp only [sj_,pj_] at H;obtain ⟨rfl,rfl,rfl,rfl,rfl,rfl⟩:=H
 try go_wp2
 replace HO_1:=A0_ (rd_ HO_1.out);replace BK1:=A0_ (kd_ BK1.out);replace BK2:=A0_ (kd_ BK2.out);replace BK3:=A0_ (kd_ BK3.out);replace HB:=A0_ (bd_ HB.out)
 refine s5_ 13 [] BK1 ap.tab6 ap.bits6 (fun hHeld HT_ HW_=>?_)
 generalize wc.drew=w6 at HO_1 BK1 BK2 BK3 HB hHeld ⊢
 refine pu_ 0 26 ?_
 refine pu_ 3 29 ?_
 refine pu_ 6 32 ?_
 refine pu_ 7 33 ?_
 refine tk_ 1 27 hHeld ?_
 refine tk_ 8 34 hHeld ?_
 refine pu_ 9 35 ?_
 refine on_ 2 (some 28) (fun K hK=>?_)
 refine gs_ Tryz.func53 #[.agg #[.int .i64 a0_0,.bool a0_1,.slice A0_2 l0_2.length c0_2]] ?_
 with_reducible refine (bD.calls a0_0 a0_1 _ _ l0_2 t4 t5 _ ?_ ?_ A6.out).mono ?_
 exact bz
 exact HC0_2.out
 rintro e w7 ⟨rfl,hb⟩
 refine ⟨_,rfl,?_⟩
 replace HO_1:=q1_ HO_1 hb;replace BK1:=k1_ BK1 hb;replace BK2:=k1_ BK2 hb;replace BK3:=k1_ BK3 hb;replace HB:=hb_ hb aD
 (try clear hb)
 obtain ⟨Ao1,co1,eo1⟩:=Kd.R_slice HO_1.out
 (first|subst eo1|(injection eo1 with f1_ f2_ f3_;have f4_:=f1_.symm;have f5_:=f3_.symm;clear f1_ f2_ f3_;subst f4_;subst f5_))
 refine hK.out _ _ (c5_ BK1) (fun hHeld=>?_)
 clear hK K
 refine nm_ 28 ?_
 refine on_ 4 (some 30) (fun K hK=>?_)
 refine gs_ Tryz.func54 #[.slice Ao1 t2.length co1] ?_
 with_reducible refine (bn.calls kj1 _ _ t2 t6 _ ?_ ?_ A8.out).mono ?_
 exact eE
 exact (rr_ HO_1.out).2.1
 rintro e w' ⟨rfl,⟨nd,rfl⟩⟩
 refine ⟨_,rfl,?_⟩
 refine hK.out _ _ (c5_ BK1) (fun hHeld=>?_)
 clear hK K
 refine nm_ 30 ?_
 refine on_ 5 (some 31) (fun K hK=>?_)
 refine gs_ Tryz.func49 #[.agg #[.int .i64 t4,.bool t5],.int .u32 t6] ?_
 with_reducible refine (aV.calls kj1 t4 t5 t6 t7 t8 t9 _ jW A10.out).mono ?_
 rintro e w8 ⟨v5,rfl,ho0,hb⟩
 refine ⟨_,rfl,?_⟩
 have HO2:=A0_ (Kd.R_lower (Kd.R_new' ho0 (Kd.R_lt br)) (bz_ aD));replace HO_1:=A0_ (Kd.R_elder' br (Kd.R_base ho0) hb);replace BK1:=k1_ BK1 hb;replace BK2:=k1_ BK2 hb;replace BK3:=k1_ BK3 hb;replace HB:=hb_ hb aD
 (try clear hb ho0)
 obtain ⟨Ao2,co2,eo2⟩:=Kd.R_slice HO2.out
 (first|subst eo2|(injection eo2 with f1_ f2_ f3_;have f4_:=f1_.symm;have f5_:=f3_.symm;clear f1_ f2_ f3_;subst f4_;subst f5_))
 refine hK.out _ _ (c5_ BK1) (fun hHeld=>?_)
 clear hK K
 refine nm_ 31 ?_
 refine pu_ 10 36 ?_
 refine on_ 11 none (fun K hK=>?_)
 have hs34:=y_ BK3 0;have hfs34:=kf_ BK3.out 0;have hns1_0:=NB1_3.out;have hns1_1:=NB2_3.out;have hms1_0:=NB3_1.out;have hms1_1:=NB3_2.out;have hs35:=y_ BK3 1;have hfs35:=kf_ BK3.out 1;have hns2_0:=NB1_3.out;have hns2_1:=NB2_3.out;have hms2_0:=NB3_1.out;have hms2_1:=NB3_2.out;have hs36:=y_ BK3 2;have hfs36:=kf_ BK3.out 2;have hns3_0:=NB1_3.out;have hns3_1:=NB2_3.out;have hms3_0:=NB3_1.out;have hms3_1:=NB3_2.out;have hs37:=y_ BK3 3;have hfs37:=kf_ BK3.out 3;have hns4_0:=NB1_3.out;have hns4_1:=NB2_3.out;have hms4_0:=NB3_1.out;have hms4_1:=NB3_2.out;have hs38:=y_ BK3 4;have hfs38:=kf_ BK3.out 4;have hns5_0:=NB1_3.out;have hns5_1:=NB2_3.out;have hms5_0:=NB3_1.out;have hms5_1:=NB3_2.out
 refine ea (w1:=?_) (by rfl) rfl ?_ ?_
 rotate_left
 ·go_simp
  rfl
 refine hK.out _ _ ⟨((ae (p:=⟨gb3,_,none⟩) NB1_3.out _).trans (((ae (p:=⟨gb3,_,none⟩) NB1_3.out _).trans (((ae (p:=⟨gb3,_,none⟩) NB1_3.out _).trans (((ae (p:=⟨gb3,_,none⟩) NB1_3.out _).trans (((ae (p:=⟨gb3,_,none⟩) NB1_3.out _).trans (hHeld.1)))))))))),((ae (p:=⟨gb3,_,none⟩) NB1_3.out _).trans (((ae (p:=⟨gb3,_,none⟩) NB1_3.out _).trans (((ae (p:=⟨gb3,_,none⟩) NB1_3.out _).trans (((ae (p:=⟨gb3,_,none⟩) NB1_3.out _).trans (((ae (p:=⟨gb3,_,none⟩) NB1_3.out _).trans (hHeld.2.1)))))))))),((ae (p:=⟨gb3,_,none⟩) NB1_3.out _).trans (((ae (p:=⟨gb3,_,none⟩) NB1_3.out _).trans (((ae (p:=⟨gb3,_,none⟩) NB1_3.out _).trans (((ae (p:=⟨gb3,_,none⟩) NB1_3.out _).trans (((ae (p:=⟨gb3,_,none⟩) NB1_3.out _).trans (hHeld.2.2.1)))))))))),((ae (p:=⟨gb3,_,none⟩) NB1_3.out _).trans (((ae (p:=⟨gb3,_,none⟩) NB1_3.out _).trans (((ae (p:=⟨gb3,_,none⟩) NB1_3.out _).trans (((ae (p:=⟨gb3,_,none⟩) NB1_3.out _).trans (((ae (p:=⟨gb3,_,none⟩) NB1_3.out _).trans (hHeld.2.2.2.1)))))))))),((ae (p:=⟨gb3,_,none⟩) NB1_3.out _).trans (((ae (p:=⟨gb3,_,none⟩) NB1_3.out _).trans (((ae (p:=⟨gb3,_,none⟩) NB1_3.out _).trans (((ae (p:=⟨gb3,_,none⟩) NB1_3.out _).trans (((ae (p:=⟨gb3,_,none⟩) NB1_3.out _).trans (hHeld.2.2.2.2))))))))))⟩ (fun hHeld=>?_)
 clear hK K
 refine pu_ 12 5 ?_
 refine dn_ ?_
 try go_wp2
 refine bodyPost_ret (cU rfl _ _ gb3 32 #[.int .i64 t7,.bool t8,.slice Ao2 t9.length co2,.slice Ao1 t2.length co1,.int .i64 (wrap64 (a0_4+1))] (0,0) _ rfl (u1_ BK3) Tryz.underlying32 rfl aY) rfl ?_
 exact ⟨_,_,aE,by (with_reducible repeat (first|apply ra_|apply rn_|apply rd_));exact Kd.R_mono (rf_ (mz (Kd.R_types HO2.out BK3.out ag)) (fun _ hk=>hk.2) (.int .i64 (wrap64 (a0_4+1)))) (fun _ hk=>hk.1.2),by (with_reducible repeat (first|apply ra_|apply rn_|apply rd_));exact Kd.R_mono (rf_ (mz (Kd.R_types HO_1.out BK3.out ag)) (fun _ hk=>hk.2) (.int .i64 (wrap64 (a0_4+1)))) (fun _ hk=>hk.1.2),aD⟩

end Go.Proofs.YtbohmfnjgjijdaaGreatDoor.QFnHouses
-- packed
-- squeezed
