-- Written by px.py, a program of this session, over the kit's printer: some functions have a definition and a proof of this session's own.
import Derived.Test.YtbohmfnjgjijdaaGreatDoorQFnHousesx0
import Derived.Test.YtbohmfnjgjijdaaGreatDoorQFnHousesx1
import Derived.RangeFuncBox
import Derived.RangeFuncLeaves
import Derived.Shelf.Abstract
import Derived.OwnWalkIn
import Derived.TacticsInMore
import Derived.LoopNIn
import Derived.LoopIn
import Derived.Maps.AppendAt
import Derived.Sort.OwnSortedInts
import Derived.Shelf.Slices.In.SortNone
import Derived.Shelf.Sort.Plain
import Derived.KernelRfl
namespace Go.Proofs.YtbohmfnjgjijdaaGreatDoor.QFnHouses
open Go.RowKit Go.Proofs.YtbohmfnjgjijdaaGreatDoorW.PrintWords Go.Proofs.YtbohmfnjgjijdaaGreatDoorW.PrintLast Go.Proofs.YtbohmfnjgjijdaaGreatDoorW.PrintMore
attribute [local go_sem] ek el eM eN dU dV en eo   -- for this text's walks alone
set_option linter.unusedVariables false
set_option linter.unusedSimpArgs false
set_option maxHeartbeats 8000000
set_option maxRecDepth 100000

def ar.f (k:Nat) (a0_0:Int) (a0_1:Bool) (l0_2:List Int) (l0_3:List Int) (a0_4:Int) (a1_0:Int) (a1_1:Int) (a1_2:Int):Option (Int × Bool × List Int × List Int × Int):=(bh.f a0_0 a0_1 l0_2 l0_3 a0_4).bind fun bt226=>(if a1_0=1 then ((aq.f k a0_0 a0_1 l0_2).bind fun t236=>(if 0<(t236.length:Int) then ((cn.f k bt226.1 bt226.2.1 bt226.2.2.1 bt226.2.2.2.1 bt226.2.2.2.2 (rd t236 0)).bind fun bt240=>(some (bt240.1,bt240.2.1,bt240.2.2.1,bt240.2.2.2.1,bt240.2.2.2.2))) else (none))) else (if a1_0=2 then ((cn.f k bt226.1 bt226.2.1 bt226.2.2.1 bt226.2.2.2.1 bt226.2.2.2.2 a1_1).bind fun bt249=>(some (bt249.1,bt249.2.1,bt249.2.2.1,bt249.2.2.2.1,bt249.2.2.2.2))) else (if a1_0=3 then ((aZ.f k l0_3 a1_1).bind fun t258=>((aI.f k bt226.1 bt226.2.1 bt226.2.2.1 a1_1).bind fun bt259=>(if 0≤t258 then (if t258≤(bt226.2.2.2.1.length:Int) then (if 0≤(wrap64 (t258+1)) then (if (wrap64 (t258+1))≤(bt226.2.2.2.1.length:Int) then (some (bt259.1,bt259.2.1,bt259.2.2,(bt226.2.2.2.1.eraseIdx (t258:Int).toNat),bt226.2.2.2.2)) else (none)) else (none)) else (none)) else (none)))) else (if a1_0=4 then ((aI.f k bt226.1 bt226.2.1 bt226.2.2.1 a1_1).bind fun bt275=>((bH.f k bt275.1 bt275.2.1 bt275.2.2 a1_2).bind fun bt280=>((aZ.f k l0_3 a1_1).bind fun t285=>(if 0≤t285 then (if t285<(bt226.2.2.2.1.length:Int) then (some (bt280.1,bt280.2.1,bt280.2.2,(bt226.2.2.2.1.set (t285:Int).toNat a1_2),bt226.2.2.2.2)) else (none)) else (none))))) else (if a1_0=5 then (some (bt226.1,bt226.2.1,(([]:List Int)),(([]:List Int)),bt226.2.2.2.2)) else (some (bt226.1,bt226.2.1,bt226.2.2.1,bt226.2.2.2.1,bt226.2.2.2.2)))))))
theorem ar.mono:∀ a0 a1 a2 a3 a4 a5 a6 a7 k,LeO (ar.f k a0 a1 a2 a3 a4 a5 a6 a7) (ar.f (k+1) a0 a1 a2 a3 a4 a5 a6 a7):=by
 intro a0 a1 a2 a3 a4 a5 a6 a7 k;unfold ar.f
 repeat' with_reducible first|exact aZ.mono ..|exact cn.mono ..|exact bH.mono ..|exact aI.mono ..|exact aq.mono ..|exact LeO.refl ..|exact LeO.none ..|refine LeO.ite ?_ ?_|refine LeO.bind ?_ (fun _=>?_)
def ar.T4:Bool × List (List Nat × List Nat):=(true,[([],[]),([],[]),([1],[1]),([2],[2]),([3],[3]),([4],[4]),([0,5,3],[0,5]),([6,6,0,1,2,3,4,5,6],[6])])
def ar.B4:List Nat:=[0,0,2,6,14,30,63,127]
theorem ar.tab4:df .any (dO Tryz.f69 4)=ar.T4:=by kernel_rfl
theorem ar.bits4:ce ar.T4.2 ar.B4=true:=by kernel_rfl
def ar.T10:Bool × List (List Nat × List Nat):=(true,[([],[]),([0],[0]),([],[]),([1,2],[1,2]),([],[]),([4],[4]),([],[]),([6],[6]),([5,7],[5,7]),([3,8],[3,8]),([0,1,2,3,4,5,6,7,8,9],[]),([10,9,9,0,1,2,3,4,5,6,7,8,9],[9,10])])
def ar.B10:List Nat:=[0,1,0,7,0,16,0,64,240,511,1023,2047]
theorem ar.tab10:df .any (dO Tryz.f69 10)=ar.T10:=by kernel_rfl
theorem ar.bits10:ce ar.T10.2 ar.B10=true:=by kernel_rfl
def ar.T12:Bool × List (List Nat × List Nat):=(true,[([],[]),([0],[0]),([],[]),([2],[2]),([1,3],[1,3]),([],[]),([5],[5]),([4,6,4],[4,6]),([0,1,2,3,4,5,6,7],[]),([8,7,7,0,1,2,3,4,5,6,7],[7,8])])
def ar.B12:List Nat:=[0,1,0,4,15,0,32,127,255,511]
theorem ar.tab12:df .any (dO Tryz.f69 12)=ar.T12:=by kernel_rfl
theorem ar.bits12:ce ar.T12.2 ar.B12=true:=by kernel_rfl
def ar.T13:Bool × List (List Nat × List Nat):=(true,[([],[]),([0],[0]),([],[]),([2],[2]),([],[]),([4],[4]),([3,5],[3,5]),([],[]),([7],[7]),([1,6,0,1,2,3,4,5,6,7,8],[1,6]),([9,8,6,0,1,2,3,4,5,6,7,8],[8,9])])
def ar.B13:List Nat:=[0,1,0,4,0,16,60,0,128,511,1023]
theorem ar.tab13:df .any (dO Tryz.f69 13)=ar.T13:=by kernel_rfl
theorem ar.bits13:ce ar.T13.2 ar.B13=true:=by kernel_rfl
theorem ar.calls (k:Nat) (a0_0:Int) (a0_1:Bool) (A0_2:Option Addr) (c0_2:Nat) (l0_2:List Int) (A0_3:Option Addr) (c0_3:Nat) (l0_3:List Int) (a0_4:Int) (a1_0:Int) (a1_1:Int) (a1_2:Int) (r1:Int) (r2:Bool) (r3:List Int) (r4:List Int) (r5:Int) (w:World) (hr0_2:Kd.C (Kd.int .i64) w A0_2 l0_2.length l0_2) (hc0_2:l0_2.length≤c0_2) (hr0_3:Kd.C (Kd.int .i64) w A0_3 l0_3.length l0_3) (hc0_3:l0_3.length≤c0_3) (H:ar.f k a0_0 a0_1 l0_2 l0_3 a0_4 a1_0 a1_1 a1_2=some (r1,r2,r3,r4,r5)) :
  Calls Tryz.prog 69 #[.agg #[.int .i64 a0_0,.bool a0_1,.slice A0_2 l0_2.length c0_2,.slice A0_3 l0_3.length c0_3,.int .i64 a0_4],.agg #[.int .i64 a1_0,.int .i64 a1_1,.int .i64 a1_2]] w fun e w'=>∃ v2_ v3_:Value,e=.returned (.agg #[.int .i64 r1,.bool r2,v2_,v3_,.int .i64 r5])∧Kd.R (Kd.int .i64) 3 w' w.heap.size (fun k_=>no_ v3_ k_) v2_ r3∧Kd.R (Kd.int .i64) 3 w' w.heap.size (fun k_=>no_ v2_ k_) v3_ r4∧Below w.heap.size w w':=by
 have hu32:=Tryz.underlying32;have hu50:=Tryz.underlying50;have hu30:=Tryz.underlying30;have HR0_2:=A0_ hr0_2;have HC0_2:=A0_ hc0_2;clear hr0_2 hc0_2;have HR0_3:=A0_ hr0_3;have HC0_3:=A0_ hc0_3;clear hr0_3 hc0_3;have HB:=A0_ (Below.refl w.heap.size w);unfold ar.f at H;obtain ⟨⟨t4,t5,t6,t7,t8⟩,A2,H⟩:=o1_ H
 by_cases c1:a1_0=1
 ·rw [if_pos c1] at H
  obtain ⟨c1b0,c1b1⟩:=et_ c1;clear c1;obtain ⟨t1,A4,H⟩:=o1_ H;obtain ⟨c2,H⟩:=is_ H;have c2b0:decide (0<(t1.length:Int))=true:=dt_ c2;have c2b1:decide (0<t1.length)=true:=dt_ bm;clear c2;obtain ⟨⟨t9,t10,t11,t12,t13⟩,A6,H⟩:=o1_ H;replace H:(some (t9,t10,t11,t12,t13))=some (r1,r2,r3,r4,r5):=H;simp only [sj_,pj_] at H;obtain ⟨rfl,rfl,rfl,rfl,rfl⟩:=H;go_enter Tryz.func69,Tryz.ntmps69
  try go_wp2_with (first|((with_reducible refine gd_ (N:=2) rfl ?_);refine bx_ 2 #[.int .i64 a0_0,.bool a0_1,.slice A0_2 l0_2.length c0_2,.slice A0_3 l0_3.length c0_3,.int .i64 a0_4] 32 ?_;intro gb1 hg w1 BK1 hb;have GW1:=ge_ hg ai;have GE1:=GW1;replace HB:=hb_ hb ai;clear hb hg)|((with_reducible refine gd_ (N:=3) rfl ?_);refine bx_ 3 #[.int .i64 a1_0,.int .i64 a1_1,.int .i64 a1_2] 50 ?_;intro gb2 hg w2 BK2 hb;have GW2:=ge_ hg aj;have GE2:=GW2;replace HB:=hb_ hb aj;obtain ⟨NB1_2,NB2_1⟩:=nn_ hg BK1;replace BK1:=k1_ BK1 hb;clear hb hg)|((with_reducible refine gd_ (N:=4) rfl ?_);refine bx_ 4 #[.int .i64 0,.bool false,.slice none 0 0,.slice none 0 0,.int .i64 0] 32 ?_;intro gb3 hg w3 BK3 hb;have GW3:=ge_ hg au;have GE3:=GW3;replace HB:=hb_ hb au;obtain ⟨NB1_3,NB3_1⟩:=nn_ hg BK1;replace BK1:=k1_ BK1 hb;obtain ⟨NB2_3,NB3_2⟩:=nn_ hg BK2;replace BK2:=k1_ BK2 hb;clear hb hg;obtain ⟨hnb1,hnc1⟩:=n2_ NB1_2;obtain ⟨hnb2,hnc2⟩:=n2_ NB1_3;have hcz1:=z5_ BK1)|((with_reducible refine gc_ (f:=33) rfl ?_);refine gl_ 8 Tryz.func33 #[.agg #[.int .i64 a0_0,.bool a0_1,.slice A0_2 l0_2.length c0_2,.slice A0_3 l0_3.length c0_3,.int .i64 a0_4]] ?_;(with_reducible refine (bh.calls a0_0 a0_1 _ _ l0_2 _ _ l0_3 a0_4 t4 t5 t6 t7 t8 _ ?_ ?_ ?_ ?_ A2.out).mono ?_);exact bz;exact HC0_2.out;exact b6;exact HC0_3.out;rintro e w4 ⟨v1,v4,rfl,ho0,ho1,hb⟩;refine ⟨_,rfl,?_⟩;have HO1:=A0_ (Kd.R_lower ho0 (bz_ aD));have HO2:=A0_ (Kd.R_lower ho1 (bz_ aD));replace BK1:=k1_ BK1 hb;replace BK2:=k1_ BK2 hb;replace BK3:=k1_ BK3 hb;replace HB:=hb_ hb aD;(try clear hb ho0 ho1))|((with_reducible refine gd_ (N:=5) rfl ?_);refine bx_ 5 #[.int .i64 0,.bool false,.slice none 0 0,.slice none 0 0,.int .i64 0] 32 ?_;intro gb4 hg w5 BK4 hb;replace HO1:=q1_ HO1 hb;replace HO2:=q1_ HO2 hb;have GW4:=ge_ hg aD;have GE4:=GW4;replace HB:=hb_ hb aD;obtain ⟨NB1_4,NB4_1⟩:=nn_ hg BK1;replace BK1:=k1_ BK1 hb;obtain ⟨NB2_4,NB4_2⟩:=nn_ hg BK2;replace BK2:=k1_ BK2 hb;obtain ⟨NB3_4,NB4_3⟩:=nn_ hg BK3;replace BK3:=k1_ BK3 hb;clear hb hg;obtain ⟨hnb3,hnc3⟩:=n2_ NB4_1;obtain ⟨hnb4,hnc4⟩:=n2_ NB4_2;obtain ⟨hnb5,hnc5⟩:=n2_ NB4_3;have hcz2:=z5_ BK4;obtain ⟨Ao1,co1,eo1⟩:=Kd.R_slice HO1.out;subst eo1;obtain ⟨Ao2,co2,eo2⟩:=Kd.R_slice HO2.out;subst eo2;obtain ⟨hnb6,hnc6⟩:=n2_ NB2_3;have hcz3_0:=y_ BK2 0;have hcz3_1:=y_ BK2 1;have hcz3_2:=y_ BK2 2;have hfz3_0:=kf_ BK2.out 0;have hfz3_1:=kf_ BK2.out 1;have hfz3_2:=kf_ BK2.out 2))
  have n0_:Aside0 (Kd.R (Kd.int .i64) 3 (((((w5.setCell ⟨gb4,0,none⟩ (.int .i64 t4)).setCell ⟨gb4,1,none⟩ (.bool t5)).setCell ⟨gb4,2,none⟩ (.slice Ao1 t6.length co1)).setCell ⟨gb4,3,none⟩ (.slice Ao2 t7.length co2)).setCell ⟨gb4,4,none⟩ (.int .i64 t8)) w.heap.size (fun k_=>no_ (.slice Ao2 t7.length co2) k_) (.slice Ao1 t6.length co1) t6):=⟨nS⟩;have n1_:Aside0 (Kd.R (Kd.int .i64) 3 (((((w5.setCell ⟨gb4,0,none⟩ (.int .i64 t4)).setCell ⟨gb4,1,none⟩ (.bool t5)).setCell ⟨gb4,2,none⟩ (.slice Ao1 t6.length co1)).setCell ⟨gb4,3,none⟩ (.slice Ao2 t7.length co2)).setCell ⟨gb4,4,none⟩ (.int .i64 t8)) w.heap.size (fun k_=>no_ (.slice Ao1 t6.length co1) k_) (.slice Ao2 t7.length co2) t7):=⟨nK⟩;have n2_:Aside0 ((((((w5.setCell ⟨gb4,0,none⟩ (.int .i64 t4)).setCell ⟨gb4,1,none⟩ (.bool t5)).setCell ⟨gb4,2,none⟩ (.slice Ao1 t6.length co1)).setCell ⟨gb4,3,none⟩ (.slice Ao2 t7.length co2)).setCell ⟨gb4,4,none⟩ (.int .i64 t8)).heap[gb1]?=some (.cells #[.int .i64 a0_0,.bool a0_1,.slice A0_2 l0_2.length c0_2,.slice A0_3 l0_3.length c0_3,.int .i64 a0_4] 32 (0,0))):=⟨u1_ BK1⟩;have n3_:Aside0 ((((((w5.setCell ⟨gb4,0,none⟩ (.int .i64 t4)).setCell ⟨gb4,1,none⟩ (.bool t5)).setCell ⟨gb4,2,none⟩ (.slice Ao1 t6.length co1)).setCell ⟨gb4,3,none⟩ (.slice Ao2 t7.length co2)).setCell ⟨gb4,4,none⟩ (.int .i64 t8)).heap[gb2]?=some (.cells #[.int .i64 a1_0,.int .i64 a1_1,.int .i64 a1_2] 50 (0,0))):=⟨u1_ BK2⟩;have n4_:Aside0 ((((((w5.setCell ⟨gb4,0,none⟩ (.int .i64 t4)).setCell ⟨gb4,1,none⟩ (.bool t5)).setCell ⟨gb4,2,none⟩ (.slice Ao1 t6.length co1)).setCell ⟨gb4,3,none⟩ (.slice Ao2 t7.length co2)).setCell ⟨gb4,4,none⟩ (.int .i64 t8)).heap[gb3]?=some (.cells #[.int .i64 0,.bool false,.slice none 0 0,.slice none 0 0,.int .i64 0] 32 (0,0))):=⟨u1_ BK3⟩;have n5_:Aside0 ((((((w5.setCell ⟨gb4,0,none⟩ (.int .i64 t4)).setCell ⟨gb4,1,none⟩ (.bool t5)).setCell ⟨gb4,2,none⟩ (.slice Ao1 t6.length co1)).setCell ⟨gb4,3,none⟩ (.slice Ao2 t7.length co2)).setCell ⟨gb4,4,none⟩ (.int .i64 t8)).heap[gb4]?=some (.cells #[.int .i64 t4,.bool t5,.slice Ao1 t6.length co1,.slice Ao2 t7.length co2,.int .i64 t8] 32 (0,0))):=⟨u1_ BK4⟩;have n6_:Aside0 (Below w.heap.size w (((((w5.setCell ⟨gb4,0,none⟩ (.int .i64 t4)).setCell ⟨gb4,1,none⟩ (.bool t5)).setCell ⟨gb4,2,none⟩ (.slice Ao1 t6.length co1)).setCell ⟨gb4,3,none⟩ (.slice Ao2 t7.length co2)).setCell ⟨gb4,4,none⟩ (.int .i64 t8))):=⟨ca⟩
  (try clear HO1)
  (try clear HO2)
  (try clear BK1)
  (try clear BK2)
  (try clear BK3)
  (try clear BK4)
  (try clear HB)
  generalize (((((w5.setCell ⟨gb4,0,none⟩ (.int .i64 t4)).setCell ⟨gb4,1,none⟩ (.bool t5)).setCell ⟨gb4,2,none⟩ (.slice Ao1 t6.length co1)).setCell ⟨gb4,3,none⟩ (.slice Ao2 t7.length co2)).setCell ⟨gb4,4,none⟩ (.int .i64 t8))=w6 at n0_ n1_ n2_ n3_ n4_ n5_ n6_ ⊢;have HO1:=n0_;have HO2:=n1_;have BK1:=n2_;have BK2:=n3_;have BK3:=n4_;have BK4:=n5_;have HB:=n6_;clear n0_ n1_ n2_ n3_ n4_ n5_ n6_;replace HO1:=A0_ (rd_ HO1.out);replace HO2:=A0_ (rd_ HO2.out);replace BK1:=A0_ (kd_ BK1.out);replace BK2:=A0_ (kd_ BK2.out);replace BK3:=A0_ (kd_ BK3.out);replace BK4:=A0_ (kd_ BK4.out);replace HB:=A0_ (bd_ HB.out)
  refine dd (n:=8) (S:=fun w'=>w'.cell? ⟨gb4,0,none⟩=some (.int .i64 t4)∧w'.cell? ⟨gb4,1,none⟩=some (.bool t5)∧w'.cell? ⟨gb4,2,none⟩=some (.slice Ao1 t6.length co1)∧w'.cell? ⟨gb4,3,none⟩=some (.slice Ao2 t7.length co2)∧w'.cell? ⟨gb4,4,none⟩=some (.int .i64 t8)∧w'.cell? ⟨gb1,0,none⟩=some (.int .i64 a0_0)∧w'.cell? ⟨gb1,1,none⟩=some (.bool a0_1)∧w'.cell? ⟨gb1,2,none⟩=some (.slice A0_2 l0_2.length c0_2)∧w'.cell? ⟨gb1,3,none⟩=some (.slice A0_3 l0_3.length c0_3)∧w'.cell? ⟨gb1,4,none⟩=some (.int .i64 a0_4)) (ds:=[7]) #[false,false,false,false,false,false,false,false] aY rfl rfl (a5_ BK4 (c5_ BK1)) (fun hHeld=>?_);refine cu ar.tab4 ar.bits4 (fun HT_ HW_=>?_)
  generalize w6.drew=w7 at HO1 HO2 BK1 BK2 BK3 BK4 HB hHeld ⊢
  refine pu_ 1 14 ?_
  refine tk_ 0 13 hHeld ?_
  refine tk_ 2 15 hHeld ?_
  refine on_ 3 (some 16) (fun K hK=>?_)
  refine gs_ Tryz.func90 #[.agg #[.int .i64 a0_0,.bool a0_1,.slice A0_2 l0_2.length c0_2]] ?_
  with_reducible refine (aq.calls k a0_0 a0_1 _ _ l0_2 t1 _ ?_ ?_ A4.out).mono ?_
  exact bz
  exact HC0_2.out
  rintro e w8 ⟨v5,rfl,ho0,hb⟩
  refine ⟨_,rfl,?_⟩
  have HO3:=A0_ (Kd.R_lower (Kd.R_new' (Kd.R_new' ho0 (Kd.R_lt bx)) (Kd.R_lt cd)) (bz_ ca));replace HO1:=A0_ (Kd.R_elder' bx (Kd.R_base ho0) hb);replace HO2:=A0_ (Kd.R_elder' cd (Kd.R_base ho0) hb);replace BK1:=k1_ BK1 hb;replace BK2:=k1_ BK2 hb;replace BK3:=k1_ BK3 hb;replace BK4:=k1_ BK4 hb;replace HB:=hb_ hb ca
  (try clear hb ho0)
  obtain ⟨Ao3,co3,eo3⟩:=Kd.R_slice HO3.out
  (first|subst eo3|(injection eo3 with f1_ f2_ f3_;have f4_:=f1_.symm;have f5_:=f3_.symm;clear f1_ f2_ f3_;subst f4_;subst f5_))
  have p1:0≤(0:Int):=bm;have q1:0<(t1.length:Int):=od_ ay;obtain ⟨ad1,e1,hx1_0⟩:=Kd.at_int (rr_ HO3.out).2.2 0 p1 q1;cases e1;have qi239:(0<t1.length)=True:=eq_true bm
  (try rw [show ((0:Int)).toNat=0 from rfl] at hx1_0)
  (try rw [Addr.add_zero'] at hx1_0)
  replace p1:=eq_true p1;replace q1:=eq_true q1
  refine hK.out _ _ (a5_ BK4 (c5_ BK1)) (fun hHeld=>?_)
  clear hK K
  refine nm_ 16 ?_
  refine pu_ 4 17 ?_
  refine on_ 5 (some 18) (fun K hK=>?_)
  refine gS (w1:=?_) (v:=?_) (by rfl) rfl ?_ ?_
  rotate_left 2
  ·go_simp
   constructor
   ·rfl
   rfl
  refine hK.out _ _ (a5_ BK4 (c5_ BK1)) (fun hHeld=>?_)
  clear hK K
  refine nm_ 18 ?_
  refine on_ 6 (some 19) (fun K hK=>?_)
  refine gs_ Tryz.func89 #[.agg #[.int .i64 t4,.bool t5,.slice Ao1 t6.length co1,.slice Ao2 t7.length co2,.int .i64 t8],.int .i64 (rd t1 0)] ?_
  with_reducible refine (cn.calls k t4 t5 _ _ t6 _ _ t7 t8 (rd t1 0) t9 t10 t11 t12 t13 _ ?_ ?_ ?_ ?_ A6.out).mono ?_
  exact dW
  exact (rr_ HO1.out).2.1
  exact f6
  exact (rr_ HO2.out).2.1
  rintro e w9 ⟨v6,v7,rfl,ho0,ho1,hb⟩
  refine ⟨_,rfl,?_⟩
  have HO4:=A0_ (Kd.R_lower (Kd.R_new' (Kd.R_new' (Kd.R_new' ho0 (Kd.R_lt bx)) (Kd.R_lt cd)) (Kd.R_lt d9)) (bz_ ca));have HO5:=A0_ (Kd.R_lower (Kd.R_new' (Kd.R_new' (Kd.R_new' ho1 (Kd.R_lt bx)) (Kd.R_lt cd)) (Kd.R_lt d9)) (bz_ ca));replace HO1:=A0_ (Kd.R_mono (Kd.R_told (Kd.R_told (Kd.R_old bx hb) (Kd.R_base ho0)) (Kd.R_base ho1)) (fun _ h_=>h_.1));replace HO2:=A0_ (Kd.R_mono (Kd.R_told (Kd.R_told (Kd.R_old cd hb) (Kd.R_base ho0)) (Kd.R_base ho1)) (fun _ h_=>h_.1));replace HO3:=A0_ (Kd.R_mono (Kd.R_told (Kd.R_told (Kd.R_old d9 hb) (Kd.R_base ho0)) (Kd.R_base ho1)) (fun _ h_=>h_.1));replace BK1:=k1_ BK1 hb;replace BK2:=k1_ BK2 hb;replace BK3:=k1_ BK3 hb;replace BK4:=k1_ BK4 hb;replace HB:=hb_ hb ca
  (try clear hb ho0 ho1)
  obtain ⟨Ao4,co4,eo4⟩:=Kd.R_slice HO4.out
  (first|subst eo4|(injection eo4 with f1_ f2_ f3_;have f4_:=f1_.symm;have f5_:=f3_.symm;clear f1_ f2_ f3_;subst f4_;subst f5_))
  obtain ⟨Ao5,co5,eo5⟩:=Kd.R_slice HO5.out
  (first|subst eo5|(injection eo5 with f1_ f2_ f3_;have f4_:=f1_.symm;have f5_:=f3_.symm;clear f1_ f2_ f3_;subst f4_;subst f5_))
  refine hK.out _ _ (a5_ BK4 (c5_ BK1)) (fun hHeld=>?_)
  clear hK K
  refine nm_ 19 ?_
  refine iG (i:=7) (N:=none) #[true,true,true,true,true,true,true,true] rfl rfl (ft HT_.out aY) ag (fun K hK=>?_)
  have hs29:=y_ BK4 0;have hfs29:=kf_ BK4.out 0;have hns1_0:=NB1_4.out;have hns1_1:=NB2_4.out;have hns1_2:=NB3_4.out;have hms1_0:=NB4_1.out;have hms1_1:=NB4_2.out;have hms1_2:=NB4_3.out;have hs30:=y_ BK4 1;have hfs30:=kf_ BK4.out 1;have hns2_0:=NB1_4.out;have hns2_1:=NB2_4.out;have hns2_2:=NB3_4.out;have hms2_0:=NB4_1.out;have hms2_1:=NB4_2.out;have hms2_2:=NB4_3.out;have hs32:=y_ BK4 2;have hfs32:=kf_ BK4.out 2;have hns3_0:=NB1_4.out;have hns3_1:=NB2_4.out;have hns3_2:=NB3_4.out;have hms3_0:=NB4_1.out;have hms3_1:=NB4_2.out;have hms3_2:=NB4_3.out;have hs34:=y_ BK4 3;have hfs34:=kf_ BK4.out 3;have hns4_0:=NB1_4.out;have hns4_1:=NB2_4.out;have hns4_2:=NB3_4.out;have hms4_0:=NB4_1.out;have hms4_1:=NB4_2.out;have hms4_2:=NB4_3.out;have hs35:=y_ BK4 4;have hfs35:=kf_ BK4.out 4;have hns5_0:=NB1_4.out;have hns5_1:=NB2_4.out;have hns5_2:=NB3_4.out;have hms5_0:=NB4_1.out;have hms5_1:=NB4_2.out;have hms5_2:=NB4_3.out
  refine ea (w1:=?_) (by rfl) rfl ?_ ?_
  rotate_left
  ·go_simp
   rfl
  refine hK.out _ _ ?_
  clear hK K
  refine dn_ ?_
  have hcz4:=z5_ BK4;have hcz5:=z5_ BK3
  try go_wp2
  refine bodyPost_ret (results_cell_row rfl _ _ gb3 32 #[.int .i64 t9,.bool t10,.slice Ao4 t11.length co4,.slice Ao5 t12.length co5,.int .i64 t13] (0,0) _ rfl (u1_ BK3) Tryz.underlying32 rfl aY) rfl ?_
  exact ⟨_,_,aE,by (with_reducible repeat (first|apply ra_|apply rn_|apply rd_));exact Kd.R_mono (bw (rf_ (rf_ (rf_ (rf_ (rf_ (Kd.R_types (Kd.R_types HO4.out BK4.out ag) BK3.out ag) (fun _ hk=>hk.1.2) (.int .i64 t9)) (fun _ hk=>hk.1.2) (.bool t10)) (fun _ hk=>hk.1.2) (.slice Ao4 t11.length co4)) (fun _ hk=>hk.1.2) (.slice Ao5 t12.length co5)) (fun _ hk=>hk.1.2) (.int .i64 t13))) (fun _ hk=>hk.1.1.1.1.1),by (with_reducible repeat (first|apply ra_|apply rn_|apply rd_));exact Kd.R_mono (bw (rf_ (rf_ (rf_ (rf_ (rf_ (Kd.R_types (Kd.R_types HO5.out BK4.out ag) BK3.out ag) (fun _ hk=>hk.1.2) (.int .i64 t9)) (fun _ hk=>hk.1.2) (.bool t10)) (fun _ hk=>hk.1.2) (.slice Ao4 t11.length co4)) (fun _ hk=>hk.1.2) (.slice Ao5 t12.length co5)) (fun _ hk=>hk.1.2) (.int .i64 t13))) (fun _ hk=>hk.1.1.1.1.1),ca⟩
 rw [if_neg c1] at H;obtain ⟨c1b0,c1b1⟩:=ef_ c1
 by_cases c2:a1_0=2
 ·rw [if_pos c2] at H
  obtain ⟨c2b0,c2b1⟩:=et_ c2;clear c2;obtain ⟨⟨t9,t10,t11,t12,t13⟩,A4,H⟩:=o1_ H;replace H:(some (t9,t10,t11,t12,t13))=some (r1,r2,r3,r4,r5):=H;simp only [sj_,pj_] at H;obtain ⟨rfl,rfl,rfl,rfl,rfl⟩:=H;go_enter Tryz.func69,Tryz.ntmps69
  go_wp2_with (first|((with_reducible refine gd_ (N:=2) rfl ?_);refine bx_ 2 #[.int .i64 a0_0,.bool a0_1,.slice A0_2 l0_2.length c0_2,.slice A0_3 l0_3.length c0_3,.int .i64 a0_4] 32 ?_;intro gb1 hg w1 BK1 hb;have GW1:=ge_ hg ai;have GE1:=GW1;replace HB:=hb_ hb ai;clear hb hg)|((with_reducible refine gd_ (N:=3) rfl ?_);refine bx_ 3 #[.int .i64 a1_0,.int .i64 a1_1,.int .i64 a1_2] 50 ?_;intro gb2 hg w2 BK2 hb;have GW2:=ge_ hg aj;have GE2:=GW2;replace HB:=hb_ hb aj;obtain ⟨NB1_2,NB2_1⟩:=nn_ hg BK1;replace BK1:=k1_ BK1 hb;clear hb hg)|((with_reducible refine gd_ (N:=4) rfl ?_);refine bx_ 4 #[.int .i64 0,.bool false,.slice none 0 0,.slice none 0 0,.int .i64 0] 32 ?_;intro gb3 hg w3 BK3 hb;have GW3:=ge_ hg au;have GE3:=GW3;replace HB:=hb_ hb au;obtain ⟨NB1_3,NB3_1⟩:=nn_ hg BK1;replace BK1:=k1_ BK1 hb;obtain ⟨NB2_3,NB3_2⟩:=nn_ hg BK2;replace BK2:=k1_ BK2 hb;clear hb hg;obtain ⟨hnb1,hnc1⟩:=n2_ NB1_2;obtain ⟨hnb2,hnc2⟩:=n2_ NB1_3;have hcz1:=z5_ BK1)|((with_reducible refine gc_ (f:=33) rfl ?_);refine gl_ 8 Tryz.func33 #[.agg #[.int .i64 a0_0,.bool a0_1,.slice A0_2 l0_2.length c0_2,.slice A0_3 l0_3.length c0_3,.int .i64 a0_4]] ?_;(with_reducible refine (bh.calls a0_0 a0_1 _ _ l0_2 _ _ l0_3 a0_4 t4 t5 t6 t7 t8 _ ?_ ?_ ?_ ?_ A2.out).mono ?_);exact bz;exact HC0_2.out;exact b6;exact HC0_3.out;rintro e w4 ⟨v1,v4,rfl,ho0,ho1,hb⟩;refine ⟨_,rfl,?_⟩;have HO1:=A0_ (Kd.R_lower ho0 (bz_ aD));have HO2:=A0_ (Kd.R_lower ho1 (bz_ aD));replace BK1:=k1_ BK1 hb;replace BK2:=k1_ BK2 hb;replace BK3:=k1_ BK3 hb;replace HB:=hb_ hb aD;(try clear hb ho0 ho1))|((with_reducible refine gd_ (N:=5) rfl ?_);refine bx_ 5 #[.int .i64 0,.bool false,.slice none 0 0,.slice none 0 0,.int .i64 0] 32 ?_;intro gb4 hg w5 BK4 hb;replace HO1:=q1_ HO1 hb;replace HO2:=q1_ HO2 hb;have GW4:=ge_ hg aD;have GE4:=GW4;replace HB:=hb_ hb aD;obtain ⟨NB1_4,NB4_1⟩:=nn_ hg BK1;replace BK1:=k1_ BK1 hb;obtain ⟨NB2_4,NB4_2⟩:=nn_ hg BK2;replace BK2:=k1_ BK2 hb;obtain ⟨NB3_4,NB4_3⟩:=nn_ hg BK3;replace BK3:=k1_ BK3 hb;clear hb hg;obtain ⟨hnb3,hnc3⟩:=n2_ NB4_1;obtain ⟨hnb4,hnc4⟩:=n2_ NB4_2;obtain ⟨hnb5,hnc5⟩:=n2_ NB4_3;have hcz2:=z5_ BK4;obtain ⟨Ao1,co1,eo1⟩:=Kd.R_slice HO1.out;subst eo1;obtain ⟨Ao2,co2,eo2⟩:=Kd.R_slice HO2.out;subst eo2;obtain ⟨hnb6,hnc6⟩:=n2_ NB2_3;have hcz3_0:=y_ BK2 0;have hcz3_1:=y_ BK2 1;have hcz3_2:=y_ BK2 2;have hfz3_0:=kf_ BK2.out 0;have hfz3_1:=kf_ BK2.out 1;have hfz3_2:=kf_ BK2.out 2)|((with_reducible refine gc_ (f:=89) rfl ?_);refine gl_ 25 Tryz.func89 #[.agg #[.int .i64 t4,.bool t5,.slice Ao1 t6.length co1,.slice Ao2 t7.length co2,.int .i64 t8],.int .i64 a1_1] ?_;(with_reducible refine (cn.calls k t4 t5 _ _ t6 _ _ t7 t8 a1_1 t9 t10 t11 t12 t13 _ ?_ ?_ ?_ ?_ A4.out).mono ?_);(refine (rr_ (e:=3) (base:=w.heap.size) (ok:=fun k_=>no_ (.slice Ao2 t7.length co2) k_) (n:=t6.length) (c:=co1) ?_).2.2;exact gD);exact (rr_ HO1.out).2.1;(refine (rr_ (e:=3) (base:=w.heap.size) (ok:=fun k_=>no_ (.slice Ao1 t6.length co1) k_) (n:=t7.length) (c:=co2) ?_).2.2;exact hU);exact (rr_ HO2.out).2.1;rintro e w6 ⟨v5,v6,rfl,ho0,ho1,hb⟩;refine ⟨_,rfl,?_⟩;have HO3:=A0_ (Kd.R_lower (Kd.R_new' (Kd.R_new' ho0 (Kd.R_lt gD)) (Kd.R_lt hU)) (bz_ ca));have HO4:=A0_ (Kd.R_lower (Kd.R_new' (Kd.R_new' ho1 (Kd.R_lt gD)) (Kd.R_lt hU)) (bz_ ca));replace HO1:=A0_ (Kd.R_mono (Kd.R_told (Kd.R_told (Kd.R_old gD hb) (Kd.R_base ho0)) (Kd.R_base ho1)) (fun _ h_=>h_.1));replace HO2:=A0_ (Kd.R_mono (Kd.R_told (Kd.R_told (Kd.R_old hU hb) (Kd.R_base ho0)) (Kd.R_base ho1)) (fun _ h_=>h_.1));replace BK1:=k1_ BK1 hb;replace BK2:=k1_ BK2 hb;replace BK3:=k1_ BK3 hb;replace BK4:=k2_ (.cells #[.int .i64 t4,.bool t5,.slice Ao1 t6.length co1,.slice Ao2 t7.length co2,.int .i64 t8] 32 (0,0)) BK4 hb;replace HB:=hb_ hb ca;(try clear hb ho0 ho1);have hcz4:=z5_ BK4;obtain ⟨Ao3,co3,eo3⟩:=Kd.R_slice HO3.out;subst eo3;obtain ⟨Ao4,co4,eo4⟩:=Kd.R_slice HO4.out;subst eo4;have hcz5_0:=y_ BK3 0;have hcz5_1:=y_ BK3 1;have hcz5_2:=y_ BK3 2;have hcz5_3:=y_ BK3 3;have hcz5_4:=y_ BK3 4;have hfz5_0:=kf_ BK3.out 0;have hfz5_1:=kf_ BK3.out 1;have hfz5_2:=kf_ BK3.out 2;have hfz5_3:=kf_ BK3.out 3;have hfz5_4:=kf_ BK3.out 4))
  refine bodyPost_ret (results_cell_row rfl _ _ gb3 32 #[.int .i64 t9,.bool t10,.slice Ao3 t11.length co3,.slice Ao4 t12.length co4,.int .i64 t13] (0,0) _ rfl (u1_ BK3) Tryz.underlying32 rfl aY) rfl ?_
  exact ⟨_,_,aE,by (with_reducible repeat (first|apply ra_|apply rn_|apply rd_));exact Kd.R_mono (bw (rf_ (rf_ (rf_ (rf_ (rf_ (Kd.R_types (Kd.R_types HO3.out BK4.out ag) BK3.out ag) (fun _ hk=>hk.1.2) (.int .i64 t9)) (fun _ hk=>hk.1.2) (.bool t10)) (fun _ hk=>hk.1.2) (.slice Ao3 t11.length co3)) (fun _ hk=>hk.1.2) (.slice Ao4 t12.length co4)) (fun _ hk=>hk.1.2) (.int .i64 t13))) (fun _ hk=>hk.1.1.1.1),by (with_reducible repeat (first|apply ra_|apply rn_|apply rd_));exact Kd.R_mono (bw (rf_ (rf_ (rf_ (rf_ (rf_ (Kd.R_types (Kd.R_types HO4.out BK4.out ag) BK3.out ag) (fun _ hk=>hk.1.2) (.int .i64 t9)) (fun _ hk=>hk.1.2) (.bool t10)) (fun _ hk=>hk.1.2) (.slice Ao3 t11.length co3)) (fun _ hk=>hk.1.2) (.slice Ao4 t12.length co4)) (fun _ hk=>hk.1.2) (.int .i64 t13))) (fun _ hk=>hk.1.1.1.1),ca⟩
 rw [if_neg c2] at H;obtain ⟨c2b0,c2b1⟩:=ef_ c2
 by_cases c3:a1_0=3
 ·rw [if_pos c3] at H
  obtain ⟨c3b0,c3b1⟩:=et_ c3;clear c3;obtain ⟨t2,A4,H⟩:=o1_ H;obtain ⟨⟨t9,t10,t11⟩,A6,H⟩:=o1_ H;obtain ⟨c4b0,c4b1,H⟩:=i2_ H;obtain ⟨c5b0,c5b1,H⟩:=i2_ H;obtain ⟨y1,hy1⟩:∃ y_:List Int,y_=(t7.take (t2:Int).toNat):=⟨_,rfl⟩;replace H:(if 0≤(wrap64 (t2+1)) then (if (wrap64 (t2+1))≤(t7.length:Int) then (some (t9,t10,t11,(t7.eraseIdx (t2:Int).toNat),t8)) else (none)) else (none))=some (r1,r2,r3,r4,r5):=dx;have Ny1:=A0_ hy1;clear hy1;obtain ⟨ji1,hji1⟩:∃ j_:Int,(wrap64 (t2+1))=j_:=⟨_,rfl⟩;replace H:(if 0≤(ji1) then (if (ji1)≤(t7.length:Int) then (some (t9,t10,t11,(t7.eraseIdx (t2:Int).toNat),t8)) else (none)) else (none))=some (r1,r2,r3,r4,r5):=gG
  (try rw [hji1] at A2)
  (try rw [hji1] at A4)
  (try rw [hji1] at A6)
  have hji66w:(IntKind.i64.wrap (t2+1))=ji1:=(dD _).trans hji1;obtain ⟨c6b0,c6b1,H⟩:=i2_ H;obtain ⟨c7b0,c7b1,H⟩:=i2_ H;obtain ⟨y2,hy2⟩:∃ y_:List Int,y_=(t7.drop ((ji1):Int).toNat):=⟨_,rfl⟩;replace H:(some (t9,t10,t11,(t7.eraseIdx (t2:Int).toNat),t8))=some (r1,r2,r3,r4,r5):=dH;have Ny2:=A0_ hy2;clear hy2;obtain ⟨y3,hy3⟩:∃ y_:List Int,y_=(t7.eraseIdx (t2:Int).toNat):=⟨_,rfl⟩;replace H:(some (t9,t10,t11,y3,t8))=some (r1,r2,r3,r4,r5):=it;have Ny3:=A0_ hy3;clear hy3;simp only [sj_,pj_] at H;obtain ⟨rfl,rfl,rfl,rfl,rfl⟩:=H;go_enter Tryz.func69,Tryz.ntmps69
  try go_wp2_with (first|((with_reducible refine gd_ (N:=2) rfl ?_);refine bx_ 2 #[.int .i64 a0_0,.bool a0_1,.slice A0_2 l0_2.length c0_2,.slice A0_3 l0_3.length c0_3,.int .i64 a0_4] 32 ?_;intro gb1 hg w1 BK1 hb;have GW1:=ge_ hg ai;have GE1:=GW1;replace HB:=hb_ hb ai;clear hb hg)|((with_reducible refine gd_ (N:=3) rfl ?_);refine bx_ 3 #[.int .i64 a1_0,.int .i64 a1_1,.int .i64 a1_2] 50 ?_;intro gb2 hg w2 BK2 hb;have GW2:=ge_ hg aj;have GE2:=GW2;replace HB:=hb_ hb aj;obtain ⟨NB1_2,NB2_1⟩:=nn_ hg BK1;replace BK1:=k1_ BK1 hb;clear hb hg)|((with_reducible refine gd_ (N:=4) rfl ?_);refine bx_ 4 #[.int .i64 0,.bool false,.slice none 0 0,.slice none 0 0,.int .i64 0] 32 ?_;intro gb3 hg w3 BK3 hb;have GW3:=ge_ hg au;have GE3:=GW3;replace HB:=hb_ hb au;obtain ⟨NB1_3,NB3_1⟩:=nn_ hg BK1;replace BK1:=k1_ BK1 hb;obtain ⟨NB2_3,NB3_2⟩:=nn_ hg BK2;replace BK2:=k1_ BK2 hb;clear hb hg;obtain ⟨hnb1,hnc1⟩:=n2_ NB1_2;obtain ⟨hnb2,hnc2⟩:=n2_ NB1_3;have hcz1:=z5_ BK1)|((with_reducible refine gc_ (f:=33) rfl ?_);refine gl_ 8 Tryz.func33 #[.agg #[.int .i64 a0_0,.bool a0_1,.slice A0_2 l0_2.length c0_2,.slice A0_3 l0_3.length c0_3,.int .i64 a0_4]] ?_;(with_reducible refine (bh.calls a0_0 a0_1 _ _ l0_2 _ _ l0_3 a0_4 t4 t5 t6 t7 t8 _ ?_ ?_ ?_ ?_ A2.out).mono ?_);exact bz;exact HC0_2.out;exact b6;exact HC0_3.out;rintro e w4 ⟨v1,v4,rfl,ho0,ho1,hb⟩;refine ⟨_,rfl,?_⟩;have HO1:=A0_ (Kd.R_lower ho0 (bz_ aD));have HO2:=A0_ (Kd.R_lower ho1 (bz_ aD));replace BK1:=k1_ BK1 hb;replace BK2:=k1_ BK2 hb;replace BK3:=k1_ BK3 hb;replace HB:=hb_ hb aD;(try clear hb ho0 ho1))|((with_reducible refine gd_ (N:=5) rfl ?_);refine bx_ 5 #[.int .i64 0,.bool false,.slice none 0 0,.slice none 0 0,.int .i64 0] 32 ?_;intro gb4 hg w5 BK4 hb;replace HO1:=q1_ HO1 hb;replace HO2:=q1_ HO2 hb;have GW4:=ge_ hg aD;have GE4:=GW4;replace HB:=hb_ hb aD;obtain ⟨NB1_4,NB4_1⟩:=nn_ hg BK1;replace BK1:=k1_ BK1 hb;obtain ⟨NB2_4,NB4_2⟩:=nn_ hg BK2;replace BK2:=k1_ BK2 hb;obtain ⟨NB3_4,NB4_3⟩:=nn_ hg BK3;replace BK3:=k1_ BK3 hb;clear hb hg;obtain ⟨hnb3,hnc3⟩:=n2_ NB4_1;obtain ⟨hnb4,hnc4⟩:=n2_ NB4_2;obtain ⟨hnb5,hnc5⟩:=n2_ NB4_3;have hcz2:=z5_ BK4;obtain ⟨Ao1,co1,eo1⟩:=Kd.R_slice HO1.out;subst eo1;obtain ⟨Ao2,co2,eo2⟩:=Kd.R_slice HO2.out;subst eo2;obtain ⟨hnb6,hnc6⟩:=n2_ NB2_3;have hcz3_0:=y_ BK2 0;have hcz3_1:=y_ BK2 1;have hcz3_2:=y_ BK2 2;have hfz3_0:=kf_ BK2.out 0;have hfz3_1:=kf_ BK2.out 1;have hfz3_2:=kf_ BK2.out 2;have hcz4_0:=y_ BK1 0;have hcz4_1:=y_ BK1 1;have hcz4_2:=y_ BK1 2;have hcz4_3:=y_ BK1 3;have hcz4_4:=y_ BK1 4;have hfz4_0:=kf_ BK1.out 0;have hfz4_1:=kf_ BK1.out 1;have hfz4_2:=kf_ BK1.out 2;have hfz4_3:=kf_ BK1.out 3;have hfz4_4:=kf_ BK1.out 4)|((with_reducible refine gc_ (f:=91) rfl ?_);refine gl_ 32 Tryz.func91 #[.slice A0_3 l0_3.length c0_3,.int .i64 a1_1] ?_;(with_reducible refine (aZ.calls k _ _ l0_3 a1_1 t2 _ ?_ ?_ A4.out).mono ?_);exact cb_ HR0_3.out ca;exact HC0_3.out;rintro e w' ⟨rfl,⟨nd,rfl⟩⟩;refine ⟨_,rfl,?_⟩)|((with_reducible refine gc_ (f:=92) rfl ?_);refine gl_ 37 Tryz.func92 #[.agg #[.int .i64 t4,.bool t5,.slice Ao1 t6.length co1],.int .i64 a1_1] ?_;(with_reducible refine (aI.calls k t4 t5 _ _ t6 a1_1 t9 t10 t11 _ ?_ ?_ A6.out).mono ?_);(refine (rr_ (e:=3) (base:=w.heap.size) (ok:=fun k_=>no_ (.slice Ao2 t7.length co2) k_) (n:=t6.length) (c:=co1) ?_).2.2;exact gD);exact (rr_ HO1.out).2.1;rintro e w6 ⟨v5,rfl,ho0,hb⟩;refine ⟨_,rfl,?_⟩;have HO3:=A0_ (Kd.R_lower (Kd.R_new' (Kd.R_new' ho0 (Kd.R_lt gD)) (Kd.R_lt hU)) (bz_ ca));replace HO1:=A0_ (Kd.R_elder' gD (Kd.R_base ho0) hb);replace HO2:=A0_ (Kd.R_elder' hU (Kd.R_base ho0) hb);replace BK1:=k1_ BK1 hb;replace BK2:=k1_ BK2 hb;replace BK3:=k1_ BK3 hb;replace BK4:=k2_ (.cells #[.int .i64 t4,.bool t5,.slice Ao1 t6.length co1,.slice Ao2 t7.length co2,.int .i64 t8] 32 (0,0)) BK4 hb;replace HB:=hb_ hb ca;(try clear hb ho0);have hcz5:=z5_ BK4;obtain ⟨Ao3,co3,eo3⟩:=Kd.R_slice HO3.out;subst eo3))
  generalize hW_:(((w6.setCell ⟨gb4,0,none⟩ (.int .i64 t9)).setCell ⟨gb4,1,none⟩ (.bool t10)).setCell ⟨gb4,2,none⟩ (.slice Ao3 t11.length co3))=w7;replace HO1:=kx (fun k_=>no_ (.slice Ao2 t7.length co2) k_∧no_ (.slice Ao3 t11.length co3) k_) hW_ HO1 BK4 (fun _ hk=>⟨hk.1.1,hk.1.2⟩);replace HO2:=kx (fun k_=>no_ (.slice Ao1 t6.length co1) k_∧no_ (.slice Ao3 t11.length co3) k_) hW_ HO2 BK4 (fun _ hk=>⟨hk.1.1,hk.1.2⟩);replace HO3:=kx (fun k_=>no_ (.slice Ao1 t6.length co1) k_∧no_ (.slice Ao2 t7.length co2) k_) hW_ HO3 BK4 (fun _ hk=>⟨hk.1.1.2,hk.1.2⟩);replace BK1:=v_ hW_ BK1;replace BK2:=v_ hW_ BK2;replace BK3:=v_ hW_ BK3;replace HB:=vb_ HB hW_ ca;replace BK4:=v2_ (.cells #[.int .i64 t9,.bool t10,.slice Ao3 t11.length co3,.slice Ao2 t7.length co2,.int .i64 t8] 32 (0,0)) hW_ BK4;clear hW_;replace HO1:=A0_ (rd_ HO1.out);replace HO2:=A0_ (rd_ HO2.out);replace HO3:=A0_ (rd_ HO3.out);replace BK1:=A0_ (kd_ BK1.out);replace BK2:=A0_ (kd_ BK2.out);replace BK3:=A0_ (kd_ BK3.out);replace BK4:=A0_ (kd_ BK4.out);replace HB:=A0_ (bd_ HB.out);have q1:(t2:Int)≤((t7.length:Int):Int):=od_ ay;obtain ⟨i091,hi091,_,hsz91,_⟩:=info_parts cW;have hroom91:t7.length≤co2:=(rr_ HO2.out).2.1;have hC91:Kd.C (Kd.int .i64) _ Ao2 t7.length t7:=(rr_ HO2.out).2.2;have hcut91:=oz (P:=Tryz.prog) 22 3 .i64 Tryz.underlying22 hi091 Ao2 t7.length co2 t2 (od_ ay) q1 hroom91;have hr91:=Kd.C_take (m:=(t2:Int).toNat) hC91 bm;have hy4:y1.length=(t2:Int).toNat:=(by rw [Ny1.out,lt_];omega);rw [← Ny1.out] at hr91;rw [← hy4] at hcut91;have HR267:=A0_ hr91;have HC267:=A0_ (show y1.length≤co2 from bm);clear hr91 hC91 hroom91 hi091 hsz91;have KY91:=A0_ hy4;clear hy4;have KL91:=A0_ (show (t2:Int).toNat≤t7.length from bm);replace q1:=eq_true q1;have q2:((ji1):Int)≤((t7.length:Int):Int):=od_ ay;obtain ⟨i092,hi092,_,hsz92,_⟩:=info_parts cW;have hroom92:t7.length≤co2:=(rr_ HO2.out).2.1;have hC92:Kd.C (Kd.int .i64) _ Ao2 t7.length t7:=(rr_ HO2.out).2.2;have q3:(0:Int)≤((ji1):Int):=od_ ay;have hcut92:=l8 (P:=Tryz.prog) 22 3 .i64 Tryz.underlying22 hi092 1 hsz92 Ao2 t7.length co2 (ji1) q3 q2;have hr92:=Kd.C_drop (m:=((ji1):Int).toNat) (c:=co2) hC92 bm hroom92;obtain ⟨A7,hA92⟩:∃ A8,A8=(if co2=((ji1):Int).toNat then Ao2 else (Ao2:Option Addr).map (·.add (((ji1):Int).toNat * 1))):=⟨_,rfl⟩;obtain ⟨c8,hc92⟩:∃ c9,c9=co2 - ((ji1):Int).toNat:=⟨_,rfl⟩;have hy5:y2.length=t7.length - ((ji1):Int).toNat:=(by rw [Ny2.out,ld_] <;> omega);rw [show (t7).drop ((ji1):Int).toNat=y2 from Ny2.out.symm] at hr92;replace hr92:Kd.C (Kd.int .i64) _ A7 y2.length y2:=(by rw [hA92];exact hr92);rw [← hy5,← hA92,← hc92] at hcut92;have HR271:=A0_ hr92;have HC271:=A0_ (show y2.length≤c8 from by rw [hy5,hc92];exact Nat.sub_le_sub_right hroom92 _);clear hr92 hC92 hroom92 hi092 hsz92 hc92;have KY92:=A0_ hy5;have KA92:=A0_ hA92;clear hy5 hA92;have KL92:=A0_ (show ((ji1):Int).toNat≤t7.length from bm);replace q2:=eq_true q2;obtain ⟨go94,co4,eo4,gb5,gl94,cl94,HG94⟩:=Kd.R_form HO2.out (by have hj_:0≤(t2:Int):=od_ ay;have hl_:(ji1:Int)≤(t7.length:Int):=od_ ay;have hh_:(t2:Int)≤(t7.length:Int):=od_ ay;rw [← hji1] at hl_;unfold wrap64 at hl_;omega)
  (first|cases eo4|(injection eo4 with ea_ en_ ec_;(first|subst ea_|(injection ea_ with ea_;subst ea_));subst ec_;clear en_))
  have GB94:=A0_ gb5;have GG94:=A0_ HG94;clear gb5 gl94 HG94
  refine s5_ 12 [11] BK4 ar.tab10 ar.bits10 (fun hHeld HT_ HW_=>?_)
  generalize w7.drew=w8 at HO1 HO2 HO3 BK1 BK2 BK3 BK4 HB GG94 HR267 HR271 hHeld ⊢
  refine pu_ 0 39 ?_
  refine pu_ 2 41 ?_
  refine pu_ 4 43 ?_
  refine pu_ 6 45 ?_
  refine pu_ 7 46 ?_
  refine tk_ 1 40 hHeld ?_
  refine pu_ 3 42 ?_
  refine tk_ 5 44 hHeld ?_
  refine pu_ 8 47 ?_
  refine on_ 9 (some 48) (fun K hK=>?_)
  have hj_:0≤(t2:Int):=od_ ay;have hl_:(ji1:Int)≤(t7.length:Int):=od_ ay;have hh_:(t2:Int)≤(t7.length:Int):=od_ ay;have hb_:=(rr_ HO2.out).2.2.2.1;have h0_:(0:Int)≤(ji1:Int):=od_ ay;have hy6_:=KY91.out;have hk_:(ji1:Int).toNat=y1.length+1:=(by have hw_:(ji1:Int)=t2+1:=(by have h00_:=h0_;rw [← hji1] at h00_ ⊢;unfold wrap64 at h00_ ⊢;omega);rw [hw_];omega)
  refine Kd.R_delete_step (Kd.int .i64) (w0:=w) w.heap.size (by rfl) (.tmp 42) (.tmp 47) 22 3 rfl Tryz.underlying22 aY (g:=go94) (n:=t7.length) (c:=co2) (k:=y1.length) rfl rfl ?hA ?hm cd ?hk ca (bz_ ca) ?_
  (case hA=>have ha_:=KA92.out;rw [hk_] at ha_;exact ha_)
  (case hm=>have ha_:=KY92.out;omega)
  (case hk=>omega)
  intro w9 ho hb hg;clear hj_ hl_ hh_ hb_ hk_ h0_;rw [hy6_,← Ny3.out] at ho;clear hy6_;have hn_:t7.length - 1=y3.length:=(by have:=(rr_ ho).1;omega);rw [hn_] at ho ⊢;clear hn_;replace BK1:=A0_ (aJ (g:=gb1) (o:=.cells #[.int .i64 a0_0,.bool a0_1,.slice A0_2 l0_2.length c0_2,.slice A0_3 l0_3.length c0_3,.int .i64 a0_4] 32 (0,0)) (u1_ BK1) hg (Kd.R_ne HO2.out BK1.out ag));replace BK2:=A0_ (aJ (g:=gb2) (o:=.cells #[.int .i64 a1_0,.int .i64 a1_1,.int .i64 a1_2] 50 (0,0)) (u1_ BK2) hg (Kd.R_ne HO2.out BK2.out ag));replace BK3:=A0_ (aJ (g:=gb3) (o:=.cells #[.int .i64 0,.bool false,.slice none 0 0,.slice none 0 0,.int .i64 0] 32 (0,0)) (u1_ BK3) hg (Kd.R_ne HO2.out BK3.out ag));replace HO1:=A0_ (Kd.R_after (v:=(.slice (some ⟨go94,0,none⟩) t7.length co2)) (v1:=.slice (some ⟨go94,0,none⟩) y3.length co2) (ok:=(fun k_=>no_ (.slice Ao3 t11.length co3) k_)) (by (with_reducible repeat (first|apply ra_|apply rn_|apply rd_));exact Kd.R_mono HO1.out (fun _ hk=>⟨hk.2,hk.1⟩)) hg (.inl rfl));replace BK4:=A0_ (aJ (g:=gb4) (o:=.cells #[.int .i64 t9,.bool t10,.slice Ao3 t11.length co3,.slice (some ⟨go94,0,none⟩) t7.length co2,.int .i64 t8] 32 (0,0)) (u1_ BK4) hg (Kd.R_ne HO2.out BK4.out ag));replace HO2:=A0_ (ho);replace HO3:=A0_ (Kd.R_after (v:=(.slice (some ⟨go94,0,none⟩) t7.length co2)) (v1:=.slice (some ⟨go94,0,none⟩) y3.length co2) (ok:=(fun k_=>no_ (.slice Ao1 t6.length co1) k_)) d9 hg (.inl rfl));replace HB:=A0_ (hb);clear ho hb hg
  refine hK.out _ _ (c5_ BK4) (fun hHeld=>?_)
  clear hK K
  refine nm_ 48 ?_
  refine pu_ 10 49 ?_
  refine iG (i:=11) (N:=none) #[true,true,true,true,true,true,true,true,true,true,true,true] rfl rfl (ft HT_.out aY) ag (fun K hK=>?_)
  have hs95:=y_ BK4 3;have hfs95:=kf_ BK4.out 3;have hns1_0:=NB1_4.out;have hns1_1:=NB2_4.out;have hns1_2:=NB3_4.out;have hms1_0:=NB4_1.out;have hms1_1:=NB4_2.out;have hms1_2:=NB4_3.out
  refine ea (w1:=?_) (by rfl) rfl ?_ ?_
  rotate_left
  ·go_simp
   rfl
  refine hK.out _ _ ?_
  clear hK K
  refine dn_ ?_
  have hcz6:=z5_ BK4;have hcz7:=z5_ BK3
  try go_wp2
  refine bodyPost_ret (results_cell_row rfl _ _ gb3 32 #[.int .i64 t9,.bool t10,.slice Ao3 t11.length co3,.slice (some ⟨go94,0,none⟩) y3.length co2,.int .i64 t8] (0,0) _ rfl (u1_ BK3) Tryz.underlying32 rfl aY) rfl ?_
  exact ⟨_,_,j9,by (with_reducible repeat (first|apply ra_|apply rn_|apply rd_));exact Kd.R_mono (bw (rf_ (Kd.R_types (Kd.R_types HO3.out BK4.out ag) BK3.out ag) (fun _ hk=>hk.1.2) (.slice (some ⟨go94,0,none⟩) y3.length co2))) (fun _ hk=>hk.1.1.2),by (with_reducible repeat (first|apply ra_|apply rn_|apply rd_));exact Kd.R_mono (bw (rf_ (Kd.R_types (Kd.R_types HO2.out BK4.out ag) BK3.out ag) (fun _ hk=>hk.1.2) (.slice (some ⟨go94,0,none⟩) y3.length co2))) (fun _ hk=>hk.1.1.2),ca⟩
 rw [if_neg c3] at H;obtain ⟨c3b0,c3b1⟩:=ef_ c3
 by_cases c4:a1_0=4
 case neg =>
  rw [if_neg c4] at H;obtain ⟨c4b0,c4b1⟩:=ef_ c4
  by_cases c5:a1_0=5
  case neg =>
   rw [if_neg c5] at H;obtain ⟨c5b0,c5b1⟩:=ef_ c5;simp only [sj_,pj_] at H;obtain ⟨rfl,rfl,rfl,rfl,rfl⟩:=H;go_enter Tryz.func69,Tryz.ntmps69
   go_wp2_with (first|((with_reducible refine gd_ (N:=2) rfl ?_);refine bx_ 2 #[.int .i64 a0_0,.bool a0_1,.slice A0_2 l0_2.length c0_2,.slice A0_3 l0_3.length c0_3,.int .i64 a0_4] 32 ?_;intro gb1 hg w1 BK1 hb;have GW1:=ge_ hg ai;have GE1:=GW1;replace HB:=hb_ hb ai;clear hb hg)|((with_reducible refine gd_ (N:=3) rfl ?_);refine bx_ 3 #[.int .i64 a1_0,.int .i64 a1_1,.int .i64 a1_2] 50 ?_;intro gb2 hg w2 BK2 hb;have GW2:=ge_ hg aj;have GE2:=GW2;replace HB:=hb_ hb aj;obtain ⟨NB1_2,NB2_1⟩:=nn_ hg BK1;replace BK1:=k1_ BK1 hb;clear hb hg)|((with_reducible refine gd_ (N:=4) rfl ?_);refine bx_ 4 #[.int .i64 0,.bool false,.slice none 0 0,.slice none 0 0,.int .i64 0] 32 ?_;intro gb3 hg w3 BK3 hb;have GW3:=ge_ hg au;have GE3:=GW3;replace HB:=hb_ hb au;obtain ⟨NB1_3,NB3_1⟩:=nn_ hg BK1;replace BK1:=k1_ BK1 hb;obtain ⟨NB2_3,NB3_2⟩:=nn_ hg BK2;replace BK2:=k1_ BK2 hb;clear hb hg;obtain ⟨hnb1,hnc1⟩:=n2_ NB1_2;obtain ⟨hnb2,hnc2⟩:=n2_ NB1_3;have hcz1:=z5_ BK1)|((with_reducible refine gc_ (f:=33) rfl ?_);refine gl_ 8 Tryz.func33 #[.agg #[.int .i64 a0_0,.bool a0_1,.slice A0_2 l0_2.length c0_2,.slice A0_3 l0_3.length c0_3,.int .i64 a0_4]] ?_;(with_reducible refine (bh.calls a0_0 a0_1 _ _ l0_2 _ _ l0_3 a0_4 t4 t5 t6 t7 t8 _ ?_ ?_ ?_ ?_ A2.out).mono ?_);exact bz;exact HC0_2.out;exact b6;exact HC0_3.out;rintro e w4 ⟨v1,v4,rfl,ho0,ho1,hb⟩;refine ⟨_,rfl,?_⟩;have HO1:=A0_ (Kd.R_lower ho0 (bz_ aD));have HO2:=A0_ (Kd.R_lower ho1 (bz_ aD));replace BK1:=k1_ BK1 hb;replace BK2:=k1_ BK2 hb;replace BK3:=k1_ BK3 hb;replace HB:=hb_ hb aD;(try clear hb ho0 ho1))|((with_reducible refine gd_ (N:=5) rfl ?_);refine bx_ 5 #[.int .i64 0,.bool false,.slice none 0 0,.slice none 0 0,.int .i64 0] 32 ?_;intro gb4 hg w5 BK4 hb;replace HO1:=q1_ HO1 hb;replace HO2:=q1_ HO2 hb;have GW4:=ge_ hg aD;have GE4:=GW4;replace HB:=hb_ hb aD;obtain ⟨NB1_4,NB4_1⟩:=nn_ hg BK1;replace BK1:=k1_ BK1 hb;obtain ⟨NB2_4,NB4_2⟩:=nn_ hg BK2;replace BK2:=k1_ BK2 hb;obtain ⟨NB3_4,NB4_3⟩:=nn_ hg BK3;replace BK3:=k1_ BK3 hb;clear hb hg;obtain ⟨hnb3,hnc3⟩:=n2_ NB4_1;obtain ⟨hnb4,hnc4⟩:=n2_ NB4_2;obtain ⟨hnb5,hnc5⟩:=n2_ NB4_3;have hcz2:=z5_ BK4;obtain ⟨Ao1,co1,eo1⟩:=Kd.R_slice HO1.out;subst eo1;obtain ⟨Ao2,co2,eo2⟩:=Kd.R_slice HO2.out;subst eo2;obtain ⟨hnb6,hnc6⟩:=n2_ NB2_3;have hcz3_0:=y_ BK2 0;have hcz3_1:=y_ BK2 1;have hcz3_2:=y_ BK2 2;have hfz3_0:=kf_ BK2.out 0;have hfz3_1:=kf_ BK2.out 1;have hfz3_2:=kf_ BK2.out 2;have hcz4_0:=y_ BK3 0;have hcz4_1:=y_ BK3 1;have hcz4_2:=y_ BK3 2;have hcz4_3:=y_ BK3 3;have hcz4_4:=y_ BK3 4;have hfz4_0:=kf_ BK3.out 0;have hfz4_1:=kf_ BK3.out 1;have hfz4_2:=kf_ BK3.out 2;have hfz4_3:=kf_ BK3.out 3;have hfz4_4:=kf_ BK3.out 4))
   refine bodyPost_ret (results_cell_row rfl _ _ gb3 32 #[.int .i64 t4,.bool t5,.slice Ao1 t6.length co1,.slice Ao2 t7.length co2,.int .i64 t8] (0,0) _ rfl (u1_ BK3) Tryz.underlying32 rfl aY) rfl ?_
   exact ⟨_,_,aE,by (with_reducible repeat (first|apply ra_|apply rn_|apply rd_));exact Kd.R_mono (bw (rf_ (rf_ (rf_ (rf_ (rf_ (Kd.R_types (Kd.R_types HO1.out BK4.out ag) BK3.out ag) (fun _ hk=>hk.1.2) (.int .i64 t4)) (fun _ hk=>hk.1.2) (.bool t5)) (fun _ hk=>hk.1.2) (.slice Ao1 t6.length co1)) (fun _ hk=>hk.1.2) (.slice Ao2 t7.length co2)) (fun _ hk=>hk.1.2) (.int .i64 t8))) (fun _ hk=>hk.1.1),by (with_reducible repeat (first|apply ra_|apply rn_|apply rd_));exact Kd.R_mono (bw (rf_ (rf_ (rf_ (rf_ (rf_ (Kd.R_types (Kd.R_types HO2.out BK4.out ag) BK3.out ag) (fun _ hk=>hk.1.2) (.int .i64 t4)) (fun _ hk=>hk.1.2) (.bool t5)) (fun _ hk=>hk.1.2) (.slice Ao1 t6.length co1)) (fun _ hk=>hk.1.2) (.slice Ao2 t7.length co2)) (fun _ hk=>hk.1.2) (.int .i64 t8))) (fun _ hk=>hk.1.1),ca⟩
  rw [if_pos c5] at H;obtain ⟨c5b0,c5b1⟩:=et_ c5;clear c5;obtain ⟨y1,hy1⟩:∃ y_:List Int,y_=(([]:List Int)):=⟨_,rfl⟩;replace H:(some (t4,t5,y1,(([]:List Int)),t8))=some (r1,r2,r3,r4,r5):=dx;have Ny1:=A0_ hy1;clear hy1;obtain ⟨y2,hy2⟩:∃ y_:List Int,y_=(([]:List Int)):=⟨_,rfl⟩;replace H:(some (t4,t5,y1,y2,t8))=some (r1,r2,r3,r4,r5):=dH;have Ny2:=A0_ hy2;clear hy2;simp only [sj_,pj_] at H;obtain ⟨rfl,rfl,rfl,rfl,rfl⟩:=H;go_enter Tryz.func69,Tryz.ntmps69
  go_wp2_with (first|((with_reducible refine gd_ (N:=2) rfl ?_);refine bx_ 2 #[.int .i64 a0_0,.bool a0_1,.slice A0_2 l0_2.length c0_2,.slice A0_3 l0_3.length c0_3,.int .i64 a0_4] 32 ?_;intro gb1 hg w1 BK1 hb;have GW1:=ge_ hg ai;have GE1:=GW1;replace HB:=hb_ hb ai;clear hb hg)|((with_reducible refine gd_ (N:=3) rfl ?_);refine bx_ 3 #[.int .i64 a1_0,.int .i64 a1_1,.int .i64 a1_2] 50 ?_;intro gb2 hg w2 BK2 hb;have GW2:=ge_ hg aj;have GE2:=GW2;replace HB:=hb_ hb aj;obtain ⟨NB1_2,NB2_1⟩:=nn_ hg BK1;replace BK1:=k1_ BK1 hb;clear hb hg)|((with_reducible refine gd_ (N:=4) rfl ?_);refine bx_ 4 #[.int .i64 0,.bool false,.slice none 0 0,.slice none 0 0,.int .i64 0] 32 ?_;intro gb3 hg w3 BK3 hb;have GW3:=ge_ hg au;have GE3:=GW3;replace HB:=hb_ hb au;obtain ⟨NB1_3,NB3_1⟩:=nn_ hg BK1;replace BK1:=k1_ BK1 hb;obtain ⟨NB2_3,NB3_2⟩:=nn_ hg BK2;replace BK2:=k1_ BK2 hb;clear hb hg;obtain ⟨hnb1,hnc1⟩:=n2_ NB1_2;obtain ⟨hnb2,hnc2⟩:=n2_ NB1_3;have hcz1:=z5_ BK1)|((with_reducible refine gc_ (f:=33) rfl ?_);refine gl_ 8 Tryz.func33 #[.agg #[.int .i64 a0_0,.bool a0_1,.slice A0_2 l0_2.length c0_2,.slice A0_3 l0_3.length c0_3,.int .i64 a0_4]] ?_;(with_reducible refine (bh.calls a0_0 a0_1 _ _ l0_2 _ _ l0_3 a0_4 t4 t5 t6 t7 t8 _ ?_ ?_ ?_ ?_ A2.out).mono ?_);exact bz;exact HC0_2.out;exact b6;exact HC0_3.out;rintro e w4 ⟨v1,v4,rfl,ho0,ho1,hb⟩;refine ⟨_,rfl,?_⟩;have HO1:=A0_ (Kd.R_lower ho0 (bz_ aD));have HO2:=A0_ (Kd.R_lower ho1 (bz_ aD));replace BK1:=k1_ BK1 hb;replace BK2:=k1_ BK2 hb;replace BK3:=k1_ BK3 hb;replace HB:=hb_ hb aD;(try clear hb ho0 ho1))|((with_reducible refine gd_ (N:=5) rfl ?_);refine bx_ 5 #[.int .i64 0,.bool false,.slice none 0 0,.slice none 0 0,.int .i64 0] 32 ?_;intro gb4 hg w5 BK4 hb;replace HO1:=q1_ HO1 hb;replace HO2:=q1_ HO2 hb;have GW4:=ge_ hg aD;have GE4:=GW4;replace HB:=hb_ hb aD;obtain ⟨NB1_4,NB4_1⟩:=nn_ hg BK1;replace BK1:=k1_ BK1 hb;obtain ⟨NB2_4,NB4_2⟩:=nn_ hg BK2;replace BK2:=k1_ BK2 hb;obtain ⟨NB3_4,NB4_3⟩:=nn_ hg BK3;replace BK3:=k1_ BK3 hb;clear hb hg;obtain ⟨hnb3,hnc3⟩:=n2_ NB4_1;obtain ⟨hnb4,hnc4⟩:=n2_ NB4_2;obtain ⟨hnb5,hnc5⟩:=n2_ NB4_3;have hcz2:=z5_ BK4;obtain ⟨Ao1,co1,eo1⟩:=Kd.R_slice HO1.out;subst eo1;obtain ⟨Ao2,co2,eo2⟩:=Kd.R_slice HO2.out;subst eo2;obtain ⟨hnb6,hnc6⟩:=n2_ NB2_3;have hcz3_0:=y_ BK2 0;have hcz3_1:=y_ BK2 1;have hcz3_2:=y_ BK2 2;have hfz3_0:=kf_ BK2.out 0;have hfz3_1:=kf_ BK2.out 1;have hfz3_2:=kf_ BK2.out 2)|((with_reducible refine gd_ (N:=73) rfl ?_);refine Kd.R_lit (Kd.int .i64) _ 3 ?hg (N:=73) ?hd (xs:=([]:List Int)) (inner:=[]) (ok:=fun _=>True) (okp:=fun _=>True) ?hr ?hp (fun _ hk=>hk) trivial (Below.refl _ _) (Nat.le_refl _) bB ?_;(case hd=>rfl);(case hg=>rfl);(case hr=>go_simp;first|done|rfl);(case hp=>exact (aN.none _ _));intro v5 w6 ho154 hb hg_ hnew_;clear hg_ hnew_;(first|rw [← Ny1.out] at ho154|(simp only [Int.reduceToNat] at ho154;rw [← Ny1.out] at ho154));have HO3:=A0_ (Kd.R_lower (Kd.R_new' (Kd.R_new' ho154 (Kd.R_lt gD)) (Kd.R_lt hU)) (bz_ ca));replace HO1:=A0_ (Kd.R_elder' gD (Kd.R_base ho154) hb);replace HO2:=A0_ (Kd.R_elder' hU (Kd.R_base ho154) hb);replace BK1:=k1_ BK1 hb;replace BK2:=k1_ BK2 hb;replace BK3:=k1_ BK3 hb;replace BK4:=k2_ (.cells #[.int .i64 t4,.bool t5,.slice Ao1 t6.length co1,.slice Ao2 t7.length co2,.int .i64 t8] 32 (0,0)) BK4 hb;replace HB:=hb_ hb ca;clear hb ho154;obtain ⟨Ao3,co3,eo3⟩:=Kd.R_slice HO3.out;subst eo3;have hcz4:=z5_ BK4)|((with_reducible refine gd_ (N:=76) rfl ?_);refine Kd.R_lit (Kd.int .i64) _ 3 ?hg (N:=76) ?hd (xs:=([]:List Int)) (inner:=[]) (ok:=fun _=>True) (okp:=fun _=>True) ?hr ?hp (fun _ hk=>hk) trivial (Below.refl _ _) (Nat.le_refl _) bB ?_;(case hd=>rfl);(case hg=>rfl);(case hr=>go_simp;first|done|rfl);(case hp=>exact (aN.none _ _));intro v6 w7 ho158 hb hg_ hnew_;clear hg_ hnew_;(first|rw [← Ny2.out] at ho158|(simp only [Int.reduceToNat] at ho158;rw [← Ny2.out] at ho158));have HO4:=A0_ (Kd.R_lower (Kd.R_new' (Kd.R_new' (Kd.R_new' ho158 (Kd.R_lt oo)) (Kd.R_lt n6)) (Kd.R_lt m6)) (bz_ ca));replace HO1:=A0_ (Kd.R_elder' oo (Kd.R_base ho158) hb);replace HO2:=A0_ (Kd.R_elder' n6 (Kd.R_base ho158) hb);replace HO3:=A0_ (Kd.R_elder' m6 (Kd.R_base ho158) hb);replace BK1:=k1_ BK1 hb;replace BK2:=k1_ BK2 hb;replace BK3:=k1_ BK3 hb;replace BK4:=k2_ (.cells #[.int .i64 t4,.bool t5,.slice Ao3 y1.length co3,.slice Ao2 t7.length co2,.int .i64 t8] 32 (0,0)) BK4 hb;replace HB:=hb_ hb ca;clear hb ho158;obtain ⟨Ao4,co4,eo4⟩:=Kd.R_slice HO4.out;subst eo4;have hcz5:=z5_ BK4;have hcz6:=z5_ BK3))
  refine bodyPost_ret (results_cell_row rfl _ _ gb3 32 #[.int .i64 t4,.bool t5,.slice Ao3 y1.length co3,.slice Ao4 y2.length co4,.int .i64 t8] (0,0) _ rfl (u1_ BK3) Tryz.underlying32 rfl aY) rfl ?_
  exact ⟨_,_,aE,by (with_reducible repeat (first|apply ra_|apply rn_|apply rd_));exact Kd.R_mono (bw (rf_ (Kd.R_types (Kd.R_types HO3.out BK4.out ag) BK3.out ag) (fun _ hk=>hk.1.2) (.slice Ao4 y2.length co4))) (fun _ hk=>hk.1.1.2),by (with_reducible repeat (first|apply ra_|apply rn_|apply rd_));exact Kd.R_mono (bw (rf_ (Kd.R_types (Kd.R_types HO4.out BK4.out ag) BK3.out ag) (fun _ hk=>hk.1.2) (.slice Ao4 y2.length co4))) (fun _ hk=>hk.1.1.2),ca⟩
 rw [if_pos c4] at H;obtain ⟨c4b0,c4b1⟩:=et_ c4;clear c4;obtain ⟨⟨t9,t10,t11⟩,A4,H⟩:=o1_ H;obtain ⟨⟨t12,t13,t14⟩,A6,H⟩:=o1_ H;obtain ⟨t3,A8,H⟩:=o1_ H;obtain ⟨c5b0,H⟩:=i1_ H;obtain ⟨c6b0,H⟩:=i1_ H;obtain ⟨y1,hy1⟩:∃ y_:List Int,y_=(t7.set (t3:Int).toNat a1_2):=⟨_,rfl⟩;replace H:(some (t12,t13,t14,y1,t8))=some (r1,r2,r3,r4,r5):=dx;have Ny1:=A0_ hy1;clear hy1;simp only [sj_,pj_] at H;obtain ⟨rfl,rfl,rfl,rfl,rfl⟩:=H;go_enter Tryz.func69,Tryz.ntmps69
 try go_wp2_with (first|((with_reducible refine gd_ (N:=2) rfl ?_);refine bx_ 2 #[.int .i64 a0_0,.bool a0_1,.slice A0_2 l0_2.length c0_2,.slice A0_3 l0_3.length c0_3,.int .i64 a0_4] 32 ?_;intro gb1 hg w1 BK1 hb;have GW1:=ge_ hg ai;have GE1:=GW1;replace HB:=hb_ hb ai;clear hb hg)|((with_reducible refine gd_ (N:=3) rfl ?_);refine bx_ 3 #[.int .i64 a1_0,.int .i64 a1_1,.int .i64 a1_2] 50 ?_;intro gb2 hg w2 BK2 hb;have GW2:=ge_ hg aj;have GE2:=GW2;replace HB:=hb_ hb aj;obtain ⟨NB1_2,NB2_1⟩:=nn_ hg BK1;replace BK1:=k1_ BK1 hb;clear hb hg)|((with_reducible refine gd_ (N:=4) rfl ?_);refine bx_ 4 #[.int .i64 0,.bool false,.slice none 0 0,.slice none 0 0,.int .i64 0] 32 ?_;intro gb3 hg w3 BK3 hb;have GW3:=ge_ hg au;have GE3:=GW3;replace HB:=hb_ hb au;obtain ⟨NB1_3,NB3_1⟩:=nn_ hg BK1;replace BK1:=k1_ BK1 hb;obtain ⟨NB2_3,NB3_2⟩:=nn_ hg BK2;replace BK2:=k1_ BK2 hb;clear hb hg;obtain ⟨hnb1,hnc1⟩:=n2_ NB1_2;obtain ⟨hnb2,hnc2⟩:=n2_ NB1_3;have hcz1:=z5_ BK1)|((with_reducible refine gc_ (f:=33) rfl ?_);refine gl_ 8 Tryz.func33 #[.agg #[.int .i64 a0_0,.bool a0_1,.slice A0_2 l0_2.length c0_2,.slice A0_3 l0_3.length c0_3,.int .i64 a0_4]] ?_;(with_reducible refine (bh.calls a0_0 a0_1 _ _ l0_2 _ _ l0_3 a0_4 t4 t5 t6 t7 t8 _ ?_ ?_ ?_ ?_ A2.out).mono ?_);exact bz;exact HC0_2.out;exact b6;exact HC0_3.out;rintro e w4 ⟨v1,v4,rfl,ho0,ho1,hb⟩;refine ⟨_,rfl,?_⟩;have HO1:=A0_ (Kd.R_lower ho0 (bz_ aD));have HO2:=A0_ (Kd.R_lower ho1 (bz_ aD));replace BK1:=k1_ BK1 hb;replace BK2:=k1_ BK2 hb;replace BK3:=k1_ BK3 hb;replace HB:=hb_ hb aD;(try clear hb ho0 ho1))|((with_reducible refine gd_ (N:=5) rfl ?_);refine bx_ 5 #[.int .i64 0,.bool false,.slice none 0 0,.slice none 0 0,.int .i64 0] 32 ?_;intro gb4 hg w5 BK4 hb;replace HO1:=q1_ HO1 hb;replace HO2:=q1_ HO2 hb;have GW4:=ge_ hg aD;have GE4:=GW4;replace HB:=hb_ hb aD;obtain ⟨NB1_4,NB4_1⟩:=nn_ hg BK1;replace BK1:=k1_ BK1 hb;obtain ⟨NB2_4,NB4_2⟩:=nn_ hg BK2;replace BK2:=k1_ BK2 hb;obtain ⟨NB3_4,NB4_3⟩:=nn_ hg BK3;replace BK3:=k1_ BK3 hb;clear hb hg;obtain ⟨hnb3,hnc3⟩:=n2_ NB4_1;obtain ⟨hnb4,hnc4⟩:=n2_ NB4_2;obtain ⟨hnb5,hnc5⟩:=n2_ NB4_3;have hcz2:=z5_ BK4;obtain ⟨Ao1,co1,eo1⟩:=Kd.R_slice HO1.out;subst eo1;obtain ⟨Ao2,co2,eo2⟩:=Kd.R_slice HO2.out;subst eo2;obtain ⟨hnb6,hnc6⟩:=n2_ NB2_3;have hcz3_0:=y_ BK2 0;have hcz3_1:=y_ BK2 1;have hcz3_2:=y_ BK2 2;have hfz3_0:=kf_ BK2.out 0;have hfz3_1:=kf_ BK2.out 1;have hfz3_2:=kf_ BK2.out 2))
 have n0_:Aside0 (Kd.R (Kd.int .i64) 3 (((((w5.setCell ⟨gb4,0,none⟩ (.int .i64 t4)).setCell ⟨gb4,1,none⟩ (.bool t5)).setCell ⟨gb4,2,none⟩ (.slice Ao1 t6.length co1)).setCell ⟨gb4,3,none⟩ (.slice Ao2 t7.length co2)).setCell ⟨gb4,4,none⟩ (.int .i64 t8)) w.heap.size (fun k_=>no_ (.slice Ao2 t7.length co2) k_) (.slice Ao1 t6.length co1) t6):=⟨nS⟩;have n1_:Aside0 (Kd.R (Kd.int .i64) 3 (((((w5.setCell ⟨gb4,0,none⟩ (.int .i64 t4)).setCell ⟨gb4,1,none⟩ (.bool t5)).setCell ⟨gb4,2,none⟩ (.slice Ao1 t6.length co1)).setCell ⟨gb4,3,none⟩ (.slice Ao2 t7.length co2)).setCell ⟨gb4,4,none⟩ (.int .i64 t8)) w.heap.size (fun k_=>no_ (.slice Ao1 t6.length co1) k_) (.slice Ao2 t7.length co2) t7):=⟨nK⟩;have n2_:Aside0 ((((((w5.setCell ⟨gb4,0,none⟩ (.int .i64 t4)).setCell ⟨gb4,1,none⟩ (.bool t5)).setCell ⟨gb4,2,none⟩ (.slice Ao1 t6.length co1)).setCell ⟨gb4,3,none⟩ (.slice Ao2 t7.length co2)).setCell ⟨gb4,4,none⟩ (.int .i64 t8)).heap[gb1]?=some (.cells #[.int .i64 a0_0,.bool a0_1,.slice A0_2 l0_2.length c0_2,.slice A0_3 l0_3.length c0_3,.int .i64 a0_4] 32 (0,0))):=⟨u1_ BK1⟩;have n3_:Aside0 ((((((w5.setCell ⟨gb4,0,none⟩ (.int .i64 t4)).setCell ⟨gb4,1,none⟩ (.bool t5)).setCell ⟨gb4,2,none⟩ (.slice Ao1 t6.length co1)).setCell ⟨gb4,3,none⟩ (.slice Ao2 t7.length co2)).setCell ⟨gb4,4,none⟩ (.int .i64 t8)).heap[gb2]?=some (.cells #[.int .i64 a1_0,.int .i64 a1_1,.int .i64 a1_2] 50 (0,0))):=⟨u1_ BK2⟩;have n4_:Aside0 ((((((w5.setCell ⟨gb4,0,none⟩ (.int .i64 t4)).setCell ⟨gb4,1,none⟩ (.bool t5)).setCell ⟨gb4,2,none⟩ (.slice Ao1 t6.length co1)).setCell ⟨gb4,3,none⟩ (.slice Ao2 t7.length co2)).setCell ⟨gb4,4,none⟩ (.int .i64 t8)).heap[gb3]?=some (.cells #[.int .i64 0,.bool false,.slice none 0 0,.slice none 0 0,.int .i64 0] 32 (0,0))):=⟨u1_ BK3⟩;have n5_:Aside0 ((((((w5.setCell ⟨gb4,0,none⟩ (.int .i64 t4)).setCell ⟨gb4,1,none⟩ (.bool t5)).setCell ⟨gb4,2,none⟩ (.slice Ao1 t6.length co1)).setCell ⟨gb4,3,none⟩ (.slice Ao2 t7.length co2)).setCell ⟨gb4,4,none⟩ (.int .i64 t8)).heap[gb4]?=some (.cells #[.int .i64 t4,.bool t5,.slice Ao1 t6.length co1,.slice Ao2 t7.length co2,.int .i64 t8] 32 (0,0))):=⟨u1_ BK4⟩;have n6_:Aside0 (Below w.heap.size w (((((w5.setCell ⟨gb4,0,none⟩ (.int .i64 t4)).setCell ⟨gb4,1,none⟩ (.bool t5)).setCell ⟨gb4,2,none⟩ (.slice Ao1 t6.length co1)).setCell ⟨gb4,3,none⟩ (.slice Ao2 t7.length co2)).setCell ⟨gb4,4,none⟩ (.int .i64 t8))):=⟨ca⟩
 (try clear HO1)
 (try clear HO2)
 (try clear BK1)
 (try clear BK2)
 (try clear BK3)
 (try clear BK4)
 (try clear HB)
 generalize (((((w5.setCell ⟨gb4,0,none⟩ (.int .i64 t4)).setCell ⟨gb4,1,none⟩ (.bool t5)).setCell ⟨gb4,2,none⟩ (.slice Ao1 t6.length co1)).setCell ⟨gb4,3,none⟩ (.slice Ao2 t7.length co2)).setCell ⟨gb4,4,none⟩ (.int .i64 t8))=w6 at n0_ n1_ n2_ n3_ n4_ n5_ n6_ ⊢;have HO1:=n0_;have HO2:=n1_;have BK1:=n2_;have BK2:=n3_;have BK3:=n4_;have BK4:=n5_;have HB:=n6_;clear n0_ n1_ n2_ n3_ n4_ n5_ n6_;replace HO1:=A0_ (rd_ HO1.out);replace HO2:=A0_ (rd_ HO2.out);replace BK1:=A0_ (kd_ BK1.out);replace BK2:=A0_ (kd_ BK2.out);replace BK3:=A0_ (kd_ BK3.out);replace BK4:=A0_ (kd_ BK4.out);replace HB:=A0_ (bd_ HB.out)
 refine dd (n:=10) (S:=fun w'=>w'.cell? ⟨gb4,0,none⟩=some (.int .i64 t4)∧w'.cell? ⟨gb4,1,none⟩=some (.bool t5)∧w'.cell? ⟨gb4,2,none⟩=some (.slice Ao1 t6.length co1)∧w'.cell? ⟨gb4,3,none⟩=some (.slice Ao2 t7.length co2)∧w'.cell? ⟨gb4,4,none⟩=some (.int .i64 t8)∧w'.cell? ⟨gb2,0,none⟩=some (.int .i64 a1_0)∧w'.cell? ⟨gb2,1,none⟩=some (.int .i64 a1_1)∧w'.cell? ⟨gb2,2,none⟩=some (.int .i64 a1_2)) (ds:=[9]) #[false,false,false,false,false,false,false,false,false,false] aY rfl rfl (a5_ BK4 (c3_ BK2)) (fun hHeld=>?_);refine cu ar.tab12 ar.bits12 (fun HT_ HW_=>?_)
 generalize w6.drew=w7 at HO1 HO2 BK1 BK2 BK3 BK4 HB hHeld ⊢
 refine pu_ 0 52 ?_
 refine pu_ 2 54 ?_
 refine pu_ 5 57 ?_
 refine tk_ 1 53 hHeld ?_
 refine tk_ 3 55 hHeld ?_
 refine tk_ 6 58 hHeld ?_
 refine on_ 4 (some 56) (fun K hK=>?_)
 refine gs_ Tryz.func92 #[.agg #[.int .i64 t4,.bool t5,.slice Ao1 t6.length co1],.int .i64 a1_1] ?_
 with_reducible refine (aI.calls k t4 t5 _ _ t6 a1_1 t9 t10 t11 _ ?_ ?_ A4.out).mono ?_
 exact dW
 exact (rr_ HO1.out).2.1
 rintro e w8 ⟨v5,rfl,ho0,hb⟩
 refine ⟨_,rfl,?_⟩
 have HO3:=A0_ (Kd.R_lower (Kd.R_new' (Kd.R_new' ho0 (Kd.R_lt bx)) (Kd.R_lt cd)) (bz_ ca));replace HO1:=A0_ (Kd.R_elder' bx (Kd.R_base ho0) hb);replace HO2:=A0_ (Kd.R_elder' cd (Kd.R_base ho0) hb);replace BK1:=k1_ BK1 hb;replace BK2:=k1_ BK2 hb;replace BK3:=k1_ BK3 hb;replace BK4:=k1_ BK4 hb;replace HB:=hb_ hb ca
 (try clear hb ho0)
 obtain ⟨Ao3,co3,eo3⟩:=Kd.R_slice HO3.out
 (first|subst eo3|(injection eo3 with f1_ f2_ f3_;have f4_:=f1_.symm;have f5_:=f3_.symm;clear f1_ f2_ f3_;subst f4_;subst f5_))
 refine hK.out _ _ (a5_ BK4 (c3_ BK2)) (fun hHeld=>?_)
 clear hK K
 refine nm_ 56 ?_
 refine on_ 7 (some 59) (fun K hK=>?_)
 refine gs_ Tryz.func93 #[.agg #[.int .i64 t9,.bool t10,.slice Ao3 t11.length co3],.int .i64 a1_2] ?_
 with_reducible refine (bH.calls k t9 t10 _ _ t11 a1_2 t12 t13 t14 _ ?_ ?_ A6.out).mono ?_
 exact np
 exact (rr_ HO3.out).2.1
 rintro e w9 ⟨v6,rfl,ho0,hb⟩
 refine ⟨_,rfl,?_⟩
 have HO4:=A0_ (Kd.R_lower (Kd.R_new' (Kd.R_new' (Kd.R_new' ho0 (Kd.R_lt bx)) (Kd.R_lt cd)) (Kd.R_lt d9)) (bz_ ca));replace HO1:=A0_ (Kd.R_elder' bx (Kd.R_base ho0) hb);replace HO2:=A0_ (Kd.R_elder' cd (Kd.R_base ho0) hb);replace HO3:=A0_ (Kd.R_elder' d9 (Kd.R_base ho0) hb);replace BK1:=k1_ BK1 hb;replace BK2:=k1_ BK2 hb;replace BK3:=k1_ BK3 hb;replace BK4:=k1_ BK4 hb;replace HB:=hb_ hb ca
 (try clear hb ho0)
 obtain ⟨Ao4,co4,eo4⟩:=Kd.R_slice HO4.out
 (first|subst eo4|(injection eo4 with f1_ f2_ f3_;have f4_:=f1_.symm;have f5_:=f3_.symm;clear f1_ f2_ f3_;subst f4_;subst f5_))
 refine hK.out _ _ (a5_ BK4 (c3_ BK2)) (fun hHeld=>?_)
 clear hK K
 refine nm_ 59 ?_
 refine pu_ 8 60 ?_
 refine iG (i:=9) (N:=none) #[true,true,true,true,true,true,true,true,true,true] rfl rfl (ft HT_.out aY) ag (fun K hK=>?_)
 have hs126:=y_ BK4 0;have hfs126:=kf_ BK4.out 0;have hns1_0:=NB1_4.out;have hns1_1:=NB2_4.out;have hns1_2:=NB3_4.out;have hms1_0:=NB4_1.out;have hms1_1:=NB4_2.out;have hms1_2:=NB4_3.out;have hs127:=y_ BK4 1;have hfs127:=kf_ BK4.out 1;have hns2_0:=NB1_4.out;have hns2_1:=NB2_4.out;have hns2_2:=NB3_4.out;have hms2_0:=NB4_1.out;have hms2_1:=NB4_2.out;have hms2_2:=NB4_3.out;have hs129:=y_ BK4 2;have hfs129:=kf_ BK4.out 2;have hns3_0:=NB1_4.out;have hns3_1:=NB2_4.out;have hns3_2:=NB3_4.out;have hms3_0:=NB4_1.out;have hms3_1:=NB4_2.out;have hms3_2:=NB4_3.out
 refine ea (w1:=?_) (by rfl) rfl ?_ ?_
 rotate_left
 ·go_simp
  rfl
 refine hK.out _ _ ?_
 clear hK K
 refine dn_ ?_
 try go_wp2
 generalize hW_:(((w9.setCell ⟨gb4,0,none⟩ (.int .i64 t12)).setCell ⟨gb4,1,none⟩ (.bool t13)).setCell ⟨gb4,2,none⟩ (.slice Ao4 t14.length co4))=w10;replace HO1:=kx (fun k_=>no_ (.slice Ao2 t7.length co2) k_∧no_ (.slice Ao3 t11.length co3) k_∧no_ (.slice Ao4 t14.length co4) k_) hW_ HO1 BK4 (fun _ hk=>⟨hk.1.1.1,⟨hk.1.1.2,hk.1.2⟩⟩);replace HO2:=kx (fun k_=>no_ (.slice Ao1 t6.length co1) k_∧no_ (.slice Ao3 t11.length co3) k_∧no_ (.slice Ao4 t14.length co4) k_) hW_ HO2 BK4 (fun _ hk=>⟨hk.1.1.1,⟨hk.1.1.2,hk.1.2⟩⟩);replace HO3:=kx (fun k_=>no_ (.slice Ao1 t6.length co1) k_∧no_ (.slice Ao2 t7.length co2) k_∧no_ (.slice Ao4 t14.length co4) k_) hW_ HO3 BK4 (fun _ hk=>⟨hk.1.1.1.2,⟨hk.1.1.2,hk.1.2⟩⟩);replace HO4:=kx (fun k_=>no_ (.slice Ao1 t6.length co1) k_∧no_ (.slice Ao2 t7.length co2) k_∧no_ (.slice Ao3 t11.length co3) k_) hW_ HO4 BK4 (fun _ hk=>⟨hk.1.1.1.2,⟨hk.1.1.2,hk.1.2⟩⟩);replace BK1:=v_ hW_ BK1;replace BK2:=v_ hW_ BK2;replace BK3:=v_ hW_ BK3;replace HB:=vb_ HB hW_ ca;replace BK4:=v2_ (.cells #[.int .i64 t12,.bool t13,.slice Ao4 t14.length co4,.slice Ao2 t7.length co2,.int .i64 t8] 32 (0,0)) hW_ BK4;clear hW_;replace HO1:=A0_ (rd_ HO1.out);replace HO2:=A0_ (rd_ HO2.out);replace HO3:=A0_ (rd_ HO3.out);replace HO4:=A0_ (rd_ HO4.out);replace BK1:=A0_ (kd_ BK1.out);replace BK2:=A0_ (kd_ BK2.out);replace BK3:=A0_ (kd_ BK3.out);replace BK4:=A0_ (kd_ BK4.out);replace HB:=A0_ (bd_ HB.out)
 refine dd (n:=11) (S:=fun w'=>w'.cell? ⟨gb4,0,none⟩=some (.int .i64 t12)∧w'.cell? ⟨gb4,1,none⟩=some (.bool t13)∧w'.cell? ⟨gb4,2,none⟩=some (.slice Ao4 t14.length co4)∧w'.cell? ⟨gb4,3,none⟩=some (.slice Ao2 t7.length co2)∧w'.cell? ⟨gb4,4,none⟩=some (.int .i64 t8)∧w'.cell? ⟨gb1,0,none⟩=some (.int .i64 a0_0)∧w'.cell? ⟨gb1,1,none⟩=some (.bool a0_1)∧w'.cell? ⟨gb1,2,none⟩=some (.slice A0_2 l0_2.length c0_2)∧w'.cell? ⟨gb1,3,none⟩=some (.slice A0_3 l0_3.length c0_3)∧w'.cell? ⟨gb1,4,none⟩=some (.int .i64 a0_4)∧w'.cell? ⟨gb2,0,none⟩=some (.int .i64 a1_0)∧w'.cell? ⟨gb2,1,none⟩=some (.int .i64 a1_1)∧w'.cell? ⟨gb2,2,none⟩=some (.int .i64 a1_2)) (ds:=[10]) #[false,false,false,false,false,false,false,false,false,false,false] aY rfl rfl (a5_ BK4 (a5_ BK1 (c3_ BK2))) (fun hHeld=>?_);refine cu ar.tab13 ar.bits13 (fun HT_ HW_=>?_)
 generalize w10.drew=w11 at HO1 HO2 HO3 HO4 BK1 BK2 BK3 BK4 HB hHeld ⊢
 refine pu_ 0 61 ?_
 refine pu_ 2 63 ?_
 refine pu_ 4 65 ?_
 refine pu_ 7 68 ?_
 refine tk_ 1 62 hHeld ?_
 refine tk_ 3 64 hHeld ?_
 refine tk_ 5 66 hHeld ?_
 refine tk_ 8 69 hHeld ?_
 refine on_ 6 (some 67) (fun K hK=>?_)
 refine gs_ Tryz.func91 #[.slice A0_3 l0_3.length c0_3,.int .i64 a1_1] ?_
 with_reducible refine (aZ.calls k _ _ l0_3 a1_1 t3 _ ?_ ?_ A8.out).mono ?_
 exact b6
 exact HC0_3.out
 rintro e w' ⟨rfl,⟨nd,rfl⟩⟩
 refine ⟨_,rfl,?_⟩
 have m0_:=A0_ (rn_ HO1.out nd);have m1_:=A0_ (rn_ HO2.out nd);have m2_:=A0_ (rn_ HO3.out nd);have m3_:=A0_ (rn_ HO4.out nd);have m4_:=A0_ (kn_ BK1.out nd);have m5_:=A0_ (kn_ BK2.out nd);have m6_:=A0_ (kn_ BK3.out nd);have m7_:=A0_ (kn_ BK4.out nd);have m8_:=A0_ (bn_ HB.out nd);clear HO1 HO2 HO3 HO4 BK1 BK2 BK3 BK4 HB;have HO1:=m0_;have HO2:=m1_;have HO3:=m2_;have HO4:=m3_;have BK1:=m4_;have BK2:=m5_;have BK3:=m6_;have BK4:=m7_;have HB:=m8_;clear m0_ m1_ m2_ m3_ m4_ m5_ m6_ m7_ m8_;generalize World.drewN _ nd=wq1_ at HO1 HO2 HO3 HO4 BK1 BK2 BK3 BK4 HB ⊢;have p1:0≤(t3:Int):=od_ ay;have q1:(t3:Int)<((t7.length:Int):Int):=od_ ay;obtain ⟨go104,co5,eo5,gb5,gl104,cl104,HG104⟩:=Kd.R_form HO2.out bm
 (first|cases eo5|(injection eo5 with ea_ en_ ec_;(first|subst ea_|(injection ea_ with ea_;subst ea_));subst ec_;clear en_))
 have GB104:=A0_ gb5;have GG104:=A0_ HG104;clear gb5 gl104 HG104;obtain ⟨hx1_0,hf1_0⟩:=Kd.R_celln 0 HO2.out (t3:Int) p1 q1;replace p1:=eq_true p1;replace q1:=eq_true q1;have HP1:=Kd.R_putn HO2.out (t3:Int) a1_2;rw [← Ny1.out] at HP1;have HQ132:=A0_ HP1;clear HP1
 refine hK.out _ _ (a5_ BK4 (a5_ BK1 (c3_ BK2))) (fun hHeld=>?_)
 clear hK K
 refine nm_ 67 ?_
 refine pu_ 9 70 ?_
 refine iG (i:=10) (N:=none) #[true,true,true,true,true,true,true,true,true,true,true] rfl rfl (ft HT_.out aY) ag (fun K hK=>?_)
 refine ea (w1:=?_) (by rfl) rfl ?_ ?_
 rotate_left
 ·go_simp
  rfl
 refine hK.out _ _ ?_
 clear hK K
 refine dn_ ?_
 have n0_:Aside0 (Kd.R (Kd.int .i64) 3 (wq1_.setCell ⟨go104,(t3:Int).toNat,none⟩ (.int .i64 a1_2)) w.heap.size (fun k_=>some k_≠(.slice (some ⟨go104,0,none⟩) t7.length co2:Value).ownBlock∧no_ (.slice Ao3 t11.length co3) k_∧no_ (.slice Ao4 t14.length co4) k_) (.slice Ao1 t6.length co1) t6):=⟨by (with_reducible repeat (first|apply ra_|apply rn_|apply rd_));exact Kd.R_mono (Kd.R_far (p:=⟨go104,(t3:Int).toNat,none⟩) (Kd.R_mono HO1.out (fun k_ hk=>(⟨hk,fun e_=>hk.1 (by rw [e_];rfl)⟩:_∧k_≠go104))) jC _) (fun _ hk=>⟨hk.1.1,⟨hk.1.2.1,hk.1.2.2⟩⟩)⟩;have n1_:Aside0 (Kd.R (Kd.int .i64) 3 (wq1_.setCell ⟨go104,(t3:Int).toNat,none⟩ (.int .i64 a1_2)) w.heap.size (fun k_=>no_ (.slice Ao1 t6.length co1) k_∧no_ (.slice Ao3 t11.length co3) k_∧no_ (.slice Ao4 t14.length co4) k_) (.slice (some ⟨go104,0,none⟩) t7.length co2) y1):=⟨by (with_reducible repeat (first|apply ra_|apply rn_|apply rd_));exact HQ132.out⟩;have n2_:Aside0 (Kd.R (Kd.int .i64) 3 (wq1_.setCell ⟨go104,(t3:Int).toNat,none⟩ (.int .i64 a1_2)) w.heap.size (fun k_=>no_ (.slice Ao1 t6.length co1) k_∧some k_≠(.slice (some ⟨go104,0,none⟩) t7.length co2:Value).ownBlock∧no_ (.slice Ao4 t14.length co4) k_) (.slice Ao3 t11.length co3) t11):=⟨by (with_reducible repeat (first|apply ra_|apply rn_|apply rd_));exact Kd.R_mono (Kd.R_far (p:=⟨go104,(t3:Int).toNat,none⟩) (Kd.R_mono HO3.out (fun k_ hk=>(⟨hk,fun e_=>hk.2.1 (by rw [e_];rfl)⟩:_∧k_≠go104))) jC _) (fun _ hk=>⟨hk.1.1,⟨hk.1.2.1,hk.1.2.2⟩⟩)⟩;have n3_:Aside0 (Kd.R (Kd.int .i64) 3 (wq1_.setCell ⟨go104,(t3:Int).toNat,none⟩ (.int .i64 a1_2)) w.heap.size (fun k_=>no_ (.slice Ao1 t6.length co1) k_∧some k_≠(.slice (some ⟨go104,0,none⟩) t7.length co2:Value).ownBlock∧no_ (.slice Ao3 t11.length co3) k_) (.slice Ao4 t14.length co4) t14):=⟨by (with_reducible repeat (first|apply ra_|apply rn_|apply rd_));exact Kd.R_mono (Kd.R_far (p:=⟨go104,(t3:Int).toNat,none⟩) (Kd.R_mono HO4.out (fun k_ hk=>(⟨hk,fun e_=>hk.2.1 (by rw [e_];rfl)⟩:_∧k_≠go104))) jC _) (fun _ hk=>⟨hk.1.1,⟨hk.1.2.1,hk.1.2.2⟩⟩)⟩;have n4_:Aside0 ((wq1_.setCell ⟨go104,(t3:Int).toNat,none⟩ (.int .i64 a1_2)).heap[gb1]?=some (.cells #[.int .i64 a0_0,.bool a0_1,.slice A0_2 l0_2.length c0_2,.slice A0_3 l0_3.length c0_3,.int .i64 a0_4] 32 (0,0))):=⟨by (with_reducible repeat (first|apply kn_|apply kd_|apply ka_));refine dm ?_ (by have h_:=Kd.R_ne HO2.out BK1.out ag;intro e_;exact h_ (by rw [e_];rfl)) _;(with_reducible repeat (first|apply kn_|apply kd_|apply ka_));exact BK1.out⟩;have n5_:Aside0 ((wq1_.setCell ⟨go104,(t3:Int).toNat,none⟩ (.int .i64 a1_2)).heap[gb2]?=some (.cells #[.int .i64 a1_0,.int .i64 a1_1,.int .i64 a1_2] 50 (0,0))):=⟨by (with_reducible repeat (first|apply kn_|apply kd_|apply ka_));refine dm ?_ (by have h_:=Kd.R_ne HO2.out BK2.out ag;intro e_;exact h_ (by rw [e_];rfl)) _;(with_reducible repeat (first|apply kn_|apply kd_|apply ka_));exact BK2.out⟩;have n6_:Aside0 ((wq1_.setCell ⟨go104,(t3:Int).toNat,none⟩ (.int .i64 a1_2)).heap[gb3]?=some (.cells #[.int .i64 0,.bool false,.slice none 0 0,.slice none 0 0,.int .i64 0] 32 (0,0))):=⟨by (with_reducible repeat (first|apply kn_|apply kd_|apply ka_));refine dm ?_ (by have h_:=Kd.R_ne HO2.out BK3.out ag;intro e_;exact h_ (by rw [e_];rfl)) _;(with_reducible repeat (first|apply kn_|apply kd_|apply ka_));exact BK3.out⟩;have n7_:Aside0 ((wq1_.setCell ⟨go104,(t3:Int).toNat,none⟩ (.int .i64 a1_2)).heap[gb4]?=some (.cells #[.int .i64 t12,.bool t13,.slice Ao4 t14.length co4,.slice (some ⟨go104,0,none⟩) t7.length co2,.int .i64 t8] 32 (0,0))):=⟨by (with_reducible repeat (first|apply kn_|apply kd_|apply ka_));refine dm ?_ (by have h_:=Kd.R_ne HO2.out BK4.out ag;intro e_;exact h_ (by rw [e_];rfl)) _;(with_reducible repeat (first|apply kn_|apply kd_|apply ka_));exact BK4.out⟩;have n8_:Aside0 (Below w.heap.size w (wq1_.setCell ⟨go104,(t3:Int).toNat,none⟩ (.int .i64 a1_2))):=⟨by repeat (with_reducible first|exact HB.out|apply ba_|apply bn_|apply bd_|refine bs_ ?_ GB104.out|refine bs_ ?_ GE1.out|refine bs_ ?_ GE2.out|refine bs_ ?_ GE3.out|refine bs_ ?_ GE4.out)⟩
 (try clear HO1)
 (try clear HO2)
 (try clear HO3)
 (try clear HO4)
 (try clear BK1)
 (try clear BK2)
 (try clear BK3)
 (try clear BK4)
 (try clear HB)
 generalize (wq1_.setCell ⟨go104,(t3:Int).toNat,none⟩ (.int .i64 a1_2))=w12 at n0_ n1_ n2_ n3_ n4_ n5_ n6_ n7_ n8_ ⊢;have HO1:=n0_;have HO2:=n1_;have HO3:=n2_;have HO4:=n3_;have BK1:=n4_;have BK2:=n5_;have BK3:=n6_;have BK4:=n7_;have HB:=n8_;clear n0_ n1_ n2_ n3_ n4_ n5_ n6_ n7_ n8_;have hcz4:=z5_ BK4;have hcz5:=z5_ BK3
 try go_wp2
 refine bodyPost_ret (results_cell_row rfl _ _ gb3 32 #[.int .i64 t12,.bool t13,.slice Ao4 t14.length co4,.slice (some ⟨go104,0,none⟩) t7.length co2,.int .i64 t8] (0,0) _ rfl (u1_ BK3) Tryz.underlying32 rfl aY) rfl ?_
 exact ⟨_,_,aE,by (with_reducible repeat (first|apply ra_|apply rn_|apply rd_));exact Kd.R_mono (bw (Kd.R_types HO4.out BK3.out ag)) (fun _ hk=>hk.1.2.1),by (with_reducible repeat (first|apply ra_|apply rn_|apply rd_));exact Kd.R_mono (bw (Kd.R_types HO2.out BK3.out ag)) (fun _ hk=>hk.1.2.2),ca⟩

def aK.f (k:Nat) (a0_0:Int) (a0_1:Bool) (l0_2:List Int) (l0_3:List Int) (a0_4:Int) (a1_0:Int) (a1_1:Int) (a1_2:Int):Option (Int × Bool × List Int × List Int × Int × Bool):=(aQ.f k a0_0 a0_1 l0_2 l0_3 a0_4 a1_0 a1_1 a1_2).bind fun t296=>(if t296=true then ((ar.f k a0_0 a0_1 l0_2 l0_3 a0_4 a1_0 a1_1 a1_2).bind fun bt297=>((bh.f bt297.1 bt297.2.1 bt297.2.2.1 bt297.2.2.2.1 bt297.2.2.2.2).bind fun bt306=>((ao.f k bt306.1 bt306.2.1 bt306.2.2.1 bt306.2.2.2.1 (wrap64 (a0_4+1))).bind fun t316=>(if t316=true then (some (bt306.1,bt306.2.1,bt306.2.2.1,bt306.2.2.2.1,wrap64 (a0_4+1),true)) else (some (0,false,([]:List Int),([]:List Int),0,false)))))) else (some (0,false,([]:List Int),([]:List Int),0,false)))
theorem aK.mono:∀ a0 a1 a2 a3 a4 a5 a6 a7 k,LeO (aK.f k a0 a1 a2 a3 a4 a5 a6 a7) (aK.f (k+1) a0 a1 a2 a3 a4 a5 a6 a7):=by
 intro a0 a1 a2 a3 a4 a5 a6 a7 k;unfold aK.f
 repeat' with_reducible first|exact ao.mono ..|exact ar.mono ..|exact aQ.mono ..|exact LeO.refl ..|exact LeO.none ..|refine LeO.ite ?_ ?_|refine LeO.bind ?_ (fun _=>?_)
theorem aK.nameW {P:Program} {ops:Array Oper} {Q:Exit→Act→World→Prop} {l:List Oper} {a:Act} {W:World} (o:Obj) (g:Nat) (hB:W.heap[g]?=some o) (h:∀ W_:World,Aside0 (W_=W)→Aside0 (W_.heap[g]?=some o)→wpList P ops Q l a W_):wpList P ops Q l a W:=h W ⟨rfl⟩ ⟨hB⟩
theorem aK.calls (k:Nat) (a0_0:Int) (a0_1:Bool) (A0_2:Option Addr) (c0_2:Nat) (l0_2:List Int) (A0_3:Option Addr) (c0_3:Nat) (l0_3:List Int) (a0_4:Int) (a1_0:Int) (a1_1:Int) (a1_2:Int) (r1:Int) (r2:Bool) (r3:List Int) (r4:List Int) (r5:Int) (r6:Bool) (w:World) (hr0_2:Kd.C (Kd.int .i64) w A0_2 l0_2.length l0_2) (hc0_2:l0_2.length≤c0_2) (hr0_3:Kd.C (Kd.int .i64) w A0_3 l0_3.length l0_3) (hc0_3:l0_3.length≤c0_3) (H:aK.f k a0_0 a0_1 l0_2 l0_3 a0_4 a1_0 a1_1 a1_2=some (r1,r2,r3,r4,r5,r6)) :
  Calls Tryz.prog 34 #[.agg #[.int .i64 a0_0,.bool a0_1,.slice A0_2 l0_2.length c0_2,.slice A0_3 l0_3.length c0_3,.int .i64 a0_4],.agg #[.int .i64 a1_0,.int .i64 a1_1,.int .i64 a1_2]] w fun e w'=>∃ v2_ v3_:Value,e=.returned (.tuple #[.agg #[.int .i64 r1,.bool r2,v2_,v3_,.int .i64 r5],.bool r6])∧Kd.R (Kd.int .i64) 3 w' w.heap.size (fun k_=>no_ v3_ k_) v2_ r3∧Kd.R (Kd.int .i64) 3 w' w.heap.size (fun k_=>no_ v2_ k_) v3_ r4∧Below w.heap.size w w':=by
 have hu32:=Tryz.underlying32;have hu50:=Tryz.underlying50;have HR0_2:=A0_ hr0_2;have HC0_2:=A0_ hc0_2;clear hr0_2 hc0_2;have HR0_3:=A0_ hr0_3;have HC0_3:=A0_ hc0_3;clear hr0_3 hc0_3;have HB:=A0_ (Below.refl w.heap.size w);unfold aK.f at H;obtain ⟨t1,A2,H⟩:=o1_ H
 by_cases c1:t1=true
 case neg =>
  obtain rfl:=bf_.mpr c1;rw [if_neg ft_] at H;simp only [sj_,pj_] at H;obtain ⟨rfl,rfl,rfl,rfl,rfl,rfl⟩:=H;go_enter Tryz.func34,Tryz.ntmps34
  go_wp2_with (first|((with_reducible refine gd_ (N:=2) rfl ?_);refine bx_ 2 #[.int .i64 a0_0,.bool a0_1,.slice A0_2 l0_2.length c0_2,.slice A0_3 l0_3.length c0_3,.int .i64 a0_4] 32 ?_;intro gb1 hg w1 BK1 hb;have GW1:=ge_ hg ai;have GE1:=GW1;replace HB:=hb_ hb ai;clear hb hg)|((with_reducible refine gd_ (N:=3) rfl ?_);refine bx_ 3 #[.int .i64 a1_0,.int .i64 a1_1,.int .i64 a1_2] 50 ?_;intro gb2 hg w2 BK2 hb;have GW2:=ge_ hg aj;have GE2:=GW2;replace HB:=hb_ hb aj;obtain ⟨NB1_2,NB2_1⟩:=nn_ hg BK1;replace BK1:=k1_ BK1 hb;clear hb hg)|((with_reducible refine gd_ (N:=4) rfl ?_);refine bx_ 4 #[.int .i64 0,.bool false,.slice none 0 0,.slice none 0 0,.int .i64 0] 32 ?_;intro gb3 hg w3 BK3 hb;have GW3:=ge_ hg au;have GE3:=GW3;replace HB:=hb_ hb au;obtain ⟨NB1_3,NB3_1⟩:=nn_ hg BK1;replace BK1:=k1_ BK1 hb;obtain ⟨NB2_3,NB3_2⟩:=nn_ hg BK2;replace BK2:=k1_ BK2 hb;clear hb hg;obtain ⟨hnb1,hnc1⟩:=n2_ NB1_2;obtain ⟨hnb2,hnc2⟩:=n2_ NB1_3;have hcz1:=z5_ BK1;obtain ⟨hnb3,hnc3⟩:=n2_ NB2_3;have hcz2_0:=y_ BK2 0;have hcz2_1:=y_ BK2 1;have hcz2_2:=y_ BK2 2;have hfz2_0:=kf_ BK2.out 0;have hfz2_1:=kf_ BK2.out 1;have hfz2_2:=kf_ BK2.out 2)|((with_reducible refine gc_ (f:=68) rfl ?_);refine gl_ 9 Tryz.func68 #[.agg #[.int .i64 a0_0,.bool a0_1,.slice A0_2 l0_2.length c0_2,.slice A0_3 l0_3.length c0_3,.int .i64 a0_4],.agg #[.int .i64 a1_0,.int .i64 a1_1,.int .i64 a1_2]] ?_;(with_reducible refine (aQ.calls k a0_0 a0_1 _ _ l0_2 _ _ l0_3 a0_4 a1_0 a1_1 a1_2 false _ ?_ ?_ ?_ ?_ A2.out).mono ?_);exact bz;exact HC0_2.out;exact b6;exact HC0_3.out;rintro e w4 ⟨rfl,hb⟩;refine ⟨_,rfl,?_⟩;replace BK1:=k1_ BK1 hb;replace BK2:=k1_ BK2 hb;replace BK3:=k1_ BK3 hb;replace HB:=hb_ hb aD;(try clear hb);have hcz3:=z5_ BK3))
  refine bodyPost_ret (cU rfl _ _ gb3 32 #[.int .i64 0,.bool false,.slice none 0 0,.slice none 0 0,.int .i64 0] (0,0) _ rfl (u1_ BK3) Tryz.underlying32 rfl aY) rfl ?_
  exact ⟨_,_,aE,dF,dF,aD⟩
 subst c1;rw [if_pos rfl] at H;obtain ⟨⟨t3,t4,t5,t6,t7⟩,A4,H⟩:=o1_ H;obtain ⟨⟨t8,t9,t10,t11,t12⟩,A6,H⟩:=o1_ H;obtain ⟨t2,A8,H⟩:=o1_ H
 by_cases c2:t2=true
 case neg =>
  obtain rfl:=bf_.mpr c2;rw [if_neg ft_] at H;simp only [sj_,pj_] at H;obtain ⟨rfl,rfl,rfl,rfl,rfl,rfl⟩:=H;go_enter Tryz.func34,Tryz.ntmps34
  go_wp2_with (first|((with_reducible refine gd_ (N:=2) rfl ?_);refine bx_ 2 #[.int .i64 a0_0,.bool a0_1,.slice A0_2 l0_2.length c0_2,.slice A0_3 l0_3.length c0_3,.int .i64 a0_4] 32 ?_;intro gb1 hg w1 BK1 hb;have GW1:=ge_ hg ai;have GE1:=GW1;replace HB:=hb_ hb ai;clear hb hg)|((with_reducible refine gd_ (N:=3) rfl ?_);refine bx_ 3 #[.int .i64 a1_0,.int .i64 a1_1,.int .i64 a1_2] 50 ?_;intro gb2 hg w2 BK2 hb;have GW2:=ge_ hg aj;have GE2:=GW2;replace HB:=hb_ hb aj;obtain ⟨NB1_2,NB2_1⟩:=nn_ hg BK1;replace BK1:=k1_ BK1 hb;clear hb hg)|((with_reducible refine gd_ (N:=4) rfl ?_);refine bx_ 4 #[.int .i64 0,.bool false,.slice none 0 0,.slice none 0 0,.int .i64 0] 32 ?_;intro gb3 hg w3 BK3 hb;have GW3:=ge_ hg au;have GE3:=GW3;replace HB:=hb_ hb au;obtain ⟨NB1_3,NB3_1⟩:=nn_ hg BK1;replace BK1:=k1_ BK1 hb;obtain ⟨NB2_3,NB3_2⟩:=nn_ hg BK2;replace BK2:=k1_ BK2 hb;clear hb hg;obtain ⟨hnb1,hnc1⟩:=n2_ NB1_2;obtain ⟨hnb2,hnc2⟩:=n2_ NB1_3;have hcz1:=z5_ BK1;obtain ⟨hnb3,hnc3⟩:=n2_ NB2_3;have hcz2_0:=y_ BK2 0;have hcz2_1:=y_ BK2 1;have hcz2_2:=y_ BK2 2;have hfz2_0:=kf_ BK2.out 0;have hfz2_1:=kf_ BK2.out 1;have hfz2_2:=kf_ BK2.out 2)|((with_reducible refine gc_ (f:=68) rfl ?_);refine gl_ 9 Tryz.func68 #[.agg #[.int .i64 a0_0,.bool a0_1,.slice A0_2 l0_2.length c0_2,.slice A0_3 l0_3.length c0_3,.int .i64 a0_4],.agg #[.int .i64 a1_0,.int .i64 a1_1,.int .i64 a1_2]] ?_;(with_reducible refine (aQ.calls k a0_0 a0_1 _ _ l0_2 _ _ l0_3 a0_4 a1_0 a1_1 a1_2 true _ ?_ ?_ ?_ ?_ A2.out).mono ?_);exact bz;exact HC0_2.out;exact b6;exact HC0_3.out;rintro e w4 ⟨rfl,hb⟩;refine ⟨_,rfl,?_⟩;replace BK1:=k1_ BK1 hb;replace BK2:=k1_ BK2 hb;replace BK3:=k1_ BK3 hb;replace HB:=hb_ hb aD;(try clear hb);have hcz3:=z5_ BK1;have hcz4:=z3_ BK2)|((with_reducible refine gc_ (f:=69) rfl ?_);refine gl_ 14 Tryz.func69 #[.agg #[.int .i64 a0_0,.bool a0_1,.slice A0_2 l0_2.length c0_2,.slice A0_3 l0_3.length c0_3,.int .i64 a0_4],.agg #[.int .i64 a1_0,.int .i64 a1_1,.int .i64 a1_2]] ?_;(with_reducible refine (ar.calls k a0_0 a0_1 _ _ l0_2 _ _ l0_3 a0_4 a1_0 a1_1 a1_2 t3 t4 t5 t6 t7 _ ?_ ?_ ?_ ?_ A4.out).mono ?_);exact bz;exact HC0_2.out;exact b6;exact HC0_3.out;rintro e w5 ⟨v1,v4,rfl,ho0,ho1,hb⟩;refine ⟨_,rfl,?_⟩;have HO1:=A0_ (Kd.R_lower ho0 (bz_ aD));have HO2:=A0_ (Kd.R_lower ho1 (bz_ aD));replace BK1:=k1_ BK1 hb;replace BK2:=k1_ BK2 hb;replace BK3:=k1_ BK3 hb;replace HB:=hb_ hb aD;(try clear hb ho0 ho1);obtain ⟨Ao1,co1,eo1⟩:=Kd.R_slice HO1.out;subst eo1;obtain ⟨Ao2,co2,eo2⟩:=Kd.R_slice HO2.out;subst eo2)|((with_reducible refine gc_ (f:=33) rfl ?_);refine gl_ 15 Tryz.func33 #[.agg #[.int .i64 t3,.bool t4,.slice Ao1 t5.length co1,.slice Ao2 t6.length co2,.int .i64 t7]] ?_;(with_reducible refine (bh.calls t3 t4 _ _ t5 _ _ t6 t7 t8 t9 t10 t11 t12 _ ?_ ?_ ?_ ?_ A6.out).mono ?_);exact dW;exact (rr_ HO1.out).2.1;exact f6;exact (rr_ HO2.out).2.1;rintro e w6 ⟨v5,v6,rfl,ho0,ho1,hb⟩;refine ⟨_,rfl,?_⟩;have HO3:=A0_ (Kd.R_lower (Kd.R_new' (Kd.R_new' ho0 (Kd.R_lt bx)) (Kd.R_lt cd)) (bz_ aD));have HO4:=A0_ (Kd.R_lower (Kd.R_new' (Kd.R_new' ho1 (Kd.R_lt bx)) (Kd.R_lt cd)) (bz_ aD));replace HO1:=A0_ (Kd.R_mono (Kd.R_told (Kd.R_told (Kd.R_old bx hb) (Kd.R_base ho0)) (Kd.R_base ho1)) (fun _ h_=>h_.1));replace HO2:=A0_ (Kd.R_mono (Kd.R_told (Kd.R_told (Kd.R_old cd hb) (Kd.R_base ho0)) (Kd.R_base ho1)) (fun _ h_=>h_.1));replace BK1:=k1_ BK1 hb;replace BK2:=k1_ BK2 hb;replace BK3:=k1_ BK3 hb;replace HB:=hb_ hb aD;(try clear hb ho0 ho1))|((with_reducible refine gd_ (N:=6) rfl ?_);refine bx_ 6 #[.int .i64 0,.bool false,.slice none 0 0,.slice none 0 0,.int .i64 0] 32 ?_;intro gb4 hg w7 BK4 hb;replace HO1:=q1_ HO1 hb;replace HO2:=q1_ HO2 hb;replace HO3:=q1_ HO3 hb;replace HO4:=q1_ HO4 hb;have GW4:=ge_ hg aD;have GE4:=GW4;replace HB:=hb_ hb aD;obtain ⟨NB1_4,NB4_1⟩:=nn_ hg BK1;replace BK1:=k1_ BK1 hb;obtain ⟨NB2_4,NB4_2⟩:=nn_ hg BK2;replace BK2:=k1_ BK2 hb;obtain ⟨NB3_4,NB4_3⟩:=nn_ hg BK3;replace BK3:=k1_ BK3 hb;clear hb hg;obtain ⟨hnb4,hnc4⟩:=n2_ NB4_1;obtain ⟨hnb5,hnc5⟩:=n2_ NB4_2;obtain ⟨hnb6,hnc6⟩:=n2_ NB4_3;have hcz5:=z5_ BK4;obtain ⟨Ao3,co3,eo3⟩:=Kd.R_slice HO3.out;subst eo3;obtain ⟨Ao4,co4,eo4⟩:=Kd.R_slice HO4.out;subst eo4;have hcz6_0:=y_ BK1 0;have hcz6_1:=y_ BK1 1;have hcz6_2:=y_ BK1 2;have hcz6_3:=y_ BK1 3;have hcz6_4:=y_ BK1 4;have hfz6_0:=kf_ BK1.out 0;have hfz6_1:=kf_ BK1.out 1;have hfz6_2:=kf_ BK1.out 2;have hfz6_3:=kf_ BK1.out 3;have hfz6_4:=kf_ BK1.out 4)|((with_reducible refine gd_ (N:=20) rfl ?_);refine aK.nameW (.cells #[.int .i64 t8,.bool t9,.slice Ao3 t10.length co3,.slice Ao4 t11.length co4,.int .i64 (wrap64 (a0_4+1))] 32 (0,0)) gb4 (u1_ BK4) ?_;intro W_ hW2_ BKW_;have hczw_0:W_.cell? ⟨gb4,0,none⟩=some (.int .i64 t8):=(kc_ BKW_.out 0).trans rfl;have hczw_1:W_.cell? ⟨gb4,1,none⟩=some (.bool t9):=(kc_ BKW_.out 1).trans rfl;have hczw_2:W_.cell? ⟨gb4,2,none⟩=some (.slice Ao3 t10.length co3):=(kc_ BKW_.out 2).trans rfl;have hczw_3:W_.cell? ⟨gb4,3,none⟩=some (.slice Ao4 t11.length co4):=(kc_ BKW_.out 3).trans rfl;have hczw_4:W_.cell? ⟨gb4,4,none⟩=some (.int .i64 (wrap64 (a0_4+1))):=(kc_ BKW_.out 4).trans rfl;go_step;go_step;clear hczw_0 hczw_1 hczw_2 hczw_3 hczw_4 BKW_;have hW_:=hW2_.out;clear hW2_;subst hW_)|((with_reducible refine gc_ (f:=32) rfl ?_);refine gl_ 21 Tryz.func32 #[.agg #[.int .i64 t8,.bool t9,.slice Ao3 t10.length co3,.slice Ao4 t11.length co4,.int .i64 (wrap64 (a0_4+1))]] ?_;(with_reducible refine (ao.calls k t8 t9 _ _ t10 _ _ t11 (wrap64 (a0_4+1)) false _ ?_ ?_ ?_ ?_ A8.out).mono ?_);(refine (rr_ (e:=3) (base:=w.heap.size) (ok:=fun k_=>((no_ (.slice Ao4 t11.length co4) k_∧no_ (.slice Ao1 t5.length co1) k_)∧no_ (.slice Ao2 t6.length co2) k_)) (n:=t10.length) (c:=co3) ?_).2.2;exact kT);exact (rr_ HO3.out).2.1;(refine (rr_ (e:=3) (base:=w.heap.size) (ok:=fun k_=>((no_ (.slice Ao3 t10.length co3) k_∧no_ (.slice Ao1 t5.length co1) k_)∧no_ (.slice Ao2 t6.length co2) k_)) (n:=t11.length) (c:=co4) ?_).2.2;exact kV);exact (rr_ HO4.out).2.1;rintro e w8 ⟨rfl,hb⟩;refine ⟨_,rfl,?_⟩;replace HO1:=A0_ (Kd.R_below nH hb);replace HO2:=A0_ (Kd.R_below ng hb);replace HO3:=A0_ (Kd.R_below kT hb);replace HO4:=A0_ (Kd.R_below kV hb);replace BK1:=k1_ BK1 hb;replace BK2:=k1_ BK2 hb;replace BK3:=k1_ BK3 hb;replace BK4:=k2_ (.cells #[.int .i64 t8,.bool t9,.slice Ao3 t10.length co3,.slice Ao4 t11.length co4,.int .i64 (wrap64 (a0_4+1))] 32 (0,0)) BK4 hb;replace HB:=hb_ hb ca;(try clear hb);have hcz7:=z5_ BK3))
  refine bodyPost_ret (cU rfl _ _ gb3 32 #[.int .i64 0,.bool false,.slice none 0 0,.slice none 0 0,.int .i64 0] (0,0) _ rfl (u1_ BK3) Tryz.underlying32 rfl aY) rfl ?_
  exact ⟨_,_,aE,dF,dF,ca⟩
 subst c2;rw [if_pos rfl] at H;simp only [sj_,pj_] at H;obtain ⟨rfl,rfl,rfl,rfl,rfl,rfl⟩:=H;go_enter Tryz.func34,Tryz.ntmps34
 go_wp2_with (first|((with_reducible refine gd_ (N:=2) rfl ?_);refine bx_ 2 #[.int .i64 a0_0,.bool a0_1,.slice A0_2 l0_2.length c0_2,.slice A0_3 l0_3.length c0_3,.int .i64 a0_4] 32 ?_;intro gb1 hg w1 BK1 hb;have GW1:=ge_ hg ai;have GE1:=GW1;replace HB:=hb_ hb ai;clear hb hg)|((with_reducible refine gd_ (N:=3) rfl ?_);refine bx_ 3 #[.int .i64 a1_0,.int .i64 a1_1,.int .i64 a1_2] 50 ?_;intro gb2 hg w2 BK2 hb;have GW2:=ge_ hg aj;have GE2:=GW2;replace HB:=hb_ hb aj;obtain ⟨NB1_2,NB2_1⟩:=nn_ hg BK1;replace BK1:=k1_ BK1 hb;clear hb hg)|((with_reducible refine gd_ (N:=4) rfl ?_);refine bx_ 4 #[.int .i64 0,.bool false,.slice none 0 0,.slice none 0 0,.int .i64 0] 32 ?_;intro gb3 hg w3 BK3 hb;have GW3:=ge_ hg au;have GE3:=GW3;replace HB:=hb_ hb au;obtain ⟨NB1_3,NB3_1⟩:=nn_ hg BK1;replace BK1:=k1_ BK1 hb;obtain ⟨NB2_3,NB3_2⟩:=nn_ hg BK2;replace BK2:=k1_ BK2 hb;clear hb hg;obtain ⟨hnb1,hnc1⟩:=n2_ NB1_2;obtain ⟨hnb2,hnc2⟩:=n2_ NB1_3;have hcz1:=z5_ BK1;obtain ⟨hnb3,hnc3⟩:=n2_ NB2_3;have hcz2_0:=y_ BK2 0;have hcz2_1:=y_ BK2 1;have hcz2_2:=y_ BK2 2;have hfz2_0:=kf_ BK2.out 0;have hfz2_1:=kf_ BK2.out 1;have hfz2_2:=kf_ BK2.out 2)|((with_reducible refine gc_ (f:=68) rfl ?_);refine gl_ 9 Tryz.func68 #[.agg #[.int .i64 a0_0,.bool a0_1,.slice A0_2 l0_2.length c0_2,.slice A0_3 l0_3.length c0_3,.int .i64 a0_4],.agg #[.int .i64 a1_0,.int .i64 a1_1,.int .i64 a1_2]] ?_;(with_reducible refine (aQ.calls k a0_0 a0_1 _ _ l0_2 _ _ l0_3 a0_4 a1_0 a1_1 a1_2 true _ ?_ ?_ ?_ ?_ A2.out).mono ?_);exact bz;exact HC0_2.out;exact b6;exact HC0_3.out;rintro e w4 ⟨rfl,hb⟩;refine ⟨_,rfl,?_⟩;replace BK1:=k1_ BK1 hb;replace BK2:=k1_ BK2 hb;replace BK3:=k1_ BK3 hb;replace HB:=hb_ hb aD;(try clear hb);have hcz3:=z5_ BK1;have hcz4:=z3_ BK2)|((with_reducible refine gc_ (f:=69) rfl ?_);refine gl_ 14 Tryz.func69 #[.agg #[.int .i64 a0_0,.bool a0_1,.slice A0_2 l0_2.length c0_2,.slice A0_3 l0_3.length c0_3,.int .i64 a0_4],.agg #[.int .i64 a1_0,.int .i64 a1_1,.int .i64 a1_2]] ?_;(with_reducible refine (ar.calls k a0_0 a0_1 _ _ l0_2 _ _ l0_3 a0_4 a1_0 a1_1 a1_2 t3 t4 t5 t6 t7 _ ?_ ?_ ?_ ?_ A4.out).mono ?_);exact bz;exact HC0_2.out;exact b6;exact HC0_3.out;rintro e w5 ⟨v1,v4,rfl,ho0,ho1,hb⟩;refine ⟨_,rfl,?_⟩;have HO1:=A0_ (Kd.R_lower ho0 (bz_ aD));have HO2:=A0_ (Kd.R_lower ho1 (bz_ aD));replace BK1:=k1_ BK1 hb;replace BK2:=k1_ BK2 hb;replace BK3:=k1_ BK3 hb;replace HB:=hb_ hb aD;(try clear hb ho0 ho1);obtain ⟨Ao1,co1,eo1⟩:=Kd.R_slice HO1.out;subst eo1;obtain ⟨Ao2,co2,eo2⟩:=Kd.R_slice HO2.out;subst eo2)|((with_reducible refine gc_ (f:=33) rfl ?_);refine gl_ 15 Tryz.func33 #[.agg #[.int .i64 t3,.bool t4,.slice Ao1 t5.length co1,.slice Ao2 t6.length co2,.int .i64 t7]] ?_;(with_reducible refine (bh.calls t3 t4 _ _ t5 _ _ t6 t7 t8 t9 t10 t11 t12 _ ?_ ?_ ?_ ?_ A6.out).mono ?_);exact dW;exact (rr_ HO1.out).2.1;exact f6;exact (rr_ HO2.out).2.1;rintro e w6 ⟨v5,v6,rfl,ho0,ho1,hb⟩;refine ⟨_,rfl,?_⟩;have HO3:=A0_ (Kd.R_lower (Kd.R_new' (Kd.R_new' ho0 (Kd.R_lt bx)) (Kd.R_lt cd)) (bz_ aD));have HO4:=A0_ (Kd.R_lower (Kd.R_new' (Kd.R_new' ho1 (Kd.R_lt bx)) (Kd.R_lt cd)) (bz_ aD));replace HO1:=A0_ (Kd.R_mono (Kd.R_told (Kd.R_told (Kd.R_old bx hb) (Kd.R_base ho0)) (Kd.R_base ho1)) (fun _ h_=>h_.1));replace HO2:=A0_ (Kd.R_mono (Kd.R_told (Kd.R_told (Kd.R_old cd hb) (Kd.R_base ho0)) (Kd.R_base ho1)) (fun _ h_=>h_.1));replace BK1:=k1_ BK1 hb;replace BK2:=k1_ BK2 hb;replace BK3:=k1_ BK3 hb;replace HB:=hb_ hb aD;(try clear hb ho0 ho1))|((with_reducible refine gd_ (N:=6) rfl ?_);refine bx_ 6 #[.int .i64 0,.bool false,.slice none 0 0,.slice none 0 0,.int .i64 0] 32 ?_;intro gb4 hg w7 BK4 hb;replace HO1:=q1_ HO1 hb;replace HO2:=q1_ HO2 hb;replace HO3:=q1_ HO3 hb;replace HO4:=q1_ HO4 hb;have GW4:=ge_ hg aD;have GE4:=GW4;replace HB:=hb_ hb aD;obtain ⟨NB1_4,NB4_1⟩:=nn_ hg BK1;replace BK1:=k1_ BK1 hb;obtain ⟨NB2_4,NB4_2⟩:=nn_ hg BK2;replace BK2:=k1_ BK2 hb;obtain ⟨NB3_4,NB4_3⟩:=nn_ hg BK3;replace BK3:=k1_ BK3 hb;clear hb hg;obtain ⟨hnb4,hnc4⟩:=n2_ NB4_1;obtain ⟨hnb5,hnc5⟩:=n2_ NB4_2;obtain ⟨hnb6,hnc6⟩:=n2_ NB4_3;have hcz5:=z5_ BK4;obtain ⟨Ao3,co3,eo3⟩:=Kd.R_slice HO3.out;subst eo3;obtain ⟨Ao4,co4,eo4⟩:=Kd.R_slice HO4.out;subst eo4;have hcz6_0:=y_ BK1 0;have hcz6_1:=y_ BK1 1;have hcz6_2:=y_ BK1 2;have hcz6_3:=y_ BK1 3;have hcz6_4:=y_ BK1 4;have hfz6_0:=kf_ BK1.out 0;have hfz6_1:=kf_ BK1.out 1;have hfz6_2:=kf_ BK1.out 2;have hfz6_3:=kf_ BK1.out 3;have hfz6_4:=kf_ BK1.out 4)|((with_reducible refine gd_ (N:=20) rfl ?_);refine aK.nameW (.cells #[.int .i64 t8,.bool t9,.slice Ao3 t10.length co3,.slice Ao4 t11.length co4,.int .i64 (wrap64 (a0_4+1))] 32 (0,0)) gb4 (u1_ BK4) ?_;intro W_ hW2_ BKW_;have hczw_0:W_.cell? ⟨gb4,0,none⟩=some (.int .i64 t8):=(kc_ BKW_.out 0).trans rfl;have hczw_1:W_.cell? ⟨gb4,1,none⟩=some (.bool t9):=(kc_ BKW_.out 1).trans rfl;have hczw_2:W_.cell? ⟨gb4,2,none⟩=some (.slice Ao3 t10.length co3):=(kc_ BKW_.out 2).trans rfl;have hczw_3:W_.cell? ⟨gb4,3,none⟩=some (.slice Ao4 t11.length co4):=(kc_ BKW_.out 3).trans rfl;have hczw_4:W_.cell? ⟨gb4,4,none⟩=some (.int .i64 (wrap64 (a0_4+1))):=(kc_ BKW_.out 4).trans rfl;go_step;go_step;clear hczw_0 hczw_1 hczw_2 hczw_3 hczw_4 BKW_;have hW_:=hW2_.out;clear hW2_;subst hW_)|((with_reducible refine gc_ (f:=32) rfl ?_);refine gl_ 21 Tryz.func32 #[.agg #[.int .i64 t8,.bool t9,.slice Ao3 t10.length co3,.slice Ao4 t11.length co4,.int .i64 (wrap64 (a0_4+1))]] ?_;(with_reducible refine (ao.calls k t8 t9 _ _ t10 _ _ t11 (wrap64 (a0_4+1)) true _ ?_ ?_ ?_ ?_ A8.out).mono ?_);(refine (rr_ (e:=3) (base:=w.heap.size) (ok:=fun k_=>((no_ (.slice Ao4 t11.length co4) k_∧no_ (.slice Ao1 t5.length co1) k_)∧no_ (.slice Ao2 t6.length co2) k_)) (n:=t10.length) (c:=co3) ?_).2.2;exact kT);exact (rr_ HO3.out).2.1;(refine (rr_ (e:=3) (base:=w.heap.size) (ok:=fun k_=>((no_ (.slice Ao3 t10.length co3) k_∧no_ (.slice Ao1 t5.length co1) k_)∧no_ (.slice Ao2 t6.length co2) k_)) (n:=t11.length) (c:=co4) ?_).2.2;exact kV);exact (rr_ HO4.out).2.1;rintro e w8 ⟨rfl,hb⟩;refine ⟨_,rfl,?_⟩;replace HO1:=A0_ (Kd.R_below nH hb);replace HO2:=A0_ (Kd.R_below ng hb);replace HO3:=A0_ (Kd.R_below kT hb);replace HO4:=A0_ (Kd.R_below kV hb);replace BK1:=k1_ BK1 hb;replace BK2:=k1_ BK2 hb;replace BK3:=k1_ BK3 hb;replace BK4:=k2_ (.cells #[.int .i64 t8,.bool t9,.slice Ao3 t10.length co3,.slice Ao4 t11.length co4,.int .i64 (wrap64 (a0_4+1))] 32 (0,0)) BK4 hb;replace HB:=hb_ hb ca;(try clear hb);have hcz7:=z5_ BK4;have hcz8:=z5_ BK3))
 refine bodyPost_ret (cU rfl _ _ gb3 32 #[.int .i64 t8,.bool t9,.slice Ao3 t10.length co3,.slice Ao4 t11.length co4,.int .i64 (wrap64 (a0_4+1))] (0,0) _ rfl (u1_ BK3) Tryz.underlying32 rfl aY) rfl ?_
 exact ⟨_,_,aE,by (with_reducible repeat (first|apply ra_|apply rn_|apply rd_));exact Kd.R_mono (rf_ (mz (Kd.R_types HO3.out BK3.out ag)) (fun _ hk=>hk.2) (.int .i64 (wrap64 (a0_4+1)))) (fun _ hk=>hk.1.1.1),by (with_reducible repeat (first|apply ra_|apply rn_|apply rd_));exact Kd.R_mono (rf_ (mz (Kd.R_types HO4.out BK3.out ag)) (fun _ hk=>hk.2) (.int .i64 (wrap64 (a0_4+1)))) (fun _ hk=>hk.1.1.1),ca⟩

def aH.l0:Nat→List (S50)→Int→Int→Bool→List Int→List Int→Int→Option (Int × Bool × List Int × List Int × Int × Int × Bool)
 | 0,_,_,_,_,_,_,_=>none
 | k+1,x1,x8,xa,xb,xc,xd,xe=>if x8<(x1.length:Int) then (if 0≤x8 then ((aK.f k xa xb xc xd xe ((bf x1 x8).f0) ((bf x1 x8).f1) ((bf x1 x8).f2)).bind fun bt331=>(if bt331.2.2.2.2.2=true then (aH.l0 k x1 (wrap64 (x8+1)) bt331.1 bt331.2.1 bt331.2.2.1 bt331.2.2.2.1 bt331.2.2.2.2.1) else (some (xa,xb,xc,xd,xe,x8,true)))) else (none)) else (some (xa,xb,xc,xd,xe,(x1.length:Int),true))
def aH.f (k:Nat) (a0_0:Int) (a0_1:Bool) (l0_2:List Int) (l0_3:List Int) (a0_4:Int) (l1:List (S50)):Option (Int × Bool × List Int × List Int × Int × Int × Bool):=(ao.f k a0_0 a0_1 l0_2 l0_3 a0_4).bind fun t319=>(if t319=true then ((bh.f a0_0 a0_1 l0_2 l0_3 a0_4).bind fun bt320=>(aH.l0 k l1 0 bt320.1 bt320.2.1 bt320.2.2.1 bt320.2.2.2.1 bt320.2.2.2.2)) else (some (0,false,([]:List Int),([]:List Int),0,0,false)))
theorem aH.mono_l:∀ k,(∀ y0 y1 y2 y3 y4 y5 y6,LeO (aH.l0 k y0 y1 y2 y3 y4 y5 y6) (aH.l0 (k+1) y0 y1 y2 y3 y4 y5 y6))
 | 0=>fun _ _ _ _ _ _ _ r h=>by simp [aH.l0] at h
 | k+1=>by
  have ih0:=aH.mono_l k
  ·intro y0 y1 y2 y3 y4 y5 y6
   unfold aH.l0
   repeat' with_reducible first|exact ih0 ..|exact aK.mono ..|exact ao.mono ..|exact LeO.refl ..|exact LeO.none ..|refine LeO.ite ?_ ?_|refine LeO.bind ?_ (fun _=>?_)
theorem aH.mono:∀ a0 a1 a2 a3 a4 a5 k,LeO (aH.f k a0 a1 a2 a3 a4 a5) (aH.f (k+1) a0 a1 a2 a3 a4 a5):=by
 intro a0 a1 a2 a3 a4 a5 k;have ih0:=aH.mono_l k;unfold aH.f
 repeat' with_reducible first|exact ih0 ..|exact aK.mono ..|exact ao.mono ..|exact LeO.refl ..|exact LeO.none ..|refine LeO.ite ?_ ?_|refine LeO.bind ?_ (fun _=>?_)
def aH.T7:Bool × List (List Nat × List Nat):=(true,[([],[]),([],[]),([],[]),([1,2],[1,2]),([3],[3]),([0,4],[0,4]),([5],[5]),([6],[6]),([6],[6]),([],[]),([9,7,5,0,1,2,3,4,5,6,7,9],[7,9]),([8,10,0,1,2,3,4,5,6,7,8,9,10],[8])])
def aH.B7:List Nat:=[0,0,0,6,14,31,63,127,127,0,767,2047]
theorem aH.tab7:df .any (dO Tryz.f7 7)=aH.T7:=by kernel_rfl
theorem aH.bits7:ce aH.T7.2 aH.B7=true:=by kernel_rfl
theorem aH.calls (k:Nat) (a0_0:Int) (a0_1:Bool) (A0_2:Option Addr) (c0_2:Nat) (l0_2:List Int) (A0_3:Option Addr) (c0_3:Nat) (l0_3:List Int) (a0_4:Int) (A1:Option Addr) (c1:Nat) (l1:List (S50)) (r1:Int) (r2:Bool) (r3:List Int) (r4:List Int) (r5:Int) (r6:Int) (r7:Bool) (w:World) (hr0_2:Kd.C (Kd.int .i64) w A0_2 l0_2.length l0_2) (hc0_2:l0_2.length≤c0_2) (hr0_3:Kd.C (Kd.int .i64) w A0_3 l0_3.length l0_3) (hc0_3:l0_3.length≤c0_3) (hr1:Kd.C k50 w A1 l1.length l1) (hc1:l1.length≤c1) (H:aH.f k a0_0 a0_1 l0_2 l0_3 a0_4 l1=some (r1,r2,r3,r4,r5,r6,r7)) :
  Calls Tryz.prog 7 #[.agg #[.int .i64 a0_0,.bool a0_1,.slice A0_2 l0_2.length c0_2,.slice A0_3 l0_3.length c0_3,.int .i64 a0_4],.slice A1 l1.length c1] w fun e w'=>∃ v2_ v3_:Value,e=.returned (.tuple #[.agg #[.int .i64 r1,.bool r2,v2_,v3_,.int .i64 r5],.int .i64 r6,.bool r7])∧Kd.R (Kd.int .i64) 3 w' w.heap.size (fun k_=>no_ v3_ k_) v2_ r3∧Kd.R (Kd.int .i64) 3 w' w.heap.size (fun k_=>no_ v2_ k_) v3_ r4∧Below w.heap.size w w':=by
 have hu32:=Tryz.underlying32;have hu50:=Tryz.underlying50;have HR0_2:=A0_ hr0_2;have HC0_2:=A0_ hc0_2;clear hr0_2 hc0_2;have HR0_3:=A0_ hr0_3;have HC0_3:=A0_ hc0_3;clear hr0_3 hc0_3;have HR1:=A0_ hr1;have HC1:=A0_ hc1;clear hr1 hc1;have HB:=A0_ (Below.refl w.heap.size w);unfold aH.f at H;obtain ⟨t1,A3,H⟩:=o1_ H
 by_cases c2:t1=true
 case neg =>
  obtain rfl:=bf_.mpr c2;rw [if_neg ft_] at H;simp only [sj_,pj_] at H;obtain ⟨rfl,rfl,rfl,rfl,rfl,rfl,rfl⟩:=H;go_enter Tryz.func7,Tryz.ntmps7
  go_wp2_with (first|((with_reducible refine gd_ (N:=2) rfl ?_);refine bx_ 2 #[.int .i64 a0_0,.bool a0_1,.slice A0_2 l0_2.length c0_2,.slice A0_3 l0_3.length c0_3,.int .i64 a0_4] 32 ?_;intro gb1 hg w1 BK1 hb;have GW1:=ge_ hg ai;have GE1:=GW1;replace HB:=hb_ hb ai;clear hb hg)|((with_reducible refine gd_ (N:=4) rfl ?_);refine bx_ 4 #[.int .i64 0,.bool false,.slice none 0 0,.slice none 0 0,.int .i64 0] 32 ?_;intro gb2 hg w2 BK2 hb;have GW2:=ge_ hg aj;have GE2:=GW2;replace HB:=hb_ hb aj;obtain ⟨NB1_2,NB2_1⟩:=nn_ hg BK1;replace BK1:=k1_ BK1 hb;clear hb hg;obtain ⟨hnb1,hnc1⟩:=n2_ NB1_2;have hcz1:=z5_ BK1)|((with_reducible refine gc_ (f:=32) rfl ?_);refine gl_ 12 Tryz.func32 #[.agg #[.int .i64 a0_0,.bool a0_1,.slice A0_2 l0_2.length c0_2,.slice A0_3 l0_3.length c0_3,.int .i64 a0_4]] ?_;(with_reducible refine (ao.calls k a0_0 a0_1 _ _ l0_2 _ _ l0_3 a0_4 false _ ?_ ?_ ?_ ?_ A3.out).mono ?_);exact bz;exact HC0_2.out;exact b6;exact HC0_3.out;rintro e w3 ⟨rfl,hb⟩;refine ⟨_,rfl,?_⟩;replace BK1:=k1_ BK1 hb;replace BK2:=k1_ BK2 hb;replace HB:=hb_ hb au;(try clear hb);have hcz2:=z5_ BK2))
  refine bodyPost_ret (dX rfl _ _ gb2 32 #[.int .i64 0,.bool false,.slice none 0 0,.slice none 0 0,.int .i64 0] (0,0) _ rfl (u1_ BK2) Tryz.underlying32 rfl aY) rfl ?_
  exact ⟨_,_,aE,dF,dF,au⟩
 subst c2;rw [if_pos rfl] at H;obtain ⟨⟨t2,t3,t4,t5,t6⟩,A5,H⟩:=o1_ H;have H':=A0_ H;clear H;go_enter Tryz.func7,Tryz.ntmps7
 go_wp2_with (first|((with_reducible refine gd_ (N:=2) rfl ?_);refine bx_ 2 #[.int .i64 a0_0,.bool a0_1,.slice A0_2 l0_2.length c0_2,.slice A0_3 l0_3.length c0_3,.int .i64 a0_4] 32 ?_;intro gb1 hg w1 BK1 hb;have GW1:=ge_ hg ai;have GE1:=GW1;replace HB:=hb_ hb ai;clear hb hg)|((with_reducible refine gd_ (N:=4) rfl ?_);refine bx_ 4 #[.int .i64 0,.bool false,.slice none 0 0,.slice none 0 0,.int .i64 0] 32 ?_;intro gb2 hg w2 BK2 hb;have GW2:=ge_ hg aj;have GE2:=GW2;replace HB:=hb_ hb aj;obtain ⟨NB1_2,NB2_1⟩:=nn_ hg BK1;replace BK1:=k1_ BK1 hb;clear hb hg;obtain ⟨hnb1,hnc1⟩:=n2_ NB1_2;have hcz1:=z5_ BK1)|((with_reducible refine gc_ (f:=32) rfl ?_);refine gl_ 12 Tryz.func32 #[.agg #[.int .i64 a0_0,.bool a0_1,.slice A0_2 l0_2.length c0_2,.slice A0_3 l0_3.length c0_3,.int .i64 a0_4]] ?_;(with_reducible refine (ao.calls k a0_0 a0_1 _ _ l0_2 _ _ l0_3 a0_4 true _ ?_ ?_ ?_ ?_ A3.out).mono ?_);exact bz;exact HC0_2.out;exact b6;exact HC0_3.out;rintro e w3 ⟨rfl,hb⟩;refine ⟨_,rfl,?_⟩;replace BK1:=k1_ BK1 hb;replace BK2:=k1_ BK2 hb;replace HB:=hb_ hb au;(try clear hb);have hcz2:=z5_ BK1)|((with_reducible refine gc_ (f:=33) rfl ?_);refine gl_ 16 Tryz.func33 #[.agg #[.int .i64 a0_0,.bool a0_1,.slice A0_2 l0_2.length c0_2,.slice A0_3 l0_3.length c0_3,.int .i64 a0_4]] ?_;(with_reducible refine (bh.calls a0_0 a0_1 _ _ l0_2 _ _ l0_3 a0_4 t2 t3 t4 t5 t6 _ ?_ ?_ ?_ ?_ A5.out).mono ?_);exact bz;exact HC0_2.out;exact b6;exact HC0_3.out;rintro e w4 ⟨v1,v4,rfl,ho0,ho1,hb⟩;refine ⟨_,rfl,?_⟩;have HO1:=A0_ (Kd.R_lower ho0 (bz_ au));have HO2:=A0_ (Kd.R_lower ho1 (bz_ au));replace BK1:=k1_ BK1 hb;replace BK2:=k1_ BK2 hb;replace HB:=hb_ hb au;(try clear hb ho0 ho1))|((with_reducible refine gd_ (N:=7) rfl ?_);refine bx_ 7 #[.int .i64 0,.bool false,.slice none 0 0,.slice none 0 0,.int .i64 0] 32 ?_;intro gb3 hg w5 BK3 hb;replace HO1:=q1_ HO1 hb;replace HO2:=q1_ HO2 hb;have GW3:=ge_ hg au;have GE3:=GW3;replace HB:=hb_ hb au;obtain ⟨NB1_3,NB3_1⟩:=nn_ hg BK1;replace BK1:=k1_ BK1 hb;obtain ⟨NB2_3,NB3_2⟩:=nn_ hg BK2;replace BK2:=k1_ BK2 hb;clear hb hg;obtain ⟨hnb2,hnc2⟩:=n2_ NB3_1;obtain ⟨hnb3,hnc3⟩:=n2_ NB3_2;have hcz3:=z5_ BK3;obtain ⟨Ao1,co1,eo1⟩:=Kd.R_slice HO1.out;subst eo1;obtain ⟨Ao2,co2,eo2⟩:=Kd.R_slice HO2.out;subst eo2))
 go_loopg [8] k (fun kq v5 w'=>∃ (x8_1:Int) (xf:Int) (xg:Bool) (xh:Int) (xc:Int) (xd:Bool) (xa:List Int) (xb:List Int) (xe:Int) (ui:Value) (uj:Value),v5=.int .i64 x8_1∧Aside0 (aH.l0 kq l1 x8_1 xc xd xa xb xe=some (r1,r2,r3,r4,r5,r6,r7))∧Aside0 (kq≤k)∧Aside0 (Kd.R (Kd.int .i64) 3 w' w.heap.size (fun k_=>no_ uj k_) ui xa)∧Aside0 (Kd.R (Kd.int .i64) 3 w' w.heap.size (fun k_=>no_ ui k_) uj xb)∧Aside0 (w'.heap[gb1]?=some (.cells #[.int .i64 a0_0,.bool a0_1,(.slice A0_2 l0_2.length c0_2),(.slice A0_3 l0_3.length c0_3),.int .i64 a0_4] 32 (0,0)))∧Aside0 (w'.heap[gb2]?=some (.cells #[.int .i64 xf,.bool xg,(.slice none 0 0),(.slice none 0 0),.int .i64 xh] 32 (0,0)))∧Aside0 (w'.heap[gb3]?=some (.cells #[.int .i64 xc,.bool xd,ui,uj,.int .i64 xe] 32 (0,0)))∧Aside0 (Below w.heap.size w w'))
 case atStart=>exact ⟨(0),(0),(false),(0),(t2),(t3),(t4),(t5),(t6),(.slice Ao1 t4.length co1),(.slice Ao2 t5.length co2),aX,H',⟨Nat.le_refl _⟩,⟨lT⟩,⟨lY⟩,⟨u1_ BK1⟩,⟨u1_ BK2⟩,⟨u1_ BK3⟩,⟨aD⟩⟩
 clear H'
 try clear c1
 try clear c2
 (try clear hcz2);(try clear hcz3);(try clear hcz1);(try clear hfz2);(try clear hfz3);(try clear hfz1)
 obtain ⟨x8_1,xf,xg,xh,xc,xd,xa,xb,xe,ui,uj,rfl,HA,HK1,HO_1,HO_2,BK1,BK2,BK3,HB⟩:=hrel
 cases gk with|zero=>exact absurd HA.out (by simp [aH.l0])|succ k1=>?_
 have H:=HA.out;clear HA;simp only [aH.l0] at H
 by_cases c3:x8_1<(l1.length:Int)
 case neg =>
  rw [if_neg c3] at H;have c3b0:decide (x8_1<(l1.length:Int))=false:=decide_eq_false c3;clear c3;simp only [sj_,pj_] at H;obtain ⟨rfl,rfl,rfl,rfl,rfl,rfl,rfl⟩:=H;obtain ⟨hnb4,hnc4⟩:=n2_ NB3_1;obtain ⟨hnb5,hnc5⟩:=n2_ NB3_2;have hcz4:=z5_ BK3;obtain ⟨hnb6,hnc6⟩:=n2_ NB2_1;have hcz5:=z5_ BK2;obtain ⟨Ao3,co3,eo3⟩:=Kd.R_slice HO_1.out;subst eo3;obtain ⟨Ao4,co4,eo4⟩:=Kd.R_slice HO_2.out;subst eo4
  go_wp2
  refine bodyPost_ret (dX rfl _ _ gb2 32 #[.int .i64 xc,.bool xd,.slice Ao3 xa.length co3,.slice Ao4 xb.length co4,.int .i64 xe] (0,0) _ rfl (u1_ BK2) Tryz.underlying32 rfl aY) rfl ?_
  exact ⟨_,_,aE,oa,nr,aD⟩
 rw [if_pos c3] at H;have c3b0:decide (x8_1<(l1.length:Int))=true:=dt_ c3;clear c3;obtain ⟨c4b0,H⟩:=i1_ H;obtain ⟨⟨t7,t8,t9,t10,t11,t12⟩,A7,H⟩:=o1_ H
 by_cases c5:t12=true
 ·subst c5
  rw [if_pos rfl] at H;have H':=A0_ H;clear H;obtain ⟨Ao3,co3,eo3⟩:=Kd.R_slice HO_1.out;subst eo3;obtain ⟨Ao4,co4,eo4⟩:=Kd.R_slice HO_2.out;subst eo4
  try go_wp2
  replace HO_1:=A0_ (rd_ HO_1.out);replace HO_2:=A0_ (rd_ HO_2.out);replace BK1:=A0_ (kd_ BK1.out);replace BK2:=A0_ (kd_ BK2.out);replace BK3:=A0_ (kd_ BK3.out);replace HB:=A0_ (bd_ HB.out);have p1:0≤(x8_1:Int):=od_ ay;have q1:x8_1<(l1.length:Int):=od_ ay;obtain ⟨ad1,e1,hx1_0,hx1_1,hx1_2⟩:=jD HR1.out x8_1 p1 q1;have hw330_2:=hx1_2;have hw330_1:=hx1_1;have hw330_0:=hx1_0;cases e1;replace hx1_0:=(HB.out.cell (World.block_lt_of_cell? w _ hx1_0)).trans hx1_0;replace hx1_1:=(HB.out.cell (World.block_lt_of_cell? w _ hx1_1)).trans hx1_1;replace hx1_2:=(HB.out.cell (World.block_lt_of_cell? w _ hx1_2)).trans hx1_2;replace p1:=eq_true p1;replace q1:=eq_true q1
  refine dd (n:=12) (S:=fun w'=>w'.cell? ⟨gb3,0,none⟩=some (.int .i64 xc)∧w'.cell? ⟨gb3,1,none⟩=some (.bool xd)∧w'.cell? ⟨gb3,2,none⟩=some (.slice Ao3 xa.length co3)∧w'.cell? ⟨gb3,3,none⟩=some (.slice Ao4 xb.length co4)∧w'.cell? ⟨gb3,4,none⟩=some (.int .i64 xe)∧w'.cell? (ad1.add ((x8_1).toNat * 3))=some (.int .i64 ((bf l1 x8_1).f0))∧w'.cell? ⟨(ad1.add ((x8_1).toNat * 3)).block,(ad1.add ((x8_1).toNat * 3)).off+1,none⟩=some (.int .i64 ((bf l1 x8_1).f1))∧w'.cell? ⟨(ad1.add ((x8_1).toNat * 3)).block,(ad1.add ((x8_1).toNat * 3)).off+2,none⟩=some (.int .i64 ((bf l1 x8_1).f2))) (ds:=[]) #[false,false,false,false,false,false,false,false,false,false,false,false] aY rfl rfl (a5_ BK3 ⟨((HB.out.cell (World.block_lt_of_cell? w _ hw330_0)).trans hw330_0),((HB.out.cell (World.block_lt_of_cell? w _ hw330_1)).trans hw330_1),((HB.out.cell (World.block_lt_of_cell? w _ hw330_2)).trans hw330_2)⟩) (fun hHeld=>?_);refine cu aH.tab7 aH.bits7 (fun HT_ HW_=>?_)
  generalize wr.drew=w6 at HO_1 HO_2 BK1 BK2 BK3 HB hx1_0 hx1_1 hx1_2 hHeld ⊢
  refine pu_ 1 25 ?_
  refine pu_ 2 26 ?_
  refine pu_ 3 27 ?_
  refine tk_ 0 24 hHeld ?_
  refine tk_ 4 28 hHeld ?_
  refine iF (σ:=Value × Value × Nat) 2 #[true,true,true,true,true,true,true,true,true,true,false,false] (fun s_=>[(29,.tuple #[.agg #[.int .i64 t7,.bool t8,s_.1,s_.2.1,.int .i64 t11],.bool true]),(9,.pointer (some ⟨s_.2.2,0,none⟩)),(23,.tuple #[.agg #[.int .i64 t7,.bool t8,s_.1,s_.2.1,.int .i64 t11],.bool true]),(30,.agg #[.int .i64 t7,.bool t8,s_.1,s_.2.1,.int .i64 t11]),(31,.bool true)]) (fun s_ w'=>(w'.cell? ⟨gb3,0,none⟩=some (.int .i64 xc)∧w'.cell? ⟨gb3,1,none⟩=some (.bool xd)∧w'.cell? ⟨gb3,2,none⟩=some (.slice Ao3 xa.length co3)∧w'.cell? ⟨gb3,3,none⟩=some (.slice Ao4 xb.length co4)∧w'.cell? ⟨gb3,4,none⟩=some (.int .i64 xe)∧w'.cell? (ad1.add ((x8_1).toNat * 3))=some (.int .i64 ((bf l1 x8_1).f0))∧w'.cell? ⟨(ad1.add ((x8_1).toNat * 3)).block,(ad1.add ((x8_1).toNat * 3)).off+1,none⟩=some (.int .i64 ((bf l1 x8_1).f1))∧w'.cell? ⟨(ad1.add ((x8_1).toNat * 3)).block,(ad1.add ((x8_1).toNat * 3)).off+2,none⟩=some (.int .i64 ((bf l1 x8_1).f2)))∧(Kd.R (Kd.int .i64) 3 w' w.heap.size (fun k_=>some k_≠(s_.2.1:Value).ownBlock∧no_ (.slice Ao3 xa.length co3) k_∧no_ (.slice Ao4 xb.length co4) k_) s_.1 t9)∧(Kd.R (Kd.int .i64) 3 w' w.heap.size (fun k_=>some k_≠(s_.1:Value).ownBlock∧no_ (.slice Ao3 xa.length co3) k_∧no_ (.slice Ao4 xb.length co4) k_) s_.2.1 t10)∧(Kd.R (Kd.int .i64) 3 w' w.heap.size (fun k_=>some k_≠(s_.1:Value).ownBlock∧some k_≠(s_.2.1:Value).ownBlock∧no_ (.slice Ao4 xb.length co4) k_) (.slice Ao3 xa.length co3) xa)∧(Kd.R (Kd.int .i64) 3 w' w.heap.size (fun k_=>some k_≠(s_.1:Value).ownBlock∧some k_≠(s_.2.1:Value).ownBlock∧no_ (.slice Ao3 xa.length co3) k_) (.slice Ao4 xb.length co4) xb)∧(w'.heap[gb1]?=some (.cells #[.int .i64 a0_0,.bool a0_1,.slice A0_2 l0_2.length c0_2,.slice A0_3 l0_3.length c0_3,.int .i64 a0_4] 32 (0,0)))∧(w'.heap[gb2]?=some (.cells #[.int .i64 xf,.bool xg,.slice none 0 0,.slice none 0 0,.int .i64 xh] 32 (0,0)))∧(w'.heap[gb3]?=some (.cells #[.int .i64 xc,.bool xd,.slice Ao3 xa.length co3,.slice Ao4 xb.length co4,.int .i64 xe] 32 (0,0)))∧(w'.heap[s_.2.2]?=some (.cells #[.int .i64 0,.bool false,.slice none 0 0,.slice none 0 0,.int .i64 0] 32 (0,0)))∧(w.heap.size≤s_.2.2)∧(w.heap.size≤s_.2.2)∧(gb1≠s_.2.2)∧(s_.2.2≠gb1)∧(gb2≠s_.2.2)∧(s_.2.2≠gb2)∧(gb3≠s_.2.2)∧(s_.2.2≠gb3)∧(Below w.heap.size w w')) ?_ ?_
  rotate_left
  ·intro hCont
   refine ig (i:=5) (j:=9) (Ni:=some 29) (Nj:=some 9) #[true,true,true,true,true,true,false,false,false,false,false,false] #[true,true,true,true,true,false,false,false,false,true,false,false] rfl rfl rfl rfl (ew HT_.out aY) ag ag (fun K hK=>?_) (fun K hK=>?_)
   ·refine gs_ Tryz.func34 #[.agg #[.int .i64 xc,.bool xd,.slice Ao3 xa.length co3,.slice Ao4 xb.length co4,.int .i64 xe],.agg #[.int .i64 ((bf l1 x8_1).f0),.int .i64 ((bf l1 x8_1).f1),.int .i64 ((bf l1 x8_1).f2)]] ?_
    with_reducible refine (aK.calls k1 xc xd _ _ xa _ _ xb xe ((bf l1 x8_1).f0) ((bf l1 x8_1).f1) ((bf l1 x8_1).f2) t7 t8 t9 t10 t11 true _ ?_ ?_ ?_ ?_ A7.out).mono ?_
    exact eE
    exact (rr_ HO_1.out).2.1
    exact eD
    exact (rr_ HO_2.out).2.1
    rintro e w7 ⟨v6,v7,rfl,ho0,ho1,hb⟩
    refine ⟨_,rfl,?_⟩
    have HO3:=A0_ (Kd.R_lower (Kd.R_new' (Kd.R_new' ho0 (Kd.R_lt br)) (Kd.R_lt bG)) (bz_ aD));have HO4:=A0_ (Kd.R_lower (Kd.R_new' (Kd.R_new' ho1 (Kd.R_lt br)) (Kd.R_lt bG)) (bz_ aD));replace HO_1:=A0_ (Kd.R_mono (Kd.R_told (Kd.R_told (Kd.R_old br hb) (Kd.R_base ho0)) (Kd.R_base ho1)) (fun _ h_=>h_.1));replace HO_2:=A0_ (Kd.R_mono (Kd.R_told (Kd.R_told (Kd.R_old bG hb) (Kd.R_base ho0)) (Kd.R_base ho1)) (fun _ h_=>h_.1));replace BK1:=k1_ BK1 hb;replace BK2:=k1_ BK2 hb;replace BK3:=k1_ BK3 hb;replace HB:=hb_ hb aD
    (try clear hb ho0 ho1)
    refine hK.out _ _ (a5_ BK3 ⟨((HB.out.cell (World.block_lt_of_cell? w _ hw330_0)).trans hw330_0),((HB.out.cell (World.block_lt_of_cell? w _ hw330_1)).trans hw330_1),((HB.out.cell (World.block_lt_of_cell? w _ hw330_2)).trans hw330_2)⟩) (fun hHeld=>?_)
    clear hK K
    refine nm_ 29 ?_
    refine pu_ 6 23 ?_
    refine pu_ 7 30 ?_
    refine pu_ 8 31 ?_
    refine on_ 9 (some 9) (fun K hK=>?_)
    refine bp_ 9 #[.int .i64 0,.bool false,.slice none 0 0,.slice none 0 0,.int .i64 0] 32 ?_
    intro gb4 hg w8 hbox hb;replace HO_1:=q1_ HO_1 hb;replace HO_2:=q1_ HO_2 hb;replace HO3:=q1_ HO3 hb;replace HO4:=q1_ HO4 hb;have BK4:=A0_ (hbox);have GW4:=ge_ hg aD;have GE4:=ge_ hg aD;replace HB:=hb_ hb aD;obtain ⟨NB1_4,NB4_1⟩:=nn_ hg BK1;replace BK1:=k1_ BK1 hb;obtain ⟨NB2_4,NB4_2⟩:=nn_ hg BK2;replace BK2:=k1_ BK2 hb;obtain ⟨NB3_4,NB4_3⟩:=nn_ hg BK3;replace BK3:=k1_ BK3 hb;clear hb hbox hg
    refine hK.out _ _ (a5_ BK3 ⟨((HB.out.cell (World.block_lt_of_cell? w _ hw330_0)).trans hw330_0),((HB.out.cell (World.block_lt_of_cell? w _ hw330_1)).trans hw330_1),((HB.out.cell (World.block_lt_of_cell? w _ hw330_2)).trans hw330_2)⟩) (fun hHeld=>?_)
    clear hK K
    refine nm_ 9 ?_
    exact dN dZ (hCont (v6,v7,gb4) _ ⟨hHeld,kP,gg,gh,f9,(u1_ BK1),(u1_ BK2),(u1_ BK3),(u1_ BK4),GW4.out,GE4.out,NB1_4.out,NB4_1.out,NB2_4.out,NB4_2.out,NB3_4.out,NB4_3.out,ca⟩)
   refine bp_ 9 #[.int .i64 0,.bool false,.slice none 0 0,.slice none 0 0,.int .i64 0] 32 ?_
   intro gb4 hg w7 hbox hb;replace HO_1:=q1_ HO_1 hb;replace HO_2:=q1_ HO_2 hb;have BK4:=A0_ (hbox);have GW4:=ge_ hg aD;have GE4:=ge_ hg aD;replace HB:=hb_ hb aD;obtain ⟨NB1_4,NB4_1⟩:=nn_ hg BK1;replace BK1:=k1_ BK1 hb;obtain ⟨NB2_4,NB4_2⟩:=nn_ hg BK2;replace BK2:=k1_ BK2 hb;obtain ⟨NB3_4,NB4_3⟩:=nn_ hg BK3;replace BK3:=k1_ BK3 hb;clear hb hbox hg
   refine hK.out _ _ (a5_ BK3 ⟨((HB.out.cell (World.block_lt_of_cell? w _ hw330_0)).trans hw330_0),((HB.out.cell (World.block_lt_of_cell? w _ hw330_1)).trans hw330_1),((HB.out.cell (World.block_lt_of_cell? w _ hw330_2)).trans hw330_2)⟩) (fun hHeld=>?_)
   clear hK K
   refine nm_ 9 ?_
   refine on_ 5 (some 29) (fun K hK=>?_)
   refine gs_ Tryz.func34 #[.agg #[.int .i64 xc,.bool xd,.slice Ao3 xa.length co3,.slice Ao4 xb.length co4,.int .i64 xe],.agg #[.int .i64 ((bf l1 x8_1).f0),.int .i64 ((bf l1 x8_1).f1),.int .i64 ((bf l1 x8_1).f2)]] ?_
   with_reducible refine (aK.calls k1 xc xd _ _ xa _ _ xb xe ((bf l1 x8_1).f0) ((bf l1 x8_1).f1) ((bf l1 x8_1).f2) t7 t8 t9 t10 t11 true _ ?_ ?_ ?_ ?_ A7.out).mono ?_
   exact eE
   exact (rr_ HO_1.out).2.1
   exact eD
   exact (rr_ HO_2.out).2.1
   rintro e w8 ⟨v6,v7,rfl,ho0,ho1,hb⟩
   refine ⟨_,rfl,?_⟩
   have HO3:=A0_ (Kd.R_lower (Kd.R_new' (Kd.R_new' ho0 (Kd.R_lt br)) (Kd.R_lt bG)) (bz_ ca));have HO4:=A0_ (Kd.R_lower (Kd.R_new' (Kd.R_new' ho1 (Kd.R_lt br)) (Kd.R_lt bG)) (bz_ ca));replace HO_1:=A0_ (Kd.R_mono (Kd.R_told (Kd.R_told (Kd.R_old br hb) (Kd.R_base ho0)) (Kd.R_base ho1)) (fun _ h_=>h_.1));replace HO_2:=A0_ (Kd.R_mono (Kd.R_told (Kd.R_told (Kd.R_old bG hb) (Kd.R_base ho0)) (Kd.R_base ho1)) (fun _ h_=>h_.1));replace BK1:=k1_ BK1 hb;replace BK2:=k1_ BK2 hb;replace BK3:=k1_ BK3 hb;replace BK4:=k1_ BK4 hb;replace HB:=hb_ hb ca
   (try clear hb ho0 ho1)
   refine hK.out _ _ (a5_ BK3 ⟨((HB.out.cell (World.block_lt_of_cell? w _ hw330_0)).trans hw330_0),((HB.out.cell (World.block_lt_of_cell? w _ hw330_1)).trans hw330_1),((HB.out.cell (World.block_lt_of_cell? w _ hw330_2)).trans hw330_2)⟩) (fun hHeld=>?_)
   clear hK K
   refine nm_ 29 ?_
   refine pu_ 6 23 ?_
   refine pu_ 7 30 ?_
   refine pu_ 8 31 ?_
   exact dN dZ (hCont (v6,v7,gb4) _ ⟨hHeld,kP,gg,gh,f9,(u1_ BK1),(u1_ BK2),(u1_ BK3),(u1_ BK4),GW4.out,GE4.out,NB1_4.out,NB4_1.out,NB2_4.out,NB4_2.out,NB3_4.out,NB4_3.out,ca⟩)
  rintro ⟨v6,v7,gb4⟩ w7 ⟨hS_,h0_,h1_,h2_,h3_,h4_,h5_,h6_,h7_,h8_,h9_,h10_,h11_,h12_,h13_,h14_,h15_,h16_⟩
  try dsimp only at h0_ h1_ h2_ h3_ h4_ h5_ h6_ h7_ h8_ h9_ h10_ h11_ h12_ h13_ h14_ h15_ h16_
  have HO3:=A0_ h0_;have HO4:=A0_ h1_;replace HO_1:=A0_ h2_;replace HO_2:=A0_ h3_;replace BK1:=A0_ h4_;replace BK2:=A0_ h5_;replace BK3:=A0_ h6_;have BK4:=A0_ h7_;have GW4:=A0_ h8_;have GE4:=A0_ h9_;have NB1_4:=A0_ h10_;have NB4_1:=A0_ h11_;have NB2_4:=A0_ h12_;have NB4_2:=A0_ h13_;have NB3_4:=A0_ h14_;have NB4_3:=A0_ h15_;replace HB:=A0_ h16_;clear h0_ h1_ h2_ h3_ h4_ h5_ h6_ h7_ h8_ h9_ h10_ h11_ h12_ h13_ h14_ h15_ h16_;have hHeld:w7.cell? ⟨gb3,0,none⟩=some (.int .i64 xc)∧w7.cell? ⟨gb3,1,none⟩=some (.bool xd)∧w7.cell? ⟨gb3,2,none⟩=some (.slice Ao3 xa.length co3)∧w7.cell? ⟨gb3,3,none⟩=some (.slice Ao4 xb.length co4)∧w7.cell? ⟨gb3,4,none⟩=some (.int .i64 xe)∧w7.cell? (ad1.add ((x8_1).toNat * 3))=some (.int .i64 ((bf l1 x8_1).f0))∧w7.cell? ⟨(ad1.add ((x8_1).toNat * 3)).block,(ad1.add ((x8_1).toNat * 3)).off+1,none⟩=some (.int .i64 ((bf l1 x8_1).f1))∧w7.cell? ⟨(ad1.add ((x8_1).toNat * 3)).block,(ad1.add ((x8_1).toNat * 3)).off+2,none⟩=some (.int .i64 ((bf l1 x8_1).f2)):=hS_;obtain ⟨Ao5,co5,eo5⟩:=Kd.R_slice HO3.out
  (first|subst eo5|(injection eo5 with f1_ f2_ f3_;have f4_:=f1_.symm;have f5_:=f3_.symm;clear f1_ f2_ f3_;subst f4_;subst f5_))
  obtain ⟨Ao6,co6,eo6⟩:=Kd.R_slice HO4.out
  (first|subst eo6|(injection eo6 with f1_ f2_ f3_;have f4_:=f1_.symm;have f5_:=f3_.symm;clear f1_ f2_ f3_;subst f4_;subst f5_))
  refine nq_ ?_
  refine on_ 10 none (fun K hK=>?_)
  have hs29:=y_ BK4 0;have hfs29:=kf_ BK4.out 0;have hns1_0:=NB1_4.out;have hns1_1:=NB2_4.out;have hns1_2:=NB3_4.out;have hms1_0:=NB4_1.out;have hms1_1:=NB4_2.out;have hms1_2:=NB4_3.out;have hs30:=y_ BK4 1;have hfs30:=kf_ BK4.out 1;have hns2_0:=NB1_4.out;have hns2_1:=NB2_4.out;have hns2_2:=NB3_4.out;have hms2_0:=NB4_1.out;have hms2_1:=NB4_2.out;have hms2_2:=NB4_3.out;have hs32:=y_ BK4 2;have hfs32:=kf_ BK4.out 2;have hns3_0:=NB1_4.out;have hns3_1:=NB2_4.out;have hns3_2:=NB3_4.out;have hms3_0:=NB4_1.out;have hms3_1:=NB4_2.out;have hms3_2:=NB4_3.out;have hs34:=y_ BK4 3;have hfs34:=kf_ BK4.out 3;have hns4_0:=NB1_4.out;have hns4_1:=NB2_4.out;have hns4_2:=NB3_4.out;have hms4_0:=NB4_1.out;have hms4_1:=NB4_2.out;have hms4_2:=NB4_3.out;have hs35:=y_ BK4 4;have hfs35:=kf_ BK4.out 4;have hns5_0:=NB1_4.out;have hns5_1:=NB2_4.out;have hns5_2:=NB3_4.out;have hms5_0:=NB4_1.out;have hms5_1:=NB4_2.out;have hms5_2:=NB4_3.out
  refine ea (w1:=?_) (by rfl) rfl ?_ ?_
  rotate_left
  ·go_simp
   rfl
  refine hK.out _ _ ⟨((ae (p:=⟨gb4,_,none⟩) NB3_4.out _).trans (((ae (p:=⟨gb4,_,none⟩) NB3_4.out _).trans (((ae (p:=⟨gb4,_,none⟩) NB3_4.out _).trans (((ae (p:=⟨gb4,_,none⟩) NB3_4.out _).trans (((ae (p:=⟨gb4,_,none⟩) NB3_4.out _).trans (hHeld.1)))))))))),((ae (p:=⟨gb4,_,none⟩) NB3_4.out _).trans (((ae (p:=⟨gb4,_,none⟩) NB3_4.out _).trans (((ae (p:=⟨gb4,_,none⟩) NB3_4.out _).trans (((ae (p:=⟨gb4,_,none⟩) NB3_4.out _).trans (((ae (p:=⟨gb4,_,none⟩) NB3_4.out _).trans (hHeld.2.1)))))))))),((ae (p:=⟨gb4,_,none⟩) NB3_4.out _).trans (((ae (p:=⟨gb4,_,none⟩) NB3_4.out _).trans (((ae (p:=⟨gb4,_,none⟩) NB3_4.out _).trans (((ae (p:=⟨gb4,_,none⟩) NB3_4.out _).trans (((ae (p:=⟨gb4,_,none⟩) NB3_4.out _).trans (hHeld.2.2.1)))))))))),((ae (p:=⟨gb4,_,none⟩) NB3_4.out _).trans (((ae (p:=⟨gb4,_,none⟩) NB3_4.out _).trans (((ae (p:=⟨gb4,_,none⟩) NB3_4.out _).trans (((ae (p:=⟨gb4,_,none⟩) NB3_4.out _).trans (((ae (p:=⟨gb4,_,none⟩) NB3_4.out _).trans (hHeld.2.2.2.1)))))))))),((ae (p:=⟨gb4,_,none⟩) NB3_4.out _).trans (((ae (p:=⟨gb4,_,none⟩) NB3_4.out _).trans (((ae (p:=⟨gb4,_,none⟩) NB3_4.out _).trans (((ae (p:=⟨gb4,_,none⟩) NB3_4.out _).trans (((ae (p:=⟨gb4,_,none⟩) NB3_4.out _).trans (hHeld.2.2.2.2.1)))))))))),((ae (p:=⟨gb4,_,none⟩) gi _).trans (((ae (p:=⟨gb4,_,none⟩) gi _).trans (((ae (p:=⟨gb4,_,none⟩) gi _).trans (((ae (p:=⟨gb4,_,none⟩) gi _).trans (((ae (p:=⟨gb4,_,none⟩) gi _).trans (hHeld.2.2.2.2.2.1)))))))))),((ae (p:=⟨gb4,_,none⟩) f8 _).trans (((ae (p:=⟨gb4,_,none⟩) f8 _).trans (((ae (p:=⟨gb4,_,none⟩) f8 _).trans (((ae (p:=⟨gb4,_,none⟩) f8 _).trans (((ae (p:=⟨gb4,_,none⟩) f8 _).trans (hHeld.2.2.2.2.2.2.1)))))))))),((ae (p:=⟨gb4,_,none⟩) ga _).trans (((ae (p:=⟨gb4,_,none⟩) ga _).trans (((ae (p:=⟨gb4,_,none⟩) ga _).trans (((ae (p:=⟨gb4,_,none⟩) ga _).trans (((ae (p:=⟨gb4,_,none⟩) ga _).trans (hHeld.2.2.2.2.2.2.2))))))))))⟩ (fun hHeld=>?_)
  clear hK K
  refine pu_ 11 10 ?_
  refine dn_ ?_
  obtain ⟨hnb4,hnc4⟩:=n2_ NB4_1;obtain ⟨hnb5,hnc5⟩:=n2_ NB4_2;obtain ⟨hnb6,hnc6⟩:=n2_ NB4_3;have hcz4:=z5_ BK4;obtain ⟨hnb7,hnc7⟩:=n2_ NB3_1;obtain ⟨hnb8,hnc8⟩:=n2_ NB3_2;have hcz5:=z5_ BK3
  try go_wp2
  go_roundg k1
  case measure=>have:=HK1.out;omega
  exact ⟨(wrap64 (x8_1+1)),(xf),(xg),(xh),(t7),(t8),(t9),(t10),(t11),(.slice Ao5 t9.length co5),(.slice Ao6 t10.length co6),aX,H',⟨dj⟩,⟨by (with_reducible repeat (first|apply ra_|apply rn_|apply rd_));exact Kd.R_mono (bw (rf_ (rf_ (rf_ (rf_ (rf_ (Kd.R_types (Kd.R_types HO3.out BK4.out ag) BK3.out ag) (fun _ hk=>hk.1.2) (.int .i64 t7)) (fun _ hk=>hk.1.2) (.bool t8)) (fun _ hk=>hk.1.2) (.slice Ao5 t9.length co5)) (fun _ hk=>hk.1.2) (.slice Ao6 t10.length co6)) (fun _ hk=>hk.1.2) (.int .i64 t11))) (fun _ hk=>hk.1.1.1)⟩,⟨by (with_reducible repeat (first|apply ra_|apply rn_|apply rd_));exact Kd.R_mono (bw (rf_ (rf_ (rf_ (rf_ (rf_ (Kd.R_types (Kd.R_types HO4.out BK4.out ag) BK3.out ag) (fun _ hk=>hk.1.2) (.int .i64 t7)) (fun _ hk=>hk.1.2) (.bool t8)) (fun _ hk=>hk.1.2) (.slice Ao5 t9.length co5)) (fun _ hk=>hk.1.2) (.slice Ao6 t10.length co6)) (fun _ hk=>hk.1.2) (.int .i64 t11))) (fun _ hk=>hk.1.1.1)⟩,⟨u1_ BK1⟩,⟨u1_ BK2⟩,⟨u1_ BK3⟩,⟨ca⟩⟩
 obtain rfl:=bf_.mpr c5;rw [if_neg ft_] at H;simp only [sj_,pj_] at H;obtain ⟨rfl,rfl,rfl,rfl,rfl,rfl,rfl⟩:=H;obtain ⟨Ao3,co3,eo3⟩:=Kd.R_slice HO_1.out;subst eo3;obtain ⟨Ao4,co4,eo4⟩:=Kd.R_slice HO_2.out;subst eo4
 try go_wp2
 replace HO_1:=A0_ (rd_ HO_1.out);replace HO_2:=A0_ (rd_ HO_2.out);replace BK1:=A0_ (kd_ BK1.out);replace BK2:=A0_ (kd_ BK2.out);replace BK3:=A0_ (kd_ BK3.out);replace HB:=A0_ (bd_ HB.out);have p1:0≤(x8_1:Int):=od_ ay;have q1:x8_1<(l1.length:Int):=od_ ay;obtain ⟨ad1,e1,hx1_0,hx1_1,hx1_2⟩:=jD HR1.out x8_1 p1 q1;have hw330_2:=hx1_2;have hw330_1:=hx1_1;have hw330_0:=hx1_0;cases e1;replace hx1_0:=(HB.out.cell (World.block_lt_of_cell? w _ hx1_0)).trans hx1_0;replace hx1_1:=(HB.out.cell (World.block_lt_of_cell? w _ hx1_1)).trans hx1_1;replace hx1_2:=(HB.out.cell (World.block_lt_of_cell? w _ hx1_2)).trans hx1_2;replace p1:=eq_true p1;replace q1:=eq_true q1
 refine dd (n:=12) (S:=fun w'=>w'.cell? ⟨gb3,0,none⟩=some (.int .i64 xc)∧w'.cell? ⟨gb3,1,none⟩=some (.bool xd)∧w'.cell? ⟨gb3,2,none⟩=some (.slice Ao3 xa.length co3)∧w'.cell? ⟨gb3,3,none⟩=some (.slice Ao4 xb.length co4)∧w'.cell? ⟨gb3,4,none⟩=some (.int .i64 xe)∧w'.cell? (ad1.add ((x8_1).toNat * 3))=some (.int .i64 ((bf l1 x8_1).f0))∧w'.cell? ⟨(ad1.add ((x8_1).toNat * 3)).block,(ad1.add ((x8_1).toNat * 3)).off+1,none⟩=some (.int .i64 ((bf l1 x8_1).f1))∧w'.cell? ⟨(ad1.add ((x8_1).toNat * 3)).block,(ad1.add ((x8_1).toNat * 3)).off+2,none⟩=some (.int .i64 ((bf l1 x8_1).f2))) (ds:=[]) #[false,false,false,false,false,false,false,false,false,false,false,false] aY rfl rfl (a5_ BK3 ⟨((HB.out.cell (World.block_lt_of_cell? w _ hw330_0)).trans hw330_0),((HB.out.cell (World.block_lt_of_cell? w _ hw330_1)).trans hw330_1),((HB.out.cell (World.block_lt_of_cell? w _ hw330_2)).trans hw330_2)⟩) (fun hHeld=>?_);refine cu aH.tab7 aH.bits7 (fun HT_ HW_=>?_)
 generalize wr.drew=w6 at HO_1 HO_2 BK1 BK2 BK3 HB hx1_0 hx1_1 hx1_2 hHeld ⊢
 refine pu_ 1 25 ?_
 refine pu_ 2 26 ?_
 refine pu_ 3 27 ?_
 refine tk_ 0 24 hHeld ?_
 refine tk_ 4 28 hHeld ?_
 refine iF (σ:=Value × Value × Nat) 2 #[true,true,true,true,true,true,true,true,true,true,false,false] (fun s_=>[(29,.tuple #[.agg #[.int .i64 t7,.bool t8,s_.1,s_.2.1,.int .i64 t11],.bool false]),(9,.pointer (some ⟨s_.2.2,0,none⟩)),(23,.tuple #[.agg #[.int .i64 t7,.bool t8,s_.1,s_.2.1,.int .i64 t11],.bool false]),(30,.agg #[.int .i64 t7,.bool t8,s_.1,s_.2.1,.int .i64 t11]),(31,.bool false)]) (fun s_ w'=>(w'.cell? ⟨gb3,0,none⟩=some (.int .i64 xc)∧w'.cell? ⟨gb3,1,none⟩=some (.bool xd)∧w'.cell? ⟨gb3,2,none⟩=some (.slice Ao3 xa.length co3)∧w'.cell? ⟨gb3,3,none⟩=some (.slice Ao4 xb.length co4)∧w'.cell? ⟨gb3,4,none⟩=some (.int .i64 xe)∧w'.cell? (ad1.add ((x8_1).toNat * 3))=some (.int .i64 ((bf l1 x8_1).f0))∧w'.cell? ⟨(ad1.add ((x8_1).toNat * 3)).block,(ad1.add ((x8_1).toNat * 3)).off+1,none⟩=some (.int .i64 ((bf l1 x8_1).f1))∧w'.cell? ⟨(ad1.add ((x8_1).toNat * 3)).block,(ad1.add ((x8_1).toNat * 3)).off+2,none⟩=some (.int .i64 ((bf l1 x8_1).f2)))∧(Kd.R (Kd.int .i64) 3 w' w.heap.size (fun k_=>some k_≠(s_.2.1:Value).ownBlock∧no_ (.slice Ao3 xa.length co3) k_∧no_ (.slice Ao4 xb.length co4) k_) s_.1 t9)∧(Kd.R (Kd.int .i64) 3 w' w.heap.size (fun k_=>some k_≠(s_.1:Value).ownBlock∧no_ (.slice Ao3 xa.length co3) k_∧no_ (.slice Ao4 xb.length co4) k_) s_.2.1 t10)∧(Kd.R (Kd.int .i64) 3 w' w.heap.size (fun k_=>some k_≠(s_.1:Value).ownBlock∧some k_≠(s_.2.1:Value).ownBlock∧no_ (.slice Ao4 xb.length co4) k_) (.slice Ao3 xa.length co3) xa)∧(Kd.R (Kd.int .i64) 3 w' w.heap.size (fun k_=>some k_≠(s_.1:Value).ownBlock∧some k_≠(s_.2.1:Value).ownBlock∧no_ (.slice Ao3 xa.length co3) k_) (.slice Ao4 xb.length co4) xb)∧(w'.heap[gb1]?=some (.cells #[.int .i64 a0_0,.bool a0_1,.slice A0_2 l0_2.length c0_2,.slice A0_3 l0_3.length c0_3,.int .i64 a0_4] 32 (0,0)))∧(w'.heap[gb2]?=some (.cells #[.int .i64 xf,.bool xg,.slice none 0 0,.slice none 0 0,.int .i64 xh] 32 (0,0)))∧(w'.heap[gb3]?=some (.cells #[.int .i64 xc,.bool xd,.slice Ao3 xa.length co3,.slice Ao4 xb.length co4,.int .i64 xe] 32 (0,0)))∧(w'.heap[s_.2.2]?=some (.cells #[.int .i64 0,.bool false,.slice none 0 0,.slice none 0 0,.int .i64 0] 32 (0,0)))∧(w.heap.size≤s_.2.2)∧(w.heap.size≤s_.2.2)∧(gb1≠s_.2.2)∧(s_.2.2≠gb1)∧(gb2≠s_.2.2)∧(s_.2.2≠gb2)∧(gb3≠s_.2.2)∧(s_.2.2≠gb3)∧(Below w.heap.size w w')) ?_ ?_
 rotate_left
 ·intro hCont
  refine ig (i:=5) (j:=9) (Ni:=some 29) (Nj:=some 9) #[true,true,true,true,true,true,false,false,false,false,false,false] #[true,true,true,true,true,false,false,false,false,true,false,false] rfl rfl rfl rfl (ew HT_.out aY) ag ag (fun K hK=>?_) (fun K hK=>?_)
  ·refine gs_ Tryz.func34 #[.agg #[.int .i64 xc,.bool xd,.slice Ao3 xa.length co3,.slice Ao4 xb.length co4,.int .i64 xe],.agg #[.int .i64 ((bf l1 x8_1).f0),.int .i64 ((bf l1 x8_1).f1),.int .i64 ((bf l1 x8_1).f2)]] ?_
   with_reducible refine (aK.calls k1 xc xd _ _ xa _ _ xb xe ((bf l1 x8_1).f0) ((bf l1 x8_1).f1) ((bf l1 x8_1).f2) t7 t8 t9 t10 t11 false _ ?_ ?_ ?_ ?_ A7.out).mono ?_
   exact eE
   exact (rr_ HO_1.out).2.1
   exact eD
   exact (rr_ HO_2.out).2.1
   rintro e w7 ⟨v6,v7,rfl,ho0,ho1,hb⟩
   refine ⟨_,rfl,?_⟩
   have HO3:=A0_ (Kd.R_lower (Kd.R_new' (Kd.R_new' ho0 (Kd.R_lt br)) (Kd.R_lt bG)) (bz_ aD));have HO4:=A0_ (Kd.R_lower (Kd.R_new' (Kd.R_new' ho1 (Kd.R_lt br)) (Kd.R_lt bG)) (bz_ aD));replace HO_1:=A0_ (Kd.R_mono (Kd.R_told (Kd.R_told (Kd.R_old br hb) (Kd.R_base ho0)) (Kd.R_base ho1)) (fun _ h_=>h_.1));replace HO_2:=A0_ (Kd.R_mono (Kd.R_told (Kd.R_told (Kd.R_old bG hb) (Kd.R_base ho0)) (Kd.R_base ho1)) (fun _ h_=>h_.1));replace BK1:=k1_ BK1 hb;replace BK2:=k1_ BK2 hb;replace BK3:=k1_ BK3 hb;replace HB:=hb_ hb aD
   (try clear hb ho0 ho1)
   refine hK.out _ _ (a5_ BK3 ⟨((HB.out.cell (World.block_lt_of_cell? w _ hw330_0)).trans hw330_0),((HB.out.cell (World.block_lt_of_cell? w _ hw330_1)).trans hw330_1),((HB.out.cell (World.block_lt_of_cell? w _ hw330_2)).trans hw330_2)⟩) (fun hHeld=>?_)
   clear hK K
   refine nm_ 29 ?_
   refine pu_ 6 23 ?_
   refine pu_ 7 30 ?_
   refine pu_ 8 31 ?_
   refine on_ 9 (some 9) (fun K hK=>?_)
   refine bp_ 9 #[.int .i64 0,.bool false,.slice none 0 0,.slice none 0 0,.int .i64 0] 32 ?_
   intro gb4 hg w8 hbox hb;replace HO_1:=q1_ HO_1 hb;replace HO_2:=q1_ HO_2 hb;replace HO3:=q1_ HO3 hb;replace HO4:=q1_ HO4 hb;have BK4:=A0_ (hbox);have GW4:=ge_ hg aD;have GE4:=ge_ hg aD;replace HB:=hb_ hb aD;obtain ⟨NB1_4,NB4_1⟩:=nn_ hg BK1;replace BK1:=k1_ BK1 hb;obtain ⟨NB2_4,NB4_2⟩:=nn_ hg BK2;replace BK2:=k1_ BK2 hb;obtain ⟨NB3_4,NB4_3⟩:=nn_ hg BK3;replace BK3:=k1_ BK3 hb;clear hb hbox hg
   refine hK.out _ _ (a5_ BK3 ⟨((HB.out.cell (World.block_lt_of_cell? w _ hw330_0)).trans hw330_0),((HB.out.cell (World.block_lt_of_cell? w _ hw330_1)).trans hw330_1),((HB.out.cell (World.block_lt_of_cell? w _ hw330_2)).trans hw330_2)⟩) (fun hHeld=>?_)
   clear hK K
   refine nm_ 9 ?_
   exact dN dZ (hCont (v6,v7,gb4) _ ⟨hHeld,kP,gg,gh,f9,(u1_ BK1),(u1_ BK2),(u1_ BK3),(u1_ BK4),GW4.out,GE4.out,NB1_4.out,NB4_1.out,NB2_4.out,NB4_2.out,NB3_4.out,NB4_3.out,ca⟩)
  refine bp_ 9 #[.int .i64 0,.bool false,.slice none 0 0,.slice none 0 0,.int .i64 0] 32 ?_
  intro gb4 hg w7 hbox hb;replace HO_1:=q1_ HO_1 hb;replace HO_2:=q1_ HO_2 hb;have BK4:=A0_ (hbox);have GW4:=ge_ hg aD;have GE4:=ge_ hg aD;replace HB:=hb_ hb aD;obtain ⟨NB1_4,NB4_1⟩:=nn_ hg BK1;replace BK1:=k1_ BK1 hb;obtain ⟨NB2_4,NB4_2⟩:=nn_ hg BK2;replace BK2:=k1_ BK2 hb;obtain ⟨NB3_4,NB4_3⟩:=nn_ hg BK3;replace BK3:=k1_ BK3 hb;clear hb hbox hg
  refine hK.out _ _ (a5_ BK3 ⟨((HB.out.cell (World.block_lt_of_cell? w _ hw330_0)).trans hw330_0),((HB.out.cell (World.block_lt_of_cell? w _ hw330_1)).trans hw330_1),((HB.out.cell (World.block_lt_of_cell? w _ hw330_2)).trans hw330_2)⟩) (fun hHeld=>?_)
  clear hK K
  refine nm_ 9 ?_
  refine on_ 5 (some 29) (fun K hK=>?_)
  refine gs_ Tryz.func34 #[.agg #[.int .i64 xc,.bool xd,.slice Ao3 xa.length co3,.slice Ao4 xb.length co4,.int .i64 xe],.agg #[.int .i64 ((bf l1 x8_1).f0),.int .i64 ((bf l1 x8_1).f1),.int .i64 ((bf l1 x8_1).f2)]] ?_
  with_reducible refine (aK.calls k1 xc xd _ _ xa _ _ xb xe ((bf l1 x8_1).f0) ((bf l1 x8_1).f1) ((bf l1 x8_1).f2) t7 t8 t9 t10 t11 false _ ?_ ?_ ?_ ?_ A7.out).mono ?_
  exact eE
  exact (rr_ HO_1.out).2.1
  exact eD
  exact (rr_ HO_2.out).2.1
  rintro e w8 ⟨v6,v7,rfl,ho0,ho1,hb⟩
  refine ⟨_,rfl,?_⟩
  have HO3:=A0_ (Kd.R_lower (Kd.R_new' (Kd.R_new' ho0 (Kd.R_lt br)) (Kd.R_lt bG)) (bz_ ca));have HO4:=A0_ (Kd.R_lower (Kd.R_new' (Kd.R_new' ho1 (Kd.R_lt br)) (Kd.R_lt bG)) (bz_ ca));replace HO_1:=A0_ (Kd.R_mono (Kd.R_told (Kd.R_told (Kd.R_old br hb) (Kd.R_base ho0)) (Kd.R_base ho1)) (fun _ h_=>h_.1));replace HO_2:=A0_ (Kd.R_mono (Kd.R_told (Kd.R_told (Kd.R_old bG hb) (Kd.R_base ho0)) (Kd.R_base ho1)) (fun _ h_=>h_.1));replace BK1:=k1_ BK1 hb;replace BK2:=k1_ BK2 hb;replace BK3:=k1_ BK3 hb;replace BK4:=k1_ BK4 hb;replace HB:=hb_ hb ca
  (try clear hb ho0 ho1)
  refine hK.out _ _ (a5_ BK3 ⟨((HB.out.cell (World.block_lt_of_cell? w _ hw330_0)).trans hw330_0),((HB.out.cell (World.block_lt_of_cell? w _ hw330_1)).trans hw330_1),((HB.out.cell (World.block_lt_of_cell? w _ hw330_2)).trans hw330_2)⟩) (fun hHeld=>?_)
  clear hK K
  refine nm_ 29 ?_
  refine pu_ 6 23 ?_
  refine pu_ 7 30 ?_
  refine pu_ 8 31 ?_
  exact dN dZ (hCont (v6,v7,gb4) _ ⟨hHeld,kP,gg,gh,f9,(u1_ BK1),(u1_ BK2),(u1_ BK3),(u1_ BK4),GW4.out,GE4.out,NB1_4.out,NB4_1.out,NB2_4.out,NB4_2.out,NB3_4.out,NB4_3.out,ca⟩)
 rintro ⟨v6,v7,gb4⟩ w7 ⟨hS_,h0_,h1_,h2_,h3_,h4_,h5_,h6_,h7_,h8_,h9_,h10_,h11_,h12_,h13_,h14_,h15_,h16_⟩
 try dsimp only at h0_ h1_ h2_ h3_ h4_ h5_ h6_ h7_ h8_ h9_ h10_ h11_ h12_ h13_ h14_ h15_ h16_
 have HO3:=A0_ h0_;have HO4:=A0_ h1_;replace HO_1:=A0_ h2_;replace HO_2:=A0_ h3_;replace BK1:=A0_ h4_;replace BK2:=A0_ h5_;replace BK3:=A0_ h6_;have BK4:=A0_ h7_;have GW4:=A0_ h8_;have GE4:=A0_ h9_;have NB1_4:=A0_ h10_;have NB4_1:=A0_ h11_;have NB2_4:=A0_ h12_;have NB4_2:=A0_ h13_;have NB3_4:=A0_ h14_;have NB4_3:=A0_ h15_;replace HB:=A0_ h16_;clear h0_ h1_ h2_ h3_ h4_ h5_ h6_ h7_ h8_ h9_ h10_ h11_ h12_ h13_ h14_ h15_ h16_;have hHeld:w7.cell? ⟨gb3,0,none⟩=some (.int .i64 xc)∧w7.cell? ⟨gb3,1,none⟩=some (.bool xd)∧w7.cell? ⟨gb3,2,none⟩=some (.slice Ao3 xa.length co3)∧w7.cell? ⟨gb3,3,none⟩=some (.slice Ao4 xb.length co4)∧w7.cell? ⟨gb3,4,none⟩=some (.int .i64 xe)∧w7.cell? (ad1.add ((x8_1).toNat * 3))=some (.int .i64 ((bf l1 x8_1).f0))∧w7.cell? ⟨(ad1.add ((x8_1).toNat * 3)).block,(ad1.add ((x8_1).toNat * 3)).off+1,none⟩=some (.int .i64 ((bf l1 x8_1).f1))∧w7.cell? ⟨(ad1.add ((x8_1).toNat * 3)).block,(ad1.add ((x8_1).toNat * 3)).off+2,none⟩=some (.int .i64 ((bf l1 x8_1).f2)):=hS_;obtain ⟨Ao5,co5,eo5⟩:=Kd.R_slice HO3.out
 (first|subst eo5|(injection eo5 with f1_ f2_ f3_;have f4_:=f1_.symm;have f5_:=f3_.symm;clear f1_ f2_ f3_;subst f4_;subst f5_))
 obtain ⟨Ao6,co6,eo6⟩:=Kd.R_slice HO4.out
 (first|subst eo6|(injection eo6 with f1_ f2_ f3_;have f4_:=f1_.symm;have f5_:=f3_.symm;clear f1_ f2_ f3_;subst f4_;subst f5_))
 refine nq_ ?_
 refine on_ 10 none (fun K hK=>?_)
 have hs49:=y_ BK4 0;have hfs49:=kf_ BK4.out 0;have hns1_0:=NB1_4.out;have hns1_1:=NB2_4.out;have hns1_2:=NB3_4.out;have hms1_0:=NB4_1.out;have hms1_1:=NB4_2.out;have hms1_2:=NB4_3.out;have hs50:=y_ BK4 1;have hfs50:=kf_ BK4.out 1;have hns2_0:=NB1_4.out;have hns2_1:=NB2_4.out;have hns2_2:=NB3_4.out;have hms2_0:=NB4_1.out;have hms2_1:=NB4_2.out;have hms2_2:=NB4_3.out;have hs52:=y_ BK4 2;have hfs52:=kf_ BK4.out 2;have hns3_0:=NB1_4.out;have hns3_1:=NB2_4.out;have hns3_2:=NB3_4.out;have hms3_0:=NB4_1.out;have hms3_1:=NB4_2.out;have hms3_2:=NB4_3.out;have hs54:=y_ BK4 3;have hfs54:=kf_ BK4.out 3;have hns4_0:=NB1_4.out;have hns4_1:=NB2_4.out;have hns4_2:=NB3_4.out;have hms4_0:=NB4_1.out;have hms4_1:=NB4_2.out;have hms4_2:=NB4_3.out;have hs55:=y_ BK4 4;have hfs55:=kf_ BK4.out 4;have hns5_0:=NB1_4.out;have hns5_1:=NB2_4.out;have hns5_2:=NB3_4.out;have hms5_0:=NB4_1.out;have hms5_1:=NB4_2.out;have hms5_2:=NB4_3.out
 refine ea (w1:=?_) (by rfl) rfl ?_ ?_
 rotate_left
 ·go_simp
  rfl
 refine hK.out _ _ ⟨((ae (p:=⟨gb4,_,none⟩) NB3_4.out _).trans (((ae (p:=⟨gb4,_,none⟩) NB3_4.out _).trans (((ae (p:=⟨gb4,_,none⟩) NB3_4.out _).trans (((ae (p:=⟨gb4,_,none⟩) NB3_4.out _).trans (((ae (p:=⟨gb4,_,none⟩) NB3_4.out _).trans (hHeld.1)))))))))),((ae (p:=⟨gb4,_,none⟩) NB3_4.out _).trans (((ae (p:=⟨gb4,_,none⟩) NB3_4.out _).trans (((ae (p:=⟨gb4,_,none⟩) NB3_4.out _).trans (((ae (p:=⟨gb4,_,none⟩) NB3_4.out _).trans (((ae (p:=⟨gb4,_,none⟩) NB3_4.out _).trans (hHeld.2.1)))))))))),((ae (p:=⟨gb4,_,none⟩) NB3_4.out _).trans (((ae (p:=⟨gb4,_,none⟩) NB3_4.out _).trans (((ae (p:=⟨gb4,_,none⟩) NB3_4.out _).trans (((ae (p:=⟨gb4,_,none⟩) NB3_4.out _).trans (((ae (p:=⟨gb4,_,none⟩) NB3_4.out _).trans (hHeld.2.2.1)))))))))),((ae (p:=⟨gb4,_,none⟩) NB3_4.out _).trans (((ae (p:=⟨gb4,_,none⟩) NB3_4.out _).trans (((ae (p:=⟨gb4,_,none⟩) NB3_4.out _).trans (((ae (p:=⟨gb4,_,none⟩) NB3_4.out _).trans (((ae (p:=⟨gb4,_,none⟩) NB3_4.out _).trans (hHeld.2.2.2.1)))))))))),((ae (p:=⟨gb4,_,none⟩) NB3_4.out _).trans (((ae (p:=⟨gb4,_,none⟩) NB3_4.out _).trans (((ae (p:=⟨gb4,_,none⟩) NB3_4.out _).trans (((ae (p:=⟨gb4,_,none⟩) NB3_4.out _).trans (((ae (p:=⟨gb4,_,none⟩) NB3_4.out _).trans (hHeld.2.2.2.2.1)))))))))),((ae (p:=⟨gb4,_,none⟩) gi _).trans (((ae (p:=⟨gb4,_,none⟩) gi _).trans (((ae (p:=⟨gb4,_,none⟩) gi _).trans (((ae (p:=⟨gb4,_,none⟩) gi _).trans (((ae (p:=⟨gb4,_,none⟩) gi _).trans (hHeld.2.2.2.2.2.1)))))))))),((ae (p:=⟨gb4,_,none⟩) f8 _).trans (((ae (p:=⟨gb4,_,none⟩) f8 _).trans (((ae (p:=⟨gb4,_,none⟩) f8 _).trans (((ae (p:=⟨gb4,_,none⟩) f8 _).trans (((ae (p:=⟨gb4,_,none⟩) f8 _).trans (hHeld.2.2.2.2.2.2.1)))))))))),((ae (p:=⟨gb4,_,none⟩) ga _).trans (((ae (p:=⟨gb4,_,none⟩) ga _).trans (((ae (p:=⟨gb4,_,none⟩) ga _).trans (((ae (p:=⟨gb4,_,none⟩) ga _).trans (((ae (p:=⟨gb4,_,none⟩) ga _).trans (hHeld.2.2.2.2.2.2.2))))))))))⟩ (fun hHeld=>?_)
 clear hK K
 refine pu_ 11 10 ?_
 refine dn_ ?_
 obtain ⟨hnb4,hnc4⟩:=n2_ NB3_1;obtain ⟨hnb5,hnc5⟩:=n2_ NB3_2;obtain ⟨hnb6,hnc6⟩:=n2_ NB3_4;have hcz4:=z5_ BK3;obtain ⟨hnb7,hnc7⟩:=n2_ NB2_1;obtain ⟨hnb8,hnc8⟩:=n2_ NB2_4;have hcz5:=z5_ BK2
 try go_wp2
 refine bodyPost_ret (dX rfl _ _ gb2 32 #[.int .i64 xc,.bool xd,.slice Ao3 xa.length co3,.slice Ao4 xb.length co4,.int .i64 xe] (0,0) _ rfl (u1_ BK2) Tryz.underlying32 rfl aY) rfl ?_
 exact ⟨_,_,aE,by (with_reducible repeat (first|apply ra_|apply rn_|apply rd_));exact Kd.R_mono (bw (rf_ (rf_ (rf_ (rf_ (rf_ (Kd.R_types (Kd.R_types HO_1.out BK4.out ag) BK2.out ag) (fun _ hk=>hk.1.2) (.int .i64 t7)) (fun _ hk=>hk.1.2) (.bool t8)) (fun _ hk=>hk.1.2) (.slice Ao5 t9.length co5)) (fun _ hk=>hk.1.2) (.slice Ao6 t10.length co6)) (fun _ hk=>hk.1.2) (.int .i64 t11))) (fun _ hk=>hk.1.1.2.2),by (with_reducible repeat (first|apply ra_|apply rn_|apply rd_));exact Kd.R_mono (bw (rf_ (rf_ (rf_ (rf_ (rf_ (Kd.R_types (Kd.R_types HO_2.out BK4.out ag) BK2.out ag) (fun _ hk=>hk.1.2) (.int .i64 t7)) (fun _ hk=>hk.1.2) (.bool t8)) (fun _ hk=>hk.1.2) (.slice Ao5 t9.length co5)) (fun _ hk=>hk.1.2) (.slice Ao6 t10.length co6)) (fun _ hk=>hk.1.2) (.int .i64 t11))) (fun _ hk=>hk.1.1.2.2),ca⟩

def cm.f (a0:Int) (a1:Int) (a2:Int):Option (Bool):=if a0 ≥ a1 then (some (decide (a0≤a2))) else (some false)
theorem cm.calls (a0:Int) (a1:Int) (a2:Int) (r:Bool) (w:World) (H:cm.f a0 a1 a2=some r) :
  Calls Tryz.prog 62 #[.int .i64 a0,.int .i64 a1,.int .i64 a2] w fun e w'=>e=.returned (.bool r)∧Drawn0 w w':=by
 unfold cm.f at H
 by_cases c1:a0 ≥ a1
 ·rw [if_pos c1] at H
  have c1b0:decide (a1≤a0)=true:=dt_ c1;clear c1;obtain rfl:=si_ H;go_enter Tryz.func62,Tryz.ntmps62
  go_wp2
  go_ret
  exact ⟨dv,ck⟩
 rw [if_neg c1] at H;have c1b0:decide (a1≤a0)=false:=decide_eq_false c1;clear c1;obtain rfl:=si_ H;go_enter Tryz.func62,Tryz.ntmps62
 go_wp2
 go_ret
 exact ⟨dv,ck⟩

def b9.f (a0_0:Int) (a0_1:Bool):Option (Bool):=(cm.f a0_0 2 24).bind fun t343=>(if t343=true then (if a0_1=true then (some (decide (a0_0 ≥ 3))) else (some true)) else (some false))
theorem b9.calls (a0_0:Int) (a0_1:Bool) (r:Bool) (w:World) (H:b9.f a0_0 a0_1=some r) :
  Calls Tryz.prog 48 #[.agg #[.int .i64 a0_0,.bool a0_1]] w fun e w'=>e=.returned (.bool r)∧Below w.heap.size w w':=by
 have hu79:=Tryz.underlying79;have HB:=A0_ (Below.refl w.heap.size w);unfold b9.f at H;obtain ⟨t1,A2,H⟩:=o1_ H
 by_cases c1:t1=true
 case neg =>
  obtain rfl:=bf_.mpr c1;rw [if_neg ft_] at H;obtain rfl:=si_ H;go_enter Tryz.func48,Tryz.ntmps48
  go_wp2_with (first|((with_reducible refine gd_ (N:=1) rfl ?_);refine bx_ 1 #[.int .i64 a0_0,.bool a0_1] 79 ?_;intro gb1 hg w1 BK1 hb;have GW1:=ge_ hg ai;have GE1:=GW1;replace HB:=hb_ hb ai;clear hb hg;have hcz1:=c2_ BK1)|((with_reducible refine gc_ (f:=62) rfl ?_);refine gl_ 5 Tryz.func62 #[.int .i64 a0_0,.int .i64 2,.int .i64 24] ?_;(with_reducible refine (cm.calls a0_0 2 24 false _ A2.out).mono ?_);rintro e w' ⟨rfl,⟨nd,rfl⟩⟩;refine ⟨_,rfl,?_⟩))
  go_ret
  exact ⟨aE,aj⟩
 subst c1;rw [if_pos rfl] at H
 by_cases c2:a0_1=true
 ·subst c2
  rw [if_pos rfl] at H;obtain rfl:=si_ H;go_enter Tryz.func48,Tryz.ntmps48
  go_wp2_with (first|((with_reducible refine gd_ (N:=1) rfl ?_);refine bx_ 1 #[.int .i64 a0_0,.bool true] 79 ?_;intro gb1 hg w1 BK1 hb;have GW1:=ge_ hg ai;have GE1:=GW1;replace HB:=hb_ hb ai;clear hb hg;have hcz1:=c2_ BK1)|((with_reducible refine gc_ (f:=62) rfl ?_);refine gl_ 5 Tryz.func62 #[.int .i64 a0_0,.int .i64 2,.int .i64 24] ?_;(with_reducible refine (cm.calls a0_0 2 24 true _ A2.out).mono ?_);rintro e w' ⟨rfl,⟨nd,rfl⟩⟩;refine ⟨_,rfl,?_⟩))
  go_ret
  exact ⟨aE,aj⟩
 obtain rfl:=bf_.mpr c2;rw [if_neg ft_] at H;obtain rfl:=si_ H;go_enter Tryz.func48,Tryz.ntmps48
 go_wp2_with (first|((with_reducible refine gd_ (N:=1) rfl ?_);refine bx_ 1 #[.int .i64 a0_0,.bool false] 79 ?_;intro gb1 hg w1 BK1 hb;have GW1:=ge_ hg ai;have GE1:=GW1;replace HB:=hb_ hb ai;clear hb hg;have hcz1:=c2_ BK1)|((with_reducible refine gc_ (f:=62) rfl ?_);refine gl_ 5 Tryz.func62 #[.int .i64 a0_0,.int .i64 2,.int .i64 24] ?_;(with_reducible refine (cm.calls a0_0 2 24 true _ A2.out).mono ?_);rintro e w' ⟨rfl,⟨nd,rfl⟩⟩;refine ⟨_,rfl,?_⟩))
 go_ret
 exact ⟨aE,aj⟩

def bD.f (a0_0:Int) (a0_1:Bool) (l0_2:List Int):Option (Int × Bool):=some (a0_0,a0_1)
theorem bD.calls (a0_0:Int) (a0_1:Bool) (A0_2:Option Addr) (c0_2:Nat) (l0_2:List Int) (r1:Int) (r2:Bool) (w:World) (hr0_2:Kd.C (Kd.int .i64) w A0_2 l0_2.length l0_2) (hc0_2:l0_2.length≤c0_2) (H:bD.f a0_0 a0_1 l0_2=some (r1,r2)) :
  Calls Tryz.prog 53 #[.agg #[.int .i64 a0_0,.bool a0_1,.slice A0_2 l0_2.length c0_2]] w fun e w'=>e=.returned (.agg #[.int .i64 r1,.bool r2])∧Below w.heap.size w w':=by
 have hu30:=Tryz.underlying30;have hu79:=Tryz.underlying79;have HR0_2:=A0_ hr0_2;have HC0_2:=A0_ hc0_2;clear hr0_2 hc0_2;have HB:=A0_ (Below.refl w.heap.size w);unfold bD.f at H;simp only [sj_,pj_] at H;obtain ⟨rfl,rfl⟩:=H;go_enter Tryz.func53,Tryz.ntmps53
 go_wp2_with (first|((with_reducible refine gd_ (N:=1) rfl ?_);refine bx_ 1 #[.int .i64 a0_0,.bool a0_1,.slice A0_2 l0_2.length c0_2] 30 ?_;intro gb1 hg w1 BK1 hb;have GW1:=ge_ hg ai;have GE1:=GW1;replace HB:=hb_ hb ai;clear hb hg)|((with_reducible refine gd_ (N:=2) rfl ?_);refine bx_ 2 #[.int .i64 0,.bool false] 79 ?_;intro gb2 hg w2 BK2 hb;have GW2:=ge_ hg aj;have GE2:=GW2;replace HB:=hb_ hb aj;obtain ⟨NB1_2,NB2_1⟩:=nn_ hg BK1;replace BK1:=k1_ BK1 hb;clear hb hg;obtain ⟨hnb1,hnc1⟩:=n2_ NB1_2;have hcz1:=z3_ BK1;have hcz2:=z2_ BK2))
 refine bodyPost_ret (results_cell_row rfl _ _ gb2 79 #[.int .i64 a0_0,.bool a0_1] (0,0) _ rfl (u1_ BK2) Tryz.underlying79 rfl aY) rfl ?_
 exact ⟨aE,au⟩

def bd.l0:Nat→Int→Int→List Int→Int→Int→Option (Bool)
 | 0,_,_,_,_,_=>none
 | k+1,x1,x2,x9,x10,x11=>if x11<x10 then (if 0≤x11 then (if x11<(x9.length:Int) then ((cm.f (rd x9 x11) x1 x2).bind fun t347=>(if t347=true then (bd.l0 k x1 x2 x9 x10 (wrap64 (x11+1))) else (some false))) else (none)) else (none)) else (some true)
def bd.f (k:Nat) (l0:List Int) (a1:Int) (a2:Int):Option (Bool):=bd.l0 k a1 a2 l0 (l0.length:Int) 0
theorem bd.mono_l:∀ k,(∀ y0 y1 y2 y3 y4,LeO (bd.l0 k y0 y1 y2 y3 y4) (bd.l0 (k+1) y0 y1 y2 y3 y4))
 | 0=>fun _ _ _ _ _ r h=>by simp [bd.l0] at h
 | k+1=>by
  have ih0:=bd.mono_l k
  ·intro y0 y1 y2 y3 y4
   unfold bd.l0
   repeat' with_reducible first|exact ih0 ..|exact LeO.refl ..|exact LeO.none ..|refine LeO.ite ?_ ?_|refine LeO.bind ?_ (fun _=>?_)
theorem bd.mono:∀ a0 a1 a2 k,LeO (bd.f k a0 a1 a2) (bd.f (k+1) a0 a1 a2):=by
 intro a0 a1 a2 k;have ih0:=bd.mono_l k;unfold bd.f
 repeat' with_reducible first|exact ih0 ..|exact LeO.refl ..|exact LeO.none ..|refine LeO.ite ?_ ?_|refine LeO.bind ?_ (fun _=>?_)
theorem bd.calls (k:Nat) (A0:Option Addr) (c0:Nat) (l0:List Int) (a1:Int) (a2:Int) (r:Bool) (w:World) (hr0:Kd.C (Kd.int .i64) w A0 l0.length l0) (hc0:l0.length≤c0) (H:bd.f k l0 a1 a2=some r) :
  Calls Tryz.prog 98 #[.slice A0 l0.length c0,.int .i64 a1,.int .i64 a2] w fun e w'=>e=.returned (.bool r)∧Drawn0 w w':=by
 have HR0:=A0_ hr0;have HC0:=A0_ hc0;clear hr0 hc0;unfold bd.f at H;have H':=A0_ H;clear H;go_enter Tryz.func98,Tryz.ntmps98
 go_wp2
 go_loopg [11] k (fun kq v1 w'=>∃ (x11_1:Int),v1=.int .i64 x11_1∧Aside0 (bd.l0 kq a1 a2 l0 (l0.length:Int) x11_1=some r)∧Aside0 (kq≤k)∧Drawn0 w w')
 case atStart=>exact ⟨(0),aX,H',⟨Nat.le_refl _⟩,ck⟩
 clear H';obtain ⟨x11_1,rfl,HA,HK1,⟨m1,rfl⟩⟩:=hrel
 cases gk with|zero=>exact absurd HA.out (by simp [bd.l0])|succ k1=>?_
 have H:=HA.out;clear HA;simp only [bd.l0] at H
 by_cases c1:x11_1<(l0.length:Int)
 case neg =>
  rw [if_neg c1] at H;have c1b0:decide (x11_1<(l0.length:Int))=false:=decide_eq_false c1;clear c1;obtain rfl:=si_ H
  go_wp2
  go_ret
  exact ⟨dv,ck⟩
 rw [if_pos c1] at H;have c1b0:decide (x11_1<(l0.length:Int))=true:=dt_ c1;clear c1;obtain ⟨c2b0,H⟩:=i1_ H;obtain ⟨c3b0,H⟩:=i1_ H;obtain ⟨t1,A2,H⟩:=o1_ H
 by_cases c4:t1=true
 case neg =>
  obtain rfl:=bf_.mpr c4;rw [if_neg ft_] at H;obtain rfl:=si_ H;have p1:0≤(x11_1:Int):=od_ ay;have q1:x11_1<(l0.length:Int):=od_ ay;obtain ⟨ad1,e1,hx1_0⟩:=Kd.at_int HR0.out x11_1 p1 q1;cases e1;replace p1:=eq_true p1;replace q1:=eq_true q1
  go_wp2_with (first|((with_reducible refine gc_ (f:=62) rfl ?_);refine gl_ 18 Tryz.func62 #[.int .i64 (rd l0 x11_1),.int .i64 a1,.int .i64 a2] ?_;(with_reducible refine (cm.calls (rd l0 x11_1) a1 a2 false _ A2.out).mono ?_);rintro e w' ⟨rfl,⟨nd,rfl⟩⟩;refine ⟨_,rfl,?_⟩))
  go_ret
  exact ⟨dv,ck⟩
 subst c4;rw [if_pos rfl] at H;have H':=A0_ H;clear H;have p1:0≤(x11_1:Int):=od_ ay;have q1:x11_1<(l0.length:Int):=od_ ay;obtain ⟨ad1,e1,hx1_0⟩:=Kd.at_int HR0.out x11_1 p1 q1;cases e1;replace p1:=eq_true p1;replace q1:=eq_true q1
 go_wp2_with (first|((with_reducible refine gc_ (f:=62) rfl ?_);refine gl_ 18 Tryz.func62 #[.int .i64 (rd l0 x11_1),.int .i64 a1,.int .i64 a2] ?_;(with_reducible refine (cm.calls (rd l0 x11_1) a1 a2 true _ A2.out).mono ?_);rintro e w' ⟨rfl,⟨nd,rfl⟩⟩;refine ⟨_,rfl,?_⟩))
 go_roundg k1
 case measure=>have:=HK1.out;omega
 exact ⟨(wrap64 (x11_1+1)),aX,H',⟨dj⟩,ck⟩

def bo.f (k:Nat) (a0_0:Int) (a0_1:Bool) (l1:List Int):Option (Bool):=(bd.f k l1 0 (wrap64 (a0_0 - 1))).bind fun t349=>(some t349)
theorem bo.mono:∀ a0 a1 a2 k,LeO (bo.f k a0 a1 a2) (bo.f (k+1) a0 a1 a2):=by
 intro a0 a1 a2 k;unfold bo.f
 repeat' with_reducible first|exact bd.mono ..|exact LeO.refl ..|exact LeO.none ..|refine LeO.ite ?_ ?_|refine LeO.bind ?_ (fun _=>?_)
theorem bo.calls (k:Nat) (a0_0:Int) (a0_1:Bool) (A1:Option Addr) (c1:Nat) (l1:List Int) (r:Bool) (w:World) (hr1:Kd.C (Kd.int .i64) w A1 l1.length l1) (hc1:l1.length≤c1) (H:bo.f k a0_0 a0_1 l1=some r) :
  Calls Tryz.prog 76 #[.agg #[.int .i64 a0_0,.bool a0_1],.slice A1 l1.length c1] w fun e w'=>e=.returned (.bool r)∧Below w.heap.size w w':=by
 have hu79:=Tryz.underlying79;have HR1:=A0_ hr1;have HC1:=A0_ hc1;clear hr1 hc1;have HB:=A0_ (Below.refl w.heap.size w);unfold bo.f at H;obtain ⟨t1,A3,H⟩:=o1_ H;replace H:(some t1)=some r:=H;obtain rfl:=si_ H;go_enter Tryz.func76,Tryz.ntmps76
 go_wp2_with (first|((with_reducible refine gd_ (N:=2) rfl ?_);refine bx_ 2 #[.int .i64 a0_0,.bool a0_1] 79 ?_;intro gb1 hg w1 BK1 hb;have GW1:=ge_ hg ai;have GE1:=GW1;replace HB:=hb_ hb ai;clear hb hg;have hcz1:=c2_ BK1)|((with_reducible refine gc_ (f:=98) rfl ?_);refine gl_ 9 Tryz.func98 #[.slice A1 l1.length c1,.int .i64 0,.int .i64 (wrap64 (a0_0 - 1))] ?_;(with_reducible refine (bd.calls k _ _ l1 0 (wrap64 (a0_0 - 1)) t1 _ ?_ ?_ A3.out).mono ?_);exact (by repeat (first|exact (cb_ HR1.out HB.out)|(with_reducible refine ca_ ?_ _)|(with_reducible refine cn_ ?_ _)|(with_reducible refine cd_ ?_)));exact HC1.out;rintro e w' ⟨rfl,⟨nd,rfl⟩⟩;refine ⟨_,rfl,?_⟩))
 go_ret
 exact ⟨aE,aj⟩

def be.l0:Nat→List Int→Int→Int→Int→Bool→List Int→Option (Bool)
 | 0,_,_,_,_,_,_=>none
 | k+1,x6,x7,x8,xb,xc,xa=>if x8<x7 then (if 0≤x8 then (if x8<(x6.length:Int) then ((bD.f xb xc xa).bind fun bt355=>((bo.f k bt355.1 bt355.2 (([rd x6 x8]:List Int))).bind fun t360=>(if t360=true then (if x8 > 0 then (if 0≤(wrap64 (x8 - 1)) then (if (wrap64 (x8 - 1))<(xa.length:Int) then (if (rd xa (wrap64 (x8 - 1))) ≥ (rd x6 x8) then (some false) else (be.l0 k x6 x7 (wrap64 (x8+1)) xb xc xa)) else (none)) else (none)) else (be.l0 k x6 x7 (wrap64 (x8+1)) xb xc xa)) else (some false)))) else (none)) else (none)) else ((bD.f xb xc xa).bind fun bt351=>((b9.f bt351.1 bt351.2).bind fun t353=>(some t353)))
def be.f (k:Nat) (a0_0:Int) (a0_1:Bool) (l0_2:List Int):Option (Bool):=be.l0 k l0_2 (l0_2.length:Int) 0 a0_0 a0_1 l0_2
theorem be.mono_l:∀ k,(∀ y0 y1 y2 y3 y4 y5,LeO (be.l0 k y0 y1 y2 y3 y4 y5) (be.l0 (k+1) y0 y1 y2 y3 y4 y5))
 | 0=>fun _ _ _ _ _ _ r h=>by simp [be.l0] at h
 | k+1=>by
  have ih0:=be.mono_l k
  ·intro y0 y1 y2 y3 y4 y5
   unfold be.l0
   repeat' with_reducible first|exact ih0 ..|exact bo.mono ..|exact LeO.refl ..|exact LeO.none ..|refine LeO.ite ?_ ?_|refine LeO.bind ?_ (fun _=>?_)
theorem be.mono:∀ a0 a1 a2 k,LeO (be.f k a0 a1 a2) (be.f (k+1) a0 a1 a2):=by
 intro a0 a1 a2 k;have ih0:=be.mono_l k;unfold be.f
 repeat' with_reducible first|exact ih0 ..|exact bo.mono ..|exact LeO.refl ..|exact LeO.none ..|refine LeO.ite ?_ ?_|refine LeO.bind ?_ (fun _=>?_)
theorem be.calls (k:Nat) (a0_0:Int) (a0_1:Bool) (A0_2:Option Addr) (c0_2:Nat) (l0_2:List Int) (r:Bool) (w:World) (hr0_2:Kd.C (Kd.int .i64) w A0_2 l0_2.length l0_2) (hc0_2:l0_2.length≤c0_2) (H:be.f k a0_0 a0_1 l0_2=some r) :
  Calls Tryz.prog 58 #[.agg #[.int .i64 a0_0,.bool a0_1,.slice A0_2 l0_2.length c0_2]] w fun e w'=>e=.returned (.bool r)∧Below w.heap.size w w':=by
 have hu30:=Tryz.underlying30;have HR0_2:=A0_ hr0_2;have HC0_2:=A0_ hc0_2;clear hr0_2 hc0_2;have HB:=A0_ (Below.refl w.heap.size w);unfold be.f at H;have H':=A0_ H;clear H;go_enter Tryz.func58,Tryz.ntmps58
 go_wp2_with (first|((with_reducible refine gd_ (N:=1) rfl ?_);refine bx_ 1 #[.int .i64 a0_0,.bool a0_1,.slice A0_2 l0_2.length c0_2] 30 ?_;intro gb1 hg w1 BK1 hb;have GW1:=ge_ hg ai;have GE1:=GW1;replace HB:=hb_ hb ai;clear hb hg;have hcz1:=c3_ BK1))
 go_loopg [8] k (fun kq v1 w'=>∃ (x8_1:Int),v1=.int .i64 x8_1∧Aside0 (be.l0 kq l0_2 (l0_2.length:Int) x8_1 a0_0 a0_1 l0_2=some r)∧Aside0 (kq≤k)∧Aside0 (w'.heap[gb1]?=some (.cells #[.int .i64 a0_0,.bool a0_1,(.slice A0_2 l0_2.length c0_2)] 30 (0,0)))∧Aside0 (Below w.heap.size w w'))
 case atStart=>exact ⟨(0),aX,H',⟨Nat.le_refl _⟩,⟨u1_ BK1⟩,⟨aj⟩⟩
 clear H'
 (try clear hcz1)
 obtain ⟨x8_1,rfl,HA,HK1,BK1,HB⟩:=hrel
 cases gk with|zero=>exact absurd HA.out (by simp [be.l0])|succ k1=>?_
 have H:=HA.out;clear HA;simp only [be.l0] at H
 by_cases c1:x8_1<(l0_2.length:Int)
 case neg =>
  rw [if_neg c1] at H;have c1b0:decide (x8_1<(l0_2.length:Int))=false:=decide_eq_false c1;clear c1;obtain ⟨⟨t1,t2⟩,A2,H⟩:=o1_ H;obtain ⟨t3,A4,H⟩:=o1_ H;replace H:(some t3)=some r:=H;obtain rfl:=si_ H;have hcz2:=c3_ BK1
  go_wp2_with (first|((with_reducible refine gc_ (f:=53) rfl ?_);refine gl_ 35 Tryz.func53 #[.agg #[.int .i64 a0_0,.bool a0_1,.slice A0_2 l0_2.length c0_2]] ?_;(with_reducible refine (bD.calls a0_0 a0_1 _ _ l0_2 t1 t2 _ ?_ ?_ A2.out).mono ?_);exact bz;exact HC0_2.out;rintro e w2 ⟨rfl,hb⟩;refine ⟨_,rfl,?_⟩;replace BK1:=k1_ BK1 hb;replace HB:=hb_ hb aj;(try clear hb))|((with_reducible refine gc_ (f:=48) rfl ?_);refine gl_ 36 Tryz.func48 #[.agg #[.int .i64 t1,.bool t2]] ?_;(with_reducible refine (b9.calls t1 t2 t3 _ A4.out).mono ?_);rintro e w3 ⟨rfl,hb⟩;refine ⟨_,rfl,?_⟩;replace BK1:=k1_ BK1 hb;replace HB:=hb_ hb aj;(try clear hb)))
  go_ret
  exact ⟨aE,aj⟩
 rw [if_pos c1] at H;have c1b0:decide (x8_1<(l0_2.length:Int))=true:=dt_ c1;clear c1;obtain ⟨c2b0,H⟩:=i1_ H;obtain ⟨c3b0,H⟩:=i1_ H;obtain ⟨⟨t1,t2⟩,A2,H⟩:=o1_ H;obtain ⟨y1,hy1⟩:∃ y_:List Int,y_=(([rd l0_2 x8_1]:List Int)):=⟨_,rfl⟩;replace H:((bo.f k1 t1 t2 y1).bind fun t3=>(if t3=true then (if x8_1 > 0 then (if 0≤(wrap64 (x8_1 - 1)) then (if (wrap64 (x8_1 - 1))<(l0_2.length:Int) then (if (rd l0_2 (wrap64 (x8_1 - 1))) ≥ (rd l0_2 x8_1) then (some false) else (be.l0 k1 l0_2 (l0_2.length:Int) (wrap64 (x8_1+1)) a0_0 a0_1 l0_2)) else (none)) else (none)) else (be.l0 k1 l0_2 (l0_2.length:Int) (wrap64 (x8_1+1)) a0_0 a0_1 l0_2)) else (some false)))=some r:=dx;have Ny1:=A0_ hy1;clear hy1;obtain ⟨t3,A4,H⟩:=o1_ H
 by_cases c4:t3=true
 case neg =>
  obtain rfl:=bf_.mpr c4;rw [if_neg ft_] at H;obtain rfl:=si_ H;have p1:0≤(x8_1:Int):=od_ ay;have q1:x8_1<(l0_2.length:Int):=od_ ay;obtain ⟨ad1,e1,hx1_0⟩:=Kd.at_int HR0_2.out x8_1 p1 q1;cases e1;replace hx1_0:=(HB.out.cell (World.block_lt_of_cell? w _ hx1_0)).trans hx1_0;replace p1:=eq_true p1;replace q1:=eq_true q1;have hcz2:=c3_ BK1
  go_wp2_with (first|((with_reducible refine gc_ (f:=53) rfl ?_);refine gl_ 14 Tryz.func53 #[.agg #[.int .i64 a0_0,.bool a0_1,.slice (some ad1) l0_2.length c0_2]] ?_;(with_reducible refine (bD.calls a0_0 a0_1 _ _ l0_2 t1 t2 _ ?_ ?_ A2.out).mono ?_);exact bz;exact HC0_2.out;rintro e w2 ⟨rfl,hb⟩;refine ⟨_,rfl,?_⟩;replace BK1:=k1_ BK1 hb;replace HB:=hb_ hb aj;(try clear hb))|((with_reducible refine gd_ (N:=16) rfl ?_);refine Kd.R_lit (Kd.int .i64) _ 3 ?hg (N:=16) ?hd (xs:=([rd l0_2 x8_1]:List Int)) (inner:=[.int .i64 (rd l0_2 x8_1)]) (ok:=fun _=>True) (okp:=fun _=>True) ?hr ?hp (fun _ hk=>hk) trivial (Below.refl _ _) (Nat.le_refl _) bB ?_;(case hd=>rfl);(case hg=>rfl);(case hr=>go_simp;first|done|rfl);(case hp=>exact (aN.one (show Kd.M (Kd.int .i64) _ _ _ (rd l0_2 x8_1) [.int .i64 (rd l0_2 x8_1)] from rfl) (aN.none _ _)));intro v2 w3 ho38 hb hg_ hnew_;clear hg_ hnew_;(first|rw [← Ny1.out] at ho38|(simp only [Int.reduceToNat] at ho38;rw [← Ny1.out] at ho38));have HO1:=A0_ (Kd.R_lower ho38 (bz_ aj));replace BK1:=k1_ BK1 hb;replace HB:=hb_ hb aj;clear hb ho38;obtain ⟨Ao1,co1,eo1⟩:=Kd.R_slice HO1.out;subst eo1)|((with_reducible refine gc_ (f:=76) rfl ?_);refine gl_ 17 Tryz.func76 #[.agg #[.int .i64 t1,.bool t2],.slice Ao1 y1.length co1] ?_;(with_reducible refine (bo.calls k1 t1 t2 _ _ y1 false _ ?_ ?_ A4.out).mono ?_);exact dW;exact (rr_ HO1.out).2.1;rintro e w4 ⟨rfl,hb⟩;refine ⟨_,rfl,?_⟩;replace HO1:=q1_ HO1 hb;replace BK1:=k1_ BK1 hb;replace HB:=hb_ hb aj;(try clear hb)))
  go_ret
  exact ⟨aE,aj⟩
 subst c4;rw [if_pos rfl] at H
 by_cases c5:x8_1 > 0
 case neg =>
  rw [if_neg c5] at H;have c5b0:decide (0<x8_1)=false:=decide_eq_false c5;clear c5;have H':=A0_ H;clear H;have p1:0≤(x8_1:Int):=od_ ay;have q1:x8_1<(l0_2.length:Int):=od_ ay;obtain ⟨ad1,e1,hx1_0⟩:=Kd.at_int HR0_2.out x8_1 p1 q1;cases e1;replace hx1_0:=(HB.out.cell (World.block_lt_of_cell? w _ hx1_0)).trans hx1_0;replace p1:=eq_true p1;replace q1:=eq_true q1;have hcz2:=c3_ BK1
  go_wp2_with (first|((with_reducible refine gc_ (f:=53) rfl ?_);refine gl_ 14 Tryz.func53 #[.agg #[.int .i64 a0_0,.bool a0_1,.slice (some ad1) l0_2.length c0_2]] ?_;(with_reducible refine (bD.calls a0_0 a0_1 _ _ l0_2 t1 t2 _ ?_ ?_ A2.out).mono ?_);exact bz;exact HC0_2.out;rintro e w2 ⟨rfl,hb⟩;refine ⟨_,rfl,?_⟩;replace BK1:=k1_ BK1 hb;replace HB:=hb_ hb aj;(try clear hb))|((with_reducible refine gd_ (N:=16) rfl ?_);refine Kd.R_lit (Kd.int .i64) _ 3 ?hg (N:=16) ?hd (xs:=([rd l0_2 x8_1]:List Int)) (inner:=[.int .i64 (rd l0_2 x8_1)]) (ok:=fun _=>True) (okp:=fun _=>True) ?hr ?hp (fun _ hk=>hk) trivial (Below.refl _ _) (Nat.le_refl _) bB ?_;(case hd=>rfl);(case hg=>rfl);(case hr=>go_simp;first|done|rfl);(case hp=>exact (aN.one (show Kd.M (Kd.int .i64) _ _ _ (rd l0_2 x8_1) [.int .i64 (rd l0_2 x8_1)] from rfl) (aN.none _ _)));intro v2 w3 ho32 hb hg_ hnew_;clear hg_ hnew_;(first|rw [← Ny1.out] at ho32|(simp only [Int.reduceToNat] at ho32;rw [← Ny1.out] at ho32));have HO1:=A0_ (Kd.R_lower ho32 (bz_ aj));replace BK1:=k1_ BK1 hb;replace HB:=hb_ hb aj;clear hb ho32;obtain ⟨Ao1,co1,eo1⟩:=Kd.R_slice HO1.out;subst eo1)|((with_reducible refine gc_ (f:=76) rfl ?_);refine gl_ 17 Tryz.func76 #[.agg #[.int .i64 t1,.bool t2],.slice Ao1 y1.length co1] ?_;(with_reducible refine (bo.calls k1 t1 t2 _ _ y1 true _ ?_ ?_ A4.out).mono ?_);exact dW;exact (rr_ HO1.out).2.1;rintro e w4 ⟨rfl,hb⟩;refine ⟨_,rfl,?_⟩;replace HO1:=q1_ HO1 hb;replace BK1:=k1_ BK1 hb;replace HB:=hb_ hb aj;(try clear hb)))
  go_roundg k1
  case measure=>have:=HK1.out;omega
  exact ⟨(wrap64 (x8_1+1)),aX,H',⟨dj⟩,⟨u1_ BK1⟩,⟨aj⟩⟩
 rw [if_pos c5] at H;have c5b0:decide (0<x8_1)=true:=dt_ c5;clear c5;obtain ⟨ji1,hji1⟩:∃ j_:Int,(wrap64 (x8_1 - 1))=j_:=⟨_,rfl⟩;replace H:(if 0≤(ji1) then (if (ji1)<(l0_2.length:Int) then (if (rd l0_2 (ji1)) ≥ (rd l0_2 x8_1) then (some false) else (be.l0 k1 l0_2 (l0_2.length:Int) (wrap64 (x8_1+1)) a0_0 a0_1 l0_2)) else (none)) else (none))=some r:=gG
 (try rw [hji1] at A2)
 (try rw [hji1] at A4)
 have hji11w:(IntKind.i64.wrap (x8_1 - 1))=ji1:=(dD _).trans hji1;obtain ⟨c6b0,H⟩:=i1_ H;obtain ⟨c7b0,H⟩:=i1_ H
 by_cases c8:(rd l0_2 (ji1)) ≥ (rd l0_2 x8_1)
 case neg =>
  rw [if_neg c8] at H;have c8b0:decide ((rd l0_2 x8_1)≤(rd l0_2 (ji1)))=false:=decide_eq_false c8;clear c8;have H':=A0_ H;clear H;have p1:0≤(x8_1:Int):=od_ ay;have q1:x8_1<(l0_2.length:Int):=od_ ay;obtain ⟨ad1,e1,hx1_0⟩:=Kd.at_int HR0_2.out x8_1 p1 q1;cases e1;replace hx1_0:=(HB.out.cell (World.block_lt_of_cell? w _ hx1_0)).trans hx1_0;replace p1:=eq_true p1;replace q1:=eq_true q1;have hcz2:=c3_ BK1
  go_wp2_with (first|((with_reducible refine gc_ (f:=53) rfl ?_);refine gl_ 14 Tryz.func53 #[.agg #[.int .i64 a0_0,.bool a0_1,.slice (some ad1) l0_2.length c0_2]] ?_;(with_reducible refine (bD.calls a0_0 a0_1 _ _ l0_2 t1 t2 _ ?_ ?_ A2.out).mono ?_);exact bz;exact HC0_2.out;rintro e w2 ⟨rfl,hb⟩;refine ⟨_,rfl,?_⟩;replace BK1:=k1_ BK1 hb;replace HB:=hb_ hb aj;(try clear hb))|((with_reducible refine gd_ (N:=16) rfl ?_);refine Kd.R_lit (Kd.int .i64) _ 3 ?hg (N:=16) ?hd (xs:=([rd l0_2 x8_1]:List Int)) (inner:=[.int .i64 (rd l0_2 x8_1)]) (ok:=fun _=>True) (okp:=fun _=>True) ?hr ?hp (fun _ hk=>hk) trivial (Below.refl _ _) (Nat.le_refl _) bB ?_;(case hd=>rfl);(case hg=>rfl);(case hr=>go_simp;first|done|rfl);(case hp=>exact (aN.one (show Kd.M (Kd.int .i64) _ _ _ (rd l0_2 x8_1) [.int .i64 (rd l0_2 x8_1)] from rfl) (aN.none _ _)));intro v2 w3 ho25 hb hg_ hnew_;clear hg_ hnew_;(first|rw [← Ny1.out] at ho25|(simp only [Int.reduceToNat] at ho25;rw [← Ny1.out] at ho25));have HO1:=A0_ (Kd.R_lower ho25 (bz_ aj));replace BK1:=k1_ BK1 hb;replace HB:=hb_ hb aj;clear hb ho25;obtain ⟨Ao1,co1,eo1⟩:=Kd.R_slice HO1.out;subst eo1)|((with_reducible refine gc_ (f:=76) rfl ?_);refine gl_ 17 Tryz.func76 #[.agg #[.int .i64 t1,.bool t2],.slice Ao1 y1.length co1] ?_;(with_reducible refine (bo.calls k1 t1 t2 _ _ y1 true _ ?_ ?_ A4.out).mono ?_);exact dW;exact (rr_ HO1.out).2.1;rintro e w4 ⟨rfl,hb⟩;refine ⟨_,rfl,?_⟩;replace HO1:=q1_ HO1 hb;replace BK1:=k1_ BK1 hb;replace HB:=hb_ hb aj;(try clear hb);have hcz3:=c3_ BK1;have p2:0≤((ji1):Int):=od_ ay;have q2:(ji1)<(l0_2.length:Int):=od_ ay;obtain ⟨ad2,e2,hx2_0⟩:=Kd.at_int HR0_2.out (ji1) p2 q2;obtain rfl:ad1=ad2:=fm;replace hx2_0:=(HB.out.cell (World.block_lt_of_cell? w _ hx2_0)).trans hx2_0;replace p2:=eq_true p2;replace q2:=eq_true q2))
  go_roundg k1
  case measure=>have:=HK1.out;omega
  exact ⟨(wrap64 (x8_1+1)),aX,H',⟨dj⟩,⟨u1_ BK1⟩,⟨aj⟩⟩
 rw [if_pos c8] at H;have c8b0:decide ((rd l0_2 x8_1)≤(rd l0_2 (ji1)))=true:=dt_ c8;clear c8;obtain rfl:=si_ H;have p1:0≤(x8_1:Int):=od_ ay;have q1:x8_1<(l0_2.length:Int):=od_ ay;obtain ⟨ad1,e1,hx1_0⟩:=Kd.at_int HR0_2.out x8_1 p1 q1;cases e1;replace hx1_0:=(HB.out.cell (World.block_lt_of_cell? w _ hx1_0)).trans hx1_0;replace p1:=eq_true p1;replace q1:=eq_true q1;have hcz2:=c3_ BK1
 go_wp2_with (first|((with_reducible refine gc_ (f:=53) rfl ?_);refine gl_ 14 Tryz.func53 #[.agg #[.int .i64 a0_0,.bool a0_1,.slice (some ad1) l0_2.length c0_2]] ?_;(with_reducible refine (bD.calls a0_0 a0_1 _ _ l0_2 t1 t2 _ ?_ ?_ A2.out).mono ?_);exact bz;exact HC0_2.out;rintro e w2 ⟨rfl,hb⟩;refine ⟨_,rfl,?_⟩;replace BK1:=k1_ BK1 hb;replace HB:=hb_ hb aj;(try clear hb))|((with_reducible refine gd_ (N:=16) rfl ?_);refine Kd.R_lit (Kd.int .i64) _ 3 ?hg (N:=16) ?hd (xs:=([rd l0_2 x8_1]:List Int)) (inner:=[.int .i64 (rd l0_2 x8_1)]) (ok:=fun _=>True) (okp:=fun _=>True) ?hr ?hp (fun _ hk=>hk) trivial (Below.refl _ _) (Nat.le_refl _) bB ?_;(case hd=>rfl);(case hg=>rfl);(case hr=>go_simp;first|done|rfl);(case hp=>exact (aN.one (show Kd.M (Kd.int .i64) _ _ _ (rd l0_2 x8_1) [.int .i64 (rd l0_2 x8_1)] from rfl) (aN.none _ _)));intro v2 w3 ho18 hb hg_ hnew_;clear hg_ hnew_;(first|rw [← Ny1.out] at ho18|(simp only [Int.reduceToNat] at ho18;rw [← Ny1.out] at ho18));have HO1:=A0_ (Kd.R_lower ho18 (bz_ aj));replace BK1:=k1_ BK1 hb;replace HB:=hb_ hb aj;clear hb ho18;obtain ⟨Ao1,co1,eo1⟩:=Kd.R_slice HO1.out;subst eo1)|((with_reducible refine gc_ (f:=76) rfl ?_);refine gl_ 17 Tryz.func76 #[.agg #[.int .i64 t1,.bool t2],.slice Ao1 y1.length co1] ?_;(with_reducible refine (bo.calls k1 t1 t2 _ _ y1 true _ ?_ ?_ A4.out).mono ?_);exact dW;exact (rr_ HO1.out).2.1;rintro e w4 ⟨rfl,hb⟩;refine ⟨_,rfl,?_⟩;replace HO1:=q1_ HO1 hb;replace BK1:=k1_ BK1 hb;replace HB:=hb_ hb aj;(try clear hb);have hcz3:=c3_ BK1;have p2:0≤((ji1):Int):=od_ ay;have q2:(ji1)<(l0_2.length:Int):=od_ ay;obtain ⟨ad2,e2,hx2_0⟩:=Kd.at_int HR0_2.out (ji1) p2 q2;obtain rfl:ad1=ad2:=fm;replace hx2_0:=(HB.out.cell (World.block_lt_of_cell? w _ hx2_0)).trans hx2_0;replace p2:=eq_true p2;replace q2:=eq_true q2))
 go_ret
 exact ⟨j9,aj⟩

def az.l0:Nat→List Int→List Int→Int→Int→Option (Bool)
 | 0,_,_,_,_=>none
 | k+1,x0,x1,x12,x13=>if x13<x12 then (if 0≤x13 then (if x13<(x0.length:Int) then (if x13<(x1.length:Int) then (if (rd x0 x13)=(rd x1 x13) then (az.l0 k x0 x1 x12 (wrap64 (x13+1))) else (some false)) else (none)) else (none)) else (none)) else (some true)
def az.f (k:Nat) (l0:List Int) (l1:List Int):Option (Bool):=if (l0.length:Int)=(l1.length:Int) then (az.l0 k l0 l1 (l0.length:Int) 0) else (some false)
theorem az.mono_l:∀ k,(∀ y0 y1 y2 y3,LeO (az.l0 k y0 y1 y2 y3) (az.l0 (k+1) y0 y1 y2 y3))
 | 0=>fun _ _ _ _ r h=>by simp [az.l0] at h
 | k+1=>by
  have ih0:=az.mono_l k
  ·intro y0 y1 y2 y3
   unfold az.l0
   repeat' with_reducible first|exact ih0 ..|exact LeO.refl ..|exact LeO.none ..|refine LeO.ite ?_ ?_|refine LeO.bind ?_ (fun _=>?_)
theorem az.mono:∀ a0 a1 k,LeO (az.f k a0 a1) (az.f (k+1) a0 a1):=by
 intro a0 a1 k;have ih0:=az.mono_l k;unfold az.f
 repeat' with_reducible first|exact ih0 ..|exact LeO.refl ..|exact LeO.none ..|refine LeO.ite ?_ ?_|refine LeO.bind ?_ (fun _=>?_)
theorem az.calls (k:Nat) (A0:Option Addr) (c0:Nat) (l0:List Int) (A1:Option Addr) (c1:Nat) (l1:List Int) (r:Bool) (w:World) (hr0:Kd.C (Kd.int .i64) w A0 l0.length l0) (hc0:l0.length≤c0) (hr1:Kd.C (Kd.int .i64) w A1 l1.length l1) (hc1:l1.length≤c1) (H:az.f k l0 l1=some r) :
  Calls Tryz.prog 59 #[.slice A0 l0.length c0,.slice A1 l1.length c1] w fun e w'=>e=.returned (.bool r)∧Drawn0 w w':=by
 have HR0:=A0_ hr0;have HC0:=A0_ hc0;clear hr0 hc0;have HR1:=A0_ hr1;have HC1:=A0_ hc1;clear hr1 hc1;unfold az.f at H
 by_cases c2:(l0.length:Int)=(l1.length:Int)
 case neg =>
  rw [if_neg c2] at H;obtain ⟨c2b0,c2b1⟩:=ef_ c2;have c2b2:(l0.length == l1.length)=false:=jl;obtain rfl:=si_ H;go_enter Tryz.func59,Tryz.ntmps59
  go_wp2
  repeat (go_quiet (fail);try go_wp2)
  go_ret
  exact ⟨dv,ck⟩
 rw [if_pos c2] at H;obtain ⟨c2b0,c2b1⟩:=et_ c2;have c2b2:(l0.length == l1.length)=true:=jl;clear c2;have H':=A0_ H;clear H;go_enter Tryz.func59,Tryz.ntmps59
 go_wp2
 repeat (go_quiet (fail);try go_wp2)
 go_loopg [13] k (fun kq v1 w'=>∃ (x13_1:Int),v1=.int .i64 x13_1∧Aside0 (az.l0 kq l0 l1 (l0.length:Int) x13_1=some r)∧Aside0 (kq≤k)∧Drawn0 w w')
 case atStart=>exact ⟨(0),aX,H',⟨Nat.le_refl _⟩,ck⟩
 clear H'
 try clear c1
 try clear c2
 try clear c2b0
 try clear c2b1
 try clear c2b2
 obtain ⟨x13_1,rfl,HA,HK1,⟨m1,rfl⟩⟩:=hrel
 cases gk with|zero=>exact absurd HA.out (by simp [az.l0])|succ k1=>?_
 have H:=HA.out;clear HA;simp only [az.l0] at H
 by_cases c3:x13_1<(l0.length:Int)
 case neg =>
  rw [if_neg c3] at H;have c3b0:decide (x13_1<(l0.length:Int))=false:=decide_eq_false c3;clear c3;obtain rfl:=si_ H
  go_wp2
  repeat (go_quiet (fail);try go_wp2)
  go_ret
  exact ⟨dv,ck⟩
 rw [if_pos c3] at H;have c3b0:decide (x13_1<(l0.length:Int))=true:=dt_ c3;clear c3;obtain ⟨c4b0,H⟩:=i1_ H;obtain ⟨c5b0,H⟩:=i1_ H;obtain ⟨c6b0,H⟩:=i1_ H
 by_cases c7:(rd l0 x13_1)=(rd l1 x13_1)
 case neg =>
  rw [if_neg c7] at H;obtain ⟨c7b0,c7b1⟩:=ef_ c7;obtain rfl:=si_ H;have p1:0≤(x13_1:Int):=od_ ay;have q1:x13_1<(l0.length:Int):=od_ ay;obtain ⟨ad1,e1,hx1_0⟩:=Kd.at_int HR0.out x13_1 p1 q1;cases e1;replace p1:=eq_true p1;replace q1:=eq_true q1;have p2:0≤(x13_1:Int):=od_ ay;have q2:x13_1<(l1.length:Int):=od_ ay;obtain ⟨ad2,e2,hx2_0⟩:=Kd.at_int HR1.out x13_1 p2 q2;cases e2;replace p2:=eq_true p2;replace q2:=eq_true q2
  go_wp2
  repeat (go_quiet (fail);try go_wp2)
  go_ret
  exact ⟨dv,ck⟩
 rw [if_pos c7] at H;obtain ⟨c7b0,c7b1⟩:=et_ c7;clear c7;have H':=A0_ H;clear H;have p1:0≤(x13_1:Int):=od_ ay;have q1:x13_1<(l0.length:Int):=od_ ay;obtain ⟨ad1,e1,hx1_0⟩:=Kd.at_int HR0.out x13_1 p1 q1;cases e1;replace p1:=eq_true p1;replace q1:=eq_true q1;have p2:0≤(x13_1:Int):=od_ ay;have q2:x13_1<(l1.length:Int):=od_ ay;obtain ⟨ad2,e2,hx2_0⟩:=Kd.at_int HR1.out x13_1 p2 q2;cases e2;replace p2:=eq_true p2;replace q2:=eq_true q2
 go_wp2
 repeat (go_quiet (fail);try go_wp2)
 go_roundg k1
 case measure=>have:=HK1.out;omega
 exact ⟨(wrap64 (x13_1+1)),aX,H',⟨dj⟩,ck⟩

section
open Go.Shelf Go.Sort
attribute [local go_sem] Oper.semAt_some
theorem Sv.addb (a:Addr) (i:Nat):(a.add i).block=a.block:=by unfold Addr.add;split <;> rfl
def Sv.upto {α:Type} (f:Nat→α) (k:Nat):List α:=(List.range k).map f
theorem Sv.upto_succ {α:Type} (f:Nat→α) (k:Nat):Sv.upto f (k+1)=Sv.upto f k++[f k]:=by simp [Sv.upto,List.range_succ]
theorem Sv.upto_length {α:Type} (f:Nat→α) (k:Nat):(Sv.upto f k).length=k:=by simp [Sv.upto]
theorem Sv.upto_all (zs:List Int):Sv.upto (fun j=>zs[j]?.getD 0) zs.length=zs:=by
 apply List.ext_getElem
 ·simp [Sv.upto]
 ·intro i h1 h2
  simp [Sv.upto,h2]

set_option maxRecDepth 100000 in
set_option maxHeartbeats 2000000 in
theorem Sv.values1_in (F:Fence) (n:Nat) (h7:F.fn 83) (hro:F.round=none) (hn:1≤n) (l Bs n₀ len cap:Nat) (ad:Addr) (zs:List Int) (hreach:len * 8≤140737488351232) (hb:ad.block<n₀) (J Jx:List Int→World→Prop)
  (hY:∀ pre x W,J pre W→pre.length<len→YieldAt F (n - 1) Tryz.prog l #[.int .i64 x] W fun e W' =>
   (e=.returned (.bool true)∧J (pre++[x]) W'∧Below n₀ W W') ∨ (e=.returned (.bool false)∧Jx (pre++[x]) W'))
  (W:World) (hBs:W.cell? ⟨Bs,0,none⟩=some (.slice (some ad) len cap)) (hc:∀ j,j<len→W.cell? (ad.add j)=some (.int .i64 (zs[j]?.getD 0))) (h0:J [] W) :
  CallsIn F n Tryz.prog 83 #[.func (.yield l) #[] #[],.pointer (some ⟨Bs,0,none⟩)] W fun e W'=>(∃ v,e=.returned v) ∧
   ((∃ ys,ys=Sv.upto (fun j=>zs[j]?.getD 0) len∧J ys W') ∨ (∃ pre,(∃ k,k≤len∧pre=Sv.upto (fun j=>zs[j]?.getD 0) k)∧Jx pre W')):=by
 refine callsIn_of_wp Tryz.func83 rfl h7 ?_ hro
 simp only [Tryz.ntmps83,List.size_toArray,List.length_cons,List.length_nil,Nat.reduceAdd,Nat.reduceSub,Array.replicate_succ,Array.replicate_zero,List.push_toArray,List.append_toArray,List.nil_append,List.cons_append]
 gi_wp2
 gi_loopw [7] (fun i wr=>∃ k:Nat,k≤len∧i=.int .i64 k∧J (Sv.upto (fun j=>zs[j]?.getD 0) k) wr∧Below n₀ W wr)
  (fun i _=>len - (intOf i).toNat)
 case atStart=>exact ⟨0,Nat.zero_le _,rfl,h0,Below.refl _ _⟩
 case round =>
  obtain ⟨k,hk,rfl,hJs,hnx⟩:=hrel
  have hcx:k<len→wr.cell? (ad.add k)=some (.int .i64 (zs[k]?.getD 0)):=fun h=>(hnx.cell (p:=ad.add k) (by rw [Sv.addb];exact hb)).trans (hc k h)
  by_cases hlt:k<len
  ·obtain ⟨fn,tmps,assign,body,hy,hR⟩:=hY _ (zs[k]?.getD 0) wr hJs (by rw [Sv.upto_length];exact hlt)
   have hcx':=hcx hlt
   gi_wp2
   refine hR.mono ?_
   rintro e W3 (⟨rfl,hJ3,hk3⟩|⟨rfl,hJx3⟩)
   ·-- THE ROUND GOES ON
    gi_wp2
    go_roundw
    case rel=>exact ⟨k+1,bm,bB,by rw [Sv.upto_succ];exact hJ3,hnx.trans hk3⟩
    case measure=>simp [intOf];omega
   ·gi_wp2
    refine bodyPost_ret (results_none rfl _ _ _) rfl ?_
    exact ⟨⟨_,rfl⟩,.inr ⟨_,⟨k+1,bm,(Sv.upto_succ _ _).symm⟩,hJx3⟩⟩
  ·obtain rfl:k=len:=by omega
   gi_wp2
   go_end0
   exact ⟨⟨_,rfl⟩,.inl ⟨_,rfl,hJs⟩⟩

theorem Sv.upto_take (zs:List Int) {k:Nat} (hk:k≤zs.length):Sv.upto (fun j=>zs[j]?.getD 0) k=zs.take k:=by
 apply List.ext_getElem
 ·simp [Sv.upto,hk]
 ·intro i h1 h2
  have:i<zs.length:=by simp [Sv.upto] at h1;omega
  simp [Sv.upto,this]

def Sv.Ints (n₀:Nat) (W:World) (sv:Value) (zs:List Int):Prop :=
 (zs=[]∧∃ A cap,sv=.slice A 0 cap) ∨ ∃ ad cap,sv=.slice (some ad) zs.length cap∧ad.block<n₀∧∀ j,j<zs.length→W.cell? (ad.add j)=some (.int .i64 (zs[j]?.getD 0))
theorem Sv.Ints.below {n₀:Nat} {A B:World} (h:Below n₀ A B) {sv:Value} {zs:List Int}:Sv.Ints n₀ A sv zs→Sv.Ints n₀ B sv zs
 | .inl e=>.inl e
 | .inr ⟨ad,cap,e,hb,hc⟩=>.inr ⟨ad,cap,e,hb,fun j hj=>(h.cell (p:=ad.add j) (by rw [Sv.addb];exact hb)).trans (hc j hj)⟩
set_option maxRecDepth 100000 in
set_option maxHeartbeats 1000000 in
theorem Sv.values1_nil_in (F:Fence) (n:Nat) (h7:F.fn 83) (hro:F.round=none) (l Bs:Nat) (J:List Int→World→Prop) (W:World) (A0:Option Addr) (cap0:Nat) (hBs:W.cell? ⟨Bs,0,none⟩=some (.slice A0 0 cap0)) (h0:J [] W) :
  CallsIn F n Tryz.prog 83 #[.func (.yield l) #[] #[],.pointer (some ⟨Bs,0,none⟩)] W fun e W'=>(∃ v,e=.returned v)∧J [] W':=by
 refine callsIn_of_wp Tryz.func83 rfl h7 ?_ hro
 simp only [Tryz.ntmps83,List.size_toArray,List.length_cons,List.length_nil,Nat.reduceAdd,Nat.reduceSub,Array.replicate_succ,Array.replicate_zero,List.push_toArray,List.append_toArray,List.nil_append,List.cons_append]
 gi_wp2
 gi_loopw [7] (fun i wr=>i=.int .i64 0∧J [] wr) (fun _ _=>0)
 case atStart=>exact ⟨rfl,h0⟩
 case round =>
  obtain ⟨rfl,hJs⟩:=hrel
  gi_wp2
  go_end0
  exact ⟨⟨_,rfl⟩,hJs⟩

set_option maxHeartbeats 1000000 in
theorem Sv.values_in (F:Fence) (n:Nat) (h5:F.fn 61) (hro:F.round=none) (a:Option Addr) (len cap:Nat) (w:World) :
  CallsIn F n Tryz.prog 61 #[.slice a len cap] w fun e w'=>e=.returned (.func (.func 83) #[] #[.pointer (some ⟨w.heap.size,0,none⟩)])∧w'=w.alloc (.cells #[.slice a len cap] 22):=by
 refine callsIn_of_wp Tryz.func61 rfl h5 ?_ hro
 simp only [Tryz.ntmps61,List.size_toArray,List.length_cons,List.length_nil,Nat.reduceAdd,Nat.reduceSub,Array.replicate_succ,Array.replicate_zero,List.push_toArray,List.append_toArray,List.nil_append,List.cons_append]
 gi_wp2
 go_ret
 exact ⟨rfl,rfl⟩

theorem Sv.values_stops (F:Fence) (n:Nat) (h7:F.fn 83) (hro:F.round=none) (hn:1≤n) (Bs n₀:Nat) (sv:Value) (zs:List Int) (hreach:zs.length * 8≤140737488351232) (w:World) (hBs:Bs<w.heap.size) (hn₀:n₀≤w.heap.size)
  (hc:w.cell? ⟨Bs,0,none⟩=some sv) (hI:Sv.Ints n₀ w sv zs) :
  SeqStopsK F n Tryz.prog 83 #[.pointer (some ⟨Bs,0,none⟩)] (fun x:Int=>#[Value.int .i64 x]) (Below n₀) (fun ys=>ys=zs) (fun pre=>pre <+: zs) zs.length w:=fun l J Jx W hW _ _ hY h0=>by
 have hc':=(hW.cell (p:=⟨Bs,0,none⟩) hBs).trans hc
 rcases hI.below (hW.mono hn₀) with ⟨rfl,A0,cap0,rfl⟩|⟨ad,cap,rfl,hb,hcs⟩
 ·exact (Sv.values1_nil_in F n h7 hro l Bs J W A0 cap0 hc' h0).mono fun e W' ⟨he,hj⟩=>⟨he,.inl ⟨_,rfl,hj⟩⟩
 ·refine (Sv.values1_in F n h7 hro hn l Bs n₀ zs.length cap ad zs hreach hb J Jx hY W hc' hcs h0).mono ?_
  rintro e W' ⟨he,⟨ys,rfl,hj⟩|⟨pre,⟨k,hk,rfl⟩,hj⟩⟩
  ·exact ⟨he,.inl ⟨_,Sv.upto_all zs,hj⟩⟩
  ·exact ⟨he,.inr ⟨_,by rw [Sv.upto_take zs hk];exact List.take_prefix _ _,hj⟩⟩

theorem Sv.infoI:(Tryz.prog.info? 3).map (fun i=>(i.zero,i.size,i.bytes))=some (some (.int .i64 0),1,8):=by kernel_rfl
set_option maxRecDepth 100000 in
set_option maxHeartbeats 2000000 in
/-- slices.AppendSeq(nil, slices.Values(zs)): a slice of the call's own that holds zs. -/
theorem Sv.appendSeq_in (F:Fence) (n:Nat) (h3:F.fn 99) (h5:F.fn 83) (hro:F.round=none) (hn:3≤n) (Bv:Nat) (sv:Value) (zs:List Int) (hlen:zs.length≤maxLen) (hreach:zs.length * 8≤140737488351232) (w:World) (hBv:Bv<w.heap.size) (hcv:w.cell? ⟨Bv,0,none⟩=some sv) (hI:Sv.Ints w.heap.size w sv zs) :
  CallsIn F n Tryz.prog 99 #[.slice none 0 0,.func (.func 83) #[] #[.pointer (some ⟨Bv,0,none⟩)]] w fun e W'=>∃ v,e=.returned v∧W'.ownsRow w.heap.size 3 1 v zs.length (zs.map (Value.int .i64))∧Below w.heap.size w W':=by
 have h1:1≤n:=by omega
 obtain ⟨i0,hi,hz0,hz1,hz2⟩:=info_parts Sv.infoI
 refine callsIn_of_wp_marks Tryz.func99 rfl h3 ?_ hro
 simp only [Tryz.ntmps99,List.size_toArray,List.length_cons,List.length_nil,Nat.reduceAdd,Nat.reduceSub,Array.replicate_succ,Array.replicate_zero,List.push_toArray,List.append_toArray,List.nil_append,List.cons_append]
 gi_wp2
 have bO:=Boxed.new w 22 (.slice none 0 0);have hB0:Below w.heap.size w (w.alloc (.cells #[.slice none 0 0] 22)):=(Below.refl _ w).alloc (Nat.le_refl _) _
 refine wpIn_rangeFunc_ownG hro h1 (gf:=83) (lb:=#[.pointer (some ⟨Bv,0,none⟩)]) rfl h5 (enters_of Tryz.func83 aY rfl)
  (Sv.values_stops F (n - 1) h5 hro bm Bv w.heap.size sv zs hreach _ (by simp;omega) bB ((hB0.cell (p:=⟨Bv,0,none⟩) hBv).trans hcv) (hI.below hB0)) belowK_t (belowK_b bB) (Below.refl _ _) (fun _=>rfl)
  (fun pre W=>(∃ v,Boxed W w.heap.size 22 v∧W.ownsRow w.heap.size 3 1 v pre.length (pre.map (Value.int .i64))∧(v=.slice none 0 0 ↔ pre=[]))∧Below w.heap.size w W)
  (fun _ _ _=>False)
  (OwnFrom.and (Own.from (holdsRow_own w.heap.size w.heap.size 22 3 1 (fun pre:List Int=>pre.length) (fun pre=>pre.map (Value.int .i64)) (fun pre v=>v=.slice none 0 0 ↔ pre=[])) _) (ownFrom_below (Nat.le_refl _) bB))
  (fun _ _ _ _ _ hs _ _=>hs)
  ⟨⟨_,bO,World.ownsRow_nil _ _ _ _,bB⟩,hB0⟩
  (fun x=>{ tmps:=#[.slice none 0 0,.func (.func 83) #[] #[.pointer (some ⟨Bv,0,none⟩)],.pointer (some ⟨w.heap.size,0,none⟩),undef,.slice none 0 0,.int .i64 x,.func (.func 83) #[] #[.pointer (some ⟨Bv,0,none⟩)],.int .i64 x,undef,undef,undef,undef,undef],defers:=[] }) ?assign ?body ?done ?stop
 case assign =>
  intro l x W K hK
  gi_wp2
  exact hK
 case body =>
  rintro l pre x W ⟨⟨v,hv,hrow,hnil⟩,hB⟩ hlt;have hc:=hv.cell
  gi_wp2_with (gi_at_builtin;refine wpListIn_append_own _ rfl _ _ 22 rfl w.heap.size 3 i0 (.int .i64 0) 1 8 Tryz.underlying22 hi hz0 hz1 hz2 rfl ag _ _ _ rfl (hrow.alloc _) ⟨W.heap.size,0,none⟩ 1 1 [.int .i64 x] rfl rfl (cell_one_new _ _ _) (by simp [Value.oneCell']) bm bm (by have:=hB.size;simp;omega) ?_;intro v' w1 hown' hgrow _;obtain ⟨g',cap',rfl⟩:=ownsRow_succ hown';obtain ⟨hv1,hv2,hr2,hk2,hb2⟩:=hv.appended ag hrow hB.size (Nat.le_refl _) hown' hgrow;have hc1:=hv1.cell;have hf1:=hv1.frozen)
  exact ⟨hk2.from _,hb2,⟨_,hv2,by simpa using hr2,bB⟩,hB.trans hb2⟩
 case done =>
  rintro D ys W hD rfl ⟨⟨v,hv,hrow,hnil⟩,hB⟩ hK;have hc:=hv.cell
  gi_wp2
  refine ⟨bB,.inl ⟨_,_,rfl,run_takeDeferred hK,?_⟩⟩
  exact ⟨_,results_tmp rfl _ _ _,v,rfl,ownsRow_putObj hrow _ hK rfl,hB.trans (belowK_b (w:=w) (Nat.le_refl _) W D _ _ (by simp at hD;omega) hK rfl rfl)⟩
 case stop =>
  rintro D c pre W _ _ h _
  exact h.elim
set_option maxHeartbeats 1000000 in
theorem Sv.collect_in (F:Fence) (n:Nat) (h0:F.fn 81) (h3:F.fn 99) (h5:F.fn 83) (hro:F.round=none) (hn:4≤n) (Bv:Nat) (sv:Value) (zs:List Int) (hlen:zs.length≤maxLen) (hreach:zs.length * 8≤140737488351232) (w:World) (hBv:Bv<w.heap.size) (hcv:w.cell? ⟨Bv,0,none⟩=some sv) (hI:Sv.Ints w.heap.size w sv zs) :
  CallsIn F n Tryz.prog 81 #[.func (.func 83) #[] #[.pointer (some ⟨Bv,0,none⟩)]] w fun e W'=>∃ v,e=.returned v∧W'.ownsRow w.heap.size 3 1 v zs.length (zs.map (Value.int .i64))∧Below w.heap.size w W':=by
 have h1:1≤n:=by omega
 refine callsIn_of_wp Tryz.func81 rfl h0 ?_ hro
 simp only [Tryz.ntmps81,List.size_toArray,List.length_cons,List.length_nil,Nat.reduceAdd,Nat.reduceSub,Array.replicate_succ,Array.replicate_zero,List.push_toArray,List.append_toArray,List.nil_append,List.cons_append]
 gi_wp2_with (gi_at_call 99;refine (Sv.appendSeq_in F (n - 1) h3 h5 hro bm Bv sv zs hlen hreach _ hBv hcv hI).mono ?_;rintro e w' ⟨v,rfl,hrow,hb⟩)
 go_ret
 exact ⟨v,rfl,hrow,hb⟩
def fx:Go.Shelf.Ren where
 f:=fun x=>match x with
  | 189=>82
  | 125=>101
  | 257=>100
  | 128=>116
  | 129=>117
  | 294=>107
  | 295=>108
  | 296=>109
  | 297=>110
  | 298=>111
  | 299=>112
  | 216=>113
  | 300=>114
  | 301=>115
  | 328=>120
  | 329=>121
  | 330=>122
  | 331=>123
  | 332=>124
  | 215=>125
  | 343=>128
  | n=>n
 t:=fun x=>match x with
  | 28=>22
  | 3=>3
  | 46=>115
  | 0=>0
  | 51=>82
  | 53=>73
  | 4=>4
  | 183=>126
  | 182=>125
  | 131=>45
  | 5=>5
  | 9=>9
  | 218=>134
  | 222=>138
  | 228=>140
  | 229=>141
  | n=>n
 g:=fun x=>x
theorem kZ:Lays.n189 Tryz.prog fx where
 mixed:=by kernel_rfl
 f125:=Tryz.func101.trans aY
 f128:=Tryz.func116.trans aY
 f129:=Tryz.func117.trans aY
 f189:=Tryz.func82.trans aY
 f215:=Tryz.func125.trans aY
 f216:=Tryz.func113.trans aY
 f257:=Tryz.func100.trans aY
 f294:=Tryz.func107.trans aY
 f295:=Tryz.func108.trans aY
 f296:=Tryz.func109.trans aY
 f297:=Tryz.func110.trans aY
 f298:=Tryz.func111.trans aY
 f299:=Tryz.func112.trans aY
 f300:=Tryz.func114.trans aY
 f301:=Tryz.func115.trans aY
 f328:=Tryz.func120.trans aY
 f329:=Tryz.func121.trans aY
 f330:=Tryz.func122.trans aY
 f331:=Tryz.func123.trans aY
 f332:=Tryz.func124.trans aY
 f343:=Tryz.func128.trans aY
 t0:=Tryz.underlying0
 a0:=Tryz.isAgg0
 z0:=Tryz.sizeOf0
 v0:=Tryz.zeroValue0
 t3:=Tryz.underlying3
 a3:=Tryz.isAgg3
 z3:=Tryz.sizeOf3
 v3:=Tryz.zeroValue3
 t4:=Tryz.underlying4
 a4:=Tryz.isAgg4
 z4:=Tryz.sizeOf4
 v4:=Tryz.zeroValue4
 t5:=Tryz.underlying5
 a5:=Tryz.isAgg5
 z5:=Tryz.sizeOf5
 v5:=Tryz.zeroValue5
 t9:=Tryz.underlying9
 a9:=Tryz.isAgg9
 z9:=Tryz.sizeOf9
 v9:=Tryz.zeroValue9
 t28:=Tryz.underlying22
 a28:=Tryz.isAgg22
 z28:=Tryz.sizeOf22
 v28:=Tryz.zeroValue22
 t46:=Tryz.underlying115
 a46:=Tryz.isAgg115
 z46:=Tryz.sizeOf115
 v46:=Tryz.zeroValue115
 t51:=Tryz.underlying82
 a51:=Tryz.isAgg82
 z51:=Tryz.sizeOf82
 v51:=Tryz.zeroValue82
 t53:=Tryz.underlying73
 a53:=Tryz.isAgg73
 z53:=Tryz.sizeOf73
 v53:=Tryz.zeroValue73
 t131:=Tryz.underlying45
 a131:=Tryz.isAgg45
 z131:=Tryz.sizeOf45
 v131:=Tryz.zeroValue45
 t182:=Tryz.underlying125
 a182:=Tryz.isAgg125
 z182:=Tryz.sizeOf125
 v182:=Tryz.zeroValue125
 t183:=Tryz.underlying126
 a183:=Tryz.isAgg126
 z183:=Tryz.sizeOf126
 v183:=Tryz.zeroValue126
 t218:=Tryz.underlying134
 a218:=Tryz.isAgg134
 z218:=Tryz.sizeOf134
 v218:=Tryz.zeroValue134
 t222:=Tryz.underlying138
 a222:=Tryz.isAgg138
 z222:=Tryz.sizeOf138
 v222:=Tryz.zeroValue138
 t228:=Tryz.underlying140
 a228:=Tryz.isAgg140
 z228:=Tryz.sizeOf140
 v228:=Tryz.zeroValue140
 t229:=Tryz.underlying141
 a229:=Tryz.isAgg141
 z229:=Tryz.sizeOf141
 v229:=Tryz.zeroValue141
end
theorem Sv.rd_at (l:List Int) (j:Nat):rd l (j:Int)=l[j]?.getD 0:=by unfold rd;simp [List.getD]
section
open Go.Shelf Go.Sort
theorem Sv.reps (w:World) (base:Nat) (ok:Nat→Prop):∀ zs:List Int,aN ((Kd.int .i64).M w base ok) 1 zs (zs.map (Value.int .i64))
 | []=>aN.none _ _
 | z :: zs=>aN.one (show (Kd.int .i64).M w base ok z [.int .i64 z] from rfl) (Sv.reps w base ok zs)
theorem eV.calls (A:Option Addr) (n c:Nat) (w:World) :
  Calls Tryz.prog 61 #[.slice A n c] w fun e w'=>∃ g:Nat,e=.returned (.func (.func 83) #[] #[.pointer (some ⟨g,0,none⟩)])∧w'.cell? ⟨g,0,none⟩=some (.slice A n c)∧Below w.heap.size w w':=by
 refine (callsIn_wide.1 (Sv.values_in Fence.wide 2 trivial rfl A n c w)).mono ?_
 rintro e w' ⟨rfl,rfl⟩
 exact ⟨w.heap.size,rfl,(Boxed.new w 22 (.slice A n c)).cell,(Below.refl _ w).alloc (Nat.le_refl _) _⟩
def cA.f (l0:List Int):Option (List Int):=if l0.length≤1048576 then some (l0.mergeSort fun x y=>decide (x≤y)) else none
set_option maxHeartbeats 1000000 in
set_option maxRecDepth 100000 in
theorem cA.calls (g:Nat) (A0:Option Addr) (c0:Nat) (l0 r:List Int) (w:World) (hg:w.cell? ⟨g,0,none⟩=some (.slice A0 l0.length c0)) (hr0:Kd.C (Kd.int .i64) w A0 l0.length l0) (hc0:l0.length≤c0) (h:cA.f l0=some r) :
  Calls Tryz.prog 60 #[.func (.func 83) #[] #[.pointer (some ⟨g,0,none⟩)]] w fun e w'=>∃ v0_:Value,e=.returned (v0_)∧Kd.R (Kd.int .i64) 3 w' w.heap.size (fun _=>True) v0_ r∧Below w.heap.size w w':=by
 unfold cA.f at h
 split at h
 ·rename_i hl
  obtain rfl:=si_ h;clear h;have hgl:g<w.heap.size:=World.block_lt_of_cell? w _ hg
  have hI:Sv.Ints w.heap.size w (.slice A0 l0.length c0) l0:=by
   by_cases e:l0.length=0
   ·exact .inl ⟨List.eq_nil_of_length_eq_zero e,A0,c0,by rw [e]⟩
   ·obtain ⟨ad,rfl,hx⟩:=Kd.at_int hr0 0 bm bm
    refine .inr ⟨ad,c0,rfl,?_,fun j hj=>?_⟩
    ·have:=World.block_lt_of_cell? w _ hx
     rwa [Sv.addb] at this
    ·obtain ⟨ad',e',hx'⟩:=Kd.at_int hr0 (j:Int) bm bm
     obtain rfl:=si_ e';rw [Int.toNat_natCast] at hx';rw [hx',Sv.rd_at]
  have cC:=callsIn_wide.1 (Sv.collect_in Fence.wide 10 trivial trivial trivial rfl bm g _ l0 (by show l0.length≤9223372036854775807;omega) bm w hgl hg hI);go_enter Tryz.func60,Tryz.ntmps60
  go_wp2_with (go_at_call 81;refine cC.mono ?_;rintro e w1 ⟨v,rfl,hrow,hb⟩)
  rcases hrow.2 with ⟨rfl,hz⟩|⟨gb,cap,cur,rfl,hbase,hgb,r1,r2,r3,r4⟩
  ·obtain rfl:=List.eq_nil_of_length_eq_zero hz
   have cS:=Any.slices_Sort_int_none (ρ:=fx) kZ none 0 w1
   go_wp2_with (go_at_call 82;refine cS.mono ?_;rintro e w' ⟨rfl,rfl⟩)
   go_ret
   exact ⟨.slice none 0 0,rfl,by simpa using Kd.R_nil _ _ _ _ _,hb⟩
  have hH:Holds (Value.int .i64) w1 gb 0 l0.toArray:=holds_of_blockI hgb (by simpa using r4);have hgl1:gb<w1.heap.size:=(Array.getElem?_eq_some_iff.1 hgb).1;have cS:=Any.slices_Sort_int (ρ:=fx) kZ gb 0 cap l0 w1 hH hgl1 bm
  go_wp2_with (go_at_call 82;refine cS.mono ?_;rintro e w' ⟨rfl,nn,os,rfl⟩)
  go_ret
  exact ⟨_,rfl,⟨fun _ _=>trivial,_,by rw [List.length_mergeSort];exact ownsRow_sortedI (ss:=l0) bB hbase hgb r1 r2 r3,Sv.reps _ _ _ _⟩,hb.grown (grownBy_sortedI _) hb.size (fun j hj=>by cases hj;exact hbase)⟩
 cases h
end

end Go.Proofs.YtbohmfnjgjijdaaGreatDoor.QFnHouses
-- packed
-- squeezed
