-- Written by px.py, a program of this session, over the kit's printer: some functions have a definition and a proof of this session's own.
import Derived.Test.YtgcgmlbjklkkjaaDoorQFnGamex0
import Derived.Test.YtgcgmlbjklkkjaaDoorQFnGamex1
import Derived.Test.YtgcgmlbjklkkjaaDoorQFnGamex2
namespace Go.Proofs.YtgcgmlbjklkkjaaDoor.QFnGame
open Go.RowKit Go.Proofs.YtgcgmlbjklkkjaaDoorW.PrintWords Go.Proofs.YtgcgmlbjklkkjaaDoorW.PrintLast Go.Proofs.YtgcgmlbjklkkjaaDoorW.PrintMore
attribute [local go_sem] fq ft gc gf eW eX fu fv   -- for this text's walks alone
set_option linter.unusedVariables false
set_option linter.unusedSimpArgs false
set_option maxHeartbeats 8000000
set_option maxRecDepth 100000

def aQ.f (k:Nat) (a0_0:Int) (a0_1:Bool) (a1:Int) (a2:Int):Option ((List (S72)) × Bool):=(bY.f a0_0 a0_1).bind fun t414=>(if a2=1 then ((aN.f k a0_0 a0_1 a1).bind fun t415=>((ac.f k a0_0 a0_1 t415).bind fun t416=>(if a0_1=true then ((bY.f a0_0 a0_1).bind fun t419=>(some (t416,(t415 == t419)))) else (some (t416,false))))) else ((ac.f k a0_0 a0_1 (Go.bits .andNot .u32 t414 a1)).bind fun t420=>(if a0_1=true then ((bY.f a0_0 a0_1).bind fun t423=>(some (t420,((Go.bits .andNot .u32 t414 a1) == t423)))) else (some (t420,false)))))
theorem aQ.mono:∀ a0 a1 a2 a3 k,LeO (aQ.f k a0 a1 a2 a3) (aQ.f (k+1) a0 a1 a2 a3):=by
 intro a0 a1 a2 a3 k;unfold aQ.f
 repeat' with_reducible first|exact aN.mono ..|exact ac.mono ..|exact LeO.refl ..|exact LeO.none ..|refine LeO.ite ?_ ?_|refine LeO.bind ?_ (fun _=>?_)
def aQ.T4:Bool × List (List Nat × List Nat):=(true,[([],[]),([],[]),([0,1],[0,1]),([],[]),([3],[3]),([4,2],[4]),([5],[5]),([5],[5]),([7,5,5],[5,7]),([6,8,5],[5,6,8]),([5,9],[5,9]),([2,8,0,1,2],[2]),([10,11,0,1,2,3,4,5,6,7,8,9,10,11],[10])])
def aQ.B4:List Nat:=[0,0,3,0,8,31,63,63,191,511,1023,447,4095]
theorem aQ.tab4:dx .any (dX Tryd.f56 4)=aQ.T4:=by kernel_rfl
theorem aQ.bits4:cp aQ.T4.2 aQ.B4=true:=by kernel_rfl
theorem aQ.calls (k:Nat) (a0_0:Int) (a0_1:Bool) (a1:Int) (a2:Int) (r1:List (S72)) (r2:Bool) (w:World) (H:aQ.f k a0_0 a0_1 a1 a2=some (r1,r2)) :
  Calls Tryd.prog 56 #[.agg #[.int .i64 a0_0,.bool a0_1],.int .u32 a1,.int .i64 a2] w fun e w'=>∃ v0_:Value,e=.returned (.tuple #[v0_,.bool r2])∧Kd.R k72 72 w' w.heap.size (fun _=>True) v0_ r1∧Below w.heap.size w w':=by
 have hu61:=Tryd.underlying61;have HB:=A0_ (Below.refl w.heap.size w);unfold aQ.f at H;obtain ⟨t1,A2,H⟩:=o1_ H
 by_cases c1:a2=1
 case neg =>
  rw [if_neg c1] at H;obtain ⟨c1b0,c1b1⟩:=ef_ c1;obtain ⟨t5,A4,H⟩:=o1_ H
  by_cases c2:a0_1=true
  case neg =>
   obtain rfl:=bf_.mpr c2;rw [if_neg ft_] at H;simp only [sj_,pj_] at H;obtain ⟨rfl,rfl⟩:=H;go_enter Tryd.func56,Tryd.ntmps56
   try go_wp2_with (first|((with_reducible refine gd_ (N:=3) rfl ?_);refine bx_ 3 #[.int .i64 a0_0,.bool false] 61 ?_;intro gb1 hg w1 BK1 hb;have GW1:=ge_ hg am;have GE1:=GW1;replace HB:=hb_ hb am;clear hb hg;have hcz1:=c2_ BK1)|((with_reducible refine gc_ (f:=86) rfl ?_);refine gl_ 10 Tryd.func86 #[.agg #[.int .i64 a0_0,.bool false]] ?_;(with_reducible refine (bY.calls a0_0 false t1 _ A2.out).mono ?_);rintro e w2 ⟨rfl,hb⟩;refine ⟨_,rfl,?_⟩;replace BK1:=k1_ BK1 hb;replace HB:=hb_ hb ab;(try clear hb)))
   replace BK1:=A0_ (kd_ BK1.out);replace HB:=A0_ (bd_ HB.out)
   refine s2_ 13 [] BK1 aQ.tab4 aQ.bits4 (fun hHeld HT_ HW_=>?_)
   generalize w2.drew=w3 at BK1 HB hHeld ⊢
   refine pu_ 1 19 ?_
   refine pu_ 3 21 ?_
   refine tk_ 0 18 hHeld ?_
   refine tk_ 4 22 hHeld ?_
   refine on_ 2 (some 20) (fun K hK=>?_)
   refine gs_ Tryd.func87 #[.agg #[.int .i64 a0_0,.bool false],.int .u32 (Go.bits .andNot .u32 t1 a1)] ?_
   with_reducible refine (ac.calls k a0_0 false (Go.bits .andNot .u32 t1 a1) t5 _ A4.out).mono ?_
   rintro e w4 ⟨v1,rfl,ho0,hb⟩
   refine ⟨_,rfl,?_⟩
   have HO1:=A0_ (Kd.R_lower ho0 (bz_ ab));replace BK1:=k1_ BK1 hb;replace HB:=hb_ hb ab
   (try clear hb ho0)
   refine hK.out _ _ (c2_ BK1) (fun hHeld=>?_)
   clear hK K
   refine nm_ 20 ?_
   refine pu_ 5 23 ?_
   refine pv_ 6 24 ?_
   refine pv_ 7 25 ?_
   refine pv_ 8 26 ?_
   refine pv_ 9 27 ?_
   refine pu_ 10 28 ?_
   refine pu_ 11 6 ?_
   refine pu_ 12 7 ?_
   refine dn_ ?_
   try go_wp2
   go_ret2
   exact ⟨_,bc,bR,ab⟩
  subst c2;rw [if_pos rfl] at H;obtain ⟨t6,A6,H⟩:=o1_ H;replace H:(some (t5,((Go.bits .andNot .u32 t1 a1) == t6)))=some (r1,r2):=H;simp only [sj_,pj_] at H;obtain ⟨rfl,rfl⟩:=H;go_enter Tryd.func56,Tryd.ntmps56
  try go_wp2_with (first|((with_reducible refine gd_ (N:=3) rfl ?_);refine bx_ 3 #[.int .i64 a0_0,.bool true] 61 ?_;intro gb1 hg w1 BK1 hb;have GW1:=ge_ hg am;have GE1:=GW1;replace HB:=hb_ hb am;clear hb hg;have hcz1:=c2_ BK1)|((with_reducible refine gc_ (f:=86) rfl ?_);refine gl_ 10 Tryd.func86 #[.agg #[.int .i64 a0_0,.bool true]] ?_;(with_reducible refine (bY.calls a0_0 true t1 _ A2.out).mono ?_);rintro e w2 ⟨rfl,hb⟩;refine ⟨_,rfl,?_⟩;replace BK1:=k1_ BK1 hb;replace HB:=hb_ hb ab;(try clear hb)))
  replace BK1:=A0_ (kd_ BK1.out);replace HB:=A0_ (bd_ HB.out)
  refine s2_ 13 [] BK1 aQ.tab4 aQ.bits4 (fun hHeld HT_ HW_=>?_)
  generalize w2.drew=w3 at BK1 HB hHeld ⊢
  refine pu_ 1 19 ?_
  refine pu_ 3 21 ?_
  refine tk_ 0 18 hHeld ?_
  refine tk_ 4 22 hHeld ?_
  refine on_ 2 (some 20) (fun K hK=>?_)
  refine gs_ Tryd.func87 #[.agg #[.int .i64 a0_0,.bool true],.int .u32 (Go.bits .andNot .u32 t1 a1)] ?_
  with_reducible refine (ac.calls k a0_0 true (Go.bits .andNot .u32 t1 a1) t5 _ A4.out).mono ?_
  rintro e w4 ⟨v1,rfl,ho0,hb⟩
  refine ⟨_,rfl,?_⟩
  have HO1:=A0_ (Kd.R_lower ho0 (bz_ ab));replace BK1:=k1_ BK1 hb;replace HB:=hb_ hb ab
  (try clear hb ho0)
  refine hK.out _ _ (c2_ BK1) (fun hHeld=>?_)
  clear hK K
  refine nm_ 20 ?_
  refine pu_ 5 23 ?_
  refine pu_ 6 24 ?_
  refine tk_ 7 25 hHeld ?_
  refine on_ 8 (some 26) (fun K hK=>?_)
  refine gs_ Tryd.func86 #[.agg #[.int .i64 a0_0,.bool true]] ?_
  with_reducible refine (bY.calls a0_0 true t6 _ A6.out).mono ?_
  rintro e w5 ⟨rfl,hb⟩
  refine ⟨_,rfl,?_⟩
  replace HO1:=q1_ HO1 hb;replace BK1:=k1_ BK1 hb;replace HB:=hb_ hb ab
  (try clear hb)
  refine hK.out _ _ (c2_ BK1) (fun hHeld=>?_)
  clear hK K
  refine nm_ 26 ?_
  refine pu_ 9 27 ?_
  refine pu_ 10 28 ?_
  refine pu_ 11 6 ?_
  refine pu_ 12 7 ?_
  refine dn_ ?_
  try go_wp2
  go_ret2
  exact ⟨_,bc,bR,ab⟩
 rw [if_pos c1] at H;obtain ⟨c1b0,c1b1⟩:=et_ c1;clear c1;obtain ⟨t2,A4,H⟩:=o1_ H;obtain ⟨t3,A6,H⟩:=o1_ H
 by_cases c2:a0_1=true
 case neg =>
  obtain rfl:=bf_.mpr c2;rw [if_neg ft_] at H;simp only [sj_,pj_] at H;obtain ⟨rfl,rfl⟩:=H;go_enter Tryd.func56,Tryd.ntmps56
  try go_wp2_with (first|((with_reducible refine gd_ (N:=3) rfl ?_);refine bx_ 3 #[.int .i64 a0_0,.bool false] 61 ?_;intro gb1 hg w1 BK1 hb;have GW1:=ge_ hg am;have GE1:=GW1;replace HB:=hb_ hb am;clear hb hg;have hcz1:=c2_ BK1)|((with_reducible refine gc_ (f:=86) rfl ?_);refine gl_ 10 Tryd.func86 #[.agg #[.int .i64 a0_0,.bool false]] ?_;(with_reducible refine (bY.calls a0_0 false t1 _ A2.out).mono ?_);rintro e w2 ⟨rfl,hb⟩;refine ⟨_,rfl,?_⟩;replace BK1:=k1_ BK1 hb;replace HB:=hb_ hb ab;(try clear hb);have hcz2:=c2_ BK1)|((with_reducible refine gc_ (f:=77) rfl ?_);refine gl_ 17 Tryd.func77 #[.agg #[.int .i64 a0_0,.bool false],.int .u32 a1] ?_;(with_reducible refine (aN.calls k a0_0 false a1 t2 _ A4.out).mono ?_);rintro e w3 ⟨rfl,hb⟩;refine ⟨_,rfl,?_⟩;replace BK1:=k1_ BK1 hb;replace HB:=hb_ hb ab;(try clear hb)))
  replace BK1:=A0_ (kd_ BK1.out);replace HB:=A0_ (bd_ HB.out)
  refine s2_ 13 [] BK1 aQ.tab4 aQ.bits4 (fun hHeld HT_ HW_=>?_)
  generalize w3.drew=w4 at BK1 HB hHeld ⊢
  refine pu_ 1 19 ?_
  refine pu_ 3 21 ?_
  refine tk_ 0 18 hHeld ?_
  refine tk_ 4 22 hHeld ?_
  refine on_ 2 (some 20) (fun K hK=>?_)
  refine gs_ Tryd.func87 #[.agg #[.int .i64 a0_0,.bool false],.int .u32 t2] ?_
  with_reducible refine (ac.calls k a0_0 false t2 t3 _ A6.out).mono ?_
  rintro e w5 ⟨v1,rfl,ho0,hb⟩
  refine ⟨_,rfl,?_⟩
  have HO1:=A0_ (Kd.R_lower ho0 (bz_ ab));replace BK1:=k1_ BK1 hb;replace HB:=hb_ hb ab
  (try clear hb ho0)
  refine hK.out _ _ (c2_ BK1) (fun hHeld=>?_)
  clear hK K
  refine nm_ 20 ?_
  refine pu_ 5 23 ?_
  refine pv_ 6 24 ?_
  refine pv_ 7 25 ?_
  refine pv_ 8 26 ?_
  refine pv_ 9 27 ?_
  refine pu_ 10 28 ?_
  refine pu_ 11 6 ?_
  refine pu_ 12 7 ?_
  refine dn_ ?_
  try go_wp2
  go_ret2
  exact ⟨_,bc,bR,ab⟩
 subst c2;rw [if_pos rfl] at H;obtain ⟨t4,A8,H⟩:=o1_ H;replace H:(some (t3,(t2 == t4)))=some (r1,r2):=H;simp only [sj_,pj_] at H;obtain ⟨rfl,rfl⟩:=H;go_enter Tryd.func56,Tryd.ntmps56
 try go_wp2_with (first|((with_reducible refine gd_ (N:=3) rfl ?_);refine bx_ 3 #[.int .i64 a0_0,.bool true] 61 ?_;intro gb1 hg w1 BK1 hb;have GW1:=ge_ hg am;have GE1:=GW1;replace HB:=hb_ hb am;clear hb hg;have hcz1:=c2_ BK1)|((with_reducible refine gc_ (f:=86) rfl ?_);refine gl_ 10 Tryd.func86 #[.agg #[.int .i64 a0_0,.bool true]] ?_;(with_reducible refine (bY.calls a0_0 true t1 _ A2.out).mono ?_);rintro e w2 ⟨rfl,hb⟩;refine ⟨_,rfl,?_⟩;replace BK1:=k1_ BK1 hb;replace HB:=hb_ hb ab;(try clear hb);have hcz2:=c2_ BK1)|((with_reducible refine gc_ (f:=77) rfl ?_);refine gl_ 17 Tryd.func77 #[.agg #[.int .i64 a0_0,.bool true],.int .u32 a1] ?_;(with_reducible refine (aN.calls k a0_0 true a1 t2 _ A4.out).mono ?_);rintro e w3 ⟨rfl,hb⟩;refine ⟨_,rfl,?_⟩;replace BK1:=k1_ BK1 hb;replace HB:=hb_ hb ab;(try clear hb)))
 replace BK1:=A0_ (kd_ BK1.out);replace HB:=A0_ (bd_ HB.out)
 refine s2_ 13 [] BK1 aQ.tab4 aQ.bits4 (fun hHeld HT_ HW_=>?_)
 generalize w3.drew=w4 at BK1 HB hHeld ⊢
 refine pu_ 1 19 ?_
 refine pu_ 3 21 ?_
 refine tk_ 0 18 hHeld ?_
 refine tk_ 4 22 hHeld ?_
 refine on_ 2 (some 20) (fun K hK=>?_)
 refine gs_ Tryd.func87 #[.agg #[.int .i64 a0_0,.bool true],.int .u32 t2] ?_
 with_reducible refine (ac.calls k a0_0 true t2 t3 _ A6.out).mono ?_
 rintro e w5 ⟨v1,rfl,ho0,hb⟩
 refine ⟨_,rfl,?_⟩
 have HO1:=A0_ (Kd.R_lower ho0 (bz_ ab));replace BK1:=k1_ BK1 hb;replace HB:=hb_ hb ab
 (try clear hb ho0)
 refine hK.out _ _ (c2_ BK1) (fun hHeld=>?_)
 clear hK K
 refine nm_ 20 ?_
 refine pu_ 5 23 ?_
 refine pu_ 6 24 ?_
 refine tk_ 7 25 hHeld ?_
 refine on_ 8 (some 26) (fun K hK=>?_)
 refine gs_ Tryd.func86 #[.agg #[.int .i64 a0_0,.bool true]] ?_
 with_reducible refine (bY.calls a0_0 true t4 _ A8.out).mono ?_
 rintro e w6 ⟨rfl,hb⟩
 refine ⟨_,rfl,?_⟩
 replace HO1:=q1_ HO1 hb;replace BK1:=k1_ BK1 hb;replace HB:=hb_ hb ab
 (try clear hb)
 refine hK.out _ _ (c2_ BK1) (fun hHeld=>?_)
 clear hK K
 refine nm_ 26 ?_
 refine pu_ 9 27 ?_
 refine pu_ 10 28 ?_
 refine pu_ 11 6 ?_
 refine pu_ 12 7 ?_
 refine dn_ ?_
 try go_wp2
 go_ret2
 exact ⟨_,bc,bR,ab⟩

mutual
def an.l0:Nat→Int→List Int→Int→Option (List Int)
 | 0,_,_,_=>none
 | k+1,x0,x3,x11=>if x11<25 then (an.l1 k x0 x3 x11 0 x11 x11 0) else (some x3)
def an.l1:Nat→Int→List Int→Int→Int→Int→Int→Int→Option (List Int)
 | 0,_,_,_,_,_,_,_=>none
 | k+1,x0,x3,x4,x5,x11,x14,x15=>if x15<x14 then (if x0=1 then (if (mx 0 (wrap64 ((wrap64 (x4 - x15)) - 2))) ≥ 0 then (if 0≤(mx 0 (wrap64 (x15 - 1))) then (if (mx 0 (wrap64 (x15 - 1)))<(x3.length:Int) then (if 0≤(mx 0 (wrap64 ((wrap64 (x4 - x15)) - 2))) then (if (mx 0 (wrap64 ((wrap64 (x4 - x15)) - 2)))<(x3.length:Int) then (if 0≤(Go.bits .xor .i64 (rd x3 (mx 0 (wrap64 (x15 - 1)))) (rd x3 (mx 0 (wrap64 ((wrap64 (x4 - x15)) - 2))))) then (an.l1 k x0 x3 x4 (Go.bits .or .u32 x5 (shl .u32 1 (Go.bits .xor .i64 (rd x3 (mx 0 (wrap64 (x15 - 1)))) (rd x3 (mx 0 (wrap64 ((wrap64 (x4 - x15)) - 2))))))) x11 x14 (wrap64 (x15+1))) else (none)) else (none)) else (none)) else (none)) else (none)) else (an.l1 k x0 x3 x4 x5 x11 x14 (wrap64 (x15+1)))) else (if (wrap64 ((wrap64 (x4 - x15)) - 2)) ≥ 0 then (if 0≤x15 then (if x15<(x3.length:Int) then (if 0≤(wrap64 ((wrap64 (x4 - x15)) - 2)) then (if (wrap64 ((wrap64 (x4 - x15)) - 2))<(x3.length:Int) then (if 0≤(Go.bits .xor .i64 (rd x3 x15) (rd x3 (wrap64 ((wrap64 (x4 - x15)) - 2)))) then (an.l1 k x0 x3 x4 (Go.bits .or .u32 x5 (shl .u32 1 (Go.bits .xor .i64 (rd x3 x15) (rd x3 (wrap64 ((wrap64 (x4 - x15)) - 2)))))) x11 x14 (wrap64 (x15+1))) else (none)) else (none)) else (none)) else (none)) else (none)) else (an.l1 k x0 x3 x4 x5 x11 x14 (wrap64 (x15+1))))) else (an.l2 k x0 x3 x5 0 x11)
def an.l2:Nat→Int→List Int→Int→Int→Int→Option (List Int)
 | 0,_,_,_,_,_=>none
 | k+1,x0,x3,x5,x9,x11=>(bh.f x5 x9).bind fun t431=>(if t431=true then (an.l2 k x0 x3 x5 (wrap64 (x9+1)) x11) else (if x3.length<17592186044416 then (an.l0 k x0 (x3++[x9]) (wrap64 (x11+1))) else (none)))
end
def an.f (k:Nat) (a0:Int):Option (List Int):=an.l0 k a0 (([]:List Int)) 0
theorem an.mono_l:∀ k,(∀ y0 y1 y2,LeO (an.l0 k y0 y1 y2) (an.l0 (k+1) y0 y1 y2))∧(∀ y0 y1 y2 y3 y4 y5 y6,LeO (an.l1 k y0 y1 y2 y3 y4 y5 y6) (an.l1 (k+1) y0 y1 y2 y3 y4 y5 y6))∧(∀ y0 y1 y2 y3 y4,LeO (an.l2 k y0 y1 y2 y3 y4) (an.l2 (k+1) y0 y1 y2 y3 y4))
 | 0=>⟨fun _ _ _ r h=>by simp [an.l0] at h,fun _ _ _ _ _ _ _ r h=>by simp [an.l1] at h,fun _ _ _ _ _ r h=>by simp [an.l2] at h⟩
 | k+1=>by
  obtain ⟨ih0,ih1,ih2⟩:=an.mono_l k
  refine ⟨?_,?_,?_⟩
  ·intro y0 y1 y2
   unfold an.l0
   repeat' with_reducible first|exact ih0 ..|exact ih1 ..|exact ih2 ..|exact LeO.refl ..|exact LeO.none ..|refine LeO.ite ?_ ?_|refine LeO.bind ?_ (fun _=>?_)
  ·intro y0 y1 y2 y3 y4 y5 y6
   unfold an.l1
   repeat' with_reducible first|exact ih0 ..|exact ih1 ..|exact ih2 ..|exact LeO.refl ..|exact LeO.none ..|refine LeO.ite ?_ ?_|refine LeO.bind ?_ (fun _=>?_)
  ·intro y0 y1 y2 y3 y4
   unfold an.l2
   repeat' with_reducible first|exact ih0 ..|exact ih1 ..|exact ih2 ..|exact LeO.refl ..|exact LeO.none ..|refine LeO.ite ?_ ?_|refine LeO.bind ?_ (fun _=>?_)
theorem an.mono:∀ a0 k,LeO (an.f k a0) (an.f (k+1) a0):=by
 intro a0 k;obtain ⟨ih0,ih1,ih2⟩:=an.mono_l k;unfold an.f
 repeat' with_reducible first|exact ih0 ..|exact ih1 ..|exact ih2 ..|exact LeO.refl ..|exact LeO.none ..|refine LeO.ite ?_ ?_|refine LeO.bind ?_ (fun _=>?_)
theorem an.calls (k:Nat) (a0:Int) (r:List Int) (w:World) (H:an.f k a0=some r) :
  Calls Tryd.prog 83 #[.int .i64 a0] w fun e w'=>∃ v0_:Value,e=.returned (v0_)∧Kd.R (Kd.int .i64) 3 w' w.heap.size (fun _=>True) v0_ r∧Below w.heap.size w w':=by
 have HB:=A0_ (Below.refl w.heap.size w);unfold an.f at H;obtain ⟨y1,hy1⟩:∃ y_:List Int,y_=(([]:List Int)):=⟨_,rfl⟩;replace H:(an.l0 k a0 y1 0)=some r:=dp;have Ny1:=A0_ hy1;clear hy1;have H':=A0_ H;clear H;go_enter Tryd.func83,Tryd.ntmps83
 go_wp2_with (first|((with_reducible refine gd_ (N:=10) rfl ?_);refine Kd.R_lit (Kd.int .i64) _ 3 ?hg (N:=10) ?hd (xs:=([]:List Int)) (inner:=[]) (ok:=fun _=>True) (okp:=fun _=>True) ?hr ?hp (fun _ hk=>hk) trivial (Below.refl _ _) (Nat.le_refl _) bx ?_;(case hd=>rfl);(case hg=>rfl);(case hr=>go_simp;first|done|rfl);(case hp=>exact (bu.none _ _));intro v1 w1 ho3 hb hg_ hnew_;clear hg_ hnew_;(first|rw [← Ny1.out] at ho3|(simp only [Int.reduceToNat] at ho3;rw [← Ny1.out] at ho3));have HO1:=A0_ (Kd.R_lower ho3 (bz_ am));replace HB:=hb_ hb am;clear hb ho3))
 repeat (go_quiet (first|((with_reducible refine gd_ (N:=10) rfl ?_);refine Kd.R_lit (Kd.int .i64) _ 3 ?hg (N:=10) ?hd (xs:=([]:List Int)) (inner:=[]) (ok:=fun _=>True) (okp:=fun _=>True) ?hr ?hp (fun _ hk=>hk) trivial (Below.refl _ _) (Nat.le_refl _) bx ?_;(case hd=>rfl);(case hg=>rfl);(case hr=>go_simp;first|done|rfl);(case hp=>exact (bu.none _ _));intro v1 w1 ho3 hb hg_ hnew_;clear hg_ hnew_;(first|rw [← Ny1.out] at ho3|(simp only [Int.reduceToNat] at ho3;rw [← Ny1.out] at ho3));have HO1:=A0_ (Kd.R_lower ho3 (bz_ am));replace HB:=hb_ hb am;clear hb ho3));try go_wp2_with (first|((with_reducible refine gd_ (N:=10) rfl ?_);refine Kd.R_lit (Kd.int .i64) _ 3 ?hg (N:=10) ?hd (xs:=([]:List Int)) (inner:=[]) (ok:=fun _=>True) (okp:=fun _=>True) ?hr ?hp (fun _ hk=>hk) trivial (Below.refl _ _) (Nat.le_refl _) bx ?_;(case hd=>rfl);(case hg=>rfl);(case hr=>go_simp;first|done|rfl);(case hp=>exact (bu.none _ _));intro v1 w1 ho3 hb hg_ hnew_;clear hg_ hnew_;(first|rw [← Ny1.out] at ho3|(simp only [Int.reduceToNat] at ho3;rw [← Ny1.out] at ho3));have HO1:=A0_ (Kd.R_lower ho3 (bz_ am));replace HB:=hb_ hb am;clear hb ho3)))
 go_loopg [3,11] k (fun kq v2 v3 w'=>∃ (x3_1:List Int) (x11_1:Int),v3=.int .i64 x11_1∧Aside0 (an.l0 kq a0 x3_1 x11_1=some r)∧Aside0 (kq≤k)∧Aside0 (Kd.R (Kd.int .i64) 3 w' w.heap.size (fun _=>True) v2 x3_1)∧Aside0 (Below w.heap.size w w'))
 case atStart=>exact ⟨(y1),(0),aC,H',⟨Nat.le_refl _⟩,⟨bR⟩,⟨am⟩⟩
 clear H';obtain ⟨x3_1,x11_1,rfl,HA,HK1,HO_1,HB⟩:=hrel
 cases gk with|zero=>exact absurd HA.out (by simp [an.l0])|succ k1=>?_
 have H:=HA.out;clear HA;simp only [an.l0] at H
 by_cases c1:x11_1<25
 case neg =>
  rw [if_neg c1] at H;have c1b0:decide (x11_1<25)=false:=decide_eq_false c1;clear c1;obtain rfl:=si_ H
  go_wp2
  repeat (go_quiet (fail);try go_wp2)
  go_ret
  exact ⟨_,bc,aD,am⟩
 rw [if_pos c1] at H;have c1b0:decide (x11_1<25)=true:=dt_ c1;clear c1;have H':=A0_ H;clear H
 go_wp2
 repeat (go_quiet (fail);try go_wp2)
 go_loopg [5,15] k1 (fun kq v4 v5 w'=>∃ (x5_2:Int) (x15_2:Int),v4=.int .u32 x5_2∧v5=.int .i64 x15_2∧Aside0 (an.l1 kq a0 x3_1 x11_1 x5_2 x11_1 x11_1 x15_2=some r)∧Aside0 (kq≤k1)∧Aside0 (Kd.R (Kd.int .i64) 3 w' w.heap.size (fun _=>True) u3 x3_1)∧Aside0 (Below w.heap.size w w'))
 case atStart=>exact ⟨(0),(0),aC,aC,H',⟨Nat.le_refl _⟩,⟨aD⟩,⟨am⟩⟩
 clear H'
 try clear c1
 try clear c1b0
 obtain ⟨x5_2,x15_2,rfl,rfl,HA,HK2,HO_1,HB⟩:=hrel
 cases gk with|zero=>exact absurd HA.out (by simp [an.l1])|succ k2=>?_
 have H:=HA.out;clear HA;simp only [an.l1] at H
 by_cases c2:x15_2<x11_1
 case neg =>
  rw [if_neg c2] at H;have c2b0:decide (x15_2<x11_1)=false:=decide_eq_false c2;clear c2;have H':=A0_ H;clear H
  go_wp2
  repeat (go_quiet (fail);try go_wp2)
  go_loopg [9] k2 (fun kq v6 w'=>∃ (x9_3:Int),v6=.int .i64 x9_3∧Aside0 (an.l2 kq a0 x3_1 x5_2 x9_3 x11_1=some r)∧Aside0 (kq≤k2)∧Aside0 (Kd.R (Kd.int .i64) 3 w' w.heap.size (fun _=>True) u3 x3_1)∧Aside0 (Below w.heap.size w w'))
  case atStart=>exact ⟨(0),aC,H',⟨Nat.le_refl _⟩,⟨aD⟩,⟨am⟩⟩
  clear H'
  try clear c1
  try clear c1b0
  try clear c2
  try clear c2b0
  obtain ⟨x9_3,rfl,HA,HK3,HO_1,HB⟩:=hrel
  cases gk with|zero=>exact absurd HA.out (by simp [an.l2])|succ k3=>?_
  have H:=HA.out;clear HA;simp only [an.l2] at H;obtain ⟨t1,A2,H⟩:=o1_ H
  by_cases c3:t1=true
  ·subst c3
   rw [if_pos rfl] at H;have H':=A0_ H;clear H
   go_wp2_with (first|(go_at_call 78;(with_reducible refine (bh.calls x5_2 x9_3 true _ A2.out).mono ?_);rintro e w' ⟨rfl,⟨nd,rfl⟩⟩;(try first|exact ⟨rfl,_,World.drewN_drewN _ _ _⟩|exact ⟨rfl,_,Eq.trans (World.drewN_drewN _ _ _) (congrArg (World.drewN _) (Nat.add_assoc _ _ _))⟩)))
   repeat (go_quiet (first|(go_at_call 78;(with_reducible refine (bh.calls x5_2 x9_3 true _ A2.out).mono ?_);rintro e w' ⟨rfl,⟨nd,rfl⟩⟩;(try first|exact ⟨rfl,_,World.drewN_drewN _ _ _⟩|exact ⟨rfl,_,Eq.trans (World.drewN_drewN _ _ _) (congrArg (World.drewN _) (Nat.add_assoc _ _ _))⟩)));try go_wp2_with (first|(go_at_call 78;(with_reducible refine (bh.calls x5_2 x9_3 true _ A2.out).mono ?_);rintro e w' ⟨rfl,⟨nd,rfl⟩⟩;(try first|exact ⟨rfl,_,World.drewN_drewN _ _ _⟩|exact ⟨rfl,_,Eq.trans (World.drewN_drewN _ _ _) (congrArg (World.drewN _) (Nat.add_assoc _ _ _))⟩))))
   go_roundg k3
   case measure=>have:=HK1.out;have:=HK2.out;have:=HK3.out;omega
   exact ⟨(wrap64 (x9_3+1)),aC,H',⟨by have:=HK1.out;have:=HK2.out;have:=HK3.out;omega⟩,⟨aD⟩,⟨am⟩⟩
  obtain rfl:=bf_.mpr c3;rw [if_neg ft_] at H;obtain ⟨c4,H⟩:=is_ H;have LMc1:=A0_ c4;clear c4;obtain ⟨y2,hy2⟩:∃ y_:List Int,y_=(x3_1++[x9_3]):=⟨_,rfl⟩;replace H:(an.l0 k3 a0 y2 (wrap64 (x11_1+1)))=some r:=dO;have Ny2:=A0_ hy2;clear hy2;have H':=A0_ H;clear H
  go_wp2_with (first|(go_at_call 78;(with_reducible refine (bh.calls x5_2 x9_3 false _ A2.out).mono ?_);rintro e w' ⟨rfl,⟨nd,rfl⟩⟩;(try first|exact ⟨rfl,_,World.drewN_drewN _ _ _⟩|exact ⟨rfl,_,Eq.trans (World.drewN_drewN _ _ _) (congrArg (World.drewN _) (Nat.add_assoc _ _ _))⟩))|((with_reducible refine bO (b:=.append) (xs:=#[.tmp 53,.tmp 55]) rfl ?_);at_builtin;refine Kd.R_append (Kd.int .i64) (w0:=w) w.heap.size rfl (.tmp 53) (.tmp 55) 22 3 (.int .i64 0) 8 rfl Tryd.underlying22 cP rfl ao bL u3 x3_1 x9_3 [.int .i64 x9_3] (fun _=>True) (fun _=>False) rfl rfl ?aP (fun _ hk=>hk.elim) ?aF ?aO ?aB ?aS ?aL ?_;(case aP=>exact rfl);(case aB=>exact am);(case aF=>exact (fun _ _=>trivial));(case aO=>exact aD);(case aS=>exact (bz_ am));(case aL=>have:=LMc1.out;omega);intro v7 w2 ho hb hg hat;rw [← Ny2.out] at ho;have n0_:=A0_ (hb);have n1_:=A0_ (ho);clear HB HO_1;have HB:=n0_;have HO2:=n1_;clear n0_ n1_ ho hb hg hat))
  repeat (go_quiet (first|(go_at_call 78;(with_reducible refine (bh.calls x5_2 x9_3 false _ A2.out).mono ?_);rintro e w' ⟨rfl,⟨nd,rfl⟩⟩;(try first|exact ⟨rfl,_,World.drewN_drewN _ _ _⟩|exact ⟨rfl,_,Eq.trans (World.drewN_drewN _ _ _) (congrArg (World.drewN _) (Nat.add_assoc _ _ _))⟩))|((with_reducible refine bO (b:=.append) (xs:=#[.tmp 53,.tmp 55]) rfl ?_);at_builtin;refine Kd.R_append (Kd.int .i64) (w0:=w) w.heap.size rfl (.tmp 53) (.tmp 55) 22 3 (.int .i64 0) 8 rfl Tryd.underlying22 cP rfl ao bL u3 x3_1 x9_3 [.int .i64 x9_3] (fun _=>True) (fun _=>False) rfl rfl ?aP (fun _ hk=>hk.elim) ?aF ?aO ?aB ?aS ?aL ?_;(case aP=>exact rfl);(case aB=>exact am);(case aF=>exact (fun _ _=>trivial));(case aO=>exact aD);(case aS=>exact (bz_ am));(case aL=>have:=LMc1.out;omega);intro v7 w2 ho hb hg hat;rw [← Ny2.out] at ho;have n0_:=A0_ (hb);have n1_:=A0_ (ho);clear HB HO_1;have HB:=n0_;have HO2:=n1_;clear n0_ n1_ ho hb hg hat));try go_wp2_with (first|(go_at_call 78;(with_reducible refine (bh.calls x5_2 x9_3 false _ A2.out).mono ?_);rintro e w' ⟨rfl,⟨nd,rfl⟩⟩;(try first|exact ⟨rfl,_,World.drewN_drewN _ _ _⟩|exact ⟨rfl,_,Eq.trans (World.drewN_drewN _ _ _) (congrArg (World.drewN _) (Nat.add_assoc _ _ _))⟩))|((with_reducible refine bO (b:=.append) (xs:=#[.tmp 53,.tmp 55]) rfl ?_);at_builtin;refine Kd.R_append (Kd.int .i64) (w0:=w) w.heap.size rfl (.tmp 53) (.tmp 55) 22 3 (.int .i64 0) 8 rfl Tryd.underlying22 cP rfl ao bL u3 x3_1 x9_3 [.int .i64 x9_3] (fun _=>True) (fun _=>False) rfl rfl ?aP (fun _ hk=>hk.elim) ?aF ?aO ?aB ?aS ?aL ?_;(case aP=>exact rfl);(case aB=>exact am);(case aF=>exact (fun _ _=>trivial));(case aO=>exact aD);(case aS=>exact (bz_ am));(case aL=>have:=LMc1.out;omega);intro v7 w2 ho hb hg hat;rw [← Ny2.out] at ho;have n0_:=A0_ (hb);have n1_:=A0_ (ho);clear HB HO_1;have HB:=n0_;have HO2:=n1_;clear n0_ n1_ ho hb hg hat)))
  go_roundg k3
  case measure=>have:=HK1.out;have:=HK2.out;have:=HK3.out;omega
  exact ⟨(y2),(wrap64 (x11_1+1)),aC,H',⟨by have:=HK1.out;have:=HK2.out;have:=HK3.out;omega⟩,⟨cQ⟩,⟨am⟩⟩
 rw [if_pos c2] at H;have c2b0:decide (x15_2<x11_1)=true:=dt_ c2;clear c2
 by_cases c3:a0=1
 case neg =>
  rw [if_neg c3] at H;obtain ⟨c3b0,c3b1⟩:=ef_ c3
  by_cases c4:(wrap64 ((wrap64 (x11_1 - x15_2)) - 2)) ≥ 0
  case neg =>
   rw [if_neg c4] at H;have c4b0:decide (0≤(wrap64 ((wrap64 (x11_1 - x15_2)) - 2)))=false:=decide_eq_false c4;clear c4;have H':=A0_ H;clear H
   go_wp2
   repeat (go_quiet (fail);try go_wp2)
   go_roundg k2
   case measure=>have:=HK1.out;have:=HK2.out;omega
   exact ⟨(x5_2),(wrap64 (x15_2+1)),aC,aC,H',⟨gg⟩,⟨aD⟩,⟨am⟩⟩
  rw [if_pos c4] at H;have c4b0:decide (0≤(wrap64 ((wrap64 (x11_1 - x15_2)) - 2)))=true:=dt_ c4;clear c4;obtain ⟨c5b0,H⟩:=i1_ H;obtain ⟨c6b0,H⟩:=i1_ H;obtain ⟨ji1,hji1⟩:∃ j_:Int,(wrap64 ((wrap64 (x11_1 - x15_2)) - 2))=j_:=⟨_,rfl⟩;replace H:(if 0≤(ji1) then (if (ji1)<(x3_1.length:Int) then (if 0≤(Go.bits .xor .i64 (rd x3_1 x15_2) (rd x3_1 (ji1))) then (an.l1 k2 a0 x3_1 x11_1 (Go.bits .or .u32 x5_2 (shl .u32 1 (Go.bits .xor .i64 (rd x3_1 x15_2) (rd x3_1 (ji1))))) x11_1 x11_1 (wrap64 (x15_2+1))) else (none)) else (none)) else (none))=some r:=eY
  (try rw [hji1] at c4b0)
  have hji20w:(IntKind.i64.wrap ((wrap64 (x11_1 - x15_2)) - 2))=ji1:=(cH _).trans hji1;obtain ⟨c7b0,H⟩:=i1_ H;obtain ⟨c8b0,H⟩:=i1_ H;obtain ⟨c9b0,c9b1,H⟩:=i2_ H;obtain ⟨ji2,hji2⟩:∃ j_:Int,(shl .u32 1 (Go.bits .xor .i64 (rd x3_1 x15_2) (rd x3_1 (ji1))))=j_:=⟨_,rfl⟩;replace H:(an.l1 k2 a0 x3_1 x11_1 (Go.bits .or .u32 x5_2 (ji2)) x11_1 x11_1 (wrap64 (x15_2+1)))=some r:=lu;have hji2_:(IntKind.u32.wrap (1 * 2 ^ min (Go.bits .xor .i64 (rd x3_1 x15_2) (rd x3_1 (ji1))).toNat 32))=ji2:=hji2;have hji24z:(Go.bits .xor .i64 (rd x3_1 x15_2) (rd x3_1 (ji1)))≤32→(IntKind.u32.wrap (1 * 2 ^ (Go.bits .xor .i64 (rd x3_1 x15_2) (rd x3_1 (ji1))).toNat))=ji2:=dB hji2
  have hji24u:(IntKind.u32.wrap (2 ^ min (Go.bits .xor .i64 (rd x3_1 x15_2) (rd x3_1 (ji1))).toNat 32))=ji2:=by have h_:=hji2_;rw [Int.one_mul] at h_;exact h_
  have hji24v:(Go.bits .xor .i64 (rd x3_1 x15_2) (rd x3_1 (ji1)))≤32→(IntKind.u32.wrap (2 ^ (Go.bits .xor .i64 (rd x3_1 x15_2) (rd x3_1 (ji1))).toNat))=ji2:=fun hle_=>by have h_:=hji24z hle_;rw [Int.one_mul] at h_;exact h_
  have H':=A0_ H;clear H;obtain ⟨Ao1,co1,eo1⟩:=Kd.R_slice HO_1.out;subst eo1;have p1:0≤(x15_2:Int):=od_ aE;have q1:x15_2<(x3_1.length:Int):=od_ aE;obtain ⟨ad1,e1,hx1_0⟩:=Kd.at_int (rr_ HO_1.out).2.2 x15_2 p1 q1;cases e1;replace p1:=eq_true p1;replace q1:=eq_true q1;have p2:0≤((ji1):Int):=od_ aE;have q2:(ji1)<(x3_1.length:Int):=od_ aE;obtain ⟨ad2,e2,hx2_0⟩:=Kd.at_int (rr_ HO_1.out).2.2 (ji1) p2 q2;obtain rfl:ad1=ad2:=e5;replace p2:=eq_true p2;replace q2:=eq_true q2
  go_wp2
  repeat (go_quiet (fail);try go_wp2)
  go_roundg k2
  case measure=>have:=HK1.out;have:=HK2.out;omega
  exact ⟨(Go.bits .or .u32 x5_2 (ji2)),(wrap64 (x15_2+1)),(by first|rfl|(simp;done)|(simp only [← hji2] <;> (first|rfl|simp))|(simp [*];done)),aC,H',⟨gg⟩,⟨aD⟩,⟨am⟩⟩
 rw [if_pos c3] at H;obtain ⟨c3b0,c3b1⟩:=et_ c3;clear c3;obtain ⟨ji1,hji1⟩:∃ j_:Int,(mx 0 (wrap64 (x15_2 - 1)))=j_:=⟨_,rfl⟩;replace H:(if (mx 0 (wrap64 ((wrap64 (x11_1 - x15_2)) - 2))) ≥ 0 then (if 0≤(ji1) then (if (ji1)<(x3_1.length:Int) then (if 0≤(mx 0 (wrap64 ((wrap64 (x11_1 - x15_2)) - 2))) then (if (mx 0 (wrap64 ((wrap64 (x11_1 - x15_2)) - 2)))<(x3_1.length:Int) then (if 0≤(Go.bits .xor .i64 (rd x3_1 (ji1)) (rd x3_1 (mx 0 (wrap64 ((wrap64 (x11_1 - x15_2)) - 2))))) then (an.l1 k2 a0 x3_1 x11_1 (Go.bits .or .u32 x5_2 (shl .u32 1 (Go.bits .xor .i64 (rd x3_1 (ji1)) (rd x3_1 (mx 0 (wrap64 ((wrap64 (x11_1 - x15_2)) - 2))))))) x11_1 x11_1 (wrap64 (x15_2+1))) else (none)) else (none)) else (none)) else (none)) else (none)) else (an.l1 k2 a0 x3_1 x11_1 x5_2 x11_1 x11_1 (wrap64 (x15_2+1))))=some r:=eY;have hji1_:(if 0<(wrap64 (x15_2 - 1)) then (wrap64 (x15_2 - 1)) else 0)=ji1:=hji1;obtain ⟨ji2,hji2⟩:∃ j_:Int,(mx 0 (wrap64 ((wrap64 (x11_1 - x15_2)) - 2)))=j_:=⟨_,rfl⟩;replace H:(if (ji2) ≥ 0 then (if 0≤(ji1) then (if (ji1)<(x3_1.length:Int) then (if 0≤(ji2) then (if (ji2)<(x3_1.length:Int) then (if 0≤(Go.bits .xor .i64 (rd x3_1 (ji1)) (rd x3_1 (ji2))) then (an.l1 k2 a0 x3_1 x11_1 (Go.bits .or .u32 x5_2 (shl .u32 1 (Go.bits .xor .i64 (rd x3_1 (ji1)) (rd x3_1 (ji2))))) x11_1 x11_1 (wrap64 (x15_2+1))) else (none)) else (none)) else (none)) else (none)) else (none)) else (an.l1 k2 a0 x3_1 x11_1 x5_2 x11_1 x11_1 (wrap64 (x15_2+1))))=some r:=lu;have hji2_:(if 0<(wrap64 ((wrap64 (x11_1 - x15_2)) - 2)) then (wrap64 ((wrap64 (x11_1 - x15_2)) - 2)) else 0)=ji2:=hji2
 by_cases c4:(ji2) ≥ 0
 case neg =>
  rw [if_neg c4] at H;have c4b0:decide (0≤(ji2))=false:=decide_eq_false c4;clear c4;have H':=A0_ H;clear H
  go_wp2
  repeat (go_quiet (fail);try go_wp2)
  go_roundg k2
  case measure=>have:=HK1.out;have:=HK2.out;omega
  exact ⟨(x5_2),(wrap64 (x15_2+1)),aC,aC,H',⟨gg⟩,⟨aD⟩,⟨am⟩⟩
 rw [if_pos c4] at H;have c4b0:decide (0≤(ji2))=true:=dt_ c4;clear c4;obtain ⟨c5b0,H⟩:=i1_ H;obtain ⟨c6b0,H⟩:=i1_ H;obtain ⟨c7b0,H⟩:=i1_ H;obtain ⟨c8b0,H⟩:=i1_ H;obtain ⟨c9b0,c9b1,H⟩:=i2_ H;obtain ⟨ji3,hji3⟩:∃ j_:Int,(shl .u32 1 (Go.bits .xor .i64 (rd x3_1 (ji1)) (rd x3_1 (ji2))))=j_:=⟨_,rfl⟩
 replace H:(an.l1 k2 a0 x3_1 x11_1 (Go.bits .or .u32 x5_2 (ji3)) x11_1 x11_1 (wrap64 (x15_2+1)))=some r:=by first|(rw [hji3] at H;exact H)|(simp only [hji3] at H ⊢;exact H)
 have hji3_:(IntKind.u32.wrap (1 * 2 ^ min (Go.bits .xor .i64 (rd x3_1 (ji1)) (rd x3_1 (ji2))).toNat 32))=ji3:=hji3;have hji15z:(Go.bits .xor .i64 (rd x3_1 (ji1)) (rd x3_1 (ji2)))≤32→(IntKind.u32.wrap (1 * 2 ^ (Go.bits .xor .i64 (rd x3_1 (ji1)) (rd x3_1 (ji2))).toNat))=ji3:=dB hji3
 have hji15u:(IntKind.u32.wrap (2 ^ min (Go.bits .xor .i64 (rd x3_1 (ji1)) (rd x3_1 (ji2))).toNat 32))=ji3:=by have h_:=hji3_;rw [Int.one_mul] at h_;exact h_
 have hji15v:(Go.bits .xor .i64 (rd x3_1 (ji1)) (rd x3_1 (ji2)))≤32→(IntKind.u32.wrap (2 ^ (Go.bits .xor .i64 (rd x3_1 (ji1)) (rd x3_1 (ji2))).toNat))=ji3:=fun hle_=>by have h_:=hji15z hle_;rw [Int.one_mul] at h_;exact h_
 have H':=A0_ H;clear H;obtain ⟨Ao1,co1,eo1⟩:=Kd.R_slice HO_1.out;subst eo1;have p1:0≤((ji1):Int):=od_ aE;have q1:(ji1)<(x3_1.length:Int):=od_ aE;obtain ⟨ad1,e1,hx1_0⟩:=Kd.at_int (rr_ HO_1.out).2.2 (ji1) p1 q1;cases e1;replace p1:=eq_true p1;replace q1:=eq_true q1;have p2:0≤((ji2):Int):=od_ aE;have q2:(ji2)<(x3_1.length:Int):=od_ aE;obtain ⟨ad2,e2,hx2_0⟩:=Kd.at_int (rr_ HO_1.out).2.2 (ji2) p2 q2;obtain rfl:ad1=ad2:=e5;replace p2:=eq_true p2;replace q2:=eq_true q2
 go_wp2
 repeat (go_quiet (fail);try go_wp2)
 go_roundg k2
 case measure=>have:=HK1.out;have:=HK2.out;omega
 exact ⟨(Go.bits .or .u32 x5_2 (ji3)),(wrap64 (x15_2+1)),(by first|rfl|(simp;done)|(simp only [← hji3] <;> (first|rfl|simp))|(simp [*];done)),aC,H',⟨gg⟩,⟨aD⟩,⟨am⟩⟩

def aV.l0:Nat→List Int→Int→List (S72)→Int→Int→Option (Int)
 | 0,_,_,_,_,_=>none
 | k+1,x7,x11,x37,x38,x39=>if x39<x38 then (if 0≤x39 then (if x39<(x37.length:Int) then (if 0≤((ci x37 x39).f1) then (if ((ci x37 x39).f1)<(x7.length:Int) then (aV.l0 k x7 (Go.bits .xor .i64 x11 (rd x7 ((ci x37 x39).f1))) x37 x38 (wrap64 (x39+1))) else (none)) else (none)) else (none)) else (none)) else (some x11)
def aV.f (k:Nat) (a0_0:Int) (a0_1:Bool) (a1:Int) (a2:Int):Option (Int):=(an.f k a2).bind fun t436=>((aQ.f k a0_0 a0_1 a1 a2).bind fun bt439=>(if bt439.2=true then (if a2=1 then (if 0≤(wrap64 (a0_0 - 3)) then (if (wrap64 (a0_0 - 3))<(t436.length:Int) then (if (rd t436 (wrap64 (a0_0 - 3)))=0 then (some 1) else (some 0)) else (none)) else (none)) else (if 0≤(wrap64 (a0_0 - 2)) then (if (wrap64 (a0_0 - 2))<(t436.length:Int) then (if (rd t436 (wrap64 (a0_0 - 2)))=0 then (some 1) else (some 0)) else (none)) else (none))) else (aV.l0 k t436 0 bt439.1 (bt439.1.length:Int) 0)))
theorem aV.mono_l:∀ k,(∀ y0 y1 y2 y3 y4,LeO (aV.l0 k y0 y1 y2 y3 y4) (aV.l0 (k+1) y0 y1 y2 y3 y4))
 | 0=>fun _ _ _ _ _ r h=>by simp [aV.l0] at h
 | k+1=>by
  have ih0:=aV.mono_l k
  ·intro y0 y1 y2 y3 y4
   unfold aV.l0
   repeat' with_reducible first|exact ih0 ..|exact aQ.mono ..|exact an.mono ..|exact LeO.refl ..|exact LeO.none ..|refine LeO.ite ?_ ?_|refine LeO.bind ?_ (fun _=>?_)
theorem aV.mono:∀ a0 a1 a2 a3 k,LeO (aV.f k a0 a1 a2 a3) (aV.f (k+1) a0 a1 a2 a3):=by
 intro a0 a1 a2 a3 k;have ih0:=aV.mono_l k;unfold aV.f
 repeat' with_reducible first|exact ih0 ..|exact aQ.mono ..|exact an.mono ..|exact LeO.refl ..|exact LeO.none ..|refine LeO.ite ?_ ?_|refine LeO.bind ?_ (fun _=>?_)
theorem aV.calls (k:Nat) (a0_0:Int) (a0_1:Bool) (a1:Int) (a2:Int) (r:Int) (w:World) (H:aV.f k a0_0 a0_1 a1 a2=some r) :
  Calls Tryd.prog 52 #[.agg #[.int .i64 a0_0,.bool a0_1],.int .u32 a1,.int .i64 a2] w fun e w'=>e=.returned (.int .i64 r)∧Below w.heap.size w w':=by
 have hu61:=Tryd.underlying61;have hu72:=Tryd.underlying72;have HB:=A0_ (Below.refl w.heap.size w);unfold aV.f at H;obtain ⟨t1,A2,H⟩:=o1_ H;obtain ⟨⟨t2,t3⟩,A4,H⟩:=o1_ H
 by_cases c1:t3=true
 case neg =>
  obtain rfl:=bf_.mpr c1;rw [if_neg ft_] at H;have H':=A0_ H;clear H;go_enter Tryd.func52,Tryd.ntmps52
  go_wp2_with (first|((with_reducible refine gd_ (N:=3) rfl ?_);refine bx_ 3 #[.int .i64 a0_0,.bool a0_1] 61 ?_;intro gb1 hg w1 BK1 hb;have GW1:=ge_ hg am;have GE1:=GW1;replace HB:=hb_ hb am;clear hb hg)|((with_reducible refine gc_ (f:=83) rfl ?_);refine gl_ 15 Tryd.func83 #[.int .i64 a2] ?_;(with_reducible refine (an.calls k a2 t1 _ A2.out).mono ?_);rintro e w2 ⟨v1,rfl,ho0,hb⟩;refine ⟨_,rfl,?_⟩;have HO1:=A0_ (Kd.R_lower ho0 (bz_ ab));replace BK1:=k1_ BK1 hb;replace HB:=hb_ hb ab;(try clear hb ho0);have hcz1:=z2_ BK1)|((with_reducible refine gc_ (f:=56) rfl ?_);refine gl_ 20 Tryd.func56 #[.agg #[.int .i64 a0_0,.bool a0_1],.int .u32 a1,.int .i64 a2] ?_;(with_reducible refine (aQ.calls k a0_0 a0_1 a1 a2 t2 false _ A4.out).mono ?_);rintro e w3 ⟨v2,rfl,ho0,hb⟩;refine ⟨_,rfl,?_⟩;replace HO1:=q1_ HO1 hb;have HO2:=A0_ (Kd.R_lower ho0 (bz_ ab));replace BK1:=k1_ BK1 hb;replace HB:=hb_ hb ab;(try clear hb ho0);obtain ⟨Ao1,co1,eo1⟩:=Kd.R_slice HO2.out;subst eo1))
  go_loopg [11,39] k (fun kq v3 v4 w'=>∃ (x11_1:Int) (x39_1:Int),v3=.int .i64 x11_1∧v4=.int .i64 x39_1∧Aside0 (aV.l0 kq t1 x11_1 t2 (t2.length:Int) x39_1=some r)∧Aside0 (kq≤k)∧Aside0 (Kd.R (Kd.int .i64) 3 w' w.heap.size (fun _=>True) v1 t1)∧Aside0 (Kd.R k72 72 w' w.heap.size (fun _=>True) (.slice Ao1 t2.length co1) t2)∧Aside0 (w'.heap[gb1]?=some (.cells #[.int .i64 a0_0,.bool a0_1] 61 (0,0)))∧Aside0 (Below w.heap.size w w'))
  case atStart=>exact ⟨(0),(0),aC,aC,H',⟨Nat.le_refl _⟩,⟨bR⟩,⟨cQ⟩,⟨u1_ BK1⟩,⟨ab⟩⟩
  clear H'
  try clear c1
  (try clear hcz1);(try clear hfz1)
  obtain ⟨x11_1,x39_1,rfl,rfl,HA,HK1,HO_1,HO_2,BK1,HB⟩:=hrel
  cases gk with|zero=>exact absurd HA.out (by simp [aV.l0])|succ k1=>?_
  have H:=HA.out;clear HA;simp only [aV.l0] at H
  by_cases c2:x39_1<(t2.length:Int)
  case neg =>
   rw [if_neg c2] at H;have c2b0:decide (x39_1<(t2.length:Int))=false:=decide_eq_false c2;clear c2;obtain rfl:=si_ H
   go_wp2
   go_ret
   exact ⟨bc,ab⟩
  rw [if_pos c2] at H;have c2b0:decide (x39_1<(t2.length:Int))=true:=dt_ c2;clear c2;obtain ⟨c3b0,H⟩:=i1_ H;obtain ⟨c4b0,H⟩:=i1_ H;obtain ⟨c5b0,H⟩:=i1_ H;obtain ⟨c6b0,H⟩:=i1_ H;have H':=A0_ H;clear H;have p1:0≤(x39_1:Int):=od_ aE;have q1:x39_1<(t2.length:Int):=od_ aE;obtain ⟨ad1,e1,hx1_0,hx1_1⟩:=gT (rr_ HO_2.out).2.2 x39_1 p1 q1;cases e1;replace p1:=eq_true p1;replace q1:=eq_true q1
  go_wp2_with (first|((with_reducible refine gd_ (N:=13) rfl ?_);refine bx_ 13 #[.int .i64 0,.int .i64 0] 72 ?_;intro gb2 hg w4 BK2 hb;replace HO_1:=q1_ HO_1 hb;replace HO_2:=A0_ (Kd.R_below (Kd.R_elderB bW gb2 (Nat.le_of_eq hg.symm)) hb);have GW2:=ge_ hg ab;have GE2:=GW2;replace HB:=hb_ hb ab;obtain ⟨NB1_2,NB2_1⟩:=nn_ hg BK1;replace BK1:=k1_ BK1 hb;clear hb hg;obtain ⟨hnb1,hnc1⟩:=n2_ NB2_1;have hcz2:=z2_ BK2;obtain ⟨Ao2,co2,eo2⟩:=Kd.R_slice HO_1.out;subst eo2;have p2:0≤(((ci t2 x39_1).f1):Int):=od_ aE;have q2:((ci t2 x39_1).f1)<(t1.length:Int):=od_ aE;obtain ⟨ad2,e2,hx2_0⟩:=Kd.at_int (rr_ HO_1.out).2.2 ((ci t2 x39_1).f1) p2 q2;cases e2;have hn447_0:ad2.block≠gb2:=Kd.own_blk (Kd.R_ne HO_1.out BK2.out ao);have hn447_1:ad2.block≠gb2:=Kd.own_blk (Kd.R_ne HO_1.out BK2.out ao);replace hx2_0:=(av (p:=⟨gb2,0,none⟩) (by first|(rw [dd];exact hn447_0)|(show (Addr.add _ _).block≠_;rw [dd];exact hn447_0)|exact hn447_0) (.int .i64 ((ci t2 x39_1).f0))).trans hx2_0;replace hx2_0:=(av (p:=⟨gb2,1,none⟩) (by first|(rw [dd];exact hn447_1)|(show (Addr.add _ _).block≠_;rw [dd];exact hn447_1)|exact hn447_1) (.int .i64 ((ci t2 x39_1).f1))).trans hx2_0;clear hn447_0 hn447_1;replace p2:=eq_true p2;replace q2:=eq_true q2))
  go_roundg k1
  case measure=>have:=HK1.out;omega
  exact ⟨(Go.bits .xor .i64 x11_1 (rd t1 ((ci t2 x39_1).f1))),(wrap64 (x39_1+1)),aC,aC,H',⟨de⟩,⟨by (with_reducible repeat (first|apply ra_|apply rn_|apply rd_));exact Kd.R_mono (rf_ (rf_ (Kd.R_types HO_1.out BK2.out ao) (fun _ hk=>hk.2) (.int .i64 ((ci t2 x39_1).f0))) (fun _ hk=>hk.2) (.int .i64 ((ci t2 x39_1).f1))) (fun _ hk=>trivial)⟩,⟨by (with_reducible repeat (first|apply ra_|apply rn_|apply rd_));exact Kd.R_mono (rf_ (rf_ (Kd.R_mono HO_2.out (fun k_ hk=>(⟨hk,hk.2⟩:_∧k_≠gb2))) (fun _ hk=>hk.2) (.int .i64 ((ci t2 x39_1).f0))) (fun _ hk=>hk.2) (.int .i64 ((ci t2 x39_1).f1))) (fun _ hk=>trivial)⟩,⟨u1_ BK1⟩,⟨aY⟩⟩
 subst c1;rw [if_pos rfl] at H
 by_cases c2:a2=1
 case neg =>
  rw [if_neg c2] at H;obtain ⟨c2b0,c2b1⟩:=ef_ c2;obtain ⟨ji1,hji1⟩:∃ j_:Int,(wrap64 (a0_0 - 2))=j_:=⟨_,rfl⟩;replace H:(if 0≤(ji1) then (if (ji1)<(t1.length:Int) then (if (rd t1 (ji1))=0 then (some 1) else (some 0)) else (none)) else (none))=some r:=eY
  (try rw [hji1] at A2)
  (try rw [hji1] at A4)
  have hji24w:(IntKind.i64.wrap (a0_0 - 2))=ji1:=(cH _).trans hji1;obtain ⟨c3b0,H⟩:=i1_ H;obtain ⟨c4b0,H⟩:=i1_ H
  by_cases c5:(rd t1 (ji1))=0
  case neg =>
   rw [if_neg c5] at H;obtain ⟨c5b0,c5b1⟩:=ef_ c5;obtain rfl:=si_ H;go_enter Tryd.func52,Tryd.ntmps52
   go_wp2_with (first|((with_reducible refine gd_ (N:=3) rfl ?_);refine bx_ 3 #[.int .i64 a0_0,.bool a0_1] 61 ?_;intro gb1 hg w1 BK1 hb;have GW1:=ge_ hg am;have GE1:=GW1;replace HB:=hb_ hb am;clear hb hg)|((with_reducible refine gc_ (f:=83) rfl ?_);refine gl_ 15 Tryd.func83 #[.int .i64 a2] ?_;(with_reducible refine (an.calls k a2 t1 _ A2.out).mono ?_);rintro e w2 ⟨v1,rfl,ho0,hb⟩;refine ⟨_,rfl,?_⟩;have HO1:=A0_ (Kd.R_lower ho0 (bz_ ab));replace BK1:=k1_ BK1 hb;replace HB:=hb_ hb ab;(try clear hb ho0);have hcz1:=z2_ BK1)|((with_reducible refine gc_ (f:=56) rfl ?_);refine gl_ 20 Tryd.func56 #[.agg #[.int .i64 a0_0,.bool a0_1],.int .u32 a1,.int .i64 a2] ?_;(with_reducible refine (aQ.calls k a0_0 a0_1 a1 a2 t2 true _ A4.out).mono ?_);rintro e w3 ⟨v2,rfl,ho0,hb⟩;refine ⟨_,rfl,?_⟩;replace HO1:=q1_ HO1 hb;have HO2:=A0_ (Kd.R_lower ho0 (bz_ ab));replace BK1:=k1_ BK1 hb;replace HB:=hb_ hb ab;(try clear hb ho0);have hcz2:=z2_ BK1;obtain ⟨Ao1,co1,eo1⟩:=Kd.R_slice HO1.out;subst eo1;have p1:0≤((ji1):Int):=od_ aE;have q1:(ji1)<(t1.length:Int):=od_ aE;obtain ⟨ad1,e1,hx1_0⟩:=Kd.at_int (rr_ HO1.out).2.2 (ji1) p1 q1;cases e1;replace p1:=eq_true p1;replace q1:=eq_true q1))
   go_ret
   exact ⟨iX,ab⟩
  rw [if_pos c5] at H;obtain ⟨c5b0,c5b1⟩:=et_ c5;clear c5;obtain rfl:=si_ H;go_enter Tryd.func52,Tryd.ntmps52
  go_wp2_with (first|((with_reducible refine gd_ (N:=3) rfl ?_);refine bx_ 3 #[.int .i64 a0_0,.bool a0_1] 61 ?_;intro gb1 hg w1 BK1 hb;have GW1:=ge_ hg am;have GE1:=GW1;replace HB:=hb_ hb am;clear hb hg)|((with_reducible refine gc_ (f:=83) rfl ?_);refine gl_ 15 Tryd.func83 #[.int .i64 a2] ?_;(with_reducible refine (an.calls k a2 t1 _ A2.out).mono ?_);rintro e w2 ⟨v1,rfl,ho0,hb⟩;refine ⟨_,rfl,?_⟩;have HO1:=A0_ (Kd.R_lower ho0 (bz_ ab));replace BK1:=k1_ BK1 hb;replace HB:=hb_ hb ab;(try clear hb ho0);have hcz1:=z2_ BK1)|((with_reducible refine gc_ (f:=56) rfl ?_);refine gl_ 20 Tryd.func56 #[.agg #[.int .i64 a0_0,.bool a0_1],.int .u32 a1,.int .i64 a2] ?_;(with_reducible refine (aQ.calls k a0_0 a0_1 a1 a2 t2 true _ A4.out).mono ?_);rintro e w3 ⟨v2,rfl,ho0,hb⟩;refine ⟨_,rfl,?_⟩;replace HO1:=q1_ HO1 hb;have HO2:=A0_ (Kd.R_lower ho0 (bz_ ab));replace BK1:=k1_ BK1 hb;replace HB:=hb_ hb ab;(try clear hb ho0);have hcz2:=z2_ BK1;obtain ⟨Ao1,co1,eo1⟩:=Kd.R_slice HO1.out;subst eo1;have p1:0≤((ji1):Int):=od_ aE;have q1:(ji1)<(t1.length:Int):=od_ aE;obtain ⟨ad1,e1,hx1_0⟩:=Kd.at_int (rr_ HO1.out).2.2 (ji1) p1 q1;cases e1;replace p1:=eq_true p1;replace q1:=eq_true q1))
  go_ret
  exact ⟨iX,ab⟩
 rw [if_pos c2] at H;obtain ⟨c2b0,c2b1⟩:=et_ c2;clear c2;obtain ⟨ji1,hji1⟩:∃ j_:Int,(wrap64 (a0_0 - 3))=j_:=⟨_,rfl⟩;replace H:(if 0≤(ji1) then (if (ji1)<(t1.length:Int) then (if (rd t1 (ji1))=0 then (some 1) else (some 0)) else (none)) else (none))=some r:=eY
 (try rw [hji1] at A2)
 (try rw [hji1] at A4)
 have hji8w:(IntKind.i64.wrap (a0_0 - 3))=ji1:=(cH _).trans hji1;obtain ⟨c3b0,H⟩:=i1_ H;obtain ⟨c4b0,H⟩:=i1_ H
 by_cases c5:(rd t1 (ji1))=0
 case neg =>
  rw [if_neg c5] at H;obtain ⟨c5b0,c5b1⟩:=ef_ c5;obtain rfl:=si_ H;go_enter Tryd.func52,Tryd.ntmps52
  go_wp2_with (first|((with_reducible refine gd_ (N:=3) rfl ?_);refine bx_ 3 #[.int .i64 a0_0,.bool a0_1] 61 ?_;intro gb1 hg w1 BK1 hb;have GW1:=ge_ hg am;have GE1:=GW1;replace HB:=hb_ hb am;clear hb hg)|((with_reducible refine gc_ (f:=83) rfl ?_);refine gl_ 15 Tryd.func83 #[.int .i64 a2] ?_;(with_reducible refine (an.calls k a2 t1 _ A2.out).mono ?_);rintro e w2 ⟨v1,rfl,ho0,hb⟩;refine ⟨_,rfl,?_⟩;have HO1:=A0_ (Kd.R_lower ho0 (bz_ ab));replace BK1:=k1_ BK1 hb;replace HB:=hb_ hb ab;(try clear hb ho0);have hcz1:=z2_ BK1)|((with_reducible refine gc_ (f:=56) rfl ?_);refine gl_ 20 Tryd.func56 #[.agg #[.int .i64 a0_0,.bool a0_1],.int .u32 a1,.int .i64 a2] ?_;(with_reducible refine (aQ.calls k a0_0 a0_1 a1 a2 t2 true _ A4.out).mono ?_);rintro e w3 ⟨v2,rfl,ho0,hb⟩;refine ⟨_,rfl,?_⟩;replace HO1:=q1_ HO1 hb;have HO2:=A0_ (Kd.R_lower ho0 (bz_ ab));replace BK1:=k1_ BK1 hb;replace HB:=hb_ hb ab;(try clear hb ho0);have hcz2:=z2_ BK1;obtain ⟨Ao1,co1,eo1⟩:=Kd.R_slice HO1.out;subst eo1;have p1:0≤((ji1):Int):=od_ aE;have q1:(ji1)<(t1.length:Int):=od_ aE;obtain ⟨ad1,e1,hx1_0⟩:=Kd.at_int (rr_ HO1.out).2.2 (ji1) p1 q1;cases e1;replace p1:=eq_true p1;replace q1:=eq_true q1))
  go_ret
  exact ⟨iX,ab⟩
 rw [if_pos c5] at H;obtain ⟨c5b0,c5b1⟩:=et_ c5;clear c5;obtain rfl:=si_ H;go_enter Tryd.func52,Tryd.ntmps52
 go_wp2_with (first|((with_reducible refine gd_ (N:=3) rfl ?_);refine bx_ 3 #[.int .i64 a0_0,.bool a0_1] 61 ?_;intro gb1 hg w1 BK1 hb;have GW1:=ge_ hg am;have GE1:=GW1;replace HB:=hb_ hb am;clear hb hg)|((with_reducible refine gc_ (f:=83) rfl ?_);refine gl_ 15 Tryd.func83 #[.int .i64 a2] ?_;(with_reducible refine (an.calls k a2 t1 _ A2.out).mono ?_);rintro e w2 ⟨v1,rfl,ho0,hb⟩;refine ⟨_,rfl,?_⟩;have HO1:=A0_ (Kd.R_lower ho0 (bz_ ab));replace BK1:=k1_ BK1 hb;replace HB:=hb_ hb ab;(try clear hb ho0);have hcz1:=z2_ BK1)|((with_reducible refine gc_ (f:=56) rfl ?_);refine gl_ 20 Tryd.func56 #[.agg #[.int .i64 a0_0,.bool a0_1],.int .u32 a1,.int .i64 a2] ?_;(with_reducible refine (aQ.calls k a0_0 a0_1 a1 a2 t2 true _ A4.out).mono ?_);rintro e w3 ⟨v2,rfl,ho0,hb⟩;refine ⟨_,rfl,?_⟩;replace HO1:=q1_ HO1 hb;have HO2:=A0_ (Kd.R_lower ho0 (bz_ ab));replace BK1:=k1_ BK1 hb;replace HB:=hb_ hb ab;(try clear hb ho0);have hcz2:=z2_ BK1;obtain ⟨Ao1,co1,eo1⟩:=Kd.R_slice HO1.out;subst eo1;have p1:0≤((ji1):Int):=od_ aE;have q1:(ji1)<(t1.length:Int):=od_ aE;obtain ⟨ad1,e1,hx1_0⟩:=Kd.at_int (rr_ HO1.out).2.2 (ji1) p1 q1;cases e1;replace p1:=eq_true p1;replace q1:=eq_true q1))
 go_ret
 exact ⟨iX,ab⟩

def aG.l0:Nat→Int→Int→List Int→Int→Int→Int→Bool→Option (List Int)
 | 0,_,_,_,_,_,_,_=>none
 | k+1,x1,x2,x7,x13,x14,xa,xb=>if x14<x13 then ((ar.f k xa xb x1 x2 x14).bind fun bt452=>(if bt452.2=true then (if x7.length<17592186044416 then (aG.l0 k x1 x2 (x7++[x14]) x13 (wrap64 (x14+1)) xa xb) else (none)) else (aG.l0 k x1 x2 x7 x13 (wrap64 (x14+1)) xa xb))) else (some x7)
def aG.f (k:Nat) (a0_0:Int) (a0_1:Bool) (a1:Int) (a2:Int):Option (List Int):=aG.l0 k a1 a2 (([]:List Int)) a0_0 0 a0_0 a0_1
theorem aG.mono_l:∀ k,(∀ y0 y1 y2 y3 y4 y5 y6,LeO (aG.l0 k y0 y1 y2 y3 y4 y5 y6) (aG.l0 (k+1) y0 y1 y2 y3 y4 y5 y6))
 | 0=>fun _ _ _ _ _ _ _ r h=>by simp [aG.l0] at h
 | k+1=>by
  have ih0:=aG.mono_l k
  ·intro y0 y1 y2 y3 y4 y5 y6
   unfold aG.l0
   repeat' with_reducible first|exact ih0 ..|exact ar.mono ..|exact LeO.refl ..|exact LeO.none ..|refine LeO.ite ?_ ?_|refine LeO.bind ?_ (fun _=>?_)
theorem aG.mono:∀ a0 a1 a2 a3 k,LeO (aG.f k a0 a1 a2 a3) (aG.f (k+1) a0 a1 a2 a3):=by
 intro a0 a1 a2 a3 k;have ih0:=aG.mono_l k;unfold aG.f
 repeat' with_reducible first|exact ih0 ..|exact ar.mono ..|exact LeO.refl ..|exact LeO.none ..|refine LeO.ite ?_ ?_|refine LeO.bind ?_ (fun _=>?_)
theorem aG.calls (k:Nat) (a0_0:Int) (a0_1:Bool) (a1:Int) (a2:Int) (r:List Int) (w:World) (H:aG.f k a0_0 a0_1 a1 a2=some r) :
  Calls Tryd.prog 54 #[.agg #[.int .i64 a0_0,.bool a0_1],.int .u32 a1,.int .i64 a2] w fun e w'=>∃ v0_:Value,e=.returned (v0_)∧Kd.R (Kd.int .i64) 3 w' w.heap.size (fun _=>True) v0_ r∧Below w.heap.size w w':=by
 have hu61:=Tryd.underlying61;have HB:=A0_ (Below.refl w.heap.size w);unfold aG.f at H;obtain ⟨y1,hy1⟩:∃ y_:List Int,y_=(([]:List Int)):=⟨_,rfl⟩;replace H:(aG.l0 k a1 a2 y1 a0_0 0 a0_0 a0_1)=some r:=dp;have Ny1:=A0_ hy1;clear hy1;have H':=A0_ H;clear H;go_enter Tryd.func54,Tryd.ntmps54
 go_wp2_with (first|((with_reducible refine gd_ (N:=3) rfl ?_);refine bx_ 3 #[.int .i64 a0_0,.bool a0_1] 61 ?_;intro gb1 hg w1 BK1 hb;have GW1:=ge_ hg am;have GE1:=GW1;replace HB:=hb_ hb am;clear hb hg)|((with_reducible refine gd_ (N:=11) rfl ?_);refine Kd.R_lit (Kd.int .i64) _ 3 ?hg (N:=11) ?hd (xs:=([]:List Int)) (inner:=[]) (ok:=fun _=>True) (okp:=fun _=>True) ?hr ?hp (fun _ hk=>hk) trivial (Below.refl _ _) (Nat.le_refl _) bx ?_;(case hd=>rfl);(case hg=>rfl);(case hr=>go_simp;first|done|rfl);(case hp=>exact (bu.none _ _));intro v1 w2 ho6 hb hg_ hnew_;clear hg_ hnew_;(first|rw [← Ny1.out] at ho6|(simp only [Int.reduceToNat] at ho6;rw [← Ny1.out] at ho6));have HO1:=A0_ (Kd.R_lower ho6 (bz_ ab));replace BK1:=k1_ BK1 hb;replace HB:=hb_ hb ab;clear hb ho6;have hcz1:=c2_ BK1))
 go_loopg [7,14] k (fun kq v2 v3 w'=>∃ (x7_1:List Int) (x14_1:Int),v3=.int .i64 x14_1∧Aside0 (aG.l0 kq a1 a2 x7_1 a0_0 x14_1 a0_0 a0_1=some r)∧Aside0 (kq≤k)∧Aside0 (Kd.R (Kd.int .i64) 3 w' w.heap.size (fun _=>True) v2 x7_1)∧Aside0 (w'.heap[gb1]?=some (.cells #[.int .i64 a0_0,.bool a0_1] 61 (0,0)))∧Aside0 (Below w.heap.size w w'))
 case atStart=>exact ⟨(y1),(0),aC,H',⟨Nat.le_refl _⟩,⟨bR⟩,⟨u1_ BK1⟩,⟨ab⟩⟩
 clear H'
 (try clear hcz1)
 obtain ⟨x7_1,x14_1,rfl,HA,HK1,HO_1,BK1,HB⟩:=hrel
 cases gk with|zero=>exact absurd HA.out (by simp [aG.l0])|succ k1=>?_
 have H:=HA.out;clear HA;simp only [aG.l0] at H
 by_cases c1:x14_1<a0_0
 case neg =>
  rw [if_neg c1] at H;have c1b0:decide (x14_1<a0_0)=false:=decide_eq_false c1;clear c1;obtain rfl:=si_ H
  go_wp2
  go_ret
  exact ⟨_,bc,aD,ab⟩
 rw [if_pos c1] at H;have c1b0:decide (x14_1<a0_0)=true:=dt_ c1;clear c1;obtain ⟨⟨t1,t2⟩,A2,H⟩:=o1_ H
 by_cases c2:t2=true
 case neg =>
  obtain rfl:=bf_.mpr c2;rw [if_neg ft_] at H;have H':=A0_ H;clear H;have hcz2:=c2_ BK1
  go_wp2_with (first|((with_reducible refine gc_ (f:=43) rfl ?_);refine gl_ 22 Tryd.func43 #[.agg #[.int .i64 a0_0,.bool a0_1],.int .u32 a1,.int .i64 a2,.int .i64 x14_1] ?_;(with_reducible refine (ar.calls k1 a0_0 a0_1 a1 a2 x14_1 t1 false _ A2.out).mono ?_);rintro e w3 ⟨rfl,hb⟩;refine ⟨_,rfl,?_⟩;replace HO_1:=q1_ HO_1 hb;replace BK1:=k1_ BK1 hb;replace HB:=hb_ hb ab;(try clear hb)))
  go_roundg k1
  case measure=>have:=HK1.out;omega
  exact ⟨(x7_1),(wrap64 (x14_1+1)),aC,H',⟨de⟩,⟨aD⟩,⟨u1_ BK1⟩,⟨ab⟩⟩
 subst c2;rw [if_pos rfl] at H;obtain ⟨c3,H⟩:=is_ H;have LMc1:=A0_ c3;clear c3;obtain ⟨y2,hy2⟩:∃ y_:List Int,y_=(x7_1++[x14_1]):=⟨_,rfl⟩;replace H:(aG.l0 k1 a1 a2 y2 a0_0 (wrap64 (x14_1+1)) a0_0 a0_1)=some r:=dO;have Ny2:=A0_ hy2;clear hy2;have H':=A0_ H;clear H;have hcz2:=c2_ BK1
 go_wp2_with (first|((with_reducible refine gc_ (f:=43) rfl ?_);refine gl_ 22 Tryd.func43 #[.agg #[.int .i64 a0_0,.bool a0_1],.int .u32 a1,.int .i64 a2,.int .i64 x14_1] ?_;(with_reducible refine (ar.calls k1 a0_0 a0_1 a1 a2 x14_1 t1 true _ A2.out).mono ?_);rintro e w3 ⟨rfl,hb⟩;refine ⟨_,rfl,?_⟩;replace HO_1:=q1_ HO_1 hb;replace BK1:=k1_ BK1 hb;replace HB:=hb_ hb ab;(try clear hb))|((with_reducible refine bO (b:=.append) (xs:=#[.tmp 26,.tmp 28]) rfl ?_);at_builtin;refine Kd.R_append (Kd.int .i64) (w0:=w) w.heap.size rfl (.tmp 26) (.tmp 28) 22 3 (.int .i64 0) 8 rfl Tryd.underlying22 cP rfl ao bL u7 x7_1 x14_1 [.int .i64 x14_1] (fun _=>True) (fun _=>False) rfl rfl ?aP (fun _ hk=>hk.elim) ?aF ?aO ?aB ?aS ?aL ?_;(case aP=>exact rfl);(case aB=>exact ab);(case aF=>exact (fun _ _=>trivial));(case aO=>exact aD);(case aS=>exact (bz_ ab));(case aL=>have:=LMc1.out;omega);intro v4 w4 ho hb hg hat;rw [← Ny2.out] at ho;have n0_:=A0_ (a6 (g:=gb1) (o:=.cells #[.int .i64 a0_0,.bool a0_1] 61 (0,0)) (u1_ BK1) hg (Kd.R_ne HO_1.out BK1.out ao));have n1_:=A0_ (hb);have n2_:=A0_ (ho);clear BK1 HB HO_1;have BK1:=n0_;have HB:=n1_;have HO2:=n2_;clear n0_ n1_ n2_ ho hb hg hat))
 go_roundg k1
 case measure=>have:=HK1.out;omega
 exact ⟨(y2),(wrap64 (x14_1+1)),aC,H',⟨de⟩,⟨cQ⟩,⟨u1_ BK1⟩,⟨ab⟩⟩

def a8.f (k:Nat) (a0_0:Int) (a0_1:Bool) (a1:Int) (a2:Int) (a3:Int):Option (Int):=(ar.f k a0_0 a0_1 a1 a2 a3).bind fun bt458=>(some (Go.bits .or .u32 a1 bt458.1))
theorem a8.mono:∀ a0 a1 a2 a3 a4 k,LeO (a8.f k a0 a1 a2 a3 a4) (a8.f (k+1) a0 a1 a2 a3 a4):=by
 intro a0 a1 a2 a3 a4 k;unfold a8.f
 repeat' with_reducible first|exact ar.mono ..|exact LeO.refl ..|exact LeO.none ..|refine LeO.ite ?_ ?_|refine LeO.bind ?_ (fun _=>?_)
theorem a8.calls (k:Nat) (a0_0:Int) (a0_1:Bool) (a1:Int) (a2:Int) (a3:Int) (r:Int) (w:World) (H:a8.f k a0_0 a0_1 a1 a2 a3=some r) :
  Calls Tryd.prog 55 #[.agg #[.int .i64 a0_0,.bool a0_1],.int .u32 a1,.int .i64 a2,.int .i64 a3] w fun e w'=>e=.returned (.int .u32 r)∧Below w.heap.size w w':=by
 have hu61:=Tryd.underlying61;have HB:=A0_ (Below.refl w.heap.size w);unfold a8.f at H;obtain ⟨⟨t1,t2⟩,A2,H⟩:=o1_ H;replace H:(some (Go.bits .or .u32 a1 t1))=some r:=H;obtain rfl:=si_ H;go_enter Tryd.func55,Tryd.ntmps55
 go_wp2_with (first|((with_reducible refine gd_ (N:=4) rfl ?_);refine bx_ 4 #[.int .i64 a0_0,.bool a0_1] 61 ?_;intro gb1 hg w1 BK1 hb;have GW1:=ge_ hg am;have GE1:=GW1;replace HB:=hb_ hb am;clear hb hg;have hcz1:=c2_ BK1)|((with_reducible refine gc_ (f:=43) rfl ?_);refine gl_ 16 Tryd.func43 #[.agg #[.int .i64 a0_0,.bool a0_1],.int .u32 a1,.int .i64 a2,.int .i64 a3] ?_;(with_reducible refine (ar.calls k a0_0 a0_1 a1 a2 a3 t1 t2 _ A2.out).mono ?_);rintro e w2 ⟨rfl,hb⟩;refine ⟨_,rfl,?_⟩;replace BK1:=k1_ BK1 hb;replace HB:=hb_ hb ab;(try clear hb)))
 go_ret
 exact ⟨bc,ab⟩

def aq.l0:Nat→Int→Int→List Int→List Int→Int→Int→Int→Bool→Option (List Int)
 | 0,_,_,_,_,_,_,_,_=>none
 | k+1,x1,x2,x7,x14,x15,x16,xa,xb=>if x16<x15 then (if 0≤x16 then (if x16<(x14.length:Int) then ((a8.f k xa xb x1 x2 (rd x14 x16)).bind fun t468=>((aV.f k xa xb t468 x2).bind fun t469=>(if t469=0 then (if x7.length<17592186044416 then (aq.l0 k x1 x2 (x7++[rd x14 x16]) x14 x15 (wrap64 (x16+1)) xa xb) else (none)) else (aq.l0 k x1 x2 x7 x14 x15 (wrap64 (x16+1)) xa xb)))) else (none)) else (none)) else (some x7)
def aq.f (k:Nat) (a0_0:Int) (a0_1:Bool) (a1:Int) (a2:Int):Option (List Int):=(aG.f k a0_0 a0_1 a1 a2).bind fun t464=>(aq.l0 k a1 a2 (([]:List Int)) t464 (t464.length:Int) 0 a0_0 a0_1)
theorem aq.mono_l:∀ k,(∀ y0 y1 y2 y3 y4 y5 y6 y7,LeO (aq.l0 k y0 y1 y2 y3 y4 y5 y6 y7) (aq.l0 (k+1) y0 y1 y2 y3 y4 y5 y6 y7))
 | 0=>fun _ _ _ _ _ _ _ _ r h=>by simp [aq.l0] at h
 | k+1=>by
  have ih0:=aq.mono_l k
  ·intro y0 y1 y2 y3 y4 y5 y6 y7
   unfold aq.l0
   repeat' with_reducible first|exact ih0 ..|exact a8.mono ..|exact aG.mono ..|exact aV.mono ..|exact LeO.refl ..|exact LeO.none ..|refine LeO.ite ?_ ?_|refine LeO.bind ?_ (fun _=>?_)
theorem aq.mono:∀ a0 a1 a2 a3 k,LeO (aq.f k a0 a1 a2 a3) (aq.f (k+1) a0 a1 a2 a3):=by
 intro a0 a1 a2 a3 k;have ih0:=aq.mono_l k;unfold aq.f
 repeat' with_reducible first|exact ih0 ..|exact a8.mono ..|exact aG.mono ..|exact aV.mono ..|exact LeO.refl ..|exact LeO.none ..|refine LeO.ite ?_ ?_|refine LeO.bind ?_ (fun _=>?_)
def aq.T5:Bool × List (List Nat × List Nat):=(true,[([],[]),([],[]),([],[]),([],[]),([],[]),([1,2,3,4],[1,2,3,4]),([],[]),([0,5,6,5],[0,5,6]),([7],[7])])
def aq.B5:List Nat:=[0,0,0,0,0,30,0,127,255]
theorem aq.tab5:dx .any (dX Tryd.f50 5)=aq.T5:=by kernel_rfl
theorem aq.bits5:cp aq.T5.2 aq.B5=true:=by kernel_rfl
theorem aq.calls (k:Nat) (a0_0:Int) (a0_1:Bool) (a1:Int) (a2:Int) (r:List Int) (w:World) (H:aq.f k a0_0 a0_1 a1 a2=some r) :
  Calls Tryd.prog 50 #[.agg #[.int .i64 a0_0,.bool a0_1],.int .u32 a1,.int .i64 a2] w fun e w'=>∃ v0_:Value,e=.returned (v0_)∧Kd.R (Kd.int .i64) 3 w' w.heap.size (fun _=>True) v0_ r∧Below w.heap.size w w':=by
 have hu61:=Tryd.underlying61;have HB:=A0_ (Below.refl w.heap.size w);unfold aq.f at H;obtain ⟨y1,hy1⟩:∃ y_:List Int,y_=(([]:List Int)):=⟨_,rfl⟩;replace H:((aG.f k a0_0 a0_1 a1 a2).bind fun t1=>(aq.l0 k a1 a2 y1 t1 (t1.length:Int) 0 a0_0 a0_1))=some r:=dp;have Ny1:=A0_ hy1;clear hy1;obtain ⟨t1,A2,H⟩:=o1_ H;have H':=A0_ H;clear H;go_enter Tryd.func50,Tryd.ntmps50
 go_wp2_with (first|((with_reducible refine gd_ (N:=3) rfl ?_);refine bx_ 3 #[.int .i64 a0_0,.bool a0_1] 61 ?_;intro gb1 hg w1 BK1 hb;have GW1:=ge_ hg am;have GE1:=GW1;replace HB:=hb_ hb am;clear hb hg)|((with_reducible refine gd_ (N:=10) rfl ?_);refine Kd.R_lit (Kd.int .i64) _ 3 ?hg (N:=10) ?hd (xs:=([]:List Int)) (inner:=[]) (ok:=fun _=>True) (okp:=fun _=>True) ?hr ?hp (fun _ hk=>hk) trivial (Below.refl _ _) (Nat.le_refl _) bx ?_;(case hd=>rfl);(case hg=>rfl);(case hr=>go_simp;first|done|rfl);(case hp=>exact (bu.none _ _));intro v1 w2 ho7 hb hg_ hnew_;clear hg_ hnew_;(first|rw [← Ny1.out] at ho7|(simp only [Int.reduceToNat] at ho7;rw [← Ny1.out] at ho7));have HO1:=A0_ (Kd.R_lower ho7 (bz_ ab));replace BK1:=k1_ BK1 hb;replace HB:=hb_ hb ab;clear hb ho7;have hcz1:=c2_ BK1)|((with_reducible refine gc_ (f:=54) rfl ?_);refine gl_ 14 Tryd.func54 #[.agg #[.int .i64 a0_0,.bool a0_1],.int .u32 a1,.int .i64 a2] ?_;(with_reducible refine (aG.calls k a0_0 a0_1 a1 a2 t1 _ A2.out).mono ?_);rintro e w3 ⟨v2,rfl,ho0,hb⟩;refine ⟨_,rfl,?_⟩;have HO2:=A0_ (Kd.R_lower (Kd.R_new' ho0 (Kd.R_lt bR)) (bz_ ab));replace HO1:=A0_ (Kd.R_elder' bR (Kd.R_base ho0) hb);replace BK1:=k1_ BK1 hb;replace HB:=hb_ hb ab;(try clear hb ho0);obtain ⟨Ao1,co1,eo1⟩:=Kd.R_slice HO2.out;subst eo1))
 go_loopg [7,16] k (fun kq v3 v4 w'=>∃ (x7_1:List Int) (x16_1:Int),v4=.int .i64 x16_1∧Aside0 (aq.l0 kq a1 a2 x7_1 t1 (t1.length:Int) x16_1 a0_0 a0_1=some r)∧Aside0 (kq≤k)∧Aside0 (Kd.R (Kd.int .i64) 3 w' w.heap.size (fun k_=>no_ (.slice Ao1 t1.length co1) k_) v3 x7_1)∧Aside0 (Kd.R (Kd.int .i64) 3 w' w.heap.size (fun k_=>no_ v3 k_) (.slice Ao1 t1.length co1) t1)∧Aside0 (w'.heap[gb1]?=some (.cells #[.int .i64 a0_0,.bool a0_1] 61 (0,0)))∧Aside0 (Below w.heap.size w w'))
 case atStart=>exact ⟨(y1),(0),aC,H',⟨Nat.le_refl _⟩,⟨gQ⟩,⟨fT⟩,⟨u1_ BK1⟩,⟨ab⟩⟩
 clear H'
 (try clear hcz1)
 obtain ⟨x7_1,x16_1,rfl,HA,HK1,HO_1,HO_2,BK1,HB⟩:=hrel
 cases gk with|zero=>exact absurd HA.out (by simp [aq.l0])|succ k1=>?_
 have H:=HA.out;clear HA;simp only [aq.l0] at H
 by_cases c1:x16_1<(t1.length:Int)
 case neg =>
  rw [if_neg c1] at H;have c1b0:decide (x16_1<(t1.length:Int))=false:=decide_eq_false c1;clear c1;obtain rfl:=si_ H
  go_wp2
  go_ret
  exact ⟨_,bc,ln,ab⟩
 rw [if_pos c1] at H;have c1b0:decide (x16_1<(t1.length:Int))=true:=dt_ c1;clear c1;obtain ⟨c2b0,H⟩:=i1_ H;obtain ⟨c3b0,H⟩:=i1_ H;obtain ⟨t2,A4,H⟩:=o1_ H;obtain ⟨t3,A6,H⟩:=o1_ H
 by_cases c4:t3=0
 case neg =>
  rw [if_neg c4] at H;obtain ⟨c4b0,c4b1⟩:=ef_ c4;have H':=A0_ H;clear H;have p1:0≤(x16_1:Int):=od_ aE;have q1:x16_1<(t1.length:Int):=od_ aE;obtain ⟨ad1,e1,hx1_0⟩:=Kd.at_int (rr_ HO_2.out).2.2 x16_1 p1 q1;cases e1;replace p1:=eq_true p1;replace q1:=eq_true q1
  try go_wp2
  replace HO_1:=A0_ (rd_ HO_1.out);replace HO_2:=A0_ (rd_ HO_2.out);replace BK1:=A0_ (kd_ BK1.out);replace HB:=A0_ (bd_ HB.out)
  refine s2_ 9 [] BK1 aq.tab5 aq.bits5 (fun hHeld HT_ HW_=>?_)
  generalize wr.drew=w4 at HO_1 HO_2 BK1 HB hHeld ⊢
  refine pu_ 2 22 ?_
  refine pu_ 3 23 ?_
  refine pu_ 4 24 ?_
  refine pu_ 6 26 ?_
  refine tk_ 0 20 hHeld ?_
  refine tk_ 1 21 hHeld ?_
  refine on_ 5 (some 25) (fun K hK=>?_)
  refine gs_ Tryd.func55 #[.agg #[.int .i64 a0_0,.bool a0_1],.int .u32 a1,.int .i64 a2,.int .i64 (rd t1 x16_1)] ?_
  with_reducible refine (a8.calls k1 a0_0 a0_1 a1 a2 (rd t1 x16_1) t2 _ A4.out).mono ?_
  rintro e w5 ⟨rfl,hb⟩
  refine ⟨_,rfl,?_⟩
  replace HO_1:=q1_ HO_1 hb;replace HO_2:=q1_ HO_2 hb;replace BK1:=k1_ BK1 hb;replace HB:=hb_ hb ab
  (try clear hb)
  refine hK.out _ _ (c2_ BK1) (fun hHeld=>?_)
  clear hK K
  refine nm_ 25 ?_
  refine on_ 7 (some 27) (fun K hK=>?_)
  refine gs_ Tryd.func52 #[.agg #[.int .i64 a0_0,.bool a0_1],.int .u32 t2,.int .i64 a2] ?_
  with_reducible refine (aV.calls k1 a0_0 a0_1 t2 a2 t3 _ A6.out).mono ?_
  rintro e w6 ⟨rfl,hb⟩
  refine ⟨_,rfl,?_⟩
  replace HO_1:=q1_ HO_1 hb;replace HO_2:=q1_ HO_2 hb;replace BK1:=k1_ BK1 hb;replace HB:=hb_ hb ab
  (try clear hb)
  refine hK.out _ _ (c2_ BK1) (fun hHeld=>?_)
  clear hK K
  refine nm_ 27 ?_
  refine pu_ 8 28 ?_
  refine dn_ ?_
  try go_wp2
  go_roundg k1
  case measure=>have:=HK1.out;omega
  exact ⟨(x7_1),(wrap64 (x16_1+1)),aC,H',⟨de⟩,⟨aD⟩,⟨bW⟩,⟨u1_ BK1⟩,⟨ab⟩⟩
 rw [if_pos c4] at H;obtain ⟨c4b0,c4b1⟩:=et_ c4;clear c4;obtain ⟨c5,H⟩:=is_ H;have LMc1:=A0_ c5;clear c5;obtain ⟨y2,hy2⟩:∃ y_:List Int,y_=(x7_1++[rd t1 x16_1]):=⟨_,rfl⟩;replace H:(aq.l0 k1 a1 a2 y2 t1 (t1.length:Int) (wrap64 (x16_1+1)) a0_0 a0_1)=some r:=dO;have Ny2:=A0_ hy2;clear hy2;have H':=A0_ H;clear H;have p1:0≤(x16_1:Int):=od_ aE;have q1:x16_1<(t1.length:Int):=od_ aE;obtain ⟨ad1,e1,hx1_0⟩:=Kd.at_int (rr_ HO_2.out).2.2 x16_1 p1 q1;cases e1;replace p1:=eq_true p1;replace q1:=eq_true q1
 try go_wp2
 replace HO_1:=A0_ (rd_ HO_1.out);replace HO_2:=A0_ (rd_ HO_2.out);replace BK1:=A0_ (kd_ BK1.out);replace HB:=A0_ (bd_ HB.out)
 refine s2_ 9 [] BK1 aq.tab5 aq.bits5 (fun hHeld HT_ HW_=>?_)
 generalize wr.drew=w4 at HO_1 HO_2 BK1 HB hHeld ⊢
 refine pu_ 2 22 ?_
 refine pu_ 3 23 ?_
 refine pu_ 4 24 ?_
 refine pu_ 6 26 ?_
 refine tk_ 0 20 hHeld ?_
 refine tk_ 1 21 hHeld ?_
 refine on_ 5 (some 25) (fun K hK=>?_)
 refine gs_ Tryd.func55 #[.agg #[.int .i64 a0_0,.bool a0_1],.int .u32 a1,.int .i64 a2,.int .i64 (rd t1 x16_1)] ?_
 with_reducible refine (a8.calls k1 a0_0 a0_1 a1 a2 (rd t1 x16_1) t2 _ A4.out).mono ?_
 rintro e w5 ⟨rfl,hb⟩
 refine ⟨_,rfl,?_⟩
 replace HO_1:=q1_ HO_1 hb;replace HO_2:=q1_ HO_2 hb;replace BK1:=k1_ BK1 hb;replace HB:=hb_ hb ab
 (try clear hb)
 refine hK.out _ _ (c2_ BK1) (fun hHeld=>?_)
 clear hK K
 refine nm_ 25 ?_
 refine on_ 7 (some 27) (fun K hK=>?_)
 refine gs_ Tryd.func52 #[.agg #[.int .i64 a0_0,.bool a0_1],.int .u32 t2,.int .i64 a2] ?_
 with_reducible refine (aV.calls k1 a0_0 a0_1 t2 a2 t3 _ A6.out).mono ?_
 rintro e w6 ⟨rfl,hb⟩
 refine ⟨_,rfl,?_⟩
 replace HO_1:=q1_ HO_1 hb;replace HO_2:=q1_ HO_2 hb;replace BK1:=k1_ BK1 hb;replace HB:=hb_ hb ab
 (try clear hb)
 refine hK.out _ _ (c2_ BK1) (fun hHeld=>?_)
 clear hK K
 refine nm_ 27 ?_
 refine pu_ 8 28 ?_
 refine dn_ ?_
 try go_wp2_with (first|((with_reducible refine bO (b:=.append) (xs:=#[.tmp 29,.tmp 31]) rfl ?_);at_builtin;refine Kd.R_append (Kd.int .i64) (w0:=w) w.heap.size rfl (.tmp 29) (.tmp 31) 22 3 (.int .i64 0) 8 rfl Tryd.underlying22 cP rfl ao bL u7 x7_1 (rd t1 x16_1) [.int .i64 (rd t1 x16_1)] (fun k_=>no_ (.slice (some ad1) t1.length co1) k_) (fun _=>False) rfl rfl ?aP (fun _ hk=>hk.elim) ?aF ?aO ?aB ?aS ?aL ?_;(case aP=>exact rfl);(case aB=>exact ab);(case aF=>exact (fun k_ hk=>Kd.fresh' (Kd.R_lt bW) k_ hk));(case aO=>exact aD);(case aS=>exact (bz_ ab));(case aL=>have:=LMc1.out;omega);intro v5 w7 ho hb hg hat;rw [← Ny2.out] at ho;have n0_:=A0_ (Kd.R_after (ok:=(fun _=>True)) pg hg hat);have n1_:=A0_ (a6 (g:=gb1) (o:=.cells #[.int .i64 a0_0,.bool a0_1] 61 (0,0)) (u1_ BK1) hg (Kd.R_ne HO_1.out BK1.out ao));have n2_:=A0_ (hb);have n3_:=A0_ (ho);clear HO_2 BK1 HB HO_1;have HO_2:=n0_;have BK1:=n1_;have HB:=n2_;have HO3:=n3_;clear n0_ n1_ n2_ n3_ ho hb hg hat))
 go_roundg k1
 case measure=>have:=HK1.out;omega
 exact ⟨(y2),(wrap64 (x16_1+1)),aC,H',⟨de⟩,⟨d9⟩,⟨nC⟩,⟨u1_ BK1⟩,⟨ab⟩⟩

def bK.f (k:Nat) (a0_0:Int) (a0_1:Bool) (l0_2:List Int) (a1:Int):Option (List Int × Bool):=(bf.f k a0_0 a0_1 l0_2 a1).bind fun t474=>(if t474=true then ((bd.f a0_0 a0_1 l0_2).bind fun bt475=>((a7.f k a0_0 a0_1 l0_2).bind fun t477=>((aq.f k bt475.1 bt475.2 t477 a1).bind fun t478=>(some (t478,true))))) else (some (([]:List Int),false)))
theorem bK.mono:∀ a0 a1 a2 a3 k,LeO (bK.f k a0 a1 a2 a3) (bK.f (k+1) a0 a1 a2 a3):=by
 intro a0 a1 a2 a3 k;unfold bK.f
 repeat' with_reducible first|exact a7.mono ..|exact aq.mono ..|exact bf.mono ..|exact LeO.refl ..|exact LeO.none ..|refine LeO.ite ?_ ?_|refine LeO.bind ?_ (fun _=>?_)
def bK.T3:Bool × List (List Nat × List Nat):=(true,[([],[]),([0],[0]),([],[]),([2,1],[2]),([],[]),([1,3,4,3],[1,3,4]),([5,5,0,1,2,3,4,5],[5]),([6,0,1,2,3,4,5,6],[])])
def bK.B3:List Nat:=[0,1,0,7,0,31,63,127]
theorem bK.tab3:dx .any (dX Tryd.f14 3)=bK.T3:=by kernel_rfl
theorem bK.bits3:cp bK.T3.2 bK.B3=true:=by kernel_rfl
theorem bK.calls (k:Nat) (a0_0:Int) (a0_1:Bool) (A0_2:Option Addr) (c0_2:Nat) (l0_2:List Int) (a1:Int) (r1:List Int) (r2:Bool) (w:World) (hr0_2:Kd.C (Kd.int .i64) w A0_2 l0_2.length l0_2) (hc0_2:l0_2.length≤c0_2) (H:bK.f k a0_0 a0_1 l0_2 a1=some (r1,r2)) :
  Calls Tryd.prog 14 #[.agg #[.int .i64 a0_0,.bool a0_1,.slice A0_2 l0_2.length c0_2],.int .i64 a1] w fun e w'=>∃ v0_:Value,e=.returned (.tuple #[v0_,.bool r2])∧Kd.R (Kd.int .i64) 3 w' w.heap.size (fun _=>True) v0_ r1∧Below w.heap.size w w':=by
 have hu26:=Tryd.underlying26;have HR0_2:=A0_ hr0_2;have HC0_2:=A0_ hc0_2;clear hr0_2 hc0_2;have HB:=A0_ (Below.refl w.heap.size w);unfold bK.f at H;obtain ⟨t1,A2,H⟩:=o1_ H
 by_cases c1:t1=true
 case neg =>
  obtain rfl:=bf_.mpr c1;rw [if_neg ft_] at H;simp only [sj_,pj_] at H;obtain ⟨rfl,rfl⟩:=H;go_enter Tryd.func14,Tryd.ntmps14
  go_wp2_with (first|((with_reducible refine gd_ (N:=2) rfl ?_);refine bx_ 2 #[.int .i64 a0_0,.bool a0_1,.slice A0_2 l0_2.length c0_2] 26 ?_;intro gb1 hg w1 BK1 hb;have GW1:=ge_ hg am;have GE1:=GW1;replace HB:=hb_ hb am;clear hb hg;have hcz1:=c3_ BK1)|((with_reducible refine gc_ (f:=41) rfl ?_);refine gl_ 8 Tryd.func41 #[.agg #[.int .i64 a0_0,.bool a0_1,.slice A0_2 l0_2.length c0_2],.int .i64 a1] ?_;(with_reducible refine (bf.calls k a0_0 a0_1 _ _ l0_2 a1 false _ ?_ ?_ A2.out).mono ?_);exact bn;exact HC0_2.out;rintro e w2 ⟨rfl,hb⟩;refine ⟨_,rfl,?_⟩;replace BK1:=k1_ BK1 hb;replace HB:=hb_ hb ab;(try clear hb)))
  go_ret2
  exact ⟨_,bc,iu,ab⟩
 subst c1;rw [if_pos rfl] at H;obtain ⟨⟨t4,t5⟩,A4,H⟩:=o1_ H;obtain ⟨t2,A6,H⟩:=o1_ H;obtain ⟨t3,A8,H⟩:=o1_ H;replace H:(some (t3,true))=some (r1,r2):=H;simp only [sj_,pj_] at H;obtain ⟨rfl,rfl⟩:=H;go_enter Tryd.func14,Tryd.ntmps14
 try go_wp2_with (first|((with_reducible refine gd_ (N:=2) rfl ?_);refine bx_ 2 #[.int .i64 a0_0,.bool a0_1,.slice A0_2 l0_2.length c0_2] 26 ?_;intro gb1 hg w1 BK1 hb;have GW1:=ge_ hg am;have GE1:=GW1;replace HB:=hb_ hb am;clear hb hg;have hcz1:=c3_ BK1)|((with_reducible refine gc_ (f:=41) rfl ?_);refine gl_ 8 Tryd.func41 #[.agg #[.int .i64 a0_0,.bool a0_1,.slice A0_2 l0_2.length c0_2],.int .i64 a1] ?_;(with_reducible refine (bf.calls k a0_0 a0_1 _ _ l0_2 a1 true _ ?_ ?_ A2.out).mono ?_);exact bn;exact HC0_2.out;rintro e w2 ⟨rfl,hb⟩;refine ⟨_,rfl,?_⟩;replace BK1:=k1_ BK1 hb;replace HB:=hb_ hb ab;(try clear hb)))
 replace BK1:=A0_ (kd_ BK1.out);replace HB:=A0_ (bd_ HB.out)
 refine s3_ 8 [] BK1 bK.tab3 bK.bits3 (fun hHeld HT_ HW_=>?_)
 generalize w2.drew=w3 at BK1 HB hHeld ⊢
 refine pu_ 4 14 ?_
 refine tk_ 0 10 hHeld ?_
 refine tk_ 2 12 hHeld ?_
 refine on_ 1 (some 11) (fun K hK=>?_)
 refine gs_ Tryd.func42 #[.agg #[.int .i64 a0_0,.bool a0_1,.slice A0_2 l0_2.length c0_2]] ?_
 with_reducible refine (bd.calls a0_0 a0_1 _ _ l0_2 t4 t5 _ ?_ ?_ A4.out).mono ?_
 exact bn
 exact HC0_2.out
 rintro e w4 ⟨rfl,hb⟩
 refine ⟨_,rfl,?_⟩
 replace BK1:=k1_ BK1 hb;replace HB:=hb_ hb ab
 (try clear hb)
 refine hK.out _ _ (c3_ BK1) (fun hHeld=>?_)
 clear hK K
 refine nm_ 11 ?_
 refine on_ 3 (some 13) (fun K hK=>?_)
 refine gs_ Tryd.func44 #[.agg #[.int .i64 a0_0,.bool a0_1,.slice A0_2 l0_2.length c0_2]] ?_
 with_reducible refine (a7.calls k a0_0 a0_1 _ _ l0_2 t2 _ ?_ ?_ A6.out).mono ?_
 exact bn
 exact HC0_2.out
 rintro e w5 ⟨rfl,hb⟩
 refine ⟨_,rfl,?_⟩
 replace BK1:=k1_ BK1 hb;replace HB:=hb_ hb ab
 (try clear hb)
 refine hK.out _ _ (c3_ BK1) (fun hHeld=>?_)
 clear hK K
 refine nm_ 13 ?_
 refine on_ 5 (some 15) (fun K hK=>?_)
 refine gs_ Tryd.func50 #[.agg #[.int .i64 t4,.bool t5],.int .u32 t2,.int .i64 a1] ?_
 with_reducible refine (aq.calls k t4 t5 t2 a1 t3 _ A8.out).mono ?_
 rintro e w6 ⟨v1,rfl,ho0,hb⟩
 refine ⟨_,rfl,?_⟩
 have HO1:=A0_ (Kd.R_lower ho0 (bz_ ab));replace BK1:=k1_ BK1 hb;replace HB:=hb_ hb ab
 (try clear hb ho0)
 refine hK.out _ _ (c3_ BK1) (fun hHeld=>?_)
 clear hK K
 refine nm_ 15 ?_
 refine pu_ 6 4 ?_
 refine pu_ 7 5 ?_
 refine dn_ ?_
 try go_wp2
 go_ret2
 exact ⟨_,bc,bR,ab⟩

mutual
def ak.j0:Nat→List (S72)→Bool→Int→Bool→List Int→Option ((List (S72)))
 | 0,_,_,_,_,_=>none
 | k+1,x3,x15,xa,xb,xc=>if x15=true then (some (([(⟨0,xa⟩:S72)]:List (S72)))) else (ak.l0 k x3 0 xa xb xc)
def ak.l0:Nat→List (S72)→Int→Int→Bool→List Int→Option ((List (S72)))
 | 0,_,_,_,_,_=>none
 | k+1,x3,x4,xa,xb,xc=>if x4<xa then (if xa=0 then (none) else ((bp.f k xa xb xc x4).bind fun t488=>(if t488=true then (ak.j2 k x3 x4 true xa xb xc) else ((bp.f k xa xb xc (Int.tmod (wrap64 ((wrap64 (x4 - 1))+xa)) xa)).bind fun t489=>(if t489=true then (ak.j2 k x3 x4 false xa xb xc) else (if xb=true then (ak.j2 k x3 x4 true xa xb xc) else (ak.j2 k x3 x4 (decide (x4 > 0)) xa xb xc))))))) else (some x3)
def ak.j2:Nat→List (S72)→Int→Bool→Int→Bool→List Int→Option ((List (S72)))
 | 0,_,_,_,_,_,_=>none
 | k+1,x3,x4,x50,xa,xb,xc=>if x50=true then (ak.l0 k x3 (wrap64 (x4+1)) xa xb xc) else (ak.l1 k x3 x4 0 xa xb xc)
def ak.l1:Nat→List (S72)→Int→Int→Int→Bool→List Int→Option ((List (S72)))
 | 0,_,_,_,_,_,_=>none
 | k+1,x3,x4,x6,xa,xb,xc=>if xa=0 then (none) else ((bp.f k xa xb xc (Int.tmod (wrap64 (x4+x6)) xa)).bind fun t490=>(if t490=true then (if x3.length<8796093022208 then (ak.l0 k (x3++[(⟨x4,x6⟩:S72)]) (wrap64 (x4+1)) xa xb xc) else (none)) else (if xb=true then (ak.l1 k x3 x4 (wrap64 (x6+1)) xa xb xc) else (if (wrap64 (x4+x6))<xa then (ak.l1 k x3 x4 (wrap64 (x6+1)) xa xb xc) else (if x3.length<8796093022208 then (ak.l0 k (x3++[(⟨x4,x6⟩:S72)]) (wrap64 (x4+1)) xa xb xc) else (none))))))
end
def ak.f (k:Nat) (a0_0:Int) (a0_1:Bool) (l0_2:List Int):Option ((List (S72))):=(some (([]:List (S72)):List (S72))).bind fun y482=>(if a0_1=true then (ak.j0 k y482 ((l0_2.length:Int) == 0) a0_0 a0_1 l0_2) else (ak.j0 k y482 false a0_0 a0_1 l0_2))
theorem ak.mono_l:∀ k,(∀ y0 y1 y2 y3 y4,LeO (ak.j0 k y0 y1 y2 y3 y4) (ak.j0 (k+1) y0 y1 y2 y3 y4))∧(∀ y0 y1 y2 y3 y4,LeO (ak.l0 k y0 y1 y2 y3 y4) (ak.l0 (k+1) y0 y1 y2 y3 y4))∧(∀ y0 y1 y2 y3 y4 y5,LeO (ak.j2 k y0 y1 y2 y3 y4 y5) (ak.j2 (k+1) y0 y1 y2 y3 y4 y5))∧(∀ y0 y1 y2 y3 y4 y5,LeO (ak.l1 k y0 y1 y2 y3 y4 y5) (ak.l1 (k+1) y0 y1 y2 y3 y4 y5))
 | 0=>⟨fun _ _ _ _ _ r h=>by simp [ak.j0] at h,fun _ _ _ _ _ r h=>by simp [ak.l0] at h,fun _ _ _ _ _ _ r h=>by simp [ak.j2] at h,fun _ _ _ _ _ _ r h=>by simp [ak.l1] at h⟩
 | k+1=>by
  obtain ⟨ih0,ih1,ih2,ih3⟩:=ak.mono_l k
  refine ⟨?_,?_,?_,?_⟩
  ·intro y0 y1 y2 y3 y4
   unfold ak.j0
   repeat' with_reducible first|exact ih0 ..|exact ih1 ..|exact ih2 ..|exact ih3 ..|exact bp.mono ..|exact LeO.refl ..|exact LeO.none ..|refine LeO.ite ?_ ?_|refine LeO.bind ?_ (fun _=>?_)
  ·intro y0 y1 y2 y3 y4
   unfold ak.l0
   repeat' with_reducible first|exact ih0 ..|exact ih1 ..|exact ih2 ..|exact ih3 ..|exact bp.mono ..|exact LeO.refl ..|exact LeO.none ..|refine LeO.ite ?_ ?_|refine LeO.bind ?_ (fun _=>?_)
  ·intro y0 y1 y2 y3 y4 y5
   unfold ak.j2
   repeat' with_reducible first|exact ih0 ..|exact ih1 ..|exact ih2 ..|exact ih3 ..|exact bp.mono ..|exact LeO.refl ..|exact LeO.none ..|refine LeO.ite ?_ ?_|refine LeO.bind ?_ (fun _=>?_)
  ·intro y0 y1 y2 y3 y4 y5
   unfold ak.l1
   repeat' with_reducible first|exact ih0 ..|exact ih1 ..|exact ih2 ..|exact ih3 ..|exact bp.mono ..|exact LeO.refl ..|exact LeO.none ..|refine LeO.ite ?_ ?_|refine LeO.bind ?_ (fun _=>?_)
theorem ak.mono:∀ a0 a1 a2 k,LeO (ak.f k a0 a1 a2) (ak.f (k+1) a0 a1 a2):=by
 intro a0 a1 a2 k;obtain ⟨ih0,ih1,ih2,ih3⟩:=ak.mono_l k;unfold ak.f
 repeat' with_reducible first|exact ih0 ..|exact ih1 ..|exact ih2 ..|exact ih3 ..|exact bp.mono ..|exact LeO.refl ..|exact LeO.none ..|refine LeO.ite ?_ ?_|refine LeO.bind ?_ (fun _=>?_)
def ak.T10:Bool × List (List Nat × List Nat):=(true,[([],[]),([],[]),([],[]),([1,2],[1,2]),([],[]),([4],[4]),([3,5],[3,5]),([0,6],[0,6]),([7],[7]),([8,7],[8]),([9],[9]),([10,9],[9,10]),([11,9,9],[9,11]),([12],[12]),([12],[12]),([13,14,12],[12,13,14]),([12],[12]),([16,12],[12,16]),([15,17,12],[12,15,17]),([12,18,9],[9,12,18]),([9,19],[9,19])])
def ak.B10:List Nat:=[0,0,0,6,0,16,62,127,255,511,1023,2047,4095,8191,8191,32767,8191,73727,262143,524287,1048575]
theorem ak.tab10:dx .any (dX Tryd.f57 10)=ak.T10:=by kernel_rfl
theorem ak.bits10:cp ak.T10.2 ak.B10=true:=by kernel_rfl
theorem ak.calls (k:Nat) (a0_0:Int) (a0_1:Bool) (A0_2:Option Addr) (c0_2:Nat) (l0_2:List Int) (r:List (S72)) (w:World) (hr0_2:Kd.C (Kd.int .i64) w A0_2 l0_2.length l0_2) (hc0_2:l0_2.length≤c0_2) (H:ak.f k a0_0 a0_1 l0_2=some r) :
  Calls Tryd.prog 57 #[.agg #[.int .i64 a0_0,.bool a0_1,.slice A0_2 l0_2.length c0_2]] w fun e w'=>∃ v0_:Value,e=.returned (v0_)∧Kd.R k72 72 w' w.heap.size (fun _=>True) v0_ r∧Below w.heap.size w w':=by
 have hu26:=Tryd.underlying26;have hu72:=Tryd.underlying72;have HR0_2:=A0_ hr0_2;have HC0_2:=A0_ hc0_2;clear hr0_2 hc0_2;have HB:=A0_ (Below.refl w.heap.size w);unfold ak.f at H;obtain ⟨y1,hy1⟩:∃ y_:List (S72),y_=(([]:List (S72))):=⟨_,rfl⟩;replace H:(if a0_1=true then (ak.j0 k y1 ((l0_2.length:Int) == 0) a0_0 a0_1 l0_2) else (ak.j0 k y1 false a0_0 a0_1 l0_2))=some r:=dp;have Ny1:=A0_ hy1;clear hy1;have HC2:=A0_ H;clear H;go_enter Tryd.func57,Tryd.ntmps57
 go_upto_region 2 with (first|((with_reducible refine gd_ (N:=1) rfl ?_);(try (refine cL (by rfl) ?_;dsimp only));refine bx_ 1 #[.int .i64 a0_0,.bool a0_1,.slice A0_2 l0_2.length c0_2] 26 ?_;intro gb1 hg w1 BK1 hb;have GW1:=ge_ hg am;have GE1:=GW1;replace HB:=hb_ hb am;clear hb hg)|((with_reducible refine gd_ (N:=7) rfl ?_);(try (refine cL (by rfl) ?_;dsimp only));refine Kd.R_lit k72 _ 72 ?hg (N:=7) ?hd (xs:=([]:List (S72))) (inner:=[]) (ok:=fun _=>True) (okp:=fun _=>True) ?hr ?hp (fun _ hk=>hk) trivial (Below.refl _ _) (Nat.le_refl _) bx ?_;(case hd=>rfl);(case hg=>rfl);(case hr=>go_simp;first|done|rfl);(case hp=>exact (bu.none _ _));intro v1 w2 ho5 hb hg_ hnew_;clear hg_ hnew_;(first|rw [← Ny1.out] at ho5|(simp only [Int.reduceToNat] at ho5;rw [← Ny1.out] at ho5));have HO1:=A0_ (Kd.R_lower ho5 (bz_ ab));replace BK1:=k1_ BK1 hb;replace HB:=hb_ hb ab;clear hb ho5))
 (try simp only [Act.put,sa_,sz_,ss_])
 go_cut [15] (fun v2 wc=>∃ (kq:Nat) (x15_1:Bool),v2=.bool x15_1∧Aside0 (ak.j0 kq y1 x15_1 a0_0 a0_1 l0_2=some r)∧Aside0 (kq≤k)∧Aside0 (Kd.R k72 72 wc w.heap.size (fun _=>True) v1 y1)∧Aside0 (wc.heap[gb1]?=some (.cells #[.int .i64 a0_0,.bool a0_1,(.slice A0_2 l0_2.length c0_2)] 26 (0,0)))∧Aside0 (Below w.heap.size w wc))
 case first =>
  have H:=HC2.out;clear HC2
  by_cases c1:a0_1=true
  case neg =>
   obtain rfl:=bf_.mpr c1;rw [if_neg ft_] at H;have H':=A0_ H;clear H;have hcz1:=c3_ BK1
   go_wp2
   go_meet
   exact ⟨_,(false),aC,H',⟨eH⟩,⟨bR⟩,⟨u1_ BK1⟩,⟨ab⟩⟩
  subst c1;rw [if_pos rfl] at H;have H':=A0_ H;clear H;have hcz1:=c3_ BK1
  go_wp2
  go_meet
  exact ⟨_,(((l0_2.length:Int) == 0)),aC,H',⟨eH⟩,⟨bR⟩,⟨u1_ BK1⟩,⟨ab⟩⟩
 clear HC2;obtain ⟨kq,x15_1,rfl,HA,HJ1,HO_1,BK1,HB⟩:=hcut
 cases kq with|zero=>exact absurd HA.out (by simp [ak.j0])|succ kj1=>?_
 have H:=HA.out;clear HA;simp only [ak.j0] at H
 by_cases c1:x15_1=true
 ·subst c1
  rw [if_pos rfl] at H;obtain ⟨y2,hy2⟩:∃ y_:List (S72),y_=(([(⟨0,a0_0⟩:S72)]:List (S72))):=⟨_,rfl⟩;replace H:(some y2)=some r:=dO;have Ny2:=A0_ hy2;clear hy2;obtain rfl:=si_ H;have hcz1:=c3_ BK1
  go_wp2_with (first|((with_reducible refine gd_ (N:=19) rfl ?_);(try (refine cL (by rfl) ?_;dsimp only));refine Kd.R_lit k72 _ 72 ?hg (N:=19) ?hd (xs:=([(⟨0,a0_0⟩:S72)]:List (S72))) (inner:=[.int .i64 0,.int .i64 a0_0]) (ok:=fun _=>True) (okp:=fun _=>True) ?hr ?hp (fun _ hk=>hk) trivial (Below.refl _ _) (Nat.le_refl _) bx ?_;(case hd=>rfl);(case hg=>rfl);(case hr=>go_simp;first|done|rfl);(case hp=>exact (bu.c2 (show Kd.M k72 _ _ _ (⟨0,a0_0⟩:S72) [.int .i64 0,.int .i64 a0_0] from (hY _ _ _ (⟨0,a0_0⟩:S72) )) (bu.none _ _)));intro v3 w3 ho12 hb hg_ hnew_;clear hg_ hnew_;(first|rw [← Ny2.out] at ho12|(simp only [Int.reduceToNat] at ho12;rw [← Ny2.out] at ho12));have HO2:=A0_ (Kd.R_lower (Kd.R_new' ho12 (Kd.R_lt aD)) (bz_ ab));replace HO_1:=A0_ (Kd.R_elder' aD (Kd.R_base ho12) hb);replace BK1:=k1_ BK1 hb;replace HB:=hb_ hb ab;clear hb ho12))
  go_ret
  exact ⟨_,bc,qO,ab⟩
 obtain rfl:=bf_.mpr c1;rw [if_neg ft_] at H;have H':=A0_ H;clear H
 go_wp2
 go_loopg [3,4] kj1 (fun kq v3 v4 w'=>∃ (x3_2:List (S72)) (x4_2:Int),v4=.int .i64 x4_2∧Aside0 (ak.l0 kq x3_2 x4_2 a0_0 a0_1 l0_2=some r)∧Aside0 (kq≤kj1)∧Aside0 (Kd.R k72 72 w' w.heap.size (fun _=>True) v3 x3_2)∧Aside0 (w'.heap[gb1]?=some (.cells #[.int .i64 a0_0,.bool a0_1,(.slice A0_2 l0_2.length c0_2)] 26 (0,0)))∧Aside0 (Below w.heap.size w w'))
 case atStart=>exact ⟨(y1),(0),aC,H',⟨Nat.le_refl _⟩,⟨aD⟩,⟨u1_ BK1⟩,⟨ab⟩⟩
 clear H'
 try clear c1
 obtain ⟨x3_2,x4_2,rfl,HA,HK1,HO_1,BK1,HB⟩:=hrel
 cases gk with|zero=>exact absurd HA.out (by simp [ak.l0])|succ k2=>?_
 have H:=HA.out;clear HA;simp only [ak.l0] at H
 by_cases c2:x4_2<a0_0
 case neg =>
  rw [if_neg c2] at H;have c2b0:decide (x4_2<a0_0)=false:=decide_eq_false c2;clear c2;obtain rfl:=si_ H;have hcz1:=c3_ BK1
  go_wp2
  go_ret
  exact ⟨_,bc,aD,ab⟩
 rw [if_pos c2] at H;have c2b0:decide (x4_2<a0_0)=true:=dt_ c2;clear c2
 by_cases c3:a0_0=0
 ·rw [if_pos c3] at H
  exact absurd H bx
 rw [if_neg c3] at H;obtain ⟨c3b0,c3b1⟩:=ef_ c3;have HC15:=A0_ H;clear H;have hcz1:=c3_ BK1
 go_upto_region 8 with (fail)
 go_cut [50] (fun v5 wc=>∃ (kq:Nat) (x50_14:Bool),v5=.bool x50_14∧Aside0 (ak.j2 kq x3_2 x4_2 x50_14 a0_0 a0_1 l0_2=some r)∧Aside0 (kq≤k2)∧Aside0 (Kd.R k72 72 wc w.heap.size (fun _=>True) u3 x3_2)∧Aside0 (wc.heap[gb1]?=some (.cells #[.int .i64 a0_0,.bool a0_1,(.slice A0_2 l0_2.length c0_2)] 26 (0,0)))∧Aside0 (Below w.heap.size w wc))
 case first =>
  have H:=HC15.out;clear HC15;obtain ⟨t1,A2,H⟩:=o1_ H
  by_cases c4:t1=true
  ·subst c4
   rw [if_pos rfl] at H;have H':=A0_ H;clear H;have hcz2:=c3_ BK1
   go_wp2_with (first|((with_reducible refine gc_ (f:=73) rfl ?_);refine gl_ 36 Tryd.func73 #[.agg #[.int .i64 a0_0,.bool a0_1,.slice A0_2 l0_2.length c0_2],.int .i64 x4_2] ?_;(with_reducible refine (bp.calls k2 a0_0 a0_1 _ _ l0_2 x4_2 true _ ?_ ?_ A2.out).mono ?_);exact bn;exact HC0_2.out;rintro e w3 ⟨rfl,hb⟩;refine ⟨_,rfl,?_⟩;replace HO_1:=q1_ HO_1 hb;replace BK1:=k1_ BK1 hb;replace HB:=hb_ hb ab;(try clear hb)))
   go_meet
   exact ⟨_,(true),aC,H',⟨jI⟩,⟨aD⟩,⟨u1_ BK1⟩,⟨ab⟩⟩
  obtain rfl:=bf_.mpr c4;rw [if_neg ft_] at H;obtain ⟨t2,A4,H⟩:=o1_ H
  by_cases c5:t2=true
  ·subst c5
   rw [if_pos rfl] at H;have H':=A0_ H;clear H;have hcz2:=c3_ BK1
   go_wp2_with (first|((with_reducible refine gc_ (f:=73) rfl ?_);refine gl_ 36 Tryd.func73 #[.agg #[.int .i64 a0_0,.bool a0_1,.slice A0_2 l0_2.length c0_2],.int .i64 x4_2] ?_;(with_reducible refine (bp.calls k2 a0_0 a0_1 _ _ l0_2 x4_2 false _ ?_ ?_ A2.out).mono ?_);exact bn;exact HC0_2.out;rintro e w3 ⟨rfl,hb⟩;refine ⟨_,rfl,?_⟩;replace HO_1:=q1_ HO_1 hb;replace BK1:=k1_ BK1 hb;replace HB:=hb_ hb ab;(try clear hb);have hcz3:=c3_ BK1)|(go_at_call 73;(with_reducible refine (bp.calls k2 a0_0 a0_1 _ _ l0_2 (Int.tmod (wrap64 ((wrap64 (x4_2 - 1))+a0_0)) a0_0) true _ ?_ ?_ A4.out).mono ?_);exact bn;exact HC0_2.out;rintro e w4 ⟨rfl,hb⟩;replace HO_1:=q1_ HO_1 hb;replace BK1:=k1_ BK1 hb;replace HB:=hb_ hb ab;(try clear hb)))
   go_meet
   exact ⟨_,(false),aC,H',⟨jI⟩,⟨aD⟩,⟨u1_ BK1⟩,⟨ab⟩⟩
  obtain rfl:=bf_.mpr c5;rw [if_neg ft_] at H
  by_cases c6:a0_1=true
  ·subst c6
   rw [if_pos rfl] at H;have H':=A0_ H;clear H;have hcz2:=c3_ BK1
   go_wp2_with (first|((with_reducible refine gc_ (f:=73) rfl ?_);refine gl_ 36 Tryd.func73 #[.agg #[.int .i64 a0_0,.bool true,.slice A0_2 l0_2.length c0_2],.int .i64 x4_2] ?_;(with_reducible refine (bp.calls k2 a0_0 true _ _ l0_2 x4_2 false _ ?_ ?_ A2.out).mono ?_);exact bn;exact HC0_2.out;rintro e w3 ⟨rfl,hb⟩;refine ⟨_,rfl,?_⟩;replace HO_1:=q1_ HO_1 hb;replace BK1:=k1_ BK1 hb;replace HB:=hb_ hb ab;(try clear hb);have hcz3:=c3_ BK1)|(go_at_call 73;(with_reducible refine (bp.calls k2 a0_0 true _ _ l0_2 (Int.tmod (wrap64 ((wrap64 (x4_2 - 1))+a0_0)) a0_0) false _ ?_ ?_ A4.out).mono ?_);exact bn;exact HC0_2.out;rintro e w4 ⟨rfl,hb⟩;replace HO_1:=q1_ HO_1 hb;replace BK1:=k1_ BK1 hb;replace HB:=hb_ hb ab;(try clear hb);have hcz4:=c3_ BK1))
   go_meet
   exact ⟨_,(true),aC,H',⟨jI⟩,⟨aD⟩,⟨u1_ BK1⟩,⟨ab⟩⟩
  obtain rfl:=bf_.mpr c6;rw [if_neg ft_] at H;have H':=A0_ H;clear H;have hcz2:=c3_ BK1
  go_wp2_with (first|((with_reducible refine gc_ (f:=73) rfl ?_);refine gl_ 36 Tryd.func73 #[.agg #[.int .i64 a0_0,.bool false,.slice A0_2 l0_2.length c0_2],.int .i64 x4_2] ?_;(with_reducible refine (bp.calls k2 a0_0 false _ _ l0_2 x4_2 false _ ?_ ?_ A2.out).mono ?_);exact bn;exact HC0_2.out;rintro e w3 ⟨rfl,hb⟩;refine ⟨_,rfl,?_⟩;replace HO_1:=q1_ HO_1 hb;replace BK1:=k1_ BK1 hb;replace HB:=hb_ hb ab;(try clear hb);have hcz3:=c3_ BK1)|(go_at_call 73;(with_reducible refine (bp.calls k2 a0_0 false _ _ l0_2 (Int.tmod (wrap64 ((wrap64 (x4_2 - 1))+a0_0)) a0_0) false _ ?_ ?_ A4.out).mono ?_);exact bn;exact HC0_2.out;rintro e w4 ⟨rfl,hb⟩;replace HO_1:=q1_ HO_1 hb;replace BK1:=k1_ BK1 hb;replace HB:=hb_ hb ab;(try clear hb);have hcz4:=c3_ BK1))
  go_meet
  exact ⟨_,(decide (x4_2 > 0)),aC,H',⟨jI⟩,⟨aD⟩,⟨u1_ BK1⟩,⟨ab⟩⟩
 clear HC15
 try clear c1
 try clear c2
 try clear c2b0
 try clear c3
 try clear c3b0
 try clear c3b1
 (try clear hcz1)
 obtain ⟨kq,x50_14,rfl,HA,HJ2,HO_1,BK1,HB⟩:=hcut
 cases kq with|zero=>exact absurd HA.out (by simp [ak.j2])|succ kj2=>?_
 have H:=HA.out;clear HA;simp only [ak.j2] at H
 by_cases c4:x50_14=true
 ·subst c4
  rw [if_pos rfl] at H;have H':=A0_ H;clear H
  go_wp2
  go_roundg kj2
  case measure=>have:=HJ1.out;have:=HK1.out;have:=HJ2.out;omega
  exact ⟨(x3_2),(wrap64 (x4_2+1)),aC,H',⟨nR⟩,⟨aD⟩,⟨u1_ BK1⟩,⟨ab⟩⟩
 obtain rfl:=bf_.mpr c4;rw [if_neg ft_] at H;have H':=A0_ H;clear H
 go_wp2
 go_loopg [6] kj2 (fun kq v6 w'=>∃ (x6_4:Int),v6=.int .i64 x6_4∧Aside0 (ak.l1 kq x3_2 x4_2 x6_4 a0_0 a0_1 l0_2=some r)∧Aside0 (kq≤kj2)∧Aside0 (Kd.R k72 72 w' w.heap.size (fun _=>True) u3 x3_2)∧Aside0 (w'.heap[gb1]?=some (.cells #[.int .i64 a0_0,.bool a0_1,(.slice A0_2 l0_2.length c0_2)] 26 (0,0)))∧Aside0 (Below w.heap.size w w'))
 case atStart=>exact ⟨(0),aC,H',⟨Nat.le_refl _⟩,⟨aD⟩,⟨u1_ BK1⟩,⟨ab⟩⟩
 clear H'
 try clear c1
 try clear c2
 try clear c2b0
 try clear c3
 try clear c3b0
 try clear c3b1
 try clear c4
 (try clear hcz1)
 obtain ⟨x6_4,rfl,HA,HK2,HO_1,BK1,HB⟩:=hrel
 cases gk with|zero=>exact absurd HA.out (by simp [ak.l1])|succ k4=>?_
 have H:=HA.out;clear HA;simp only [ak.l1] at H
 by_cases c5:a0_0=0
 ·rw [if_pos c5] at H
  exact absurd H bx
 rw [if_neg c5] at H;obtain ⟨c5b0,c5b1⟩:=ef_ c5;obtain ⟨t1,A2,H⟩:=o1_ H
 by_cases c6:t1=true
 ·subst c6
  rw [if_pos rfl] at H;obtain ⟨c7,H⟩:=is_ H;have LMc1:=A0_ c7;clear c7;obtain ⟨y2,hy2⟩:∃ y_:List (S72),y_=(x3_2++[(⟨x4_2,x6_4⟩:S72)]):=⟨_,rfl⟩;replace H:(ak.l0 k4 y2 (wrap64 (x4_2+1)) a0_0 a0_1 l0_2)=some r:=dO;have Ny2:=A0_ hy2;clear hy2;have H':=A0_ H;clear H
  try go_wp2
  replace HO_1:=A0_ (rd_ HO_1.out);replace BK1:=A0_ (kd_ BK1.out);replace HB:=A0_ (bd_ HB.out)
  refine s3_ 21 [] BK1 ak.tab10 ak.bits10 (fun hHeld HT_ HW_=>?_)
  generalize wr.drew=w3 at HO_1 BK1 HB hHeld ⊢
  refine pu_ 1 52 ?_
  refine pu_ 2 53 ?_
  refine pu_ 3 54 ?_
  refine pu_ 4 55 ?_
  refine tk_ 0 51 hHeld ?_
  refine tk_ 5 56 hHeld ?_
  refine pu_ 6 57 ?_
  refine on_ 7 (some 58) (fun K hK=>?_)
  refine gs_ Tryd.func73 #[.agg #[.int .i64 a0_0,.bool a0_1,.slice A0_2 l0_2.length c0_2],.int .i64 (Int.tmod (wrap64 (x4_2+x6_4)) a0_0)] ?_
  with_reducible refine (bp.calls k4 a0_0 a0_1 _ _ l0_2 (Int.tmod (wrap64 (x4_2+x6_4)) a0_0) true _ ?_ ?_ A2.out).mono ?_
  exact bn
  exact HC0_2.out
  rintro e w4 ⟨rfl,hb⟩
  refine ⟨_,rfl,?_⟩
  replace HO_1:=q1_ HO_1 hb;replace BK1:=k1_ BK1 hb;replace HB:=hb_ hb ab
  (try clear hb)
  refine hK.out _ _ (c3_ BK1) (fun hHeld=>?_)
  clear hK K
  refine nm_ 58 ?_
  refine pu_ 8 59 ?_
  refine pu_ 9 60 ?_
  refine pv_ 10 61 ?_
  refine pv_ 11 62 ?_
  refine pv_ 12 63 ?_
  refine pv_ 13 64 ?_
  refine pv_ 14 65 ?_
  refine pv_ 15 66 ?_
  refine pv_ 16 67 ?_
  refine pv_ 17 68 ?_
  refine pv_ 18 69 ?_
  refine pv_ 19 70 ?_
  refine pu_ 20 71 ?_
  refine dn_ ?_
  try go_wp2_with (first|((with_reducible refine bO (b:=.append) (xs:=#[.tmp 74,.tmp 78]) rfl ?_);(try (refine cL (by rfl) ?_;dsimp only));at_builtin;refine Kd.R_append k72 (w0:=w) w.heap.size rfl (.tmp 74) (.tmp 78) 69 72 (.agg #[(.int .i64 0),(.int .i64 0)]) 16 rfl Tryd.underlying69 km rfl ao bL u3 x3_2 (⟨x4_2,x6_4⟩:S72) [.int .i64 x4_2,.int .i64 x6_4] (fun _=>True) (fun _=>False) rfl rfl ?aP (fun _ hk=>hk.elim) ?aF ?aO ?aB ?aS ?aL ?_;(case aP=>exact hY _ _ _ (⟨x4_2,x6_4⟩:S72));(case aB=>exact ab);(case aF=>exact (fun _ _=>trivial));(case aO=>exact aD);(case aS=>exact (bz_ ab));(case aL=>have:=LMc1.out;omega);intro v7 w5 ho hb hg hat;rw [← Ny2.out] at ho;have n0_:=A0_ (a6 (g:=gb1) (o:=.cells #[.int .i64 a0_0,.bool a0_1,.slice A0_2 l0_2.length c0_2] 26 (0,0)) (u1_ BK1) hg (Kd.R_ne HO_1.out BK1.out ao));have n1_:=A0_ (hb);have n2_:=A0_ (ho);clear BK1 HB HO_1;have BK1:=n0_;have HB:=n1_;have HO2:=n2_;clear n0_ n1_ n2_ ho hb hg hat))
  go_roundg k4
  case measure=>have:=HJ1.out;have:=HK1.out;have:=HJ2.out;have:=HK2.out;omega
  exact ⟨(y2),(wrap64 (x4_2+1)),aC,H',⟨nS⟩,⟨cQ⟩,⟨u1_ BK1⟩,⟨ab⟩⟩
 obtain rfl:=bf_.mpr c6;rw [if_neg ft_] at H
 by_cases c7:a0_1=true
 ·subst c7
  rw [if_pos rfl] at H;have H':=A0_ H;clear H
  try go_wp2
  replace HO_1:=A0_ (rd_ HO_1.out);replace BK1:=A0_ (kd_ BK1.out);replace HB:=A0_ (bd_ HB.out)
  refine s3_ 21 [] BK1 ak.tab10 ak.bits10 (fun hHeld HT_ HW_=>?_)
  generalize wr.drew=w3 at HO_1 BK1 HB hHeld ⊢
  refine pu_ 1 52 ?_
  refine pu_ 2 53 ?_
  refine pu_ 3 54 ?_
  refine pu_ 4 55 ?_
  refine tk_ 0 51 hHeld ?_
  refine tk_ 5 56 hHeld ?_
  refine pu_ 6 57 ?_
  refine on_ 7 (some 58) (fun K hK=>?_)
  refine gs_ Tryd.func73 #[.agg #[.int .i64 a0_0,.bool true,.slice A0_2 l0_2.length c0_2],.int .i64 (Int.tmod (wrap64 (x4_2+x6_4)) a0_0)] ?_
  with_reducible refine (bp.calls k4 a0_0 true _ _ l0_2 (Int.tmod (wrap64 (x4_2+x6_4)) a0_0) false _ ?_ ?_ A2.out).mono ?_
  exact bn
  exact HC0_2.out
  rintro e w4 ⟨rfl,hb⟩
  refine ⟨_,rfl,?_⟩
  replace HO_1:=q1_ HO_1 hb;replace BK1:=k1_ BK1 hb;replace HB:=hb_ hb ab
  (try clear hb)
  refine hK.out _ _ (c3_ BK1) (fun hHeld=>?_)
  clear hK K
  refine nm_ 58 ?_
  refine pu_ 8 59 ?_
  refine pu_ 9 60 ?_
  refine pu_ 10 61 ?_
  refine tk_ 11 62 hHeld ?_
  refine pu_ 12 63 ?_
  refine pv_ 13 64 ?_
  refine pv_ 14 65 ?_
  refine pv_ 15 66 ?_
  refine pv_ 16 67 ?_
  refine pv_ 17 68 ?_
  refine pv_ 18 69 ?_
  refine pu_ 19 70 ?_
  refine pu_ 20 71 ?_
  refine dn_ ?_
  try go_wp2
  go_roundg k4
  case measure=>have:=HJ1.out;have:=HK1.out;have:=HJ2.out;have:=HK2.out;omega
  exact ⟨(wrap64 (x6_4+1)),aC,H',⟨nS⟩,⟨aD⟩,⟨u1_ BK1⟩,⟨ab⟩⟩
 obtain rfl:=bf_.mpr c7;rw [if_neg ft_] at H
 by_cases c8:(wrap64 (x4_2+x6_4))<a0_0
 ·rw [if_pos c8] at H
  have c8b0:decide ((wrap64 (x4_2+x6_4))<a0_0)=true:=dt_ c8;clear c8;have H':=A0_ H;clear H
  try go_wp2
  replace HO_1:=A0_ (rd_ HO_1.out);replace BK1:=A0_ (kd_ BK1.out);replace HB:=A0_ (bd_ HB.out)
  refine s3_ 21 [] BK1 ak.tab10 ak.bits10 (fun hHeld HT_ HW_=>?_)
  generalize wr.drew=w3 at HO_1 BK1 HB hHeld ⊢
  refine pu_ 1 52 ?_
  refine pu_ 2 53 ?_
  refine pu_ 3 54 ?_
  refine pu_ 4 55 ?_
  refine tk_ 0 51 hHeld ?_
  refine tk_ 5 56 hHeld ?_
  refine pu_ 6 57 ?_
  refine on_ 7 (some 58) (fun K hK=>?_)
  refine gs_ Tryd.func73 #[.agg #[.int .i64 a0_0,.bool false,.slice A0_2 l0_2.length c0_2],.int .i64 (Int.tmod (wrap64 (x4_2+x6_4)) a0_0)] ?_
  with_reducible refine (bp.calls k4 a0_0 false _ _ l0_2 (Int.tmod (wrap64 (x4_2+x6_4)) a0_0) false _ ?_ ?_ A2.out).mono ?_
  exact bn
  exact HC0_2.out
  rintro e w4 ⟨rfl,hb⟩
  refine ⟨_,rfl,?_⟩
  replace HO_1:=q1_ HO_1 hb;replace BK1:=k1_ BK1 hb;replace HB:=hb_ hb ab
  (try clear hb)
  refine hK.out _ _ (c3_ BK1) (fun hHeld=>?_)
  clear hK K
  refine nm_ 58 ?_
  refine pu_ 8 59 ?_
  refine pu_ 9 60 ?_
  refine pu_ 10 61 ?_
  refine tk_ 11 62 hHeld ?_
  refine pu_ 12 63 ?_
  refine pu_ 13 64 ?_
  refine pu_ 14 65 ?_
  refine pu_ 15 66 ?_
  refine pu_ 16 67 ?_
  refine tk_ 17 68 hHeld ?_
  refine pu_ 18 69 ?_
  refine pu_ 19 70 ?_
  refine pu_ 20 71 ?_
  refine dn_ ?_
  try go_wp2
  go_roundg k4
  case measure=>have:=HJ1.out;have:=HK1.out;have:=HJ2.out;have:=HK2.out;omega
  exact ⟨(wrap64 (x6_4+1)),aC,H',⟨nS⟩,⟨aD⟩,⟨u1_ BK1⟩,⟨ab⟩⟩
 rw [if_neg c8] at H;have c8b0:decide ((wrap64 (x4_2+x6_4))<a0_0)=false:=decide_eq_false c8;clear c8;obtain ⟨c9,H⟩:=is_ H;have LMc1:=A0_ c9;clear c9;obtain ⟨y2,hy2⟩:∃ y_:List (S72),y_=(x3_2++[(⟨x4_2,x6_4⟩:S72)]):=⟨_,rfl⟩;replace H:(ak.l0 k4 y2 (wrap64 (x4_2+1)) a0_0 false l0_2)=some r:=dO;have Ny2:=A0_ hy2;clear hy2;have H':=A0_ H;clear H
 try go_wp2
 replace HO_1:=A0_ (rd_ HO_1.out);replace BK1:=A0_ (kd_ BK1.out);replace HB:=A0_ (bd_ HB.out)
 refine s3_ 21 [] BK1 ak.tab10 ak.bits10 (fun hHeld HT_ HW_=>?_)
 generalize wr.drew=w3 at HO_1 BK1 HB hHeld ⊢
 refine pu_ 1 52 ?_
 refine pu_ 2 53 ?_
 refine pu_ 3 54 ?_
 refine pu_ 4 55 ?_
 refine tk_ 0 51 hHeld ?_
 refine tk_ 5 56 hHeld ?_
 refine pu_ 6 57 ?_
 refine on_ 7 (some 58) (fun K hK=>?_)
 refine gs_ Tryd.func73 #[.agg #[.int .i64 a0_0,.bool false,.slice A0_2 l0_2.length c0_2],.int .i64 (Int.tmod (wrap64 (x4_2+x6_4)) a0_0)] ?_
 with_reducible refine (bp.calls k4 a0_0 false _ _ l0_2 (Int.tmod (wrap64 (x4_2+x6_4)) a0_0) false _ ?_ ?_ A2.out).mono ?_
 exact bn
 exact HC0_2.out
 rintro e w4 ⟨rfl,hb⟩
 refine ⟨_,rfl,?_⟩
 replace HO_1:=q1_ HO_1 hb;replace BK1:=k1_ BK1 hb;replace HB:=hb_ hb ab
 (try clear hb)
 refine hK.out _ _ (c3_ BK1) (fun hHeld=>?_)
 clear hK K
 refine nm_ 58 ?_
 refine pu_ 8 59 ?_
 refine pu_ 9 60 ?_
 refine pu_ 10 61 ?_
 refine tk_ 11 62 hHeld ?_
 refine pu_ 12 63 ?_
 refine pu_ 13 64 ?_
 refine pu_ 14 65 ?_
 refine pu_ 15 66 ?_
 refine pu_ 16 67 ?_
 refine tk_ 17 68 hHeld ?_
 refine pu_ 18 69 ?_
 refine pu_ 19 70 ?_
 refine pu_ 20 71 ?_
 refine dn_ ?_
 try go_wp2_with (first|((with_reducible refine bO (b:=.append) (xs:=#[.tmp 74,.tmp 78]) rfl ?_);(try (refine cL (by rfl) ?_;dsimp only));at_builtin;refine Kd.R_append k72 (w0:=w) w.heap.size rfl (.tmp 74) (.tmp 78) 69 72 (.agg #[(.int .i64 0),(.int .i64 0)]) 16 rfl Tryd.underlying69 km rfl ao bL u3 x3_2 (⟨x4_2,x6_4⟩:S72) [.int .i64 x4_2,.int .i64 x6_4] (fun _=>True) (fun _=>False) rfl rfl ?aP (fun _ hk=>hk.elim) ?aF ?aO ?aB ?aS ?aL ?_;(case aP=>exact hY _ _ _ (⟨x4_2,x6_4⟩:S72));(case aB=>exact ab);(case aF=>exact (fun _ _=>trivial));(case aO=>exact aD);(case aS=>exact (bz_ ab));(case aL=>have:=LMc1.out;omega);intro v7 w5 ho hb hg hat;rw [← Ny2.out] at ho;have n0_:=A0_ (a6 (g:=gb1) (o:=.cells #[.int .i64 a0_0,.bool false,.slice A0_2 l0_2.length c0_2] 26 (0,0)) (u1_ BK1) hg (Kd.R_ne HO_1.out BK1.out ao));have n1_:=A0_ (hb);have n2_:=A0_ (ho);clear BK1 HB HO_1;have BK1:=n0_;have HB:=n1_;have HO2:=n2_;clear n0_ n1_ n2_ ho hb hg hat))
 go_roundg k4
 case measure=>have:=HJ1.out;have:=HK1.out;have:=HJ2.out;have:=HK2.out;omega
 exact ⟨(y2),(wrap64 (x4_2+1)),aC,H',⟨nS⟩,⟨cQ⟩,⟨u1_ BK1⟩,⟨ab⟩⟩

def aX.l0:Nat→List Int→List Int→Int→Int→Bool→List Int→Option ((List (S72)))
 | 0,_,_,_,_,_,_=>none
 | k+1,x3,x4,x5,xa,xb,xc=>if x5<xa then ((bo.f k x4 x5).bind fun t504=>(if t504=true then (aX.l0 k x3 x4 (wrap64 (x5+1)) xa xb xc) else (if x3.length<17592186044416 then (aX.l0 k (x3++[x5]) x4 (wrap64 (x5+1)) xa xb xc) else (none)))) else ((cA.f xa xb xc x3).bind fun bt508=>((ak.f k bt508.1 bt508.2.1 bt508.2.2).bind fun t513=>(some t513)))
def aX.f (k:Nat) (a0_0:Int) (a0_1:Bool) (l0_2:List Int):Option ((List (S72))):=(au.f k a0_0 a0_1 l0_2).bind fun t501=>(aX.l0 k (([]:List Int)) t501 0 a0_0 a0_1 l0_2)
theorem aX.mono_l:∀ k,(∀ y0 y1 y2 y3 y4 y5,LeO (aX.l0 k y0 y1 y2 y3 y4 y5) (aX.l0 (k+1) y0 y1 y2 y3 y4 y5))
 | 0=>fun _ _ _ _ _ _ r h=>by simp [aX.l0] at h
 | k+1=>by
  have ih0:=aX.mono_l k
  ·intro y0 y1 y2 y3 y4 y5
   unfold aX.l0
   repeat' with_reducible first|exact ih0 ..|exact bo.mono ..|exact au.mono ..|exact ak.mono ..|exact LeO.refl ..|exact LeO.none ..|refine LeO.ite ?_ ?_|refine LeO.bind ?_ (fun _=>?_)
theorem aX.mono:∀ a0 a1 a2 k,LeO (aX.f k a0 a1 a2) (aX.f (k+1) a0 a1 a2):=by
 intro a0 a1 a2 k;have ih0:=aX.mono_l k;unfold aX.f
 repeat' with_reducible first|exact ih0 ..|exact bo.mono ..|exact au.mono ..|exact ak.mono ..|exact LeO.refl ..|exact LeO.none ..|refine LeO.ite ?_ ?_|refine LeO.bind ?_ (fun _=>?_)
theorem aX.calls (k:Nat) (a0_0:Int) (a0_1:Bool) (A0_2:Option Addr) (c0_2:Nat) (l0_2:List Int) (r:List (S72)) (w:World) (hr0_2:Kd.C (Kd.int .i64) w A0_2 l0_2.length l0_2) (hc0_2:l0_2.length≤c0_2) (H:aX.f k a0_0 a0_1 l0_2=some r) :
  Calls Tryd.prog 58 #[.agg #[.int .i64 a0_0,.bool a0_1,.slice A0_2 l0_2.length c0_2]] w fun e w'=>∃ v0_:Value,e=.returned (v0_)∧Kd.R k72 72 w' w.heap.size (fun _=>True) v0_ r∧Below w.heap.size w w':=by
 have hu26:=Tryd.underlying26;have HR0_2:=A0_ hr0_2;have HC0_2:=A0_ hc0_2;clear hr0_2 hc0_2;have HB:=A0_ (Below.refl w.heap.size w);unfold aX.f at H;obtain ⟨y1,hy1⟩:∃ y_:List Int,y_=(([]:List Int)):=⟨_,rfl⟩;replace H:((au.f k a0_0 a0_1 l0_2).bind fun t1=>(aX.l0 k y1 t1 0 a0_0 a0_1 l0_2))=some r:=dp;have Ny1:=A0_ hy1;clear hy1;obtain ⟨t1,A2,H⟩:=o1_ H;have H':=A0_ H;clear H;go_enter Tryd.func58,Tryd.ntmps58
 go_wp2_with (first|((with_reducible refine gd_ (N:=1) rfl ?_);refine bx_ 1 #[.int .i64 a0_0,.bool a0_1,.slice A0_2 l0_2.length c0_2] 26 ?_;intro gb1 hg w1 BK1 hb;have GW1:=ge_ hg am;have GE1:=GW1;replace HB:=hb_ hb am;clear hb hg)|((with_reducible refine gd_ (N:=6) rfl ?_);refine Kd.R_lit (Kd.int .i64) _ 3 ?hg (N:=6) ?hd (xs:=([]:List Int)) (inner:=[]) (ok:=fun _=>True) (okp:=fun _=>True) ?hr ?hp (fun _ hk=>hk) trivial (Below.refl _ _) (Nat.le_refl _) bx ?_;(case hd=>rfl);(case hg=>rfl);(case hr=>go_simp;first|done|rfl);(case hp=>exact (bu.none _ _));intro v1 w2 ho5 hb hg_ hnew_;clear hg_ hnew_;(first|rw [← Ny1.out] at ho5|(simp only [Int.reduceToNat] at ho5;rw [← Ny1.out] at ho5));have HO1:=A0_ (Kd.R_lower ho5 (bz_ ab));replace BK1:=k1_ BK1 hb;replace HB:=hb_ hb ab;clear hb ho5;have hcz1:=c3_ BK1)|((with_reducible refine gc_ (f:=72) rfl ?_);refine gl_ 8 Tryd.func72 #[.agg #[.int .i64 a0_0,.bool a0_1,.slice A0_2 l0_2.length c0_2]] ?_;(with_reducible refine (au.calls k a0_0 a0_1 _ _ l0_2 t1 _ ?_ ?_ A2.out).mono ?_);exact bn;exact HC0_2.out;rintro e w3 ⟨v2,rfl,ho0,hb⟩;refine ⟨_,rfl,?_⟩;have HO2:=A0_ (Kd.R_lower (Kd.R_new' ho0 (Kd.R_lt bR)) (bz_ ab));replace HO1:=A0_ (Kd.R_elder' bR (Kd.R_base ho0) hb);replace BK1:=k1_ BK1 hb;replace HB:=hb_ hb ab;(try clear hb ho0)))
 go_loopg [3,5] k (fun kq v3 v4 w'=>∃ (x3_1:List Int) (x5_1:Int),v4=.int .i64 x5_1∧Aside0 (aX.l0 kq x3_1 t1 x5_1 a0_0 a0_1 l0_2=some r)∧Aside0 (kq≤k)∧Aside0 (Kd.R (Kd.int .i64) 3 w' w.heap.size (fun k_=>no_ v2 k_) v3 x3_1)∧Aside0 (Kd.R (Kd.int .i64) 3 w' w.heap.size (fun k_=>no_ v3 k_) v2 t1)∧Aside0 (w'.heap[gb1]?=some (.cells #[.int .i64 a0_0,.bool a0_1,(.slice A0_2 l0_2.length c0_2)] 26 (0,0)))∧Aside0 (Below w.heap.size w w'))
 case atStart=>exact ⟨(y1),(0),aC,H',⟨Nat.le_refl _⟩,⟨gQ⟩,⟨fT⟩,⟨u1_ BK1⟩,⟨ab⟩⟩
 clear H'
 (try clear hcz1)
 obtain ⟨x3_1,x5_1,rfl,HA,HK1,HO_1,HO_2,BK1,HB⟩:=hrel
 cases gk with|zero=>exact absurd HA.out (by simp [aX.l0])|succ k1=>?_
 have H:=HA.out;clear HA;simp only [aX.l0] at H
 by_cases c1:x5_1<a0_0
 case neg =>
  rw [if_neg c1] at H;have c1b0:decide (x5_1<a0_0)=false:=decide_eq_false c1;clear c1;obtain ⟨⟨t2,t3,t4⟩,A4,H⟩:=o1_ H;obtain ⟨t5,A6,H⟩:=o1_ H;replace H:(some t5)=some r:=H;obtain rfl:=si_ H;have hcz2:=c3_ BK1;obtain ⟨Ao1,co1,eo1⟩:=Kd.R_slice HO_1.out;subst eo1
  go_wp2_with (first|((with_reducible refine gc_ (f:=88) rfl ?_);refine gl_ 25 Tryd.func88 #[.agg #[.int .i64 a0_0,.bool a0_1,.slice A0_2 l0_2.length c0_2],.slice Ao1 x3_1.length co1] ?_;(with_reducible refine (cA.calls a0_0 a0_1 _ _ l0_2 (fun k_=>some k_=(.slice Ao1 x3_1.length co1:Value).ownBlock) (.slice Ao1 x3_1.length co1) x3_1 t2 t3 t4 w _ ?_ ?_ ?_ ?_ A4.out).mono ?_);exact ab;exact Kd.C_kept_came (Kd.heap_int .i64) HR0_2.out ab (fun k_ hs_=>(fun e_=>Kd.R_base HO_1.out k_ e_.symm) hs_);exact HC0_2.out;exact Kd.R_tight rfl HO_1.out;rintro e w4 ⟨v5,rfl,ho0,hb,hkp⟩;refine ⟨_,rfl,?_⟩;have n0_:=A0_ (Kd.R_mono (ok':=fun k_=>no_ v5 k_) (Kd.R_keptB (HO_2.out) hkp (fun k_ hk_ hs_=>(hk_) hs_)) (fun k_ hk_=>fun e_=>Or.elim (ho0.1 k_ e_.symm) (fun hs_=>hk_.2.1 hs_) (fun hn_=>Nat.not_le.2 hk_.2.2 hn_)));have n1_:=A0_ (e6 (u1_ BK1) hkp (fun hs_=>(fun e_=>(Kd.R_ne HO_1.out BK1.out ao) e_) hs_));have n2_:=A0_ (Kd.R_mono (ok':=fun k_=>no_ v2 k_) ho0 (fun k_ hk_=>Or.elim hk_ (fun hs_=>fun e_=>(((HO_2.out).1 k_ e_.symm)) hs_) (fun hn_=>(Kd.fresh' (Kd.R_lt bW) k_ hn_))));have n3_:=A0_ (hb);clear HO_2 BK1 HB HO_1;have HO_2:=n0_;have BK1:=n1_;have HO3:=n2_;have HB:=n3_;clear n0_ n1_ n2_ n3_;(try clear hb);(try clear hkp);(try clear ho0);obtain ⟨Ao2,co2,eo2⟩:=Kd.R_slice HO3.out;subst eo2)|((with_reducible refine gc_ (f:=57) rfl ?_);refine gl_ 26 Tryd.func57 #[.agg #[.int .i64 t2,.bool t3,.slice Ao2 t4.length co2]] ?_;(with_reducible refine (ak.calls k1 t2 t3 _ _ t4 t5 _ ?_ ?_ A6.out).mono ?_);exact kk;exact (rr_ HO3.out).2.1;rintro e w5 ⟨v6,rfl,ho0,hb⟩;refine ⟨_,rfl,?_⟩;replace HO_2:=q1_ HO_2 hb;replace HO3:=q1_ HO3 hb;have HO4:=A0_ (Kd.R_lower ho0 (bz_ ab));replace BK1:=k1_ BK1 hb;replace HB:=hb_ hb ab;(try clear hb ho0)))
  go_ret
  exact ⟨_,bc,iY,ab⟩
 rw [if_pos c1] at H;have c1b0:decide (x5_1<a0_0)=true:=dt_ c1;clear c1;obtain ⟨t2,A4,H⟩:=o1_ H
 by_cases c2:t2=true
 ·subst c2
  rw [if_pos rfl] at H;have H':=A0_ H;clear H;have hcz2:=c3_ BK1;obtain ⟨Ao1,co1,eo1⟩:=Kd.R_slice HO_2.out;subst eo1
  go_wp2_with (first|((with_reducible refine gc_ (f:=37) rfl ?_);refine gl_ 17 Tryd.func37 #[.slice Ao1 t1.length co1,.int .i64 x5_1] ?_;(with_reducible refine (bo.calls k1 _ _ t1 x5_1 true _ ?_ ?_ A4.out).mono ?_);exact e7;exact (rr_ HO_2.out).2.1;rintro e w' ⟨rfl,⟨nd,rfl⟩⟩;refine ⟨_,rfl,?_⟩))
  go_roundg k1
  case measure=>have:=HK1.out;omega
  exact ⟨(x3_1),(wrap64 (x5_1+1)),aC,H',⟨de⟩,⟨aD⟩,⟨bW⟩,⟨u1_ BK1⟩,⟨ab⟩⟩
 obtain rfl:=bf_.mpr c2;rw [if_neg ft_] at H;obtain ⟨c3,H⟩:=is_ H;have LMc1:=A0_ c3;clear c3;obtain ⟨y2,hy2⟩:∃ y_:List Int,y_=(x3_1++[x5_1]):=⟨_,rfl⟩;replace H:(aX.l0 k1 y2 t1 (wrap64 (x5_1+1)) a0_0 a0_1 l0_2)=some r:=dO;have Ny2:=A0_ hy2;clear hy2;have H':=A0_ H;clear H;have hcz2:=c3_ BK1;obtain ⟨Ao1,co1,eo1⟩:=Kd.R_slice HO_2.out;subst eo1
 go_wp2_with (first|((with_reducible refine gc_ (f:=37) rfl ?_);refine gl_ 17 Tryd.func37 #[.slice Ao1 t1.length co1,.int .i64 x5_1] ?_;(with_reducible refine (bo.calls k1 _ _ t1 x5_1 false _ ?_ ?_ A4.out).mono ?_);exact e7;exact (rr_ HO_2.out).2.1;rintro e w' ⟨rfl,⟨nd,rfl⟩⟩;refine ⟨_,rfl,?_⟩)|((with_reducible refine bO (b:=.append) (xs:=#[.tmp 19,.tmp 21]) rfl ?_);at_builtin;refine Kd.R_append (Kd.int .i64) (w0:=w) w.heap.size rfl (.tmp 19) (.tmp 21) 22 3 (.int .i64 0) 8 rfl Tryd.underlying22 cP rfl ao bL u3 x3_1 x5_1 [.int .i64 x5_1] (fun k_=>no_ (.slice Ao1 t1.length co1) k_) (fun _=>False) rfl rfl ?aP (fun _ hk=>hk.elim) ?aF ?aO ?aB ?aS ?aL ?_;(case aP=>exact rfl);(case aB=>exact ab);(case aF=>exact (fun k_ hk=>Kd.fresh' (Kd.R_lt bW) k_ hk));(case aO=>exact aD);(case aS=>exact (bz_ ab));(case aL=>have:=LMc1.out;omega);intro v5 w4 ho hb hg hat;rw [← Ny2.out] at ho;have n0_:=A0_ (Kd.R_after (ok:=(fun _=>True)) pg hg hat);have n1_:=A0_ (a6 (g:=gb1) (o:=.cells #[.int .i64 a0_0,.bool a0_1,.slice A0_2 l0_2.length c0_2] 26 (0,0)) (u1_ BK1) hg (Kd.R_ne HO_1.out BK1.out ao));have n2_:=A0_ (hb);have n3_:=A0_ (ho);clear HO_2 BK1 HB HO_1;have HO_2:=n0_;have BK1:=n1_;have HB:=n2_;have HO3:=n3_;clear n0_ n1_ n2_ n3_ ho hb hg hat))
 go_roundg k1
 case measure=>have:=HK1.out;omega
 exact ⟨(y2),(wrap64 (x5_1+1)),aC,H',⟨de⟩,⟨d9⟩,⟨nC⟩,⟨u1_ BK1⟩,⟨ab⟩⟩

def aZ.l0:Nat→List Int→Int→Option (Int)
 | 0,_,_=>none
 | k+1,x0,x3=>(bo.f k x0 x3).bind fun t516=>(if t516=true then (aZ.l0 k x0 (wrap64 (x3+1))) else (some x3))
def aZ.f (k:Nat) (l0:List Int):Option (Int):=aZ.l0 k l0 0
theorem aZ.mono_l:∀ k,(∀ y0 y1,LeO (aZ.l0 k y0 y1) (aZ.l0 (k+1) y0 y1))
 | 0=>fun _ _ r h=>by simp [aZ.l0] at h
 | k+1=>by
  have ih0:=aZ.mono_l k
  ·intro y0 y1
   unfold aZ.l0
   repeat' with_reducible first|exact ih0 ..|exact bo.mono ..|exact LeO.refl ..|exact LeO.none ..|refine LeO.ite ?_ ?_|refine LeO.bind ?_ (fun _=>?_)
theorem aZ.mono:∀ a0 k,LeO (aZ.f k a0) (aZ.f (k+1) a0):=by
 intro a0 k;have ih0:=aZ.mono_l k;unfold aZ.f
 repeat' with_reducible first|exact ih0 ..|exact bo.mono ..|exact LeO.refl ..|exact LeO.none ..|refine LeO.ite ?_ ?_|refine LeO.bind ?_ (fun _=>?_)
theorem aZ.calls (k:Nat) (A0:Option Addr) (c0:Nat) (l0:List Int) (r:Int) (w:World) (hr0:Kd.C (Kd.int .i64) w A0 l0.length l0) (hc0:l0.length≤c0) (H:aZ.f k l0=some r) :
  Calls Tryd.prog 85 #[.slice A0 l0.length c0] w fun e w'=>e=.returned (.int .i64 r)∧Drawn0 w w':=by
 have HR0:=A0_ hr0;have HC0:=A0_ hc0;clear hr0 hc0;unfold aZ.f at H;have H':=A0_ H;clear H;go_enter Tryd.func85,Tryd.ntmps85
 go_wp2
 go_loopg [3] k (fun kq v1 w'=>∃ (x3_1:Int),v1=.int .i64 x3_1∧Aside0 (aZ.l0 kq l0 x3_1=some r)∧Aside0 (kq≤k)∧Drawn0 w w')
 case atStart=>exact ⟨(0),aC,H',⟨Nat.le_refl _⟩,cT⟩
 clear H';obtain ⟨x3_1,rfl,HA,HK1,⟨m1,rfl⟩⟩:=hrel
 cases gk with|zero=>exact absurd HA.out (by simp [aZ.l0])|succ k1=>?_
 have H:=HA.out;clear HA;simp only [aZ.l0] at H;obtain ⟨t1,A2,H⟩:=o1_ H
 by_cases c1:t1=true
 case neg =>
  obtain rfl:=bf_.mpr c1;rw [if_neg ft_] at H;obtain rfl:=si_ H
  go_wp2_with (first|((with_reducible refine gc_ (f:=37) rfl ?_);refine gl_ 6 Tryd.func37 #[.slice A0 l0.length c0,.int .i64 x3_1] ?_;(with_reducible refine (bo.calls k1 _ _ l0 x3_1 false _ ?_ ?_ A2.out).mono ?_);exact mw;exact HC0.out;rintro e w' ⟨rfl,⟨nd,rfl⟩⟩;refine ⟨_,rfl,?_⟩))
  go_ret
  exact ⟨eq,cT⟩
 subst c1;rw [if_pos rfl] at H;have H':=A0_ H;clear H
 go_wp2_with (first|((with_reducible refine gc_ (f:=37) rfl ?_);refine gl_ 6 Tryd.func37 #[.slice A0 l0.length c0,.int .i64 x3_1] ?_;(with_reducible refine (bo.calls k1 _ _ l0 x3_1 true _ ?_ ?_ A2.out).mono ?_);exact mw;exact HC0.out;rintro e w' ⟨rfl,⟨nd,rfl⟩⟩;refine ⟨_,rfl,?_⟩))
 go_roundg k1
 case measure=>have:=HK1.out;omega
 exact ⟨(wrap64 (x3_1+1)),aC,H',⟨de⟩,cT⟩

mutual
def ay.l0:Nat→Int→List Int→Int→Option (List Int)
 | 0,_,_,_=>none
 | k+1,x0,x3,x4=>if x4≤24 then (ay.l1 k x0 x3 x4 (([]:List Int)) 0) else (some x3)
def ay.l1:Nat→Int→List Int→Int→List Int→Int→Option (List Int)
 | 0,_,_,_,_,_=>none
 | k+1,x0,x3,x4,x5,x6=>if x6<x4 then (if x0=1 then ((cI.f (wrap64 (x6 - 1)) 0).bind fun t113=>(if 0≤t113 then (if t113<(x3.length:Int) then ((cI.f (wrap64 ((wrap64 (x4 - x6)) - 2)) 0).bind fun t115=>(if 0≤t115 then (if t115<(x3.length:Int) then (if x5.length<17592186044416 then (ay.l1 k x0 x3 x4 (x5++[Go.bits .xor .i64 (rd x3 t113) (rd x3 t115)]) (wrap64 (x6+1))) else (none)) else (none)) else (none))) else (none)) else (none))) else (if (wrap64 (x6+1))<x4 then (if 0≤x6 then (if x6<(x3.length:Int) then (if 0≤(wrap64 ((wrap64 (x4 - x6)) - 2)) then (if (wrap64 ((wrap64 (x4 - x6)) - 2))<(x3.length:Int) then (if x5.length<17592186044416 then (ay.l1 k x0 x3 x4 (x5++[Go.bits .xor .i64 (rd x3 x6) (rd x3 (wrap64 ((wrap64 (x4 - x6)) - 2)))]) (wrap64 (x6+1))) else (none)) else (none)) else (none)) else (none)) else (none)) else (ay.l1 k x0 x3 x4 x5 (wrap64 (x6+1))))) else ((aZ.f k x5).bind fun t109=>(if x3.length<17592186044416 then (ay.l0 k x0 (x3++[t109]) (wrap64 (x4+1))) else (none)))
end
def ay.f (k:Nat) (a0:Int):Option (List Int):=ay.l0 k a0 (([]:List Int)) 0
theorem ay.mono_l:∀ k,(∀ y0 y1 y2,LeO (ay.l0 k y0 y1 y2) (ay.l0 (k+1) y0 y1 y2))∧(∀ y0 y1 y2 y3 y4,LeO (ay.l1 k y0 y1 y2 y3 y4) (ay.l1 (k+1) y0 y1 y2 y3 y4))
 | 0=>⟨fun _ _ _ r h=>by simp [ay.l0] at h,fun _ _ _ _ _ r h=>by simp [ay.l1] at h⟩
 | k+1=>by
  obtain ⟨ih0,ih1⟩:=ay.mono_l k
  refine ⟨?_,?_⟩
  ·intro y0 y1 y2
   unfold ay.l0
   repeat' with_reducible first|exact ih0 ..|exact ih1 ..|exact aZ.mono ..|exact LeO.refl ..|exact LeO.none ..|refine LeO.ite ?_ ?_|refine LeO.bind ?_ (fun _=>?_)
  ·intro y0 y1 y2 y3 y4
   unfold ay.l1
   repeat' with_reducible first|exact ih0 ..|exact ih1 ..|exact aZ.mono ..|exact LeO.refl ..|exact LeO.none ..|refine LeO.ite ?_ ?_|refine LeO.bind ?_ (fun _=>?_)
theorem ay.mono:∀ a0 k,LeO (ay.f k a0) (ay.f (k+1) a0):=by
 intro a0 k;obtain ⟨ih0,ih1⟩:=ay.mono_l k;unfold ay.f
 repeat' with_reducible first|exact ih0 ..|exact ih1 ..|exact aZ.mono ..|exact LeO.refl ..|exact LeO.none ..|refine LeO.ite ?_ ?_|refine LeO.bind ?_ (fun _=>?_)
def ay.T10:Bool × List (List Nat × List Nat):=(true,[([],[]),([],[]),([],[]),([2],[2]),([3],[3]),([1,4],[1,4]),([5],[5]),([],[]),([],[]),([],[]),([8,9],[8,9]),([10],[10]),([11,4],[11]),([7,12],[7,12]),([13],[13]),([6,14],[6,14]),([15],[15]),([0,16,12],[0,16]),([17,17,0,1,2,3,4,5,6,7,8,9,10,11,12,13,14,15,16,17],[0,17])])
def ay.B10:List Nat:=[0,0,0,4,12,30,62,0,0,0,768,1792,3868,8092,16284,32766,65534,131071,262143]
theorem ay.tab10:dx .any (dX Tryd.f84 10)=ay.T10:=by kernel_rfl
theorem ay.bits10:cp ay.T10.2 ay.B10=true:=by kernel_rfl
def ay.T12:Bool × List (List Nat × List Nat):=(true,[([],[]),([],[]),([],[]),([1,2],[1,2]),([3],[3]),([],[]),([],[]),([],[]),([6,7],[6,7]),([8],[8]),([5,9],[5,9]),([10],[10]),([4,11],[4,11]),([12],[12]),([0,13],[0,13]),([14,14,0,1,2,3,4,5,6,7,8,9,10,11,12,13,14],[0,14])])
def ay.B12:List Nat:=[0,0,0,6,14,0,0,0,192,448,992,2016,4094,8190,16383,32767]
theorem ay.tab12:dx .any (dX Tryd.f84 12)=ay.T12:=by kernel_rfl
theorem ay.bits12:cp ay.T12.2 ay.B12=true:=by kernel_rfl
theorem ay.calls (k:Nat) (a0:Int) (r:List Int) (w:World) (H:ay.f k a0=some r) :
  Calls Tryd.prog 84 #[.int .i64 a0] w fun e w'=>∃ v0_:Value,e=.returned (v0_)∧Kd.R (Kd.int .i64) 3 w' w.heap.size (fun _=>True) v0_ r∧Below w.heap.size w w':=by
 have HB:=A0_ (Below.refl w.heap.size w);unfold ay.f at H;obtain ⟨y1,hy1⟩:∃ y_:List Int,y_=(([]:List Int)):=⟨_,rfl⟩;replace H:(ay.l0 k a0 y1 0)=some r:=dp;have Ny1:=A0_ hy1;clear hy1;have H':=A0_ H;clear H;go_enter Tryd.func84,Tryd.ntmps84
 go_wp2_with (first|((with_reducible refine gd_ (N:=7) rfl ?_);refine Kd.R_lit (Kd.int .i64) _ 3 ?hg (N:=7) ?hd (xs:=([]:List Int)) (inner:=[]) (ok:=fun _=>True) (okp:=fun _=>True) ?hr ?hp (fun _ hk=>hk) trivial (Below.refl _ _) (Nat.le_refl _) bx ?_;(case hd=>rfl);(case hg=>rfl);(case hr=>go_simp;first|done|rfl);(case hp=>exact (bu.none _ _));intro v1 w1 ho3 hb hg_ hnew_;clear hg_ hnew_;(first|rw [← Ny1.out] at ho3|(simp only [Int.reduceToNat] at ho3;rw [← Ny1.out] at ho3));have HO1:=A0_ (Kd.R_lower ho3 (bz_ am));replace HB:=hb_ hb am;clear hb ho3))
 go_loopg [3,4] k (fun kq v2 v3 w'=>∃ (x3_1:List Int) (x4_1:Int),v3=.int .i64 x4_1∧Aside0 (ay.l0 kq a0 x3_1 x4_1=some r)∧Aside0 (kq≤k)∧Aside0 (Kd.R (Kd.int .i64) 3 w' w.heap.size (fun _=>True) v2 x3_1)∧Aside0 (Below w.heap.size w w'))
 case atStart=>exact ⟨(y1),(0),aC,H',⟨Nat.le_refl _⟩,⟨bR⟩,⟨am⟩⟩
 clear H';obtain ⟨x3_1,x4_1,rfl,HA,HK1,HO_1,HB⟩:=hrel
 cases gk with|zero=>exact absurd HA.out (by simp [ay.l0])|succ k1=>?_
 have H:=HA.out;clear HA;simp only [ay.l0] at H
 by_cases c1:x4_1≤24
 case neg =>
  rw [if_neg c1] at H;have c1b0:decide (x4_1≤24)=false:=decide_eq_false c1;clear c1;obtain rfl:=si_ H
  go_wp2
  go_ret
  exact ⟨_,bc,aD,am⟩
 rw [if_pos c1] at H;have c1b0:decide (x4_1≤24)=true:=dt_ c1;clear c1;obtain ⟨y2,hy2⟩:∃ y_:List Int,y_=(([]:List Int)):=⟨_,rfl⟩;replace H:(ay.l1 k1 a0 x3_1 x4_1 y2 0)=some r:=dO;have Ny2:=A0_ hy2;clear hy2;have H':=A0_ H;clear H
 go_wp2_with (first|((with_reducible refine gd_ (N:=12) rfl ?_);refine Kd.R_lit (Kd.int .i64) _ 3 ?hg (N:=12) ?hd (xs:=([]:List Int)) (inner:=[]) (ok:=fun _=>True) (okp:=fun _=>True) ?hr ?hp (fun _ hk=>hk) trivial (Below.refl _ _) (Nat.le_refl _) bx ?_;(case hd=>rfl);(case hg=>rfl);(case hr=>go_simp;first|done|rfl);(case hp=>exact (bu.none _ _));intro v4 w2 ho6 hb hg_ hnew_;clear hg_ hnew_;(first|rw [← Ny2.out] at ho6|(simp only [Int.reduceToNat] at ho6;rw [← Ny2.out] at ho6));have HO2:=A0_ (Kd.R_lower (Kd.R_new' ho6 (Kd.R_lt aD)) (bz_ am));replace HO_1:=A0_ (Kd.R_elder' aD (Kd.R_base ho6) hb);replace HB:=hb_ hb am;clear hb ho6))
 go_loopg [5,6] k1 (fun kq v5 v6 w'=>∃ (x5_2:List Int) (x6_2:Int),v6=.int .i64 x6_2∧Aside0 (ay.l1 kq a0 x3_1 x4_1 x5_2 x6_2=some r)∧Aside0 (kq≤k1)∧Aside0 (Kd.R (Kd.int .i64) 3 w' w.heap.size (fun k_=>no_ v5 k_) u3 x3_1)∧Aside0 (Kd.R (Kd.int .i64) 3 w' w.heap.size (fun k_=>no_ u3 k_) v5 x5_2)∧Aside0 (Below w.heap.size w w'))
 case atStart=>exact ⟨(y2),(0),aC,H',⟨Nat.le_refl _⟩,⟨nO⟩,⟨fT⟩,⟨am⟩⟩
 clear H'
 try clear c1
 try clear c1b0
 obtain ⟨x5_2,x6_2,rfl,HA,HK2,HO_1,HO_2,HB⟩:=hrel
 cases gk with|zero=>exact absurd HA.out (by simp [ay.l1])|succ k2=>?_
 have H:=HA.out;clear HA;simp only [ay.l1] at H
 by_cases c2:x6_2<x4_1
 case neg =>
  rw [if_neg c2] at H;have c2b0:decide (x6_2<x4_1)=false:=decide_eq_false c2;clear c2;obtain ⟨t1,A2,H⟩:=o1_ H;obtain ⟨c3,H⟩:=is_ H;have LMc1:=A0_ c3;clear c3;obtain ⟨y3,hy3⟩:∃ y_:List Int,y_=(x3_1++[t1]):=⟨_,rfl⟩;replace H:(ay.l0 k2 a0 y3 (wrap64 (x4_1+1)))=some r:=ir;have Ny3:=A0_ hy3;clear hy3;have H':=A0_ H;clear H;obtain ⟨Ao1,co1,eo1⟩:=Kd.R_slice HO_2.out;subst eo1
  go_wp2_with (first|((with_reducible refine gc_ (f:=85) rfl ?_);refine gl_ 59 Tryd.func85 #[.slice Ao1 x5_2.length co1] ?_;(with_reducible refine (aZ.calls k2 _ _ x5_2 t1 _ ?_ ?_ A2.out).mono ?_);exact e7;exact (rr_ HO_2.out).2.1;rintro e w' ⟨rfl,⟨nd,rfl⟩⟩;refine ⟨_,rfl,?_⟩)|((with_reducible refine bO (b:=.append) (xs:=#[.tmp 57,.tmp 60]) rfl ?_);at_builtin;refine Kd.R_append (Kd.int .i64) (w0:=w) w.heap.size rfl (.tmp 57) (.tmp 60) 22 3 (.int .i64 0) 8 rfl Tryd.underlying22 cP rfl ao bL u3 x3_1 t1 [.int .i64 t1] (fun k_=>no_ (.slice Ao1 x5_2.length co1) k_) (fun _=>False) rfl rfl ?aP (fun _ hk=>hk.elim) ?aF ?aO ?aB ?aS ?aL ?_;(case aP=>exact rfl);(case aB=>exact am);(case aF=>exact (fun k_ hk=>Kd.fresh' (Kd.R_lt bW) k_ hk));(case aO=>exact aD);(case aS=>exact (bz_ am));(case aL=>have:=LMc1.out;omega);intro v7 w3 ho hb hg hat;rw [← Ny3.out] at ho;have n0_:=A0_ (Kd.R_after (ok:=(fun _=>True)) pg hg hat);have n1_:=A0_ (hb);have n2_:=A0_ (ho);clear HO_2 HB HO_1;have HO_2:=n0_;have HB:=n1_;have HO3:=n2_;clear n0_ n1_ n2_ ho hb hg hat))
  go_roundg k2
  case measure=>have:=HK1.out;have:=HK2.out;omega
  exact ⟨(y3),(wrap64 (x4_1+1)),aC,H',⟨gg⟩,⟨rA⟩,⟨am⟩⟩
 rw [if_pos c2] at H;have c2b0:decide (x6_2<x4_1)=true:=dt_ c2;clear c2
 by_cases c3:a0=1
 ·rw [if_pos c3] at H
  obtain ⟨c3b0,c3b1⟩:=et_ c3;clear c3;obtain ⟨t1,A2,H⟩:=o1_ H;obtain ⟨c4b0,H⟩:=i1_ H;obtain ⟨c5b0,H⟩:=i1_ H;obtain ⟨t2,A4,H⟩:=o1_ H;obtain ⟨c6b0,H⟩:=i1_ H;obtain ⟨c7b0,H⟩:=i1_ H;obtain ⟨c8,H⟩:=is_ H;have LMc1:=A0_ c8;clear c8;obtain ⟨y3,hy3⟩:∃ y_:List Int,y_=(x5_2++[Go.bits .xor .i64 (rd x3_1 t1) (rd x3_1 t2)]):=⟨_,rfl⟩;replace H:(ay.l1 k2 a0 x3_1 x4_1 y3 (wrap64 (x6_2+1)))=some r:=ir;have Ny3:=A0_ hy3;clear hy3;have H':=A0_ H;clear H
  try go_wp2
  replace HO_1:=A0_ (rd_ HO_1.out);replace HO_2:=A0_ (rd_ HO_2.out);replace HB:=A0_ (bd_ HB.out);obtain ⟨Ao1,co1,eo1⟩:=Kd.R_slice HO_1.out;subst eo1;have p1:0≤(t1:Int):=od_ aE;have q1:t1<(x3_1.length:Int):=od_ aE;obtain ⟨ad1,e1,hx1_0⟩:=Kd.at_int (rr_ HO_1.out).2.2 t1 p1 q1;cases e1;replace p1:=eq_true p1;replace q1:=eq_true q1;have p2:0≤(t2:Int):=od_ aE;have q2:t2<(x3_1.length:Int):=od_ aE;obtain ⟨ad2,e2,hx2_0⟩:=Kd.at_int (rr_ HO_1.out).2.2 t2 p2 q2;obtain rfl:ad1=ad2:=e5;replace p2:=eq_true p2;replace q2:=eq_true q2
  refine dh (n:=19) (S:=fun w'=>w'.cell? (ad1.add (t1).toNat)=some (.int .i64 (rd x3_1 t1))∧w'.cell? (ad1.add (t2).toNat)=some (.int .i64 (rd x3_1 t2))) (ds:=[16,17]) #[false,false,false,false,false,false,false,false,false,false,false,false,false,false,false,false,false,false,false] bS rfl rfl ⟨hx1_0,hx2_0⟩ (fun hHeld=>?_);refine dc ay.tab10 ay.bits10 (fun HT_ HW_=>?_)
  generalize wr.drew=w3 at HO_1 HO_2 HB hx1_0 hx2_0 hHeld ⊢
  refine pu_ 0 20 ?_
  refine pu_ 1 21 ?_
  refine pu_ 2 22 ?_
  refine pu_ 3 23 ?_
  refine pu_ 7 27 ?_
  refine pu_ 8 28 ?_
  refine pu_ 9 29 ?_
  refine pu_ 10 30 ?_
  refine pu_ 11 31 ?_
  refine on_ 4 (some 24) (fun K hK=>?_)
  refine gs_ Tryd.func91 #[.int .i64 (wrap64 (x6_2 - 1)),.int .i64 0] ?_
  with_reducible refine (cI.calls (wrap64 (x6_2 - 1)) 0 t1 _ A2.out).mono ?_
  rintro e w' ⟨rfl,⟨nd,rfl⟩⟩
  refine ⟨_,rfl,?_⟩
  obtain ⟨Ao2,co2,eo2⟩:=Kd.R_slice HO_1.out
  (first|subst eo2|(injection eo2 with f1_ f2_ f3_;have f4_:=f1_.symm;have f5_:=f3_.symm;clear f1_ f2_ f3_;subst f4_;subst f5_))
  refine hK.out _ _ ⟨hHeld.1,hHeld.2⟩ (fun hHeld=>?_)
  clear hK K
  refine nm_ 24 ?_
  refine pu_ 5 25 ?_
  refine tk_ 6 26 hHeld ?_
  refine on_ 12 (some 32) (fun K hK=>?_)
  refine gs_ Tryd.func91 #[.int .i64 (wrap64 ((wrap64 (x4_1 - x6_2)) - 2)),.int .i64 0] ?_
  with_reducible refine (cI.calls (wrap64 ((wrap64 (x4_1 - x6_2)) - 2)) 0 t2 _ A4.out).mono ?_
  rintro e w' ⟨rfl,⟨nd,rfl⟩⟩
  refine ⟨_,rfl,?_⟩
  refine hK.out _ _ ⟨hHeld.1,hHeld.2⟩ (fun hHeld=>?_)
  clear hK K
  refine nm_ 32 ?_
  refine pu_ 13 33 ?_
  refine tk_ 14 34 hHeld ?_
  refine pu_ 15 35 ?_
  refine iW (i:=16) (N:=some 36) #[true,true,true,true,true,true,true,true,true,true,true,true,true,true,true,true,true,false,false] rfl rfl (gD HT_.out bS) ao (fun K hK=>?_)
  refine jj (w1:=?_) (v:=?_) (by rfl) rfl ?_ ?_
  rotate_left 2
  ·go_simp
   constructor
   ·rfl
   rfl
  refine hK.out _ _ ?_
  clear hK K
  refine nm_ 36 ?_
  refine iW (i:=17) (N:=some 37) #[true,true,true,true,true,true,true,true,true,true,true,true,true,true,true,true,true,true,false] rfl rfl (gD HT_.out bS) ao (fun K hK=>?_)
  refine Kd.R_append_step (Kd.int .i64) (w0:=w) w.heap.size (by rfl) (.tmp 20) (.tmp 36) 22 3 (.int .i64 0) 8 rfl Tryd.underlying22 cP rfl ao bL u5 x5_2 (Go.bits .xor .i64 (rd x3_1 t1) (rd x3_1 t2)) [.int .i64 (Go.bits .xor .i64 (rd x3_1 t1) (rd x3_1 t2))] (fun k_=>no_ (.slice (some ad1) x3_1.length co2) k_) (fun _=>False) rfl rfl ?aP (fun _ hk=>hk.elim) ?aF ?aO ?aB ?aS ?aL ?_
  (case aP=>exact rfl)
  (case aB=>exact am)
  (case aF=>exact (fun k_ hk=>Kd.fresh' (Kd.R_lt aD) k_ hk))
  (case aO=>exact bW)
  (case aS=>exact (bz_ am))
  (case aL=>have:=LMc1.out;omega)
  intro v7 w4 ho hb hg hat;rw [← Ny3.out] at ho;have n0_:=A0_ (Kd.R_after (ok:=(fun _=>True)) mD hg hat);have n1_:=A0_ (hb);have n2_:=A0_ (ho);clear HO_1 HB HO_2;have HO_1:=n0_;have HB:=n1_;have HO3:=n2_;clear n0_ n1_ n2_ ho hb hg hat
  refine hK.out _ _ ?_
  clear hK K
  refine nm_ 37 ?_
  refine pu_ 18 5 ?_
  refine dn_ ?_
  try go_wp2
  go_roundg k2
  case measure=>have:=HK1.out;have:=HK2.out;omega
  exact ⟨(y3),(wrap64 (x6_2+1)),aC,H',⟨gg⟩,⟨nO⟩,⟨d9⟩,⟨am⟩⟩
 rw [if_neg c3] at H;obtain ⟨c3b0,c3b1⟩:=ef_ c3
 by_cases c4:(wrap64 (x6_2+1))<x4_1
 case neg =>
  rw [if_neg c4] at H;have c4b0:decide ((wrap64 (x6_2+1))<x4_1)=false:=decide_eq_false c4;clear c4;have H':=A0_ H;clear H
  go_wp2
  go_roundg k2
  case measure=>have:=HK1.out;have:=HK2.out;omega
  exact ⟨(x5_2),(wrap64 (x6_2+1)),aC,H',⟨gg⟩,⟨aD⟩,⟨bW⟩,⟨am⟩⟩
 rw [if_pos c4] at H;have c4b0:decide ((wrap64 (x6_2+1))<x4_1)=true:=dt_ c4;clear c4;obtain ⟨c5b0,H⟩:=i1_ H;obtain ⟨c6b0,H⟩:=i1_ H;obtain ⟨ji1,hji1⟩:∃ j_:Int,(wrap64 ((wrap64 (x4_1 - x6_2)) - 2))=j_:=⟨_,rfl⟩;replace H:(if 0≤(ji1) then (if (ji1)<(x3_1.length:Int) then (if x5_2.length<17592186044416 then (ay.l1 k2 a0 x3_1 x4_1 (x5_2++[Go.bits .xor .i64 (rd x3_1 x6_2) (rd x3_1 (ji1))]) (wrap64 (x6_2+1))) else (none)) else (none)) else (none))=some r:=eY;have hji22w:(IntKind.i64.wrap ((wrap64 (x4_1 - x6_2)) - 2))=ji1:=(cH _).trans hji1;obtain ⟨c7b0,H⟩:=i1_ H;obtain ⟨c8b0,H⟩:=i1_ H;obtain ⟨c9,H⟩:=is_ H;have LMc1:=A0_ c9;clear c9;obtain ⟨y3,hy3⟩:∃ y_:List Int,y_=(x5_2++[Go.bits .xor .i64 (rd x3_1 x6_2) (rd x3_1 (ji1))]):=⟨_,rfl⟩;replace H:(ay.l1 k2 a0 x3_1 x4_1 y3 (wrap64 (x6_2+1)))=some r:=ir;have Ny3:=A0_ hy3;clear hy3;have H':=A0_ H;clear H
 try go_wp2
 replace HO_1:=A0_ (rd_ HO_1.out);replace HO_2:=A0_ (rd_ HO_2.out);replace HB:=A0_ (bd_ HB.out);obtain ⟨Ao1,co1,eo1⟩:=Kd.R_slice HO_1.out
 (first|subst eo1|(injection eo1 with f1_ f2_ f3_;have f4_:=f1_.symm;have f5_:=f3_.symm;clear f1_ f2_ f3_;subst f4_;subst f5_))
 have p1:0≤(x6_2:Int):=od_ aE;have q1:x6_2<(x3_1.length:Int):=od_ aE;obtain ⟨ad1,e1,hx1_0⟩:=Kd.at_int (rr_ HO_1.out).2.2 x6_2 p1 q1;cases e1;replace p1:=eq_true p1;replace q1:=eq_true q1;have p2:0≤((ji1):Int):=od_ aE;have q2:(ji1)<(x3_1.length:Int):=od_ aE;obtain ⟨ad2,e2,hx2_0⟩:=Kd.at_int (rr_ HO_1.out).2.2 (ji1) p2 q2;obtain rfl:ad1=ad2:=e5;replace p2:=eq_true p2;replace q2:=eq_true q2
 refine dh (n:=16) (S:=fun w'=>w'.cell? (ad1.add (x6_2).toNat)=some (.int .i64 (rd x3_1 x6_2))∧w'.cell? (ad1.add ((ji1)).toNat)=some (.int .i64 (rd x3_1 (ji1)))) (ds:=[13,14]) #[false,false,false,false,false,false,false,false,false,false,false,false,false,false,false,false] bS rfl rfl ⟨hx1_0,hx2_0⟩ (fun hHeld=>?_);refine dc ay.tab12 ay.bits12 (fun HT_ HW_=>?_)
 generalize wr.drew=w3 at HO_1 HO_2 HB hx1_0 hx2_0 hHeld ⊢
 refine pu_ 0 42 ?_
 refine pu_ 1 43 ?_
 refine pu_ 2 44 ?_
 refine pu_ 3 45 ?_
 refine pu_ 5 47 ?_
 refine pu_ 6 48 ?_
 refine pu_ 7 49 ?_
 refine pu_ 8 50 ?_
 refine pu_ 9 51 ?_
 refine pu_ 10 52 ?_
 refine tk_ 4 46 hHeld ?_
 refine tk_ 11 53 hHeld ?_
 refine pu_ 12 54 ?_
 refine iW (i:=13) (N:=some 55) #[true,true,true,true,true,true,true,true,true,true,true,true,true,true,false,false] rfl rfl (gD HT_.out bS) ao (fun K hK=>?_)
 refine jj (w1:=?_) (v:=?_) (by rfl) rfl ?_ ?_
 rotate_left 2
 ·go_simp
  constructor
  ·rfl
  rfl
 refine hK.out _ _ ?_
 clear hK K
 refine nm_ 55 ?_
 refine iW (i:=14) (N:=some 56) #[true,true,true,true,true,true,true,true,true,true,true,true,true,true,true,false] rfl rfl (gD HT_.out bS) ao (fun K hK=>?_)
 refine Kd.R_append_step (Kd.int .i64) (w0:=w) w.heap.size (by rfl) (.tmp 42) (.tmp 55) 22 3 (.int .i64 0) 8 rfl Tryd.underlying22 cP rfl ao bL u5 x5_2 (Go.bits .xor .i64 (rd x3_1 x6_2) (rd x3_1 (ji1))) [.int .i64 (Go.bits .xor .i64 (rd x3_1 x6_2) (rd x3_1 (ji1)))] (fun k_=>no_ (.slice (some ad1) x3_1.length co1) k_) (fun _=>False) rfl rfl ?aP (fun _ hk=>hk.elim) ?aF ?aO ?aB ?aS ?aL ?_
 (case aP=>exact rfl)
 (case aB=>exact am)
 (case aF=>exact (fun k_ hk=>Kd.fresh' (Kd.R_lt aD) k_ hk))
 (case aO=>exact bW)
 (case aS=>exact (bz_ am))
 (case aL=>have:=LMc1.out;omega)
 intro v7 w4 ho hb hg hat;rw [← Ny3.out] at ho;have n0_:=A0_ (Kd.R_after (ok:=(fun _=>True)) mD hg hat);have n1_:=A0_ (hb);have n2_:=A0_ (ho);clear HO_1 HB HO_2;have HO_1:=n0_;have HB:=n1_;have HO3:=n2_;clear n0_ n1_ n2_ ho hb hg hat
 refine hK.out _ _ ?_
 clear hK K
 refine nm_ 56 ?_
 refine pu_ 15 5 ?_
 refine dn_ ?_
 try go_wp2
 go_roundg k2
 case measure=>have:=HK1.out;have:=HK2.out;omega
 exact ⟨(y3),(wrap64 (x6_2+1)),aC,H',⟨gg⟩,⟨nO⟩,⟨d9⟩,⟨am⟩⟩

mutual
def aj.j0:Nat→Int→List Int→List (S72)→Int→Bool→List Int→Option (Int)
 | 0,_,_,_,_,_,_=>none
 | k+1,x1,x5,x6,xa,xb,xc=>aj.l0 k x1 x5 x6 0 0 xa xb xc
def aj.l0:Nat→Int→List Int→List (S72)→Int→Int→Int→Bool→List Int→Option (Int)
 | 0,_,_,_,_,_,_,_,_=>none
 | k+1,x1,x5,x6,x7,x8,xa,xb,xc=>if x8<(x6.length:Int) then (if 0≤x8 then (if 0≤((ci x6 x8).f1) then (if ((ci x6 x8).f1)<(x5.length:Int) then (if xb=true then (aj.j2 k x1 x5 x6 x7 x8 (rd x5 ((ci x6 x8).f1)) (((ci x6 x8).f1) == xa) xa xb xc) else (aj.j2 k x1 x5 x6 x7 x8 (rd x5 ((ci x6 x8).f1)) false xa xb xc)) else (none)) else (none)) else (none)) else (some x7)
def aj.j2:Nat→Int→List Int→List (S72)→Int→Int→Int→Bool→Int→Bool→List Int→Option (Int)
 | 0,_,_,_,_,_,_,_,_,_,_=>none
 | k+1,x1,x5,x6,x7,x8,x9,x44,xa,xb,xc=>if x44=true then (if x1=2 then (if 0≤(wrap64 (xa - 2)) then (if (wrap64 (xa - 2))<(x5.length:Int) then ((aZ.f k (([rd x5 (wrap64 (xa - 2))]:List Int))).bind fun t534=>(aj.l0 k x1 x5 x6 (Go.bits .xor .i64 x7 t534) (wrap64 (x8+1)) xa xb xc)) else (none)) else (none)) else (if 0≤(wrap64 (xa - 3)) then (if (wrap64 (xa - 3))<(x5.length:Int) then ((aZ.f k (([rd x5 (wrap64 (xa - 3))]:List Int))).bind fun t539=>(aj.l0 k x1 x5 x6 (Go.bits .xor .i64 x7 t539) (wrap64 (x8+1)) xa xb xc)) else (none)) else (none))) else (aj.l0 k x1 x5 x6 (Go.bits .xor .i64 x7 x9) (wrap64 (x8+1)) xa xb xc)
end
def aj.f (k:Nat) (a0_0:Int) (a0_1:Bool) (l0_2:List Int) (a1:Int):Option (Int):=(ay.f k a1).bind fun t518=>((ak.f k a0_0 a0_1 l0_2).bind fun t521=>(if a1=1 then ((aX.f k a0_0 a0_1 l0_2).bind fun t524=>(aj.j0 k a1 t518 t524 a0_0 a0_1 l0_2)) else (aj.j0 k a1 t518 t521 a0_0 a0_1 l0_2)))
theorem aj.mono_l:∀ k,(∀ y0 y1 y2 y3 y4 y5,LeO (aj.j0 k y0 y1 y2 y3 y4 y5) (aj.j0 (k+1) y0 y1 y2 y3 y4 y5))∧(∀ y0 y1 y2 y3 y4 y5 y6 y7,LeO (aj.l0 k y0 y1 y2 y3 y4 y5 y6 y7) (aj.l0 (k+1) y0 y1 y2 y3 y4 y5 y6 y7))∧(∀ y0 y1 y2 y3 y4 y5 y6 y7 y8 y9,LeO (aj.j2 k y0 y1 y2 y3 y4 y5 y6 y7 y8 y9) (aj.j2 (k+1) y0 y1 y2 y3 y4 y5 y6 y7 y8 y9))
 | 0=>⟨fun _ _ _ _ _ _ r h=>by simp [aj.j0] at h,fun _ _ _ _ _ _ _ _ r h=>by simp [aj.l0] at h,fun _ _ _ _ _ _ _ _ _ _ r h=>by simp [aj.j2] at h⟩
 | k+1=>by
  obtain ⟨ih0,ih1,ih2⟩:=aj.mono_l k
  refine ⟨?_,?_,?_⟩
  ·intro y0 y1 y2 y3 y4 y5
   unfold aj.j0
   repeat' with_reducible first|exact ih0 ..|exact ih1 ..|exact ih2 ..|exact aZ.mono ..|exact ay.mono ..|exact ak.mono ..|exact aX.mono ..|exact LeO.refl ..|exact LeO.none ..|refine LeO.ite ?_ ?_|refine LeO.bind ?_ (fun _=>?_)
  ·intro y0 y1 y2 y3 y4 y5 y6 y7
   unfold aj.l0
   repeat' with_reducible first|exact ih0 ..|exact ih1 ..|exact ih2 ..|exact aZ.mono ..|exact ay.mono ..|exact ak.mono ..|exact aX.mono ..|exact LeO.refl ..|exact LeO.none ..|refine LeO.ite ?_ ?_|refine LeO.bind ?_ (fun _=>?_)
  ·intro y0 y1 y2 y3 y4 y5 y6 y7 y8 y9
   unfold aj.j2
   repeat' with_reducible first|exact ih0 ..|exact ih1 ..|exact ih2 ..|exact aZ.mono ..|exact ay.mono ..|exact ak.mono ..|exact aX.mono ..|exact LeO.refl ..|exact LeO.none ..|refine LeO.ite ?_ ?_|refine LeO.bind ?_ (fun _=>?_)
theorem aj.mono:∀ a0 a1 a2 a3 k,LeO (aj.f k a0 a1 a2 a3) (aj.f (k+1) a0 a1 a2 a3):=by
 intro a0 a1 a2 a3 k;obtain ⟨ih0,ih1,ih2⟩:=aj.mono_l k;unfold aj.f
 repeat' with_reducible first|exact ih0 ..|exact ih1 ..|exact ih2 ..|exact aZ.mono ..|exact ay.mono ..|exact ak.mono ..|exact aX.mono ..|exact LeO.refl ..|exact LeO.none ..|refine LeO.ite ?_ ?_|refine LeO.bind ?_ (fun _=>?_)
def aj.T9:Bool × List (List Nat × List Nat):=(true,[([],[]),([0],[0]),([1],[1]),([2],[2]),([2],[2]),([3,4,2],[2,3,4]),([5,2],[2,5]),([6,2],[2,6]),([2],[2]),([8,2],[2,8]),([7,9,2],[2,7,9]),([2,10],[2,10])])
def aj.B9:List Nat:=[0,1,3,7,7,31,63,127,7,263,1023,2047]
theorem aj.tab9:dx .any (dX Tryd.f53 9)=aj.T9:=by kernel_rfl
theorem aj.bits9:cp aj.T9.2 aj.B9=true:=by kernel_rfl
theorem aj.calls (k:Nat) (a0_0:Int) (a0_1:Bool) (A0_2:Option Addr) (c0_2:Nat) (l0_2:List Int) (a1:Int) (r:Int) (w:World) (hr0_2:Kd.C (Kd.int .i64) w A0_2 l0_2.length l0_2) (hc0_2:l0_2.length≤c0_2) (H:aj.f k a0_0 a0_1 l0_2 a1=some r) :
  Calls Tryd.prog 53 #[.agg #[.int .i64 a0_0,.bool a0_1,.slice A0_2 l0_2.length c0_2],.int .i64 a1] w fun e w'=>e=.returned (.int .i64 r)∧Below w.heap.size w w':=by
 have hu26:=Tryd.underlying26;have HR0_2:=A0_ hr0_2;have HC0_2:=A0_ hc0_2;clear hr0_2 hc0_2;have HB:=A0_ (Below.refl w.heap.size w);unfold aj.f at H;obtain ⟨t1,A2,H⟩:=o1_ H;obtain ⟨t2,A4,H⟩:=o1_ H;have HC5:=A0_ H;clear H;go_enter Tryd.func53,Tryd.ntmps53
 try go_wp2_with (first|((with_reducible refine gd_ (N:=2) rfl ?_);refine bx_ 2 #[.int .i64 a0_0,.bool a0_1,.slice A0_2 l0_2.length c0_2] 26 ?_;intro gb1 hg w1 BK1 hb;have GW1:=ge_ hg am;have GE1:=GW1;replace HB:=hb_ hb am;clear hb hg))
 replace BK1:=A0_ (kd_ BK1.out);replace HB:=A0_ (bd_ HB.out)
 refine dh (n:=6) (S:=fun w'=>w'.cell? ⟨gb1,0,none⟩=some (.int .i64 a0_0)∧w'.cell? ⟨gb1,1,none⟩=some (.bool a0_1)∧w'.cell? ⟨gb1,2,none⟩=some (.slice A0_2 l0_2.length c0_2)) (ds:=[]) #[false,false,false,false,false,false] bS rfl rfl (c3_ BK1) (fun hHeld=>?_)
 generalize w1.drew=w2 at BK1 HB hHeld ⊢
 refine pu_ 0 11 ?_
 refine tk_ 2 13 hHeld ?_
 refine on_ 1 (some 12) (fun K hK=>?_)
 refine gs_ Tryd.func84 #[.int .i64 a1] ?_
 with_reducible refine (ay.calls k a1 t1 _ A2.out).mono ?_
 rintro e w3 ⟨v1,rfl,ho0,hb⟩
 refine ⟨_,rfl,?_⟩
 have HO1:=A0_ (Kd.R_lower ho0 (bz_ ab));replace BK1:=k1_ BK1 hb;replace HB:=hb_ hb ab
 (try clear hb ho0)
 refine hK.out _ _ (c3_ BK1) (fun hHeld=>?_)
 clear hK K
 refine nm_ 12 ?_
 refine on_ 3 (some 14) (fun K hK=>?_)
 refine gs_ Tryd.func57 #[.agg #[.int .i64 a0_0,.bool a0_1,.slice A0_2 l0_2.length c0_2]] ?_
 with_reducible refine (ak.calls k a0_0 a0_1 _ _ l0_2 t2 _ ?_ ?_ A4.out).mono ?_
 exact bn
 exact HC0_2.out
 rintro e w4 ⟨v2,rfl,ho0,hb⟩
 refine ⟨_,rfl,?_⟩
 replace HO1:=q1_ HO1 hb;have HO2:=A0_ (Kd.R_lower ho0 (bz_ ab));replace BK1:=k1_ BK1 hb;replace HB:=hb_ hb ab
 (try clear hb ho0)
 refine hK.out _ _ (c3_ BK1) (fun hHeld=>?_)
 clear hK K
 refine nm_ 14 ?_
 refine pu_ 4 5 ?_
 refine pu_ 5 6 ?_
 refine gU bS ?_
 go_upto_if 16 with (fail)
 go_cut [6] (fun v3 wc=>∃ (kq:Nat) (x6_4:List (S72)),Aside0 (aj.j0 kq a1 t1 x6_4 a0_0 a0_1 l0_2=some r)∧Aside0 (kq≤k)∧Aside0 (Kd.R (Kd.int .i64) 3 wc w.heap.size (fun _=>True) v1 t1)∧Aside0 (Kd.R k72 72 wc w.heap.size (fun _=>True) v3 x6_4)∧Aside0 (wc.heap[gb1]?=some (.cells #[.int .i64 a0_0,.bool a0_1,(.slice A0_2 l0_2.length c0_2)] 26 (0,0)))∧Aside0 (Below w.heap.size w wc))
 case first =>
  have H:=HC5.out;clear HC5
  by_cases c1:a1=1
  case neg =>
   rw [if_neg c1] at H;obtain ⟨c1b0,c1b1⟩:=ef_ c1
   (first|rw [c1b0]|(simp only [cH,dC];rw [c1b0])|skip)
   have H':=A0_ H;clear H
   go_wp2
   go_meet
   exact ⟨_,(t2),H',⟨eH⟩,⟨bR⟩,⟨cQ⟩,⟨u1_ BK1⟩,⟨ab⟩⟩
  rw [if_pos c1] at H;obtain ⟨c1b0,c1b1⟩:=et_ c1;clear c1
  (first|rw [c1b0]|(simp only [cH,dC];rw [c1b0])|skip)
  obtain ⟨t3,A6,H⟩:=o1_ H;have H':=A0_ H;clear H;have hcz1:=c3_ BK1
  go_wp2_with (first|((with_reducible refine gc_ (f:=58) rfl ?_);refine gl_ 18 Tryd.func58 #[.agg #[.int .i64 a0_0,.bool a0_1,.slice A0_2 l0_2.length c0_2]] ?_;(with_reducible refine (aX.calls k a0_0 a0_1 _ _ l0_2 t3 _ ?_ ?_ A6.out).mono ?_);exact bn;exact HC0_2.out;rintro e w5 ⟨v4,rfl,ho0,hb⟩;refine ⟨_,rfl,?_⟩;replace HO1:=q1_ HO1 hb;have HO3:=A0_ (Kd.R_lower (Kd.R_new' ho0 (Kd.R_lt cQ)) (bz_ ab));replace HO2:=A0_ (Kd.R_elder' cQ (Kd.R_base ho0) hb);replace BK1:=k1_ BK1 hb;replace HB:=hb_ hb ab;(try clear hb ho0)))
  go_meet
  exact ⟨_,(t3),H',⟨eH⟩,⟨bR⟩,⟨rA⟩,⟨u1_ BK1⟩,⟨ab⟩⟩
 clear HC5;obtain ⟨kq,x6_4,HA,HJ1,HO_1,HO_2,BK1,HB⟩:=hcut
 cases kq with|zero=>exact absurd HA.out (by simp [aj.j0])|succ kj1=>?_
 have H:=HA.out;clear HA;simp only [aj.j0] at H;have H':=A0_ H;clear H
 go_wp2
 go_loopg [7,8] kj1 (fun kq v4 v5 w'=>∃ (x7_2:Int) (x8_2:Int),v4=.int .i64 x7_2∧v5=.int .i64 x8_2∧Aside0 (aj.l0 kq a1 t1 x6_4 x7_2 x8_2 a0_0 a0_1 l0_2=some r)∧Aside0 (kq≤kj1)∧Aside0 (Kd.R (Kd.int .i64) 3 w' w.heap.size (fun _=>True) v1 t1)∧Aside0 (Kd.R k72 72 w' w.heap.size (fun _=>True) u6 x6_4)∧Aside0 (w'.heap[gb1]?=some (.cells #[.int .i64 a0_0,.bool a0_1,(.slice A0_2 l0_2.length c0_2)] 26 (0,0)))∧Aside0 (Below w.heap.size w w'))
 case atStart=>exact ⟨(0),(0),aC,aC,H',⟨Nat.le_refl _⟩,⟨aD⟩,⟨bW⟩,⟨u1_ BK1⟩,⟨ab⟩⟩
 clear H';obtain ⟨x7_2,x8_2,rfl,rfl,HA,HK1,HO_1,HO_2,BK1,HB⟩:=hrel
 cases gk with|zero=>exact absurd HA.out (by simp [aj.l0])|succ k2=>?_
 have H:=HA.out;clear HA;simp only [aj.l0] at H
 by_cases c1:x8_2<(x6_4.length:Int)
 case neg =>
  rw [if_neg c1] at H;have c1b0:decide (x8_2<(x6_4.length:Int))=false:=decide_eq_false c1;clear c1;obtain rfl:=si_ H;obtain ⟨Ao1,co1,eo1⟩:=Kd.R_slice HO_2.out;subst eo1
  go_wp2
  go_ret
  exact ⟨bc,ab⟩
 rw [if_pos c1] at H;have c1b0:decide (x8_2<(x6_4.length:Int))=true:=dt_ c1;clear c1;obtain ⟨c2b0,H⟩:=i1_ H;obtain ⟨c3b0,H⟩:=i1_ H;obtain ⟨c4b0,H⟩:=i1_ H;have HC18:=A0_ H;clear H;obtain ⟨Ao1,co1,eo1⟩:=Kd.R_slice HO_2.out;subst eo1;have p1:0≤(x8_2:Int):=od_ aE;have q1:x8_2<(x6_4.length:Int):=od_ aE;obtain ⟨ad1,e1,hx1_0,hx1_1⟩:=gT (rr_ HO_2.out).2.2 x8_2 p1 q1;cases e1;replace p1:=eq_true p1;replace q1:=eq_true q1;obtain ⟨Ao2,co2,eo2⟩:=Kd.R_slice HO_1.out;subst eo2;have p2:0≤(((ci x6_4 x8_2).f1):Int):=od_ aE;have q2:((ci x6_4 x8_2).f1)<(t1.length:Int):=od_ aE;obtain ⟨ad2,e2,hx2_0⟩:=Kd.at_int (rr_ HO_1.out).2.2 ((ci x6_4 x8_2).f1) p2 q2;cases e2;replace p2:=eq_true p2;replace q2:=eq_true q2
 go_upto_region 9 with (fail)
 go_cut [44] (fun v6 wc=>∃ (kq:Nat) (x44_17:Bool),v6=.bool x44_17∧Aside0 (aj.j2 kq a1 t1 x6_4 x7_2 x8_2 (rd t1 ((ci x6_4 x8_2).f1)) x44_17 a0_0 a0_1 l0_2=some r)∧Aside0 (kq≤k2)∧Aside0 (Kd.R (Kd.int .i64) 3 wc w.heap.size (fun _=>True) (.slice (some ad2) t1.length co2) t1)∧Aside0 (Kd.R k72 72 wc w.heap.size (fun _=>True) (.slice (some ad1) x6_4.length co1) x6_4)∧Aside0 (wc.heap[gb1]?=some (.cells #[.int .i64 a0_0,.bool a0_1,(.slice A0_2 l0_2.length c0_2)] 26 (0,0)))∧Aside0 (Below w.heap.size w wc))
 case first =>
  have H:=HC18.out;clear HC18
  by_cases c5:a0_1=true
  case neg =>
   obtain rfl:=bf_.mpr c5;rw [if_neg ft_] at H;have H':=A0_ H;clear H
   try go_wp2
   replace HO_1:=A0_ (rd_ HO_1.out);replace HO_2:=A0_ (rd_ HO_2.out);replace BK1:=A0_ (kd_ BK1.out);replace HB:=A0_ (bd_ HB.out)
   refine s3_ 12 [] BK1 aj.tab9 aj.bits9 (fun hHeld HT_ HW_=>?_)
   generalize wr.drew=w5 at HO_1 HO_2 BK1 HB hHeld ⊢
   refine pu_ 0 33 ?_
   refine tk_ 1 34 hHeld ?_
   refine pu_ 2 35 ?_
   refine pv_ 3 36 ?_
   refine pv_ 4 37 ?_
   refine pv_ 5 38 ?_
   refine pv_ 6 39 ?_
   refine pv_ 7 40 ?_
   refine pv_ 8 41 ?_
   refine pv_ 9 42 ?_
   refine pv_ 10 43 ?_
   refine pu_ 11 44 ?_
   refine dn_ ?_
   try go_wp2
   go_meet
   exact ⟨_,(false),aC,H',⟨jI⟩,⟨aD⟩,⟨bW⟩,⟨u1_ BK1⟩,⟨ab⟩⟩
  subst c5;rw [if_pos rfl] at H;have H':=A0_ H;clear H
  try go_wp2
  replace HO_1:=A0_ (rd_ HO_1.out);replace HO_2:=A0_ (rd_ HO_2.out);replace BK1:=A0_ (kd_ BK1.out);replace HB:=A0_ (bd_ HB.out);have p3:0≤(x8_2:Int):=od_ aE;have q3:x8_2<(x6_4.length:Int):=od_ aE;obtain ⟨ad3,e3,hx3_0,hx3_1⟩:=gT (rr_ HO_2.out).2.2 x8_2 p3 q3;obtain rfl:ad1=ad3:=(by injection e3);replace p3:=eq_true p3;replace q3:=eq_true q3
  refine dh (n:=12) (S:=fun w'=>w'.cell? ⟨gb1,0,none⟩=some (.int .i64 a0_0)∧w'.cell? ⟨gb1,1,none⟩=some (.bool true)∧w'.cell? ⟨gb1,2,none⟩=some (.slice A0_2 l0_2.length c0_2)∧w'.cell? (ad1.add ((x8_2).toNat * 2))=some (.int .i64 ((ci x6_4 x8_2).f0))∧w'.cell? ⟨(ad1.add ((x8_2).toNat * 2)).block,(ad1.add ((x8_2).toNat * 2)).off+1,none⟩=some (.int .i64 ((ci x6_4 x8_2).f1))) (ds:=[]) #[false,false,false,false,false,false,false,false,false,false,false,false] bS rfl rfl (a3_ BK1 ⟨hx3_0,hx3_1⟩) (fun hHeld=>?_);refine dc aj.tab9 aj.bits9 (fun HT_ HW_=>?_)
  generalize wr.drew=w5 at HO_1 HO_2 BK1 HB hx3_0 hx3_1 hHeld ⊢
  refine pu_ 0 33 ?_
  refine tk_ 1 34 hHeld ?_
  refine pu_ 2 35 ?_
  refine pu_ 3 36 ?_
  refine pu_ 4 37 ?_
  refine pu_ 5 38 ?_
  refine pu_ 6 39 ?_
  refine pu_ 8 41 ?_
  refine tk_ 7 40 hHeld ?_
  refine tk_ 9 42 hHeld ?_
  refine pu_ 10 43 ?_
  refine pu_ 11 44 ?_
  refine dn_ ?_
  try go_wp2
  go_meet
  exact ⟨_,((((ci x6_4 x8_2).f1) == a0_0)),aC,H',⟨jI⟩,⟨aD⟩,⟨bW⟩,⟨u1_ BK1⟩,⟨ab⟩⟩
 clear HC18
 try clear c1
 try clear c1b0
 try clear c2
 try clear c2b0
 try clear c3
 try clear c3b0
 try clear c4
 try clear c4b0
 try clear hx1_0
 try clear hx1_1
 try clear hx2_0
 try clear p1
 try clear p2
 try clear q1
 try clear q2
 obtain ⟨kq,x44_17,rfl,HA,HJ2,HO_1,HO_2,BK1,HB⟩:=hcut
 cases kq with|zero=>exact absurd HA.out (by simp [aj.j2])|succ kj2=>?_
 have H:=HA.out;clear HA;simp only [aj.j2] at H
 by_cases c5:x44_17=true
 case neg =>
  obtain rfl:=bf_.mpr c5;rw [if_neg ft_] at H;have H':=A0_ H;clear H
  go_wp2
  go_roundg kj2
  case measure=>have:=HJ1.out;have:=HK1.out;have:=HJ2.out;omega
  exact ⟨(Go.bits .xor .i64 x7_2 (rd t1 ((ci x6_4 x8_2).f1))),(wrap64 (x8_2+1)),aC,aC,H',⟨nR⟩,⟨aD⟩,⟨bW⟩,⟨u1_ BK1⟩,⟨ab⟩⟩
 subst c5;rw [if_pos rfl] at H
 by_cases c6:a1=2
 case neg =>
  rw [if_neg c6] at H;obtain ⟨c6b0,c6b1⟩:=ef_ c6;obtain ⟨ji1,hji1⟩:∃ j_:Int,(wrap64 (a0_0 - 3))=j_:=⟨_,rfl⟩;replace H:(if 0≤(ji1) then (if (ji1)<(t1.length:Int) then ((aZ.f kj2 (([rd t1 (ji1)]:List Int))).bind fun t4=>(aj.l0 kj2 a1 t1 x6_4 (Go.bits .xor .i64 x7_2 t4) (wrap64 (x8_2+1)) a0_0 a0_1 l0_2)) else (none)) else (none))=some r:=eY;have hji34w:(IntKind.i64.wrap (a0_0 - 3))=ji1:=(cH _).trans hji1;obtain ⟨c7b0,H⟩:=i1_ H;obtain ⟨c8b0,H⟩:=i1_ H;obtain ⟨y1,hy1⟩:∃ y_:List Int,y_=(([rd t1 (ji1)]:List Int)):=⟨_,rfl⟩;replace H:((aZ.f kj2 y1).bind fun t4=>(aj.l0 kj2 a1 t1 x6_4 (Go.bits .xor .i64 x7_2 t4) (wrap64 (x8_2+1)) a0_0 a0_1 l0_2))=some r:=dp;have Ny1:=A0_ hy1;clear hy1;obtain ⟨t4,A6,H⟩:=o1_ H;have H':=A0_ H;clear H;have hcz1:=c3_ BK1;have p3:0≤((ji1):Int):=od_ aE;have q3:(ji1)<(t1.length:Int):=od_ aE;obtain ⟨ad3,e3,hx3_0⟩:=Kd.at_int (rr_ HO_1.out).2.2 (ji1) p3 q3;obtain rfl:ad2=ad3:=(by injection e3);replace p3:=eq_true p3;replace q3:=eq_true q3
  go_wp2_with (first|((with_reducible refine gd_ (N:=54) rfl ?_);refine Kd.R_lit (Kd.int .i64) _ 3 ?hg (N:=54) ?hd (xs:=([rd t1 (ji1)]:List Int)) (inner:=[.int .i64 (rd t1 (ji1))]) (ok:=fun _=>True) (okp:=fun _=>True) ?hr ?hp (fun _ hk=>hk) trivial (Below.refl _ _) (Nat.le_refl _) bx ?_;(case hd=>rfl);(case hg=>rfl);(case hr=>go_simp;first|done|rfl);(case hp=>exact (bu.one (show Kd.M (Kd.int .i64) _ _ _ (rd t1 (ji1)) [.int .i64 (rd t1 (ji1))] from rfl) (bu.none _ _)));intro v7 w5 ho40 hb hg_ hnew_;clear hg_ hnew_;(first|rw [← Ny1.out] at ho40|(simp only [Int.reduceToNat] at ho40;rw [← Ny1.out] at ho40));replace HO_2:=q1_ HO_2 hb;have HO3:=A0_ (Kd.R_lower (Kd.R_new' ho40 (Kd.R_lt aD)) (bz_ ab));replace HO_1:=A0_ (Kd.R_elder' aD (Kd.R_base ho40) hb);replace BK1:=k1_ BK1 hb;replace HB:=hb_ hb ab;clear hb ho40;obtain ⟨Ao3,co3,eo3⟩:=Kd.R_slice HO3.out;subst eo3)|((with_reducible refine gc_ (f:=85) rfl ?_);refine gl_ 55 Tryd.func85 #[.slice Ao3 y1.length co3] ?_;(with_reducible refine (aZ.calls kj2 _ _ y1 t4 _ ?_ ?_ A6.out).mono ?_);exact kk;exact (rr_ HO3.out).2.1;rintro e w' ⟨rfl,⟨nd,rfl⟩⟩;refine ⟨_,rfl,?_⟩))
  go_roundg kj2
  case measure=>have:=HJ1.out;have:=HK1.out;have:=HJ2.out;omega
  exact ⟨(Go.bits .xor .i64 x7_2 t4),(wrap64 (x8_2+1)),aC,aC,H',⟨nR⟩,⟨ln⟩,⟨bW⟩,⟨u1_ BK1⟩,⟨ab⟩⟩
 rw [if_pos c6] at H;obtain ⟨c6b0,c6b1⟩:=et_ c6;clear c6;obtain ⟨ji1,hji1⟩:∃ j_:Int,(wrap64 (a0_0 - 2))=j_:=⟨_,rfl⟩;replace H:(if 0≤(ji1) then (if (ji1)<(t1.length:Int) then ((aZ.f kj2 (([rd t1 (ji1)]:List Int))).bind fun t4=>(aj.l0 kj2 a1 t1 x6_4 (Go.bits .xor .i64 x7_2 t4) (wrap64 (x8_2+1)) a0_0 a0_1 l0_2)) else (none)) else (none))=some r:=eY;have hji26w:(IntKind.i64.wrap (a0_0 - 2))=ji1:=(cH _).trans hji1;obtain ⟨c7b0,H⟩:=i1_ H;obtain ⟨c8b0,H⟩:=i1_ H;obtain ⟨y1,hy1⟩:∃ y_:List Int,y_=(([rd t1 (ji1)]:List Int)):=⟨_,rfl⟩;replace H:((aZ.f kj2 y1).bind fun t4=>(aj.l0 kj2 a1 t1 x6_4 (Go.bits .xor .i64 x7_2 t4) (wrap64 (x8_2+1)) a0_0 a0_1 l0_2))=some r:=dp;have Ny1:=A0_ hy1;clear hy1;obtain ⟨t4,A6,H⟩:=o1_ H;have H':=A0_ H;clear H;have hcz1:=c3_ BK1;have p3:0≤((ji1):Int):=od_ aE;have q3:(ji1)<(t1.length:Int):=od_ aE;obtain ⟨ad3,e3,hx3_0⟩:=Kd.at_int (rr_ HO_1.out).2.2 (ji1) p3 q3;obtain rfl:ad2=ad3:=(by injection e3);replace p3:=eq_true p3;replace q3:=eq_true q3
 go_wp2_with (first|((with_reducible refine gd_ (N:=54) rfl ?_);refine Kd.R_lit (Kd.int .i64) _ 3 ?hg (N:=54) ?hd (xs:=([rd t1 (ji1)]:List Int)) (inner:=[.int .i64 (rd t1 (ji1))]) (ok:=fun _=>True) (okp:=fun _=>True) ?hr ?hp (fun _ hk=>hk) trivial (Below.refl _ _) (Nat.le_refl _) bx ?_;(case hd=>rfl);(case hg=>rfl);(case hr=>go_simp;first|done|rfl);(case hp=>exact (bu.one (show Kd.M (Kd.int .i64) _ _ _ (rd t1 (ji1)) [.int .i64 (rd t1 (ji1))] from rfl) (bu.none _ _)));intro v7 w5 ho32 hb hg_ hnew_;clear hg_ hnew_;(first|rw [← Ny1.out] at ho32|(simp only [Int.reduceToNat] at ho32;rw [← Ny1.out] at ho32));replace HO_2:=q1_ HO_2 hb;have HO3:=A0_ (Kd.R_lower (Kd.R_new' ho32 (Kd.R_lt aD)) (bz_ ab));replace HO_1:=A0_ (Kd.R_elder' aD (Kd.R_base ho32) hb);replace BK1:=k1_ BK1 hb;replace HB:=hb_ hb ab;clear hb ho32;obtain ⟨Ao3,co3,eo3⟩:=Kd.R_slice HO3.out;subst eo3)|((with_reducible refine gc_ (f:=85) rfl ?_);refine gl_ 55 Tryd.func85 #[.slice Ao3 y1.length co3] ?_;(with_reducible refine (aZ.calls kj2 _ _ y1 t4 _ ?_ ?_ A6.out).mono ?_);exact kk;exact (rr_ HO3.out).2.1;rintro e w' ⟨rfl,⟨nd,rfl⟩⟩;refine ⟨_,rfl,?_⟩))
 go_roundg kj2
 case measure=>have:=HJ1.out;have:=HK1.out;have:=HJ2.out;omega
 exact ⟨(Go.bits .xor .i64 x7_2 t4),(wrap64 (x8_2+1)),aC,aC,H',⟨nR⟩,⟨ln⟩,⟨bW⟩,⟨u1_ BK1⟩,⟨ab⟩⟩

def aW.l0:Nat→Int→List Int→List Int→Int→Int→Bool→List Int→Option (List Int)
 | 0,_,_,_,_,_,_,_=>none
 | k+1,x1,x5,x6,x7,xa,xb,xc=>if x7<(x6.length:Int) then (if 0≤x7 then ((bw.f k xa xb xc x1 (rd x6 x7)).bind fun bt548=>((aj.f k bt548.1 bt548.2.1 bt548.2.2 x1).bind fun t553=>(if t553=0 then (if x5.length<17592186044416 then (aW.l0 k x1 (x5++[rd x6 x7]) x6 (wrap64 (x7+1)) xa xb xc) else (none)) else (aW.l0 k x1 x5 x6 (wrap64 (x7+1)) xa xb xc)))) else (none)) else (some x5)
def aW.f (k:Nat) (a0_0:Int) (a0_1:Bool) (l0_2:List Int) (a1:Int):Option (List Int):=(aA.f k a0_0 a0_1 l0_2 a1).bind fun t544=>(aW.l0 k a1 (([]:List Int)) t544 0 a0_0 a0_1 l0_2)
theorem aW.mono_l:∀ k,(∀ y0 y1 y2 y3 y4 y5 y6,LeO (aW.l0 k y0 y1 y2 y3 y4 y5 y6) (aW.l0 (k+1) y0 y1 y2 y3 y4 y5 y6))
 | 0=>fun _ _ _ _ _ _ _ r h=>by simp [aW.l0] at h
 | k+1=>by
  have ih0:=aW.mono_l k
  ·intro y0 y1 y2 y3 y4 y5 y6
   unfold aW.l0
   repeat' with_reducible first|exact ih0 ..|exact bw.mono ..|exact aA.mono ..|exact aj.mono ..|exact LeO.refl ..|exact LeO.none ..|refine LeO.ite ?_ ?_|refine LeO.bind ?_ (fun _=>?_)
theorem aW.mono:∀ a0 a1 a2 a3 k,LeO (aW.f k a0 a1 a2 a3) (aW.f (k+1) a0 a1 a2 a3):=by
 intro a0 a1 a2 a3 k;have ih0:=aW.mono_l k;unfold aW.f
 repeat' with_reducible first|exact ih0 ..|exact bw.mono ..|exact aA.mono ..|exact aj.mono ..|exact LeO.refl ..|exact LeO.none ..|refine LeO.ite ?_ ?_|refine LeO.bind ?_ (fun _=>?_)
def aW.T5:Bool × List (List Nat × List Nat):=(true,[([],[]),([],[]),([],[]),([],[]),([2,3],[2,3]),([4],[4]),([0,1,5],[0,1,5]),([],[]),([6,7,6],[6,7]),([8],[8])])
def aW.B5:List Nat:=[0,0,0,0,12,28,63,0,255,511]
theorem aW.tab5:dx .any (dX Tryd.f51 5)=aW.T5:=by kernel_rfl
theorem aW.bits5:cp aW.T5.2 aW.B5=true:=by kernel_rfl
theorem aW.calls (k:Nat) (a0_0:Int) (a0_1:Bool) (A0_2:Option Addr) (c0_2:Nat) (l0_2:List Int) (a1:Int) (r:List Int) (w:World) (hr0_2:Kd.C (Kd.int .i64) w A0_2 l0_2.length l0_2) (hc0_2:l0_2.length≤c0_2) (H:aW.f k a0_0 a0_1 l0_2 a1=some r) :
  Calls Tryd.prog 51 #[.agg #[.int .i64 a0_0,.bool a0_1,.slice A0_2 l0_2.length c0_2],.int .i64 a1] w fun e w'=>∃ v0_:Value,e=.returned (v0_)∧Kd.R (Kd.int .i64) 3 w' w.heap.size (fun _=>True) v0_ r∧Below w.heap.size w w':=by
 have hu26:=Tryd.underlying26;have HR0_2:=A0_ hr0_2;have HC0_2:=A0_ hc0_2;clear hr0_2 hc0_2;have HB:=A0_ (Below.refl w.heap.size w);unfold aW.f at H;obtain ⟨y1,hy1⟩:∃ y_:List Int,y_=(([]:List Int)):=⟨_,rfl⟩;replace H:((aA.f k a0_0 a0_1 l0_2 a1).bind fun t1=>(aW.l0 k a1 y1 t1 0 a0_0 a0_1 l0_2))=some r:=dp;have Ny1:=A0_ hy1;clear hy1;obtain ⟨t1,A2,H⟩:=o1_ H;have H':=A0_ H;clear H;go_enter Tryd.func51,Tryd.ntmps51
 go_wp2_with (first|((with_reducible refine gd_ (N:=2) rfl ?_);refine bx_ 2 #[.int .i64 a0_0,.bool a0_1,.slice A0_2 l0_2.length c0_2] 26 ?_;intro gb1 hg w1 BK1 hb;have GW1:=ge_ hg am;have GE1:=GW1;replace HB:=hb_ hb am;clear hb hg)|((with_reducible refine gd_ (N:=8) rfl ?_);refine Kd.R_lit (Kd.int .i64) _ 3 ?hg (N:=8) ?hd (xs:=([]:List Int)) (inner:=[]) (ok:=fun _=>True) (okp:=fun _=>True) ?hr ?hp (fun _ hk=>hk) trivial (Below.refl _ _) (Nat.le_refl _) bx ?_;(case hd=>rfl);(case hg=>rfl);(case hr=>go_simp;first|done|rfl);(case hp=>exact (bu.none _ _));intro v1 w2 ho6 hb hg_ hnew_;clear hg_ hnew_;(first|rw [← Ny1.out] at ho6|(simp only [Int.reduceToNat] at ho6;rw [← Ny1.out] at ho6));have HO1:=A0_ (Kd.R_lower ho6 (bz_ ab));replace BK1:=k1_ BK1 hb;replace HB:=hb_ hb ab;clear hb ho6;have hcz1:=c3_ BK1)|((with_reducible refine gc_ (f:=38) rfl ?_);refine gl_ 11 Tryd.func38 #[.agg #[.int .i64 a0_0,.bool a0_1,.slice A0_2 l0_2.length c0_2],.int .i64 a1] ?_;(with_reducible refine (aA.calls k a0_0 a0_1 _ _ l0_2 a1 t1 _ ?_ ?_ A2.out).mono ?_);exact bn;exact HC0_2.out;rintro e w3 ⟨v2,rfl,ho0,hb⟩;refine ⟨_,rfl,?_⟩;have HO2:=A0_ (Kd.R_lower (Kd.R_new' ho0 (Kd.R_lt bR)) (bz_ ab));replace HO1:=A0_ (Kd.R_elder' bR (Kd.R_base ho0) hb);replace BK1:=k1_ BK1 hb;replace HB:=hb_ hb ab;(try clear hb ho0)))
 go_loopg [5,7] k (fun kq v3 v4 w'=>∃ (x5_1:List Int) (x7_1:Int),v4=.int .i64 x7_1∧Aside0 (aW.l0 kq a1 x5_1 t1 x7_1 a0_0 a0_1 l0_2=some r)∧Aside0 (kq≤k)∧Aside0 (Kd.R (Kd.int .i64) 3 w' w.heap.size (fun k_=>no_ v2 k_) v3 x5_1)∧Aside0 (Kd.R (Kd.int .i64) 3 w' w.heap.size (fun k_=>no_ v3 k_) v2 t1)∧Aside0 (w'.heap[gb1]?=some (.cells #[.int .i64 a0_0,.bool a0_1,(.slice A0_2 l0_2.length c0_2)] 26 (0,0)))∧Aside0 (Below w.heap.size w w'))
 case atStart=>exact ⟨(y1),(0),aC,H',⟨Nat.le_refl _⟩,⟨gQ⟩,⟨fT⟩,⟨u1_ BK1⟩,⟨ab⟩⟩
 clear H'
 (try clear hcz1)
 obtain ⟨x5_1,x7_1,rfl,HA,HK1,HO_1,HO_2,BK1,HB⟩:=hrel
 cases gk with|zero=>exact absurd HA.out (by simp [aW.l0])|succ k1=>?_
 have H:=HA.out;clear HA;simp only [aW.l0] at H
 by_cases c1:x7_1<(t1.length:Int)
 case neg =>
  rw [if_neg c1] at H;have c1b0:decide (x7_1<(t1.length:Int))=false:=decide_eq_false c1;clear c1;obtain rfl:=si_ H;obtain ⟨Ao1,co1,eo1⟩:=Kd.R_slice HO_2.out;subst eo1
  go_wp2
  go_ret
  exact ⟨_,bc,ln,ab⟩
 rw [if_pos c1] at H;have c1b0:decide (x7_1<(t1.length:Int))=true:=dt_ c1;clear c1;obtain ⟨c2b0,H⟩:=i1_ H;obtain ⟨⟨t2,t3,t4⟩,A4,H⟩:=o1_ H;obtain ⟨t5,A6,H⟩:=o1_ H
 by_cases c3:t5=0
 case neg =>
  rw [if_neg c3] at H;obtain ⟨c3b0,c3b1⟩:=ef_ c3;have H':=A0_ H;clear H;obtain ⟨Ao1,co1,eo1⟩:=Kd.R_slice HO_2.out;subst eo1
  try go_wp2
  replace HO_1:=A0_ (rd_ HO_1.out);replace HO_2:=A0_ (rd_ HO_2.out);replace BK1:=A0_ (kd_ BK1.out);replace HB:=A0_ (bd_ HB.out);have p1:0≤(x7_1:Int):=od_ aE;have q1:x7_1<(t1.length:Int):=od_ aE;obtain ⟨ad1,e1,hx1_0⟩:=Kd.at_int (rr_ HO_2.out).2.2 x7_1 p1 q1;cases e1;replace p1:=eq_true p1;replace q1:=eq_true q1
  refine dh (n:=10) (S:=fun w'=>w'.cell? ⟨gb1,0,none⟩=some (.int .i64 a0_0)∧w'.cell? ⟨gb1,1,none⟩=some (.bool a0_1)∧w'.cell? ⟨gb1,2,none⟩=some (.slice A0_2 l0_2.length c0_2)∧w'.cell? (ad1.add (x7_1).toNat)=some (.int .i64 (rd t1 x7_1))) (ds:=[]) #[false,false,false,false,false,false,false,false,false,false] bS rfl rfl (a3_ BK1 hx1_0) (fun hHeld=>?_);refine dc aW.tab5 aW.bits5 (fun HT_ HW_=>?_)
  generalize wr.drew=w4 at HO_1 HO_2 BK1 HB hx1_0 hHeld ⊢
  refine pu_ 1 19 ?_
  refine pu_ 2 20 ?_
  refine pu_ 3 21 ?_
  refine pu_ 4 22 ?_
  refine pu_ 7 25 ?_
  refine tk_ 0 18 hHeld ?_
  refine tk_ 5 23 hHeld ?_
  refine on_ 6 (some 24) (fun K hK=>?_)
  refine gs_ Tryd.func39 #[.agg #[.int .i64 a0_0,.bool a0_1,.slice A0_2 l0_2.length c0_2],.int .i64 a1,.int .i64 (rd t1 x7_1)] ?_
  with_reducible refine (bw.calls k1 a0_0 a0_1 _ _ l0_2 a1 (rd t1 x7_1) t2 t3 t4 _ ?_ ?_ A4.out).mono ?_
  exact bn
  exact HC0_2.out
  rintro e w5 ⟨v5,rfl,ho0,hb⟩;have HS3_:=(hb.cell (World.block_lt_of_cell? _ _ (hHeld.2.2.2))).trans (hHeld.2.2.2)
  refine ⟨_,rfl,?_⟩
  have HO3:=A0_ (Kd.R_lower (Kd.R_new' (Kd.R_new' ho0 (Kd.R_lt aD)) (Kd.R_lt bW)) (bz_ ab));replace HO_1:=A0_ (Kd.R_elder' aD (Kd.R_base ho0) hb);replace HO_2:=A0_ (Kd.R_elder' bW (Kd.R_base ho0) hb);replace BK1:=k1_ BK1 hb;replace HB:=hb_ hb ab
  (try clear hb ho0)
  obtain ⟨Ao2,co2,eo2⟩:=Kd.R_slice HO3.out
  (first|subst eo2|(injection eo2 with f1_ f2_ f3_;have f4_:=f1_.symm;have f5_:=f3_.symm;clear f1_ f2_ f3_;subst f4_;subst f5_))
  refine hK.out _ _ (a3_ BK1 HS3_) (fun hHeld=>?_)
  clear hK K
  refine nm_ 24 ?_
  refine on_ 8 (some 26) (fun K hK=>?_)
  refine gs_ Tryd.func53 #[.agg #[.int .i64 t2,.bool t3,.slice Ao2 t4.length co2],.int .i64 a1] ?_
  with_reducible refine (aj.calls k1 t2 t3 _ _ t4 a1 t5 _ ?_ ?_ A6.out).mono ?_
  exact kk
  exact (rr_ HO3.out).2.1
  rintro e w6 ⟨rfl,hb⟩;have HS3_:=(hb.cell (World.block_lt_of_cell? _ _ (hHeld.2.2.2))).trans (hHeld.2.2.2)
  refine ⟨_,rfl,?_⟩
  replace HO_1:=q1_ HO_1 hb;replace HO_2:=q1_ HO_2 hb;replace HO3:=q1_ HO3 hb;replace BK1:=k1_ BK1 hb;replace HB:=hb_ hb ab
  (try clear hb)
  refine hK.out _ _ (a3_ BK1 HS3_) (fun hHeld=>?_)
  clear hK K
  refine nm_ 26 ?_
  refine pu_ 9 27 ?_
  refine dn_ ?_
  try go_wp2
  go_roundg k1
  case measure=>have:=HK1.out;omega
  exact ⟨(x5_1),(wrap64 (x7_1+1)),aC,H',⟨de⟩,⟨oQ⟩,⟨by (with_reducible repeat (first|apply ra_|apply rn_|apply rd_));exact Kd.R_mono HO_2.out (fun _ hk=>hk.1)⟩,⟨u1_ BK1⟩,⟨ab⟩⟩
 rw [if_pos c3] at H;obtain ⟨c3b0,c3b1⟩:=et_ c3;clear c3;obtain ⟨c4,H⟩:=is_ H;have LMc1:=A0_ c4;clear c4;obtain ⟨y2,hy2⟩:∃ y_:List Int,y_=(x5_1++[rd t1 x7_1]):=⟨_,rfl⟩;replace H:(aW.l0 k1 a1 y2 t1 (wrap64 (x7_1+1)) a0_0 a0_1 l0_2)=some r:=dO;have Ny2:=A0_ hy2;clear hy2;have H':=A0_ H;clear H;obtain ⟨Ao1,co1,eo1⟩:=Kd.R_slice HO_2.out;subst eo1
 try go_wp2
 replace HO_1:=A0_ (rd_ HO_1.out);replace HO_2:=A0_ (rd_ HO_2.out);replace BK1:=A0_ (kd_ BK1.out);replace HB:=A0_ (bd_ HB.out);have p1:0≤(x7_1:Int):=od_ aE;have q1:x7_1<(t1.length:Int):=od_ aE;obtain ⟨ad1,e1,hx1_0⟩:=Kd.at_int (rr_ HO_2.out).2.2 x7_1 p1 q1;cases e1;replace p1:=eq_true p1;replace q1:=eq_true q1
 refine dh (n:=10) (S:=fun w'=>w'.cell? ⟨gb1,0,none⟩=some (.int .i64 a0_0)∧w'.cell? ⟨gb1,1,none⟩=some (.bool a0_1)∧w'.cell? ⟨gb1,2,none⟩=some (.slice A0_2 l0_2.length c0_2)∧w'.cell? (ad1.add (x7_1).toNat)=some (.int .i64 (rd t1 x7_1))) (ds:=[]) #[false,false,false,false,false,false,false,false,false,false] bS rfl rfl (a3_ BK1 hx1_0) (fun hHeld=>?_);refine dc aW.tab5 aW.bits5 (fun HT_ HW_=>?_)
 generalize wr.drew=w4 at HO_1 HO_2 BK1 HB hx1_0 hHeld ⊢
 refine pu_ 1 19 ?_
 refine pu_ 2 20 ?_
 refine pu_ 3 21 ?_
 refine pu_ 4 22 ?_
 refine pu_ 7 25 ?_
 refine tk_ 0 18 hHeld ?_
 refine tk_ 5 23 hHeld ?_
 refine on_ 6 (some 24) (fun K hK=>?_)
 refine gs_ Tryd.func39 #[.agg #[.int .i64 a0_0,.bool a0_1,.slice A0_2 l0_2.length c0_2],.int .i64 a1,.int .i64 (rd t1 x7_1)] ?_
 with_reducible refine (bw.calls k1 a0_0 a0_1 _ _ l0_2 a1 (rd t1 x7_1) t2 t3 t4 _ ?_ ?_ A4.out).mono ?_
 exact bn
 exact HC0_2.out
 rintro e w5 ⟨v5,rfl,ho0,hb⟩;have HS3_:=(hb.cell (World.block_lt_of_cell? _ _ (hHeld.2.2.2))).trans (hHeld.2.2.2)
 refine ⟨_,rfl,?_⟩
 have HO3:=A0_ (Kd.R_lower (Kd.R_new' (Kd.R_new' ho0 (Kd.R_lt aD)) (Kd.R_lt bW)) (bz_ ab));replace HO_1:=A0_ (Kd.R_elder' aD (Kd.R_base ho0) hb);replace HO_2:=A0_ (Kd.R_elder' bW (Kd.R_base ho0) hb);replace BK1:=k1_ BK1 hb;replace HB:=hb_ hb ab
 (try clear hb ho0)
 obtain ⟨Ao2,co2,eo2⟩:=Kd.R_slice HO3.out
 (first|subst eo2|(injection eo2 with f1_ f2_ f3_;have f4_:=f1_.symm;have f5_:=f3_.symm;clear f1_ f2_ f3_;subst f4_;subst f5_))
 refine hK.out _ _ (a3_ BK1 HS3_) (fun hHeld=>?_)
 clear hK K
 refine nm_ 24 ?_
 refine on_ 8 (some 26) (fun K hK=>?_)
 refine gs_ Tryd.func53 #[.agg #[.int .i64 t2,.bool t3,.slice Ao2 t4.length co2],.int .i64 a1] ?_
 with_reducible refine (aj.calls k1 t2 t3 _ _ t4 a1 t5 _ ?_ ?_ A6.out).mono ?_
 exact kk
 exact (rr_ HO3.out).2.1
 rintro e w6 ⟨rfl,hb⟩;have HS3_:=(hb.cell (World.block_lt_of_cell? _ _ (hHeld.2.2.2))).trans (hHeld.2.2.2)
 refine ⟨_,rfl,?_⟩
 replace HO_1:=q1_ HO_1 hb;replace HO_2:=q1_ HO_2 hb;replace HO3:=q1_ HO3 hb;replace BK1:=k1_ BK1 hb;replace HB:=hb_ hb ab
 (try clear hb)
 refine hK.out _ _ (a3_ BK1 HS3_) (fun hHeld=>?_)
 clear hK K
 refine nm_ 26 ?_
 refine pu_ 9 27 ?_
 refine dn_ ?_
 have p2:0≤(x7_1:Int):=od_ aE;have q2:x7_1<(t1.length:Int):=od_ aE;obtain ⟨ad2,e2,hx2_0⟩:=Kd.at_int (rr_ HO_2.out).2.2 x7_1 p2 q2;obtain rfl:ad1=ad2:=e5;replace p2:=eq_true p2;replace q2:=eq_true q2
 try go_wp2_with (first|((with_reducible refine bO (b:=.append) (xs:=#[.tmp 28,.tmp 33]) rfl ?_);at_builtin;refine Kd.R_append (Kd.int .i64) (w0:=w) w.heap.size rfl (.tmp 28) (.tmp 33) 22 3 (.int .i64 0) 8 rfl Tryd.underlying22 cP rfl ao bL u5 x5_1 (rd t1 x7_1) [.int .i64 (rd t1 x7_1)] (fun k_=>no_ (.slice (some ad1) t1.length co1) k_∧no_ (.slice Ao2 t4.length co2) k_) (fun _=>False) rfl rfl ?aP (fun _ hk=>hk.elim) ?aF ?aO ?aB ?aS ?aL ?_;(case aP=>exact rfl);(case aB=>exact ab);(case aF=>exact (fun k_ hk=>⟨Kd.fresh' (Kd.R_lt bW) k_ hk,Kd.fresh' (Kd.R_lt d9) k_ hk⟩));(case aO=>exact aD);(case aS=>exact (bz_ ab));(case aL=>have:=LMc1.out;omega);intro v6 w7 ho hb hg hat;rw [← Ny2.out] at ho;have n0_:=A0_ (Kd.R_after (ok:=(fun k_=>no_ (.slice Ao2 t4.length co2) k_)) gR hg hat);have n1_:=A0_ (a6 (g:=gb1) (o:=.cells #[.int .i64 a0_0,.bool a0_1,.slice A0_2 l0_2.length c0_2] 26 (0,0)) (u1_ BK1) hg (Kd.R_ne HO_1.out BK1.out ao));have n2_:=A0_ (Kd.R_after (ok:=(fun k_=>no_ (.slice (some ad1) t1.length co1) k_)) oS hg hat);have n3_:=A0_ (hb);have n4_:=A0_ (ho);clear HO_2 BK1 HO3 HB HO_1;have HO_2:=n0_;have BK1:=n1_;have HO3:=n2_;have HB:=n3_;have HO4:=n4_;clear n0_ n1_ n2_ n3_ n4_ ho hb hg hat))
 go_roundg k1
 case measure=>have:=HK1.out;omega
 exact ⟨(y2),(wrap64 (x7_1+1)),aC,H',⟨de⟩,⟨by (with_reducible repeat (first|apply ra_|apply rn_|apply rd_));exact Kd.R_mono HO4.out (fun _ hk=>hk.1)⟩,⟨nC⟩,⟨u1_ BK1⟩,⟨ab⟩⟩

def cx.f (k:Nat) (a0_0:Int) (a0_1:Bool) (l0_2:List Int) (a1:Int):Option (List Int × Bool):=(aI.f k a0_0 a0_1 l0_2).bind fun t559=>(if t559=true then ((bG.f a1).bind fun t560=>(if t560=true then ((aW.f k a0_0 a0_1 l0_2 a1).bind fun t561=>(some (t561,true))) else (some ((([]:List Int)),false)))) else (some ((([]:List Int)),false)))
theorem cx.mono:∀ a0 a1 a2 a3 k,LeO (cx.f k a0 a1 a2 a3) (cx.f (k+1) a0 a1 a2 a3):=by
 intro a0 a1 a2 a3 k;unfold cx.f
 repeat' with_reducible first|exact aW.mono ..|exact aI.mono ..|exact LeO.refl ..|exact LeO.none ..|refine LeO.ite ?_ ?_|refine LeO.bind ?_ (fun _=>?_)
theorem cx.calls (k:Nat) (a0_0:Int) (a0_1:Bool) (A0_2:Option Addr) (c0_2:Nat) (l0_2:List Int) (a1:Int) (r1:List Int) (r2:Bool) (w:World) (hr0_2:Kd.C (Kd.int .i64) w A0_2 l0_2.length l0_2) (hc0_2:l0_2.length≤c0_2) (H:cx.f k a0_0 a0_1 l0_2 a1=some (r1,r2)) :
  Calls Tryd.prog 15 #[.agg #[.int .i64 a0_0,.bool a0_1,.slice A0_2 l0_2.length c0_2],.int .i64 a1] w fun e w'=>∃ v0_:Value,e=.returned (.tuple #[v0_,.bool r2])∧Kd.R (Kd.int .i64) 3 w' w.heap.size (fun _=>True) v0_ r1∧Below w.heap.size w w':=by
 have hu26:=Tryd.underlying26;have HR0_2:=A0_ hr0_2;have HC0_2:=A0_ hc0_2;clear hr0_2 hc0_2;have HB:=A0_ (Below.refl w.heap.size w);unfold cx.f at H;obtain ⟨t1,A2,H⟩:=o1_ H
 by_cases c1:t1=true
 case neg =>
  obtain rfl:=bf_.mpr c1;rw [if_neg ft_] at H;obtain ⟨y1,hy1⟩:∃ y_:List Int,y_=(([]:List Int)):=⟨_,rfl⟩;replace H:(some (y1,false))=some (r1,r2):=dp;have Ny1:=A0_ hy1;clear hy1;simp only [sj_,pj_] at H;obtain ⟨rfl,rfl⟩:=H;go_enter Tryd.func15,Tryd.ntmps15
  go_wp2_with (first|((with_reducible refine gd_ (N:=2) rfl ?_);refine bx_ 2 #[.int .i64 a0_0,.bool a0_1,.slice A0_2 l0_2.length c0_2] 26 ?_;intro gb1 hg w1 BK1 hb;have GW1:=ge_ hg am;have GE1:=GW1;replace HB:=hb_ hb am;clear hb hg;have hcz1:=c3_ BK1)|((with_reducible refine gc_ (f:=35) rfl ?_);refine gl_ 7 Tryd.func35 #[.agg #[.int .i64 a0_0,.bool a0_1,.slice A0_2 l0_2.length c0_2]] ?_;(with_reducible refine (aI.calls k a0_0 a0_1 _ _ l0_2 false _ ?_ ?_ A2.out).mono ?_);exact bn;exact HC0_2.out;rintro e w2 ⟨rfl,hb⟩;refine ⟨_,rfl,?_⟩;replace BK1:=k1_ BK1 hb;replace HB:=hb_ hb ab;(try clear hb))|((with_reducible refine gd_ (N:=14) rfl ?_);refine Kd.R_lit (Kd.int .i64) _ 3 ?hg (N:=14) ?hd (xs:=([]:List Int)) (inner:=[]) (ok:=fun _=>True) (okp:=fun _=>True) ?hr ?hp (fun _ hk=>hk) trivial (Below.refl _ _) (Nat.le_refl _) bx ?_;(case hd=>rfl);(case hg=>rfl);(case hr=>go_simp;first|done|rfl);(case hp=>exact (bu.none _ _));intro v1 w3 ho22 hb hg_ hnew_;clear hg_ hnew_;(first|rw [← Ny1.out] at ho22|(simp only [Int.reduceToNat] at ho22;rw [← Ny1.out] at ho22));have HO1:=A0_ (Kd.R_lower ho22 (bz_ ab));replace BK1:=k1_ BK1 hb;replace HB:=hb_ hb ab;clear hb ho22))
  go_ret2
  exact ⟨_,bc,bR,ab⟩
 subst c1;rw [if_pos rfl] at H;obtain ⟨t2,A4,H⟩:=o1_ H
 by_cases c2:t2=true
 ·subst c2
  rw [if_pos rfl] at H;obtain ⟨t3,A6,H⟩:=o1_ H;replace H:(some (t3,true))=some (r1,r2):=H;simp only [sj_,pj_] at H;obtain ⟨rfl,rfl⟩:=H;go_enter Tryd.func15,Tryd.ntmps15
  go_wp2_with (first|((with_reducible refine gd_ (N:=2) rfl ?_);refine bx_ 2 #[.int .i64 a0_0,.bool a0_1,.slice A0_2 l0_2.length c0_2] 26 ?_;intro gb1 hg w1 BK1 hb;have GW1:=ge_ hg am;have GE1:=GW1;replace HB:=hb_ hb am;clear hb hg;have hcz1:=c3_ BK1)|((with_reducible refine gc_ (f:=35) rfl ?_);refine gl_ 7 Tryd.func35 #[.agg #[.int .i64 a0_0,.bool a0_1,.slice A0_2 l0_2.length c0_2]] ?_;(with_reducible refine (aI.calls k a0_0 a0_1 _ _ l0_2 true _ ?_ ?_ A2.out).mono ?_);exact bn;exact HC0_2.out;rintro e w2 ⟨rfl,hb⟩;refine ⟨_,rfl,?_⟩;replace BK1:=k1_ BK1 hb;replace HB:=hb_ hb ab;(try clear hb))|(go_at_call 36;(with_reducible refine (bG.calls a1 true _ A4.out).mono ?_);rintro e w' ⟨rfl,⟨nd,rfl⟩⟩;have hcz2:=c3_ BK1)|((with_reducible refine gc_ (f:=51) rfl ?_);refine gl_ 17 Tryd.func51 #[.agg #[.int .i64 a0_0,.bool a0_1,.slice A0_2 l0_2.length c0_2],.int .i64 a1] ?_;(with_reducible refine (aW.calls k a0_0 a0_1 _ _ l0_2 a1 t3 _ ?_ ?_ A6.out).mono ?_);exact lm;exact HC0_2.out;rintro e w3 ⟨v1,rfl,ho0,hb⟩;refine ⟨_,rfl,?_⟩;have HO1:=A0_ (Kd.R_lower ho0 (bz_ ab));replace BK1:=k1_ BK1 hb;replace HB:=hb_ hb ab;(try clear hb ho0)))
  go_ret2
  exact ⟨_,bc,bR,ab⟩
 obtain rfl:=bf_.mpr c2;rw [if_neg ft_] at H;obtain ⟨y1,hy1⟩:∃ y_:List Int,y_=(([]:List Int)):=⟨_,rfl⟩;replace H:(some (y1,false))=some (r1,r2):=dp;have Ny1:=A0_ hy1;clear hy1;simp only [sj_,pj_] at H;obtain ⟨rfl,rfl⟩:=H;go_enter Tryd.func15,Tryd.ntmps15
 go_wp2_with (first|((with_reducible refine gd_ (N:=2) rfl ?_);refine bx_ 2 #[.int .i64 a0_0,.bool a0_1,.slice A0_2 l0_2.length c0_2] 26 ?_;intro gb1 hg w1 BK1 hb;have GW1:=ge_ hg am;have GE1:=GW1;replace HB:=hb_ hb am;clear hb hg;have hcz1:=c3_ BK1)|((with_reducible refine gc_ (f:=35) rfl ?_);refine gl_ 7 Tryd.func35 #[.agg #[.int .i64 a0_0,.bool a0_1,.slice A0_2 l0_2.length c0_2]] ?_;(with_reducible refine (aI.calls k a0_0 a0_1 _ _ l0_2 true _ ?_ ?_ A2.out).mono ?_);exact bn;exact HC0_2.out;rintro e w2 ⟨rfl,hb⟩;refine ⟨_,rfl,?_⟩;replace BK1:=k1_ BK1 hb;replace HB:=hb_ hb ab;(try clear hb))|(go_at_call 36;(with_reducible refine (bG.calls a1 false _ A4.out).mono ?_);rintro e w' ⟨rfl,⟨nd,rfl⟩⟩)|((with_reducible refine gd_ (N:=14) rfl ?_);refine Kd.R_lit (Kd.int .i64) _ 3 ?hg (N:=14) ?hd (xs:=([]:List Int)) (inner:=[]) (ok:=fun _=>True) (okp:=fun _=>True) ?hr ?hp (fun _ hk=>hk) trivial (Below.refl _ _) (Nat.le_refl _) bx ?_;(case hd=>rfl);(case hg=>rfl);(case hr=>go_simp;first|done|rfl);(case hp=>exact (bu.none _ _));intro v1 w3 ho17 hb hg_ hnew_;clear hg_ hnew_;(first|rw [← Ny1.out] at ho17|(simp only [Int.reduceToNat] at ho17;rw [← Ny1.out] at ho17));have HO1:=A0_ (Kd.R_lower ho17 (bz_ ab));replace BK1:=k1_ BK1 hb;replace HB:=hb_ hb ab;clear hb ho17))
 go_ret2
 exact ⟨_,bc,bR,ab⟩

def bN.l0:Nat→List Int→List Int→Int→Option (Bool)
 | 0,_,_,_=>none
 | k+1,x0,x1,x5=>if x5<(x0.length:Int) then (if 0≤x5 then (if x5<(x1.length:Int) then (if (rd x0 x5)=(rd x1 x5) then (bN.l0 k x0 x1 (wrap64 (x5+1))) else (some false)) else (none)) else (none)) else (some true)
def bN.f (k:Nat) (l0:List Int) (l1:List Int):Option (Bool):=if (l0.length:Int)=(l1.length:Int) then (bN.l0 k l0 l1 0) else (some false)
theorem bN.mono_l:∀ k,(∀ y0 y1 y2,LeO (bN.l0 k y0 y1 y2) (bN.l0 (k+1) y0 y1 y2))
 | 0=>fun _ _ _ r h=>by simp [bN.l0] at h
 | k+1=>by
  have ih0:=bN.mono_l k
  ·intro y0 y1 y2
   unfold bN.l0
   repeat' with_reducible first|exact ih0 ..|exact LeO.refl ..|exact LeO.none ..|refine LeO.ite ?_ ?_|refine LeO.bind ?_ (fun _=>?_)
theorem bN.mono:∀ a0 a1 k,LeO (bN.f k a0 a1) (bN.f (k+1) a0 a1):=by
 intro a0 a1 k;have ih0:=bN.mono_l k;unfold bN.f
 repeat' with_reducible first|exact ih0 ..|exact LeO.refl ..|exact LeO.none ..|refine LeO.ite ?_ ?_|refine LeO.bind ?_ (fun _=>?_)
theorem bN.calls (k:Nat) (A0:Option Addr) (c0:Nat) (l0:List Int) (A1:Option Addr) (c1:Nat) (l1:List Int) (r:Bool) (w:World) (hr0:Kd.C (Kd.int .i64) w A0 l0.length l0) (hc0:l0.length≤c0) (hr1:Kd.C (Kd.int .i64) w A1 l1.length l1) (hc1:l1.length≤c1) (H:bN.f k l0 l1=some r) :
  Calls Tryd.prog 16 #[.slice A0 l0.length c0,.slice A1 l1.length c1] w fun e w'=>e=.returned (.bool r)∧Drawn0 w w':=by
 have HR0:=A0_ hr0;have HC0:=A0_ hc0;clear hr0 hc0;have HR1:=A0_ hr1;have HC1:=A0_ hc1;clear hr1 hc1;unfold bN.f at H
 by_cases c2:(l0.length:Int)=(l1.length:Int)
 case neg =>
  rw [if_neg c2] at H;obtain ⟨c2b0,c2b1⟩:=ef_ c2
  have c2b2:(l0.length == l1.length)=false:=by first|simpa using c2|(simp at c2 ⊢;omega)
  obtain rfl:=si_ H;go_enter Tryd.func16,Tryd.ntmps16
  go_wp2
  repeat (go_quiet (fail);try go_wp2)
  go_ret
  exact ⟨eq,cT⟩
 rw [if_pos c2] at H;obtain ⟨c2b0,c2b1⟩:=et_ c2
 have c2b2:(l0.length == l1.length)=true:=by first|simpa using c2|(simp at c2 ⊢;omega)
 clear c2;have H':=A0_ H;clear H;go_enter Tryd.func16,Tryd.ntmps16
 go_wp2
 repeat (go_quiet (fail);try go_wp2)
 go_loopg [5] k (fun kq v1 w'=>∃ (x5_1:Int),v1=.int .i64 x5_1∧Aside0 (bN.l0 kq l0 l1 x5_1=some r)∧Aside0 (kq≤k)∧Drawn0 w w')
 case atStart=>exact ⟨(0),aC,H',⟨Nat.le_refl _⟩,cT⟩
 clear H'
 try clear c1
 try clear c2
 try clear c2b0
 try clear c2b1
 try clear c2b2
 obtain ⟨x5_1,rfl,HA,HK1,⟨m1,rfl⟩⟩:=hrel
 cases gk with|zero=>exact absurd HA.out (by simp [bN.l0])|succ k1=>?_
 have H:=HA.out;clear HA;simp only [bN.l0] at H
 by_cases c3:x5_1<(l0.length:Int)
 case neg =>
  rw [if_neg c3] at H;have c3b0:decide (x5_1<(l0.length:Int))=false:=decide_eq_false c3;clear c3;obtain rfl:=si_ H
  go_wp2
  repeat (go_quiet (fail);try go_wp2)
  go_ret
  exact ⟨eq,cT⟩
 rw [if_pos c3] at H;have c3b0:decide (x5_1<(l0.length:Int))=true:=dt_ c3;clear c3;obtain ⟨c4b0,H⟩:=i1_ H;obtain ⟨c5b0,H⟩:=i1_ H
 by_cases c6:(rd l0 x5_1)=(rd l1 x5_1)
 case neg =>
  rw [if_neg c6] at H;obtain ⟨c6b0,c6b1⟩:=ef_ c6;obtain rfl:=si_ H;have p1:0≤(x5_1:Int):=od_ aE;have q1:x5_1<(l0.length:Int):=od_ aE;obtain ⟨ad1,e1,hx1_0⟩:=Kd.at_int HR0.out x5_1 p1 q1;cases e1;replace p1:=eq_true p1;replace q1:=eq_true q1;have p2:0≤(x5_1:Int):=od_ aE;have q2:x5_1<(l1.length:Int):=od_ aE;obtain ⟨ad2,e2,hx2_0⟩:=Kd.at_int HR1.out x5_1 p2 q2;cases e2;replace p2:=eq_true p2;replace q2:=eq_true q2
  go_wp2
  repeat (go_quiet (fail);try go_wp2)
  go_ret
  exact ⟨eq,cT⟩
 rw [if_pos c6] at H;obtain ⟨c6b0,c6b1⟩:=et_ c6;clear c6;have H':=A0_ H;clear H;have p1:0≤(x5_1:Int):=od_ aE;have q1:x5_1<(l0.length:Int):=od_ aE;obtain ⟨ad1,e1,hx1_0⟩:=Kd.at_int HR0.out x5_1 p1 q1;cases e1;replace p1:=eq_true p1;replace q1:=eq_true q1;have p2:0≤(x5_1:Int):=od_ aE;have q2:x5_1<(l1.length:Int):=od_ aE;obtain ⟨ad2,e2,hx2_0⟩:=Kd.at_int HR1.out x5_1 p2 q2;cases e2;replace p2:=eq_true p2;replace q2:=eq_true q2
 go_wp2
 repeat (go_quiet (fail);try go_wp2)
 go_roundg k1
 case measure=>have:=HK1.out;omega
 exact ⟨(wrap64 (x5_1+1)),aC,H',⟨de⟩,cT⟩

end Go.Proofs.YtgcgmlbjklkkjaaDoor.QFnGame
-- packed
-- squeezed
