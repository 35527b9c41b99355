-- Written by px.py, a program of this session, over the kit's printer: some functions have a definition and a proof of this session's own.
import Derived.Test.YtgcgmlbjklkkjaaDoorQFnGamex0
import Derived.Test.YtgcgmlbjklkkjaaDoorQFnGamex1
import Derived.Test.YtgcgmlbjklkkjaaDoorQFnGamex2
import Derived.Test.YtgcgmlbjklkkjaaDoorQFnGamex3
namespace Go.Proofs.YtgcgmlbjklkkjaaDoor.QFnGame
open Go.RowKit Go.Proofs.YtgcgmlbjklkkjaaDoorW.PrintWords Go.Proofs.YtgcgmlbjklkkjaaDoorW.PrintLast Go.Proofs.YtgcgmlbjklkkjaaDoorW.PrintMore
attribute [local go_sem] fq ft gc gf eW eX fu fv   -- for this text's walks alone
set_option linter.unusedVariables false
set_option linter.unusedSimpArgs false
set_option maxHeartbeats 8000000
set_option maxRecDepth 100000

def a9.f (k:Nat) (a0_0:Int) (a0_1:Bool) (l0_2:List Int) (a1:Int):Option (Int × Bool):=(bf.f k a0_0 a0_1 l0_2 a1).bind fun t573=>(if t573=true then ((bd.f a0_0 a0_1 l0_2).bind fun bt574=>((a7.f k a0_0 a0_1 l0_2).bind fun t576=>((aV.f k bt574.1 bt574.2 t576 a1).bind fun t577=>(some (t577,true))))) else (some (0,false)))
theorem a9.mono:∀ a0 a1 a2 a3 k,LeO (a9.f k a0 a1 a2 a3) (a9.f (k+1) a0 a1 a2 a3):=by
 intro a0 a1 a2 a3 k;unfold a9.f
 repeat' with_reducible first|exact a7.mono ..|exact aV.mono ..|exact bf.mono ..|exact LeO.refl ..|exact LeO.none ..|refine LeO.ite ?_ ?_|refine LeO.bind ?_ (fun _=>?_)
def a9.T3:Bool × List (List Nat × List Nat):=(true,[([],[]),([0],[0]),([],[]),([2,1],[2]),([],[]),([1,3,4,3],[1,3,4]),([5,5,0,1,2,3,4,5],[5]),([6,0,1,2,3,4,5,6],[])])
def a9.B3:List Nat:=[0,1,0,7,0,31,63,127]
theorem a9.tab3:dx .any (dX Tryd.f17 3)=a9.T3:=by kernel_rfl
theorem a9.bits3:cp a9.T3.2 a9.B3=true:=by kernel_rfl
theorem a9.calls (k:Nat) (a0_0:Int) (a0_1:Bool) (A0_2:Option Addr) (c0_2:Nat) (l0_2:List Int) (a1:Int) (r1:Int) (r2:Bool) (w:World) (hr0_2:Kd.C (Kd.int .i64) w A0_2 l0_2.length l0_2) (hc0_2:l0_2.length≤c0_2) (H:a9.f k a0_0 a0_1 l0_2 a1=some (r1,r2)) :
  Calls Tryd.prog 17 #[.agg #[.int .i64 a0_0,.bool a0_1,.slice A0_2 l0_2.length c0_2],.int .i64 a1] w fun e w'=>e=.returned (.tuple #[.int .i64 r1,.bool r2])∧Below w.heap.size w w':=by
 have hu26:=Tryd.underlying26;have HR0_2:=A0_ hr0_2;have HC0_2:=A0_ hc0_2;clear hr0_2 hc0_2;have HB:=A0_ (Below.refl w.heap.size w);unfold a9.f at H;obtain ⟨t1,A2,H⟩:=o1_ H
 by_cases c1:t1=true
 case neg =>
  obtain rfl:=bf_.mpr c1;rw [if_neg ft_] at H;simp only [sj_,pj_] at H;obtain ⟨rfl,rfl⟩:=H;go_enter Tryd.func17,Tryd.ntmps17
  go_wp2_with (first|((with_reducible refine gd_ (N:=2) rfl ?_);refine bx_ 2 #[.int .i64 a0_0,.bool a0_1,.slice A0_2 l0_2.length c0_2] 26 ?_;intro gb1 hg w1 BK1 hb;have GW1:=ge_ hg am;have GE1:=GW1;replace HB:=hb_ hb am;clear hb hg;have hcz1:=c3_ BK1)|((with_reducible refine gc_ (f:=41) rfl ?_);refine gl_ 8 Tryd.func41 #[.agg #[.int .i64 a0_0,.bool a0_1,.slice A0_2 l0_2.length c0_2],.int .i64 a1] ?_;(with_reducible refine (bf.calls k a0_0 a0_1 _ _ l0_2 a1 false _ ?_ ?_ A2.out).mono ?_);exact bn;exact HC0_2.out;rintro e w2 ⟨rfl,hb⟩;refine ⟨_,rfl,?_⟩;replace BK1:=k1_ BK1 hb;replace HB:=hb_ hb ab;(try clear hb)))
  go_ret2
  exact ⟨bc,ab⟩
 subst c1;rw [if_pos rfl] at H;obtain ⟨⟨t4,t5⟩,A4,H⟩:=o1_ H;obtain ⟨t2,A6,H⟩:=o1_ H;obtain ⟨t3,A8,H⟩:=o1_ H;replace H:(some (t3,true))=some (r1,r2):=H;simp only [sj_,pj_] at H;obtain ⟨rfl,rfl⟩:=H;go_enter Tryd.func17,Tryd.ntmps17
 try go_wp2_with (first|((with_reducible refine gd_ (N:=2) rfl ?_);refine bx_ 2 #[.int .i64 a0_0,.bool a0_1,.slice A0_2 l0_2.length c0_2] 26 ?_;intro gb1 hg w1 BK1 hb;have GW1:=ge_ hg am;have GE1:=GW1;replace HB:=hb_ hb am;clear hb hg;have hcz1:=c3_ BK1)|((with_reducible refine gc_ (f:=41) rfl ?_);refine gl_ 8 Tryd.func41 #[.agg #[.int .i64 a0_0,.bool a0_1,.slice A0_2 l0_2.length c0_2],.int .i64 a1] ?_;(with_reducible refine (bf.calls k a0_0 a0_1 _ _ l0_2 a1 true _ ?_ ?_ A2.out).mono ?_);exact bn;exact HC0_2.out;rintro e w2 ⟨rfl,hb⟩;refine ⟨_,rfl,?_⟩;replace BK1:=k1_ BK1 hb;replace HB:=hb_ hb ab;(try clear hb)))
 replace BK1:=A0_ (kd_ BK1.out);replace HB:=A0_ (bd_ HB.out)
 refine s3_ 8 [] BK1 a9.tab3 a9.bits3 (fun hHeld HT_ HW_=>?_)
 generalize w2.drew=w3 at BK1 HB hHeld ⊢
 refine pu_ 4 14 ?_
 refine tk_ 0 10 hHeld ?_
 refine tk_ 2 12 hHeld ?_
 refine on_ 1 (some 11) (fun K hK=>?_)
 refine gs_ Tryd.func42 #[.agg #[.int .i64 a0_0,.bool a0_1,.slice A0_2 l0_2.length c0_2]] ?_
 with_reducible refine (bd.calls a0_0 a0_1 _ _ l0_2 t4 t5 _ ?_ ?_ A4.out).mono ?_
 exact bn
 exact HC0_2.out
 rintro e w4 ⟨rfl,hb⟩
 refine ⟨_,rfl,?_⟩
 replace BK1:=k1_ BK1 hb;replace HB:=hb_ hb ab
 (try clear hb)
 refine hK.out _ _ (c3_ BK1) (fun hHeld=>?_)
 clear hK K
 refine nm_ 11 ?_
 refine on_ 3 (some 13) (fun K hK=>?_)
 refine gs_ Tryd.func44 #[.agg #[.int .i64 a0_0,.bool a0_1,.slice A0_2 l0_2.length c0_2]] ?_
 with_reducible refine (a7.calls k a0_0 a0_1 _ _ l0_2 t2 _ ?_ ?_ A6.out).mono ?_
 exact bn
 exact HC0_2.out
 rintro e w5 ⟨rfl,hb⟩
 refine ⟨_,rfl,?_⟩
 replace BK1:=k1_ BK1 hb;replace HB:=hb_ hb ab
 (try clear hb)
 refine hK.out _ _ (c3_ BK1) (fun hHeld=>?_)
 clear hK K
 refine nm_ 13 ?_
 refine on_ 5 (some 15) (fun K hK=>?_)
 refine gs_ Tryd.func52 #[.agg #[.int .i64 t4,.bool t5],.int .u32 t2,.int .i64 a1] ?_
 with_reducible refine (aV.calls k t4 t5 t2 a1 t3 _ A8.out).mono ?_
 rintro e w6 ⟨rfl,hb⟩
 refine ⟨_,rfl,?_⟩
 replace BK1:=k1_ BK1 hb;replace HB:=hb_ hb ab
 (try clear hb)
 refine hK.out _ _ (c3_ BK1) (fun hHeld=>?_)
 clear hK K
 refine nm_ 15 ?_
 refine pu_ 6 4 ?_
 refine pu_ 7 5 ?_
 refine dn_ ?_
 try go_wp2
 go_ret2
 exact ⟨bc,ab⟩

def ck.f (k:Nat) (a0_0:Int) (a0_1:Bool) (l0_2:List Int) (a1:Int):Option (Int × Bool):=(aI.f k a0_0 a0_1 l0_2).bind fun t579=>(if t579=true then ((bG.f a1).bind fun t580=>(if t580=true then ((aj.f k a0_0 a0_1 l0_2 a1).bind fun t581=>(some (t581,true))) else (some (0,false)))) else (some (0,false)))
theorem ck.mono:∀ a0 a1 a2 a3 k,LeO (ck.f k a0 a1 a2 a3) (ck.f (k+1) a0 a1 a2 a3):=by
 intro a0 a1 a2 a3 k;unfold ck.f
 repeat' with_reducible first|exact aj.mono ..|exact aI.mono ..|exact LeO.refl ..|exact LeO.none ..|refine LeO.ite ?_ ?_|refine LeO.bind ?_ (fun _=>?_)
theorem ck.calls (k:Nat) (a0_0:Int) (a0_1:Bool) (A0_2:Option Addr) (c0_2:Nat) (l0_2:List Int) (a1:Int) (r1:Int) (r2:Bool) (w:World) (hr0_2:Kd.C (Kd.int .i64) w A0_2 l0_2.length l0_2) (hc0_2:l0_2.length≤c0_2) (H:ck.f k a0_0 a0_1 l0_2 a1=some (r1,r2)) :
  Calls Tryd.prog 18 #[.agg #[.int .i64 a0_0,.bool a0_1,.slice A0_2 l0_2.length c0_2],.int .i64 a1] w fun e w'=>e=.returned (.tuple #[.int .i64 r1,.bool r2])∧Below w.heap.size w w':=by
 have hu26:=Tryd.underlying26;have HR0_2:=A0_ hr0_2;have HC0_2:=A0_ hc0_2;clear hr0_2 hc0_2;have HB:=A0_ (Below.refl w.heap.size w);unfold ck.f at H;obtain ⟨t1,A2,H⟩:=o1_ H
 by_cases c1:t1=true
 case neg =>
  obtain rfl:=bf_.mpr c1;rw [if_neg ft_] at H;simp only [sj_,pj_] at H;obtain ⟨rfl,rfl⟩:=H;go_enter Tryd.func18,Tryd.ntmps18
  go_wp2_with (first|((with_reducible refine gd_ (N:=2) rfl ?_);refine bx_ 2 #[.int .i64 a0_0,.bool a0_1,.slice A0_2 l0_2.length c0_2] 26 ?_;intro gb1 hg w1 BK1 hb;have GW1:=ge_ hg am;have GE1:=GW1;replace HB:=hb_ hb am;clear hb hg;have hcz1:=c3_ BK1)|((with_reducible refine gc_ (f:=35) rfl ?_);refine gl_ 7 Tryd.func35 #[.agg #[.int .i64 a0_0,.bool a0_1,.slice A0_2 l0_2.length c0_2]] ?_;(with_reducible refine (aI.calls k a0_0 a0_1 _ _ l0_2 false _ ?_ ?_ A2.out).mono ?_);exact bn;exact HC0_2.out;rintro e w2 ⟨rfl,hb⟩;refine ⟨_,rfl,?_⟩;replace BK1:=k1_ BK1 hb;replace HB:=hb_ hb ab;(try clear hb)))
  go_ret2
  exact ⟨bc,ab⟩
 subst c1;rw [if_pos rfl] at H;obtain ⟨t2,A4,H⟩:=o1_ H
 by_cases c2:t2=true
 case neg =>
  obtain rfl:=bf_.mpr c2;rw [if_neg ft_] at H;simp only [sj_,pj_] at H;obtain ⟨rfl,rfl⟩:=H;go_enter Tryd.func18,Tryd.ntmps18
  go_wp2_with (first|((with_reducible refine gd_ (N:=2) rfl ?_);refine bx_ 2 #[.int .i64 a0_0,.bool a0_1,.slice A0_2 l0_2.length c0_2] 26 ?_;intro gb1 hg w1 BK1 hb;have GW1:=ge_ hg am;have GE1:=GW1;replace HB:=hb_ hb am;clear hb hg;have hcz1:=c3_ BK1)|((with_reducible refine gc_ (f:=35) rfl ?_);refine gl_ 7 Tryd.func35 #[.agg #[.int .i64 a0_0,.bool a0_1,.slice A0_2 l0_2.length c0_2]] ?_;(with_reducible refine (aI.calls k a0_0 a0_1 _ _ l0_2 true _ ?_ ?_ A2.out).mono ?_);exact bn;exact HC0_2.out;rintro e w2 ⟨rfl,hb⟩;refine ⟨_,rfl,?_⟩;replace BK1:=k1_ BK1 hb;replace HB:=hb_ hb ab;(try clear hb))|(go_at_call 36;(with_reducible refine (bG.calls a1 false _ A4.out).mono ?_);rintro e w' ⟨rfl,⟨nd,rfl⟩⟩))
  go_ret2
  exact ⟨bc,ab⟩
 subst c2;rw [if_pos rfl] at H;obtain ⟨t3,A6,H⟩:=o1_ H;replace H:(some (t3,true))=some (r1,r2):=H;simp only [sj_,pj_] at H;obtain ⟨rfl,rfl⟩:=H;go_enter Tryd.func18,Tryd.ntmps18
 go_wp2_with (first|((with_reducible refine gd_ (N:=2) rfl ?_);refine bx_ 2 #[.int .i64 a0_0,.bool a0_1,.slice A0_2 l0_2.length c0_2] 26 ?_;intro gb1 hg w1 BK1 hb;have GW1:=ge_ hg am;have GE1:=GW1;replace HB:=hb_ hb am;clear hb hg;have hcz1:=c3_ BK1)|((with_reducible refine gc_ (f:=35) rfl ?_);refine gl_ 7 Tryd.func35 #[.agg #[.int .i64 a0_0,.bool a0_1,.slice A0_2 l0_2.length c0_2]] ?_;(with_reducible refine (aI.calls k a0_0 a0_1 _ _ l0_2 true _ ?_ ?_ A2.out).mono ?_);exact bn;exact HC0_2.out;rintro e w2 ⟨rfl,hb⟩;refine ⟨_,rfl,?_⟩;replace BK1:=k1_ BK1 hb;replace HB:=hb_ hb ab;(try clear hb))|(go_at_call 36;(with_reducible refine (bG.calls a1 true _ A4.out).mono ?_);rintro e w' ⟨rfl,⟨nd,rfl⟩⟩;have hcz2:=c3_ BK1)|((with_reducible refine gc_ (f:=53) rfl ?_);refine gl_ 16 Tryd.func53 #[.agg #[.int .i64 a0_0,.bool a0_1,.slice A0_2 l0_2.length c0_2],.int .i64 a1] ?_;(with_reducible refine (aj.calls k a0_0 a0_1 _ _ l0_2 a1 t3 _ ?_ ?_ A6.out).mono ?_);exact lm;exact HC0_2.out;rintro e w3 ⟨rfl,hb⟩;refine ⟨_,rfl,?_⟩;replace BK1:=k1_ BK1 hb;replace HB:=hb_ hb ab;(try clear hb)))
 go_ret2
 exact ⟨bc,ab⟩

def cR.f (k:Nat) (a0_0:Int) (a0_1:Bool) (l0_2:List Int) (a1:Int):Option (Bool × Bool):=(a9.f k a0_0 a0_1 l0_2 a1).bind fun bt583=>(some ((bt583.1 != 0),bt583.2))
theorem cR.mono:∀ a0 a1 a2 a3 k,LeO (cR.f k a0 a1 a2 a3) (cR.f (k+1) a0 a1 a2 a3):=by
 intro a0 a1 a2 a3 k;unfold cR.f
 repeat' with_reducible first|exact a9.mono ..|exact LeO.refl ..|exact LeO.none ..|refine LeO.ite ?_ ?_|refine LeO.bind ?_ (fun _=>?_)
theorem cR.calls (k:Nat) (a0_0:Int) (a0_1:Bool) (A0_2:Option Addr) (c0_2:Nat) (l0_2:List Int) (a1:Int) (r1:Bool) (r2:Bool) (w:World) (hr0_2:Kd.C (Kd.int .i64) w A0_2 l0_2.length l0_2) (hc0_2:l0_2.length≤c0_2) (H:cR.f k a0_0 a0_1 l0_2 a1=some (r1,r2)) :
  Calls Tryd.prog 19 #[.agg #[.int .i64 a0_0,.bool a0_1,.slice A0_2 l0_2.length c0_2],.int .i64 a1] w fun e w'=>e=.returned (.tuple #[.bool r1,.bool r2])∧Below w.heap.size w w':=by
 have hu26:=Tryd.underlying26;have HR0_2:=A0_ hr0_2;have HC0_2:=A0_ hc0_2;clear hr0_2 hc0_2;have HB:=A0_ (Below.refl w.heap.size w);unfold cR.f at H;obtain ⟨⟨t1,t2⟩,A2,H⟩:=o1_ H;replace H:(some ((t1 != 0),t2))=some (r1,r2):=H;simp only [sj_,pj_] at H;obtain ⟨rfl,rfl⟩:=H;go_enter Tryd.func19,Tryd.ntmps19
 go_wp2_with (first|((with_reducible refine gd_ (N:=2) rfl ?_);refine bx_ 2 #[.int .i64 a0_0,.bool a0_1,.slice A0_2 l0_2.length c0_2] 26 ?_;intro gb1 hg w1 BK1 hb;have GW1:=ge_ hg am;have GE1:=GW1;replace HB:=hb_ hb am;clear hb hg;have hcz1:=c3_ BK1)|((with_reducible refine gc_ (f:=17) rfl ?_);refine gl_ 11 Tryd.func17 #[.agg #[.int .i64 a0_0,.bool a0_1,.slice A0_2 l0_2.length c0_2],.int .i64 a1] ?_;(with_reducible refine (a9.calls k a0_0 a0_1 _ _ l0_2 a1 t1 t2 _ ?_ ?_ A2.out).mono ?_);exact bn;exact HC0_2.out;rintro e w2 ⟨rfl,hb⟩;refine ⟨_,rfl,?_⟩;replace BK1:=k1_ BK1 hb;replace HB:=hb_ hb ab;(try clear hb)))
 go_ret2
 exact ⟨bc,ab⟩

def dj.f (k:Nat) (a0_0:Int) (a0_1:Bool) (l0_2:List Int) (a1:Int):Option (Bool × Bool):=(aI.f k a0_0 a0_1 l0_2).bind fun t586=>(if t586=true then ((bG.f a1).bind fun t587=>(if t587=true then ((aj.f k a0_0 a0_1 l0_2 a1).bind fun t588=>(some ((t588 != 0),true))) else (some (false,false)))) else (some (false,false)))
theorem dj.mono:∀ a0 a1 a2 a3 k,LeO (dj.f k a0 a1 a2 a3) (dj.f (k+1) a0 a1 a2 a3):=by
 intro a0 a1 a2 a3 k;unfold dj.f
 repeat' with_reducible first|exact aj.mono ..|exact aI.mono ..|exact LeO.refl ..|exact LeO.none ..|refine LeO.ite ?_ ?_|refine LeO.bind ?_ (fun _=>?_)
theorem dj.calls (k:Nat) (a0_0:Int) (a0_1:Bool) (A0_2:Option Addr) (c0_2:Nat) (l0_2:List Int) (a1:Int) (r1:Bool) (r2:Bool) (w:World) (hr0_2:Kd.C (Kd.int .i64) w A0_2 l0_2.length l0_2) (hc0_2:l0_2.length≤c0_2) (H:dj.f k a0_0 a0_1 l0_2 a1=some (r1,r2)) :
  Calls Tryd.prog 20 #[.agg #[.int .i64 a0_0,.bool a0_1,.slice A0_2 l0_2.length c0_2],.int .i64 a1] w fun e w'=>e=.returned (.tuple #[.bool r1,.bool r2])∧Below w.heap.size w w':=by
 have hu26:=Tryd.underlying26;have HR0_2:=A0_ hr0_2;have HC0_2:=A0_ hc0_2;clear hr0_2 hc0_2;have HB:=A0_ (Below.refl w.heap.size w);unfold dj.f at H;obtain ⟨t1,A2,H⟩:=o1_ H
 by_cases c1:t1=true
 case neg =>
  obtain rfl:=bf_.mpr c1;rw [if_neg ft_] at H;simp only [sj_,pj_] at H;obtain ⟨rfl,rfl⟩:=H;go_enter Tryd.func20,Tryd.ntmps20
  go_wp2_with (first|((with_reducible refine gd_ (N:=2) rfl ?_);refine bx_ 2 #[.int .i64 a0_0,.bool a0_1,.slice A0_2 l0_2.length c0_2] 26 ?_;intro gb1 hg w1 BK1 hb;have GW1:=ge_ hg am;have GE1:=GW1;replace HB:=hb_ hb am;clear hb hg;have hcz1:=c3_ BK1)|((with_reducible refine gc_ (f:=35) rfl ?_);refine gl_ 7 Tryd.func35 #[.agg #[.int .i64 a0_0,.bool a0_1,.slice A0_2 l0_2.length c0_2]] ?_;(with_reducible refine (aI.calls k a0_0 a0_1 _ _ l0_2 false _ ?_ ?_ A2.out).mono ?_);exact bn;exact HC0_2.out;rintro e w2 ⟨rfl,hb⟩;refine ⟨_,rfl,?_⟩;replace BK1:=k1_ BK1 hb;replace HB:=hb_ hb ab;(try clear hb)))
  go_ret2
  exact ⟨bc,ab⟩
 subst c1;rw [if_pos rfl] at H;obtain ⟨t2,A4,H⟩:=o1_ H
 by_cases c2:t2=true
 case neg =>
  obtain rfl:=bf_.mpr c2;rw [if_neg ft_] at H;simp only [sj_,pj_] at H;obtain ⟨rfl,rfl⟩:=H;go_enter Tryd.func20,Tryd.ntmps20
  go_wp2_with (first|((with_reducible refine gd_ (N:=2) rfl ?_);refine bx_ 2 #[.int .i64 a0_0,.bool a0_1,.slice A0_2 l0_2.length c0_2] 26 ?_;intro gb1 hg w1 BK1 hb;have GW1:=ge_ hg am;have GE1:=GW1;replace HB:=hb_ hb am;clear hb hg;have hcz1:=c3_ BK1)|((with_reducible refine gc_ (f:=35) rfl ?_);refine gl_ 7 Tryd.func35 #[.agg #[.int .i64 a0_0,.bool a0_1,.slice A0_2 l0_2.length c0_2]] ?_;(with_reducible refine (aI.calls k a0_0 a0_1 _ _ l0_2 true _ ?_ ?_ A2.out).mono ?_);exact bn;exact HC0_2.out;rintro e w2 ⟨rfl,hb⟩;refine ⟨_,rfl,?_⟩;replace BK1:=k1_ BK1 hb;replace HB:=hb_ hb ab;(try clear hb))|(go_at_call 36;(with_reducible refine (bG.calls a1 false _ A4.out).mono ?_);rintro e w' ⟨rfl,⟨nd,rfl⟩⟩))
  go_ret2
  exact ⟨bc,ab⟩
 subst c2;rw [if_pos rfl] at H;obtain ⟨t3,A6,H⟩:=o1_ H;replace H:(some ((t3 != 0),true))=some (r1,r2):=H;simp only [sj_,pj_] at H;obtain ⟨rfl,rfl⟩:=H;go_enter Tryd.func20,Tryd.ntmps20
 go_wp2_with (first|((with_reducible refine gd_ (N:=2) rfl ?_);refine bx_ 2 #[.int .i64 a0_0,.bool a0_1,.slice A0_2 l0_2.length c0_2] 26 ?_;intro gb1 hg w1 BK1 hb;have GW1:=ge_ hg am;have GE1:=GW1;replace HB:=hb_ hb am;clear hb hg;have hcz1:=c3_ BK1)|((with_reducible refine gc_ (f:=35) rfl ?_);refine gl_ 7 Tryd.func35 #[.agg #[.int .i64 a0_0,.bool a0_1,.slice A0_2 l0_2.length c0_2]] ?_;(with_reducible refine (aI.calls k a0_0 a0_1 _ _ l0_2 true _ ?_ ?_ A2.out).mono ?_);exact bn;exact HC0_2.out;rintro e w2 ⟨rfl,hb⟩;refine ⟨_,rfl,?_⟩;replace BK1:=k1_ BK1 hb;replace HB:=hb_ hb ab;(try clear hb))|(go_at_call 36;(with_reducible refine (bG.calls a1 true _ A4.out).mono ?_);rintro e w' ⟨rfl,⟨nd,rfl⟩⟩;have hcz2:=c3_ BK1)|((with_reducible refine gc_ (f:=53) rfl ?_);refine gl_ 16 Tryd.func53 #[.agg #[.int .i64 a0_0,.bool a0_1,.slice A0_2 l0_2.length c0_2],.int .i64 a1] ?_;(with_reducible refine (aj.calls k a0_0 a0_1 _ _ l0_2 a1 t3 _ ?_ ?_ A6.out).mono ?_);exact lm;exact HC0_2.out;rintro e w3 ⟨rfl,hb⟩;refine ⟨_,rfl,?_⟩;replace BK1:=k1_ BK1 hb;replace HB:=hb_ hb ab;(try clear hb)))
 go_ret2
 exact ⟨bc,ab⟩

def bj.f (k:Nat) (a0_0:Int) (a0_1:Bool) (l0_2:List Int) (a1:Int):Option (List Int × Bool):=(bf.f k a0_0 a0_1 l0_2 a1).bind fun t590=>(if t590=true then ((bd.f a0_0 a0_1 l0_2).bind fun bt591=>((a7.f k a0_0 a0_1 l0_2).bind fun t593=>((aG.f k bt591.1 bt591.2 t593 a1).bind fun t594=>(some (t594,true))))) else (some (([]:List Int),false)))
theorem bj.mono:∀ a0 a1 a2 a3 k,LeO (bj.f k a0 a1 a2 a3) (bj.f (k+1) a0 a1 a2 a3):=by
 intro a0 a1 a2 a3 k;unfold bj.f
 repeat' with_reducible first|exact a7.mono ..|exact aG.mono ..|exact bf.mono ..|exact LeO.refl ..|exact LeO.none ..|refine LeO.ite ?_ ?_|refine LeO.bind ?_ (fun _=>?_)
def bj.T3:Bool × List (List Nat × List Nat):=(true,[([],[]),([0],[0]),([],[]),([2,1],[2]),([],[]),([1,3,4,3],[1,3,4]),([5,5,0,1,2,3,4,5],[5]),([6,0,1,2,3,4,5,6],[])])
def bj.B3:List Nat:=[0,1,0,7,0,31,63,127]
theorem bj.tab3:dx .any (dX Tryd.f21 3)=bj.T3:=by kernel_rfl
theorem bj.bits3:cp bj.T3.2 bj.B3=true:=by kernel_rfl
theorem bj.calls (k:Nat) (a0_0:Int) (a0_1:Bool) (A0_2:Option Addr) (c0_2:Nat) (l0_2:List Int) (a1:Int) (r1:List Int) (r2:Bool) (w:World) (hr0_2:Kd.C (Kd.int .i64) w A0_2 l0_2.length l0_2) (hc0_2:l0_2.length≤c0_2) (H:bj.f k a0_0 a0_1 l0_2 a1=some (r1,r2)) :
  Calls Tryd.prog 21 #[.agg #[.int .i64 a0_0,.bool a0_1,.slice A0_2 l0_2.length c0_2],.int .i64 a1] w fun e w'=>∃ v0_:Value,e=.returned (.tuple #[v0_,.bool r2])∧Kd.R (Kd.int .i64) 3 w' w.heap.size (fun _=>True) v0_ r1∧Below w.heap.size w w':=by
 have hu26:=Tryd.underlying26;have HR0_2:=A0_ hr0_2;have HC0_2:=A0_ hc0_2;clear hr0_2 hc0_2;have HB:=A0_ (Below.refl w.heap.size w);unfold bj.f at H;obtain ⟨t1,A2,H⟩:=o1_ H
 by_cases c1:t1=true
 case neg =>
  obtain rfl:=bf_.mpr c1;rw [if_neg ft_] at H;simp only [sj_,pj_] at H;obtain ⟨rfl,rfl⟩:=H;go_enter Tryd.func21,Tryd.ntmps21
  go_wp2_with (first|((with_reducible refine gd_ (N:=2) rfl ?_);refine bx_ 2 #[.int .i64 a0_0,.bool a0_1,.slice A0_2 l0_2.length c0_2] 26 ?_;intro gb1 hg w1 BK1 hb;have GW1:=ge_ hg am;have GE1:=GW1;replace HB:=hb_ hb am;clear hb hg;have hcz1:=c3_ BK1)|((with_reducible refine gc_ (f:=41) rfl ?_);refine gl_ 8 Tryd.func41 #[.agg #[.int .i64 a0_0,.bool a0_1,.slice A0_2 l0_2.length c0_2],.int .i64 a1] ?_;(with_reducible refine (bf.calls k a0_0 a0_1 _ _ l0_2 a1 false _ ?_ ?_ A2.out).mono ?_);exact bn;exact HC0_2.out;rintro e w2 ⟨rfl,hb⟩;refine ⟨_,rfl,?_⟩;replace BK1:=k1_ BK1 hb;replace HB:=hb_ hb ab;(try clear hb)))
  go_ret2
  exact ⟨_,bc,iu,ab⟩
 subst c1;rw [if_pos rfl] at H;obtain ⟨⟨t4,t5⟩,A4,H⟩:=o1_ H;obtain ⟨t2,A6,H⟩:=o1_ H;obtain ⟨t3,A8,H⟩:=o1_ H;replace H:(some (t3,true))=some (r1,r2):=H;simp only [sj_,pj_] at H;obtain ⟨rfl,rfl⟩:=H;go_enter Tryd.func21,Tryd.ntmps21
 try go_wp2_with (first|((with_reducible refine gd_ (N:=2) rfl ?_);refine bx_ 2 #[.int .i64 a0_0,.bool a0_1,.slice A0_2 l0_2.length c0_2] 26 ?_;intro gb1 hg w1 BK1 hb;have GW1:=ge_ hg am;have GE1:=GW1;replace HB:=hb_ hb am;clear hb hg;have hcz1:=c3_ BK1)|((with_reducible refine gc_ (f:=41) rfl ?_);refine gl_ 8 Tryd.func41 #[.agg #[.int .i64 a0_0,.bool a0_1,.slice A0_2 l0_2.length c0_2],.int .i64 a1] ?_;(with_reducible refine (bf.calls k a0_0 a0_1 _ _ l0_2 a1 true _ ?_ ?_ A2.out).mono ?_);exact bn;exact HC0_2.out;rintro e w2 ⟨rfl,hb⟩;refine ⟨_,rfl,?_⟩;replace BK1:=k1_ BK1 hb;replace HB:=hb_ hb ab;(try clear hb)))
 replace BK1:=A0_ (kd_ BK1.out);replace HB:=A0_ (bd_ HB.out)
 refine s3_ 8 [] BK1 bj.tab3 bj.bits3 (fun hHeld HT_ HW_=>?_)
 generalize w2.drew=w3 at BK1 HB hHeld ⊢
 refine pu_ 4 14 ?_
 refine tk_ 0 10 hHeld ?_
 refine tk_ 2 12 hHeld ?_
 refine on_ 1 (some 11) (fun K hK=>?_)
 refine gs_ Tryd.func42 #[.agg #[.int .i64 a0_0,.bool a0_1,.slice A0_2 l0_2.length c0_2]] ?_
 with_reducible refine (bd.calls a0_0 a0_1 _ _ l0_2 t4 t5 _ ?_ ?_ A4.out).mono ?_
 exact bn
 exact HC0_2.out
 rintro e w4 ⟨rfl,hb⟩
 refine ⟨_,rfl,?_⟩
 replace BK1:=k1_ BK1 hb;replace HB:=hb_ hb ab
 (try clear hb)
 refine hK.out _ _ (c3_ BK1) (fun hHeld=>?_)
 clear hK K
 refine nm_ 11 ?_
 refine on_ 3 (some 13) (fun K hK=>?_)
 refine gs_ Tryd.func44 #[.agg #[.int .i64 a0_0,.bool a0_1,.slice A0_2 l0_2.length c0_2]] ?_
 with_reducible refine (a7.calls k a0_0 a0_1 _ _ l0_2 t2 _ ?_ ?_ A6.out).mono ?_
 exact bn
 exact HC0_2.out
 rintro e w5 ⟨rfl,hb⟩
 refine ⟨_,rfl,?_⟩
 replace BK1:=k1_ BK1 hb;replace HB:=hb_ hb ab
 (try clear hb)
 refine hK.out _ _ (c3_ BK1) (fun hHeld=>?_)
 clear hK K
 refine nm_ 13 ?_
 refine on_ 5 (some 15) (fun K hK=>?_)
 refine gs_ Tryd.func54 #[.agg #[.int .i64 t4,.bool t5],.int .u32 t2,.int .i64 a1] ?_
 with_reducible refine (aG.calls k t4 t5 t2 a1 t3 _ A8.out).mono ?_
 rintro e w6 ⟨v1,rfl,ho0,hb⟩
 refine ⟨_,rfl,?_⟩
 have HO1:=A0_ (Kd.R_lower ho0 (bz_ ab));replace BK1:=k1_ BK1 hb;replace HB:=hb_ hb ab
 (try clear hb ho0)
 refine hK.out _ _ (c3_ BK1) (fun hHeld=>?_)
 clear hK K
 refine nm_ 15 ?_
 refine pu_ 6 4 ?_
 refine pu_ 7 5 ?_
 refine dn_ ?_
 try go_wp2
 go_ret2
 exact ⟨_,bc,bR,ab⟩

def bP.f (k:Nat) (a0_0:Int) (a0_1:Bool) (l0_2:List Int) (a1:Int):Option (List Int × Bool):=(aI.f k a0_0 a0_1 l0_2).bind fun t598=>(if t598=true then ((bG.f a1).bind fun t599=>(if t599=true then ((aA.f k a0_0 a0_1 l0_2 a1).bind fun t600=>(some (t600,true))) else (some ((([]:List Int)),false)))) else (some ((([]:List Int)),false)))
theorem bP.mono:∀ a0 a1 a2 a3 k,LeO (bP.f k a0 a1 a2 a3) (bP.f (k+1) a0 a1 a2 a3):=by
 intro a0 a1 a2 a3 k;unfold bP.f
 repeat' with_reducible first|exact aA.mono ..|exact aI.mono ..|exact LeO.refl ..|exact LeO.none ..|refine LeO.ite ?_ ?_|refine LeO.bind ?_ (fun _=>?_)
theorem bP.calls (k:Nat) (a0_0:Int) (a0_1:Bool) (A0_2:Option Addr) (c0_2:Nat) (l0_2:List Int) (a1:Int) (r1:List Int) (r2:Bool) (w:World) (hr0_2:Kd.C (Kd.int .i64) w A0_2 l0_2.length l0_2) (hc0_2:l0_2.length≤c0_2) (H:bP.f k a0_0 a0_1 l0_2 a1=some (r1,r2)) :
  Calls Tryd.prog 22 #[.agg #[.int .i64 a0_0,.bool a0_1,.slice A0_2 l0_2.length c0_2],.int .i64 a1] w fun e w'=>∃ v0_:Value,e=.returned (.tuple #[v0_,.bool r2])∧Kd.R (Kd.int .i64) 3 w' w.heap.size (fun _=>True) v0_ r1∧Below w.heap.size w w':=by
 have hu26:=Tryd.underlying26;have HR0_2:=A0_ hr0_2;have HC0_2:=A0_ hc0_2;clear hr0_2 hc0_2;have HB:=A0_ (Below.refl w.heap.size w);unfold bP.f at H;obtain ⟨t1,A2,H⟩:=o1_ H
 by_cases c1:t1=true
 case neg =>
  obtain rfl:=bf_.mpr c1;rw [if_neg ft_] at H;obtain ⟨y1,hy1⟩:∃ y_:List Int,y_=(([]:List Int)):=⟨_,rfl⟩;replace H:(some (y1,false))=some (r1,r2):=dp;have Ny1:=A0_ hy1;clear hy1;simp only [sj_,pj_] at H;obtain ⟨rfl,rfl⟩:=H;go_enter Tryd.func22,Tryd.ntmps22
  go_wp2_with (first|((with_reducible refine gd_ (N:=2) rfl ?_);refine bx_ 2 #[.int .i64 a0_0,.bool a0_1,.slice A0_2 l0_2.length c0_2] 26 ?_;intro gb1 hg w1 BK1 hb;have GW1:=ge_ hg am;have GE1:=GW1;replace HB:=hb_ hb am;clear hb hg;have hcz1:=c3_ BK1)|((with_reducible refine gc_ (f:=35) rfl ?_);refine gl_ 7 Tryd.func35 #[.agg #[.int .i64 a0_0,.bool a0_1,.slice A0_2 l0_2.length c0_2]] ?_;(with_reducible refine (aI.calls k a0_0 a0_1 _ _ l0_2 false _ ?_ ?_ A2.out).mono ?_);exact bn;exact HC0_2.out;rintro e w2 ⟨rfl,hb⟩;refine ⟨_,rfl,?_⟩;replace BK1:=k1_ BK1 hb;replace HB:=hb_ hb ab;(try clear hb))|((with_reducible refine gd_ (N:=14) rfl ?_);refine Kd.R_lit (Kd.int .i64) _ 3 ?hg (N:=14) ?hd (xs:=([]:List Int)) (inner:=[]) (ok:=fun _=>True) (okp:=fun _=>True) ?hr ?hp (fun _ hk=>hk) trivial (Below.refl _ _) (Nat.le_refl _) bx ?_;(case hd=>rfl);(case hg=>rfl);(case hr=>go_simp;first|done|rfl);(case hp=>exact (bu.none _ _));intro v1 w3 ho22 hb hg_ hnew_;clear hg_ hnew_;(first|rw [← Ny1.out] at ho22|(simp only [Int.reduceToNat] at ho22;rw [← Ny1.out] at ho22));have HO1:=A0_ (Kd.R_lower ho22 (bz_ ab));replace BK1:=k1_ BK1 hb;replace HB:=hb_ hb ab;clear hb ho22))
  go_ret2
  exact ⟨_,bc,bR,ab⟩
 subst c1;rw [if_pos rfl] at H;obtain ⟨t2,A4,H⟩:=o1_ H
 by_cases c2:t2=true
 ·subst c2
  rw [if_pos rfl] at H;obtain ⟨t3,A6,H⟩:=o1_ H;replace H:(some (t3,true))=some (r1,r2):=H;simp only [sj_,pj_] at H;obtain ⟨rfl,rfl⟩:=H;go_enter Tryd.func22,Tryd.ntmps22
  go_wp2_with (first|((with_reducible refine gd_ (N:=2) rfl ?_);refine bx_ 2 #[.int .i64 a0_0,.bool a0_1,.slice A0_2 l0_2.length c0_2] 26 ?_;intro gb1 hg w1 BK1 hb;have GW1:=ge_ hg am;have GE1:=GW1;replace HB:=hb_ hb am;clear hb hg;have hcz1:=c3_ BK1)|((with_reducible refine gc_ (f:=35) rfl ?_);refine gl_ 7 Tryd.func35 #[.agg #[.int .i64 a0_0,.bool a0_1,.slice A0_2 l0_2.length c0_2]] ?_;(with_reducible refine (aI.calls k a0_0 a0_1 _ _ l0_2 true _ ?_ ?_ A2.out).mono ?_);exact bn;exact HC0_2.out;rintro e w2 ⟨rfl,hb⟩;refine ⟨_,rfl,?_⟩;replace BK1:=k1_ BK1 hb;replace HB:=hb_ hb ab;(try clear hb))|(go_at_call 36;(with_reducible refine (bG.calls a1 true _ A4.out).mono ?_);rintro e w' ⟨rfl,⟨nd,rfl⟩⟩;have hcz2:=c3_ BK1)|((with_reducible refine gc_ (f:=38) rfl ?_);refine gl_ 17 Tryd.func38 #[.agg #[.int .i64 a0_0,.bool a0_1,.slice A0_2 l0_2.length c0_2],.int .i64 a1] ?_;(with_reducible refine (aA.calls k a0_0 a0_1 _ _ l0_2 a1 t3 _ ?_ ?_ A6.out).mono ?_);exact lm;exact HC0_2.out;rintro e w3 ⟨v1,rfl,ho0,hb⟩;refine ⟨_,rfl,?_⟩;have HO1:=A0_ (Kd.R_lower ho0 (bz_ ab));replace BK1:=k1_ BK1 hb;replace HB:=hb_ hb ab;(try clear hb ho0)))
  go_ret2
  exact ⟨_,bc,bR,ab⟩
 obtain rfl:=bf_.mpr c2;rw [if_neg ft_] at H;obtain ⟨y1,hy1⟩:∃ y_:List Int,y_=(([]:List Int)):=⟨_,rfl⟩;replace H:(some (y1,false))=some (r1,r2):=dp;have Ny1:=A0_ hy1;clear hy1;simp only [sj_,pj_] at H;obtain ⟨rfl,rfl⟩:=H;go_enter Tryd.func22,Tryd.ntmps22
 go_wp2_with (first|((with_reducible refine gd_ (N:=2) rfl ?_);refine bx_ 2 #[.int .i64 a0_0,.bool a0_1,.slice A0_2 l0_2.length c0_2] 26 ?_;intro gb1 hg w1 BK1 hb;have GW1:=ge_ hg am;have GE1:=GW1;replace HB:=hb_ hb am;clear hb hg;have hcz1:=c3_ BK1)|((with_reducible refine gc_ (f:=35) rfl ?_);refine gl_ 7 Tryd.func35 #[.agg #[.int .i64 a0_0,.bool a0_1,.slice A0_2 l0_2.length c0_2]] ?_;(with_reducible refine (aI.calls k a0_0 a0_1 _ _ l0_2 true _ ?_ ?_ A2.out).mono ?_);exact bn;exact HC0_2.out;rintro e w2 ⟨rfl,hb⟩;refine ⟨_,rfl,?_⟩;replace BK1:=k1_ BK1 hb;replace HB:=hb_ hb ab;(try clear hb))|(go_at_call 36;(with_reducible refine (bG.calls a1 false _ A4.out).mono ?_);rintro e w' ⟨rfl,⟨nd,rfl⟩⟩)|((with_reducible refine gd_ (N:=14) rfl ?_);refine Kd.R_lit (Kd.int .i64) _ 3 ?hg (N:=14) ?hd (xs:=([]:List Int)) (inner:=[]) (ok:=fun _=>True) (okp:=fun _=>True) ?hr ?hp (fun _ hk=>hk) trivial (Below.refl _ _) (Nat.le_refl _) bx ?_;(case hd=>rfl);(case hg=>rfl);(case hr=>go_simp;first|done|rfl);(case hp=>exact (bu.none _ _));intro v1 w3 ho17 hb hg_ hnew_;clear hg_ hnew_;(first|rw [← Ny1.out] at ho17|(simp only [Int.reduceToNat] at ho17;rw [← Ny1.out] at ho17));have HO1:=A0_ (Kd.R_lower ho17 (bz_ ab));replace BK1:=k1_ BK1 hb;replace HB:=hb_ hb ab;clear hb ho17))
 go_ret2
 exact ⟨_,bc,bR,ab⟩

def aJ.l0:Nat→Int→List Int→Int→Int→Bool→Option (List Int × Bool)
 | 0,_,_,_,_,_=>none
 | k+1,x1,x6,x8,xa,xb=>(aG.f k xa xb x8 x1).bind fun t618=>(if (t618.length:Int)=0 then (some (x6,true)) else (if 0<(t618.length:Int) then ((aq.f k xa xb x8 x1).bind fun t622=>(if (t622.length:Int) > 0 then (if 0<(t622.length:Int) then (if x6.length<17592186044416 then ((a8.f k xa xb x8 x1 (rd t622 0)).bind fun t629=>(aJ.l0 k x1 (x6++[rd t622 0]) t629 xa xb)) else (none)) else (none)) else (if x6.length<17592186044416 then ((a8.f k xa xb x8 x1 (rd t618 0)).bind fun t633=>(aJ.l0 k x1 (x6++[rd t618 0]) t633 xa xb)) else (none)))) else (none)))
def aJ.f (k:Nat) (a0_0:Int) (a0_1:Bool) (l0_2:List Int) (a1:Int):Option (List Int × Bool):=(bf.f k a0_0 a0_1 l0_2 a1).bind fun t610=>(if t610=true then ((bd.f a0_0 a0_1 l0_2).bind fun bt614=>((a7.f k a0_0 a0_1 l0_2).bind fun t617=>(aJ.l0 k a1 (([]:List Int)) t617 bt614.1 bt614.2))) else (some (([]:List Int),false)))
theorem aJ.mono_l:∀ k,(∀ y0 y1 y2 y3 y4,LeO (aJ.l0 k y0 y1 y2 y3 y4) (aJ.l0 (k+1) y0 y1 y2 y3 y4))
 | 0=>fun _ _ _ _ _ r h=>by simp [aJ.l0] at h
 | k+1=>by
  have ih0:=aJ.mono_l k
  ·intro y0 y1 y2 y3 y4
   unfold aJ.l0
   repeat' with_reducible first|exact ih0 ..|exact a7.mono ..|exact a8.mono ..|exact aG.mono ..|exact aq.mono ..|exact bf.mono ..|exact LeO.refl ..|exact LeO.none ..|refine LeO.ite ?_ ?_|refine LeO.bind ?_ (fun _=>?_)
theorem aJ.mono:∀ a0 a1 a2 a3 k,LeO (aJ.f k a0 a1 a2 a3) (aJ.f (k+1) a0 a1 a2 a3):=by
 intro a0 a1 a2 a3 k;have ih0:=aJ.mono_l k;unfold aJ.f
 repeat' with_reducible first|exact ih0 ..|exact a7.mono ..|exact a8.mono ..|exact aG.mono ..|exact aq.mono ..|exact bf.mono ..|exact LeO.refl ..|exact LeO.none ..|refine LeO.ite ?_ ?_|refine LeO.bind ?_ (fun _=>?_)
def aJ.T12:Bool × List (List Nat × List Nat):=(true,[([],[]),([],[]),([1],[1]),([0,2],[0,2]),([],[]),([],[]),([],[]),([],[]),([4,5,6,7,3],[4,5,6,7]),([3,8,0,1,2,3],[0,3]),([8,9,0,1,2,3,4,5,6,7,8,9],[5,8])])
def aJ.B12:List Nat:=[0,0,2,7,0,0,0,0,255,511,1023]
theorem aJ.tab12:dx .any (dX Tryd.f23 12)=aJ.T12:=by kernel_rfl
theorem aJ.bits12:cp aJ.T12.2 aJ.B12=true:=by kernel_rfl
theorem aJ.calls (k:Nat) (a0_0:Int) (a0_1:Bool) (A0_2:Option Addr) (c0_2:Nat) (l0_2:List Int) (a1:Int) (r1:List Int) (r2:Bool) (w:World) (hr0_2:Kd.C (Kd.int .i64) w A0_2 l0_2.length l0_2) (hc0_2:l0_2.length≤c0_2) (H:aJ.f k a0_0 a0_1 l0_2 a1=some (r1,r2)) :
  Calls Tryd.prog 23 #[.agg #[.int .i64 a0_0,.bool a0_1,.slice A0_2 l0_2.length c0_2],.int .i64 a1] w fun e w'=>∃ v0_:Value,e=.returned (.tuple #[v0_,.bool r2])∧Kd.R (Kd.int .i64) 3 w' w.heap.size (fun _=>True) v0_ r1∧Below w.heap.size w w':=by
 have hu26:=Tryd.underlying26;have hu61:=Tryd.underlying61;have HR0_2:=A0_ hr0_2;have HC0_2:=A0_ hc0_2;clear hr0_2 hc0_2;have HB:=A0_ (Below.refl w.heap.size w);unfold aJ.f at H;obtain ⟨t1,A2,H⟩:=o1_ H
 by_cases c1:t1=true
 case neg =>
  obtain rfl:=bf_.mpr c1;rw [if_neg ft_] at H;simp only [sj_,pj_] at H;obtain ⟨rfl,rfl⟩:=H;go_enter Tryd.func23,Tryd.ntmps23
  go_wp2_with (first|((with_reducible refine gd_ (N:=2) rfl ?_);refine bx_ 2 #[.int .i64 a0_0,.bool a0_1,.slice A0_2 l0_2.length c0_2] 26 ?_;intro gb1 hg w1 BK1 hb;have GW1:=ge_ hg am;have GE1:=GW1;replace HB:=hb_ hb am;clear hb hg;have hcz1:=z3_ BK1)|((with_reducible refine gc_ (f:=41) rfl ?_);refine gl_ 14 Tryd.func41 #[.agg #[.int .i64 a0_0,.bool a0_1,.slice A0_2 l0_2.length c0_2],.int .i64 a1] ?_;(with_reducible refine (bf.calls k a0_0 a0_1 _ _ l0_2 a1 false _ ?_ ?_ A2.out).mono ?_);exact bn;exact HC0_2.out;rintro e w2 ⟨rfl,hb⟩;refine ⟨_,rfl,?_⟩;replace BK1:=k1_ BK1 hb;replace HB:=hb_ hb ab;(try clear hb)))
  go_ret2
  exact ⟨_,bc,iu,ab⟩
 subst c1;rw [if_pos rfl] at H;obtain ⟨y1,hy1⟩:∃ y_:List Int,y_=(([]:List Int)):=⟨_,rfl⟩;replace H:((bd.f a0_0 a0_1 l0_2).bind fun bt1=>((a7.f k a0_0 a0_1 l0_2).bind fun t2=>(aJ.l0 k a1 y1 t2 bt1.1 bt1.2)))=some (r1,r2):=dp;have Ny1:=A0_ hy1;clear hy1;obtain ⟨⟨t3,t4⟩,A4,H⟩:=o1_ H;obtain ⟨t2,A6,H⟩:=o1_ H;have H':=A0_ H;clear H;go_enter Tryd.func23,Tryd.ntmps23
 go_wp2_with (first|((with_reducible refine gd_ (N:=2) rfl ?_);refine bx_ 2 #[.int .i64 a0_0,.bool a0_1,.slice A0_2 l0_2.length c0_2] 26 ?_;intro gb1 hg w1 BK1 hb;have GW1:=ge_ hg am;have GE1:=GW1;replace HB:=hb_ hb am;clear hb hg;have hcz1:=z3_ BK1)|((with_reducible refine gc_ (f:=41) rfl ?_);refine gl_ 14 Tryd.func41 #[.agg #[.int .i64 a0_0,.bool a0_1,.slice A0_2 l0_2.length c0_2],.int .i64 a1] ?_;(with_reducible refine (bf.calls k a0_0 a0_1 _ _ l0_2 a1 true _ ?_ ?_ A2.out).mono ?_);exact bn;exact HC0_2.out;rintro e w2 ⟨rfl,hb⟩;refine ⟨_,rfl,?_⟩;replace BK1:=k1_ BK1 hb;replace HB:=hb_ hb ab;(try clear hb))|((with_reducible refine gd_ (N:=16) rfl ?_);refine Kd.R_lit (Kd.int .i64) _ 3 ?hg (N:=16) ?hd (xs:=([]:List Int)) (inner:=[]) (ok:=fun _=>True) (okp:=fun _=>True) ?hr ?hp (fun _ hk=>hk) trivial (Below.refl _ _) (Nat.le_refl _) bx ?_;(case hd=>rfl);(case hg=>rfl);(case hr=>go_simp;first|done|rfl);(case hp=>exact (bu.none _ _));intro v1 w3 ho11 hb hg_ hnew_;clear hg_ hnew_;(first|rw [← Ny1.out] at ho11|(simp only [Int.reduceToNat] at ho11;rw [← Ny1.out] at ho11));have HO1:=A0_ (Kd.R_lower ho11 (bz_ ab));replace BK1:=k1_ BK1 hb;replace HB:=hb_ hb ab;clear hb ho11;have hcz2:=z3_ BK1)|((with_reducible refine gc_ (f:=42) rfl ?_);refine gl_ 18 Tryd.func42 #[.agg #[.int .i64 a0_0,.bool a0_1,.slice A0_2 l0_2.length c0_2]] ?_;(with_reducible refine (bd.calls a0_0 a0_1 _ _ l0_2 t3 t4 _ ?_ ?_ A4.out).mono ?_);exact bn;exact HC0_2.out;rintro e w4 ⟨rfl,hb⟩;refine ⟨_,rfl,?_⟩;replace HO1:=q1_ HO1 hb;replace BK1:=k1_ BK1 hb;replace HB:=hb_ hb ab;(try clear hb))|((with_reducible refine gd_ (N:=7) rfl ?_);refine bx_ 7 #[.int .i64 0,.bool false] 61 ?_;intro gb2 hg w5 BK2 hb;replace HO1:=q1_ HO1 hb;have GW2:=ge_ hg ab;have GE2:=GW2;replace HB:=hb_ hb ab;obtain ⟨NB1_2,NB2_1⟩:=nn_ hg BK1;replace BK1:=k1_ BK1 hb;clear hb hg;obtain ⟨hnb1,hnc1⟩:=n2_ NB2_1;have hcz3:=z2_ BK2;have hcz4:=z3_ BK1)|((with_reducible refine gc_ (f:=44) rfl ?_);refine gl_ 20 Tryd.func44 #[.agg #[.int .i64 a0_0,.bool a0_1,.slice A0_2 l0_2.length c0_2]] ?_;(with_reducible refine (a7.calls k a0_0 a0_1 _ _ l0_2 t2 _ ?_ ?_ A6.out).mono ?_);exact cb_ HR0_2.out aY;exact HC0_2.out;rintro e w6 ⟨rfl,hb⟩;refine ⟨_,rfl,?_⟩;replace HO1:=A0_ (Kd.R_below (by (with_reducible repeat (first|apply ra_|apply rn_|apply rd_));exact (Kd.R_mono (sp (Kd.R_types HO1.out BK2.out ao)) (fun _ h_=>h_.1))) hb);replace BK1:=k1_ BK1 hb;replace BK2:=k2_ (.cells #[.int .i64 t3,.bool t4] 61 (0,0)) BK2 hb;replace HB:=hb_ hb aY;(try clear hb)))
 go_loopg [6,8] k (fun kq v2 v3 w'=>∃ (x6_1:List Int) (x8_1:Int),v3=.int .u32 x8_1∧Aside0 (aJ.l0 kq a1 x6_1 x8_1 t3 t4=some (r1,r2))∧Aside0 (kq≤k)∧Aside0 (Kd.R (Kd.int .i64) 3 w' w.heap.size (fun _=>True) v2 x6_1)∧Aside0 (w'.heap[gb1]?=some (.cells #[.int .i64 a0_0,.bool a0_1,(.slice A0_2 l0_2.length c0_2)] 26 (0,0)))∧Aside0 (w'.heap[gb2]?=some (.cells #[.int .i64 t3,.bool t4] 61 (0,0)))∧Aside0 (Below w.heap.size w w'))
 case atStart=>exact ⟨(y1),(t2),aC,H',⟨Nat.le_refl _⟩,⟨bR⟩,⟨u1_ BK1⟩,⟨u1_ BK2⟩,⟨aY⟩⟩
 clear H'
 try clear c1
 (try clear hcz2);(try clear hcz3);(try clear hcz4);(try clear hcz1);(try clear hfz2);(try clear hfz3);(try clear hfz4);(try clear hfz1)
 obtain ⟨x6_1,x8_1,rfl,HA,HK1,HO_1,BK1,BK2,HB⟩:=hrel
 cases gk with|zero=>exact absurd HA.out (by simp [aJ.l0])|succ k1=>?_
 have H:=HA.out;clear HA;simp only [aJ.l0] at H;obtain ⟨t5,A8,H⟩:=o1_ H
 by_cases c2:(t5.length:Int)=0
 ·rw [if_pos c2] at H
  obtain ⟨c2b0,c2b1⟩:=et_ c2;clear c2;simp only [sj_,pj_] at H;obtain ⟨rfl,rfl⟩:=H;obtain ⟨hnb2,hnc2⟩:=n2_ NB2_1;have hcz5:=z2_ BK2
  go_wp2_with (first|((with_reducible refine gc_ (f:=54) rfl ?_);refine gl_ 24 Tryd.func54 #[.agg #[.int .i64 t3,.bool t4],.int .u32 x8_1,.int .i64 a1] ?_;(with_reducible refine (aG.calls k1 t3 t4 x8_1 a1 t5 _ A8.out).mono ?_);rintro e w7 ⟨v4,rfl,ho0,hb⟩;refine ⟨_,rfl,?_⟩;have HO2:=A0_ (Kd.R_lower (Kd.R_new' ho0 (Kd.R_lt aD)) (bz_ aY));replace HO_1:=A0_ (Kd.R_elder' aD (Kd.R_base ho0) hb);replace BK1:=k1_ BK1 hb;replace BK2:=k1_ BK2 hb;replace HB:=hb_ hb aY;(try clear hb ho0);obtain ⟨Ao1,co1,eo1⟩:=Kd.R_slice HO2.out;subst eo1))
  go_ret2
  exact ⟨_,bc,ln,aY⟩
 rw [if_neg c2] at H;obtain ⟨c2b0,c2b1⟩:=ef_ c2
 have c2b2:¬ (t5=[]):=fun h_=>c2 (by rw [h_];rfl)
 obtain ⟨c3,H⟩:=is_ H;have c3b0:decide (0<(t5.length:Int))=true:=dt_ c3;have c3b1:decide (0<t5.length)=true:=dt_ bL;clear c3;obtain ⟨t6,A10,H⟩:=o1_ H
 by_cases c4:(t6.length:Int) > 0
 case neg =>
  rw [if_neg c4] at H;have c4b0:decide (0<(t6.length:Int))=false:=decide_eq_false c4;have c4b1:decide (0<t6.length)=false:=decide_eq_false bL;clear c4;obtain ⟨c5,H⟩:=is_ H;have LMc1:=A0_ c5;clear c5;obtain ⟨y2,hy2⟩:∃ y_:List Int,y_=(x6_1++[rd t5 0]):=⟨_,rfl⟩;replace H:((a8.f k1 t3 t4 x8_1 a1 (rd t5 0)).bind fun t7=>(aJ.l0 k1 a1 y2 t7 t3 t4))=some (r1,r2):=dO;have Ny2:=A0_ hy2;clear hy2;obtain ⟨t7,A12,H⟩:=o1_ H;have H':=A0_ H;clear H;obtain ⟨hnb2,hnc2⟩:=n2_ NB2_1;have hcz5:=z2_ BK2
  try go_wp2_with (first|((with_reducible refine gc_ (f:=54) rfl ?_);refine gl_ 24 Tryd.func54 #[.agg #[.int .i64 t3,.bool t4],.int .u32 x8_1,.int .i64 a1] ?_;(with_reducible refine (aG.calls k1 t3 t4 x8_1 a1 t5 _ A8.out).mono ?_);rintro e w7 ⟨v4,rfl,ho0,hb⟩;refine ⟨_,rfl,?_⟩;have HO2:=A0_ (Kd.R_lower (Kd.R_new' ho0 (Kd.R_lt aD)) (bz_ aY));replace HO_1:=A0_ (Kd.R_elder' aD (Kd.R_base ho0) hb);replace BK1:=k1_ BK1 hb;replace BK2:=k1_ BK2 hb;replace HB:=hb_ hb aY;(try clear hb ho0);obtain ⟨Ao1,co1,eo1⟩:=Kd.R_slice HO2.out;subst eo1;have p1:0≤(0:Int):=bL;have q1:0<(t5.length:Int):=od_ aE;obtain ⟨ad1,e1,hx1_0⟩:=Kd.at_int (rr_ HO2.out).2.2 0 p1 q1;cases e1;have qi621:(0<t5.length)=True:=eq_true bL;(try rw [show ((0:Int)).toNat=0 from rfl] at hx1_0);(try rw [Addr.add_zero'] at hx1_0);replace p1:=eq_true p1;replace q1:=eq_true q1;have hcz6:=z2_ BK2)|((with_reducible refine gc_ (f:=50) rfl ?_);refine gl_ 35 Tryd.func50 #[.agg #[.int .i64 t3,.bool t4],.int .u32 x8_1,.int .i64 a1] ?_;(with_reducible refine (aq.calls k1 t3 t4 x8_1 a1 t6 _ A10.out).mono ?_);rintro e w8 ⟨v5,rfl,ho0,hb⟩;refine ⟨_,rfl,?_⟩;have HO3:=A0_ (Kd.R_lower (Kd.R_new' (Kd.R_new' ho0 (Kd.R_lt aD)) (Kd.R_lt cQ)) (bz_ aY));replace HO_1:=A0_ (Kd.R_elder' aD (Kd.R_base ho0) hb);replace HO2:=A0_ (Kd.R_elder' cQ (Kd.R_base ho0) hb);replace BK1:=k1_ BK1 hb;replace BK2:=k1_ BK2 hb;replace HB:=hb_ hb aY;(try clear hb ho0);obtain ⟨Ao2,co2,eo2⟩:=Kd.R_slice HO3.out;subst eo2))
  replace HO_1:=A0_ (rd_ HO_1.out);replace HO2:=A0_ (rd_ HO2.out);replace HO3:=A0_ (rd_ HO3.out);replace BK1:=A0_ (kd_ BK1.out);replace BK2:=A0_ (kd_ BK2.out);replace HB:=A0_ (bd_ HB.out)
  refine s2_ 11 [] BK2 aJ.tab12 aJ.bits12 (fun hHeld HT_ HW_=>?_)
  generalize w8.drew=w9 at HO_1 HO2 HO3 BK1 BK2 HB hHeld ⊢
  refine pu_ 0 42 ?_
  refine pu_ 1 43 ?_
  refine pu_ 5 47 ?_
  refine pu_ 6 48 ?_
  refine pu_ 7 49 ?_
  refine tk_ 4 46 hHeld ?_
  refine on_ 2 (some 44) (fun K hK=>?_)
  refine jj (w1:=?_) (v:=?_) (by rfl) rfl ?_ ?_
  rotate_left 2
  ·go_simp
   constructor
   ·rfl
   rfl
  refine hK.out _ _ ⟨(kc_ (ka_ BK2.out _) 0).trans rfl,(kc_ (ka_ BK2.out _) 1).trans rfl⟩ (fun hHeld=>?_)
  clear hK K
  refine nm_ 44 ?_
  refine on_ 3 (some 45) (fun K hK=>?_)
  refine Kd.R_append_step (Kd.int .i64) (w0:=w) w.heap.size (by rfl) (.tmp 42) (.tmp 44) 22 3 (.int .i64 0) 8 rfl Tryd.underlying22 cP rfl ao bL u6 x6_1 (rd t5 0) [.int .i64 (rd t5 0)] (fun k_=>no_ (.slice (some ad1) t5.length co1) k_∧no_ (.slice Ao2 t6.length co2) k_) (fun _=>False) rfl rfl ?aP (fun _ hk=>hk.elim) ?aF ?aO ?aB ?aS ?aL ?_
  (case aP=>exact rfl)
  (case aB=>exact aY)
  (case aF=>exact (fun k_ hk=>⟨Kd.fresh' (Kd.R_lt cQ) k_ hk,Kd.fresh' (Kd.R_lt d9) k_ hk⟩))
  (case aO=>exact qA)
  (case aS=>exact (bz_ aY))
  (case aL=>have:=LMc1.out;omega)
  intro v6 w10 ho hb hg hat;rw [← Ny2.out] at ho;have n0_:=A0_ (a6 (g:=gb1) (o:=.cells #[.int .i64 a0_0,.bool a0_1,.slice A0_2 l0_2.length c0_2] 26 (0,0)) (u1_ BK1) hg (Kd.R_ne HO_1.out BK1.out ao));have n1_:=A0_ (a6 (g:=gb2) (o:=.cells #[.int .i64 t3,.bool t4] 61 (0,0)) (u1_ BK2) hg (Kd.R_ne HO_1.out BK2.out ao));have n2_:=A0_ (Kd.R_after (ok:=(fun k_=>no_ (.slice Ao2 t6.length co2) k_)) qB hg hat);have n3_:=A0_ (Kd.R_after (ok:=(fun k_=>no_ (.slice (some ad1) t5.length co1) k_)) oS hg hat);have n4_:=A0_ (hb);have n5_:=A0_ (ho);clear BK1 BK2 HO2 HO3 HB HO_1;have BK1:=n0_;have BK2:=n1_;have HO2:=n2_;have HO3:=n3_;have HB:=n4_;have HO4:=n5_;clear n0_ n1_ n2_ n3_ n4_ n5_ ho hb hg hat
  refine hK.out _ _ (c2_ BK2) (fun hHeld=>?_)
  clear hK K
  refine nm_ 45 ?_
  refine on_ 8 (some 50) (fun K hK=>?_)
  refine gs_ Tryd.func55 #[.agg #[.int .i64 t3,.bool t4],.int .u32 x8_1,.int .i64 a1,.int .i64 (rd t5 0)] ?_
  with_reducible refine (a8.calls k1 t3 t4 x8_1 a1 (rd t5 0) t7 _ A12.out).mono ?_
  rintro e w11 ⟨rfl,hb⟩
  refine ⟨_,rfl,?_⟩
  replace HO2:=q1_ HO2 hb;replace HO3:=q1_ HO3 hb;replace HO4:=q1_ HO4 hb;replace BK1:=k1_ BK1 hb;replace BK2:=k1_ BK2 hb;replace HB:=hb_ hb aY
  (try clear hb)
  refine hK.out _ _ (c2_ BK2) (fun hHeld=>?_)
  clear hK K
  refine nm_ 50 ?_
  refine pu_ 9 6 ?_
  refine pu_ 10 8 ?_
  refine dn_ ?_
  try go_wp2
  go_roundg k1
  case measure=>have:=HK1.out;omega
  exact ⟨(y2),(t7),aC,H',⟨de⟩,⟨nE⟩,⟨u1_ BK1⟩,⟨u1_ BK2⟩,⟨aY⟩⟩
 rw [if_pos c4] at H;have c4b0:decide (0<(t6.length:Int))=true:=dt_ c4;have c4b1:decide (0<t6.length)=true:=dt_ bL;clear c4;obtain ⟨c5,H⟩:=is_ H;have c5b0:decide (0<(t6.length:Int))=true:=dt_ c5;have c5b1:decide (0<t6.length)=true:=dt_ bL;clear c5;obtain ⟨c6,H⟩:=is_ H;have LMc1:=A0_ c6;clear c6;obtain ⟨y2,hy2⟩:∃ y_:List Int,y_=(x6_1++[rd t6 0]):=⟨_,rfl⟩;replace H:((a8.f k1 t3 t4 x8_1 a1 (rd t6 0)).bind fun t7=>(aJ.l0 k1 a1 y2 t7 t3 t4))=some (r1,r2):=dO;have Ny2:=A0_ hy2;clear hy2;obtain ⟨t7,A1,H⟩:=o1_ H;have H':=A0_ H;clear H;obtain ⟨hnb2,hnc2⟩:=n2_ NB2_1;have hcz5:=z2_ BK2
 try go_wp2_with (first|((with_reducible refine gc_ (f:=54) rfl ?_);refine gl_ 24 Tryd.func54 #[.agg #[.int .i64 t3,.bool t4],.int .u32 x8_1,.int .i64 a1] ?_;(with_reducible refine (aG.calls k1 t3 t4 x8_1 a1 t5 _ A8.out).mono ?_);rintro e w7 ⟨v4,rfl,ho0,hb⟩;refine ⟨_,rfl,?_⟩;have HO2:=A0_ (Kd.R_lower (Kd.R_new' ho0 (Kd.R_lt aD)) (bz_ aY));replace HO_1:=A0_ (Kd.R_elder' aD (Kd.R_base ho0) hb);replace BK1:=k1_ BK1 hb;replace BK2:=k1_ BK2 hb;replace HB:=hb_ hb aY;(try clear hb ho0);obtain ⟨Ao1,co1,eo1⟩:=Kd.R_slice HO2.out;subst eo1;have p1:0≤(0:Int):=bL;have q1:0<(t5.length:Int):=od_ aE;obtain ⟨ad1,e1,hx1_0⟩:=Kd.at_int (rr_ HO2.out).2.2 0 p1 q1;cases e1;have qi621:(0<t5.length)=True:=eq_true bL;(try rw [show ((0:Int)).toNat=0 from rfl] at hx1_0);(try rw [Addr.add_zero'] at hx1_0);replace p1:=eq_true p1;replace q1:=eq_true q1;have hcz6:=z2_ BK2)|((with_reducible refine gc_ (f:=50) rfl ?_);refine gl_ 35 Tryd.func50 #[.agg #[.int .i64 t3,.bool t4],.int .u32 x8_1,.int .i64 a1] ?_;(with_reducible refine (aq.calls k1 t3 t4 x8_1 a1 t6 _ A10.out).mono ?_);rintro e w8 ⟨v5,rfl,ho0,hb⟩;refine ⟨_,rfl,?_⟩;have HO3:=A0_ (Kd.R_lower (Kd.R_new' (Kd.R_new' ho0 (Kd.R_lt aD)) (Kd.R_lt cQ)) (bz_ aY));replace HO_1:=A0_ (Kd.R_elder' aD (Kd.R_base ho0) hb);replace HO2:=A0_ (Kd.R_elder' cQ (Kd.R_base ho0) hb);replace BK1:=k1_ BK1 hb;replace BK2:=k1_ BK2 hb;replace HB:=hb_ hb aY;(try clear hb ho0);obtain ⟨Ao2,co2,eo2⟩:=Kd.R_slice HO3.out;subst eo2;have p2:0≤(0:Int):=bL;have q2:0<(t6.length:Int):=od_ aE;obtain ⟨ad2,e2,hx2_0⟩:=Kd.at_int (rr_ HO3.out).2.2 0 p2 q2;cases e2;have qi625:(0<t6.length)=True:=eq_true bL;(try rw [show ((0:Int)).toNat=0 from rfl] at hx2_0);(try rw [Addr.add_zero'] at hx2_0);replace p2:=eq_true p2;replace q2:=eq_true q2))
 replace HO_1:=A0_ (rd_ HO_1.out);replace HO2:=A0_ (rd_ HO2.out);replace HO3:=A0_ (rd_ HO3.out);replace BK1:=A0_ (kd_ BK1.out);replace BK2:=A0_ (kd_ BK2.out);replace HB:=A0_ (bd_ HB.out)
 refine s2_ 11 [] BK2 aJ.tab12 aJ.bits12 (fun hHeld HT_ HW_=>?_)
 generalize w8.drew=w9 at HO_1 HO2 HO3 BK1 BK2 HB hHeld ⊢
 refine pu_ 0 42 ?_
 refine pu_ 1 43 ?_
 refine pu_ 5 47 ?_
 refine pu_ 6 48 ?_
 refine pu_ 7 49 ?_
 refine tk_ 4 46 hHeld ?_
 refine on_ 2 (some 44) (fun K hK=>?_)
 refine jj (w1:=?_) (v:=?_) (by rfl) rfl ?_ ?_
 rotate_left 2
 ·go_simp
  constructor
  ·rfl
  rfl
 refine hK.out _ _ ⟨(kc_ (ka_ BK2.out _) 0).trans rfl,(kc_ (ka_ BK2.out _) 1).trans rfl⟩ (fun hHeld=>?_)
 clear hK K
 refine nm_ 44 ?_
 refine on_ 3 (some 45) (fun K hK=>?_)
 refine Kd.R_append_step (Kd.int .i64) (w0:=w) w.heap.size (by rfl) (.tmp 42) (.tmp 44) 22 3 (.int .i64 0) 8 rfl Tryd.underlying22 cP rfl ao bL u6 x6_1 (rd t6 0) [.int .i64 (rd t6 0)] (fun k_=>no_ (.slice (some ad1) t5.length co1) k_∧no_ (.slice (some ad2) t6.length co2) k_) (fun _=>False) rfl rfl ?aP (fun _ hk=>hk.elim) ?aF ?aO ?aB ?aS ?aL ?_
 (case aP=>exact rfl)
 (case aB=>exact aY)
 (case aF=>exact (fun k_ hk=>⟨Kd.fresh' (Kd.R_lt cQ) k_ hk,Kd.fresh' (Kd.R_lt d9) k_ hk⟩))
 (case aO=>exact qA)
 (case aS=>exact (bz_ aY))
 (case aL=>have:=LMc1.out;omega)
 intro v6 w10 ho hb hg hat;rw [← Ny2.out] at ho;have n0_:=A0_ (a6 (g:=gb1) (o:=.cells #[.int .i64 a0_0,.bool a0_1,.slice A0_2 l0_2.length c0_2] 26 (0,0)) (u1_ BK1) hg (Kd.R_ne HO_1.out BK1.out ao));have n1_:=A0_ (a6 (g:=gb2) (o:=.cells #[.int .i64 t3,.bool t4] 61 (0,0)) (u1_ BK2) hg (Kd.R_ne HO_1.out BK2.out ao));have n2_:=A0_ (Kd.R_after (ok:=(fun k_=>no_ (.slice (some ad2) t6.length co2) k_)) qB hg hat);have n3_:=A0_ (Kd.R_after (ok:=(fun k_=>no_ (.slice (some ad1) t5.length co1) k_)) oS hg hat);have n4_:=A0_ (hb);have n5_:=A0_ (ho);clear BK1 BK2 HO2 HO3 HB HO_1;have BK1:=n0_;have BK2:=n1_;have HO2:=n2_;have HO3:=n3_;have HB:=n4_;have HO4:=n5_;clear n0_ n1_ n2_ n3_ n4_ n5_ ho hb hg hat
 refine hK.out _ _ (c2_ BK2) (fun hHeld=>?_)
 clear hK K
 refine nm_ 45 ?_
 refine on_ 8 (some 50) (fun K hK=>?_)
 refine gs_ Tryd.func55 #[.agg #[.int .i64 t3,.bool t4],.int .u32 x8_1,.int .i64 a1,.int .i64 (rd t6 0)] ?_
 with_reducible refine (a8.calls k1 t3 t4 x8_1 a1 (rd t6 0) t7 _ A1.out).mono ?_
 rintro e w11 ⟨rfl,hb⟩
 refine ⟨_,rfl,?_⟩
 replace HO2:=q1_ HO2 hb;replace HO3:=q1_ HO3 hb;replace HO4:=q1_ HO4 hb;replace BK1:=k1_ BK1 hb;replace BK2:=k1_ BK2 hb;replace HB:=hb_ hb aY
 (try clear hb)
 refine hK.out _ _ (c2_ BK2) (fun hHeld=>?_)
 clear hK K
 refine nm_ 50 ?_
 refine pu_ 9 6 ?_
 refine pu_ 10 8 ?_
 refine dn_ ?_
 try go_wp2
 go_roundg k1
 case measure=>have:=HK1.out;omega
 exact ⟨(y2),(t7),aC,H',⟨de⟩,⟨nE⟩,⟨u1_ BK1⟩,⟨u1_ BK2⟩,⟨aY⟩⟩

mutual
def aH.j0:Nat→Int→List Int→Bool→Int→Bool→List Int→Option (List Int × Bool)
 | 0,_,_,_,_,_,_=>none
 | k+1,x1,x6,x19,xa,xb,xc=>if x19=true then (some (x6,false)) else (aH.l0 k x1 x6 xa xb xc)
def aH.l0:Nat→Int→List Int→Int→Bool→List Int→Option (List Int × Bool)
 | 0,_,_,_,_,_=>none
 | k+1,x1,x6,xa,xb,xc=>(aA.f k xa xb xc x1).bind fun t641=>(if (t641.length:Int)=0 then (some (x6,true)) else (if 0<(t641.length:Int) then ((aW.f k xa xb xc x1).bind fun t645=>(if (t645.length:Int) > 0 then (if 0<(t645.length:Int) then (if x6.length<17592186044416 then ((bw.f k xa xb xc x1 (rd t645 0)).bind fun bt652=>(aH.l0 k x1 (x6++[rd t645 0]) bt652.1 bt652.2.1 bt652.2.2)) else (none)) else (none)) else (if x6.length<17592186044416 then ((bw.f k xa xb xc x1 (rd t641 0)).bind fun bt660=>(aH.l0 k x1 (x6++[rd t641 0]) bt660.1 bt660.2.1 bt660.2.2)) else (none)))) else (none)))
end
def aH.f (k:Nat) (a0_0:Int) (a0_1:Bool) (l0_2:List Int) (a1:Int):Option (List Int × Bool):=(some (([]:List Int):List Int)).bind fun y635=>((aI.f k a0_0 a0_1 l0_2).bind fun t638=>(if t638=true then ((bG.f a1).bind fun t639=>(aH.j0 k a1 y635 (!t639) a0_0 a0_1 l0_2)) else (aH.j0 k a1 y635 true a0_0 a0_1 l0_2)))
theorem aH.mono_l:∀ k,(∀ y0 y1 y2 y3 y4 y5,LeO (aH.j0 k y0 y1 y2 y3 y4 y5) (aH.j0 (k+1) y0 y1 y2 y3 y4 y5))∧(∀ y0 y1 y2 y3 y4,LeO (aH.l0 k y0 y1 y2 y3 y4) (aH.l0 (k+1) y0 y1 y2 y3 y4))
 | 0=>⟨fun _ _ _ _ _ _ r h=>by simp [aH.j0] at h,fun _ _ _ _ _ r h=>by simp [aH.l0] at h⟩
 | k+1=>by
  obtain ⟨ih0,ih1⟩:=aH.mono_l k
  refine ⟨?_,?_⟩
  ·intro y0 y1 y2 y3 y4 y5
   unfold aH.j0
   repeat' with_reducible first|exact ih0 ..|exact ih1 ..|exact bw.mono ..|exact aA.mono ..|exact aW.mono ..|exact aI.mono ..|exact LeO.refl ..|exact LeO.none ..|refine LeO.ite ?_ ?_|refine LeO.bind ?_ (fun _=>?_)
  ·intro y0 y1 y2 y3 y4
   unfold aH.l0
   repeat' with_reducible first|exact ih0 ..|exact ih1 ..|exact bw.mono ..|exact aA.mono ..|exact aW.mono ..|exact aI.mono ..|exact LeO.refl ..|exact LeO.none ..|refine LeO.ite ?_ ?_|refine LeO.bind ?_ (fun _=>?_)
theorem aH.mono:∀ a0 a1 a2 a3 k,LeO (aH.f k a0 a1 a2 a3) (aH.f (k+1) a0 a1 a2 a3):=by
 intro a0 a1 a2 a3 k;obtain ⟨ih0,ih1⟩:=aH.mono_l k;unfold aH.f
 repeat' with_reducible first|exact ih0 ..|exact ih1 ..|exact bw.mono ..|exact aA.mono ..|exact aW.mono ..|exact aI.mono ..|exact LeO.refl ..|exact LeO.none ..|refine LeO.ite ?_ ?_|refine LeO.bind ?_ (fun _=>?_)
theorem aH.calls (k:Nat) (a0_0:Int) (a0_1:Bool) (P0_2_:Nat→Prop) (A0_2:Option Addr) (c0_2:Nat) (l0_2:List Int) (a1:Int) (r1:List Int) (r2:Bool) (w:World) (hs0_2:Kd.V (Kd.int .i64) 3 w w.heap.size (fun k_=>P0_2_ k_) (.slice A0_2 l0_2.length c0_2) l0_2) (H:aH.f k a0_0 a0_1 l0_2 a1=some (r1,r2)) :
  Calls Tryd.prog 24 #[.agg #[.int .i64 a0_0,.bool a0_1,.slice A0_2 l0_2.length c0_2],.int .i64 a1] w fun e w'=>∃ v0_:Value,e=.returned (.tuple #[v0_,.bool r2])∧Kd.R (Kd.int .i64) 3 w' w.heap.size (fun k_=>(w.heap.size≤k_)) v0_ r1∧Below w.heap.size w w':=by
 have hu26:=Tryd.underlying26;have HO1_2:=A0_ (show Kd.V (Kd.int .i64) 3 w w.heap.size (fun k_=>(P0_2_ k_ ∨ w.heap.size≤k_)) (.slice A0_2 l0_2.length c0_2) l0_2 from Kd.V_mono hs0_2 (fun k_ hk=>.inl hk));have HB:=A0_ (Below.refl w.heap.size w);unfold aH.f at H;obtain ⟨y1,hy1⟩:∃ y_:List Int,y_=(([]:List Int)):=⟨_,rfl⟩;replace H:((aI.f k a0_0 a0_1 l0_2).bind fun t1=>(if t1=true then ((bG.f a1).bind fun t2=>(aH.j0 k a1 y1 (!t2) a0_0 a0_1 l0_2)) else (aH.j0 k a1 y1 true a0_0 a0_1 l0_2)))=some (r1,r2):=dp;have Ny1:=A0_ hy1;clear hy1;have HC3:=A0_ H;clear H;go_enter Tryd.func24,Tryd.ntmps24
 go_upto_region 2 with (first|((with_reducible refine gd_ (N:=2) rfl ?_);refine bx_ 2 #[.int .i64 a0_0,.bool a0_1,.slice A0_2 l0_2.length c0_2] 26 ?_;intro gb1 hg w1 BK1 hb;replace HO1_2:=A0_ (Kd.V_below (Kd.V_elderB nF gb1 (Nat.le_of_eq hg.symm)) hb);have GW1:=ge_ hg am;have GE1:=GW1;replace HB:=hb_ hb am;clear hb hg)|((with_reducible refine gd_ (N:=11) rfl ?_);refine Kd.R_lit (Kd.int .i64) _ 3 ?hg (N:=11) ?hd (xs:=([]:List Int)) (inner:=[]) (ok:=fun _=>True) (okp:=fun _=>True) ?hr ?hp (fun _ hk=>hk) trivial (Below.refl _ _) (Nat.le_refl _) bx ?_;(case hd=>rfl);(case hg=>rfl);(case hr=>go_simp;first|done|rfl);(case hp=>exact (bu.none _ _));intro v1 w2 ho6 hb hg_ hnew_;clear hg_ hnew_;(first|rw [← Ny1.out] at ho6|(simp only [Int.reduceToNat] at ho6;rw [← Ny1.out] at ho6));replace HO1_2:=A0_ (Kd.V_elder' nF (Kd.R_base ho6) hb);have HO2:=A0_ (Kd.R_lower (Kd.R_newM (M:=fun k_=>(w.heap.size≤k_)) ho6 (bz_ ab) (fun k_ h_=>h_)) (bz_ ab));replace BK1:=k1_ BK1 hb;replace HB:=hb_ hb ab;clear hb ho6))
 (try simp only [Act.put,sa_,sz_,ss_])
 go_cut [19] (fun v2 wc=>∃ (kq:Nat) (x19_2:Bool),v2=.bool x19_2∧Aside0 (aH.j0 kq a1 y1 x19_2 a0_0 a0_1 l0_2=some (r1,r2))∧Aside0 (kq≤k)∧Aside0 (Kd.R (Kd.int .i64) 3 wc w.heap.size (fun k_=>(w.heap.size≤k_)) v1 y1)∧Aside0 (Kd.V (Kd.int .i64) 3 wc w.heap.size (fun k_=>(P0_2_ k_ ∨ w.heap.size≤k_)∧no_ v1 k_∧k_≠gb1) (.slice A0_2 l0_2.length c0_2) l0_2)∧Aside0 (wc.heap[gb1]?=some (.cells #[.int .i64 a0_0,.bool a0_1,(.slice A0_2 l0_2.length c0_2)] 26 (0,0)))∧Aside0 (Below w.heap.size w wc))
 case first =>
  have H:=HC3.out;clear HC3;obtain ⟨t1,A2,H⟩:=o1_ H
  by_cases c1:t1=true
  case neg =>
   obtain rfl:=bf_.mpr c1;rw [if_neg ft_] at H;have H':=A0_ H;clear H;have hcz1:=z3_ BK1
   go_wp2_with (first|((with_reducible refine gc_ (f:=35) rfl ?_);refine gl_ 13 Tryd.func35 #[.agg #[.int .i64 a0_0,.bool a0_1,.slice A0_2 l0_2.length c0_2]] ?_;(with_reducible refine (aI.calls k a0_0 a0_1 _ _ l0_2 false _ ?_ ?_ A2.out).mono ?_);exact qC;exact (Kd.V_reads' HO1_2.out).2.1;rintro e w3 ⟨rfl,hb⟩;refine ⟨_,rfl,?_⟩;replace HO1_2:=A0_ (Kd.V_below nF hb);replace HO2:=q1_ HO2 hb;replace BK1:=k1_ BK1 hb;replace HB:=hb_ hb ab;(try clear hb)))
   go_meet
   exact ⟨_,(true),aC,H',⟨eH⟩,⟨by (with_reducible repeat (first|apply ra_|apply rn_|apply rd_));exact Kd.R_mono HO2.out (fun _ hk=>hk.1)⟩,⟨qD⟩,⟨u1_ BK1⟩,⟨ab⟩⟩
  subst c1;rw [if_pos rfl] at H;obtain ⟨t2,A4,H⟩:=o1_ H;have H':=A0_ H;clear H;have hcz1:=z3_ BK1
  go_wp2_with (first|((with_reducible refine gc_ (f:=35) rfl ?_);refine gl_ 13 Tryd.func35 #[.agg #[.int .i64 a0_0,.bool a0_1,.slice A0_2 l0_2.length c0_2]] ?_;(with_reducible refine (aI.calls k a0_0 a0_1 _ _ l0_2 true _ ?_ ?_ A2.out).mono ?_);exact qC;exact (Kd.V_reads' HO1_2.out).2.1;rintro e w3 ⟨rfl,hb⟩;refine ⟨_,rfl,?_⟩;replace HO1_2:=A0_ (Kd.V_below nF hb);replace HO2:=q1_ HO2 hb;replace BK1:=k1_ BK1 hb;replace HB:=hb_ hb ab;(try clear hb))|(go_at_call 36;(with_reducible refine (bG.calls a1 t2 _ A4.out).mono ?_);rintro e w' ⟨rfl,⟨nd,rfl⟩⟩))
  go_meet
  exact ⟨_,(!t2),aC,H',⟨eH⟩,⟨by (with_reducible repeat (first|apply ra_|apply rn_|apply rd_));exact Kd.R_mono HO2.out (fun _ hk=>hk.1)⟩,⟨qD⟩,⟨u1_ BK1⟩,⟨ab⟩⟩
 clear HC3;obtain ⟨kq,x19_2,rfl,HA,HJ1,HO_1,HO_2,BK1,HB⟩:=hcut
 cases kq with|zero=>exact absurd HA.out (by simp [aH.j0])|succ kj1=>?_
 have H:=HA.out;clear HA;simp only [aH.j0] at H
 by_cases c1:x19_2=true
 ·subst c1
  rw [if_pos rfl] at H;simp only [sj_,pj_] at H;obtain ⟨rfl,rfl⟩:=H
  go_wp2
  go_ret2
  exact ⟨_,bc,aD,ab⟩
 obtain rfl:=bf_.mpr c1;rw [if_neg ft_] at H;have H':=A0_ H;clear H;have hcz1:=z3_ BK1
 go_wp2_with (first|((with_reducible refine gd_ (N:=7) rfl ?_);refine bx_ 7 #[.int .i64 0,.bool false,.slice none 0 0] 26 ?_;intro gb2 hg w3 BK2 hb;replace HO_1:=q1_ HO_1 hb;replace HO_2:=A0_ (Kd.V_below (Kd.V_elderB jC gb2 (Nat.le_of_eq hg.symm)) hb);have GW2:=ge_ hg ab;have GE2:=GW2;replace HB:=hb_ hb ab;obtain ⟨NB1_2,NB2_1⟩:=nn_ hg BK1;replace BK1:=k1_ BK1 hb;clear hb hg;obtain ⟨hnb1,hnc1⟩:=n2_ NB2_1;have hcz2:=z3_ BK2))
 go_loopg [6] kj1 (fun kq v3 w'=>∃ (x6_2:List Int) (xa:Int) (xb:Bool) (xc:List Int) (ud:Value),Aside0 (aH.l0 kq a1 x6_2 xa xb xc=some (r1,r2))∧Aside0 (kq≤kj1)∧Aside0 (Kd.R (Kd.int .i64) 3 w' w.heap.size (fun k_=>(w.heap.size≤k_)) v3 x6_2)∧Aside0 (Kd.V (Kd.int .i64) 3 w' w.heap.size (fun k_=>(P0_2_ k_ ∨ w.heap.size≤k_)∧no_ v3 k_∧k_≠gb1∧k_≠gb2) (.slice A0_2 l0_2.length c0_2) l0_2)∧Aside0 (Kd.V (Kd.int .i64) 3 w' w.heap.size (fun k_=>(P0_2_ k_ ∨ w.heap.size≤k_)∧no_ v3 k_∧k_≠gb1∧k_≠gb2) ud xc)∧Aside0 (w'.heap[gb1]?=some (.cells #[.int .i64 a0_0,.bool a0_1,(.slice A0_2 l0_2.length c0_2)] 26 (0,0)))∧Aside0 (w'.heap[gb2]?=some (.cells #[.int .i64 xa,.bool xb,ud] 26 (0,0)))∧Aside0 (Below w.heap.size w w'))
 case atStart=>exact ⟨(y1),(a0_0),(a0_1),(l0_2),(.slice A0_2 l0_2.length c0_2),H',⟨Nat.le_refl _⟩,⟨by (with_reducible repeat (first|apply ra_|apply rn_|apply rd_));exact Kd.R_mono (cf (Kd.R_types HO_1.out BK2.out ao)) (fun _ hk=>hk.1)⟩,⟨qE⟩,⟨qE⟩,⟨u1_ BK1⟩,⟨u1_ BK2⟩,⟨aY⟩⟩
 clear H'
 try clear c1
 (try clear hcz1);(try clear hcz2);(try clear hfz1);(try clear hfz2)
 obtain ⟨x6_2,xa,xb,xc,ud,HA,HK1,HO_1,HO_2,HO_3,BK1,BK2,HB⟩:=hrel
 cases gk with|zero=>exact absurd HA.out (by simp [aH.l0])|succ k2=>?_
 have H:=HA.out;clear HA;simp only [aH.l0] at H;obtain ⟨t3,A2,H⟩:=o1_ H
 by_cases c2:(t3.length:Int)=0
 ·rw [if_pos c2] at H
  obtain ⟨c2b0,c2b1⟩:=et_ c2;clear c2;simp only [sj_,pj_] at H;obtain ⟨rfl,rfl⟩:=H;obtain ⟨hnb2,hnc2⟩:=n2_ NB2_1;have hcz3:=z3_ BK2;obtain ⟨Ao1,co1,eo1⟩:=Kd.V_slice HO_3.out;subst eo1
  go_wp2_with (first|((with_reducible refine gc_ (f:=38) rfl ?_);refine gl_ 24 Tryd.func38 #[.agg #[.int .i64 xa,.bool xb,.slice Ao1 xc.length co1],.int .i64 a1] ?_;(with_reducible refine (aA.calls k2 xa xb _ _ xc a1 t3 _ ?_ ?_ A2.out).mono ?_);exact kf;exact (Kd.V_reads' HO_3.out).2.1;rintro e w4 ⟨v4,rfl,ho0,hb⟩;refine ⟨_,rfl,?_⟩;replace HO_2:=A0_ (Kd.V_elder' jC (Kd.R_base ho0) hb);replace HO_3:=A0_ (Kd.V_elder' kg (Kd.R_base ho0) hb);have HO3:=A0_ (Kd.R_lower (Kd.R_new' (Kd.R_newM (M:=fun k_=>(w.heap.size≤k_)) ho0 (bz_ aY) (fun k_ h_=>h_)) (Kd.R_lt aD)) (bz_ aY));replace HO_1:=A0_ (Kd.R_elder' aD (Kd.R_base ho0) hb);replace BK1:=k1_ BK1 hb;replace BK2:=k1_ BK2 hb;replace HB:=hb_ hb aY;(try clear hb ho0);obtain ⟨Ao2,co2,eo2⟩:=Kd.R_slice HO3.out;subst eo2))
  go_ret2
  exact ⟨_,bc,oQ,aY⟩
 rw [if_neg c2] at H;obtain ⟨c2b0,c2b1⟩:=ef_ c2
 have c2b2:¬ (t3=[]):=fun h_=>c2 (by rw [h_];rfl)
 obtain ⟨c3,H⟩:=is_ H;have c3b0:decide (0<(t3.length:Int))=true:=dt_ c3;have c3b1:decide (0<t3.length)=true:=dt_ bL;clear c3;obtain ⟨t4,A4,H⟩:=o1_ H
 by_cases c4:(t4.length:Int) > 0
 case neg =>
  rw [if_neg c4] at H;have c4b0:decide (0<(t4.length:Int))=false:=decide_eq_false c4;have c4b1:decide (0<t4.length)=false:=decide_eq_false bL;clear c4;obtain ⟨c5,H⟩:=is_ H;have LMc1:=A0_ c5;clear c5;obtain ⟨y2,hy2⟩:∃ y_:List Int,y_=(x6_2++[rd t3 0]):=⟨_,rfl⟩;replace H:((bw.f k2 xa xb xc a1 (rd t3 0)).bind fun bt1=>(aH.l0 k2 a1 y2 bt1.1 bt1.2.1 bt1.2.2))=some (r1,r2):=dO;have Ny2:=A0_ hy2;clear hy2;obtain ⟨⟨t5,t6,t7⟩,A6,H⟩:=o1_ H;have H':=A0_ H;clear H;obtain ⟨hnb2,hnc2⟩:=n2_ NB2_1;have hcz3:=z3_ BK2;obtain ⟨Ao1,co1,eo1⟩:=Kd.V_slice HO_3.out;subst eo1
  go_wp2_with (first|((with_reducible refine gc_ (f:=38) rfl ?_);refine gl_ 24 Tryd.func38 #[.agg #[.int .i64 xa,.bool xb,.slice Ao1 xc.length co1],.int .i64 a1] ?_;(with_reducible refine (aA.calls k2 xa xb _ _ xc a1 t3 _ ?_ ?_ A2.out).mono ?_);exact kf;exact (Kd.V_reads' HO_3.out).2.1;rintro e w4 ⟨v4,rfl,ho0,hb⟩;refine ⟨_,rfl,?_⟩;replace HO_2:=A0_ (Kd.V_elder' jC (Kd.R_base ho0) hb);replace HO_3:=A0_ (Kd.V_elder' kg (Kd.R_base ho0) hb);have HO3:=A0_ (Kd.R_lower (Kd.R_new' (Kd.R_newM (M:=fun k_=>(w.heap.size≤k_)) ho0 (bz_ aY) (fun k_ h_=>h_)) (Kd.R_lt aD)) (bz_ aY));replace HO_1:=A0_ (Kd.R_elder' aD (Kd.R_base ho0) hb);replace BK1:=k1_ BK1 hb;replace BK2:=k1_ BK2 hb;replace HB:=hb_ hb aY;(try clear hb ho0);obtain ⟨Ao2,co2,eo2⟩:=Kd.R_slice HO3.out;subst eo2;have p1:0≤(0:Int):=bL;have q1:0<(t3.length:Int):=od_ aE;obtain ⟨ad1,e1,hx1_0⟩:=Kd.at_int (rr_ HO3.out).2.2 0 p1 q1;cases e1;have qi644:(0<t3.length)=True:=eq_true bL;(try rw [show ((0:Int)).toNat=0 from rfl] at hx1_0);(try rw [Addr.add_zero'] at hx1_0);replace p1:=eq_true p1;replace q1:=eq_true q1;have hcz4:=z3_ BK2)|((with_reducible refine gc_ (f:=51) rfl ?_);refine gl_ 34 Tryd.func51 #[.agg #[.int .i64 xa,.bool xb,.slice Ao1 xc.length co1],.int .i64 a1] ?_;(with_reducible refine (aW.calls k2 xa xb _ _ xc a1 t4 _ ?_ ?_ A4.out).mono ?_);exact kf;exact (Kd.V_reads' HO_3.out).2.1;rintro e w5 ⟨v5,rfl,ho0,hb⟩;refine ⟨_,rfl,?_⟩;replace HO_2:=A0_ (Kd.V_elder' jC (Kd.R_base ho0) hb);replace HO_3:=A0_ (Kd.V_elder' kg (Kd.R_base ho0) hb);have HO4:=A0_ (Kd.R_lower (Kd.R_new' (Kd.R_new' (Kd.R_newM (M:=fun k_=>(w.heap.size≤k_)) ho0 (bz_ aY) (fun k_ h_=>h_)) (Kd.R_lt aD)) (Kd.R_lt d9)) (bz_ aY));replace HO_1:=A0_ (Kd.R_elder' aD (Kd.R_base ho0) hb);replace HO3:=A0_ (Kd.R_elder' d9 (Kd.R_base ho0) hb);replace BK1:=k1_ BK1 hb;replace BK2:=k1_ BK2 hb;replace HB:=hb_ hb aY;(try clear hb ho0);obtain ⟨Ao3,co3,eo3⟩:=Kd.R_slice HO4.out;subst eo3)|((with_reducible refine bO (b:=.append) (xs:=#[.tmp 41,.tmp 43]) rfl ?_);at_builtin;refine Kd.R_append (Kd.int .i64) (w0:=w) w.heap.size rfl (.tmp 41) (.tmp 43) 22 3 (.int .i64 0) 8 rfl Tryd.underlying22 cP rfl ao bL u6 x6_2 (rd t3 0) [.int .i64 (rd t3 0)] (fun k_=>(w.heap.size≤k_)∧no_ (.slice (some ad1) t3.length co2) k_∧no_ (.slice Ao3 t4.length co3) k_) (fun _=>False) rfl rfl ?aP (fun _ hk=>hk.elim) ?aF ?aO ?aB ?aS ?aL ?_;(case aP=>exact rfl);(case aB=>exact aY);(case aF=>exact (fun k_ hk=>⟨(Nat.le_trans (bz_ aY) hk),Kd.fresh' (Kd.R_lt d9) k_ hk,Kd.fresh' (Kd.R_lt iY) k_ hk⟩));(case aO=>exact qF);(case aS=>exact (bz_ aY));(case aL=>have:=LMc1.out;omega);intro v6 w6 ho hb hg hat;rw [← Ny2.out] at ho;have n0_:=A0_ (Kd.V_afterv (ok:=(fun k_=>(P0_2_ k_ ∨ w.heap.size≤k_)∧no_ (.slice (some ad1) t3.length co2) k_∧no_ (.slice Ao3 t4.length co3) k_∧k_≠gb1∧k_≠gb2)) qG hg hat);have n1_:=A0_ (Kd.V_afterv (ok:=(fun k_=>(P0_2_ k_ ∨ w.heap.size≤k_)∧no_ (.slice (some ad1) t3.length co2) k_∧no_ (.slice Ao3 t4.length co3) k_∧k_≠gb1∧k_≠gb2)) qH hg hat);have n2_:=A0_ (a6 (g:=gb1) (o:=.cells #[.int .i64 a0_0,.bool a0_1,.slice A0_2 l0_2.length c0_2] 26 (0,0)) (u1_ BK1) hg (Kd.R_ne HO_1.out BK1.out ao));have n3_:=A0_ (a6 (g:=gb2) (o:=.cells #[.int .i64 xa,.bool xb,.slice Ao1 xc.length co1] 26 (0,0)) (u1_ BK2) hg (Kd.R_ne HO_1.out BK2.out ao));have n4_:=A0_ (Kd.R_after (ok:=(fun k_=>(w.heap.size≤k_)∧no_ (.slice Ao3 t4.length co3) k_)) qI hg hat);have n5_:=A0_ (Kd.R_after (ok:=(fun k_=>(w.heap.size≤k_)∧no_ (.slice (some ad1) t3.length co2) k_)) qJ hg hat);have n6_:=A0_ (hb);have n7_:=A0_ (ho);clear HO_2 HO_3 BK1 BK2 HO3 HO4 HB HO_1;have HO_2:=n0_;have HO_3:=n1_;have BK1:=n2_;have BK2:=n3_;have HO3:=n4_;have HO4:=n5_;have HB:=n6_;have HO5:=n7_;clear n0_ n1_ n2_ n3_ n4_ n5_ n6_ n7_ ho hb hg hat;have hcz5:=z3_ BK2)|((with_reducible refine gc_ (f:=39) rfl ?_);refine gl_ 48 Tryd.func39 #[.agg #[.int .i64 xa,.bool xb,.slice Ao1 xc.length co1],.int .i64 a1,.int .i64 (rd t3 0)] ?_;(with_reducible refine (bw.calls k2 xa xb _ _ xc a1 (rd t3 0) t5 t6 t7 _ ?_ ?_ A6.out).mono ?_);exact kf;exact (Kd.V_reads' HO_3.out).2.1;rintro e w7 ⟨v7,rfl,ho0,hb⟩;refine ⟨_,rfl,?_⟩;replace HO_2:=A0_ (Kd.V_elder' jC (Kd.R_base ho0) hb);replace HO_3:=A0_ (Kd.V_elder' kg (Kd.R_base ho0) hb);have HO6:=A0_ (Kd.R_lower (Kd.R_new' (Kd.R_new' (Kd.R_new' (Kd.R_newM (M:=fun k_=>(w.heap.size≤k_)) ho0 (bz_ aY) (fun k_ h_=>h_)) (Kd.R_lt d9)) (Kd.R_lt iY)) (Kd.R_lt nG)) (bz_ aY));replace HO3:=A0_ (Kd.R_elder' d9 (Kd.R_base ho0) hb);replace HO4:=A0_ (Kd.R_elder' iY (Kd.R_base ho0) hb);replace HO5:=A0_ (Kd.R_elder' nG (Kd.R_base ho0) hb);replace BK1:=k1_ BK1 hb;replace BK2:=k1_ BK2 hb;replace HB:=hb_ hb aY;(try clear hb ho0);have hcz6:=z3_ BK2;obtain ⟨Ao4,co4,eo4⟩:=Kd.R_slice HO6.out;subst eo4))
  go_roundg k2
  case measure=>have:=HJ1.out;have:=HK1.out;omega
  exact ⟨(y2),(t5),(t6),(t7),(.slice Ao4 t7.length co4),H',⟨by have:=HJ1.out;have:=HK1.out;omega⟩,⟨qK⟩,⟨qL⟩,⟨Kd.V_mono (Kd.R_V qM) (fun k_ hk=>by exact ⟨(.inr (hk.1.1.1.1.1.1.1)),⟨hk.1.1.1.2,⟨hk.1.1.2,hk.1.2⟩⟩⟩)⟩,⟨u1_ BK1⟩,⟨u1_ BK2⟩,⟨aY⟩⟩
 rw [if_pos c4] at H;have c4b0:decide (0<(t4.length:Int))=true:=dt_ c4;have c4b1:decide (0<t4.length)=true:=dt_ bL;clear c4;obtain ⟨c5,H⟩:=is_ H;have c5b0:decide (0<(t4.length:Int))=true:=dt_ c5;have c5b1:decide (0<t4.length)=true:=dt_ bL;clear c5;obtain ⟨c6,H⟩:=is_ H;have LMc1:=A0_ c6;clear c6;obtain ⟨y2,hy2⟩:∃ y_:List Int,y_=(x6_2++[rd t4 0]):=⟨_,rfl⟩;replace H:((bw.f k2 xa xb xc a1 (rd t4 0)).bind fun bt1=>(aH.l0 k2 a1 y2 bt1.1 bt1.2.1 bt1.2.2))=some (r1,r2):=dO;have Ny2:=A0_ hy2;clear hy2;obtain ⟨⟨t5,t6,t7⟩,A6,H⟩:=o1_ H;have H':=A0_ H;clear H;obtain ⟨hnb2,hnc2⟩:=n2_ NB2_1;have hcz3:=z3_ BK2;obtain ⟨Ao1,co1,eo1⟩:=Kd.V_slice HO_3.out;subst eo1
 go_wp2_with (first|((with_reducible refine gc_ (f:=38) rfl ?_);refine gl_ 24 Tryd.func38 #[.agg #[.int .i64 xa,.bool xb,.slice Ao1 xc.length co1],.int .i64 a1] ?_;(with_reducible refine (aA.calls k2 xa xb _ _ xc a1 t3 _ ?_ ?_ A2.out).mono ?_);exact kf;exact (Kd.V_reads' HO_3.out).2.1;rintro e w4 ⟨v4,rfl,ho0,hb⟩;refine ⟨_,rfl,?_⟩;replace HO_2:=A0_ (Kd.V_elder' jC (Kd.R_base ho0) hb);replace HO_3:=A0_ (Kd.V_elder' kg (Kd.R_base ho0) hb);have HO3:=A0_ (Kd.R_lower (Kd.R_new' (Kd.R_newM (M:=fun k_=>(w.heap.size≤k_)) ho0 (bz_ aY) (fun k_ h_=>h_)) (Kd.R_lt aD)) (bz_ aY));replace HO_1:=A0_ (Kd.R_elder' aD (Kd.R_base ho0) hb);replace BK1:=k1_ BK1 hb;replace BK2:=k1_ BK2 hb;replace HB:=hb_ hb aY;(try clear hb ho0);obtain ⟨Ao2,co2,eo2⟩:=Kd.R_slice HO3.out;subst eo2;have p1:0≤(0:Int):=bL;have q1:0<(t3.length:Int):=od_ aE;obtain ⟨ad1,e1,hx1_0⟩:=Kd.at_int (rr_ HO3.out).2.2 0 p1 q1;cases e1;have qi644:(0<t3.length)=True:=eq_true bL;(try rw [show ((0:Int)).toNat=0 from rfl] at hx1_0);(try rw [Addr.add_zero'] at hx1_0);replace p1:=eq_true p1;replace q1:=eq_true q1;have hcz4:=z3_ BK2)|((with_reducible refine gc_ (f:=51) rfl ?_);refine gl_ 34 Tryd.func51 #[.agg #[.int .i64 xa,.bool xb,.slice Ao1 xc.length co1],.int .i64 a1] ?_;(with_reducible refine (aW.calls k2 xa xb _ _ xc a1 t4 _ ?_ ?_ A4.out).mono ?_);exact kf;exact (Kd.V_reads' HO_3.out).2.1;rintro e w5 ⟨v5,rfl,ho0,hb⟩;refine ⟨_,rfl,?_⟩;replace HO_2:=A0_ (Kd.V_elder' jC (Kd.R_base ho0) hb);replace HO_3:=A0_ (Kd.V_elder' kg (Kd.R_base ho0) hb);have HO4:=A0_ (Kd.R_lower (Kd.R_new' (Kd.R_new' (Kd.R_newM (M:=fun k_=>(w.heap.size≤k_)) ho0 (bz_ aY) (fun k_ h_=>h_)) (Kd.R_lt aD)) (Kd.R_lt d9)) (bz_ aY));replace HO_1:=A0_ (Kd.R_elder' aD (Kd.R_base ho0) hb);replace HO3:=A0_ (Kd.R_elder' d9 (Kd.R_base ho0) hb);replace BK1:=k1_ BK1 hb;replace BK2:=k1_ BK2 hb;replace HB:=hb_ hb aY;(try clear hb ho0);obtain ⟨Ao3,co3,eo3⟩:=Kd.R_slice HO4.out;subst eo3;have p2:0≤(0:Int):=bL;have q2:0<(t4.length:Int):=od_ aE;obtain ⟨ad2,e2,hx2_0⟩:=Kd.at_int (rr_ HO4.out).2.2 0 p2 q2;cases e2;have qi648:(0<t4.length)=True:=eq_true bL;(try rw [show ((0:Int)).toNat=0 from rfl] at hx2_0);(try rw [Addr.add_zero'] at hx2_0);replace p2:=eq_true p2;replace q2:=eq_true q2)|((with_reducible refine bO (b:=.append) (xs:=#[.tmp 41,.tmp 43]) rfl ?_);at_builtin;refine Kd.R_append (Kd.int .i64) (w0:=w) w.heap.size rfl (.tmp 41) (.tmp 43) 22 3 (.int .i64 0) 8 rfl Tryd.underlying22 cP rfl ao bL u6 x6_2 (rd t4 0) [.int .i64 (rd t4 0)] (fun k_=>(w.heap.size≤k_)∧no_ (.slice (some ad1) t3.length co2) k_∧no_ (.slice (some ad2) t4.length co3) k_) (fun _=>False) rfl rfl ?aP (fun _ hk=>hk.elim) ?aF ?aO ?aB ?aS ?aL ?_;(case aP=>exact rfl);(case aB=>exact aY);(case aF=>exact (fun k_ hk=>⟨(Nat.le_trans (bz_ aY) hk),Kd.fresh' (Kd.R_lt d9) k_ hk,Kd.fresh' (Kd.R_lt iY) k_ hk⟩));(case aO=>exact qF);(case aS=>exact (bz_ aY));(case aL=>have:=LMc1.out;omega);intro v6 w6 ho hb hg hat;rw [← Ny2.out] at ho;have n0_:=A0_ (Kd.V_afterv (ok:=(fun k_=>(P0_2_ k_ ∨ w.heap.size≤k_)∧no_ (.slice (some ad1) t3.length co2) k_∧no_ (.slice (some ad2) t4.length co3) k_∧k_≠gb1∧k_≠gb2)) qG hg hat);have n1_:=A0_ (Kd.V_afterv (ok:=(fun k_=>(P0_2_ k_ ∨ w.heap.size≤k_)∧no_ (.slice (some ad1) t3.length co2) k_∧no_ (.slice (some ad2) t4.length co3) k_∧k_≠gb1∧k_≠gb2)) qH hg hat);have n2_:=A0_ (a6 (g:=gb1) (o:=.cells #[.int .i64 a0_0,.bool a0_1,.slice A0_2 l0_2.length c0_2] 26 (0,0)) (u1_ BK1) hg (Kd.R_ne HO_1.out BK1.out ao));have n3_:=A0_ (a6 (g:=gb2) (o:=.cells #[.int .i64 xa,.bool xb,.slice Ao1 xc.length co1] 26 (0,0)) (u1_ BK2) hg (Kd.R_ne HO_1.out BK2.out ao));have n4_:=A0_ (Kd.R_after (ok:=(fun k_=>(w.heap.size≤k_)∧no_ (.slice (some ad2) t4.length co3) k_)) qI hg hat);have n5_:=A0_ (Kd.R_after (ok:=(fun k_=>(w.heap.size≤k_)∧no_ (.slice (some ad1) t3.length co2) k_)) qJ hg hat);have n6_:=A0_ (hb);have n7_:=A0_ (ho);clear HO_2 HO_3 BK1 BK2 HO3 HO4 HB HO_1;have HO_2:=n0_;have HO_3:=n1_;have BK1:=n2_;have BK2:=n3_;have HO3:=n4_;have HO4:=n5_;have HB:=n6_;have HO5:=n7_;clear n0_ n1_ n2_ n3_ n4_ n5_ n6_ n7_ ho hb hg hat;have hcz5:=z3_ BK2)|((with_reducible refine gc_ (f:=39) rfl ?_);refine gl_ 48 Tryd.func39 #[.agg #[.int .i64 xa,.bool xb,.slice Ao1 xc.length co1],.int .i64 a1,.int .i64 (rd t4 0)] ?_;(with_reducible refine (bw.calls k2 xa xb _ _ xc a1 (rd t4 0) t5 t6 t7 _ ?_ ?_ A6.out).mono ?_);exact kf;exact (Kd.V_reads' HO_3.out).2.1;rintro e w7 ⟨v7,rfl,ho0,hb⟩;refine ⟨_,rfl,?_⟩;replace HO_2:=A0_ (Kd.V_elder' jC (Kd.R_base ho0) hb);replace HO_3:=A0_ (Kd.V_elder' kg (Kd.R_base ho0) hb);have HO6:=A0_ (Kd.R_lower (Kd.R_new' (Kd.R_new' (Kd.R_new' (Kd.R_newM (M:=fun k_=>(w.heap.size≤k_)) ho0 (bz_ aY) (fun k_ h_=>h_)) (Kd.R_lt d9)) (Kd.R_lt iY)) (Kd.R_lt nG)) (bz_ aY));replace HO3:=A0_ (Kd.R_elder' d9 (Kd.R_base ho0) hb);replace HO4:=A0_ (Kd.R_elder' iY (Kd.R_base ho0) hb);replace HO5:=A0_ (Kd.R_elder' nG (Kd.R_base ho0) hb);replace BK1:=k1_ BK1 hb;replace BK2:=k1_ BK2 hb;replace HB:=hb_ hb aY;(try clear hb ho0);have hcz6:=z3_ BK2;obtain ⟨Ao4,co4,eo4⟩:=Kd.R_slice HO6.out;subst eo4))
 go_roundg k2
 case measure=>have:=HJ1.out;have:=HK1.out;omega
 exact ⟨(y2),(t5),(t6),(t7),(.slice Ao4 t7.length co4),H',⟨by have:=HJ1.out;have:=HK1.out;omega⟩,⟨qK⟩,⟨qL⟩,⟨Kd.V_mono (Kd.R_V qM) (fun k_ hk=>by exact ⟨(.inr (hk.1.1.1.1.1.1.1)),⟨hk.1.1.1.2,⟨hk.1.1.2,hk.1.2⟩⟩⟩)⟩,⟨u1_ BK1⟩,⟨u1_ BK2⟩,⟨aY⟩⟩

def aw.l0:Nat→Int→Int→Int→List (S72)→Int→Int→Option (Int × Int × Bool)
 | 0,_,_,_,_,_,_=>none
 | k+1,x1,x9,x10,x35,x36,x37=>if x37<x36 then (if 0≤x37 then (if x37<(x35.length:Int) then (if x1=2 then (aw.l0 k x1 (wrap64 (x9+(wrap64 (Int.tdiv (wrap64 (((ci x35 x37).f1)+1)) 3)))) (wrap64 (x10+(wrap64 (Int.tdiv ((ci x35 x37).f1) 2)))) x35 x36 (wrap64 (x37+1))) else (aw.l0 k x1 (wrap64 (x9+(wrap64 (Int.tdiv (wrap64 (((ci x35 x37).f1)+2)) 3)))) (wrap64 (x10+(wrap64 (Int.tdiv (wrap64 (((ci x35 x37).f1)+1)) 2)))) x35 x36 (wrap64 (x37+1)))) else (none)) else (none)) else (some (x9,x10,true))
def aw.f (k:Nat) (a0_0:Int) (a0_1:Bool) (l0_2:List Int) (a1:Int):Option (Int × Int × Bool):=(bf.f k a0_0 a0_1 l0_2 a1).bind fun t666=>(if t666=true then ((bd.f a0_0 a0_1 l0_2).bind fun bt667=>((a7.f k a0_0 a0_1 l0_2).bind fun t669=>((aQ.f k bt667.1 bt667.2 t669 a1).bind fun bt670=>(if bt670.2=true then (some (wrap64 (Int.tdiv (wrap64 (a0_0+2)) 3),wrap64 (Int.tdiv a0_0 2),true)) else (aw.l0 k a1 0 0 bt670.1 (bt670.1.length:Int) 0))))) else (some (0,0,false)))
theorem aw.mono_l:∀ k,(∀ y0 y1 y2 y3 y4 y5,LeO (aw.l0 k y0 y1 y2 y3 y4 y5) (aw.l0 (k+1) y0 y1 y2 y3 y4 y5))
 | 0=>fun _ _ _ _ _ _ r h=>by simp [aw.l0] at h
 | k+1=>by
  have ih0:=aw.mono_l k
  ·intro y0 y1 y2 y3 y4 y5
   unfold aw.l0
   repeat' with_reducible first|exact ih0 ..|exact a7.mono ..|exact aQ.mono ..|exact bf.mono ..|exact LeO.refl ..|exact LeO.none ..|refine LeO.ite ?_ ?_|refine LeO.bind ?_ (fun _=>?_)
theorem aw.mono:∀ a0 a1 a2 a3 k,LeO (aw.f k a0 a1 a2 a3) (aw.f (k+1) a0 a1 a2 a3):=by
 intro a0 a1 a2 a3 k;have ih0:=aw.mono_l k;unfold aw.f
 repeat' with_reducible first|exact ih0 ..|exact a7.mono ..|exact aQ.mono ..|exact bf.mono ..|exact LeO.refl ..|exact LeO.none ..|refine LeO.ite ?_ ?_|refine LeO.bind ?_ (fun _=>?_)
def aw.T3:Bool × List (List Nat × List Nat):=(true,[([],[]),([0],[0]),([],[]),([2,1],[2]),([],[]),([1,3,4,3],[1,3,4]),([5],[5]),([6],[6]),([6],[6]),([7,5,0,1,2,3,4,5,6,7],[7]),([8,9,0,1,2,3,4,5,6,7,8,9],[8])])
def aw.B3:List Nat:=[0,1,0,7,0,31,63,127,127,255,1023]
theorem aw.tab3:dx .any (dX Tryd.f25 3)=aw.T3:=by kernel_rfl
theorem aw.bits3:cp aw.T3.2 aw.B3=true:=by kernel_rfl
def aw.T5:Bool × List (List Nat × List Nat):=(true,[([],[]),([0],[0]),([1],[1]),([2],[2]),([],[]),([4],[4]),([5],[5]),([3,0,1,2,3],[3]),([6,7,0,1,2,3,4,5,6,7],[6]),([8,0,1,2,3,4,5,6,7,8],[])])
def aw.B5:List Nat:=[0,1,3,7,0,16,48,15,255,511]
theorem aw.tab5:dx .any (dX Tryd.f25 5)=aw.T5:=by kernel_rfl
theorem aw.bits5:cp aw.T5.2 aw.B5=true:=by kernel_rfl
theorem aw.calls (k:Nat) (a0_0:Int) (a0_1:Bool) (A0_2:Option Addr) (c0_2:Nat) (l0_2:List Int) (a1:Int) (r1:Int) (r2:Int) (r3:Bool) (w:World) (hr0_2:Kd.C (Kd.int .i64) w A0_2 l0_2.length l0_2) (hc0_2:l0_2.length≤c0_2) (H:aw.f k a0_0 a0_1 l0_2 a1=some (r1,r2,r3)) :
  Calls Tryd.prog 25 #[.agg #[.int .i64 a0_0,.bool a0_1,.slice A0_2 l0_2.length c0_2],.int .i64 a1] w fun e w'=>e=.returned (.tuple #[.int .i64 r1,.int .i64 r2,.bool r3])∧Below w.heap.size w w':=by
 have hu26:=Tryd.underlying26;have hu72:=Tryd.underlying72;have HR0_2:=A0_ hr0_2;have HC0_2:=A0_ hc0_2;clear hr0_2 hc0_2;have HB:=A0_ (Below.refl w.heap.size w);unfold aw.f at H;obtain ⟨t1,A2,H⟩:=o1_ H
 by_cases c1:t1=true
 case neg =>
  obtain rfl:=bf_.mpr c1;rw [if_neg ft_] at H;simp only [sj_,pj_] at H;obtain ⟨rfl,rfl,rfl⟩:=H;go_enter Tryd.func25,Tryd.ntmps25
  go_wp2_with (first|((with_reducible refine gd_ (N:=2) rfl ?_);refine bx_ 2 #[.int .i64 a0_0,.bool a0_1,.slice A0_2 l0_2.length c0_2] 26 ?_;intro gb1 hg w1 BK1 hb;have GW1:=ge_ hg am;have GE1:=GW1;replace HB:=hb_ hb am;clear hb hg;have hcz1:=z3_ BK1)|((with_reducible refine gc_ (f:=41) rfl ?_);refine gl_ 16 Tryd.func41 #[.agg #[.int .i64 a0_0,.bool a0_1,.slice A0_2 l0_2.length c0_2],.int .i64 a1] ?_;(with_reducible refine (bf.calls k a0_0 a0_1 _ _ l0_2 a1 false _ ?_ ?_ A2.out).mono ?_);exact bn;exact HC0_2.out;rintro e w2 ⟨rfl,hb⟩;refine ⟨_,rfl,?_⟩;replace BK1:=k1_ BK1 hb;replace HB:=hb_ hb ab;(try clear hb)))
  go_ret3
  exact ⟨bc,ab⟩
 subst c1;rw [if_pos rfl] at H;obtain ⟨⟨t3,t4⟩,A4,H⟩:=o1_ H;obtain ⟨t2,A6,H⟩:=o1_ H;obtain ⟨⟨t5,t6⟩,A8,H⟩:=o1_ H
 by_cases c2:t6=true
 ·subst c2
  rw [if_pos rfl] at H;simp only [sj_,pj_] at H;obtain ⟨rfl,rfl,rfl⟩:=H;go_enter Tryd.func25,Tryd.ntmps25
  try go_wp2_with (first|((with_reducible refine gd_ (N:=2) rfl ?_);refine bx_ 2 #[.int .i64 a0_0,.bool a0_1,.slice A0_2 l0_2.length c0_2] 26 ?_;intro gb1 hg w1 BK1 hb;have GW1:=ge_ hg am;have GE1:=GW1;replace HB:=hb_ hb am;clear hb hg;have hcz1:=z3_ BK1)|((with_reducible refine gc_ (f:=41) rfl ?_);refine gl_ 16 Tryd.func41 #[.agg #[.int .i64 a0_0,.bool a0_1,.slice A0_2 l0_2.length c0_2],.int .i64 a1] ?_;(with_reducible refine (bf.calls k a0_0 a0_1 _ _ l0_2 a1 true _ ?_ ?_ A2.out).mono ?_);exact bn;exact HC0_2.out;rintro e w2 ⟨rfl,hb⟩;refine ⟨_,rfl,?_⟩;replace BK1:=k1_ BK1 hb;replace HB:=hb_ hb ab;(try clear hb)))
  replace BK1:=A0_ (kd_ BK1.out);replace HB:=A0_ (bd_ HB.out)
  refine s3_ 11 [] BK1 aw.tab3 aw.bits3 (fun hHeld HT_ HW_=>?_)
  generalize w2.drew=w3 at BK1 HB hHeld ⊢
  refine pu_ 4 23 ?_
  refine tk_ 0 19 hHeld ?_
  refine tk_ 2 21 hHeld ?_
  refine on_ 1 (some 20) (fun K hK=>?_)
  refine gs_ Tryd.func42 #[.agg #[.int .i64 a0_0,.bool a0_1,.slice A0_2 l0_2.length c0_2]] ?_
  with_reducible refine (bd.calls a0_0 a0_1 _ _ l0_2 t3 t4 _ ?_ ?_ A4.out).mono ?_
  exact bn
  exact HC0_2.out
  rintro e w4 ⟨rfl,hb⟩
  refine ⟨_,rfl,?_⟩
  replace BK1:=k1_ BK1 hb;replace HB:=hb_ hb ab
  (try clear hb)
  refine hK.out _ _ (c3_ BK1) (fun hHeld=>?_)
  clear hK K
  refine nm_ 20 ?_
  refine on_ 3 (some 22) (fun K hK=>?_)
  refine gs_ Tryd.func44 #[.agg #[.int .i64 a0_0,.bool a0_1,.slice A0_2 l0_2.length c0_2]] ?_
  with_reducible refine (a7.calls k a0_0 a0_1 _ _ l0_2 t2 _ ?_ ?_ A6.out).mono ?_
  exact bn
  exact HC0_2.out
  rintro e w5 ⟨rfl,hb⟩
  refine ⟨_,rfl,?_⟩
  replace BK1:=k1_ BK1 hb;replace HB:=hb_ hb ab
  (try clear hb)
  refine hK.out _ _ (c3_ BK1) (fun hHeld=>?_)
  clear hK K
  refine nm_ 22 ?_
  refine on_ 5 (some 24) (fun K hK=>?_)
  refine gs_ Tryd.func56 #[.agg #[.int .i64 t3,.bool t4],.int .u32 t2,.int .i64 a1] ?_
  with_reducible refine (aQ.calls k t3 t4 t2 a1 t5 true _ A8.out).mono ?_
  rintro e w6 ⟨v1,rfl,ho0,hb⟩
  refine ⟨_,rfl,?_⟩
  have HO1:=A0_ (Kd.R_lower ho0 (bz_ ab));replace BK1:=k1_ BK1 hb;replace HB:=hb_ hb ab
  (try clear hb ho0)
  refine hK.out _ _ (c3_ BK1) (fun hHeld=>?_)
  clear hK K
  refine nm_ 24 ?_
  refine pu_ 6 18 ?_
  refine pu_ 7 25 ?_
  refine pu_ 8 26 ?_
  refine pu_ 9 7 ?_
  refine pu_ 10 8 ?_
  refine dn_ ?_
  try go_wp2
  replace HO1:=A0_ (rd_ HO1.out);replace BK1:=A0_ (kd_ BK1.out);replace HB:=A0_ (bd_ HB.out)
  refine s3_ 10 [] BK1 aw.tab5 aw.bits5 (fun hHeld HT_ HW_=>?_)
  generalize w6.drew=w7 at HO1 BK1 HB hHeld ⊢
  refine pu_ 0 28 ?_
  refine pu_ 4 32 ?_
  refine tk_ 1 29 hHeld ?_
  refine pu_ 2 30 ?_
  refine pu_ 3 31 ?_
  refine pu_ 7 4 ?_
  refine tk_ 5 33 hHeld ?_
  refine pu_ 6 34 ?_
  refine pu_ 8 5 ?_
  refine pu_ 9 6 ?_
  refine dn_ ?_
  try go_wp2
  go_ret3
  exact ⟨bc,ab⟩
 obtain rfl:=bf_.mpr c2;rw [if_neg ft_] at H;have H':=A0_ H;clear H;go_enter Tryd.func25,Tryd.ntmps25
 try go_wp2_with (first|((with_reducible refine gd_ (N:=2) rfl ?_);refine bx_ 2 #[.int .i64 a0_0,.bool a0_1,.slice A0_2 l0_2.length c0_2] 26 ?_;intro gb1 hg w1 BK1 hb;have GW1:=ge_ hg am;have GE1:=GW1;replace HB:=hb_ hb am;clear hb hg;have hcz1:=z3_ BK1)|((with_reducible refine gc_ (f:=41) rfl ?_);refine gl_ 16 Tryd.func41 #[.agg #[.int .i64 a0_0,.bool a0_1,.slice A0_2 l0_2.length c0_2],.int .i64 a1] ?_;(with_reducible refine (bf.calls k a0_0 a0_1 _ _ l0_2 a1 true _ ?_ ?_ A2.out).mono ?_);exact bn;exact HC0_2.out;rintro e w2 ⟨rfl,hb⟩;refine ⟨_,rfl,?_⟩;replace BK1:=k1_ BK1 hb;replace HB:=hb_ hb ab;(try clear hb)))
 replace BK1:=A0_ (kd_ BK1.out);replace HB:=A0_ (bd_ HB.out)
 refine s3_ 11 [] BK1 aw.tab3 aw.bits3 (fun hHeld HT_ HW_=>?_)
 generalize w2.drew=w3 at BK1 HB hHeld ⊢
 refine pu_ 4 23 ?_
 refine tk_ 0 19 hHeld ?_
 refine tk_ 2 21 hHeld ?_
 refine on_ 1 (some 20) (fun K hK=>?_)
 refine gs_ Tryd.func42 #[.agg #[.int .i64 a0_0,.bool a0_1,.slice A0_2 l0_2.length c0_2]] ?_
 with_reducible refine (bd.calls a0_0 a0_1 _ _ l0_2 t3 t4 _ ?_ ?_ A4.out).mono ?_
 exact bn
 exact HC0_2.out
 rintro e w4 ⟨rfl,hb⟩
 refine ⟨_,rfl,?_⟩
 replace BK1:=k1_ BK1 hb;replace HB:=hb_ hb ab
 (try clear hb)
 refine hK.out _ _ (c3_ BK1) (fun hHeld=>?_)
 clear hK K
 refine nm_ 20 ?_
 refine on_ 3 (some 22) (fun K hK=>?_)
 refine gs_ Tryd.func44 #[.agg #[.int .i64 a0_0,.bool a0_1,.slice A0_2 l0_2.length c0_2]] ?_
 with_reducible refine (a7.calls k a0_0 a0_1 _ _ l0_2 t2 _ ?_ ?_ A6.out).mono ?_
 exact bn
 exact HC0_2.out
 rintro e w5 ⟨rfl,hb⟩
 refine ⟨_,rfl,?_⟩
 replace BK1:=k1_ BK1 hb;replace HB:=hb_ hb ab
 (try clear hb)
 refine hK.out _ _ (c3_ BK1) (fun hHeld=>?_)
 clear hK K
 refine nm_ 22 ?_
 refine on_ 5 (some 24) (fun K hK=>?_)
 refine gs_ Tryd.func56 #[.agg #[.int .i64 t3,.bool t4],.int .u32 t2,.int .i64 a1] ?_
 with_reducible refine (aQ.calls k t3 t4 t2 a1 t5 false _ A8.out).mono ?_
 rintro e w6 ⟨v1,rfl,ho0,hb⟩
 refine ⟨_,rfl,?_⟩
 have HO1:=A0_ (Kd.R_lower ho0 (bz_ ab));replace BK1:=k1_ BK1 hb;replace HB:=hb_ hb ab
 (try clear hb ho0)
 refine hK.out _ _ (c3_ BK1) (fun hHeld=>?_)
 clear hK K
 refine nm_ 24 ?_
 refine pu_ 6 18 ?_
 refine pu_ 7 25 ?_
 refine pu_ 8 26 ?_
 refine pu_ 9 7 ?_
 refine pu_ 10 8 ?_
 refine dn_ ?_
 obtain ⟨Ao1,co1,eo1⟩:=Kd.R_slice HO1.out;subst eo1
 try go_wp2
 go_loopg [9,10,37] k (fun kq v2 v3 v4 w'=>∃ (x9_1:Int) (x10_1:Int) (x37_1:Int),v2=.int .i64 x9_1∧v3=.int .i64 x10_1∧v4=.int .i64 x37_1∧Aside0 (aw.l0 kq a1 x9_1 x10_1 t5 (t5.length:Int) x37_1=some (r1,r2,r3))∧Aside0 (kq≤k)∧Aside0 (Kd.R k72 72 w' w.heap.size (fun _=>True) (.slice Ao1 t5.length co1) t5)∧Aside0 (w'.heap[gb1]?=some (.cells #[.int .i64 a0_0,.bool a0_1,(.slice A0_2 l0_2.length c0_2)] 26 (0,0)))∧Aside0 (Below w.heap.size w w'))
 case atStart=>exact ⟨(0),(0),(0),aC,aC,aC,H',⟨Nat.le_refl _⟩,⟨bR⟩,⟨u1_ BK1⟩,⟨ab⟩⟩
 clear H'
 try clear c1
 try clear c2
 (try clear hcz1);(try clear hfz1)
 obtain ⟨x9_1,x10_1,x37_1,rfl,rfl,rfl,HA,HK1,HO_1,BK1,HB⟩:=hrel
 cases gk with|zero=>exact absurd HA.out (by simp [aw.l0])|succ k1=>?_
 have H:=HA.out;clear HA;simp only [aw.l0] at H
 by_cases c3:x37_1<(t5.length:Int)
 case neg =>
  rw [if_neg c3] at H;have c3b0:decide (x37_1<(t5.length:Int))=false:=decide_eq_false c3;clear c3;simp only [sj_,pj_] at H;obtain ⟨rfl,rfl,rfl⟩:=H
  go_wp2
  go_ret3
  exact ⟨bc,ab⟩
 rw [if_pos c3] at H;have c3b0:decide (x37_1<(t5.length:Int))=true:=dt_ c3;clear c3;obtain ⟨c4b0,H⟩:=i1_ H;obtain ⟨c5b0,H⟩:=i1_ H
 by_cases c6:a1=2
 ·rw [if_pos c6] at H
  obtain ⟨c6b0,c6b1⟩:=et_ c6;clear c6;have H':=A0_ H;clear H;have p1:0≤(x37_1:Int):=od_ aE;have q1:x37_1<(t5.length:Int):=od_ aE;obtain ⟨ad1,e1,hx1_0,hx1_1⟩:=gT (rr_ HO_1.out).2.2 x37_1 p1 q1;cases e1;replace p1:=eq_true p1;replace q1:=eq_true q1
  go_wp2_with (first|((with_reducible refine gd_ (N:=12) rfl ?_);refine bx_ 12 #[.int .i64 0,.int .i64 0] 72 ?_;intro gb2 hg w7 BK2 hb;replace HO_1:=A0_ (Kd.R_below (Kd.R_elderB aD gb2 (Nat.le_of_eq hg.symm)) hb);have GW2:=ge_ hg ab;have GE2:=GW2;replace HB:=hb_ hb ab;obtain ⟨NB1_2,NB2_1⟩:=nn_ hg BK1;replace BK1:=k1_ BK1 hb;clear hb hg;obtain ⟨hnb1,hnc1⟩:=n2_ NB2_1;have hcz2:=z2_ BK2))
  go_roundg k1
  case measure=>have:=HK1.out;omega
  exact ⟨(wrap64 (x9_1+(wrap64 (Int.tdiv (wrap64 (((ci t5 x37_1).f1)+1)) 3)))),(wrap64 (x10_1+(wrap64 (Int.tdiv ((ci t5 x37_1).f1) 2)))),(wrap64 (x37_1+1)),aC,aC,aC,H',⟨de⟩,⟨qN⟩,⟨u1_ BK1⟩,⟨aY⟩⟩
 rw [if_neg c6] at H;obtain ⟨c6b0,c6b1⟩:=ef_ c6;have H':=A0_ H;clear H;have p1:0≤(x37_1:Int):=od_ aE;have q1:x37_1<(t5.length:Int):=od_ aE;obtain ⟨ad1,e1,hx1_0,hx1_1⟩:=gT (rr_ HO_1.out).2.2 x37_1 p1 q1;cases e1;replace p1:=eq_true p1;replace q1:=eq_true q1
 go_wp2_with (first|((with_reducible refine gd_ (N:=12) rfl ?_);refine bx_ 12 #[.int .i64 0,.int .i64 0] 72 ?_;intro gb2 hg w7 BK2 hb;replace HO_1:=A0_ (Kd.R_below (Kd.R_elderB aD gb2 (Nat.le_of_eq hg.symm)) hb);have GW2:=ge_ hg ab;have GE2:=GW2;replace HB:=hb_ hb ab;obtain ⟨NB1_2,NB2_1⟩:=nn_ hg BK1;replace BK1:=k1_ BK1 hb;clear hb hg;obtain ⟨hnb1,hnc1⟩:=n2_ NB2_1;have hcz2:=z2_ BK2))
 go_roundg k1
 case measure=>have:=HK1.out;omega
 exact ⟨(wrap64 (x9_1+(wrap64 (Int.tdiv (wrap64 (((ci t5 x37_1).f1)+2)) 3)))),(wrap64 (x10_1+(wrap64 (Int.tdiv (wrap64 (((ci t5 x37_1).f1)+1)) 2)))),(wrap64 (x37_1+1)),aC,aC,aC,H',⟨de⟩,⟨qN⟩,⟨u1_ BK1⟩,⟨aY⟩⟩

mutual
def af.j0:Nat→Int→Bool→Int→Bool→List Int→Option (Int × Int × Bool)
 | 0,_,_,_,_,_=>none
 | k+1,x1,x20,xa,xb,xc=>if x20=true then (some (0,0,false)) else ((ak.f k xa xb xc).bind fun t679=>(if x1=1 then ((aX.f k xa xb xc).bind fun t682=>(af.j1 k x1 t682 0 0 xa xb xc)) else (af.j1 k x1 t679 0 0 xa xb xc)))
def af.j1:Nat→Int→List (S72)→Int→Int→Int→Bool→List Int→Option (Int × Int × Bool)
 | 0,_,_,_,_,_,_,_=>none
 | k+1,x1,x7,x8,x9,xa,xb,xc=>af.l0 k x1 x7 x8 x9 0 xa xb xc
def af.l0:Nat→Int→List (S72)→Int→Int→Int→Int→Bool→List Int→Option (Int × Int × Bool)
 | 0,_,_,_,_,_,_,_,_=>none
 | k+1,x1,x7,x8,x9,x10,xa,xb,xc=>if x10<(x7.length:Int) then (if 0≤x10 then (if xb=true then (af.j3 k x1 x7 x8 x9 x10 ((ci x7 x10).f1) (((ci x7 x10).f1) == xa) xa xb xc) else (af.j3 k x1 x7 x8 x9 x10 ((ci x7 x10).f1) false xa xb xc)) else (none)) else (some (x8,x9,true))
def af.j3:Nat→Int→List (S72)→Int→Int→Int→Int→Bool→Int→Bool→List Int→Option (Int × Int × Bool)
 | 0,_,_,_,_,_,_,_,_,_,_=>none
 | k+1,x1,x7,x8,x9,x10,x11,x12,xa,xb,xc=>if x1=2 then (if x12=true then (af.l0 k x1 x7 (wrap64 ((wrap64 ((wrap64 (x8+(wrap64 (Int.tdiv (wrap64 (x11+1)) 3))))+(wrap64 (Int.tdiv (wrap64 (x11+2)) 3)))) - (wrap64 (Int.tdiv (wrap64 (x11+1)) 3)))) (wrap64 (x9+(wrap64 (Int.tdiv x11 2)))) (wrap64 (x10+1)) xa xb xc) else (af.l0 k x1 x7 (wrap64 (x8+(wrap64 (Int.tdiv (wrap64 (x11+1)) 3)))) (wrap64 (x9+(wrap64 (Int.tdiv x11 2)))) (wrap64 (x10+1)) xa xb xc)) else (if x12=true then (af.l0 k x1 x7 (wrap64 (x8+(wrap64 (Int.tdiv (wrap64 (x11+2)) 3)))) (wrap64 ((wrap64 ((wrap64 (x9+(wrap64 (Int.tdiv (wrap64 (x11+1)) 2))))+(wrap64 (Int.tdiv x11 2)))) - (wrap64 (Int.tdiv (wrap64 (x11+1)) 2)))) (wrap64 (x10+1)) xa xb xc) else (af.l0 k x1 x7 (wrap64 (x8+(wrap64 (Int.tdiv (wrap64 (x11+2)) 3)))) (wrap64 (x9+(wrap64 (Int.tdiv (wrap64 (x11+1)) 2)))) (wrap64 (x10+1)) xa xb xc))
end
def af.f (k:Nat) (a0_0:Int) (a0_1:Bool) (l0_2:List Int) (a1:Int):Option (Int × Int × Bool):=(aI.f k a0_0 a0_1 l0_2).bind fun t677=>(if t677=true then ((bG.f a1).bind fun t678=>(af.j0 k a1 (!t678) a0_0 a0_1 l0_2)) else (af.j0 k a1 true a0_0 a0_1 l0_2))
theorem af.mono_l:∀ k,(∀ y0 y1 y2 y3 y4,LeO (af.j0 k y0 y1 y2 y3 y4) (af.j0 (k+1) y0 y1 y2 y3 y4))∧(∀ y0 y1 y2 y3 y4 y5 y6,LeO (af.j1 k y0 y1 y2 y3 y4 y5 y6) (af.j1 (k+1) y0 y1 y2 y3 y4 y5 y6))∧(∀ y0 y1 y2 y3 y4 y5 y6 y7,LeO (af.l0 k y0 y1 y2 y3 y4 y5 y6 y7) (af.l0 (k+1) y0 y1 y2 y3 y4 y5 y6 y7))∧(∀ y0 y1 y2 y3 y4 y5 y6 y7 y8 y9,LeO (af.j3 k y0 y1 y2 y3 y4 y5 y6 y7 y8 y9) (af.j3 (k+1) y0 y1 y2 y3 y4 y5 y6 y7 y8 y9))
 | 0=>⟨fun _ _ _ _ _ r h=>by simp [af.j0] at h,fun _ _ _ _ _ _ _ r h=>by simp [af.j1] at h,fun _ _ _ _ _ _ _ _ r h=>by simp [af.l0] at h,fun _ _ _ _ _ _ _ _ _ _ r h=>by simp [af.j3] at h⟩
 | k+1=>by
  obtain ⟨ih0,ih1,ih2,ih3⟩:=af.mono_l k
  refine ⟨?_,?_,?_,?_⟩
  ·intro y0 y1 y2 y3 y4
   unfold af.j0
   repeat' with_reducible first|exact ih0 ..|exact ih1 ..|exact ih2 ..|exact ih3 ..|exact aI.mono ..|exact ak.mono ..|exact aX.mono ..|exact LeO.refl ..|exact LeO.none ..|refine LeO.ite ?_ ?_|refine LeO.bind ?_ (fun _=>?_)
  ·intro y0 y1 y2 y3 y4 y5 y6
   unfold af.j1
   repeat' with_reducible first|exact ih0 ..|exact ih1 ..|exact ih2 ..|exact ih3 ..|exact aI.mono ..|exact ak.mono ..|exact aX.mono ..|exact LeO.refl ..|exact LeO.none ..|refine LeO.ite ?_ ?_|refine LeO.bind ?_ (fun _=>?_)
  ·intro y0 y1 y2 y3 y4 y5 y6 y7
   unfold af.l0
   repeat' with_reducible first|exact ih0 ..|exact ih1 ..|exact ih2 ..|exact ih3 ..|exact aI.mono ..|exact ak.mono ..|exact aX.mono ..|exact LeO.refl ..|exact LeO.none ..|refine LeO.ite ?_ ?_|refine LeO.bind ?_ (fun _=>?_)
  ·intro y0 y1 y2 y3 y4 y5 y6 y7 y8 y9
   unfold af.j3
   repeat' with_reducible first|exact ih0 ..|exact ih1 ..|exact ih2 ..|exact ih3 ..|exact aI.mono ..|exact ak.mono ..|exact aX.mono ..|exact LeO.refl ..|exact LeO.none ..|refine LeO.ite ?_ ?_|refine LeO.bind ?_ (fun _=>?_)
theorem af.mono:∀ a0 a1 a2 a3 k,LeO (af.f k a0 a1 a2 a3) (af.f (k+1) a0 a1 a2 a3):=by
 intro a0 a1 a2 a3 k;obtain ⟨ih0,ih1,ih2,ih3⟩:=af.mono_l k;unfold af.f
 repeat' with_reducible first|exact ih0 ..|exact ih1 ..|exact ih2 ..|exact ih3 ..|exact aI.mono ..|exact ak.mono ..|exact aX.mono ..|exact LeO.refl ..|exact LeO.none ..|refine LeO.ite ?_ ?_|refine LeO.bind ?_ (fun _=>?_)
theorem af.calls (k:Nat) (a0_0:Int) (a0_1:Bool) (A0_2:Option Addr) (c0_2:Nat) (l0_2:List Int) (a1:Int) (r1:Int) (r2:Int) (r3:Bool) (w:World) (hr0_2:Kd.C (Kd.int .i64) w A0_2 l0_2.length l0_2) (hc0_2:l0_2.length≤c0_2) (H:af.f k a0_0 a0_1 l0_2 a1=some (r1,r2,r3)) :
  Calls Tryd.prog 26 #[.agg #[.int .i64 a0_0,.bool a0_1,.slice A0_2 l0_2.length c0_2],.int .i64 a1] w fun e w'=>e=.returned (.tuple #[.int .i64 r1,.int .i64 r2,.bool r3])∧Below w.heap.size w w':=by
 have hu26:=Tryd.underlying26;have HR0_2:=A0_ hr0_2;have HC0_2:=A0_ hc0_2;clear hr0_2 hc0_2;have HB:=A0_ (Below.refl w.heap.size w);unfold af.f at H;have HC3:=A0_ H;clear H;go_enter Tryd.func26,Tryd.ntmps26
 go_upto_region 1 with (first|((with_reducible refine gd_ (N:=2) rfl ?_);refine bx_ 2 #[.int .i64 a0_0,.bool a0_1,.slice A0_2 l0_2.length c0_2] 26 ?_;intro gb1 hg w1 BK1 hb;have GW1:=ge_ hg am;have GE1:=GW1;replace HB:=hb_ hb am;clear hb hg))
 repeat (go_quiet (first|((with_reducible refine gd_ (N:=2) rfl ?_);refine bx_ 2 #[.int .i64 a0_0,.bool a0_1,.slice A0_2 l0_2.length c0_2] 26 ?_;intro gb1 hg w1 BK1 hb;have GW1:=ge_ hg am;have GE1:=GW1;replace HB:=hb_ hb am;clear hb hg));go_upto_region 1 with (first|((with_reducible refine gd_ (N:=2) rfl ?_);refine bx_ 2 #[.int .i64 a0_0,.bool a0_1,.slice A0_2 l0_2.length c0_2] 26 ?_;intro gb1 hg w1 BK1 hb;have GW1:=ge_ hg am;have GE1:=GW1;replace HB:=hb_ hb am;clear hb hg)))
 (try simp only [Act.put,sa_,sz_,ss_])
 go_cut [20] (fun v1 wc=>∃ (kq:Nat) (x20_2:Bool),v1=.bool x20_2∧Aside0 (af.j0 kq a1 x20_2 a0_0 a0_1 l0_2=some (r1,r2,r3))∧Aside0 (kq≤k)∧Aside0 (wc.heap[gb1]?=some (.cells #[.int .i64 a0_0,.bool a0_1,(.slice A0_2 l0_2.length c0_2)] 26 (0,0)))∧Aside0 (Below w.heap.size w wc))
 case first =>
  have H:=HC3.out;clear HC3;obtain ⟨t1,A2,H⟩:=o1_ H
  by_cases c1:t1=true
  case neg =>
   obtain rfl:=bf_.mpr c1;rw [if_neg ft_] at H;have H':=A0_ H;clear H;have hcz1:=c3_ BK1
   go_wp2_with (first|(go_at_call 35;(with_reducible refine (aI.calls k a0_0 a0_1 _ _ l0_2 false _ ?_ ?_ A2.out).mono ?_);exact bn;exact HC0_2.out;rintro e w2 ⟨rfl,hb⟩;replace BK1:=k1_ BK1 hb;replace HB:=hb_ hb ab;(try clear hb)))
   repeat (go_quiet (first|(go_at_call 35;(with_reducible refine (aI.calls k a0_0 a0_1 _ _ l0_2 false _ ?_ ?_ A2.out).mono ?_);exact bn;exact HC0_2.out;rintro e w2 ⟨rfl,hb⟩;replace BK1:=k1_ BK1 hb;replace HB:=hb_ hb ab;(try clear hb)));try go_wp2_with (first|(go_at_call 35;(with_reducible refine (aI.calls k a0_0 a0_1 _ _ l0_2 false _ ?_ ?_ A2.out).mono ?_);exact bn;exact HC0_2.out;rintro e w2 ⟨rfl,hb⟩;replace BK1:=k1_ BK1 hb;replace HB:=hb_ hb ab;(try clear hb))))
   go_meet
   exact ⟨_,(true),aC,H',⟨eH⟩,⟨u1_ BK1⟩,⟨ab⟩⟩
  subst c1;rw [if_pos rfl] at H;obtain ⟨t2,A4,H⟩:=o1_ H;have H':=A0_ H;clear H;have hcz1:=c3_ BK1
  go_wp2_with (first|(go_at_call 35;(with_reducible refine (aI.calls k a0_0 a0_1 _ _ l0_2 true _ ?_ ?_ A2.out).mono ?_);exact bn;exact HC0_2.out;rintro e w2 ⟨rfl,hb⟩;replace BK1:=k1_ BK1 hb;replace HB:=hb_ hb ab;(try clear hb))|(go_at_call 36;(with_reducible refine (bG.calls a1 t2 _ A4.out).mono ?_);rintro e w' ⟨rfl,⟨nd,rfl⟩⟩;(try first|exact ⟨rfl,_,World.drewN_drewN _ _ _⟩|exact ⟨rfl,_,Eq.trans (World.drewN_drewN _ _ _) (congrArg (World.drewN _) (Nat.add_assoc _ _ _))⟩)))
  repeat (go_quiet (first|(go_at_call 35;(with_reducible refine (aI.calls k a0_0 a0_1 _ _ l0_2 true _ ?_ ?_ A2.out).mono ?_);exact bn;exact HC0_2.out;rintro e w2 ⟨rfl,hb⟩;replace BK1:=k1_ BK1 hb;replace HB:=hb_ hb ab;(try clear hb))|(go_at_call 36;(with_reducible refine (bG.calls a1 t2 _ A4.out).mono ?_);rintro e w' ⟨rfl,⟨nd,rfl⟩⟩;(try first|exact ⟨rfl,_,World.drewN_drewN _ _ _⟩|exact ⟨rfl,_,Eq.trans (World.drewN_drewN _ _ _) (congrArg (World.drewN _) (Nat.add_assoc _ _ _))⟩)));try go_wp2_with (first|(go_at_call 35;(with_reducible refine (aI.calls k a0_0 a0_1 _ _ l0_2 true _ ?_ ?_ A2.out).mono ?_);exact bn;exact HC0_2.out;rintro e w2 ⟨rfl,hb⟩;replace BK1:=k1_ BK1 hb;replace HB:=hb_ hb ab;(try clear hb))|(go_at_call 36;(with_reducible refine (bG.calls a1 t2 _ A4.out).mono ?_);rintro e w' ⟨rfl,⟨nd,rfl⟩⟩;(try first|exact ⟨rfl,_,World.drewN_drewN _ _ _⟩|exact ⟨rfl,_,Eq.trans (World.drewN_drewN _ _ _) (congrArg (World.drewN _) (Nat.add_assoc _ _ _))⟩))))
  go_meet
  exact ⟨_,(!t2),aC,H',⟨eH⟩,⟨u1_ BK1⟩,⟨ab⟩⟩
 clear HC3;obtain ⟨kq,x20_2,rfl,HA,HJ1,BK1,HB⟩:=hcut
 cases kq with|zero=>exact absurd HA.out (by simp [af.j0])|succ kj1=>?_
 have H:=HA.out;clear HA;simp only [af.j0] at H
 by_cases c1:x20_2=true
 ·subst c1
  rw [if_pos rfl] at H;simp only [sj_,pj_] at H;obtain ⟨rfl,rfl,rfl⟩:=H
  go_wp2
  repeat (go_quiet (fail);try go_wp2)
  go_ret3
  exact ⟨bc,ab⟩
 obtain rfl:=bf_.mpr c1;rw [if_neg ft_] at H;obtain ⟨t3,A2,H⟩:=o1_ H;have HC14:=A0_ H;clear H;have hcz1:=c3_ BK1
 go_upto_if 24 with (first|(go_at_call 57;(with_reducible refine (ak.calls kj1 a0_0 a0_1 _ _ l0_2 t3 _ ?_ ?_ A2.out).mono ?_);exact bn;exact HC0_2.out;rintro e w2 ⟨v2,rfl,ho0,hb⟩;have HO1:=A0_ (Kd.R_lower ho0 (bz_ ab));replace BK1:=k1_ BK1 hb;replace HB:=hb_ hb ab;(try clear hb ho0)))
 repeat (go_quiet (first|(go_at_call 57;(with_reducible refine (ak.calls kj1 a0_0 a0_1 _ _ l0_2 t3 _ ?_ ?_ A2.out).mono ?_);exact bn;exact HC0_2.out;rintro e w2 ⟨v2,rfl,ho0,hb⟩;have HO1:=A0_ (Kd.R_lower ho0 (bz_ ab));replace BK1:=k1_ BK1 hb;replace HB:=hb_ hb ab;(try clear hb ho0)));go_upto_if 24 with (first|(go_at_call 57;(with_reducible refine (ak.calls kj1 a0_0 a0_1 _ _ l0_2 t3 _ ?_ ?_ A2.out).mono ?_);exact bn;exact HC0_2.out;rintro e w2 ⟨v2,rfl,ho0,hb⟩;have HO1:=A0_ (Kd.R_lower ho0 (bz_ ab));replace BK1:=k1_ BK1 hb;replace HB:=hb_ hb ab;(try clear hb ho0))))
 (try simp only [Act.put,sa_,sz_,ss_])
 go_cut [7] (fun v3 wc=>∃ (kq:Nat) (x7_13:List (S72)),Aside0 (af.j1 kq a1 x7_13 0 0 a0_0 a0_1 l0_2=some (r1,r2,r3))∧Aside0 (kq≤kj1)∧Aside0 (Kd.R k72 72 wc w.heap.size (fun _=>True) v3 x7_13)∧Aside0 (wc.heap[gb1]?=some (.cells #[.int .i64 a0_0,.bool a0_1,(.slice A0_2 l0_2.length c0_2)] 26 (0,0)))∧Aside0 (Below w.heap.size w wc))
 case first =>
  have H:=HC14.out;clear HC14
  by_cases c2:a1=1
  case neg =>
   rw [if_neg c2] at H;obtain ⟨c2b0,c2b1⟩:=ef_ c2
   (first|rw [c2b0]|(simp only [cH,dC];rw [c2b0])|skip)
   have H':=A0_ H;clear H
   go_wp2
   repeat (go_quiet (fail);try go_wp2)
   go_meet
   exact ⟨_,(t3),H',⟨ki⟩,⟨bR⟩,⟨u1_ BK1⟩,⟨ab⟩⟩
  rw [if_pos c2] at H;obtain ⟨c2b0,c2b1⟩:=et_ c2;clear c2
  (first|rw [c2b0]|(simp only [cH,dC];rw [c2b0])|skip)
  obtain ⟨t4,A4,H⟩:=o1_ H;have H':=A0_ H;clear H;have hcz2:=c3_ BK1
  go_wp2_with (first|(go_at_call 58;(with_reducible refine (aX.calls kj1 a0_0 a0_1 _ _ l0_2 t4 _ ?_ ?_ A4.out).mono ?_);exact bn;exact HC0_2.out;rintro e w3 ⟨v4,rfl,ho0,hb⟩;have HO2:=A0_ (Kd.R_lower (Kd.R_new' ho0 (Kd.R_lt bR)) (bz_ ab));replace HO1:=A0_ (Kd.R_elder' bR (Kd.R_base ho0) hb);replace BK1:=k1_ BK1 hb;replace HB:=hb_ hb ab;(try clear hb ho0)))
  repeat (go_quiet (first|(go_at_call 58;(with_reducible refine (aX.calls kj1 a0_0 a0_1 _ _ l0_2 t4 _ ?_ ?_ A4.out).mono ?_);exact bn;exact HC0_2.out;rintro e w3 ⟨v4,rfl,ho0,hb⟩;have HO2:=A0_ (Kd.R_lower (Kd.R_new' ho0 (Kd.R_lt bR)) (bz_ ab));replace HO1:=A0_ (Kd.R_elder' bR (Kd.R_base ho0) hb);replace BK1:=k1_ BK1 hb;replace HB:=hb_ hb ab;(try clear hb ho0)));try go_wp2_with (first|(go_at_call 58;(with_reducible refine (aX.calls kj1 a0_0 a0_1 _ _ l0_2 t4 _ ?_ ?_ A4.out).mono ?_);exact bn;exact HC0_2.out;rintro e w3 ⟨v4,rfl,ho0,hb⟩;have HO2:=A0_ (Kd.R_lower (Kd.R_new' ho0 (Kd.R_lt bR)) (bz_ ab));replace HO1:=A0_ (Kd.R_elder' bR (Kd.R_base ho0) hb);replace BK1:=k1_ BK1 hb;replace HB:=hb_ hb ab;(try clear hb ho0))))
  go_meet
  exact ⟨_,(t4),H',⟨ki⟩,⟨qO⟩,⟨u1_ BK1⟩,⟨ab⟩⟩
 clear HC14
 try clear c1
 (try clear hcz1)
 obtain ⟨kq,x7_13,HA,HJ2,HO_1,BK1,HB⟩:=hcut
 cases kq with|zero=>exact absurd HA.out (by simp [af.j1])|succ kj2=>?_
 have H:=HA.out;clear HA;simp only [af.j1] at H;have H':=A0_ H;clear H
 go_wp2
 repeat (go_quiet (fail);try go_wp2)
 go_loopg [8,9,10] kj2 (fun kq v4 v5 v6 w'=>∃ (x8_3:Int) (x9_3:Int) (x10_3:Int),v4=.int .i64 x8_3∧v5=.int .i64 x9_3∧v6=.int .i64 x10_3∧Aside0 (af.l0 kq a1 x7_13 x8_3 x9_3 x10_3 a0_0 a0_1 l0_2=some (r1,r2,r3))∧Aside0 (kq≤kj2)∧Aside0 (Kd.R k72 72 w' w.heap.size (fun _=>True) u7 x7_13)∧Aside0 (w'.heap[gb1]?=some (.cells #[.int .i64 a0_0,.bool a0_1,(.slice A0_2 l0_2.length c0_2)] 26 (0,0)))∧Aside0 (Below w.heap.size w w'))
 case atStart=>exact ⟨(0),(0),(0),aC,aC,aC,H',⟨Nat.le_refl _⟩,⟨aD⟩,⟨u1_ BK1⟩,⟨ab⟩⟩
 clear H'
 try clear c1
 (try clear hcz1)
 obtain ⟨x8_3,x9_3,x10_3,rfl,rfl,rfl,HA,HK1,HO_1,BK1,HB⟩:=hrel
 cases gk with|zero=>exact absurd HA.out (by simp [af.l0])|succ k3=>?_
 have H:=HA.out;clear HA;simp only [af.l0] at H
 by_cases c2:x10_3<(x7_13.length:Int)
 case neg =>
  rw [if_neg c2] at H;have c2b0:decide (x10_3<(x7_13.length:Int))=false:=decide_eq_false c2;clear c2;simp only [sj_,pj_] at H;obtain ⟨rfl,rfl,rfl⟩:=H;obtain ⟨Ao1,co1,eo1⟩:=Kd.R_slice HO_1.out;subst eo1
  go_wp2
  repeat (go_quiet (fail);try go_wp2)
  go_ret3
  exact ⟨bc,ab⟩
 rw [if_pos c2] at H;have c2b0:decide (x10_3<(x7_13.length:Int))=true:=dt_ c2;clear c2;have HC22:=A0_ H;clear H;obtain ⟨Ao1,co1,eo1⟩:=Kd.R_slice HO_1.out;subst eo1
 go_upto_region 9 with (fail)
 repeat (go_quiet (fail);go_upto_region 9 with (fail))
 go_cut [11,12] (fun v7 v8 wc=>∃ (kq:Nat) (x11_21:Int) (x12_21:Bool),v7=.int .i64 x11_21∧v8=.bool x12_21∧Aside0 (af.j3 kq a1 x7_13 x8_3 x9_3 x10_3 x11_21 x12_21 a0_0 a0_1 l0_2=some (r1,r2,r3))∧Aside0 (kq≤k3)∧Aside0 (Kd.R k72 72 wc w.heap.size (fun _=>True) (.slice Ao1 x7_13.length co1) x7_13)∧Aside0 (wc.heap[gb1]?=some (.cells #[.int .i64 a0_0,.bool a0_1,(.slice A0_2 l0_2.length c0_2)] 26 (0,0)))∧Aside0 (Below w.heap.size w wc))
 case first =>
  have H:=HC22.out;clear HC22;obtain ⟨c3b0,H⟩:=i1_ H
  (first|rw [c3b0]|(simp only [cH,dC];rw [c3b0])|skip)
  by_cases c4:a0_1=true
  case neg =>
   obtain rfl:=bf_.mpr c4;rw [if_neg ft_] at H;have H':=A0_ H;clear H;have p1:0≤(x10_3:Int):=od_ aE;have q1:x10_3<(x7_13.length:Int):=od_ aE;obtain ⟨ad1,e1,hx1_0,hx1_1⟩:=gT (rr_ HO_1.out).2.2 x10_3 p1 q1;cases e1;replace p1:=eq_true p1;replace q1:=eq_true q1;have hcz2:=c3_ BK1
   go_wp2
   repeat (go_quiet (fail);try go_wp2)
   go_meet
   exact ⟨_,((ci x7_13 x10_3).f1),(false),aC,aC,H',⟨by have:=HJ1.out;have:=HJ2.out;have:=HK1.out;first|omega|exact Nat.le_refl _⟩,⟨aD⟩,⟨u1_ BK1⟩,⟨ab⟩⟩
  subst c4;rw [if_pos rfl] at H;have H':=A0_ H;clear H;have p1:0≤(x10_3:Int):=od_ aE;have q1:x10_3<(x7_13.length:Int):=od_ aE;obtain ⟨ad1,e1,hx1_0,hx1_1⟩:=gT (rr_ HO_1.out).2.2 x10_3 p1 q1;cases e1;replace p1:=eq_true p1;replace q1:=eq_true q1;have hcz2:=c3_ BK1;have p2:0≤(x10_3:Int):=od_ aE;have q2:x10_3<(x7_13.length:Int):=od_ aE;obtain ⟨ad2,e2,hx2_0,hx2_1⟩:=gT (rr_ HO_1.out).2.2 x10_3 p2 q2;obtain rfl:ad1=ad2:=e5;replace p2:=eq_true p2;replace q2:=eq_true q2
  go_wp2
  repeat (go_quiet (fail);try go_wp2)
  go_meet
  exact ⟨_,((ci x7_13 x10_3).f1),((((ci x7_13 x10_3).f1) == a0_0)),aC,aC,H',⟨by have:=HJ1.out;have:=HJ2.out;have:=HK1.out;first|omega|exact Nat.le_refl _⟩,⟨aD⟩,⟨u1_ BK1⟩,⟨ab⟩⟩
 clear HC22
 try clear c1
 try clear c2
 try clear c2b0
 (try clear hcz1)
 obtain ⟨kq,x11_21,x12_21,rfl,rfl,HA,HJ3,HO_1,BK1,HB⟩:=hcut
 cases kq with|zero=>exact absurd HA.out (by simp [af.j3])|succ kj3=>?_
 have H:=HA.out;clear HA;simp only [af.j3] at H
 by_cases c3:a1=2
 ·rw [if_pos c3] at H
  obtain ⟨c3b0,c3b1⟩:=et_ c3;clear c3
  by_cases c4:x12_21=true
  case neg =>
   obtain rfl:=bf_.mpr c4;rw [if_neg ft_] at H;have H':=A0_ H;clear H
   go_wp2
   repeat (go_quiet (fail);try go_wp2)
   go_roundg kj3
   case measure=>have:=HJ1.out;have:=HJ2.out;have:=HK1.out;have:=HJ3.out;omega
   exact ⟨(wrap64 (x8_3+(wrap64 (Int.tdiv (wrap64 (x11_21+1)) 3)))),(wrap64 (x9_3+(wrap64 (Int.tdiv x11_21 2)))),(wrap64 (x10_3+1)),aC,aC,aC,H',⟨nH⟩,⟨aD⟩,⟨u1_ BK1⟩,⟨ab⟩⟩
  subst c4;rw [if_pos rfl] at H;have H':=A0_ H;clear H
  go_wp2
  repeat (go_quiet (fail);try go_wp2)
  go_roundg kj3
  case measure=>have:=HJ1.out;have:=HJ2.out;have:=HK1.out;have:=HJ3.out;omega
  exact ⟨(wrap64 ((wrap64 ((wrap64 (x8_3+(wrap64 (Int.tdiv (wrap64 (x11_21+1)) 3))))+(wrap64 (Int.tdiv (wrap64 (x11_21+2)) 3)))) - (wrap64 (Int.tdiv (wrap64 (x11_21+1)) 3)))),(wrap64 (x9_3+(wrap64 (Int.tdiv x11_21 2)))),(wrap64 (x10_3+1)),aC,aC,aC,H',⟨nH⟩,⟨aD⟩,⟨u1_ BK1⟩,⟨ab⟩⟩
 rw [if_neg c3] at H;obtain ⟨c3b0,c3b1⟩:=ef_ c3
 by_cases c4:x12_21=true
 case neg =>
  obtain rfl:=bf_.mpr c4;rw [if_neg ft_] at H;have H':=A0_ H;clear H
  go_wp2
  repeat (go_quiet (fail);try go_wp2)
  go_roundg kj3
  case measure=>have:=HJ1.out;have:=HJ2.out;have:=HK1.out;have:=HJ3.out;omega
  exact ⟨(wrap64 (x8_3+(wrap64 (Int.tdiv (wrap64 (x11_21+2)) 3)))),(wrap64 (x9_3+(wrap64 (Int.tdiv (wrap64 (x11_21+1)) 2)))),(wrap64 (x10_3+1)),aC,aC,aC,H',⟨nH⟩,⟨aD⟩,⟨u1_ BK1⟩,⟨ab⟩⟩
 subst c4;rw [if_pos rfl] at H;have H':=A0_ H;clear H
 go_wp2
 repeat (go_quiet (fail);try go_wp2)
 go_roundg kj3
 case measure=>have:=HJ1.out;have:=HJ2.out;have:=HK1.out;have:=HJ3.out;omega
 exact ⟨(wrap64 (x8_3+(wrap64 (Int.tdiv (wrap64 (x11_21+2)) 3)))),(wrap64 ((wrap64 ((wrap64 (x9_3+(wrap64 (Int.tdiv (wrap64 (x11_21+1)) 2))))+(wrap64 (Int.tdiv x11_21 2)))) - (wrap64 (Int.tdiv (wrap64 (x11_21+1)) 2)))),(wrap64 (x10_3+1)),aC,aC,aC,H',⟨nH⟩,⟨aD⟩,⟨u1_ BK1⟩,⟨ab⟩⟩

def dE.f (s0_0:List Int) (s0_1:Int) (s0_2:Int) (a1_0:Int) (a1_1:Bool) (l1_2:List Int):Option (Int × Int × Int):=(aK.f s0_0 s0_1 s0_2 30).bind fun bt688=>(if bt688.1=true then ((bq.f s0_0 bt688.2.1 bt688.2.2 (([(-1),0,a1_0,4611686018427387904]:List Int))).bind fun bt694=>(some (bt694.1,bt694.2.1,bt694.2.2))) else ((dw.f a1_0 24).bind fun t697=>((cI.f t697 1).bind fun t698=>((bC.f s0_0 bt688.2.1 bt688.2.2 t698).bind fun bt699=>(some (bt699.1,bt699.2.1,bt699.2.2))))))
theorem dE.calls (g:Nat) (s0_0:List Int) (s0_1:Int) (s0_2:Int) (a1_0:Int) (a1_1:Bool) (A1_2:Option Addr) (c1_2:Nat) (l1_2:List Int) (r1:Int) (r2:Int) (r3:Int) (w0 w:World) (hI:al w0 w g s0_0 s0_1 s0_2) (hB:Below w0.heap.size w0 w) (hr1_2:Kd.C (Kd.int .i64) w A1_2 l1_2.length l1_2) (hc1_2:l1_2.length≤c1_2) (hf1_2:∀ ad,A1_2=some ad→0<l1_2.length→ad.block≠g) (H:dE.f s0_0 s0_1 s0_2 a1_0 a1_1 l1_2=some (r1,r2,r3)) :
  Calls Tryd.prog 61 #[.pointer (some ⟨g,0,none⟩),.agg #[.int .i64 a1_0,.bool a1_1,.slice A1_2 l1_2.length c1_2]] w fun e w'=>e=.returned (.int .i64 r1)∧al w0 w' g s0_0 r2 r3∧Below w0.heap.size w0 w'∧ah w w' g none:=by
 have hu26:=Tryd.underlying26;have HR1_2:=A0_ hr1_2;have HC1_2:=A0_ hc1_2;clear hr1_2 hc1_2;have HI0:=A0_ hI;have HK:=A0_ (ah.refl w g none);have HL:=A0_ hB.size;clear hI;have HW0:=A0_ hB.size;have HB:=A0_ hB;clear hB;unfold dE.f at H;obtain ⟨⟨t3,t4,t5⟩,A3,H⟩:=o1_ H
 by_cases c2:t3=true
 case neg =>
  obtain rfl:=bf_.mpr c2;rw [if_neg ft_] at H;obtain ⟨t1,A5,H⟩:=o1_ H;obtain ⟨t2,A7,H⟩:=o1_ H;obtain ⟨⟨t6,t7,t8⟩,A9,H⟩:=o1_ H;replace H:(some (t6,t7,t8))=some (r1,r2,r3):=H;simp only [sj_,pj_] at H;obtain ⟨rfl,rfl,rfl⟩:=H;go_enter Tryd.func61,Tryd.ntmps61
  go_wp2_with (first|((with_reducible refine gd_ (N:=3) rfl ?_);refine bx_ 3 #[.int .i64 a1_0,.bool a1_1,.slice A1_2 l1_2.length c1_2] 26 ?_;intro gb1 hg w1 BK1 hb;replace HB:=hb_ hb dq;have GW1:=A0_ ((fG:w.heap.size≤gb1));have GE1:=A0_ ((Nat.le_trans HW0.out (fG:w.heap.size≤gb1):w0.heap.size≤gb1));replace HK:=A0_ (ah.trans df (ah.of_below hb g none) (.inl rfl));have NB0_1:=A0_ ((jD:g≠gb1));have NB1_0:=A0_ ((jE:gb1≠g));replace HI0:=A0_ (al.below dv hb);clear hb hg)|((with_reducible refine gc_ (f:=59) rfl ?_);refine gl_ 6 Tryd.func59 #[.pointer (some ⟨g,0,none⟩),.int .i64 30] ?_;(with_reducible refine (aK.calls g s0_0 s0_1 s0_2 30 false t4 t5 w0 _ ?_ ?_ A3.out).mono ?_);exact dg;exact dG;rintro e w2 ⟨rfl,hi,hb,hk⟩;refine ⟨_,rfl,?_⟩;replace BK1:=da BK1 hk NB1_0;replace HK:=A0_ (ah.trans cU hk (.inl rfl));replace HB:=A0_ (hb);replace HI0:=A0_ (hi);(try clear hb hk hi);obtain ⟨hnb1,hnc1⟩:=n2_ NB1_0;have hcz1:=c3_ BK1)|((with_reducible refine gc_ (f:=92) rfl ?_);refine gl_ 15 Tryd.func92 #[.int .i64 a1_0,.int .i64 24] ?_;(with_reducible refine (dw.calls a1_0 24 t1 _ A5.out).mono ?_);rintro e w' ⟨rfl,⟨nd,rfl⟩⟩;refine ⟨_,rfl,?_⟩)|((with_reducible refine gc_ (f:=91) rfl ?_);refine gl_ 16 Tryd.func91 #[.int .i64 t1,.int .i64 1] ?_;(with_reducible refine (cI.calls t1 1 t2 _ A7.out).mono ?_);rintro e w' ⟨rfl,⟨nd,rfl⟩⟩;refine ⟨_,rfl,?_⟩)|((with_reducible refine gc_ (f:=60) rfl ?_);refine gl_ 17 Tryd.func60 #[.pointer (some ⟨g,0,none⟩),.int .i64 t2] ?_;(with_reducible refine (bC.calls g s0_0 t4 t5 t2 t6 t7 t8 w0 _ ?_ ?_ A9.out).mono ?_);exact dg;exact dG;rintro e w3 ⟨rfl,hi,hb,hk⟩;refine ⟨_,rfl,?_⟩;replace BK1:=da BK1 hk NB1_0;replace HK:=A0_ (ah.trans cU hk (.inl rfl));replace HB:=A0_ (hb);replace HI0:=A0_ (hi);(try clear hb hk hi)))
  go_ret
  exact ⟨bc,dg,dG,cU⟩
 subst c2;rw [if_pos rfl] at H;obtain ⟨y1,hy1⟩:∃ y_:List Int,y_=(([(-1),0,a1_0,4611686018427387904]:List Int)):=⟨_,rfl⟩;replace H:((bq.f s0_0 t4 t5 y1).bind fun bt2=>(some (bt2.1,bt2.2.1,bt2.2.2)))=some (r1,r2,r3):=dp;have Ny1:=A0_ hy1;clear hy1;obtain ⟨⟨t6,t7,t8⟩,A5,H⟩:=o1_ H;replace H:(some (t6,t7,t8))=some (r1,r2,r3):=H;simp only [sj_,pj_] at H;obtain ⟨rfl,rfl,rfl⟩:=H;go_enter Tryd.func61,Tryd.ntmps61
 go_wp2_with (first|((with_reducible refine gd_ (N:=3) rfl ?_);refine bx_ 3 #[.int .i64 a1_0,.bool a1_1,.slice A1_2 l1_2.length c1_2] 26 ?_;intro gb1 hg w1 BK1 hb;replace HB:=hb_ hb dq;have GW1:=A0_ ((fG:w.heap.size≤gb1));have GE1:=A0_ ((Nat.le_trans HW0.out (fG:w.heap.size≤gb1):w0.heap.size≤gb1));replace HK:=A0_ (ah.trans df (ah.of_below hb g none) (.inl rfl));have NB0_1:=A0_ ((jD:g≠gb1));have NB1_0:=A0_ ((jE:gb1≠g));replace HI0:=A0_ (al.below dv hb);clear hb hg)|((with_reducible refine gc_ (f:=59) rfl ?_);refine gl_ 6 Tryd.func59 #[.pointer (some ⟨g,0,none⟩),.int .i64 30] ?_;(with_reducible refine (aK.calls g s0_0 s0_1 s0_2 30 true t4 t5 w0 _ ?_ ?_ A3.out).mono ?_);exact dg;exact dG;rintro e w2 ⟨rfl,hi,hb,hk⟩;refine ⟨_,rfl,?_⟩;replace BK1:=da BK1 hk NB1_0;replace HK:=A0_ (ah.trans cU hk (.inl rfl));replace HB:=A0_ (hb);replace HI0:=A0_ (hi);(try clear hb hk hi);obtain ⟨hnb1,hnc1⟩:=n2_ NB1_0;have hcz1:=c3_ BK1)|((with_reducible refine gd_ (N:=10) rfl ?_);refine Kd.R_lit (Kd.int .i64) _ 3 ?hg (N:=10) ?hd (xs:=([(-1),0,a1_0,4611686018427387904]:List Int)) (inner:=[.int .i64 (-1),.int .i64 0,.int .i64 a1_0,.int .i64 4611686018427387904]) (ok:=fun _=>True) (okp:=fun _=>True) ?hr ?hp (fun _ hk=>hk) trivial (Below.refl _ _) (Nat.le_refl _) bx ?_;(case hd=>rfl);(case hg=>rfl);(case hr=>go_simp;first|done|rfl);(case hp=>exact (bu.one (show Kd.M (Kd.int .i64) _ _ _ (-1) [.int .i64 (-1)] from rfl) (bu.one (show Kd.M (Kd.int .i64) _ _ _ 0 [.int .i64 0] from rfl) (bu.one (show Kd.M (Kd.int .i64) _ _ _ a1_0 [.int .i64 a1_0] from rfl) (bu.one (show Kd.M (Kd.int .i64) _ _ _ 4611686018427387904 [.int .i64 4611686018427387904] from rfl) (bu.none _ _))))));intro v1 w3 ho11 hb hg_ hnew_;clear hg_ hnew_;(first|rw [← Ny1.out] at ho11|(simp only [Int.reduceToNat] at ho11;rw [← Ny1.out] at ho11));have HO1:=A0_ (Kd.R_lower ho11 (cr (w:=w) (g:=g) (row:=none) cU));replace BK1:=k1_ BK1 hb;replace HK:=A0_ (ah.trans cU (ah.of_below hb g none) (.inl rfl));replace HB:=hb_ hb dG;replace HI0:=A0_ (al.below dg hb);clear hb ho11;obtain ⟨Ao1,co1,eo1⟩:=Kd.R_slice HO1.out;subst eo1)|((with_reducible refine gc_ (f:=90) rfl ?_);refine gl_ 11 Tryd.func90 #[.pointer (some ⟨g,0,none⟩),.slice Ao1 y1.length co1] ?_;(with_reducible refine (bq.calls g s0_0 t4 t5 _ _ y1 t6 t7 t8 w0 _ ?_ ?_ ?_ ?_ ?_ A5.out).mono ?_);exact dg;exact dG;exact fE;exact (rr_ HO1.out).2.1;exact ff (al.own_ne HI0.out HO1.out ao);rintro e w4 ⟨rfl,hi,hb,hk⟩;refine ⟨_,rfl,?_⟩;replace BK1:=da BK1 hk NB1_0;replace HO1:=A0_ (Kd.R_mono (Kd.R_keep (al.apart (show al w0 _ g s0_0 t4 t5 from dg) bR ao) hk (fun _ h=>h.2)) (fun _ h=>h.1));replace HK:=A0_ (ah.trans cU hk (.inl rfl));replace HB:=A0_ (hb);replace HI0:=A0_ (hi);(try clear hb hk hi)))
 go_ret
 exact ⟨bc,dg,dG,cU⟩

def ap.j0:Nat→Int→List Int→Bool→List Int→Int→Int→Int→Bool→List Int→Option (Int × Bool × List Int × Int × Int × Int × Int)
 | 0,_,_,_,_,_,_,_,_,_=>none
 | k+1,x6,x8,x34,xd,xe,xf,xa,xb,xc=>if x34=true then ((bC.f xd xe xf (x8.length:Int)).bind fun bt717=>(if 0≤bt717.1 then (if bt717.1<(x8.length:Int) then (some (xa,xb,xc,x6,rd x8 bt717.1,bt717.2.1,bt717.2.2)) else (none)) else (none))) else ((dE.f xd xe xf xa xb xc).bind fun bt721=>(some (xa,xb,xc,x6,bt721.1,bt721.2.1,bt721.2.2)))
def ap.f (k:Nat) (l0:List Int) (s1_0:List Int) (s1_1:Int) (s1_2:Int):Option (Int × Bool × List Int × Int × Int × Int × Int):=(bM.f k l0).bind fun bt703=>((bP.f k bt703.1 bt703.2.1 bt703.2.2.1 bt703.2.2.2).bind fun bt710=>(if bt710.2=true then (if (bt710.1.length:Int) > 0 then ((aK.f s1_0 s1_1 s1_2 6).bind fun bt714=>(ap.j0 k bt703.2.2.2 bt710.1 (!bt714.1) s1_0 bt714.2.1 bt714.2.2 bt703.1 bt703.2.1 bt703.2.2.1)) else (ap.j0 k bt703.2.2.2 bt710.1 false s1_0 s1_1 s1_2 bt703.1 bt703.2.1 bt703.2.2.1)) else (ap.j0 k bt703.2.2.2 bt710.1 false s1_0 s1_1 s1_2 bt703.1 bt703.2.1 bt703.2.2.1)))
theorem ap.mono_l:∀ k,(∀ y0 y1 y2 y3 y4 y5 y6 y7 y8,LeO (ap.j0 k y0 y1 y2 y3 y4 y5 y6 y7 y8) (ap.j0 (k+1) y0 y1 y2 y3 y4 y5 y6 y7 y8))
 | 0=>fun _ _ _ _ _ _ _ _ _ r h=>by simp [ap.j0] at h
 | k+1=>by
  have ih0:=ap.mono_l k
  ·intro y0 y1 y2 y3 y4 y5 y6 y7 y8
   unfold ap.j0
   repeat' with_reducible first|exact ih0 ..|exact bM.mono ..|exact bP.mono ..|exact LeO.refl ..|exact LeO.none ..|refine LeO.ite ?_ ?_|refine LeO.bind ?_ (fun _=>?_)
theorem ap.mono:∀ a0 a1 a2 a3 k,LeO (ap.f k a0 a1 a2 a3) (ap.f (k+1) a0 a1 a2 a3):=by
 intro a0 a1 a2 a3 k;have ih0:=ap.mono_l k;unfold ap.f
 repeat' with_reducible first|exact ih0 ..|exact bM.mono ..|exact bP.mono ..|exact LeO.refl ..|exact LeO.none ..|refine LeO.ite ?_ ?_|refine LeO.bind ?_ (fun _=>?_)
def ap.T5:Bool × List (List Nat × List Nat):=(true,[([],[]),([],[]),([],[]),([],[]),([],[]),([4],[4]),([3,5],[3,5]),([2,6],[2,6]),([7],[7]),([0,6,0],[0]),([1,9,0,1,9],[1]),([8,10,0,1,2,3,4,5,6,7,8,9,10],[8])])
def ap.B5:List Nat:=[0,0,0,0,0,16,56,124,252,121,635,2047]
theorem ap.tab5:dx .any (dX Tryd.f27 5)=ap.T5:=by kernel_rfl
theorem ap.bits5:cp ap.T5.2 ap.B5=true:=by kernel_rfl
def ap.T6:Bool × List (List Nat × List Nat):=(true,[([],[]),([],[]),([],[]),([],[]),([2,3],[2,3]),([0,4,0],[0]),([1,5,0,1,5],[1]),([4,6,0,1,2,3,4,5,6],[4])])
def ap.B6:List Nat:=[0,0,0,0,12,29,63,127]
theorem ap.tab6:dx .any (dX Tryd.f27 6)=ap.T6:=by kernel_rfl
theorem ap.bits6:cp ap.T6.2 ap.B6=true:=by kernel_rfl
def cC.f (k:Nat) (l0:List Int):Option (Int × Bool × List Int × Int × Int):=(ap.f k l0 l0 0 0).bind fun b=>some (b.1,b.2.1,b.2.2.1,b.2.2.2.1,b.2.2.2.2.1)
theorem cC.mono:∀ a0 k,LeO (cC.f k a0) (cC.f (k+1) a0):=by
 intro a0 k;unfold cC.f
 exact LeO.bind (ap.mono _ _ _ _ _) (fun _=>LeO.refl _)
theorem cC.calls (k:Nat) (A0:Option Addr) (c0:Nat) (l0:List Int) (r1:Int) (r2:Bool) (r3:List Int) (r4:Int) (r5:Int) (w:World) (hr0:Kd.C (Kd.int .u8) w A0 l0.length l0) (hc0:l0.length≤c0) (h:cC.f k l0=some (r1,r2,r3,r4,r5)) :
  Calls Tryd.prog 27 #[.slice A0 l0.length c0] w fun e w'=>∃ v2_:Value,e=.returned (.tuple #[.agg #[.int .i64 r1,.bool r2,v2_],.int .i64 r4,.int .i64 r5])∧Kd.R (Kd.int .i64) 3 w' w.heap.size (fun _=>True) v2_ r3∧Below w.heap.size w w':=by
 have hu26:=Tryd.underlying26;have hu77:=Tryd.underlying77;have HR0:=A0_ hr0;have HC0:=A0_ hc0;clear hr0 hc0;have HB:=A0_ (Below.refl w.heap.size w);obtain ⟨⟨r1_,r2_,r3_,r4_,r5_,r6,r7⟩,h,h_⟩:=ob_.mp (show (ap.f k l0 l0 0 0).bind (fun b=>some (b.1,b.2.1,b.2.2.1,b.2.2.2.1,b.2.2.2.2.1))=some (r1,r2,r3,r4,r5) from h)
 replace h:ap.f k l0 l0 0 0=some (r1,r2,r3,r4,r5,r6,r7):=by rw [h];cases h_;rfl
 clear h_;have H:((bM.f k l0).bind fun bt1=>((bP.f k bt1.1 bt1.2.1 bt1.2.2.1 bt1.2.2.2).bind fun bt2=>(if bt2.2=true then (if (bt2.1.length:Int) > 0 then ((aK.f l0 0 0 6).bind fun bt3=>(ap.j0 k bt1.2.2.2 bt2.1 (!bt3.1) l0 bt3.2.1 bt3.2.2 bt1.1 bt1.2.1 bt1.2.2.1)) else (ap.j0 k bt1.2.2.2 bt2.1 false l0 0 0 bt1.1 bt1.2.1 bt1.2.2.1)) else (ap.j0 k bt1.2.2.2 bt2.1 false l0 0 0 bt1.1 bt1.2.1 bt1.2.2.1))))=some (r1,r2,r3,r4,r5,r6,r7):=h;clear h;obtain ⟨⟨t1,t2,t3,t4⟩,A2,H⟩:=o1_ H;obtain ⟨⟨t5,t6⟩,A4,H⟩:=o1_ H;have HC5:=A0_ H;clear H;go_enter Tryd.func27,Tryd.ntmps27
 go_upto_region 4 with (first|((with_reducible refine gd_ (N:=2) rfl ?_);(try (refine cL (by rfl) ?_;dsimp only));refine bx_ 2 #[.int .i64 0,.bool false,.slice none 0 0] 26 ?_;intro gb1 hg w1 hbox hb;have n2_:=A0_ (bt_ am hb);have n3_:=hbox;have n4_:=A0_ ((lp:w.heap.size≤gb1));clear HB;have HB:=n2_;have BK1:=n3_;have GW1:=n4_;have GE1:=n4_;clear n2_ n3_ n4_ hb hbox hg)|((with_reducible refine gc_ (f:=49) rfl ?_);refine gl_ 12 Tryd.func49 #[.slice A0 l0.length c0] ?_;(with_reducible refine (bM.calls k _ _ l0 t1 t2 t3 t4 _ ?_ ?_ A2.out).mono ?_);exact mm;exact HC0.out;rintro e w2 ⟨v1,rfl,ho0,hb⟩;refine ⟨_,rfl,?_⟩;have HO1:=A0_ (Kd.R_lower ho0 (bz_ ab));replace BK1:=k1_ BK1 hb;replace HB:=hb_ hb ab;(try clear hb ho0))|((with_reducible refine gd_ (N:=5) rfl ?_);(try (refine cL (by rfl) ?_;dsimp only));refine bx_ 5 #[.int .i64 0,.bool false,.slice none 0 0] 26 ?_;intro gb2 hg w3 hbox hb;have n2_:=A0_ (bt_ ab hb);have n3_:=hbox;have n4_:=A0_ ((qu:w.heap.size≤gb2));have m702_:=A0_ (kb_ (g:=gb1) (o:=.cells #[.int .i64 0,.bool false,.slice none 0 0] 26 (0,0)) (u1_ BK1) hb);have NB2_1:=ng_ hg BK1;have NB1_2:=A0_ (Ne.symm NB2_1.out);have n0_:=A0_ (Kd.R_below bR hb);clear HB BK1 HO1;have HB:=n2_;have BK2:=n3_;have GW2:=n4_;have GE2:=n4_;have BK1:=m702_;have HO1:=n0_;clear m702_ n0_ n2_ n3_ n4_ hb hbox hg;obtain ⟨hnb1,hnc1⟩:=n2_ NB2_1;have hcz1:=z3_ BK2;obtain ⟨Ao1,co1,eo1⟩:=Kd.R_slice HO1.out;subst eo1)|((with_reducible refine gd_ (N:=17) rfl ?_);(try (refine cL (by rfl) ?_;dsimp only));refine be_ ?hg (N:=17) ?hd (cs:=#[.slice A0 l0.length c0,.int .i64 0,.int .u64 0]) (t:=77) ?hr ?_;(case hd=>rfl);(case hg=>rfl);(case hr=>go_simp;first|done|rfl);intro g hg wB hbox hb;have n0_:=A0_ (show al w wB g l0 0 0 from ⟨A0,c0,hbox,(by rw [hg];exact (bz_ aY)),HR0.out⟩);have n1_:=A0_ (ah.refl wB g none);have n2_:=A0_ (bt_ aY hb);have HW0:=A0_ (Below.size n2_.out);have n3_:=A0_ (Kd.R_below mr hb);have n4_:=A0_ (kb_ (g:=gb1) (o:=.cells #[.int .i64 0,.bool false,.slice none 0 0] 26 (0,0)) (u1_ BK1) hb);have n5_:=A0_ (kb_ (g:=gb2) (o:=.cells #[.int .i64 t1,.bool t2,.slice Ao1 t3.length co1] 26 (0,0)) (u1_ BK2) hb);have NB3_1:=A0_ ((oT:g≠gb1));have NB1_3:=A0_ (Ne.symm NB3_1.out);have NB3_2:=A0_ ((by rw [hg];exact Nat.ne_of_gt (fU (g:=gb2) (o:=.cells #[.int .i64 t1,.bool t2,.slice Ao1 t3.length co1] 26 (0,0)) (u1_ BK2)):g≠gb2));have NB2_3:=A0_ (Ne.symm NB3_2.out);clear HB BK1 BK2 HO1;have HI1:=n0_;have HK:=n1_;have HB:=n2_;have HO1:=n3_;have BK1:=n4_;have BK2:=n5_;clear n0_ n1_ n2_ n3_ n4_ n5_ hb hbox hg;have hcy_0:=y_ BK2 0;have hcy_1:=y_ BK2 1;have hcy_2:=y_ BK2 2;have hfy_0:=kf_ BK2.out 0;have hfy_1:=kf_ BK2.out 1;have hfy_2:=kf_ BK2.out 2;obtain ⟨hnb2,hnc2⟩:=n2_ NB2_3)|((with_reducible refine gc_ (f:=22) rfl ?_);refine gl_ 21 Tryd.func22 #[.agg #[.int .i64 t1,.bool t2,.slice Ao1 t3.length co1],.int .i64 t4] ?_;(with_reducible refine (bP.calls k t1 t2 _ _ t3 t4 t5 t6 _ ?_ ?_ A4.out).mono ?_);(refine (rr_ (e:=3) (base:=w.heap.size) (ok:=fun k_=>True) (n:=t3.length) (c:=co1) ?_).2.2;exact bR);exact (rr_ HO1.out).2.1;rintro e w4 ⟨v3,rfl,ho0,hb⟩;refine ⟨_,rfl,?_⟩;have HO2:=A0_ (Kd.R_lower (Kd.R_new' ho0 (Kd.R_lt bR)) (bz_ aY));replace HO1:=A0_ (Kd.R_elder' bR (Kd.R_base ho0) hb);replace BK1:=k1_ BK1 hb;replace BK2:=k1_ BK2 hb;replace HK:=A0_ (ah.trans bV (ah.of_below hb g none) (.inl rfl));replace HB:=hb_ hb iZ;replace HI1:=A0_ (al.below (show al w wB g l0 0 0 from gw) hb);(try clear hb ho0)))
 (try simp only [Act.put,sa_,sz_,ss_])
 go_cut [34] (fun v4 wc=>∃ (kq:Nat) (x34_4:Bool) (xa:Int) (xb:Int),v4=.bool x34_4∧Aside0 (ap.j0 kq t4 t5 x34_4 l0 xa xb t1 t2 t3=some (r1,r2,r3,r4,r5,r6,r7))∧Aside0 (kq≤k)∧Aside0 (Kd.R (Kd.int .i64) 3 wc w.heap.size (fun k_=>no_ (.slice Ao1 t3.length co1) k_) v3 t5)∧Aside0 (Kd.R (Kd.int .i64) 3 wc w.heap.size (fun k_=>no_ v3 k_) (.slice Ao1 t3.length co1) t3)∧Aside0 (wc.heap[gb1]?=some (.cells #[.int .i64 0,.bool false,(.slice none 0 0)] 26 (0,0)))∧Aside0 (wc.heap[gb2]?=some (.cells #[.int .i64 t1,.bool t2,(.slice Ao1 t3.length co1)] 26 (0,0)))∧Aside0 (al w wc g l0 xa xb)∧Aside0 (ah wB wc g none)∧Aside0 (Below w.heap.size w wc))
 case first =>
  have H:=HC5.out;clear HC5
  by_cases c1:t6=true
  case neg =>
   obtain rfl:=bf_.mpr c1;rw [if_neg ft_] at H;have H':=A0_ H;clear H
   go_wp2
   go_meet
   exact ⟨_,(false),(0),(0),aC,H',⟨eH⟩,⟨fT⟩,⟨gQ⟩,⟨u1_ BK1⟩,⟨u1_ BK2⟩,⟨gw⟩,⟨bV⟩,⟨iZ⟩⟩
  subst c1;rw [if_pos rfl] at H
  by_cases c2:(t5.length:Int) > 0
  case neg =>
   rw [if_neg c2] at H;have c2b0:decide (0<(t5.length:Int))=false:=decide_eq_false c2;have c2b1:decide (0<t5.length)=false:=decide_eq_false bL;clear c2
   (first|rw [c2b0]|(simp only [cH,dC];rw [c2b0])|skip)
   have H':=A0_ H;clear H;obtain ⟨Ao2,co2,eo2⟩:=Kd.R_slice HO2.out;subst eo2
   go_wp2
   go_meet
   exact ⟨_,(false),(0),(0),aC,H',⟨eH⟩,⟨fT⟩,⟨gQ⟩,⟨u1_ BK1⟩,⟨u1_ BK2⟩,⟨gw⟩,⟨bV⟩,⟨iZ⟩⟩
  rw [if_pos c2] at H;have c2b0:decide (0<(t5.length:Int))=true:=dt_ c2;have c2b1:decide (0<t5.length)=true:=dt_ bL;clear c2
  (first|rw [c2b0]|(simp only [cH,dC];rw [c2b0])|skip)
  obtain ⟨⟨t7,t8,t9⟩,A6,H⟩:=o1_ H;have H':=A0_ H;clear H;obtain ⟨Ao2,co2,eo2⟩:=Kd.R_slice HO2.out;subst eo2
  go_wp2_with (first|(go_at_call 59;(with_reducible refine (aK.calls g l0 0 0 6 t7 t8 t9 w _ ?_ ?_ A6.out).mono ?_);exact gw;exact iZ;rintro e w5 ⟨rfl,hi,hb,hk⟩;replace BK1:=da BK1 hk NB1_3;replace HO1:=A0_ (Kd.R_mono (Kd.R_keep (al.apart (show al w _ g l0 0 0 from gw) bR ao) hk (fun _ h=>h.2)) (fun _ h=>h.1));replace BK2:=da BK2 hk NB2_3;replace HO2:=A0_ (Kd.R_mono (Kd.R_keep (al.apart (show al w _ g l0 0 0 from gw) cQ ao) hk (fun _ h=>h.2)) (fun _ h=>h.1));replace HK:=A0_ (ah.trans bV hk (.inl rfl));replace HB:=A0_ (hb);replace HI1:=A0_ (hi);(try clear hb hk hi)))
  go_meet
  exact ⟨_,(!t7),(t8),(t9),aC,H',⟨eH⟩,⟨fT⟩,⟨gQ⟩,⟨u1_ BK1⟩,⟨u1_ BK2⟩,⟨gw⟩,⟨bV⟩,⟨iZ⟩⟩
 clear HC5
 (try clear hcz1);(try clear hfz1)
 obtain ⟨kq,x34_4,xa,xb,rfl,HA,HJ1,HO_1,HO_2,BK1,BK2,HI1,HK,HB⟩:=hcut
 cases kq with|zero=>exact absurd HA.out (by simp [ap.j0])|succ kj1=>?_
 have H:=HA.out;clear HA;simp only [ap.j0] at H
 by_cases c1:x34_4=true
 case neg =>
  obtain rfl:=bf_.mpr c1;rw [if_neg ft_] at H;obtain ⟨⟨t7,t8,t9⟩,A1,H⟩:=o1_ H;replace H:(some (t1,t2,t3,t4,t7,t8,t9))=some (r1,r2,r3,r4,r5,r6,r7):=H;simp only [sj_,pj_] at H;obtain ⟨rfl,rfl,rfl,rfl,rfl,rfl,rfl⟩:=H
  try go_wp2
  replace HO_1:=A0_ (rd_ HO_1.out);replace HO_2:=A0_ (rd_ HO_2.out);replace BK1:=A0_ (kd_ BK1.out);replace BK2:=A0_ (kd_ BK2.out);replace HI1:=A0_ (al.drew HI1.out);replace HK:=A0_ (dD HK.out);replace HB:=A0_ (bd_ HB.out)
  refine s3_ 8 [] BK2 ap.tab6 ap.bits6 (fun hHeld HT_ HW_=>?_)
  generalize wc.drew=w5 at HO_1 HO_2 BK1 BK2 HI1 HK HB hHeld ⊢
  refine pu_ 1 45 ?_
  refine pu_ 2 46 ?_
  refine tk_ 0 44 hHeld ?_
  refine tk_ 3 47 hHeld ?_
  refine on_ 4 (some 48) (fun K hK=>?_)
  refine gs_ Tryd.func61 #[.pointer (some ⟨g,0,none⟩),.agg #[.int .i64 t1,.bool t2,.slice Ao1 t3.length co1]] ?_
  with_reducible refine (dE.calls g l0 xa xb t1 t2 _ _ t3 t7 t8 t9 w _ ?_ ?_ ?_ ?_ ?_ A1.out).mono ?_
  exact gw
  exact iZ
  exact e7
  exact (rr_ HO_2.out).2.1
  exact ff (al.own_ne HI1.out HO_2.out ao)
  rintro e w6 ⟨rfl,hi,hb,hk⟩
  refine ⟨_,rfl,?_⟩
  replace HO_1:=A0_ (Kd.R_mono (Kd.R_keep (al.apart (show al w _ g l0 xa xb from gw) aD ao) hk (fun _ h=>h.2)) (fun _ h=>h.1));replace HO_2:=A0_ (Kd.R_mono (Kd.R_keep (al.apart (show al w _ g l0 xa xb from gw) bW ao) hk (fun _ h=>h.2)) (fun _ h=>h.1));replace BK1:=da BK1 hk NB1_3;replace BK2:=da BK2 hk NB2_3;replace HK:=A0_ (ah.trans bV hk (.inl rfl));replace HB:=A0_ (hb);replace HI1:=A0_ (hi)
  (try clear hb hk hi)
  refine hK.out _ _ (c3_ BK2) (fun hHeld=>?_)
  clear hK K
  refine nm_ 48 ?_
  refine on_ 5 none (fun K hK=>?_)
  have hs33:=y_ BK1 0;have hfs33:=kf_ BK1.out 0;obtain ⟨hns1_1,hms1_1⟩:=n2_ NB2_1;have hs34:=y_ BK1 1;have hfs34:=kf_ BK1.out 1;obtain ⟨hns2_1,hms2_1⟩:=n2_ NB2_1;have hs35:=y_ BK1 2;have hfs35:=kf_ BK1.out 2;obtain ⟨hns3_1,hms3_1⟩:=n2_ NB2_1
  refine fF (w1:=?_) (by rfl) rfl ?_ ?_
  rotate_left
  ·go_simp
   rfl
  refine hK.out _ _ ⟨((av (p:=⟨gb1,_,none⟩) NB2_1.out _).trans (((av (p:=⟨gb1,_,none⟩) NB2_1.out _).trans (((av (p:=⟨gb1,_,none⟩) NB2_1.out _).trans (hHeld.1)))))),((av (p:=⟨gb1,_,none⟩) NB2_1.out _).trans (((av (p:=⟨gb1,_,none⟩) NB2_1.out _).trans (((av (p:=⟨gb1,_,none⟩) NB2_1.out _).trans (hHeld.2.1)))))),((av (p:=⟨gb1,_,none⟩) NB2_1.out _).trans (((av (p:=⟨gb1,_,none⟩) NB2_1.out _).trans (((av (p:=⟨gb1,_,none⟩) NB2_1.out _).trans (hHeld.2.2))))))⟩ (fun hHeld=>?_)
  clear hK K
  refine pu_ 6 3 ?_
  refine pu_ 7 4 ?_
  refine dn_ ?_
  try go_wp2
  refine bodyPost_ret (jF rfl _ _ gb1 26 #[.int .i64 t1,.bool t2,.slice Ao1 t3.length co1] (0,0) _ rfl (u1_ BK1) Tryd.underlying26 rfl bS) rfl ?_
  exact ⟨_,bc,qP,iZ⟩
 subst c1;rw [if_pos rfl] at H;obtain ⟨⟨t7,t8,t9⟩,A6,H⟩:=o1_ H;obtain ⟨c2b0,H⟩:=i1_ H;obtain ⟨c3b0,H⟩:=i1_ H;simp only [sj_,pj_] at H;obtain ⟨rfl,rfl,rfl,rfl,rfl,rfl,rfl⟩:=H
 try go_wp2
 replace HO_1:=A0_ (rd_ HO_1.out);replace HO_2:=A0_ (rd_ HO_2.out);replace BK1:=A0_ (kd_ BK1.out);replace BK2:=A0_ (kd_ BK2.out);replace HI1:=A0_ (al.drew HI1.out);replace HK:=A0_ (dD HK.out);replace HB:=A0_ (bd_ HB.out);obtain ⟨Ao2,co2,eo2⟩:=Kd.R_slice HO_1.out
 (first|subst eo2|(injection eo2 with f1_ f2_ f3_;have f4_:=f1_.symm;have f5_:=f3_.symm;clear f1_ f2_ f3_;subst f4_;subst f5_))
 have p1:0≤(t7:Int):=od_ aE;have q1:t7<(t5.length:Int):=od_ aE;obtain ⟨ad1,e1,hx1_0⟩:=Kd.at_int (rr_ HO_1.out).2.2 t7 p1 q1;cases e1;replace p1:=eq_true p1;replace q1:=eq_true q1
 refine dh (n:=12) (S:=fun w'=>w'.cell? ⟨gb2,0,none⟩=some (.int .i64 t1)∧w'.cell? ⟨gb2,1,none⟩=some (.bool t2)∧w'.cell? ⟨gb2,2,none⟩=some (.slice Ao1 t3.length co1)∧w'.cell? (ad1.add (t7).toNat)=some (.int .i64 (rd t5 t7))) (ds:=[]) #[false,false,false,false,false,false,false,false,false,false,false,false] bS rfl rfl (a3_ BK2 hx1_0) (fun hHeld=>?_);refine dc ap.tab5 ap.bits5 (fun HT_ HW_=>?_)
 generalize wc.drew=w5 at HO_1 HO_2 BK1 BK2 HI1 HK HB hx1_0 hHeld ⊢
 refine pu_ 1 36 ?_
 refine pu_ 2 37 ?_
 refine pu_ 3 38 ?_
 refine pu_ 4 39 ?_
 refine pu_ 5 40 ?_
 refine tk_ 0 35 hHeld ?_
 refine on_ 6 (some 41) (fun K hK=>?_)
 refine gs_ Tryd.func60 #[.pointer (some ⟨g,0,none⟩),.int .i64 (t5.length:Int)] ?_
 with_reducible refine (bC.calls g l0 xa xb (t5.length:Int) t7 t8 t9 w _ ?_ ?_ A6.out).mono ?_
 exact gw
 exact iZ
 rintro e w6 ⟨rfl,hi,hb,hk⟩;have HS3_:=jk hk (hHeld.2.2.2) (by first|(rw [dd];exact Kd.own_blk (al.own_ne HI1.out HO_1.out ao))|(show (Addr.add _ _).block≠_;rw [dd];exact Kd.own_blk (al.own_ne HI1.out HO_1.out ao))|exact Kd.own_blk (al.own_ne HI1.out HO_1.out ao))
 refine ⟨_,rfl,?_⟩
 replace HO_1:=A0_ (Kd.R_mono (Kd.R_keep (al.apart (show al w _ g l0 xa xb from gw) aD ao) hk (fun _ h=>h.2)) (fun _ h=>h.1));replace HO_2:=A0_ (Kd.R_mono (Kd.R_keep (al.apart (show al w _ g l0 xa xb from gw) bW ao) hk (fun _ h=>h.2)) (fun _ h=>h.1));replace BK1:=da BK1 hk NB1_3;replace BK2:=da BK2 hk NB2_3;replace HK:=A0_ (ah.trans bV hk (.inl rfl));replace HB:=A0_ (hb);replace HI1:=A0_ (hi)
 (try clear hb hk hi)
 refine hK.out _ _ (a3_ BK2 HS3_) (fun hHeld=>?_)
 clear hK K
 refine nm_ 41 ?_
 refine pu_ 7 42 ?_
 refine tk_ 8 43 hHeld ?_
 refine on_ 9 none (fun K hK=>?_)
 have hs27:=y_ BK1 0;have hfs27:=kf_ BK1.out 0;obtain ⟨hns1_1,hms1_1⟩:=n2_ NB2_1;have hs28:=y_ BK1 1;have hfs28:=kf_ BK1.out 1;obtain ⟨hns2_1,hms2_1⟩:=n2_ NB2_1;have hs29:=y_ BK1 2;have hfs29:=kf_ BK1.out 2;obtain ⟨hns3_1,hms3_1⟩:=n2_ NB2_1
 refine fF (w1:=?_) (by rfl) rfl ?_ ?_
 rotate_left
 ·go_simp
  rfl
 refine hK.out _ _ ⟨((av (p:=⟨gb1,_,none⟩) NB2_1.out _).trans (((av (p:=⟨gb1,_,none⟩) NB2_1.out _).trans (((av (p:=⟨gb1,_,none⟩) NB2_1.out _).trans (hHeld.1)))))),((av (p:=⟨gb1,_,none⟩) NB2_1.out _).trans (((av (p:=⟨gb1,_,none⟩) NB2_1.out _).trans (((av (p:=⟨gb1,_,none⟩) NB2_1.out _).trans (hHeld.2.1)))))),((av (p:=⟨gb1,_,none⟩) NB2_1.out _).trans (((av (p:=⟨gb1,_,none⟩) NB2_1.out _).trans (((av (p:=⟨gb1,_,none⟩) NB2_1.out _).trans (hHeld.2.2.1)))))),((av (p:=⟨gb1,_,none⟩) oU _).trans (((av (p:=⟨gb1,_,none⟩) oU _).trans (((av (p:=⟨gb1,_,none⟩) oU _).trans (hHeld.2.2.2))))))⟩ (fun hHeld=>?_)
 clear hK K
 refine pu_ 10 3 ?_
 refine pu_ 11 4 ?_
 refine dn_ ?_
 try go_wp2
 refine bodyPost_ret (jF rfl _ _ gb1 26 #[.int .i64 t1,.bool t2,.slice Ao1 t3.length co1] (0,0) _ rfl (u1_ BK1) Tryd.underlying26 rfl bS) rfl ?_
 exact ⟨_,bc,qP,iZ⟩


def d7.f (k:Nat) (a0_0:Int) (a0_1:Bool) (l0_2:List Int) (a1_0:Int) (a1_1:Bool) (l1_2:List Int):Option (Bool):=if a0_0=a1_0 then (if (a0_1 == a1_1)=true then ((bN.f k l0_2 l1_2).bind fun t704=>(some t704)) else (some false)) else (some false)
theorem d7.mono:∀ a0 a1 a2 a3 a4 a5 k,LeO (d7.f k a0 a1 a2 a3 a4 a5) (d7.f (k+1) a0 a1 a2 a3 a4 a5):=by
 intro a0 a1 a2 a3 a4 a5 k;unfold d7.f
 repeat' with_reducible first|exact bN.mono ..|exact LeO.refl ..|exact LeO.none ..|refine LeO.ite ?_ ?_|refine LeO.bind ?_ (fun _=>?_)
theorem d7.calls (k:Nat) (a0_0:Int) (a0_1:Bool) (A0_2:Option Addr) (c0_2:Nat) (l0_2:List Int) (a1_0:Int) (a1_1:Bool) (A1_2:Option Addr) (c1_2:Nat) (l1_2:List Int) (r:Bool) (w:World) (hr0_2:Kd.C (Kd.int .i64) w A0_2 l0_2.length l0_2) (hc0_2:l0_2.length≤c0_2) (hr1_2:Kd.C (Kd.int .i64) w A1_2 l1_2.length l1_2) (hc1_2:l1_2.length≤c1_2) (H:d7.f k a0_0 a0_1 l0_2 a1_0 a1_1 l1_2=some r) :
  Calls Tryd.prog 28 #[.agg #[.int .i64 a0_0,.bool a0_1,.slice A0_2 l0_2.length c0_2],.agg #[.int .i64 a1_0,.bool a1_1,.slice A1_2 l1_2.length c1_2]] w fun e w'=>e=.returned (.bool r)∧Below w.heap.size w w':=by
 have hu26:=Tryd.underlying26;have HR0_2:=A0_ hr0_2;have HC0_2:=A0_ hc0_2;clear hr0_2 hc0_2;have HR1_2:=A0_ hr1_2;have HC1_2:=A0_ hc1_2;clear hr1_2 hc1_2;have HB:=A0_ (Below.refl w.heap.size w);unfold d7.f at H
 by_cases c2:a0_0=a1_0
 case neg =>
  rw [if_neg c2] at H;obtain ⟨c2b0,c2b1⟩:=ef_ c2;obtain rfl:=si_ H;go_enter Tryd.func28,Tryd.ntmps28
  go_wp2_with (first|((with_reducible refine gd_ (N:=2) rfl ?_);refine bx_ 2 #[.int .i64 a0_0,.bool a0_1,.slice A0_2 l0_2.length c0_2] 26 ?_;intro gb1 hg w1 BK1 hb;have GW1:=ge_ hg am;have GE1:=GW1;replace HB:=hb_ hb am;clear hb hg)|((with_reducible refine gd_ (N:=3) rfl ?_);refine bx_ 3 #[.int .i64 a1_0,.bool a1_1,.slice A1_2 l1_2.length c1_2] 26 ?_;intro gb2 hg w2 BK2 hb;have GW2:=ge_ hg ab;have GE2:=GW2;replace HB:=hb_ hb ab;obtain ⟨NB1_2,NB2_1⟩:=nn_ hg BK1;replace BK1:=k1_ BK1 hb;clear hb hg;obtain ⟨hnb1,hnc1⟩:=n2_ NB1_2;have hcz1:=c3_ BK1;have hcz2:=c3_ BK2))
  go_ret
  exact ⟨bc,aY⟩
 rw [if_pos c2] at H;obtain ⟨c2b0,c2b1⟩:=et_ c2;clear c2
 by_cases c3:(a0_1 == a1_1)=true
 case neg =>
  rw [if_neg c3] at H
  have c3b0:(a0_1 == a1_1)=false:=by simpa using c3
  (try (have c3b1:decide (a0_1=a1_1)=false:=by simpa using c3))
  (try (have c3b2:(a0_1 == a1_1)=false:=by simpa using c3))
  (try (have c3b3:¬ (a0_1=a1_1):=by simpa using c3))
  clear c3;obtain rfl:=si_ H;go_enter Tryd.func28,Tryd.ntmps28
  go_wp2_with (first|((with_reducible refine gd_ (N:=2) rfl ?_);refine bx_ 2 #[.int .i64 a0_0,.bool a0_1,.slice A0_2 l0_2.length c0_2] 26 ?_;intro gb1 hg w1 BK1 hb;have GW1:=ge_ hg am;have GE1:=GW1;replace HB:=hb_ hb am;clear hb hg)|((with_reducible refine gd_ (N:=3) rfl ?_);refine bx_ 3 #[.int .i64 a1_0,.bool a1_1,.slice A1_2 l1_2.length c1_2] 26 ?_;intro gb2 hg w2 BK2 hb;have GW2:=ge_ hg ab;have GE2:=GW2;replace HB:=hb_ hb ab;obtain ⟨NB1_2,NB2_1⟩:=nn_ hg BK1;replace BK1:=k1_ BK1 hb;clear hb hg;obtain ⟨hnb1,hnc1⟩:=n2_ NB1_2;have hcz1:=c3_ BK1;have hcz2:=c3_ BK2))
  go_ret
  exact ⟨bc,aY⟩
 rw [if_pos c3] at H;have c3b0:(a0_1 == a1_1)=true:=c3
 (try (have c3b1:decide (a0_1=a1_1)=true:=by simpa using c3))
 (try (have c3b2:(a0_1 == a1_1)=true:=by simpa using c3))
 clear c3;obtain ⟨t1,A3,H⟩:=o1_ H;replace H:(some t1)=some r:=H;obtain rfl:=si_ H;go_enter Tryd.func28,Tryd.ntmps28
 go_wp2_with (first|((with_reducible refine gd_ (N:=2) rfl ?_);refine bx_ 2 #[.int .i64 a0_0,.bool a0_1,.slice A0_2 l0_2.length c0_2] 26 ?_;intro gb1 hg w1 BK1 hb;have GW1:=ge_ hg am;have GE1:=GW1;replace HB:=hb_ hb am;clear hb hg)|((with_reducible refine gd_ (N:=3) rfl ?_);refine bx_ 3 #[.int .i64 a1_0,.bool a1_1,.slice A1_2 l1_2.length c1_2] 26 ?_;intro gb2 hg w2 BK2 hb;have GW2:=ge_ hg ab;have GE2:=GW2;replace HB:=hb_ hb ab;obtain ⟨NB1_2,NB2_1⟩:=nn_ hg BK1;replace BK1:=k1_ BK1 hb;clear hb hg;obtain ⟨hnb1,hnc1⟩:=n2_ NB1_2;have hcz1:=c3_ BK1;have hcz2:=c3_ BK2)|(go_at_call 16;(with_reducible refine (bN.calls k _ _ l0_2 _ _ l1_2 t1 _ ?_ ?_ ?_ ?_ A3.out).mono ?_);exact bn;exact HC0_2.out;exact (by repeat (first|exact (cb_ HR1_2.out HB.out)|(with_reducible refine ca_ ?_ _)|(with_reducible refine cn_ ?_ _)|(with_reducible refine cd_ ?_)));exact HC1_2.out;rintro e w' ⟨rfl,⟨nd,rfl⟩⟩))
 go_ret
 exact ⟨bc,aY⟩

mutual
def ae.j0:Nat→Bool→List Int→Int→Int→Int→Bool→List Int→Option (Int × Bool × List Int × Int × Int)
 | 0,_,_,_,_,_,_,_=>none
 | k+1,x15,xa,xb,xc,xe,xd,xf=>if x15=true then ((bC.f xa xb xc 8).bind fun bt717=>(ae.j1 k xa bt717.2.1 bt717.2.2 (wrap64 (3+bt717.1)) xd (([]:List Int)))) else (ae.j1 k xa xb xc xe xd xf)
def ae.j1:Nat→List Int→Int→Int→Int→Bool→List Int→Option (Int × Bool × List Int × Int × Int)
 | 0,_,_,_,_,_,_=>none
 | k+1,xa,xe,xf,xb,xc,xd=>(aI.f k xb xc xd).bind fun t723=>(if t723=true then ((aK.f xa xe xf 3).bind fun bt724=>(ae.j2 k bt724.1 xa bt724.2.1 bt724.2.2 xb xc xd)) else (ae.j2 k false xa xe xf xb xc xd))
def ae.j2:Nat→Bool→List Int→Int→Int→Int→Bool→List Int→Option (Int × Bool × List Int × Int × Int)
 | 0,_,_,_,_,_,_,_=>none
 | k+1,x27,xf,xd,xe,xb,xc,xa=>if x27=true then ((some (([]:List Int):List Int)).bind fun y727=>(if (xa.length:Int) > 0 then ((aK.f xf xd xe 2).bind fun bt730=>(if bt730.1=true then ((bC.f xf bt730.2.1 bt730.2.2 (xa.length:Int)).bind fun bt733=>(if 0≤bt733.1 then (if bt733.1<(xa.length:Int) then (if y727.length<17592186044416 then (some (xb,xc,(y727++[rd xa bt733.1]),bt733.2.1,bt733.2.2)) else (none)) else (none)) else (none))) else (some (xb,xc,y727,bt730.2.1,bt730.2.2)))) else (some (xb,xc,y727,xd,xe)))) else (some (xb,xc,xa,xd,xe))
end
def ae.f (k:Nat) (s0_0:List Int) (s0_1:Int) (s0_2:Int):Option (Int × Bool × List Int × Int × Int):=(ag.f k s0_0 s0_1 s0_2).bind fun bt706=>(if bt706.1 > 10 then ((aK.f s0_0 bt706.2.2.2.1 bt706.2.2.2.2 12).bind fun bt714=>(ae.j0 k (!bt714.1) s0_0 bt714.2.1 bt714.2.2 bt706.1 bt706.2.1 bt706.2.2.1)) else (ae.j0 k false s0_0 bt706.2.2.2.1 bt706.2.2.2.2 bt706.1 bt706.2.1 bt706.2.2.1))
theorem ae.mono_l:∀ k,(∀ y0 y1 y2 y3 y4 y5 y6,LeO (ae.j0 k y0 y1 y2 y3 y4 y5 y6) (ae.j0 (k+1) y0 y1 y2 y3 y4 y5 y6))∧(∀ y0 y1 y2 y3 y4 y5,LeO (ae.j1 k y0 y1 y2 y3 y4 y5) (ae.j1 (k+1) y0 y1 y2 y3 y4 y5))∧(∀ y0 y1 y2 y3 y4 y5 y6,LeO (ae.j2 k y0 y1 y2 y3 y4 y5 y6) (ae.j2 (k+1) y0 y1 y2 y3 y4 y5 y6))
 | 0=>⟨fun _ _ _ _ _ _ _ r h=>by simp [ae.j0] at h,fun _ _ _ _ _ _ r h=>by simp [ae.j1] at h,fun _ _ _ _ _ _ _ r h=>by simp [ae.j2] at h⟩
 | k+1=>by
  obtain ⟨ih0,ih1,ih2⟩:=ae.mono_l k
  refine ⟨?_,?_,?_⟩
  ·intro y0 y1 y2 y3 y4 y5 y6
   unfold ae.j0
   repeat' with_reducible first|exact ih0 ..|exact ih1 ..|exact ih2 ..|exact ag.mono ..|exact aI.mono ..|exact LeO.refl ..|exact LeO.none ..|refine LeO.ite ?_ ?_|refine LeO.bind ?_ (fun _=>?_)
  ·intro y0 y1 y2 y3 y4 y5
   unfold ae.j1
   repeat' with_reducible first|exact ih0 ..|exact ih1 ..|exact ih2 ..|exact ag.mono ..|exact aI.mono ..|exact LeO.refl ..|exact LeO.none ..|refine LeO.ite ?_ ?_|refine LeO.bind ?_ (fun _=>?_)
  ·intro y0 y1 y2 y3 y4 y5 y6
   unfold ae.j2
   repeat' with_reducible first|exact ih0 ..|exact ih1 ..|exact ih2 ..|exact ag.mono ..|exact aI.mono ..|exact LeO.refl ..|exact LeO.none ..|refine LeO.ite ?_ ?_|refine LeO.bind ?_ (fun _=>?_)
theorem ae.mono:∀ a0 a1 a2 k,LeO (ae.f k a0 a1 a2) (ae.f (k+1) a0 a1 a2):=by
 intro a0 a1 a2 k;obtain ⟨ih0,ih1,ih2⟩:=ae.mono_l k;unfold ae.f
 repeat' with_reducible first|exact ih0 ..|exact ih1 ..|exact ih2 ..|exact ag.mono ..|exact aI.mono ..|exact LeO.refl ..|exact LeO.none ..|refine LeO.ite ?_ ?_|refine LeO.bind ?_ (fun _=>?_)
def ae.T9:Bool × List (List Nat × List Nat):=(true,[([],[]),([],[]),([1],[1]),([],[]),([],[]),([3,4],[3,4]),([2,5],[2,5]),([6],[6]),([7],[7]),([0,8,5],[0,8]),([9,9,0,1,2,3,4,5,6,7,8,9],[0,9])])
def ae.B9:List Nat:=[0,0,2,0,0,24,62,126,254,511,1023]
theorem ae.tab9:dx .any (dX Tryd.f62 9)=ae.T9:=by kernel_rfl
theorem ae.bits9:cp ae.T9.2 ae.B9=true:=by kernel_rfl
theorem ae.calls (k:Nat) (g:Nat) (s0_0:List Int) (s0_1:Int) (s0_2:Int) (r1:Int) (r2:Bool) (r3:List Int) (r4:Int) (r5:Int) (w0 w:World) (hI:al w0 w g s0_0 s0_1 s0_2) (hB:Below w0.heap.size w0 w) (H:ae.f k s0_0 s0_1 s0_2=some (r1,r2,r3,r4,r5)) :
  Calls Tryd.prog 62 #[.pointer (some ⟨g,0,none⟩)] w fun e w'=>∃ v2_:Value,e=.returned (.agg #[.int .i64 r1,.bool r2,v2_])∧Kd.R (Kd.int .i64) 3 w' w.heap.size (fun _=>True) v2_ r3∧al w0 w' g s0_0 r4 r5∧Below w0.heap.size w0 w'∧ah w w' g none:=by
 have hu26:=Tryd.underlying26;have HI0:=A0_ hI;have HK:=A0_ (ah.refl w g none);have HL:=A0_ hB.size;clear hI;have HW0:=A0_ hB.size;have HB:=A0_ hB;clear hB;unfold ae.f at H;obtain ⟨⟨t1,t2,t3,t4,t5⟩,A2,H⟩:=o1_ H;have HC3:=A0_ H;clear H;go_enter Tryd.func62,Tryd.ntmps62
 go_upto_region 2 with (first|((with_reducible refine gd_ (N:=2) rfl ?_);refine bx_ 2 #[.int .i64 0,.bool false,.slice none 0 0] 26 ?_;intro gb1 hg w1 BK1 hb;replace HB:=hb_ hb dq;have GW1:=A0_ ((fG:w.heap.size≤gb1));have GE1:=A0_ ((Nat.le_trans HW0.out (fG:w.heap.size≤gb1):w0.heap.size≤gb1));replace HK:=A0_ (ah.trans df (ah.of_below hb g none) (.inl rfl));have NB0_1:=A0_ ((jD:g≠gb1));have NB1_0:=A0_ ((jE:gb1≠g));replace HI0:=A0_ (al.below dv hb);clear hb hg)|((with_reducible refine gc_ (f:=81) rfl ?_);refine gl_ 7 Tryd.func81 #[.pointer (some ⟨g,0,none⟩)] ?_;(with_reducible refine (ag.calls k g s0_0 s0_1 s0_2 t1 t2 t3 t4 t5 w0 _ ?_ ?_ A2.out).mono ?_);exact dg;exact dG;rintro e w2 ⟨v1,rfl,ho0,hi,hb,hk⟩;refine ⟨_,rfl,?_⟩;replace BK1:=da BK1 hk NB1_0;have HO1:=A0_ (Kd.R_lower ho0 (cr (w:=w) (g:=g) (row:=none) cU));replace HK:=A0_ (ah.trans cU hk (.inl rfl));replace HB:=A0_ (hb);replace HI0:=A0_ (hi);(try clear hb hk hi ho0))|((with_reducible refine gd_ (N:=3) rfl ?_);refine bx_ 3 #[.int .i64 0,.bool false,.slice none 0 0] 26 ?_;intro gb2 hg w3 BK2 hb;replace HO1:=q1_ HO1 hb;replace HB:=hb_ hb dG;have GW2:=A0_ ((gK:w.heap.size≤gb2));have GE2:=A0_ ((Nat.le_trans HW0.out (gK:w.heap.size≤gb2):w0.heap.size≤gb2));replace HK:=A0_ (ah.trans cU (ah.of_below hb g none) (.inl rfl));obtain ⟨NB1_2,NB2_1⟩:=nn_ hg BK1;replace BK1:=k1_ BK1 hb;have NB0_2:=A0_ ((by rw [hg];exact Nat.ne_of_lt (al.lt (show al w0 _ g s0_0 t4 t5 from dg)):g≠gb2));have NB2_0:=A0_ ((by rw [hg];exact Nat.ne_of_gt (al.lt (show al w0 _ g s0_0 t4 t5 from dg)):gb2≠g));replace HI0:=A0_ (al.below dg hb);clear hb hg;obtain ⟨hnb1,hnc1⟩:=n2_ NB2_1;obtain ⟨hnb2,hnc2⟩:=n2_ NB2_0;have hcz1:=z3_ BK2;obtain ⟨Ao1,co1,eo1⟩:=Kd.R_slice HO1.out;subst eo1))
 (try simp only [Act.put,sa_,sz_,ss_])
 go_cut [15] (fun v3 wc=>∃ (kq:Nat) (x15_2:Bool) (xe:Int) (xf:Int),v3=.bool x15_2∧Aside0 (ae.j0 kq x15_2 s0_0 xe xf t1 t2 t3=some (r1,r2,r3,r4,r5))∧Aside0 (kq≤k)∧Aside0 (Kd.R (Kd.int .i64) 3 wc w.heap.size (fun _=>True) (.slice Ao1 t3.length co1) t3)∧Aside0 (wc.heap[gb1]?=some (.cells #[.int .i64 0,.bool false,(.slice none 0 0)] 26 (0,0)))∧Aside0 (wc.heap[gb2]?=some (.cells #[.int .i64 t1,.bool t2,(.slice Ao1 t3.length co1)] 26 (0,0)))∧Aside0 (al w0 wc g s0_0 xe xf)∧Aside0 (ah w wc g none)∧Aside0 (Below w0.heap.size w0 wc))
 case first =>
  have H:=HC3.out;clear HC3
  by_cases c1:t1 > 10
  case neg =>
   rw [if_neg c1] at H;have c1b0:decide (10<t1)=false:=decide_eq_false c1;clear c1
   (first|rw [c1b0]|(simp only [cH,dC];rw [c1b0])|skip)
   have H':=A0_ H;clear H;obtain ⟨hnb3,hnc3⟩:=n2_ NB2_1;obtain ⟨hnb4,hnc4⟩:=n2_ NB2_0;have hcz2:=z3_ BK2
   go_wp2
   go_meet
   exact ⟨_,(false),(t4),(t5),aC,H',⟨eH⟩,⟨kj⟩,⟨u1_ BK1⟩,⟨u1_ BK2⟩,⟨bQ⟩,⟨bV⟩,⟨ce⟩⟩
  rw [if_pos c1] at H;have c1b0:decide (10<t1)=true:=dt_ c1;clear c1
  (first|rw [c1b0]|(simp only [cH,dC];rw [c1b0])|skip)
  obtain ⟨⟨t6,t7,t8⟩,A4,H⟩:=o1_ H;have H':=A0_ H;clear H;obtain ⟨hnb3,hnc3⟩:=n2_ NB2_1;obtain ⟨hnb4,hnc4⟩:=n2_ NB2_0;have hcz2:=z3_ BK2
  go_wp2_with (first|(go_at_call 59;(with_reducible refine (aK.calls g s0_0 t4 t5 12 t6 t7 t8 w0 _ ?_ ?_ A4.out).mono ?_);exact bQ;exact ce;rintro e w4 ⟨rfl,hi,hb,hk⟩;replace BK1:=da BK1 hk NB1_0;replace HO1:=A0_ (Kd.R_mono (Kd.R_keep (al.apart (show al w0 _ g s0_0 t4 t5 from bQ) mr ao) hk (fun _ h=>h.2)) (fun _ h=>h.1));replace BK2:=A0_ (ah.blk hk (g':=gb2) (o:=.cells #[.int .i64 t1,.bool t2,.slice Ao1 t3.length co1] 26 (0,0)) (u1_ BK2) NB2_0.out bx);replace HK:=A0_ (ah.trans bV hk (.inl rfl));replace HB:=A0_ (hb);replace HI0:=A0_ (hi);(try clear hb hk hi)))
  go_meet
  exact ⟨_,(!t6),(t7),(t8),aC,H',⟨eH⟩,⟨bR⟩,⟨u1_ BK1⟩,⟨u1_ BK2⟩,⟨bQ⟩,⟨bV⟩,⟨ce⟩⟩
 clear HC3
 (try clear hcz1);(try clear hfz1)
 obtain ⟨kq,x15_2,xe,xf,rfl,HA,HJ1,HO_1,BK1,BK2,HI0,HK,HB⟩:=hcut
 cases kq with|zero=>exact absurd HA.out (by simp [ae.j0])|succ kj1=>?_
 have H:=HA.out;clear HA;simp only [ae.j0] at H;have HC20:=A0_ H;clear H
 go_upto_if 15 with (fail)
 go_cut [] (fun wc=>∃ (kq:Nat) (xg:Int) (xh:Int) (xb:Int) (xa:List Int) (ui:Value),Aside0 (ae.j1 kq s0_0 xg xh xb t2 xa=some (r1,r2,r3,r4,r5))∧Aside0 (kq≤kj1)∧Aside0 (Kd.R (Kd.int .i64) 3 wc w.heap.size (fun _=>True) ui xa)∧Aside0 (wc.heap[gb1]?=some (.cells #[.int .i64 0,.bool false,(.slice none 0 0)] 26 (0,0)))∧Aside0 (wc.heap[gb2]?=some (.cells #[.int .i64 xb,.bool t2,ui] 26 (0,0)))∧Aside0 (al w0 wc g s0_0 xg xh)∧Aside0 (ah w wc g none)∧Aside0 (Below w0.heap.size w0 wc))
 case first =>
  have H:=HC20.out;clear HC20
  by_cases c1:x15_2=true
  case neg =>
   obtain rfl:=bf_.mpr c1;rw [if_neg ft_] at H;have H':=A0_ H;clear H
   go_wp2
   go_meet
   exact ⟨_,(xe),(xf),(t1),(t3),(.slice Ao1 t3.length co1),H',⟨ki⟩,⟨aD⟩,⟨u1_ BK1⟩,⟨u1_ BK2⟩,⟨bQ⟩,⟨bV⟩,⟨ce⟩⟩
  subst c1;rw [if_pos rfl] at H;obtain ⟨⟨t6,t7,t8⟩,A4,H⟩:=o1_ H;obtain ⟨y1,hy1⟩:∃ y_:List Int,y_=(([]:List Int)):=⟨_,rfl⟩;replace H:(ae.j1 kj1 s0_0 t7 t8 (wrap64 (3+t6)) t2 y1)=some (r1,r2,r3,r4,r5):=dp;have Ny1:=A0_ hy1;clear hy1;have H':=A0_ H;clear H
  go_wp2_with (first|((with_reducible refine gc_ (f:=60) rfl ?_);refine gl_ 17 Tryd.func60 #[.pointer (some ⟨g,0,none⟩),.int .i64 8] ?_;(with_reducible refine (bC.calls g s0_0 xe xf 8 t6 t7 t8 w0 _ ?_ ?_ A4.out).mono ?_);exact bQ;exact ce;rintro e w4 ⟨rfl,hi,hb,hk⟩;refine ⟨_,rfl,?_⟩;replace HO_1:=A0_ (Kd.R_mono (Kd.R_keep (al.apart (show al w0 _ g s0_0 xe xf from bQ) aD ao) hk (fun _ h=>h.2)) (fun _ h=>h.1));replace BK1:=da BK1 hk NB1_0;replace BK2:=da BK2 hk NB2_0;replace HK:=A0_ (ah.trans bV hk (.inl rfl));replace HB:=A0_ (hb);replace HI0:=A0_ (hi);(try clear hb hk hi);obtain ⟨hnb3,hnc3⟩:=n2_ NB2_1;obtain ⟨hnb4,hnc4⟩:=n2_ NB2_0;have hcz2:=z3_ BK2)|((with_reducible refine gd_ (N:=20) rfl ?_);refine Kd.R_lit (Kd.int .i64) _ 3 ?hg (N:=20) ?hd (xs:=([]:List Int)) (inner:=[]) (ok:=fun _=>True) (okp:=fun _=>True) ?hr ?hp (fun _ hk=>hk) trivial (Below.refl _ _) (Nat.le_refl _) bx ?_;(case hd=>rfl);(case hg=>rfl);(case hr=>go_simp;first|done|rfl);(case hp=>exact (bu.none _ _));intro v4 w5 ho28 hb hg_ hnew_;clear hg_ hnew_;(first|rw [← Ny1.out] at ho28|(simp only [Int.reduceToNat] at ho28;rw [← Ny1.out] at ho28));have HO2:=A0_ (Kd.R_lower (Kd.R_new' ho28 (Kd.R_lt qQ)) (cr (w:=w) (g:=g) (row:=none) bV));replace HO_1:=A0_ (Kd.R_elder' qQ (Kd.R_base ho28) hb);replace BK1:=k1_ BK1 hb;replace BK2:=k2_ (.cells #[.int .i64 (wrap64 (3+t6)),.bool t2,.slice Ao1 t3.length co1] 26 (0,0)) BK2 hb;replace HK:=A0_ (ah.trans bV (ah.of_below hb g none) (.inl rfl));replace HB:=hb_ hb ce;replace HI0:=A0_ (al.below (show al w0 (w4.setCell ⟨gb2,0,none⟩ (.int .i64 (wrap64 (3+t6)))) g s0_0 t7 t8 from bQ) hb);clear hb ho28;obtain ⟨Ao2,co2,eo2⟩:=Kd.R_slice HO2.out;subst eo2;have hcz3:=z3_ BK2))
  go_meet
  exact ⟨_,(t7),(t8),(wrap64 (3+t6)),(y1),(.slice Ao2 y1.length co2),H',⟨ki⟩,⟨qR⟩,⟨u1_ BK1⟩,⟨u1_ BK2⟩,⟨bQ⟩,⟨bV⟩,⟨ce⟩⟩
 clear HC20
 (try clear hcz1);(try clear hfz1)
 obtain ⟨kq,xg,xh,xb,xa,ui,HA,HJ2,HO_1,BK1,BK2,HI0,HK,HB⟩:=hcut
 cases kq with|zero=>exact absurd HA.out (by simp [ae.j1])|succ kj2=>?_
 have H:=HA.out;clear HA;simp only [ae.j1] at H;have HC31:=A0_ H;clear H
 go_upto_region 5 with (fail)
 go_cut [27] (fun v4 wc=>∃ (kq:Nat) (x27_30:Bool) (xc:Int) (xd:Int),v4=.bool x27_30∧Aside0 (ae.j2 kq x27_30 s0_0 xc xd xb t2 xa=some (r1,r2,r3,r4,r5))∧Aside0 (kq≤kj2)∧Aside0 (Kd.R (Kd.int .i64) 3 wc w.heap.size (fun _=>True) ui xa)∧Aside0 (wc.heap[gb1]?=some (.cells #[.int .i64 0,.bool false,(.slice none 0 0)] 26 (0,0)))∧Aside0 (wc.heap[gb2]?=some (.cells #[.int .i64 xb,.bool t2,ui] 26 (0,0)))∧Aside0 (al w0 wc g s0_0 xc xd)∧Aside0 (ah w wc g none)∧Aside0 (Below w0.heap.size w0 wc))
 case first =>
  have H:=HC31.out;clear HC31;obtain ⟨t6,A4,H⟩:=o1_ H
  by_cases c1:t6=true
  case neg =>
   obtain rfl:=bf_.mpr c1;rw [if_neg ft_] at H;have H':=A0_ H;clear H;obtain ⟨hnb3,hnc3⟩:=n2_ NB2_1;obtain ⟨hnb4,hnc4⟩:=n2_ NB2_0;have hcz2:=z3_ BK2;obtain ⟨Ao2,co2,eo2⟩:=Kd.R_slice HO_1.out;subst eo2
   go_wp2_with (first|((with_reducible refine gc_ (f:=35) rfl ?_);refine gl_ 23 Tryd.func35 #[.agg #[.int .i64 xb,.bool t2,.slice Ao2 xa.length co2]] ?_;(with_reducible refine (aI.calls kj2 xb t2 _ _ xa false _ ?_ ?_ A4.out).mono ?_);exact mu;exact (rr_ HO_1.out).2.1;rintro e w4 ⟨rfl,hb⟩;refine ⟨_,rfl,?_⟩;replace HO_1:=q1_ HO_1 hb;replace BK1:=k1_ BK1 hb;replace BK2:=k1_ BK2 hb;replace HK:=A0_ (ah.trans bV (ah.of_below hb g none) (.inl rfl));replace HB:=hb_ hb ce;replace HI0:=A0_ (al.below bQ hb);(try clear hb)))
   go_meet
   exact ⟨_,(false),(xg),(xh),aC,H',⟨oV⟩,⟨aD⟩,⟨u1_ BK1⟩,⟨u1_ BK2⟩,⟨bQ⟩,⟨bV⟩,⟨ce⟩⟩
  subst c1;rw [if_pos rfl] at H;obtain ⟨⟨t7,t8,t9⟩,A6,H⟩:=o1_ H;have H':=A0_ H;clear H;obtain ⟨hnb3,hnc3⟩:=n2_ NB2_1;obtain ⟨hnb4,hnc4⟩:=n2_ NB2_0;have hcz2:=z3_ BK2;obtain ⟨Ao2,co2,eo2⟩:=Kd.R_slice HO_1.out;subst eo2
  go_wp2_with (first|((with_reducible refine gc_ (f:=35) rfl ?_);refine gl_ 23 Tryd.func35 #[.agg #[.int .i64 xb,.bool t2,.slice Ao2 xa.length co2]] ?_;(with_reducible refine (aI.calls kj2 xb t2 _ _ xa true _ ?_ ?_ A4.out).mono ?_);exact mu;exact (rr_ HO_1.out).2.1;rintro e w4 ⟨rfl,hb⟩;refine ⟨_,rfl,?_⟩;replace HO_1:=q1_ HO_1 hb;replace BK1:=k1_ BK1 hb;replace BK2:=k1_ BK2 hb;replace HK:=A0_ (ah.trans bV (ah.of_below hb g none) (.inl rfl));replace HB:=hb_ hb ce;replace HI0:=A0_ (al.below bQ hb);(try clear hb))|(go_at_call 59;(with_reducible refine (aK.calls g s0_0 xg xh 3 t7 t8 t9 w0 _ ?_ ?_ A6.out).mono ?_);exact bQ;exact ce;rintro e w5 ⟨rfl,hi,hb,hk⟩;replace HO_1:=A0_ (Kd.R_mono (Kd.R_keep (al.apart (show al w0 _ g s0_0 xg xh from bQ) aD ao) hk (fun _ h=>h.2)) (fun _ h=>h.1));replace BK1:=da BK1 hk NB1_0;replace BK2:=da BK2 hk NB2_0;replace HK:=A0_ (ah.trans bV hk (.inl rfl));replace HB:=A0_ (hb);replace HI0:=A0_ (hi);(try clear hb hk hi)))
  go_meet
  exact ⟨_,(t7),(t8),(t9),aC,H',⟨oV⟩,⟨aD⟩,⟨u1_ BK1⟩,⟨u1_ BK2⟩,⟨bQ⟩,⟨bV⟩,⟨ce⟩⟩
 clear HC31
 (try clear hcz1);(try clear hfz1)
 obtain ⟨kq,x27_30,xc,xd,rfl,HA,HJ3,HO_1,BK1,BK2,HI0,HK,HB⟩:=hcut
 cases kq with|zero=>exact absurd HA.out (by simp [ae.j2])|succ kj3=>?_
 have H:=HA.out;clear HA;simp only [ae.j2] at H
 by_cases c1:x27_30=true
 case neg =>
  obtain rfl:=bf_.mpr c1;rw [if_neg ft_] at H;simp only [sj_,pj_] at H;obtain ⟨rfl,rfl,rfl,rfl,rfl⟩:=H;obtain ⟨hnb3,hnc3⟩:=n2_ NB2_1;obtain ⟨hnb4,hnc4⟩:=n2_ NB2_0;have hcz2:=z3_ BK2;obtain ⟨hnb5,hnc5⟩:=n2_ NB1_0;have hcz3:=z3_ BK1;obtain ⟨Ao2,co2,eo2⟩:=Kd.R_slice HO_1.out;subst eo2
  go_wp2
  refine bodyPost_ret (results_cell_row rfl _ _ gb1 26 #[.int .i64 xb,.bool t2,.slice Ao2 xa.length co2] (0,0) _ rfl (u1_ BK1) Tryd.underlying26 rfl bS) rfl ?_
  exact ⟨_,bc,qS,bQ,ce,bV⟩
 subst c1;rw [if_pos rfl] at H;obtain ⟨y1,hy1⟩:∃ y_:List Int,y_=(([]:List Int)):=⟨_,rfl⟩;replace H:(if (xa.length:Int) > 0 then ((aK.f s0_0 xc xd 2).bind fun bt3=>(if bt3.1=true then ((bC.f s0_0 bt3.2.1 bt3.2.2 (xa.length:Int)).bind fun bt4=>(if 0≤bt4.1 then (if bt4.1<(xa.length:Int) then (if y1.length<17592186044416 then (some (xb,t2,(y1++[rd xa bt4.1]),bt4.2.1,bt4.2.2)) else (none)) else (none)) else (none))) else (some (xb,t2,y1,bt3.2.1,bt3.2.2)))) else (some (xb,t2,y1,xc,xd)))=some (r1,r2,r3,r4,r5):=dp;have Ny1:=A0_ hy1;clear hy1
 by_cases c2:(xa.length:Int) > 0
 case neg =>
  rw [if_neg c2] at H;have c2b0:decide (0<(xa.length:Int))=false:=decide_eq_false c2;have c2b1:decide (0<xa.length)=false:=decide_eq_false bL;clear c2;simp only [sj_,pj_] at H;obtain ⟨rfl,rfl,rfl,rfl,rfl⟩:=H
  go_wp2_with (first|((with_reducible refine gd_ (N:=28) rfl ?_);refine Kd.R_lit (Kd.int .i64) _ 3 ?hg (N:=28) ?hd (xs:=([]:List Int)) (inner:=[]) (ok:=fun _=>True) (okp:=fun _=>True) ?hr ?hp (fun _ hk=>hk) trivial (Below.refl _ _) (Nat.le_refl _) bx ?_;(case hd=>rfl);(case hg=>rfl);(case hr=>go_simp;first|done|rfl);(case hp=>exact (bu.none _ _));intro v5 w4 ho80 hb hg_ hnew_;clear hg_ hnew_;(first|rw [← Ny1.out] at ho80|(simp only [Int.reduceToNat] at ho80;rw [← Ny1.out] at ho80));have HO2:=A0_ (Kd.R_lower (Kd.R_new' ho80 (Kd.R_lt aD)) (cr (w:=w) (g:=g) (row:=none) bV));replace HO_1:=A0_ (Kd.R_elder' aD (Kd.R_base ho80) hb);replace BK1:=k1_ BK1 hb;replace BK2:=k1_ BK2 hb;replace HK:=A0_ (ah.trans bV (ah.of_below hb g none) (.inl rfl));replace HB:=hb_ hb ce;replace HI0:=A0_ (al.below bQ hb);clear hb ho80;obtain ⟨hnb3,hnc3⟩:=n2_ NB2_1;obtain ⟨hnb4,hnc4⟩:=n2_ NB2_0;have hcz2:=z3_ BK2;obtain ⟨Ao2,co2,eo2⟩:=Kd.R_slice HO_1.out;subst eo2;obtain ⟨Ao3,co3,eo3⟩:=Kd.R_slice HO2.out;subst eo3;obtain ⟨hnb5,hnc5⟩:=n2_ NB1_0;have hcz3_0:=y_ BK1 0;have hcz3_1:=y_ BK1 1;have hcz3_2:=y_ BK1 2;have hfz3_0:=kf_ BK1.out 0;have hfz3_1:=kf_ BK1.out 1;have hfz3_2:=kf_ BK1.out 2))
  refine bodyPost_ret (results_cell_row rfl _ _ gb1 26 #[.int .i64 xb,.bool t2,.slice Ao3 y1.length co3] (0,0) _ rfl (u1_ BK1) Tryd.underlying26 rfl bS) rfl ?_
  exact ⟨_,bc,qT,bQ,ce,bV⟩
 rw [if_pos c2] at H;have c2b0:decide (0<(xa.length:Int))=true:=dt_ c2;have c2b1:decide (0<xa.length)=true:=dt_ bL;clear c2;obtain ⟨⟨t6,t7,t8⟩,A4,H⟩:=o1_ H
 by_cases c3:t6=true
 case neg =>
  obtain rfl:=bf_.mpr c3;rw [if_neg ft_] at H;simp only [sj_,pj_] at H;obtain ⟨rfl,rfl,rfl,rfl,rfl⟩:=H
  go_wp2_with (first|((with_reducible refine gd_ (N:=28) rfl ?_);refine Kd.R_lit (Kd.int .i64) _ 3 ?hg (N:=28) ?hd (xs:=([]:List Int)) (inner:=[]) (ok:=fun _=>True) (okp:=fun _=>True) ?hr ?hp (fun _ hk=>hk) trivial (Below.refl _ _) (Nat.le_refl _) bx ?_;(case hd=>rfl);(case hg=>rfl);(case hr=>go_simp;first|done|rfl);(case hp=>exact (bu.none _ _));intro v5 w4 ho69 hb hg_ hnew_;clear hg_ hnew_;(first|rw [← Ny1.out] at ho69|(simp only [Int.reduceToNat] at ho69;rw [← Ny1.out] at ho69));have HO2:=A0_ (Kd.R_lower (Kd.R_new' ho69 (Kd.R_lt aD)) (cr (w:=w) (g:=g) (row:=none) bV));replace HO_1:=A0_ (Kd.R_elder' aD (Kd.R_base ho69) hb);replace BK1:=k1_ BK1 hb;replace BK2:=k1_ BK2 hb;replace HK:=A0_ (ah.trans bV (ah.of_below hb g none) (.inl rfl));replace HB:=hb_ hb ce;replace HI0:=A0_ (al.below bQ hb);clear hb ho69;obtain ⟨hnb3,hnc3⟩:=n2_ NB2_1;obtain ⟨hnb4,hnc4⟩:=n2_ NB2_0;have hcz2:=z3_ BK2;obtain ⟨Ao2,co2,eo2⟩:=Kd.R_slice HO_1.out;subst eo2)|(go_at_call 59;(with_reducible refine (aK.calls g s0_0 xc xd 2 false t7 t8 w0 _ ?_ ?_ A4.out).mono ?_);exact bQ;exact ce;rintro e w5 ⟨rfl,hi,hb,hk⟩;replace HO_1:=A0_ (Kd.R_mono (Kd.R_keep (al.apart (show al w0 _ g s0_0 xc xd from bQ) aD ao) hk (fun _ h=>h.2)) (fun _ h=>h.1));replace BK1:=da BK1 hk NB1_0;replace BK2:=da BK2 hk NB2_0;replace HO2:=A0_ (Kd.R_mono (Kd.R_keep (al.apart (show al w0 _ g s0_0 xc xd from bQ) cQ ao) hk (fun _ h=>h.2)) (fun _ h=>h.1));replace HK:=A0_ (ah.trans bV hk (.inl rfl));replace HB:=A0_ (hb);replace HI0:=A0_ (hi);(try clear hb hk hi);obtain ⟨Ao3,co3,eo3⟩:=Kd.R_slice HO2.out;subst eo3;have hcz3:=z3_ BK2;obtain ⟨hnb5,hnc5⟩:=n2_ NB1_0;have hcz4_0:=y_ BK1 0;have hcz4_1:=y_ BK1 1;have hcz4_2:=y_ BK1 2;have hfz4_0:=kf_ BK1.out 0;have hfz4_1:=kf_ BK1.out 1;have hfz4_2:=kf_ BK1.out 2))
  refine bodyPost_ret (results_cell_row rfl _ _ gb1 26 #[.int .i64 xb,.bool t2,.slice Ao3 y1.length co3] (0,0) _ rfl (u1_ BK1) Tryd.underlying26 rfl bS) rfl ?_
  exact ⟨_,bc,qT,bQ,ce,bV⟩
 subst c3;rw [if_pos rfl] at H;obtain ⟨⟨t9,t10,t11⟩,A6,H⟩:=o1_ H;obtain ⟨c4b0,H⟩:=i1_ H;obtain ⟨c5b0,H⟩:=i1_ H;obtain ⟨c6,H⟩:=is_ H;have LMc1:=A0_ c6;clear c6;obtain ⟨y2,hy2⟩:∃ y_:List Int,y_=(y1++[rd xa t9]):=⟨_,rfl⟩;replace H:(some (xb,t2,y2,t10,t11))=some (r1,r2,r3,r4,r5):=dO;have Ny2:=A0_ hy2;clear hy2;simp only [sj_,pj_] at H;obtain ⟨rfl,rfl,rfl,rfl,rfl⟩:=H
 try go_wp2_with (first|((with_reducible refine gd_ (N:=28) rfl ?_);refine Kd.R_lit (Kd.int .i64) _ 3 ?hg (N:=28) ?hd (xs:=([]:List Int)) (inner:=[]) (ok:=fun _=>True) (okp:=fun _=>True) ?hr ?hp (fun _ hk=>hk) trivial (Below.refl _ _) (Nat.le_refl _) bx ?_;(case hd=>rfl);(case hg=>rfl);(case hr=>go_simp;first|done|rfl);(case hp=>exact (bu.none _ _));intro v5 w4 ho55 hb hg_ hnew_;clear hg_ hnew_;(first|rw [← Ny1.out] at ho55|(simp only [Int.reduceToNat] at ho55;rw [← Ny1.out] at ho55));have HO2:=A0_ (Kd.R_lower (Kd.R_new' ho55 (Kd.R_lt aD)) (cr (w:=w) (g:=g) (row:=none) bV));replace HO_1:=A0_ (Kd.R_elder' aD (Kd.R_base ho55) hb);replace BK1:=k1_ BK1 hb;replace BK2:=k1_ BK2 hb;replace HK:=A0_ (ah.trans bV (ah.of_below hb g none) (.inl rfl));replace HB:=hb_ hb ce;replace HI0:=A0_ (al.below bQ hb);clear hb ho55;obtain ⟨hnb3,hnc3⟩:=n2_ NB2_1;obtain ⟨hnb4,hnc4⟩:=n2_ NB2_0;have hcz2:=z3_ BK2;obtain ⟨Ao2,co2,eo2⟩:=Kd.R_slice HO_1.out;subst eo2)|(go_at_call 59;(with_reducible refine (aK.calls g s0_0 xc xd 2 true t7 t8 w0 _ ?_ ?_ A4.out).mono ?_);exact bQ;exact ce;rintro e w5 ⟨rfl,hi,hb,hk⟩;replace HO_1:=A0_ (Kd.R_mono (Kd.R_keep (al.apart (show al w0 _ g s0_0 xc xd from bQ) aD ao) hk (fun _ h=>h.2)) (fun _ h=>h.1));replace BK1:=da BK1 hk NB1_0;replace BK2:=da BK2 hk NB2_0;replace HO2:=A0_ (Kd.R_mono (Kd.R_keep (al.apart (show al w0 _ g s0_0 xc xd from bQ) cQ ao) hk (fun _ h=>h.2)) (fun _ h=>h.1));replace HK:=A0_ (ah.trans bV hk (.inl rfl));replace HB:=A0_ (hb);replace HI0:=A0_ (hi);(try clear hb hk hi)))
 replace HO_1:=A0_ (rd_ HO_1.out);replace HO2:=A0_ (rd_ HO2.out);replace BK1:=A0_ (kd_ BK1.out);replace BK2:=A0_ (kd_ BK2.out);replace HI0:=A0_ (al.drew HI0.out);replace HK:=A0_ (dD HK.out);replace HB:=A0_ (bd_ HB.out);have p1:0≤(t9:Int):=od_ aE;have q1:t9<(xa.length:Int):=od_ aE;obtain ⟨ad1,e1,hx1_0⟩:=Kd.at_int (rr_ HO_1.out).2.2 t9 p1 q1;cases e1;replace p1:=eq_true p1;replace q1:=eq_true q1
 refine dh (n:=11) (S:=fun w'=>w'.cell? ⟨gb2,0,none⟩=some (.int .i64 xb)∧w'.cell? ⟨gb2,1,none⟩=some (.bool t2)∧w'.cell? ⟨gb2,2,none⟩=some (.slice (some ad1) xa.length co2)∧w'.cell? (ad1.add (t9).toNat)=some (.int .i64 (rd xa t9))) (ds:=[8,9]) #[false,false,false,false,false,false,false,false,false,false,false] bS rfl rfl (a3_ BK2 hx1_0) (fun hHeld=>?_);refine dc ae.tab9 ae.bits9 (fun HT_ HW_=>?_)
 generalize w5.drew=w6 at HO_1 HO2 BK1 BK2 HI0 HK HB hx1_0 hHeld ⊢
 refine pu_ 0 38 ?_
 refine pu_ 1 39 ?_
 refine pu_ 3 41 ?_
 refine pu_ 4 42 ?_
 refine tk_ 2 40 hHeld ?_
 refine on_ 5 (some 43) (fun K hK=>?_)
 refine gs_ Tryd.func60 #[.pointer (some ⟨g,0,none⟩),.int .i64 (xa.length:Int)] ?_
 with_reducible refine (bC.calls g s0_0 t7 t8 (xa.length:Int) t9 t10 t11 w0 _ ?_ ?_ A6.out).mono ?_
 exact bQ
 exact ce
 rintro e w7 ⟨rfl,hi,hb,hk⟩;have HS3_:=jk hk (hHeld.2.2.2) (by first|(rw [dd];exact Kd.own_blk (al.own_ne HI0.out HO_1.out ao))|(show (Addr.add _ _).block≠_;rw [dd];exact Kd.own_blk (al.own_ne HI0.out HO_1.out ao))|exact Kd.own_blk (al.own_ne HI0.out HO_1.out ao))
 refine ⟨_,rfl,?_⟩
 replace HO_1:=A0_ (Kd.R_mono (Kd.R_keep (al.apart (show al w0 _ g s0_0 t7 t8 from bQ) aD ao) hk (fun _ h=>h.2)) (fun _ h=>h.1));replace BK1:=da BK1 hk NB1_0;replace BK2:=da BK2 hk NB2_0;replace HO2:=A0_ (Kd.R_mono (Kd.R_keep (al.apart (show al w0 _ g s0_0 t7 t8 from bQ) cQ ao) hk (fun _ h=>h.2)) (fun _ h=>h.1));replace HK:=A0_ (ah.trans bV hk (.inl rfl));replace HB:=A0_ (hb);replace HI0:=A0_ (hi)
 (try clear hb hk hi)
 refine hK.out _ _ (a3_ BK2 HS3_) (fun hHeld=>?_)
 clear hK K
 refine nm_ 43 ?_
 refine pu_ 6 44 ?_
 refine tk_ 7 45 hHeld ?_
 refine iW (i:=8) (N:=some 46) #[true,true,true,true,true,true,true,true,true,false,false] rfl rfl (gD HT_.out bS) ao (fun K hK=>?_)
 refine jj (w1:=?_) (v:=?_) (by rfl) rfl ?_ ?_
 rotate_left 2
 ·go_simp
  constructor
  ·rfl
  rfl
 refine hK.out _ _ ?_
 clear hK K
 refine nm_ 46 ?_
 refine iW (i:=9) (N:=some 47) #[true,true,true,true,true,true,true,true,true,true,false] rfl rfl (gD HT_.out bS) ao (fun K hK=>?_)
 refine Kd.R_append_step (Kd.int .i64) w.heap.size (by rfl) (.tmp 38) (.tmp 46) 22 3 (.int .i64 0) 8 rfl Tryd.underlying22 cP rfl ao bL v5 y1 (rd xa t9) [.int .i64 (rd xa t9)] (fun k_=>no_ (.slice (some ad1) xa.length co2) k_) (fun _=>False) rfl rfl ?aP (fun _ hk=>hk.elim) ?aF ?aO (Below.refl _ _) ?aS ?aL ?_
 (case aP=>exact rfl)
 (case aF=>exact (fun k_ hk=>Kd.fresh' (Kd.R_lt aD) k_ hk))
 (case aO=>exact fT)
 (case aS=>exact (cr (w:=w) (g:=g) (row:=none) bV))
 (case aL=>have:=LMc1.out;omega)
 intro v6 w8 ho hb hg hat;rw [← Ny2.out] at ho;have n0_:=A0_ (Kd.R_after (ok:=(fun _=>True)) aD hg hat);have n1_:=A0_ (a6 (g:=gb1) (o:=.cells #[.int .i64 0,.bool false,.slice none 0 0] 26 (0,0)) (u1_ BK1) hg (Kd.R_ne HO2.out BK1.out ao));have n2_:=A0_ (a6 (g:=gb2) (o:=.cells #[.int .i64 xb,.bool t2,.slice (some ad1) xa.length co2] 26 (0,0)) (u1_ BK2) hg (Kd.R_ne HO2.out BK2.out ao));have n3_:=A0_ (al.grown bQ hg (al.own_ne HI0.out HO2.out ao));have n4_:=A0_ (gE ce HL.out hb);have n5_:=A0_ (ah.trans bV (ah.of_grown hg g) (Kd.R_base2 HO2.out));have n6_:=A0_ (ho);clear HO_1 BK1 BK2 HI0 HB HK HO2;have HO_1:=n0_;have BK1:=n1_;have BK2:=n2_;have HI0:=n3_;have HB:=n4_;have HK:=n5_;have HO3:=n6_;clear n0_ n1_ n2_ n3_ n4_ n5_ n6_ ho hb hg hat
 refine hK.out _ _ ?_
 clear hK K
 refine nm_ 47 ?_
 refine pu_ 10 4 ?_
 refine dn_ ?_
 obtain ⟨Ao3,co3,eo3⟩:=Kd.R_slice HO3.out;subst eo3;have hcz3:=z3_ BK2;obtain ⟨hnb5,hnc5⟩:=n2_ NB1_0;have hcz4:=z3_ BK1
 try go_wp2
 refine bodyPost_ret (results_cell_row rfl _ _ gb1 26 #[.int .i64 xb,.bool t2,.slice Ao3 y2.length co3] (0,0) _ rfl (u1_ BK1) Tryd.underlying26 rfl bS) rfl ?_
 exact ⟨_,bc,by (with_reducible repeat (first|apply ra_|apply rn_|apply rd_));exact Kd.R_mono (cf (rf_ (Kd.R_types (Kd.R_types HO3.out BK2.out ao) BK1.out ao) (fun _ hk=>hk.1.2) (.slice Ao3 y2.length co3))) (fun _ hk=>trivial),bQ,ce,bV⟩

end Go.Proofs.YtgcgmlbjklkkjaaDoor.QFnGame
-- packed
-- squeezed
