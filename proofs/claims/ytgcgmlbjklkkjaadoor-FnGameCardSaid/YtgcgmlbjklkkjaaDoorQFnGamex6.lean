-- Written by px.py, a program of this session, over the kit's printer: some functions have a definition and a proof of this session's own.
import Derived.Test.YtgcgmlbjklkkjaaDoorQFnGamex0
import Derived.Test.YtgcgmlbjklkkjaaDoorQFnGamex1
import Derived.Test.YtgcgmlbjklkkjaaDoorQFnGamex2
import Derived.Test.YtgcgmlbjklkkjaaDoorQFnGamex3
import Derived.Test.YtgcgmlbjklkkjaaDoorQFnGamex4
import Derived.Test.YtgcgmlbjklkkjaaDoorQFnGamex5
namespace Go.Proofs.YtgcgmlbjklkkjaaDoor.QFnGame
open Go.RowKit Go.Proofs.YtgcgmlbjklkkjaaDoorW.PrintWords Go.Proofs.YtgcgmlbjklkkjaaDoorW.PrintLast Go.Proofs.YtgcgmlbjklkkjaaDoorW.PrintMore
attribute [local go_sem] fq ft gc gf eW eX fu fv   -- for this text's walks alone
set_option linter.unusedVariables false
set_option linter.unusedSimpArgs false
set_option maxHeartbeats 80000000
set_option maxRecDepth 100000

mutual
def laws_FnGame.j0:Nat→List Int→Int→List Int→Bool→Bool→Int→Bool→List Int→Option (Bool)
 | 0,_,_,_,_,_,_,_,_=>none
 | k+1,x0,x4,x5,x6,x96,xa,xb,xc=>if x96=true then (none) else ((a9.f k xa xb xc x4).bind fun bt794=>((ck.f k xa xb xc x4).bind fun bt796=>(if bt794.1=bt796.1 then (if (bt794.2 != bt796.2)=true then (none) else (laws_FnGame.j1 k x0 x4 x5 x6 bt794.1 (bt794.2 != x6) xa xb xc)) else (none))))
def laws_FnGame.j1:Nat→List Int→Int→List Int→Bool→Int→Bool→Int→Bool→List Int→Option (Bool)
 | 0,_,_,_,_,_,_,_,_,_=>none
 | k+1,x0,x4,x5,x6,x9,x121,xa,xb,xc=>if x121=true then (none) else ((cR.f k xa xb xc x4).bind fun bt798=>((dj.f k xa xb xc x4).bind fun bt800=>(if (bt798.1 != bt800.1)=true then (none) else (if (bt798.2 != bt800.2)=true then (none) else (laws_FnGame.j2 k x0 x4 x5 x6 x9 bt798.1 (bt798.2 != x6) xa xb xc)))))
def laws_FnGame.j2:Nat→List Int→Int→List Int→Bool→Int→Bool→Bool→Int→Bool→List Int→Option (Bool)
 | 0,_,_,_,_,_,_,_,_,_,_=>none
 | k+1,x0,x4,x5,x6,x9,x13,x146,xa,xb,xc=>if x146=true then (none) else ((bj.f k xa xb xc x4).bind fun bt802=>((bP.f k xa xb xc x4).bind fun bt806=>(if (bt802.2 != bt806.2)=true then (none) else (if (bt802.2 != x6)=true then (none) else ((bN.f k bt802.1 bt806.1).bind fun t810=>(laws_FnGame.j3 k x0 x4 x5 x6 x9 x13 bt802.1 (!t810) xa xb xc))))))
def laws_FnGame.j3:Nat→List Int→Int→List Int→Bool→Int→Bool→List Int→Bool→Int→Bool→List Int→Option (Bool)
 | 0,_,_,_,_,_,_,_,_,_,_,_=>none
 | k+1,x0,x4,x5,x6,x9,x13,x17,x172,xa,xb,xc=>if x172=true then (none) else ((aJ.f k xa xb xc x4).bind fun bt811=>((aH.f k xa xb xc x4).bind fun bt815=>(if (bt811.2 != bt815.2)=true then (none) else (if (bt811.2 != x6)=true then (none) else ((bN.f k bt811.1 bt815.1).bind fun t819=>(laws_FnGame.j4 k x0 x4 x5 x6 x9 x13 x17 bt811.1 (!t819) xa xb xc))))))
def laws_FnGame.j4:Nat→List Int→Int→List Int→Bool→Int→Bool→List Int→List Int→Bool→Int→Bool→List Int→Option (Bool)
 | 0,_,_,_,_,_,_,_,_,_,_,_,_=>none
 | k+1,x0,x4,x5,x6,x9,x13,x17,x21,x198,xa,xb,xc=>if x198=true then (none) else ((aw.f k xa xb xc x4).bind fun bt820=>((af.f k xa xb xc x4).bind fun bt823=>(if bt820.1=bt823.1 then (if bt820.2.1=bt823.2.1 then (if (bt820.2.2 != bt823.2.2)=true then (none) else (laws_FnGame.j5 k x0 x4 x5 x6 x9 x13 x17 x21 bt820.1 bt820.2.1 (bt820.2.2 != x6) xa xb xc)) else (none)) else (none))))
def laws_FnGame.j5:Nat→List Int→Int→List Int→Bool→Int→Bool→List Int→List Int→Int→Int→Bool→Int→Bool→List Int→Option (Bool)
 | 0,_,_,_,_,_,_,_,_,_,_,_,_,_,_=>none
 | k+1,x0,x4,x5,x6,x9,x13,x17,x21,x25,x26,x230,xa,xb,xc=>if x230=true then (none) else ((cC.f k x0).bind fun bt826=>((aU.f k bt826.1 bt826.2.1 bt826.2.2.1 bt826.2.2.2.1 bt826.2.2.2.2).bind fun bt834=>((ch.f k bt826.1 bt826.2.1 bt826.2.2.1 bt826.2.2.2.1 bt826.2.2.2.2).bind fun bt841=>(if (bt834.2.2.2 != bt841.2.2.2)=true then (none) else ((d7.f k bt834.1 bt834.2.1 bt834.2.2.1 bt841.1 bt841.2.1 bt841.2.2.1).bind fun t848=>(laws_FnGame.j6 k x0 x4 x5 x6 x9 x13 x17 x21 x25 x26 (!t848) xa xb xc))))))
def laws_FnGame.j6:Nat→List Int→Int→List Int→Bool→Int→Bool→List Int→List Int→Int→Int→Bool→Int→Bool→List Int→Option (Bool)
 | 0,_,_,_,_,_,_,_,_,_,_,_,_,_,_=>none
 | k+1,x0,x4,x5,x6,x9,x13,x17,x21,x25,x26,x259,xa,xb,xc=>if x259=true then (none) else ((ct.f k x0).bind fun bt849=>((aa.f k bt849.1 bt849.2.1 bt849.2.2.1 bt849.2.2.2).bind fun bt856=>((aT.f k bt849.1 bt849.2.1 bt849.2.2.1 bt849.2.2.2).bind fun bt858=>(if (bt856.1 != bt858.1)=true then (none) else (laws_FnGame.j7 k x4 x5 x6 x9 x13 x17 x21 x25 x26 bt849.2.2.2 bt856.1 bt856.2 (bt856.2 != bt858.2) xa xb xc bt849.1 bt849.2.1 bt849.2.2.1)))))
def laws_FnGame.j7:Nat→Int→List Int→Bool→Int→Bool→List Int→List Int→Int→Int→Int→Bool→Bool→Bool→Int→Bool→List Int→Int→Bool→List Int→Option (Bool)
 | 0,_,_,_,_,_,_,_,_,_,_,_,_,_,_,_,_,_,_,_=>none
 | k+1,x4,x5,x6,x9,x13,x17,x21,x25,x26,x39,x40,x41,x284,xa,xb,xc,xd,xe,xf=>if x284=true then (none) else (if x41=true then ((bj.f k xd xe xf x39).bind fun bt860=>(if bt860.2=true then (laws_FnGame.l0 k x4 x5 x6 x9 x13 x17 x21 x25 x26 x39 x40 bt860.1 ((bt860.1.length:Int) == 0) 0 xa xb xc xd xe xf) else (none))) else (laws_FnGame.j9 k x4 x5 x6 x9 x13 x17 x21 x25 x26 xa xb xc))
def laws_FnGame.j9:Nat→Int→List Int→Bool→Int→Bool→List Int→List Int→Int→Int→Int→Bool→List Int→Option (Bool)
 | 0,_,_,_,_,_,_,_,_,_,_,_,_=>none
 | k+1,x4,x5,x6,x9,x13,x17,x21,x25,x26,xa,xb,xc=>if x6=true then (if (x13 != (decide (x9 > 0)))=true then (none) else (if (x13 != (decide ((x5.length:Int) > 0)))=true then (none) else (if (x13 != (((x21.length:Int) % 2) == 1))=true then (none) else (if (x21.length:Int)<x25 then (none) else (laws_FnGame.j10 k x4 x5 x9 x17 x21 (decide ((x21.length:Int) > x26)) xa xb xc))))) else (some true)
def laws_FnGame.j10:Nat→Int→List Int→Int→List Int→List Int→Bool→Int→Bool→List Int→Option (Bool)
 | 0,_,_,_,_,_,_,_,_,_=>none
 | k+1,x4,x5,x9,x17,x21,x365,xa,xb,xc=>if x365=true then (none) else (laws_FnGame.l1 k x4 x5 x9 x17 x21 0 xa xb xc xa xb xc)
def laws_FnGame.l1:Nat→Int→List Int→Int→List Int→List Int→Int→Int→Bool→List Int→Int→Bool→List Int→Option (Bool)
 | 0,_,_,_,_,_,_,_,_,_,_,_,_=>none
 | k+1,x4,x5,x9,x17,x21,x53,xa,xb,xc,xd,xe,xf=>if x53<(x21.length:Int) then (if 0≤x53 then ((aU.f k xd xe xf x4 (rd x21 x53)).bind fun bt876=>(if bt876.2.2.2=true then (laws_FnGame.l1 k x4 x5 x9 x17 x21 (wrap64 (x53+1)) xa xb xc bt876.1 bt876.2.1 bt876.2.2.1) else (none))) else (none)) else ((bj.f k xd xe xf x4).bind fun bt883=>((cj.f k xa xb xc).bind fun bt887=>((a9.f k bt887.1 bt887.2.1 bt887.2.2.1 x4).bind fun bt894=>(if bt883.2=true then (if bt887.2.2.2=true then (if bt894.2=true then (if (bt883.1.length:Int)=0 then (laws_FnGame.j12 k x4 x5 x9 x17 (bt894.1 != x9) xa xb xc) else (none)) else (none)) else (none)) else (none)))))
def laws_FnGame.j12:Nat→Int→List Int→Int→List Int→Bool→Int→Bool→List Int→Option (Bool)
 | 0,_,_,_,_,_,_,_,_=>none
 | k+1,x4,x5,x9,x17,x422,xa,xb,xc=>if x422=true then (none) else (laws_FnGame.l2 k x4 x5 x9 x17 (([]:List Int)) 0 xa xb xc)
def laws_FnGame.l2:Nat→Int→List Int→Int→List Int→List Int→Int→Int→Bool→List Int→Option (Bool)
 | 0,_,_,_,_,_,_,_,_,_=>none
 | k+1,x4,x5,x9,x17,x62,x63,xa,xb,xc=>if x63<(x17.length:Int) then (if 0≤x63 then ((aU.f k xa xb xc x4 (rd x17 x63)).bind fun bt900=>((a9.f k bt900.1 bt900.2.1 bt900.2.2.1 x4).bind fun bt907=>(if bt900.2.2.2=true then (if bt907.2=true then ((b7.f k x5 (rd x17 x63)).bind fun t910=>(if (t910 != (bt907.1 == 0))=true then (none) else (if x62.length<17592186044416 then (laws_FnGame.l2 k x4 x5 x9 x17 (x62++[bt907.1]) (wrap64 (x63+1)) xa xb xc) else (none)))) else (none)) else (none)))) else (none)) else (laws_FnGame.l3 k x9 x62 0)
def laws_FnGame.l3:Nat→Int→List Int→Int→Option (Bool)
 | 0,_,_,_=>none
 | k+1,x9,x62,x68=>(b7.f k x62 x68).bind fun t914=>(if t914=true then (laws_FnGame.l3 k x9 x62 (wrap64 (x68+1))) else (some (x68 == x9)))
def laws_FnGame.l0:Nat→Int→List Int→Bool→Int→Bool→List Int→List Int→Int→Int→Int→Bool→List Int→Bool→Int→Int→Bool→List Int→Int→Bool→List Int→Option (Bool)
 | 0,_,_,_,_,_,_,_,_,_,_,_,_,_,_,_,_,_,_,_,_=>none
 | k+1,x4,x5,x6,x9,x13,x17,x21,x25,x26,x39,x40,x44,x46,x47,xa,xb,xc,xd,xe,xf=>if x47<(x44.length:Int) then (if 0≤x47 then ((aU.f k xd xe xf x39 (rd x44 x47)).bind fun bt865=>((aa.f k bt865.1 bt865.2.1 bt865.2.2.1 x39).bind fun bt872=>(if bt865.2.2.2=true then (if bt872.2=true then (if x46=true then (laws_FnGame.l0 k x4 x5 x6 x9 x13 x17 x21 x25 x26 x39 x40 x44 true (wrap64 (x47+1)) xa xb xc xd xe xf) else (laws_FnGame.l0 k x4 x5 x6 x9 x13 x17 x21 x25 x26 x39 x40 x44 (!bt872.1) (wrap64 (x47+1)) xa xb xc xd xe xf)) else (none)) else (none)))) else (none)) else (if (x46 != x40)=true then (none) else (laws_FnGame.j9 k x4 x5 x6 x9 x13 x17 x21 x25 x26 xa xb xc))
end
def laws_FnGame.f (k:Nat) (l0:List Int):Option (Bool):=(fO.f l0).bind fun t777=>(if t777=true then (some true) else ((cw.f k l0).bind fun bt778=>((bK.f k bt778.1 bt778.2.1 bt778.2.2.1 bt778.2.2.2).bind fun bt785=>((cx.f k bt778.1 bt778.2.1 bt778.2.2.1 bt778.2.2.2).bind fun bt789=>(if (bt785.2 != bt789.2)=true then (none) else ((bN.f k bt785.1 bt789.1).bind fun t793=>(laws_FnGame.j0 k l0 bt778.2.2.2 bt785.1 bt785.2 (!t793) bt778.1 bt778.2.1 bt778.2.2.1)))))))
def laws_FnGame.T46:Bool × List (List Nat × List Nat):=(true,[([],[]),([],[]),([],[]),([],[]),([2,3],[2,3]),([4],[4]),([0,1,5],[0,1,5]),([6],[6]),([7],[7]),([7],[7]),([],[]),([10,8,6,0,1,2,3,4,5,6,7,8,10],[8,10]),([9,11,0,1,2,3,4,5,6,7,8,9,10,11],[9])])
def laws_FnGame.B46:List Nat:=[0,0,0,0,12,28,63,127,255,255,0,1535,4095]
theorem laws_FnGame.tab46:dx .any (dX Tryd.f4 46)=laws_FnGame.T46:=by kernel_rfl
theorem laws_FnGame.bits46:cp laws_FnGame.T46.2 laws_FnGame.B46=true:=by kernel_rfl
def laws_FnGame.T61:Bool × List (List Nat × List Nat):=(true,[([],[]),([],[]),([],[]),([],[]),([2,3],[2,3]),([4],[4]),([0,1,5],[0,1,5]),([6],[6]),([7],[7]),([7],[7]),([],[]),([10,8,6,0,1,2,3,4,5,6,7,8,10],[8,10]),([9,11,0,1,2,3,4,5,6,7,8,9,10,11],[9])])
def laws_FnGame.B61:List Nat:=[0,0,0,0,12,28,63,127,255,255,0,1535,4095]
theorem laws_FnGame.tab61:dx .any (dX Tryd.f4 61)=laws_FnGame.T61:=by kernel_rfl
theorem laws_FnGame.bits61:cp laws_FnGame.T61.2 laws_FnGame.B61=true:=by kernel_rfl
def laws_FnGame.T74:Bool × List (List Nat × List Nat):=(true,[([],[]),([],[]),([],[]),([],[]),([2,3],[2,3]),([4],[4]),([0,1,5],[0,1,5]),([6],[6]),([7],[7]),([7],[7]),([],[]),([10,8,6,0,1,2,3,4,5,6,7,8,10],[8,10]),([9,11,0,1,2,3,4,5,6,7,8,9,10,11],[9])])
def laws_FnGame.B74:List Nat:=[0,0,0,0,12,28,63,127,255,255,0,1535,4095]
theorem laws_FnGame.tab74:dx .any (dX Tryd.f4 74)=laws_FnGame.T74:=by kernel_rfl
theorem laws_FnGame.bits74:cp laws_FnGame.T74.2 laws_FnGame.B74=true:=by kernel_rfl
theorem laws_FnGame.calls (k:Nat) (A0:Option Addr) (c0:Nat) (l0:List Int) (r:Bool) (w:World) (hr0:Kd.C (Kd.int .u8) w A0 l0.length l0) (hc0:l0.length≤c0) (hG:TabOK w) (H:laws_FnGame.f k l0=some r) :
  Calls Tryd.prog 4 #[.slice A0 l0.length c0] w fun e w'=>e=.returned (.bool r)∧Below w.heap.size w w':=by
 have HG0:=A0_ hG;clear hG;have hu26:=Tryd.underlying26;have HR0:=A0_ hr0;have HC0:=A0_ hc0;clear hr0 hc0;have HB:=A0_ (Below.refl w.heap.size w);unfold laws_FnGame.f at H;obtain ⟨t1,A2,H⟩:=o1_ H
 by_cases c1:t1=true
 ·subst c1
  rw [if_pos rfl] at H;obtain rfl:=si_ H;go_enter Tryd.func4,Tryd.ntmps4
  go_wp2_with (first|((with_reducible refine gc_ (f:=12) rfl ?_);refine gl_ 70 Tryd.func12 #[.slice A0 l0.length c0] ?_;(with_reducible refine (fO.calls _ _ l0 true _ ?_ ?_ A2.out).mono ?_);exact mw;exact HC0.out;rintro e w' ⟨rfl,⟨nd,rfl⟩⟩;refine ⟨_,rfl,?_⟩))
  go_ret
  exact ⟨bc,am⟩
 ·obtain rfl:=bf_.mpr c1
  rw [if_neg ft_] at H;obtain ⟨⟨t3,t4,t5,t6⟩,A4,H⟩:=o1_ H;obtain ⟨⟨t7,t8⟩,A6,H⟩:=o1_ H;obtain ⟨⟨t9,t10⟩,A8,H⟩:=o1_ H;have HC7:=A0_ H;clear H;go_enter Tryd.func4,Tryd.ntmps4
  go_upto_region 6 with (first|((with_reducible refine gc_ (f:=12) rfl ?_);refine gl_ 70 Tryd.func12 #[.slice A0 l0.length c0] ?_;(with_reducible refine (fO.calls _ _ l0 false _ ?_ ?_ A2.out).mono ?_);exact mw;exact HC0.out;rintro e w' ⟨rfl,⟨nd,rfl⟩⟩;refine ⟨_,rfl,?_⟩)|((with_reducible refine gc_ (f:=13) rfl ?_);refine gl_ 73 Tryd.func13 #[.slice A0 l0.length c0] ?_;(with_reducible refine (cw.calls k _ _ l0 t3 t4 t5 t6 _ ?_ ?_ A4.out).mono ?_);exact mw;exact HC0.out;rintro e w1 ⟨v1,rfl,ho0,hb⟩;refine ⟨_,rfl,?_⟩;have HO1:=A0_ (Kd.R_lower ho0 (bz_ am));replace HB:=hb_ hb am;(try clear hb ho0))|((with_reducible refine gd_ (N:=3) rfl ?_);(try (refine cL (by rfl) ?_;dsimp only));refine bx_ 3 #[.int .i64 0,.bool false,.slice none 0 0] 26 ?_;intro gb1 hg w2 BK1 hb;replace HO1:=q1_ HO1 hb;have GW1:=ge_ hg am;have GE1:=GW1;replace HB:=hb_ hb am;clear hb hg;have hcz1:=z3_ BK1;obtain ⟨Ao1,co1,eo1⟩:=Kd.R_slice HO1.out;subst eo1)|((with_reducible refine gc_ (f:=14) rfl ?_);refine gl_ 79 Tryd.func14 #[.agg #[.int .i64 t3,.bool t4,.slice Ao1 t5.length co1],.int .i64 t6] ?_;(with_reducible refine (bK.calls k t3 t4 _ _ t5 t6 t7 t8 _ ?_ ?_ A6.out).mono ?_);(refine (rr_ (e:=3) (base:=w.heap.size) (ok:=fun k_=>True) (n:=t5.length) (c:=co1) ?_).2.2;exact oW);exact (rr_ HO1.out).2.1;rintro e w3 ⟨v2,rfl,ho0,hb⟩;refine ⟨_,rfl,?_⟩;have HO2:=A0_ (Kd.R_lower (Kd.R_new' ho0 (Kd.R_lt oW)) (bz_ ab));replace HO1:=A0_ (Kd.R_elder' oW (Kd.R_base ho0) hb);replace BK1:=k2_ (.cells #[.int .i64 t3,.bool t4,.slice Ao1 t5.length co1] 26 (0,0)) BK1 hb;replace HB:=hb_ hb ab;(try clear hb ho0);have hcz2:=z3_ BK1)|((with_reducible refine gc_ (f:=15) rfl ?_);refine gl_ 85 Tryd.func15 #[.agg #[.int .i64 t3,.bool t4,.slice Ao1 t5.length co1],.int .i64 t6] ?_;(with_reducible refine (cx.calls k t3 t4 _ _ t5 t6 t9 t10 _ ?_ ?_ A8.out).mono ?_);exact fE;exact (rr_ HO1.out).2.1;rintro e w4 ⟨v3,rfl,ho0,hb⟩;refine ⟨_,rfl,?_⟩;have HO3:=A0_ (Kd.R_lower (Kd.R_new' (Kd.R_new' ho0 (Kd.R_lt bR)) (Kd.R_lt cQ)) (bz_ ab));replace HO1:=A0_ (Kd.R_elder' bR (Kd.R_base ho0) hb);replace HO2:=A0_ (Kd.R_elder' cQ (Kd.R_base ho0) hb);replace BK1:=k1_ BK1 hb;replace HB:=hb_ hb ab;(try clear hb ho0)))
  (try simp only [Act.put,sa_,sz_,ss_])
  go_cut [96] from 69 to 96 (fun v4 wc=>∃ (kq:Nat) (x96_6:Bool),v4=.bool x96_6∧Aside0 (laws_FnGame.j0 kq l0 t6 t7 t8 x96_6 t3 t4 t5=some r)∧Aside0 (kq≤k)∧Aside0 (Kd.R (Kd.int .i64) 3 wc w.heap.size (fun k_=>no_ (.slice Ao1 t5.length co1) k_) v2 t7)∧Aside0 (Kd.R (Kd.int .i64) 3 wc w.heap.size (fun k_=>no_ v2 k_) (.slice Ao1 t5.length co1) t5)∧Aside0 (wc.heap[gb1]?=some (.cells #[.int .i64 t3,.bool t4,(.slice Ao1 t5.length co1)] 26 (0,0)))∧Aside0 (Below w.heap.size w wc))
  case first =>
   have H:=HC7.out;clear HC7
   by_cases c2:(t8 != t10)=true
   ·rw [if_pos c2] at H
    exact absurd H bx
   rw [if_neg c2] at H
   have c2b0:(t8 != t10)=false:=by simpa using c2
   (try (have c2b1:decide (t8=t10)=true:=by simpa using c2))
   (try (have c2b2:(t8 == t10)=true:=by simpa using c2))
   clear c2
   (first|rw [c2b0]|(simp only [cH,dC];rw [c2b0])|skip)
   obtain ⟨t2,A10,H⟩:=o1_ H;have H':=A0_ H;clear H;obtain ⟨Ao2,co2,eo2⟩:=Kd.R_slice HO2.out;subst eo2;obtain ⟨Ao3,co3,eo3⟩:=Kd.R_slice HO3.out;subst eo3
   go_wp2_with (first|(go_at_call 16;(with_reducible refine (bN.calls k _ _ t7 _ _ t9 t2 _ ?_ ?_ ?_ ?_ A10.out).mono ?_);exact nD;exact (rr_ HO2.out).2.1;exact kk;exact (rr_ HO3.out).2.1;rintro e w' ⟨rfl,⟨nd,rfl⟩⟩))
   go_meet
   exact ⟨_,(!t2),aC,H',⟨eH⟩,⟨by (with_reducible repeat (first|apply ra_|apply rn_|apply rd_));exact Kd.R_mono HO2.out (fun _ hk=>hk.1.2)⟩,⟨by (with_reducible repeat (first|apply ra_|apply rn_|apply rd_));exact Kd.R_mono HO1.out (fun _ hk=>hk.1.2)⟩,⟨u1_ BK1⟩,⟨ab⟩⟩
  clear HC7
  try clear c1
  (try clear hcz1);(try clear hcz2);(try clear hfz1);(try clear hfz2)
  obtain ⟨kq,x96_6,rfl,HA,HJ1,HO_1,HO_2,BK1,HB⟩:=hcut
  cases kq with|zero=>exact absurd HA.out (by simp [laws_FnGame.j0])|succ kj1=>?_
  as_aux_lemma =>
  have H:=HA.out;clear HA;simp only [laws_FnGame.j0] at H
  by_cases c2:x96_6=true
  ·subst c2
   have H1:(none)=some r:=by rw [if_pos rfl] at H;exact H
   exact absurd H1 bx
  obtain rfl:=bf_.mpr c2;rw [if_neg ft_] at H;obtain ⟨⟨t11,t12⟩,A1,H⟩:=o1_ H;obtain ⟨⟨t13,t14⟩,A11,H⟩:=o1_ H;have HC22:=A0_ H;clear H;have hcz3:=z3_ BK1
  go_upto_region 10 with (first|((with_reducible refine gc_ (f:=17) rfl ?_);refine gl_ 100 Tryd.func17 #[.agg #[.int .i64 t3,.bool t4,.slice Ao1 t5.length co1],.int .i64 t6] ?_;(with_reducible refine (a9.calls kj1 t3 t4 _ _ t5 t6 t11 t12 _ ?_ ?_ A1.out).mono ?_);exact e7;exact (rr_ HO_2.out).2.1;rintro e w5 ⟨rfl,hb⟩;refine ⟨_,rfl,?_⟩;replace HO_1:=q1_ HO_1 hb;replace HO_2:=q1_ HO_2 hb;replace BK1:=k1_ BK1 hb;replace HB:=hb_ hb ab;(try clear hb);have hcz4:=z3_ BK1)|((with_reducible refine gc_ (f:=18) rfl ?_);refine gl_ 106 Tryd.func18 #[.agg #[.int .i64 t3,.bool t4,.slice Ao1 t5.length co1],.int .i64 t6] ?_;(with_reducible refine (ck.calls kj1 t3 t4 _ _ t5 t6 t13 t14 _ ?_ ?_ A11.out).mono ?_);exact e7;exact (rr_ HO_2.out).2.1;rintro e w6 ⟨rfl,hb⟩;refine ⟨_,rfl,?_⟩;replace HO_1:=q1_ HO_1 hb;replace HO_2:=q1_ HO_2 hb;replace BK1:=k1_ BK1 hb;replace HB:=hb_ hb ab;(try clear hb)))
  (try simp only [Act.put,sa_,sz_,ss_])
  go_cut [121] from 97 to 121 (fun v5 wc=>∃ (kq:Nat) (x121_21:Bool),v5=.bool x121_21∧Aside0 (laws_FnGame.j1 kq l0 t6 t7 t8 t11 x121_21 t3 t4 t5=some r)∧Aside0 (kq≤kj1)∧Aside0 (Kd.R (Kd.int .i64) 3 wc w.heap.size (fun k_=>no_ (.slice Ao1 t5.length co1) k_) v2 t7)∧Aside0 (Kd.R (Kd.int .i64) 3 wc w.heap.size (fun k_=>no_ v2 k_) (.slice Ao1 t5.length co1) t5)∧Aside0 (wc.heap[gb1]?=some (.cells #[.int .i64 t3,.bool t4,(.slice Ao1 t5.length co1)] 26 (0,0)))∧Aside0 (Below w.heap.size w wc))
  case first =>
   have H:=HC22.out;clear HC22;obtain ⟨c3,H⟩:=is_ H;obtain ⟨c3b0,c3b1⟩:=et_ c3;clear c3
   (first|rw [c3b0]|(simp only [cH,dC];rw [c3b0])|skip)
   by_cases c4:(t12 != t14)=true
   ·rw [if_pos c4] at H
    exact absurd H bx
   rw [if_neg c4] at H
   have c4b0:(t12 != t14)=false:=by simpa using c4
   (try (have c4b1:decide (t12=t14)=true:=by simpa using c4))
   (try (have c4b2:(t12 == t14)=true:=by simpa using c4))
   clear c4;have H':=A0_ H;clear H
   go_wp2
   go_meet
   exact ⟨_,((t12 != t8)),aC,H',⟨ki⟩,⟨aD⟩,⟨bW⟩,⟨u1_ BK1⟩,⟨ab⟩⟩
  clear HC22
  try clear c1
  try clear c2
  (try clear hcz1);(try clear hcz2);(try clear hcz3);(try clear hcz4);(try clear hfz1);(try clear hfz2);(try clear hfz3);(try clear hfz4)
  obtain ⟨kq,x121_21,rfl,HA,HJ2,HO_1,HO_2,BK1,HB⟩:=hcut
  cases kq with|zero=>exact absurd HA.out (by simp [laws_FnGame.j1])|succ kj2=>?_
  as_aux_lemma =>
  have H:=HA.out;clear HA;simp only [laws_FnGame.j1] at H
  by_cases c3:x121_21=true
  ·subst c3
   have H1:(none)=some r:=by rw [if_pos rfl] at H;exact H
   exact absurd H1 bx
  obtain rfl:=bf_.mpr c3;rw [if_neg ft_] at H;obtain ⟨⟨t15,t16⟩,A13,H⟩:=o1_ H;obtain ⟨⟨t17,t18⟩,A15,H⟩:=o1_ H;have HC32:=A0_ H;clear H;have hcz5:=z3_ BK1
  go_upto_region 14 with (first|((with_reducible refine gc_ (f:=19) rfl ?_);refine gl_ 125 Tryd.func19 #[.agg #[.int .i64 t3,.bool t4,.slice Ao1 t5.length co1],.int .i64 t6] ?_;(with_reducible refine (cR.calls kj2 t3 t4 _ _ t5 t6 t15 t16 _ ?_ ?_ A13.out).mono ?_);exact e7;exact (rr_ HO_2.out).2.1;rintro e w7 ⟨rfl,hb⟩;refine ⟨_,rfl,?_⟩;replace HO_1:=q1_ HO_1 hb;replace HO_2:=q1_ HO_2 hb;replace BK1:=k1_ BK1 hb;replace HB:=hb_ hb ab;(try clear hb);have hcz6:=z3_ BK1)|((with_reducible refine gc_ (f:=20) rfl ?_);refine gl_ 131 Tryd.func20 #[.agg #[.int .i64 t3,.bool t4,.slice Ao1 t5.length co1],.int .i64 t6] ?_;(with_reducible refine (dj.calls kj2 t3 t4 _ _ t5 t6 t17 t18 _ ?_ ?_ A15.out).mono ?_);exact e7;exact (rr_ HO_2.out).2.1;rintro e w8 ⟨rfl,hb⟩;refine ⟨_,rfl,?_⟩;replace HO_1:=q1_ HO_1 hb;replace HO_2:=q1_ HO_2 hb;replace BK1:=k1_ BK1 hb;replace HB:=hb_ hb ab;(try clear hb)))
  (try simp only [Act.put,sa_,sz_,ss_])
  go_cut [146] from 122 to 146 (fun v6 wc=>∃ (kq:Nat) (x146_31:Bool),v6=.bool x146_31∧Aside0 (laws_FnGame.j2 kq l0 t6 t7 t8 t11 t15 x146_31 t3 t4 t5=some r)∧Aside0 (kq≤kj2)∧Aside0 (Kd.R (Kd.int .i64) 3 wc w.heap.size (fun k_=>no_ (.slice Ao1 t5.length co1) k_) v2 t7)∧Aside0 (Kd.R (Kd.int .i64) 3 wc w.heap.size (fun k_=>no_ v2 k_) (.slice Ao1 t5.length co1) t5)∧Aside0 (wc.heap[gb1]?=some (.cells #[.int .i64 t3,.bool t4,(.slice Ao1 t5.length co1)] 26 (0,0)))∧Aside0 (Below w.heap.size w wc))
  case first =>
   have H:=HC32.out;clear HC32
   by_cases c4:(t15 != t17)=true
   ·rw [if_pos c4] at H
    exact absurd H bx
   rw [if_neg c4] at H
   have c4b0:(t15 != t17)=false:=by simpa using c4
   (try (have c4b1:decide (t15=t17)=true:=by simpa using c4))
   (try (have c4b2:(t15 == t17)=true:=by simpa using c4))
   clear c4
   (first|rw [c4b0]|(simp only [cH,dC];rw [c4b0])|skip)
   by_cases c5:(t16 != t18)=true
   ·rw [if_pos c5] at H
    exact absurd H bx
   rw [if_neg c5] at H
   have c5b0:(t16 != t18)=false:=by simpa using c5
   (try (have c5b1:decide (t16=t18)=true:=by simpa using c5))
   (try (have c5b2:(t16 == t18)=true:=by simpa using c5))
   clear c5;have H':=A0_ H;clear H
   go_wp2
   go_meet
   exact ⟨_,((t16 != t8)),aC,H',⟨oV⟩,⟨aD⟩,⟨bW⟩,⟨u1_ BK1⟩,⟨ab⟩⟩
  clear HC32
  try clear c1
  try clear c2
  try clear c3
  (try clear hcz1);(try clear hcz2);(try clear hcz3);(try clear hcz4);(try clear hcz5);(try clear hcz6);(try clear hfz1);(try clear hfz2);(try clear hfz3);(try clear hfz4);(try clear hfz5);(try clear hfz6)
  obtain ⟨kq,x146_31,rfl,HA,HJ3,HO_1,HO_2,BK1,HB⟩:=hcut
  cases kq with|zero=>exact absurd HA.out (by simp [laws_FnGame.j2])|succ kj3=>?_
  as_aux_lemma =>
  have H:=HA.out;clear HA;simp only [laws_FnGame.j2] at H
  by_cases c4:x146_31=true
  ·subst c4
   have H1:(none)=some r:=by rw [if_pos rfl] at H;exact H
   exact absurd H1 bx
  obtain rfl:=bf_.mpr c4;rw [if_neg ft_] at H;obtain ⟨⟨t19,t20⟩,A3,H⟩:=o1_ H;obtain ⟨⟨t21,t22⟩,A18,H⟩:=o1_ H;have HC42:=A0_ H;clear H;have hcz7:=z3_ BK1
  go_upto_region 18 with (first|((with_reducible refine gc_ (f:=21) rfl ?_);refine gl_ 150 Tryd.func21 #[.agg #[.int .i64 t3,.bool t4,.slice Ao1 t5.length co1],.int .i64 t6] ?_;(with_reducible refine (bj.calls kj3 t3 t4 _ _ t5 t6 t19 t20 _ ?_ ?_ A3.out).mono ?_);exact e7;exact (rr_ HO_2.out).2.1;rintro e w9 ⟨v7,rfl,ho0,hb⟩;refine ⟨_,rfl,?_⟩;have HO4:=A0_ (Kd.R_lower (Kd.R_new' (Kd.R_new' ho0 (Kd.R_lt aD)) (Kd.R_lt bW)) (bz_ ab));replace HO_1:=A0_ (Kd.R_elder' aD (Kd.R_base ho0) hb);replace HO_2:=A0_ (Kd.R_elder' bW (Kd.R_base ho0) hb);replace BK1:=k1_ BK1 hb;replace HB:=hb_ hb ab;(try clear hb ho0);have hcz8:=z3_ BK1)|((with_reducible refine gc_ (f:=22) rfl ?_);refine gl_ 156 Tryd.func22 #[.agg #[.int .i64 t3,.bool t4,.slice Ao1 t5.length co1],.int .i64 t6] ?_;(with_reducible refine (bP.calls kj3 t3 t4 _ _ t5 t6 t21 t22 _ ?_ ?_ A18.out).mono ?_);exact e7;exact (rr_ HO_2.out).2.1;rintro e w10 ⟨v8,rfl,ho0,hb⟩;refine ⟨_,rfl,?_⟩;have HO5:=A0_ (Kd.R_lower (Kd.R_new' (Kd.R_new' (Kd.R_new' ho0 (Kd.R_lt aD)) (Kd.R_lt bW)) (Kd.R_lt iY)) (bz_ ab));replace HO_1:=A0_ (Kd.R_elder' aD (Kd.R_base ho0) hb);replace HO_2:=A0_ (Kd.R_elder' bW (Kd.R_base ho0) hb);replace HO4:=A0_ (Kd.R_elder' iY (Kd.R_base ho0) hb);replace BK1:=k1_ BK1 hb;replace HB:=hb_ hb ab;(try clear hb ho0)))
  (try simp only [Act.put,sa_,sz_,ss_])
  go_cut [172] from 147 to 172 (fun v9 wc=>∃ (kq:Nat) (x172_41:Bool),v9=.bool x172_41∧Aside0 (laws_FnGame.j3 kq l0 t6 t7 t8 t11 t15 t19 x172_41 t3 t4 t5=some r)∧Aside0 (kq≤kj3)∧Aside0 (Kd.R (Kd.int .i64) 3 wc w.heap.size (fun k_=>no_ v7 k_∧no_ (.slice Ao1 t5.length co1) k_) v2 t7)∧Aside0 (Kd.R (Kd.int .i64) 3 wc w.heap.size (fun k_=>no_ v2 k_∧no_ (.slice Ao1 t5.length co1) k_) v7 t19)∧Aside0 (Kd.R (Kd.int .i64) 3 wc w.heap.size (fun k_=>no_ v2 k_∧no_ v7 k_) (.slice Ao1 t5.length co1) t5)∧Aside0 (wc.heap[gb1]?=some (.cells #[.int .i64 t3,.bool t4,(.slice Ao1 t5.length co1)] 26 (0,0)))∧Aside0 (Below w.heap.size w wc))
  case first =>
   have H:=HC42.out;clear HC42
   by_cases c5:(t20 != t22)=true
   ·rw [if_pos c5] at H
    exact absurd H bx
   rw [if_neg c5] at H
   have c5b0:(t20 != t22)=false:=by simpa using c5
   (try (have c5b1:decide (t20=t22)=true:=by simpa using c5))
   (try (have c5b2:(t20 == t22)=true:=by simpa using c5))
   clear c5
   (first|rw [c5b0]|(simp only [cH,dC];rw [c5b0])|skip)
   by_cases c6:(t20 != t8)=true
   ·rw [if_pos c6] at H
    exact absurd H bx
   rw [if_neg c6] at H
   have c6b0:(t20 != t8)=false:=by simpa using c6
   (try (have c6b1:decide (t20=t8)=true:=by simpa using c6))
   (try (have c6b2:(t20 == t8)=true:=by simpa using c6))
   clear c6;obtain ⟨t23,A20,H⟩:=o1_ H;have H':=A0_ H;clear H;obtain ⟨Ao2,co2,eo2⟩:=Kd.R_slice HO4.out;subst eo2;obtain ⟨Ao3,co3,eo3⟩:=Kd.R_slice HO5.out;subst eo3
   go_wp2_with (first|(go_at_call 16;(with_reducible refine (bN.calls kj3 _ _ t19 _ _ t21 t23 _ ?_ ?_ ?_ ?_ A20.out).mono ?_);exact (by repeat (first|exact (rr_ HO4.out).2.2|(with_reducible refine ca_ ?_ _)|(with_reducible refine cn_ ?_ _)|(with_reducible refine cd_ ?_)));exact (rr_ HO4.out).2.1;exact (by repeat (first|exact (rr_ HO5.out).2.2|(with_reducible refine ca_ ?_ _)|(with_reducible refine cn_ ?_ _)|(with_reducible refine cd_ ?_)));exact (rr_ HO5.out).2.1;rintro e w' ⟨rfl,⟨nd,rfl⟩⟩))
   go_meet
   exact ⟨_,(!t23),aC,H',⟨by have:=HJ1.out;have:=HJ2.out;have:=HJ3.out;first|omega|exact Nat.le_refl _⟩,⟨eZ⟩,⟨by (with_reducible repeat (first|apply ra_|apply rn_|apply rd_));exact Kd.R_mono HO4.out cf_⟩,⟨eJ⟩,⟨u1_ BK1⟩,⟨ab⟩⟩
  clear HC42
  try clear c1
  try clear c2
  try clear c3
  try clear c4
  (try clear hcz1);(try clear hcz2);(try clear hcz3);(try clear hcz4);(try clear hcz5);(try clear hcz6);(try clear hcz7);(try clear hcz8);(try clear hfz1);(try clear hfz2);(try clear hfz3);(try clear hfz4);(try clear hfz5);(try clear hfz6);(try clear hfz7);(try clear hfz8)
  obtain ⟨kq,x172_41,rfl,HA,HJ4,HO_1,HO_3,HO_2,BK1,HB⟩:=hcut
  cases kq with|zero=>exact absurd HA.out (by simp [laws_FnGame.j3])|succ kj4=>?_
  as_aux_lemma =>
  have H:=HA.out;clear HA;simp only [laws_FnGame.j3] at H
  by_cases c5:x172_41=true
  ·subst c5
   have H1:(none)=some r:=by rw [if_pos rfl] at H;exact H
   exact absurd H1 bx
  obtain rfl:=bf_.mpr c5;rw [if_neg ft_] at H;obtain ⟨⟨t23,t24⟩,A20,H⟩:=o1_ H;obtain ⟨⟨t25,t26⟩,A22,H⟩:=o1_ H;have HC55:=A0_ H;clear H;have hcz9:=z3_ BK1
  go_upto_region 22 with (first|((with_reducible refine gc_ (f:=23) rfl ?_);refine gl_ 176 Tryd.func23 #[.agg #[.int .i64 t3,.bool t4,.slice Ao1 t5.length co1],.int .i64 t6] ?_;(with_reducible refine (aJ.calls kj4 t3 t4 _ _ t5 t6 t23 t24 _ ?_ ?_ A20.out).mono ?_);exact e7;exact (rr_ HO_2.out).2.1;rintro e w11 ⟨v10,rfl,ho0,hb⟩;refine ⟨_,rfl,?_⟩;have HO6:=A0_ (Kd.R_lower (Kd.R_new' (Kd.R_new' (Kd.R_new' ho0 (Kd.R_lt aD)) (Kd.R_lt di)) (Kd.R_lt bW)) (bz_ ab));replace HO_1:=A0_ (Kd.R_elder' aD (Kd.R_base ho0) hb);replace HO_3:=A0_ (Kd.R_elder' di (Kd.R_base ho0) hb);replace HO_2:=A0_ (Kd.R_elder' bW (Kd.R_base ho0) hb);replace BK1:=k1_ BK1 hb;replace HB:=hb_ hb ab;(try clear hb ho0);have hcz10:=z3_ BK1)|((with_reducible refine gc_ (f:=24) rfl ?_);refine gl_ 182 Tryd.func24 #[.agg #[.int .i64 t3,.bool t4,.slice Ao1 t5.length co1],.int .i64 t6] ?_;(with_reducible refine (aH.calls kj4 t3 t4 (fun k_=>some k_=(.slice Ao1 t5.length co1:Value).ownBlock) _ _ t5 t6 t25 t26 _ ?_ A22.out).mono ?_);exact Kd.R_V (Kd.R_tight rfl (Kd.R_types (HO_2.out) BK1.out ao));rintro e w12 ⟨v11,rfl,ho0,hb⟩;refine ⟨_,rfl,?_⟩;have HO7:=A0_ (Kd.R_lower (Kd.R_new' (Kd.R_new' (Kd.R_new' (Kd.R_new' (Kd.R_mono (ok':=fun k_=>True) ho0 (fun _ hk_=>trivial)) (Kd.R_lt aD)) (Kd.R_lt di)) (Kd.R_lt bW)) (Kd.R_lt (by (with_reducible repeat (first|apply ra_|apply rn_|apply rd_));exact HO6.out))) (bz_ ab));replace HO_1:=A0_ (Kd.R_elder' aD (Kd.R_base ho0) hb);replace HO_3:=A0_ (Kd.R_elder' di (Kd.R_base ho0) hb);replace HO_2:=A0_ (Kd.R_elder' bW (Kd.R_base ho0) hb);replace HO6:=A0_ (Kd.R_elder' (by (with_reducible repeat (first|apply ra_|apply rn_|apply rd_));exact HO6.out) (Kd.R_base ho0) hb);replace BK1:=k1_ BK1 hb;replace HB:=hb_ hb ab;(try clear hb ho0)))
  (try simp only [Act.put,sa_,sz_,ss_])
  go_cut [198] from 173 to 198 (fun v12 wc=>∃ (kq:Nat) (x198_54:Bool),v12=.bool x198_54∧Aside0 (laws_FnGame.j4 kq l0 t6 t7 t8 t11 t15 t19 t23 x198_54 t3 t4 t5=some r)∧Aside0 (kq≤kj4)∧Aside0 (Kd.R (Kd.int .i64) 3 wc w.heap.size (fun k_=>no_ v7 k_∧no_ v10 k_∧no_ (.slice Ao1 t5.length co1) k_) v2 t7)∧Aside0 (Kd.R (Kd.int .i64) 3 wc w.heap.size (fun k_=>no_ v2 k_∧no_ v10 k_∧no_ (.slice Ao1 t5.length co1) k_) v7 t19)∧Aside0 (Kd.R (Kd.int .i64) 3 wc w.heap.size (fun k_=>no_ v2 k_∧no_ v7 k_∧no_ (.slice Ao1 t5.length co1) k_) v10 t23)∧Aside0 (Kd.R (Kd.int .i64) 3 wc w.heap.size (fun k_=>no_ v2 k_∧no_ v7 k_∧no_ v10 k_) (.slice Ao1 t5.length co1) t5)∧Aside0 (wc.heap[gb1]?=some (.cells #[.int .i64 t3,.bool t4,(.slice Ao1 t5.length co1)] 26 (0,0)))∧Aside0 (Below w.heap.size w wc))
  case first =>
   have H:=HC55.out;clear HC55
   by_cases c6:(t24 != t26)=true
   ·rw [if_pos c6] at H
    exact absurd H bx
   rw [if_neg c6] at H
   have c6b0:(t24 != t26)=false:=by simpa using c6
   (try (have c6b1:decide (t24=t26)=true:=by simpa using c6))
   (try (have c6b2:(t24 == t26)=true:=by simpa using c6))
   clear c6
   (first|rw [c6b0]|(simp only [cH,dC];rw [c6b0])|skip)
   by_cases c7:(t24 != t8)=true
   ·rw [if_pos c7] at H
    exact absurd H bx
   rw [if_neg c7] at H
   have c7b0:(t24 != t8)=false:=by simpa using c7
   (try (have c7b1:decide (t24=t8)=true:=by simpa using c7))
   (try (have c7b2:(t24 == t8)=true:=by simpa using c7))
   clear c7;obtain ⟨t27,A24,H⟩:=o1_ H;have H':=A0_ H;clear H;obtain ⟨Ao2,co2,eo2⟩:=Kd.R_slice HO6.out;subst eo2;obtain ⟨Ao3,co3,eo3⟩:=Kd.R_slice HO7.out;subst eo3
   go_wp2_with (first|(go_at_call 16;(with_reducible refine (bN.calls kj4 _ _ t23 _ _ t25 t27 _ ?_ ?_ ?_ ?_ A24.out).mono ?_);exact (by repeat (first|exact (rr_ HO6.out).2.2|(with_reducible refine ca_ ?_ _)|(with_reducible refine cn_ ?_ _)|(with_reducible refine cd_ ?_)));exact (rr_ HO6.out).2.1;exact (by repeat (first|exact (rr_ HO7.out).2.2|(with_reducible refine ca_ ?_ _)|(with_reducible refine cn_ ?_ _)|(with_reducible refine cd_ ?_)));exact (rr_ HO7.out).2.1;rintro e w' ⟨rfl,⟨nd,rfl⟩⟩))
   go_meet
   exact ⟨_,(!t27),aC,H',⟨by have:=HJ1.out;have:=HJ2.out;have:=HJ3.out;have:=HJ4.out;first|omega|exact Nat.le_refl _⟩,⟨eZ⟩,⟨e8⟩,⟨by (with_reducible repeat (first|apply ra_|apply rn_|apply rd_));exact Kd.R_mono HO6.out cf_⟩,⟨eJ⟩,⟨u1_ BK1⟩,⟨ab⟩⟩
  clear HC55
  try clear c1
  try clear c2
  try clear c3
  try clear c4
  try clear c5
  (try clear hcz1);(try clear hcz2);(try clear hcz3);(try clear hcz4);(try clear hcz5);(try clear hcz6);(try clear hcz7);(try clear hcz8);(try clear hcz9);(try clear hcz10);(try clear hfz1);(try clear hfz2);(try clear hfz3);(try clear hfz4);(try clear hfz5);(try clear hfz6);(try clear hfz7);(try clear hfz8);(try clear hfz9);(try clear hfz10)
  obtain ⟨kq,x198_54,rfl,HA,HJ5,HO_1,HO_3,HO_4,HO_2,BK1,HB⟩:=hcut
  cases kq with|zero=>exact absurd HA.out (by simp [laws_FnGame.j4])|succ kj5=>?_
  as_aux_lemma =>
  have H:=HA.out;clear HA;simp only [laws_FnGame.j4] at H
  by_cases c6:x198_54=true
  ·subst c6
   have H1:(none)=some r:=by rw [if_pos rfl] at H;exact H
   exact absurd H1 bx
  obtain rfl:=bf_.mpr c6;rw [if_neg ft_] at H;obtain ⟨⟨t27,t28,t29⟩,A24,H⟩:=o1_ H;obtain ⟨⟨t30,t31,t32⟩,A26,H⟩:=o1_ H;have HC68:=A0_ H;clear H;have hcz11:=z3_ BK1
  go_upto_region 26 with (first|((with_reducible refine gc_ (f:=25) rfl ?_);refine gl_ 202 Tryd.func25 #[.agg #[.int .i64 t3,.bool t4,.slice Ao1 t5.length co1],.int .i64 t6] ?_;(with_reducible refine (aw.calls kj5 t3 t4 _ _ t5 t6 t27 t28 t29 _ ?_ ?_ A24.out).mono ?_);exact e7;exact (rr_ HO_2.out).2.1;rintro e w13 ⟨rfl,hb⟩;refine ⟨_,rfl,?_⟩;replace HO_1:=q1_ HO_1 hb;replace HO_3:=q1_ HO_3 hb;replace HO_4:=q1_ HO_4 hb;replace HO_2:=q1_ HO_2 hb;replace BK1:=k1_ BK1 hb;replace HB:=hb_ hb ab;(try clear hb);have hcz12:=z3_ BK1)|((with_reducible refine gc_ (f:=26) rfl ?_);refine gl_ 209 Tryd.func26 #[.agg #[.int .i64 t3,.bool t4,.slice Ao1 t5.length co1],.int .i64 t6] ?_;(with_reducible refine (af.calls kj5 t3 t4 _ _ t5 t6 t30 t31 t32 _ ?_ ?_ A26.out).mono ?_);exact e7;exact (rr_ HO_2.out).2.1;rintro e w14 ⟨rfl,hb⟩;refine ⟨_,rfl,?_⟩;replace HO_1:=q1_ HO_1 hb;replace HO_3:=q1_ HO_3 hb;replace HO_4:=q1_ HO_4 hb;replace HO_2:=q1_ HO_2 hb;replace BK1:=k1_ BK1 hb;replace HB:=hb_ hb ab;(try clear hb)))
  (try simp only [Act.put,sa_,sz_,ss_])
  go_cut [230] from 199 to 230 (fun v13 wc=>∃ (kq:Nat) (x230_67:Bool),v13=.bool x230_67∧Aside0 (laws_FnGame.j5 kq l0 t6 t7 t8 t11 t15 t19 t23 t27 t28 x230_67 t3 t4 t5=some r)∧Aside0 (kq≤kj5)∧Aside0 (Kd.R (Kd.int .i64) 3 wc w.heap.size (fun k_=>no_ v7 k_∧no_ v10 k_∧no_ (.slice Ao1 t5.length co1) k_) v2 t7)∧Aside0 (Kd.R (Kd.int .i64) 3 wc w.heap.size (fun k_=>no_ v2 k_∧no_ v10 k_∧no_ (.slice Ao1 t5.length co1) k_) v7 t19)∧Aside0 (Kd.R (Kd.int .i64) 3 wc w.heap.size (fun k_=>no_ v2 k_∧no_ v7 k_∧no_ (.slice Ao1 t5.length co1) k_) v10 t23)∧Aside0 (Kd.R (Kd.int .i64) 3 wc w.heap.size (fun k_=>no_ v2 k_∧no_ v7 k_∧no_ v10 k_) (.slice Ao1 t5.length co1) t5)∧Aside0 (wc.heap[gb1]?=some (.cells #[.int .i64 t3,.bool t4,(.slice Ao1 t5.length co1)] 26 (0,0)))∧Aside0 (Below w.heap.size w wc))
  case first =>
   have H:=HC68.out;clear HC68;obtain ⟨c7,H⟩:=is_ H;obtain ⟨c7b0,c7b1⟩:=et_ c7;clear c7
   (first|rw [c7b0]|(simp only [cH,dC];rw [c7b0])|skip)
   obtain ⟨c8,H⟩:=is_ H;obtain ⟨c8b0,c8b1⟩:=et_ c8;clear c8
   by_cases c9:(t29 != t32)=true
   ·rw [if_pos c9] at H
    exact absurd H bx
   rw [if_neg c9] at H
   have c9b0:(t29 != t32)=false:=by simpa using c9
   (try (have c9b1:decide (t29=t32)=true:=by simpa using c9))
   (try (have c9b2:(t29 == t32)=true:=by simpa using c9))
   clear c9;have H':=A0_ H;clear H
   go_wp2
   go_meet
   exact ⟨_,((t29 != t8)),aC,H',⟨by have:=HJ1.out;have:=HJ2.out;have:=HJ3.out;have:=HJ4.out;have:=HJ5.out;first|omega|exact Nat.le_refl _⟩,⟨aD⟩,⟨di⟩,⟨ei⟩,⟨bW⟩,⟨u1_ BK1⟩,⟨ab⟩⟩
  clear HC68
  try clear c1
  try clear c2
  try clear c3
  try clear c4
  try clear c5
  try clear c6
  (try clear hcz1);(try clear hcz2);(try clear hcz3);(try clear hcz4);(try clear hcz5);(try clear hcz6);(try clear hcz7);(try clear hcz8);(try clear hcz9);(try clear hcz10);(try clear hcz11);(try clear hcz12);(try clear hfz1);(try clear hfz2);(try clear hfz3);(try clear hfz4);(try clear hfz5);(try clear hfz6);(try clear hfz7);(try clear hfz8);(try clear hfz9);(try clear hfz10);(try clear hfz11);(try clear hfz12)
  obtain ⟨kq,x230_67,rfl,HA,HJ6,HO_1,HO_3,HO_4,HO_2,BK1,HB⟩:=hcut
  cases kq with|zero=>exact absurd HA.out (by simp [laws_FnGame.j5])|succ kj6=>?_
  as_aux_lemma =>
  have H:=HA.out;clear HA;simp only [laws_FnGame.j5] at H
  by_cases c7:x230_67=true
  ·subst c7
   have H1:(none)=some r:=by rw [if_pos rfl] at H;exact H
   exact absurd H1 bx
  obtain rfl:=bf_.mpr c7;rw [if_neg ft_] at H;obtain ⟨⟨t33,t34,t35,t36,t37⟩,A28,H⟩:=o1_ H;obtain ⟨⟨t38,t39,t40,t41⟩,A30,H⟩:=o1_ H;obtain ⟨⟨t42,t43,t44,t45⟩,A32,H⟩:=o1_ H;have HC80:=A0_ H;clear H
  go_upto_region 31 with (first|((with_reducible refine gc_ (f:=27) rfl ?_);refine gl_ 233 Tryd.func27 #[.slice A0 l0.length c0] ?_;(with_reducible refine (cC.calls kj6 _ _ l0 t33 t34 t35 t36 t37 _ ?_ ?_ A28.out).mono ?_);exact mm;exact HC0.out;rintro e w15 ⟨v14,rfl,ho0,hb⟩;refine ⟨_,rfl,?_⟩;have HO8:=A0_ (Kd.R_lower (Kd.R_new' (Kd.R_new' (Kd.R_new' (Kd.R_new' ho0 (Kd.R_lt aD)) (Kd.R_lt di)) (Kd.R_lt ei)) (Kd.R_lt bW)) (bz_ ab));replace HO_1:=A0_ (Kd.R_elder' aD (Kd.R_base ho0) hb);replace HO_3:=A0_ (Kd.R_elder' di (Kd.R_base ho0) hb);replace HO_4:=A0_ (Kd.R_elder' ei (Kd.R_base ho0) hb);replace HO_2:=A0_ (Kd.R_elder' bW (Kd.R_base ho0) hb);replace BK1:=k1_ BK1 hb;replace HB:=hb_ hb ab;(try clear hb ho0))|((with_reducible refine gd_ (N:=31) rfl ?_);(try (refine cL (by rfl) ?_;dsimp only));refine bx_ 31 #[.int .i64 0,.bool false,.slice none 0 0] 26 ?_;intro gb2 hg w16 BK2 hb;replace HO_1:=q1_ HO_1 hb;replace HO_3:=q1_ HO_3 hb;replace HO_4:=q1_ HO_4 hb;replace HO_2:=q1_ HO_2 hb;replace HO8:=q1_ HO8 hb;have GW2:=ge_ hg ab;have GE2:=GW2;replace HB:=hb_ hb ab;obtain ⟨NB1_2,NB2_1⟩:=nn_ hg BK1;replace BK1:=k1_ BK1 hb;clear hb hg;obtain ⟨hnb1,hnc1⟩:=n2_ NB2_1;have hcz13:=z3_ BK2;obtain ⟨Ao2,co2,eo2⟩:=Kd.R_slice HO8.out;subst eo2)|((with_reducible refine gc_ (f:=8) rfl ?_);refine gl_ 241 Tryd.func8 #[.agg #[.int .i64 t33,.bool t34,.slice Ao2 t35.length co2],.int .i64 t36,.int .i64 t37] ?_;(with_reducible refine (aU.calls kj6 t33 t34 _ _ t35 t36 t37 t38 t39 t40 t41 _ ?_ ?_ iv A30.out).mono ?_);(refine (rr_ (e:=3) (base:=w.heap.size) (ok:=fun k_=>((((True∧no_ v2 k_)∧no_ v7 k_)∧no_ v10 k_)∧no_ (.slice Ao1 t5.length co1) k_)) (n:=t35.length) (c:=co2) ?_).2.2;exact oX);exact (rr_ HO8.out).2.1;rintro e w17 ⟨v15,rfl,ho0,hb⟩;refine ⟨_,rfl,?_⟩;have HO9:=A0_ (Kd.R_lower (Kd.R_new' (Kd.R_new' (Kd.R_new' (Kd.R_new' (Kd.R_new' ho0 (Kd.R_lt qU)) (Kd.R_lt qV)) (Kd.R_lt qW)) (Kd.R_lt qX)) (Kd.R_lt oX)) (bz_ aY));replace HO_1:=A0_ (Kd.R_elder' qU (Kd.R_base ho0) hb);replace HO_3:=A0_ (Kd.R_elder' qV (Kd.R_base ho0) hb);replace HO_4:=A0_ (Kd.R_elder' qW (Kd.R_base ho0) hb);replace HO_2:=A0_ (Kd.R_elder' qX (Kd.R_base ho0) hb);replace HO8:=A0_ (Kd.R_elder' oX (Kd.R_base ho0) hb);replace BK1:=k1_ BK1 hb;replace BK2:=k2_ (.cells #[.int .i64 t33,.bool t34,.slice Ao2 t35.length co2] 26 (0,0)) BK2 hb;replace HB:=hb_ hb aY;(try clear hb ho0))|((with_reducible refine gd_ (N:=34) rfl ?_);(try (refine cL (by rfl) ?_;dsimp only));refine bx_ 34 #[.int .i64 0,.bool false,.slice none 0 0] 26 ?_;intro gb3 hg w18 BK3 hb;replace HO_1:=q1_ HO_1 hb;replace HO_3:=q1_ HO_3 hb;replace HO_4:=q1_ HO_4 hb;replace HO_2:=q1_ HO_2 hb;replace HO8:=q1_ HO8 hb;replace HO9:=q1_ HO9 hb;have GW3:=ge_ hg aY;have GE3:=GW3;replace HB:=hb_ hb aY;obtain ⟨NB1_3,NB3_1⟩:=nn_ hg BK1;replace BK1:=k1_ BK1 hb;obtain ⟨NB2_3,NB3_2⟩:=nn_ hg BK2;replace BK2:=k1_ BK2 hb;clear hb hg;obtain ⟨hnb2,hnc2⟩:=n2_ NB3_1;obtain ⟨hnb3,hnc3⟩:=n2_ NB3_2;have hcz14:=z3_ BK3;obtain ⟨Ao3,co3,eo3⟩:=Kd.R_slice HO9.out;subst eo3;have hcz15_0:=y_ BK2 0;have hcz15_1:=y_ BK2 1;have hcz15_2:=y_ BK2 2;have hfz15_0:=kf_ BK2.out 0;have hfz15_1:=kf_ BK2.out 1;have hfz15_2:=kf_ BK2.out 2)|((with_reducible refine gc_ (f:=6) rfl ?_);refine gl_ 248 Tryd.func6 #[.agg #[.int .i64 t33,.bool t34,.slice Ao2 t35.length co2],.int .i64 t36,.int .i64 t37] ?_;(with_reducible refine (ch.calls kj6 t33 t34 _ _ t35 t36 t37 t42 t43 t44 t45 _ ?_ ?_ A32.out).mono ?_);(refine (rr_ (e:=3) (base:=w.heap.size) (ok:=fun k_=>(((((True∧no_ v2 k_)∧no_ v7 k_)∧no_ v10 k_)∧no_ (.slice Ao1 t5.length co1) k_)∧no_ (.slice Ao3 t40.length co3) k_)) (n:=t35.length) (c:=co2) ?_).2.2;exact oY);exact (rr_ HO8.out).2.1;rintro e w19 ⟨v16,rfl,ho0,hb⟩;refine ⟨_,rfl,?_⟩;have HO10:=A0_ (Kd.R_lower (Kd.R_new' (Kd.R_new' (Kd.R_new' (Kd.R_new' (Kd.R_new' (Kd.R_new' ho0 (Kd.R_lt qY)) (Kd.R_lt qZ)) (Kd.R_lt q5)) (Kd.R_lt q6)) (Kd.R_lt oY)) (Kd.R_lt q7)) (bz_ iV));replace HO_1:=A0_ (Kd.R_elder' qY (Kd.R_base ho0) hb);replace HO_3:=A0_ (Kd.R_elder' qZ (Kd.R_base ho0) hb);replace HO_4:=A0_ (Kd.R_elder' q5 (Kd.R_base ho0) hb);replace HO_2:=A0_ (Kd.R_elder' q6 (Kd.R_base ho0) hb);replace HO8:=A0_ (Kd.R_elder' oY (Kd.R_base ho0) hb);replace HO9:=A0_ (Kd.R_elder' q7 (Kd.R_base ho0) hb);replace BK1:=k1_ BK1 hb;replace BK2:=k1_ BK2 hb;replace BK3:=k2_ (.cells #[.int .i64 t38,.bool t39,.slice Ao3 t40.length co3] 26 (0,0)) BK3 hb;replace HB:=hb_ hb iV;(try clear hb ho0))|((with_reducible refine gd_ (N:=36) rfl ?_);(try (refine cL (by rfl) ?_;dsimp only));refine bx_ 36 #[.int .i64 0,.bool false,.slice none 0 0] 26 ?_;intro gb4 hg w20 BK4 hb;replace HO_1:=q1_ HO_1 hb;replace HO_3:=q1_ HO_3 hb;replace HO_4:=q1_ HO_4 hb;replace HO_2:=q1_ HO_2 hb;replace HO8:=q1_ HO8 hb;replace HO9:=q1_ HO9 hb;replace HO10:=q1_ HO10 hb;have GW4:=ge_ hg iV;have GE4:=GW4;replace HB:=hb_ hb iV;obtain ⟨NB1_4,NB4_1⟩:=nn_ hg BK1;replace BK1:=k1_ BK1 hb;obtain ⟨NB2_4,NB4_2⟩:=nn_ hg BK2;replace BK2:=k1_ BK2 hb;obtain ⟨NB3_4,NB4_3⟩:=nn_ hg BK3;replace BK3:=k1_ BK3 hb;clear hb hg;obtain ⟨hnb4,hnc4⟩:=n2_ NB4_1;obtain ⟨hnb5,hnc5⟩:=n2_ NB4_2;obtain ⟨hnb6,hnc6⟩:=n2_ NB4_3;have hcz16:=z3_ BK4;obtain ⟨Ao4,co4,eo4⟩:=Kd.R_slice HO10.out;subst eo4))
  (try simp only [Act.put,sa_,sz_,ss_])
  go_cut [259] from 231 to 259 (fun v17 wc=>∃ (kq:Nat) (x259_79:Bool),v17=.bool x259_79∧Aside0 (laws_FnGame.j6 kq l0 t6 t7 t8 t11 t15 t19 t23 t27 t28 x259_79 t3 t4 t5=some r)∧Aside0 (kq≤kj6)∧Aside0 (Kd.R (Kd.int .i64) 3 wc w.heap.size (fun k_=>no_ v7 k_∧no_ v10 k_∧no_ (.slice Ao1 t5.length co1) k_∧no_ (.slice Ao2 t35.length co2) k_∧no_ (.slice Ao3 t40.length co3) k_∧no_ (.slice Ao4 t44.length co4) k_) v2 t7)∧Aside0 (Kd.R (Kd.int .i64) 3 wc w.heap.size (fun k_=>no_ v2 k_∧no_ v10 k_∧no_ (.slice Ao1 t5.length co1) k_∧no_ (.slice Ao2 t35.length co2) k_∧no_ (.slice Ao3 t40.length co3) k_∧no_ (.slice Ao4 t44.length co4) k_) v7 t19)∧Aside0 (Kd.R (Kd.int .i64) 3 wc w.heap.size (fun k_=>no_ v2 k_∧no_ v7 k_∧no_ (.slice Ao1 t5.length co1) k_∧no_ (.slice Ao2 t35.length co2) k_∧no_ (.slice Ao3 t40.length co3) k_∧no_ (.slice Ao4 t44.length co4) k_) v10 t23)∧Aside0 (Kd.R (Kd.int .i64) 3 wc w.heap.size (fun k_=>no_ v2 k_∧no_ v7 k_∧no_ v10 k_∧no_ (.slice Ao2 t35.length co2) k_∧no_ (.slice Ao3 t40.length co3) k_∧no_ (.slice Ao4 t44.length co4) k_) (.slice Ao1 t5.length co1) t5)∧Aside0 (Kd.R (Kd.int .i64) 3 wc w.heap.size (fun k_=>no_ v2 k_∧no_ v7 k_∧no_ v10 k_∧no_ (.slice Ao1 t5.length co1) k_∧no_ (.slice Ao3 t40.length co3) k_∧no_ (.slice Ao4 t44.length co4) k_) (.slice Ao2 t35.length co2) t35)∧Aside0 (Kd.R (Kd.int .i64) 3 wc w.heap.size (fun k_=>no_ v2 k_∧no_ v7 k_∧no_ v10 k_∧no_ (.slice Ao1 t5.length co1) k_∧no_ (.slice Ao2 t35.length co2) k_∧no_ (.slice Ao4 t44.length co4) k_) (.slice Ao3 t40.length co3) t40)∧Aside0 (Kd.R (Kd.int .i64) 3 wc w.heap.size (fun k_=>no_ v2 k_∧no_ v7 k_∧no_ v10 k_∧no_ (.slice Ao1 t5.length co1) k_∧no_ (.slice Ao2 t35.length co2) k_∧no_ (.slice Ao3 t40.length co3) k_) (.slice Ao4 t44.length co4) t44)∧Aside0 (wc.heap[gb1]?=some (.cells #[.int .i64 t3,.bool t4,(.slice Ao1 t5.length co1)] 26 (0,0)))∧Aside0 (wc.heap[gb2]?=some (.cells #[.int .i64 t33,.bool t34,(.slice Ao2 t35.length co2)] 26 (0,0)))∧Aside0 (wc.heap[gb3]?=some (.cells #[.int .i64 t38,.bool t39,(.slice Ao3 t40.length co3)] 26 (0,0)))∧Aside0 (wc.heap[gb4]?=some (.cells #[.int .i64 t42,.bool t43,(.slice Ao4 t44.length co4)] 26 (0,0)))∧Aside0 (Below w.heap.size w wc))
  case first =>
   have H:=HC80.out;clear HC80
   by_cases c8:(t41 != t45)=true
   ·rw [if_pos c8] at H
    exact absurd H bx
   rw [if_neg c8] at H
   have c8b0:(t41 != t45)=false:=by simpa using c8
   (try (have c8b1:decide (t41=t45)=true:=by simpa using c8))
   (try (have c8b2:(t41 == t45)=true:=by simpa using c8))
   clear c8
   (first|rw [c8b0]|(simp only [cH,dC];rw [c8b0])|skip)
   obtain ⟨t46,A34,H⟩:=o1_ H;have H':=A0_ H;clear H;obtain ⟨hnb7,hnc7⟩:=n2_ NB3_1;obtain ⟨hnb8,hnc8⟩:=n2_ NB3_2;obtain ⟨hnb9,hnc9⟩:=n2_ NB3_4;have hcz17:=z3_ BK3;obtain ⟨hnb10,hnc10⟩:=n2_ NB4_1;obtain ⟨hnb11,hnc11⟩:=n2_ NB4_2;have hcz18:=z3_ BK4
   go_wp2_with (first|(go_at_call 28;(with_reducible refine (d7.calls kj6 t38 t39 _ _ t40 t42 t43 _ _ t44 t46 _ ?_ ?_ ?_ ?_ A34.out).mono ?_);(refine (rr_ (e:=3) (base:=w.heap.size) (ok:=fun k_=>((((((True∧no_ v2 k_)∧no_ v7 k_)∧no_ v10 k_)∧no_ (.slice Ao1 t5.length co1) k_)∧no_ (.slice Ao2 t35.length co2) k_)∧no_ (.slice Ao4 t44.length co4) k_)) (n:=t40.length) (c:=co3) ?_).2.2;exact q8);exact (rr_ HO9.out).2.1;(refine (rr_ (e:=3) (base:=w.heap.size) (ok:=fun k_=>((((((True∧no_ v2 k_)∧no_ v7 k_)∧no_ v10 k_)∧no_ (.slice Ao1 t5.length co1) k_)∧no_ (.slice Ao2 t35.length co2) k_)∧no_ (.slice Ao3 t40.length co3) k_)) (n:=t44.length) (c:=co4) ?_).2.2;exact q9);exact (rr_ HO10.out).2.1;rintro e w21 ⟨rfl,hb⟩;replace HO_1:=A0_ (Kd.R_below (by (with_reducible repeat (first|apply ra_|apply rn_|apply rd_));exact (Kd.R_mono (cf (Kd.R_types HO_1.out BK4.out ao)) (fun _ h_=>h_.1))) hb);replace HO_3:=A0_ (Kd.R_below (by (with_reducible repeat (first|apply ra_|apply rn_|apply rd_));exact (Kd.R_mono (cf (Kd.R_types HO_3.out BK4.out ao)) (fun _ h_=>h_.1))) hb);replace HO_4:=A0_ (Kd.R_below (by (with_reducible repeat (first|apply ra_|apply rn_|apply rd_));exact (Kd.R_mono (cf (Kd.R_types HO_4.out BK4.out ao)) (fun _ h_=>h_.1))) hb);replace HO_2:=A0_ (Kd.R_below (by (with_reducible repeat (first|apply ra_|apply rn_|apply rd_));exact (Kd.R_mono (cf (Kd.R_types HO_2.out BK4.out ao)) (fun _ h_=>h_.1))) hb);replace HO8:=A0_ (Kd.R_below (by (with_reducible repeat (first|apply ra_|apply rn_|apply rd_));exact (Kd.R_mono (cf (Kd.R_types HO8.out BK4.out ao)) (fun _ h_=>h_.1))) hb);replace HO9:=A0_ (Kd.R_below q8 hb);replace HO10:=A0_ (Kd.R_below q9 hb);replace BK1:=k1_ BK1 hb;replace BK2:=k1_ BK2 hb;replace BK3:=k1_ BK3 hb;replace BK4:=k2_ (.cells #[.int .i64 t42,.bool t43,.slice Ao4 t44.length co4] 26 (0,0)) BK4 hb;replace HB:=hb_ hb lv;(try clear hb)))
   go_meet
   exact ⟨_,(!t46),aC,H',⟨by have:=HJ1.out;have:=HJ2.out;have:=HJ3.out;have:=HJ4.out;have:=HJ5.out;have:=HJ6.out;first|omega|exact Nat.le_refl _⟩,⟨eZ⟩,⟨e8⟩,⟨gL⟩,⟨eJ⟩,⟨by (with_reducible repeat (first|apply ra_|apply rn_|apply rd_));exact Kd.R_mono HO8.out cf_⟩,⟨by (with_reducible repeat (first|apply ra_|apply rn_|apply rd_));exact Kd.R_mono HO9.out cf_⟩,⟨by (with_reducible repeat (first|apply ra_|apply rn_|apply rd_));exact Kd.R_mono HO10.out cf_⟩,⟨u1_ BK1⟩,⟨u1_ BK2⟩,⟨u1_ BK3⟩,⟨u1_ BK4⟩,⟨lv⟩⟩
  clear HC80
  try clear c1
  try clear c2
  try clear c3
  try clear c4
  try clear c5
  try clear c6
  try clear c7
  (try clear hcz1);(try clear hcz2);(try clear hcz3);(try clear hcz4);(try clear hcz5);(try clear hcz6);(try clear hcz7);(try clear hcz8);(try clear hcz9);(try clear hcz10);(try clear hcz11);(try clear hcz12);(try clear hcz13);(try clear hcz14);(try clear hcz15);(try clear hcz16);(try clear hfz1);(try clear hfz2);(try clear hfz3);(try clear hfz4);(try clear hfz5);(try clear hfz6);(try clear hfz7);(try clear hfz8);(try clear hfz9);(try clear hfz10);(try clear hfz11);(try clear hfz12);(try clear hfz13);(try clear hfz14);(try clear hfz15);(try clear hfz16)
  obtain ⟨kq,x259_79,rfl,HA,HJ7,HO_1,HO_3,HO_4,HO_2,HO_5,HO_6,HO_7,BK1,BK2,BK3,BK4,HB⟩:=hcut
  cases kq with|zero=>exact absurd HA.out (by simp [laws_FnGame.j6])|succ kj7=>?_
  as_aux_lemma =>
  have H:=HA.out;clear HA;simp only [laws_FnGame.j6] at H
  by_cases c8:x259_79=true
  ·subst c8
   have H1:(none)=some r:=by rw [if_pos rfl] at H;exact H
   exact absurd H1 bx
  obtain rfl:=bf_.mpr c8;rw [if_neg ft_] at H;obtain ⟨⟨t46,t47,t48,t49⟩,A34,H⟩:=o1_ H;obtain ⟨⟨t50,t51⟩,A36,H⟩:=o1_ H;obtain ⟨⟨t52,t53⟩,A38,H⟩:=o1_ H;have HC114:=A0_ H;clear H
  go_upto_region 36 with (first|((with_reducible refine gc_ (f:=29) rfl ?_);refine gl_ 262 Tryd.func29 #[.slice A0 l0.length c0] ?_;(with_reducible refine (ct.calls kj7 _ _ l0 t46 t47 t48 t49 _ ?_ ?_ A34.out).mono ?_);exact mm;exact HC0.out;rintro e w21 ⟨v18,rfl,ho0,hb⟩;refine ⟨_,rfl,?_⟩;have HO11:=A0_ (Kd.R_lower (Kd.R_new' (Kd.R_new' (Kd.R_new' (Kd.R_new' (Kd.R_new' (Kd.R_new' (Kd.R_new' ho0 (Kd.R_lt aD)) (Kd.R_lt di)) (Kd.R_lt ei)) (Kd.R_lt bW)) (Kd.R_lt dP)) (Kd.R_lt dQ)) (Kd.R_lt dR)) (bz_ lv));replace HO_1:=A0_ (Kd.R_elder' aD (Kd.R_base ho0) hb);replace HO_3:=A0_ (Kd.R_elder' di (Kd.R_base ho0) hb);replace HO_4:=A0_ (Kd.R_elder' ei (Kd.R_base ho0) hb);replace HO_2:=A0_ (Kd.R_elder' bW (Kd.R_base ho0) hb);replace HO_5:=A0_ (Kd.R_elder' dP (Kd.R_base ho0) hb);replace HO_6:=A0_ (Kd.R_elder' dQ (Kd.R_base ho0) hb);replace HO_7:=A0_ (Kd.R_elder' dR (Kd.R_base ho0) hb);replace BK1:=k1_ BK1 hb;replace BK2:=k1_ BK2 hb;replace BK3:=k1_ BK3 hb;replace BK4:=k1_ BK4 hb;replace HB:=hb_ hb lv;(try clear hb ho0))|((with_reducible refine gd_ (N:=38) rfl ?_);(try (refine cL (by rfl) ?_;dsimp only));refine bx_ 38 #[.int .i64 0,.bool false,.slice none 0 0] 26 ?_;intro gb5 hg w22 BK5 hb;replace HO_1:=q1_ HO_1 hb;replace HO_3:=q1_ HO_3 hb;replace HO_4:=q1_ HO_4 hb;replace HO_2:=q1_ HO_2 hb;replace HO_5:=q1_ HO_5 hb;replace HO_6:=q1_ HO_6 hb;replace HO_7:=q1_ HO_7 hb;replace HO11:=q1_ HO11 hb;have GW5:=ge_ hg lv;have GE5:=GW5;replace HB:=hb_ hb lv;obtain ⟨NB1_5,NB5_1⟩:=nn_ hg BK1;replace BK1:=k1_ BK1 hb;obtain ⟨NB2_5,NB5_2⟩:=nn_ hg BK2;replace BK2:=k1_ BK2 hb;obtain ⟨NB3_5,NB5_3⟩:=nn_ hg BK3;replace BK3:=k1_ BK3 hb;obtain ⟨NB4_5,NB5_4⟩:=nn_ hg BK4;replace BK4:=k1_ BK4 hb;clear hb hg;obtain ⟨hnb7,hnc7⟩:=n2_ NB5_1;obtain ⟨hnb8,hnc8⟩:=n2_ NB5_2;obtain ⟨hnb9,hnc9⟩:=n2_ NB5_3;obtain ⟨hnb10,hnc10⟩:=n2_ NB5_4;have hcz17:=z3_ BK5;obtain ⟨Ao5,co5,eo5⟩:=Kd.R_slice HO11.out;subst eo5)|((with_reducible refine gc_ (f:=30) rfl ?_);refine gl_ 268 Tryd.func30 #[.agg #[.int .i64 t46,.bool t47,.slice Ao5 t48.length co5],.int .i64 t49] ?_;(with_reducible refine (aa.calls kj7 t46 t47 _ _ t48 t49 t50 t51 _ ?_ ?_ A36.out).mono ?_);(refine (rr_ (e:=3) (base:=w.heap.size) (ok:=fun k_=>(((((((True∧no_ v2 k_)∧no_ v7 k_)∧no_ v10 k_)∧no_ (.slice Ao1 t5.length co1) k_)∧no_ (.slice Ao2 t35.length co2) k_)∧no_ (.slice Ao3 t40.length co3) k_)∧no_ (.slice Ao4 t44.length co4) k_)) (n:=t48.length) (c:=co5) ?_).2.2;exact ra);exact (rr_ HO11.out).2.1;rintro e w23 ⟨rfl,hb⟩;refine ⟨_,rfl,?_⟩;replace HO_1:=A0_ (Kd.R_below (by (with_reducible repeat (first|apply ra_|apply rn_|apply rd_));exact (Kd.R_mono (cf (Kd.R_types HO_1.out BK5.out ao)) (fun _ h_=>h_.1))) hb);replace HO_3:=A0_ (Kd.R_below (by (with_reducible repeat (first|apply ra_|apply rn_|apply rd_));exact (Kd.R_mono (cf (Kd.R_types HO_3.out BK5.out ao)) (fun _ h_=>h_.1))) hb);replace HO_4:=A0_ (Kd.R_below (by (with_reducible repeat (first|apply ra_|apply rn_|apply rd_));exact (Kd.R_mono (cf (Kd.R_types HO_4.out BK5.out ao)) (fun _ h_=>h_.1))) hb);replace HO_2:=A0_ (Kd.R_below (by (with_reducible repeat (first|apply ra_|apply rn_|apply rd_));exact (Kd.R_mono (cf (Kd.R_types HO_2.out BK5.out ao)) (fun _ h_=>h_.1))) hb);replace HO_5:=A0_ (Kd.R_below (by (with_reducible repeat (first|apply ra_|apply rn_|apply rd_));exact (Kd.R_mono (cf (Kd.R_types HO_5.out BK5.out ao)) (fun _ h_=>h_.1))) hb);replace HO_6:=A0_ (Kd.R_below (by (with_reducible repeat (first|apply ra_|apply rn_|apply rd_));exact (Kd.R_mono (cf (Kd.R_types HO_6.out BK5.out ao)) (fun _ h_=>h_.1))) hb);replace HO_7:=A0_ (Kd.R_below (by (with_reducible repeat (first|apply ra_|apply rn_|apply rd_));exact (Kd.R_mono (cf (Kd.R_types HO_7.out BK5.out ao)) (fun _ h_=>h_.1))) hb);replace HO11:=A0_ (Kd.R_below ra hb);replace BK1:=k1_ BK1 hb;replace BK2:=k1_ BK2 hb;replace BK3:=k1_ BK3 hb;replace BK4:=k1_ BK4 hb;replace BK5:=k2_ (.cells #[.int .i64 t46,.bool t47,.slice Ao5 t48.length co5] 26 (0,0)) BK5 hb;replace HB:=hb_ hb dY;(try clear hb);have hcz18:=z3_ BK5)|((with_reducible refine gc_ (f:=31) rfl ?_);refine gl_ 274 Tryd.func31 #[.agg #[.int .i64 t46,.bool t47,.slice Ao5 t48.length co5],.int .i64 t49] ?_;(with_reducible refine (aT.calls kj7 t46 t47 _ _ t48 t49 t52 t53 _ ?_ ?_ A38.out).mono ?_);exact (by repeat (first|exact (rr_ HO11.out).2.2|(with_reducible refine ca_ ?_ _)|(with_reducible refine cn_ ?_ _)|(with_reducible refine cd_ ?_)));exact (rr_ HO11.out).2.1;rintro e w24 ⟨rfl,hb⟩;refine ⟨_,rfl,?_⟩;replace HO_1:=q1_ HO_1 hb;replace HO_3:=q1_ HO_3 hb;replace HO_4:=q1_ HO_4 hb;replace HO_2:=q1_ HO_2 hb;replace HO_5:=q1_ HO_5 hb;replace HO_6:=q1_ HO_6 hb;replace HO_7:=q1_ HO_7 hb;replace HO11:=q1_ HO11 hb;replace BK1:=k1_ BK1 hb;replace BK2:=k1_ BK2 hb;replace BK3:=k1_ BK3 hb;replace BK4:=k1_ BK4 hb;replace BK5:=k1_ BK5 hb;replace HB:=hb_ hb dY;(try clear hb)))
  (try simp only [Act.put,sa_,sz_,ss_])
  go_cut [284] from 260 to 284 (fun v19 wc=>∃ (kq:Nat) (x284_113:Bool),v19=.bool x284_113∧Aside0 (laws_FnGame.j7 kq t6 t7 t8 t11 t15 t19 t23 t27 t28 t49 t50 t51 x284_113 t3 t4 t5 t46 t47 t48=some r)∧Aside0 (kq≤kj7)∧Aside0 (Kd.R (Kd.int .i64) 3 wc w.heap.size (fun k_=>no_ v7 k_∧no_ v10 k_∧no_ (.slice Ao1 t5.length co1) k_∧no_ (.slice Ao2 t35.length co2) k_∧no_ (.slice Ao3 t40.length co3) k_∧no_ (.slice Ao4 t44.length co4) k_∧no_ (.slice Ao5 t48.length co5) k_) v2 t7)∧Aside0 (Kd.R (Kd.int .i64) 3 wc w.heap.size (fun k_=>no_ v2 k_∧no_ v10 k_∧no_ (.slice Ao1 t5.length co1) k_∧no_ (.slice Ao2 t35.length co2) k_∧no_ (.slice Ao3 t40.length co3) k_∧no_ (.slice Ao4 t44.length co4) k_∧no_ (.slice Ao5 t48.length co5) k_) v7 t19)∧Aside0 (Kd.R (Kd.int .i64) 3 wc w.heap.size (fun k_=>no_ v2 k_∧no_ v7 k_∧no_ (.slice Ao1 t5.length co1) k_∧no_ (.slice Ao2 t35.length co2) k_∧no_ (.slice Ao3 t40.length co3) k_∧no_ (.slice Ao4 t44.length co4) k_∧no_ (.slice Ao5 t48.length co5) k_) v10 t23)∧Aside0 (Kd.R (Kd.int .i64) 3 wc w.heap.size (fun k_=>no_ v2 k_∧no_ v7 k_∧no_ v10 k_∧no_ (.slice Ao2 t35.length co2) k_∧no_ (.slice Ao3 t40.length co3) k_∧no_ (.slice Ao4 t44.length co4) k_∧no_ (.slice Ao5 t48.length co5) k_) (.slice Ao1 t5.length co1) t5)∧Aside0 (Kd.R (Kd.int .i64) 3 wc w.heap.size (fun k_=>no_ v2 k_∧no_ v7 k_∧no_ v10 k_∧no_ (.slice Ao1 t5.length co1) k_∧no_ (.slice Ao3 t40.length co3) k_∧no_ (.slice Ao4 t44.length co4) k_∧no_ (.slice Ao5 t48.length co5) k_) (.slice Ao2 t35.length co2) t35)∧Aside0 (Kd.R (Kd.int .i64) 3 wc w.heap.size (fun k_=>no_ v2 k_∧no_ v7 k_∧no_ v10 k_∧no_ (.slice Ao1 t5.length co1) k_∧no_ (.slice Ao2 t35.length co2) k_∧no_ (.slice Ao4 t44.length co4) k_∧no_ (.slice Ao5 t48.length co5) k_) (.slice Ao3 t40.length co3) t40)∧Aside0 (Kd.R (Kd.int .i64) 3 wc w.heap.size (fun k_=>no_ v2 k_∧no_ v7 k_∧no_ v10 k_∧no_ (.slice Ao1 t5.length co1) k_∧no_ (.slice Ao2 t35.length co2) k_∧no_ (.slice Ao3 t40.length co3) k_∧no_ (.slice Ao5 t48.length co5) k_) (.slice Ao4 t44.length co4) t44)∧Aside0 (Kd.R (Kd.int .i64) 3 wc w.heap.size (fun k_=>no_ v2 k_∧no_ v7 k_∧no_ v10 k_∧no_ (.slice Ao1 t5.length co1) k_∧no_ (.slice Ao2 t35.length co2) k_∧no_ (.slice Ao3 t40.length co3) k_∧no_ (.slice Ao4 t44.length co4) k_) (.slice Ao5 t48.length co5) t48)∧Aside0 (wc.heap[gb1]?=some (.cells #[.int .i64 t3,.bool t4,(.slice Ao1 t5.length co1)] 26 (0,0)))∧Aside0 (wc.heap[gb2]?=some (.cells #[.int .i64 t33,.bool t34,(.slice Ao2 t35.length co2)] 26 (0,0)))∧Aside0 (wc.heap[gb3]?=some (.cells #[.int .i64 t38,.bool t39,(.slice Ao3 t40.length co3)] 26 (0,0)))∧Aside0 (wc.heap[gb4]?=some (.cells #[.int .i64 t42,.bool t43,(.slice Ao4 t44.length co4)] 26 (0,0)))∧Aside0 (wc.heap[gb5]?=some (.cells #[.int .i64 t46,.bool t47,(.slice Ao5 t48.length co5)] 26 (0,0)))∧Aside0 (Below w.heap.size w wc))
  case first =>
   have H:=HC114.out;clear HC114
   by_cases c9:(t50 != t52)=true
   ·rw [if_pos c9] at H
    exact absurd H bx
   rw [if_neg c9] at H
   have c9b0:(t50 != t52)=false:=by simpa using c9
   (try (have c9b1:decide (t50=t52)=true:=by simpa using c9))
   (try (have c9b2:(t50 == t52)=true:=by simpa using c9))
   clear c9
   (first|rw [c9b0]|(simp only [cH,dC];rw [c9b0])|skip)
   have H':=A0_ H;clear H
   go_wp2
   go_meet
   exact ⟨_,((t51 != t53)),aC,H',⟨by have:=HJ1.out;have:=HJ2.out;have:=HJ3.out;have:=HJ4.out;have:=HJ5.out;have:=HJ6.out;have:=HJ7.out;first|omega|exact Nat.le_refl _⟩,⟨eZ⟩,⟨e8⟩,⟨gL⟩,⟨eJ⟩,⟨fc⟩,⟨fd⟩,⟨fe⟩,⟨by (with_reducible repeat (first|apply ra_|apply rn_|apply rd_));exact Kd.R_mono HO11.out cf_⟩,⟨u1_ BK1⟩,⟨u1_ BK2⟩,⟨u1_ BK3⟩,⟨u1_ BK4⟩,⟨u1_ BK5⟩,⟨dY⟩⟩
  clear HC114
  try clear c1
  try clear c2
  try clear c3
  try clear c4
  try clear c5
  try clear c6
  try clear c7
  try clear c8
  (try clear hcz1);(try clear hcz17);(try clear hcz18);(try clear hcz2);(try clear hcz3);(try clear hcz4);(try clear hcz5);(try clear hcz6);(try clear hcz7);(try clear hcz8);(try clear hcz9);(try clear hcz10);(try clear hcz11);(try clear hcz12);(try clear hcz13);(try clear hcz14);(try clear hcz15);(try clear hcz16);(try clear hfz1);(try clear hfz17);(try clear hfz18);(try clear hfz2);(try clear hfz3);(try clear hfz4);(try clear hfz5);(try clear hfz6);(try clear hfz7);(try clear hfz8);(try clear hfz9);(try clear hfz10);(try clear hfz11);(try clear hfz12);(try clear hfz13);(try clear hfz14);(try clear hfz15);(try clear hfz16)
  obtain ⟨kq,x284_113,rfl,HA,HJ8,HO_1,HO_3,HO_4,HO_2,HO_5,HO_6,HO_7,HO_8,BK1,BK2,BK3,BK4,BK5,HB⟩:=hcut
  cases kq with|zero=>exact absurd HA.out (by simp [laws_FnGame.j7])|succ kj8=>?_
  as_aux_lemma =>
  have H:=HA.out;clear HA;simp only [laws_FnGame.j7] at H
  by_cases c9:x284_113=true
  ·subst c9
   have H1:(none)=some r:=by rw [if_pos rfl] at H;exact H
   exact absurd H1 bx
  obtain rfl:=bf_.mpr c9;rw [if_neg ft_] at H;have HC128:=A0_ H;clear H
  go_upto_if 285 with (fail)
  go_cut [] from 285 to 285 (fun wc=>∃ (kq:Nat),Aside0 (laws_FnGame.j9 kq t6 t7 t8 t11 t15 t19 t23 t27 t28 t3 t4 t5=some r)∧Aside0 (kq≤kj8)∧Aside0 (Kd.R (Kd.int .i64) 3 wc w.heap.size (fun k_=>no_ v7 k_∧no_ v10 k_∧no_ (.slice Ao1 t5.length co1) k_∧no_ (.slice Ao2 t35.length co2) k_∧no_ (.slice Ao3 t40.length co3) k_∧no_ (.slice Ao4 t44.length co4) k_∧no_ (.slice Ao5 t48.length co5) k_) v2 t7)∧Aside0 (Kd.R (Kd.int .i64) 3 wc w.heap.size (fun k_=>no_ v2 k_∧no_ v10 k_∧no_ (.slice Ao1 t5.length co1) k_∧no_ (.slice Ao2 t35.length co2) k_∧no_ (.slice Ao3 t40.length co3) k_∧no_ (.slice Ao4 t44.length co4) k_∧no_ (.slice Ao5 t48.length co5) k_) v7 t19)∧Aside0 (Kd.R (Kd.int .i64) 3 wc w.heap.size (fun k_=>no_ v2 k_∧no_ v7 k_∧no_ (.slice Ao1 t5.length co1) k_∧no_ (.slice Ao2 t35.length co2) k_∧no_ (.slice Ao3 t40.length co3) k_∧no_ (.slice Ao4 t44.length co4) k_∧no_ (.slice Ao5 t48.length co5) k_) v10 t23)∧Aside0 (Kd.R (Kd.int .i64) 3 wc w.heap.size (fun k_=>no_ v2 k_∧no_ v7 k_∧no_ v10 k_∧no_ (.slice Ao2 t35.length co2) k_∧no_ (.slice Ao3 t40.length co3) k_∧no_ (.slice Ao4 t44.length co4) k_∧no_ (.slice Ao5 t48.length co5) k_) (.slice Ao1 t5.length co1) t5)∧Aside0 (Kd.R (Kd.int .i64) 3 wc w.heap.size (fun k_=>no_ v2 k_∧no_ v7 k_∧no_ v10 k_∧no_ (.slice Ao1 t5.length co1) k_∧no_ (.slice Ao3 t40.length co3) k_∧no_ (.slice Ao4 t44.length co4) k_∧no_ (.slice Ao5 t48.length co5) k_) (.slice Ao2 t35.length co2) t35)∧Aside0 (Kd.R (Kd.int .i64) 3 wc w.heap.size (fun k_=>no_ v2 k_∧no_ v7 k_∧no_ v10 k_∧no_ (.slice Ao1 t5.length co1) k_∧no_ (.slice Ao2 t35.length co2) k_∧no_ (.slice Ao4 t44.length co4) k_∧no_ (.slice Ao5 t48.length co5) k_) (.slice Ao3 t40.length co3) t40)∧Aside0 (Kd.R (Kd.int .i64) 3 wc w.heap.size (fun k_=>no_ v2 k_∧no_ v7 k_∧no_ v10 k_∧no_ (.slice Ao1 t5.length co1) k_∧no_ (.slice Ao2 t35.length co2) k_∧no_ (.slice Ao3 t40.length co3) k_∧no_ (.slice Ao5 t48.length co5) k_) (.slice Ao4 t44.length co4) t44)∧Aside0 (Kd.R (Kd.int .i64) 3 wc w.heap.size (fun k_=>no_ v2 k_∧no_ v7 k_∧no_ v10 k_∧no_ (.slice Ao1 t5.length co1) k_∧no_ (.slice Ao2 t35.length co2) k_∧no_ (.slice Ao3 t40.length co3) k_∧no_ (.slice Ao4 t44.length co4) k_) (.slice Ao5 t48.length co5) t48)∧Aside0 (wc.heap[gb1]?=some (.cells #[.int .i64 t3,.bool t4,(.slice Ao1 t5.length co1)] 26 (0,0)))∧Aside0 (wc.heap[gb2]?=some (.cells #[.int .i64 t33,.bool t34,(.slice Ao2 t35.length co2)] 26 (0,0)))∧Aside0 (wc.heap[gb3]?=some (.cells #[.int .i64 t38,.bool t39,(.slice Ao3 t40.length co3)] 26 (0,0)))∧Aside0 (wc.heap[gb4]?=some (.cells #[.int .i64 t42,.bool t43,(.slice Ao4 t44.length co4)] 26 (0,0)))∧Aside0 (wc.heap[gb5]?=some (.cells #[.int .i64 t46,.bool t47,(.slice Ao5 t48.length co5)] 26 (0,0)))∧Aside0 (Below w.heap.size w wc))
  case first =>
   have H:=HC128.out;clear HC128
   by_cases c10:t51=true
   case neg =>
    obtain rfl:=bf_.mpr c10;rw [if_neg ft_] at H;have H':=A0_ H;clear H
    go_wp2
    go_meet
    exact ⟨_,H',⟨by have:=HJ1.out;have:=HJ2.out;have:=HJ3.out;have:=HJ4.out;have:=HJ5.out;have:=HJ6.out;have:=HJ7.out;have:=HJ8.out;first|omega|exact Nat.le_refl _⟩,⟨aD⟩,⟨di⟩,⟨ei⟩,⟨bW⟩,⟨dP⟩,⟨dQ⟩,⟨dR⟩,⟨d6⟩,⟨u1_ BK1⟩,⟨u1_ BK2⟩,⟨u1_ BK3⟩,⟨u1_ BK4⟩,⟨u1_ BK5⟩,⟨dY⟩⟩
   subst c10;rw [if_pos rfl] at H;obtain ⟨⟨t54,t55⟩,A40,H⟩:=o1_ H
   by_cases c11:t55=true
   case neg =>
    obtain rfl:=bf_.mpr c11
    have H1:(none)=some r:=by rw [if_neg ft_] at H;exact H
    exact absurd H1 bx
   subst c11;rw [if_pos rfl] at H;have H':=A0_ H;clear H;obtain ⟨hnb11,hnc11⟩:=n2_ NB5_1;obtain ⟨hnb12,hnc12⟩:=n2_ NB5_2;obtain ⟨hnb13,hnc13⟩:=n2_ NB5_3;obtain ⟨hnb14,hnc14⟩:=n2_ NB5_4;have hcz19:=z3_ BK5
   go_wp2_with (first|((with_reducible refine gc_ (f:=21) rfl ?_);refine gl_ 289 Tryd.func21 #[.agg #[.int .i64 t46,.bool t47,.slice Ao5 t48.length co5],.int .i64 t49] ?_;(with_reducible refine (bj.calls kj8 t46 t47 _ _ t48 t49 t54 true _ ?_ ?_ A40.out).mono ?_);exact my;exact (rr_ HO_8.out).2.1;rintro e w25 ⟨v20,rfl,ho0,hb⟩;refine ⟨_,rfl,?_⟩;have HO12:=A0_ (Kd.R_lower (Kd.R_new' (Kd.R_new' (Kd.R_new' (Kd.R_new' (Kd.R_new' (Kd.R_new' (Kd.R_new' (Kd.R_new' ho0 (Kd.R_lt aD)) (Kd.R_lt di)) (Kd.R_lt ei)) (Kd.R_lt bW)) (Kd.R_lt dP)) (Kd.R_lt dQ)) (Kd.R_lt dR)) (Kd.R_lt d6)) (bz_ dY));replace HO_1:=A0_ (Kd.R_elder' aD (Kd.R_base ho0) hb);replace HO_3:=A0_ (Kd.R_elder' di (Kd.R_base ho0) hb);replace HO_4:=A0_ (Kd.R_elder' ei (Kd.R_base ho0) hb);replace HO_2:=A0_ (Kd.R_elder' bW (Kd.R_base ho0) hb);replace HO_5:=A0_ (Kd.R_elder' dP (Kd.R_base ho0) hb);replace HO_6:=A0_ (Kd.R_elder' dQ (Kd.R_base ho0) hb);replace HO_7:=A0_ (Kd.R_elder' dR (Kd.R_base ho0) hb);replace HO_8:=A0_ (Kd.R_elder' d6 (Kd.R_base ho0) hb);replace BK1:=k1_ BK1 hb;replace BK2:=k1_ BK2 hb;replace BK3:=k1_ BK3 hb;replace BK4:=k1_ BK4 hb;replace BK5:=k1_ BK5 hb;replace HB:=hb_ hb dY;(try clear hb ho0);obtain ⟨Ao6,co6,eo6⟩:=Kd.R_slice HO12.out;subst eo6))
   go_loopg [46,47] kj8 (fun kq v21 v22 w'=>∃ (x46_9:Bool) (x47_9:Int),v21=.bool x46_9∧v22=.int .i64 x47_9∧Aside0 (laws_FnGame.l0 kq t6 t7 t8 t11 t15 t19 t23 t27 t28 t49 t50 t54 x46_9 x47_9 t3 t4 t5 t46 t47 t48=some r)∧Aside0 (kq≤kj8)∧Aside0 (Kd.R (Kd.int .i64) 3 w' w.heap.size (fun k_=>no_ v7 k_∧no_ v10 k_∧no_ (.slice Ao6 t54.length co6) k_∧no_ (.slice Ao1 t5.length co1) k_∧no_ (.slice Ao2 t35.length co2) k_∧no_ (.slice Ao3 t40.length co3) k_∧no_ (.slice Ao4 t44.length co4) k_∧no_ (.slice Ao5 t48.length co5) k_) v2 t7)∧Aside0 (Kd.R (Kd.int .i64) 3 w' w.heap.size (fun k_=>no_ v2 k_∧no_ v10 k_∧no_ (.slice Ao6 t54.length co6) k_∧no_ (.slice Ao1 t5.length co1) k_∧no_ (.slice Ao2 t35.length co2) k_∧no_ (.slice Ao3 t40.length co3) k_∧no_ (.slice Ao4 t44.length co4) k_∧no_ (.slice Ao5 t48.length co5) k_) v7 t19)∧Aside0 (Kd.R (Kd.int .i64) 3 w' w.heap.size (fun k_=>no_ v2 k_∧no_ v7 k_∧no_ (.slice Ao6 t54.length co6) k_∧no_ (.slice Ao1 t5.length co1) k_∧no_ (.slice Ao2 t35.length co2) k_∧no_ (.slice Ao3 t40.length co3) k_∧no_ (.slice Ao4 t44.length co4) k_∧no_ (.slice Ao5 t48.length co5) k_) v10 t23)∧Aside0 (Kd.R (Kd.int .i64) 3 w' w.heap.size (fun k_=>no_ v2 k_∧no_ v7 k_∧no_ v10 k_∧no_ (.slice Ao1 t5.length co1) k_∧no_ (.slice Ao2 t35.length co2) k_∧no_ (.slice Ao3 t40.length co3) k_∧no_ (.slice Ao4 t44.length co4) k_∧no_ (.slice Ao5 t48.length co5) k_) (.slice Ao6 t54.length co6) t54)∧Aside0 (Kd.R (Kd.int .i64) 3 w' w.heap.size (fun k_=>no_ v2 k_∧no_ v7 k_∧no_ v10 k_∧no_ (.slice Ao6 t54.length co6) k_∧no_ (.slice Ao2 t35.length co2) k_∧no_ (.slice Ao3 t40.length co3) k_∧no_ (.slice Ao4 t44.length co4) k_∧no_ (.slice Ao5 t48.length co5) k_) (.slice Ao1 t5.length co1) t5)∧Aside0 (Kd.R (Kd.int .i64) 3 w' w.heap.size (fun k_=>no_ v2 k_∧no_ v7 k_∧no_ v10 k_∧no_ (.slice Ao6 t54.length co6) k_∧no_ (.slice Ao1 t5.length co1) k_∧no_ (.slice Ao3 t40.length co3) k_∧no_ (.slice Ao4 t44.length co4) k_∧no_ (.slice Ao5 t48.length co5) k_) (.slice Ao2 t35.length co2) t35)∧Aside0 (Kd.R (Kd.int .i64) 3 w' w.heap.size (fun k_=>no_ v2 k_∧no_ v7 k_∧no_ v10 k_∧no_ (.slice Ao6 t54.length co6) k_∧no_ (.slice Ao1 t5.length co1) k_∧no_ (.slice Ao2 t35.length co2) k_∧no_ (.slice Ao4 t44.length co4) k_∧no_ (.slice Ao5 t48.length co5) k_) (.slice Ao3 t40.length co3) t40)∧Aside0 (Kd.R (Kd.int .i64) 3 w' w.heap.size (fun k_=>no_ v2 k_∧no_ v7 k_∧no_ v10 k_∧no_ (.slice Ao6 t54.length co6) k_∧no_ (.slice Ao1 t5.length co1) k_∧no_ (.slice Ao2 t35.length co2) k_∧no_ (.slice Ao3 t40.length co3) k_∧no_ (.slice Ao5 t48.length co5) k_) (.slice Ao4 t44.length co4) t44)∧Aside0 (Kd.R (Kd.int .i64) 3 w' w.heap.size (fun k_=>no_ v2 k_∧no_ v7 k_∧no_ v10 k_∧no_ (.slice Ao6 t54.length co6) k_∧no_ (.slice Ao1 t5.length co1) k_∧no_ (.slice Ao2 t35.length co2) k_∧no_ (.slice Ao3 t40.length co3) k_∧no_ (.slice Ao4 t44.length co4) k_) (.slice Ao5 t48.length co5) t48)∧Aside0 (w'.heap[gb1]?=some (.cells #[.int .i64 t3,.bool t4,(.slice Ao1 t5.length co1)] 26 (0,0)))∧Aside0 (w'.heap[gb2]?=some (.cells #[.int .i64 t33,.bool t34,(.slice Ao2 t35.length co2)] 26 (0,0)))∧Aside0 (w'.heap[gb3]?=some (.cells #[.int .i64 t38,.bool t39,(.slice Ao3 t40.length co3)] 26 (0,0)))∧Aside0 (w'.heap[gb4]?=some (.cells #[.int .i64 t42,.bool t43,(.slice Ao4 t44.length co4)] 26 (0,0)))∧Aside0 (w'.heap[gb5]?=some (.cells #[.int .i64 t46,.bool t47,(.slice Ao5 t48.length co5)] 26 (0,0)))∧Aside0 (Below w.heap.size w w'))
   case atStart=>exact ⟨(((t54.length:Int) == 0)),(0),aC,aC,H',⟨Nat.le_refl _⟩,⟨eZ⟩,⟨e8⟩,⟨gL⟩,⟨oZ⟩,⟨eJ⟩,⟨fc⟩,⟨fd⟩,⟨fe⟩,⟨fw⟩,⟨u1_ BK1⟩,⟨u1_ BK2⟩,⟨u1_ BK3⟩,⟨u1_ BK4⟩,⟨u1_ BK5⟩,⟨dY⟩⟩
   clear H'
   try clear c1
   try clear c2
   try clear c3
   try clear c4
   try clear c5
   try clear c6
   try clear c7
   try clear c8
   try clear c9
   try clear c10
   try clear c11
   (try clear hcz1);(try clear hcz17);(try clear hcz18);(try clear hcz19);(try clear hcz2);(try clear hcz3);(try clear hcz4);(try clear hcz5);(try clear hcz6);(try clear hcz7);(try clear hcz8);(try clear hcz9);(try clear hcz10);(try clear hcz11);(try clear hcz12);(try clear hcz13);(try clear hcz14);(try clear hcz15);(try clear hcz16);(try clear hfz1);(try clear hfz17);(try clear hfz18);(try clear hfz19);(try clear hfz2);(try clear hfz3);(try clear hfz4);(try clear hfz5);(try clear hfz6);(try clear hfz7);(try clear hfz8);(try clear hfz9);(try clear hfz10);(try clear hfz11);(try clear hfz12);(try clear hfz13);(try clear hfz14);(try clear hfz15);(try clear hfz16)
   obtain ⟨x46_9,x47_9,rfl,rfl,HA,HK1,HO_1,HO_3,HO_4,HO_9,HO_2,HO_5,HO_6,HO_7,HO_8,BK1,BK2,BK3,BK4,BK5,HB⟩:=hrel
   cases gk with|zero=>exact absurd HA.out (by simp [laws_FnGame.l0])|succ k9=>?_
   as_aux_lemma =>
   have H:=HA.out;clear HA;simp only [laws_FnGame.l0] at H
   by_cases c12:x47_9<(t54.length:Int)
   case neg =>
    rw [if_neg c12] at H;have c12b0:decide (x47_9<(t54.length:Int))=false:=decide_eq_false c12;clear c12
    (first|rw [c12b0]|(simp only [cH,dC];rw [c12b0])|skip)
    by_cases c13:(x46_9 != t50)=true
    ·rw [if_pos c13] at H
     exact absurd H bx
    rw [if_neg c13] at H
    have c13b0:(x46_9 != t50)=false:=by simpa using c13
    (try (have c13b1:decide (x46_9=t50)=true:=by simpa using c13))
    (try (have c13b2:(x46_9 == t50)=true:=by simpa using c13))
    clear c13;have H':=A0_ H;clear H
    go_wp2
    go_meet
    exact ⟨_,H',⟨by have:=HJ1.out;have:=HJ2.out;have:=HJ3.out;have:=HJ4.out;have:=HJ5.out;have:=HJ6.out;have:=HJ7.out;have:=HJ8.out;have:=HK1.out;first|omega|exact Nat.le_refl _⟩,⟨eZ⟩,⟨e8⟩,⟨gL⟩,⟨eJ⟩,⟨fc⟩,⟨fd⟩,⟨fe⟩,⟨fw⟩,⟨u1_ BK1⟩,⟨u1_ BK2⟩,⟨u1_ BK3⟩,⟨u1_ BK4⟩,⟨u1_ BK5⟩,⟨dY⟩⟩
   rw [if_pos c12] at H;have c12b0:decide (x47_9<(t54.length:Int))=true:=dt_ c12;clear c12
   (first|rw [c12b0]|(simp only [cH,dC];rw [c12b0])|skip)
   obtain ⟨c13b0,H⟩:=i1_ H;obtain ⟨⟨t56,t57,t58,t59⟩,A42,H⟩:=o1_ H;obtain ⟨⟨t60,t61⟩,A44,H⟩:=o1_ H
   by_cases c14:t59=true
   case neg =>
    obtain rfl:=bf_.mpr c14
    have H1:(none)=some r:=by rw [if_neg ft_] at H;exact H
    exact absurd H1 bx
   subst c14;rw [if_pos rfl] at H
   by_cases c15:t61=true
   case neg =>
    obtain rfl:=bf_.mpr c15
    have H1:(none)=some r:=by rw [if_neg ft_] at H;exact H
    exact absurd H1 bx
   subst c15;rw [if_pos rfl] at H
   by_cases c16:x46_9=true
   ·subst c16
    rw [if_pos rfl] at H;have H':=A0_ H;clear H
    try go_wp2
    replace HO_1:=A0_ (rd_ HO_1.out);replace HO_3:=A0_ (rd_ HO_3.out);replace HO_4:=A0_ (rd_ HO_4.out);replace HO_9:=A0_ (rd_ HO_9.out);replace HO_2:=A0_ (rd_ HO_2.out);replace HO_5:=A0_ (rd_ HO_5.out);replace HO_6:=A0_ (rd_ HO_6.out);replace HO_7:=A0_ (rd_ HO_7.out);replace HO_8:=A0_ (rd_ HO_8.out);replace BK1:=A0_ (kd_ BK1.out);replace BK2:=A0_ (kd_ BK2.out);replace BK3:=A0_ (kd_ BK3.out);replace BK4:=A0_ (kd_ BK4.out);replace BK5:=A0_ (kd_ BK5.out);replace HB:=A0_ (bd_ HB.out);have p1:0≤(x47_9:Int):=od_ aE;have q1:x47_9<(t54.length:Int):=od_ aE;obtain ⟨ad1,e1,hx1_0⟩:=Kd.at_int (rr_ HO_9.out).2.2 x47_9 p1 q1;cases e1;replace p1:=eq_true p1;replace q1:=eq_true q1
    refine dh (n:=13) (S:=fun w'=>w'.cell? ⟨gb5,0,none⟩=some (.int .i64 t46)∧w'.cell? ⟨gb5,1,none⟩=some (.bool t47)∧w'.cell? ⟨gb5,2,none⟩=some (.slice Ao5 t48.length co5)∧w'.cell? (ad1.add (x47_9).toNat)=some (.int .i64 (rd t54 x47_9))) (ds:=[]) #[false,false,false,false,false,false,false,false,false,false,false,false,false] bS rfl rfl (a3_ BK5 hx1_0) (fun hHeld=>?_);refine dc laws_FnGame.tab46 laws_FnGame.bits46 (fun HT_ HW_=>?_)
    generalize wr.drew=w26 at HO_1 HO_3 HO_4 HO_9 HO_2 HO_5 HO_6 HO_7 HO_8 BK1 BK2 BK3 BK4 BK5 HB hx1_0 hHeld ⊢
    refine pu_ 1 305 ?_
    refine pu_ 2 306 ?_
    refine pu_ 3 307 ?_
    refine pu_ 4 308 ?_
    refine tk_ 0 304 hHeld ?_
    refine tk_ 5 309 hHeld ?_
    refine lq (σ:=Value × Nat) 2 #[true,true,true,true,true,true,true,true,true,true,true,false,false] (fun s_=>[(310,.tuple #[.agg #[.int .i64 t56,.bool t57,s_.1],.bool true]),(48,.pointer (some ⟨s_.2,0,none⟩)),(303,.tuple #[.agg #[.int .i64 t56,.bool t57,s_.1],.bool true]),(311,.agg #[.int .i64 t56,.bool t57,s_.1]),(312,.bool true)]) (fun s_ w'=>(w'.cell? ⟨gb5,0,none⟩=some (.int .i64 t46)∧w'.cell? ⟨gb5,1,none⟩=some (.bool t47)∧w'.cell? ⟨gb5,2,none⟩=some (.slice Ao5 t48.length co5)∧w'.cell? (ad1.add (x47_9).toNat)=some (.int .i64 (rd t54 x47_9)))∧(Kd.R (Kd.int .i64) 3 w' w.heap.size (fun k_=>no_ v7 k_∧no_ v10 k_∧no_ (.slice (some ad1) t54.length co6) k_∧no_ v2 k_∧no_ (.slice Ao1 t5.length co1) k_∧no_ (.slice Ao2 t35.length co2) k_∧no_ (.slice Ao3 t40.length co3) k_∧no_ (.slice Ao4 t44.length co4) k_∧no_ (.slice Ao5 t48.length co5) k_) s_.1 t58)∧(Kd.R (Kd.int .i64) 3 w' w.heap.size (fun k_=>some k_≠(s_.1:Value).ownBlock∧no_ v10 k_∧no_ (.slice (some ad1) t54.length co6) k_∧no_ v2 k_∧no_ (.slice Ao1 t5.length co1) k_∧no_ (.slice Ao2 t35.length co2) k_∧no_ (.slice Ao3 t40.length co3) k_∧no_ (.slice Ao4 t44.length co4) k_∧no_ (.slice Ao5 t48.length co5) k_) v7 t19)∧(Kd.R (Kd.int .i64) 3 w' w.heap.size (fun k_=>some k_≠(s_.1:Value).ownBlock∧no_ v7 k_∧no_ (.slice (some ad1) t54.length co6) k_∧no_ v2 k_∧no_ (.slice Ao1 t5.length co1) k_∧no_ (.slice Ao2 t35.length co2) k_∧no_ (.slice Ao3 t40.length co3) k_∧no_ (.slice Ao4 t44.length co4) k_∧no_ (.slice Ao5 t48.length co5) k_) v10 t23)∧(Kd.R (Kd.int .i64) 3 w' w.heap.size (fun k_=>some k_≠(s_.1:Value).ownBlock∧no_ v7 k_∧no_ v10 k_∧no_ v2 k_∧no_ (.slice Ao1 t5.length co1) k_∧no_ (.slice Ao2 t35.length co2) k_∧no_ (.slice Ao3 t40.length co3) k_∧no_ (.slice Ao4 t44.length co4) k_∧no_ (.slice Ao5 t48.length co5) k_) (.slice (some ad1) t54.length co6) t54)∧(Kd.R (Kd.int .i64) 3 w' w.heap.size (fun k_=>some k_≠(s_.1:Value).ownBlock∧no_ v7 k_∧no_ v10 k_∧no_ (.slice (some ad1) t54.length co6) k_∧no_ (.slice Ao1 t5.length co1) k_∧no_ (.slice Ao2 t35.length co2) k_∧no_ (.slice Ao3 t40.length co3) k_∧no_ (.slice Ao4 t44.length co4) k_∧no_ (.slice Ao5 t48.length co5) k_) v2 t7)∧(Kd.R (Kd.int .i64) 3 w' w.heap.size (fun k_=>some k_≠(s_.1:Value).ownBlock∧no_ v7 k_∧no_ v10 k_∧no_ (.slice (some ad1) t54.length co6) k_∧no_ v2 k_∧no_ (.slice Ao2 t35.length co2) k_∧no_ (.slice Ao3 t40.length co3) k_∧no_ (.slice Ao4 t44.length co4) k_∧no_ (.slice Ao5 t48.length co5) k_) (.slice Ao1 t5.length co1) t5)∧(Kd.R (Kd.int .i64) 3 w' w.heap.size (fun k_=>some k_≠(s_.1:Value).ownBlock∧no_ v7 k_∧no_ v10 k_∧no_ (.slice (some ad1) t54.length co6) k_∧no_ v2 k_∧no_ (.slice Ao1 t5.length co1) k_∧no_ (.slice Ao3 t40.length co3) k_∧no_ (.slice Ao4 t44.length co4) k_∧no_ (.slice Ao5 t48.length co5) k_) (.slice Ao2 t35.length co2) t35)∧(Kd.R (Kd.int .i64) 3 w' w.heap.size (fun k_=>some k_≠(s_.1:Value).ownBlock∧no_ v7 k_∧no_ v10 k_∧no_ (.slice (some ad1) t54.length co6) k_∧no_ v2 k_∧no_ (.slice Ao1 t5.length co1) k_∧no_ (.slice Ao2 t35.length co2) k_∧no_ (.slice Ao4 t44.length co4) k_∧no_ (.slice Ao5 t48.length co5) k_) (.slice Ao3 t40.length co3) t40)∧(Kd.R (Kd.int .i64) 3 w' w.heap.size (fun k_=>some k_≠(s_.1:Value).ownBlock∧no_ v7 k_∧no_ v10 k_∧no_ (.slice (some ad1) t54.length co6) k_∧no_ v2 k_∧no_ (.slice Ao1 t5.length co1) k_∧no_ (.slice Ao2 t35.length co2) k_∧no_ (.slice Ao3 t40.length co3) k_∧no_ (.slice Ao5 t48.length co5) k_) (.slice Ao4 t44.length co4) t44)∧(Kd.R (Kd.int .i64) 3 w' w.heap.size (fun k_=>some k_≠(s_.1:Value).ownBlock∧no_ v7 k_∧no_ v10 k_∧no_ (.slice (some ad1) t54.length co6) k_∧no_ v2 k_∧no_ (.slice Ao1 t5.length co1) k_∧no_ (.slice Ao2 t35.length co2) k_∧no_ (.slice Ao3 t40.length co3) k_∧no_ (.slice Ao4 t44.length co4) k_) (.slice Ao5 t48.length co5) t48)∧(w'.heap[gb1]?=some (.cells #[.int .i64 t3,.bool t4,.slice Ao1 t5.length co1] 26 (0,0)))∧(w'.heap[gb2]?=some (.cells #[.int .i64 t33,.bool t34,.slice Ao2 t35.length co2] 26 (0,0)))∧(w'.heap[gb3]?=some (.cells #[.int .i64 t38,.bool t39,.slice Ao3 t40.length co3] 26 (0,0)))∧(w'.heap[gb4]?=some (.cells #[.int .i64 t42,.bool t43,.slice Ao4 t44.length co4] 26 (0,0)))∧(w'.heap[gb5]?=some (.cells #[.int .i64 t46,.bool t47,.slice Ao5 t48.length co5] 26 (0,0)))∧(w'.heap[s_.2]?=some (.cells #[.int .i64 0,.bool false,.slice none 0 0] 26 (0,0)))∧(w.heap.size≤s_.2)∧(w.heap.size≤s_.2)∧(gb1≠s_.2)∧(s_.2≠gb1)∧(gb2≠s_.2)∧(s_.2≠gb2)∧(gb3≠s_.2)∧(s_.2≠gb3)∧(gb4≠s_.2)∧(s_.2≠gb4)∧(gb5≠s_.2)∧(s_.2≠gb5)∧(Below w.heap.size w w')) ?_ ?_
    rotate_left
    ·intro hCont
     refine ml (i:=6) (j:=10) (Ni:=some 310) (Nj:=some 48) #[true,true,true,true,true,true,true,false,false,false,false,false,false] #[true,true,true,true,true,true,false,false,false,false,true,false,false] rfl rfl rfl rfl (gS HT_.out bS) ao ao (fun K hK=>?_) (fun K hK=>?_)
     ·refine gs_ Tryd.func8 #[.agg #[.int .i64 t46,.bool t47,.slice Ao5 t48.length co5],.int .i64 t49,.int .i64 (rd t54 x47_9)] ?_
      with_reducible refine (aU.calls k9 t46 t47 _ _ t48 t49 (rd t54 x47_9) t56 t57 t58 true _ ?_ ?_ iv A42.out).mono ?_
      exact my
      exact (rr_ HO_8.out).2.1
      rintro e w27 ⟨v23,rfl,ho0,hb⟩;have HS3_:=(hb.cell (World.block_lt_of_cell? _ _ (hHeld.2.2.2))).trans (hHeld.2.2.2)
      refine ⟨_,rfl,?_⟩
      have HO13:=A0_ (Kd.R_lower (Kd.R_new' (Kd.R_new' (Kd.R_new' (Kd.R_new' (Kd.R_new' (Kd.R_new' (Kd.R_new' (Kd.R_new' (Kd.R_new' ho0 (Kd.R_lt aD)) (Kd.R_lt di)) (Kd.R_lt ei)) (Kd.R_lt eu)) (Kd.R_lt bW)) (Kd.R_lt dP)) (Kd.R_lt dQ)) (Kd.R_lt dR)) (Kd.R_lt d6)) (bz_ dY));replace HO_1:=A0_ (Kd.R_elder' aD (Kd.R_base ho0) hb);replace HO_3:=A0_ (Kd.R_elder' di (Kd.R_base ho0) hb);replace HO_4:=A0_ (Kd.R_elder' ei (Kd.R_base ho0) hb);replace HO_9:=A0_ (Kd.R_elder' eu (Kd.R_base ho0) hb);replace HO_2:=A0_ (Kd.R_elder' bW (Kd.R_base ho0) hb);replace HO_5:=A0_ (Kd.R_elder' dP (Kd.R_base ho0) hb);replace HO_6:=A0_ (Kd.R_elder' dQ (Kd.R_base ho0) hb);replace HO_7:=A0_ (Kd.R_elder' dR (Kd.R_base ho0) hb);replace HO_8:=A0_ (Kd.R_elder' d6 (Kd.R_base ho0) hb);replace BK1:=k1_ BK1 hb;replace BK2:=k1_ BK2 hb;replace BK3:=k1_ BK3 hb;replace BK4:=k1_ BK4 hb;replace BK5:=k1_ BK5 hb;replace HB:=hb_ hb dY
      (try clear hb ho0)
      refine hK.out _ _ (a3_ BK5 HS3_) (fun hHeld=>?_)
      clear hK K
      refine nm_ 310 ?_
      refine pu_ 7 303 ?_
      refine pu_ 8 311 ?_
      refine pu_ 9 312 ?_
      refine on_ 10 (some 48) (fun K hK=>?_)
      refine bp_ 48 #[.int .i64 0,.bool false,.slice none 0 0] 26 ?_
      intro gb6 hg w28 hbox hb;have HS3_:=(hb.cell (World.block_lt_of_cell? _ _ (hHeld.2.2.2))).trans (hHeld.2.2.2);replace HO_1:=q1_ HO_1 hb;replace HO_3:=q1_ HO_3 hb;replace HO_4:=q1_ HO_4 hb;replace HO_9:=q1_ HO_9 hb;replace HO_2:=q1_ HO_2 hb;replace HO_5:=q1_ HO_5 hb;replace HO_6:=q1_ HO_6 hb;replace HO_7:=q1_ HO_7 hb;replace HO_8:=q1_ HO_8 hb;replace HO13:=q1_ HO13 hb;have BK6:=A0_ (hbox);have GW6:=ge_ hg dY;have GE6:=ge_ hg dY;replace HB:=hb_ hb dY;obtain ⟨NB1_6,NB6_1⟩:=nn_ hg BK1;replace BK1:=k1_ BK1 hb;obtain ⟨NB2_6,NB6_2⟩:=nn_ hg BK2;replace BK2:=k1_ BK2 hb;obtain ⟨NB3_6,NB6_3⟩:=nn_ hg BK3;replace BK3:=k1_ BK3 hb;obtain ⟨NB4_6,NB6_4⟩:=nn_ hg BK4;replace BK4:=k1_ BK4 hb;obtain ⟨NB5_6,NB6_5⟩:=nn_ hg BK5;replace BK5:=k1_ BK5 hb;clear hb hbox hg
      refine hK.out _ _ (a3_ BK5 HS3_) (fun hHeld=>?_)
      clear hK K
      refine nm_ 48 ?_
      exact fD gh (hCont (v23,gb6) _ ⟨hHeld,mz,e8,gL,fV,eZ,eJ,fc,fd,fe,fw,(u1_ BK1),(u1_ BK2),(u1_ BK3),(u1_ BK4),(u1_ BK5),(u1_ BK6),GW6.out,GE6.out,NB1_6.out,NB6_1.out,NB2_6.out,NB6_2.out,NB3_6.out,NB6_3.out,NB4_6.out,NB6_4.out,NB5_6.out,NB6_5.out,gM⟩)
     refine bp_ 48 #[.int .i64 0,.bool false,.slice none 0 0] 26 ?_
     intro gb6 hg w27 hbox hb;have HS3_:=(hb.cell (World.block_lt_of_cell? _ _ (hHeld.2.2.2))).trans (hHeld.2.2.2);replace HO_1:=q1_ HO_1 hb;replace HO_3:=q1_ HO_3 hb;replace HO_4:=q1_ HO_4 hb;replace HO_9:=q1_ HO_9 hb;replace HO_2:=q1_ HO_2 hb;replace HO_5:=q1_ HO_5 hb;replace HO_6:=q1_ HO_6 hb;replace HO_7:=q1_ HO_7 hb;replace HO_8:=q1_ HO_8 hb;have BK6:=A0_ (hbox);have GW6:=ge_ hg dY;have GE6:=ge_ hg dY;replace HB:=hb_ hb dY;obtain ⟨NB1_6,NB6_1⟩:=nn_ hg BK1;replace BK1:=k1_ BK1 hb;obtain ⟨NB2_6,NB6_2⟩:=nn_ hg BK2;replace BK2:=k1_ BK2 hb;obtain ⟨NB3_6,NB6_3⟩:=nn_ hg BK3;replace BK3:=k1_ BK3 hb;obtain ⟨NB4_6,NB6_4⟩:=nn_ hg BK4;replace BK4:=k1_ BK4 hb;obtain ⟨NB5_6,NB6_5⟩:=nn_ hg BK5;replace BK5:=k1_ BK5 hb;clear hb hbox hg
     refine hK.out _ _ (a3_ BK5 HS3_) (fun hHeld=>?_)
     clear hK K
     refine nm_ 48 ?_
     refine on_ 6 (some 310) (fun K hK=>?_)
     refine gs_ Tryd.func8 #[.agg #[.int .i64 t46,.bool t47,.slice Ao5 t48.length co5],.int .i64 t49,.int .i64 (rd t54 x47_9)] ?_
     with_reducible refine (aU.calls k9 t46 t47 _ _ t48 t49 (rd t54 x47_9) t56 t57 t58 true _ ?_ ?_ iv A42.out).mono ?_
     exact my
     exact (rr_ HO_8.out).2.1
     rintro e w28 ⟨v23,rfl,ho0,hb⟩;have HS3_:=(hb.cell (World.block_lt_of_cell? _ _ (hHeld.2.2.2))).trans (hHeld.2.2.2)
     refine ⟨_,rfl,?_⟩
     have HO13:=A0_ (Kd.R_lower (Kd.R_new' (Kd.R_new' (Kd.R_new' (Kd.R_new' (Kd.R_new' (Kd.R_new' (Kd.R_new' (Kd.R_new' (Kd.R_new' ho0 (Kd.R_lt aD)) (Kd.R_lt di)) (Kd.R_lt ei)) (Kd.R_lt eu)) (Kd.R_lt bW)) (Kd.R_lt dP)) (Kd.R_lt dQ)) (Kd.R_lt dR)) (Kd.R_lt d6)) (bz_ gM));replace HO_1:=A0_ (Kd.R_elder' aD (Kd.R_base ho0) hb);replace HO_3:=A0_ (Kd.R_elder' di (Kd.R_base ho0) hb);replace HO_4:=A0_ (Kd.R_elder' ei (Kd.R_base ho0) hb);replace HO_9:=A0_ (Kd.R_elder' eu (Kd.R_base ho0) hb);replace HO_2:=A0_ (Kd.R_elder' bW (Kd.R_base ho0) hb);replace HO_5:=A0_ (Kd.R_elder' dP (Kd.R_base ho0) hb);replace HO_6:=A0_ (Kd.R_elder' dQ (Kd.R_base ho0) hb);replace HO_7:=A0_ (Kd.R_elder' dR (Kd.R_base ho0) hb);replace HO_8:=A0_ (Kd.R_elder' d6 (Kd.R_base ho0) hb);replace BK1:=k1_ BK1 hb;replace BK2:=k1_ BK2 hb;replace BK3:=k1_ BK3 hb;replace BK4:=k1_ BK4 hb;replace BK5:=k1_ BK5 hb;replace BK6:=k1_ BK6 hb;replace HB:=hb_ hb gM
     (try clear hb ho0)
     refine hK.out _ _ (a3_ BK5 HS3_) (fun hHeld=>?_)
     clear hK K
     refine nm_ 310 ?_
     refine pu_ 7 303 ?_
     refine pu_ 8 311 ?_
     refine pu_ 9 312 ?_
     exact fD gh (hCont (v23,gb6) _ ⟨hHeld,mz,e8,gL,fV,eZ,eJ,fc,fd,fe,fw,(u1_ BK1),(u1_ BK2),(u1_ BK3),(u1_ BK4),(u1_ BK5),(u1_ BK6),GW6.out,GE6.out,NB1_6.out,NB6_1.out,NB2_6.out,NB6_2.out,NB3_6.out,NB6_3.out,NB4_6.out,NB6_4.out,NB5_6.out,NB6_5.out,gM⟩)
    rintro ⟨v23,gb6⟩ w27 ⟨hS_,h0_,h1_,h2_,h3_,h4_,h5_,h6_,h7_,h8_,h9_,h10_,h11_,h12_,h13_,h14_,h15_,h16_,h17_,h18_,h19_,h20_,h21_,h22_,h23_,h24_,h25_,h26_,h27_,h28_⟩
    try dsimp only at h0_ h1_ h2_ h3_ h4_ h5_ h6_ h7_ h8_ h9_ h10_ h11_ h12_ h13_ h14_ h15_ h16_ h17_ h18_ h19_ h20_ h21_ h22_ h23_ h24_ h25_ h26_ h27_ h28_
    have HO13:=A0_ h0_;replace HO_3:=A0_ h1_;replace HO_4:=A0_ h2_;replace HO_9:=A0_ h3_;replace HO_1:=A0_ h4_;replace HO_2:=A0_ h5_;replace HO_5:=A0_ h6_;replace HO_6:=A0_ h7_;replace HO_7:=A0_ h8_;replace HO_8:=A0_ h9_;replace BK1:=A0_ h10_;replace BK2:=A0_ h11_;replace BK3:=A0_ h12_;replace BK4:=A0_ h13_;replace BK5:=A0_ h14_;have BK6:=A0_ h15_;have GW6:=A0_ h16_;have GE6:=A0_ h17_;have NB1_6:=A0_ h18_;have NB6_1:=A0_ h19_;have NB2_6:=A0_ h20_;have NB6_2:=A0_ h21_;have NB3_6:=A0_ h22_;have NB6_3:=A0_ h23_;have NB4_6:=A0_ h24_;have NB6_4:=A0_ h25_;have NB5_6:=A0_ h26_;have NB6_5:=A0_ h27_;replace HB:=A0_ h28_;clear h0_ h1_ h2_ h3_ h4_ h5_ h6_ h7_ h8_ h9_ h10_ h11_ h12_ h13_ h14_ h15_ h16_ h17_ h18_ h19_ h20_ h21_ h22_ h23_ h24_ h25_ h26_ h27_ h28_;have hHeld:w27.cell? ⟨gb5,0,none⟩=some (.int .i64 t46)∧w27.cell? ⟨gb5,1,none⟩=some (.bool t47)∧w27.cell? ⟨gb5,2,none⟩=some (.slice Ao5 t48.length co5)∧w27.cell? (ad1.add (x47_9).toNat)=some (.int .i64 (rd t54 x47_9)):=hS_;obtain ⟨Ao7,co7,eo7⟩:=Kd.R_slice HO13.out
    (first|subst eo7|(injection eo7 with f1_ f2_ f3_;have f4_:=f1_.symm;have f5_:=f3_.symm;clear f1_ f2_ f3_;subst f4_;subst f5_))
    refine nq_ ?_
    refine on_ 11 none (fun K hK=>?_)
    have hs150:=y_ BK6 0;have hfs150:=kf_ BK6.out 0;have hns1_0:=NB1_6.out;have hns1_1:=NB2_6.out;have hns1_2:=NB3_6.out;have hns1_3:=NB4_6.out;have hns1_4:=NB5_6.out;have hms1_0:=NB6_1.out;have hms1_1:=NB6_2.out;have hms1_2:=NB6_3.out;have hms1_3:=NB6_4.out;have hms1_4:=NB6_5.out;have hs151:=y_ BK6 1;have hfs151:=kf_ BK6.out 1;have hns2_0:=NB1_6.out;have hns2_1:=NB2_6.out;have hns2_2:=NB3_6.out;have hns2_3:=NB4_6.out;have hns2_4:=NB5_6.out;have hms2_0:=NB6_1.out;have hms2_1:=NB6_2.out;have hms2_2:=NB6_3.out;have hms2_3:=NB6_4.out;have hms2_4:=NB6_5.out;have hs153:=y_ BK6 2;have hfs153:=kf_ BK6.out 2;have hns3_0:=NB1_6.out;have hns3_1:=NB2_6.out;have hns3_2:=NB3_6.out;have hns3_3:=NB4_6.out;have hns3_4:=NB5_6.out;have hms3_0:=NB6_1.out;have hms3_1:=NB6_2.out;have hms3_2:=NB6_3.out;have hms3_3:=NB6_4.out;have hms3_4:=NB6_5.out
    refine fF (w1:=?_) (by rfl) rfl ?_ ?_
    rotate_left
    ·go_simp
     rfl
    refine hK.out _ _ ⟨((av (p:=⟨gb6,_,none⟩) NB5_6.out _).trans (((av (p:=⟨gb6,_,none⟩) NB5_6.out _).trans (((av (p:=⟨gb6,_,none⟩) NB5_6.out _).trans (hHeld.1)))))),((av (p:=⟨gb6,_,none⟩) NB5_6.out _).trans (((av (p:=⟨gb6,_,none⟩) NB5_6.out _).trans (((av (p:=⟨gb6,_,none⟩) NB5_6.out _).trans (hHeld.2.1)))))),((av (p:=⟨gb6,_,none⟩) NB5_6.out _).trans (((av (p:=⟨gb6,_,none⟩) NB5_6.out _).trans (((av (p:=⟨gb6,_,none⟩) NB5_6.out _).trans (hHeld.2.2.1)))))),((av (p:=⟨gb6,_,none⟩) lw _).trans (((av (p:=⟨gb6,_,none⟩) lw _).trans (((av (p:=⟨gb6,_,none⟩) lw _).trans (hHeld.2.2.2))))))⟩ (fun hHeld=>?_)
    clear hK K
    refine pu_ 12 49 ?_
    refine dn_ ?_
    obtain ⟨hnb15,hnc15⟩:=n2_ NB6_1;obtain ⟨hnb16,hnc16⟩:=n2_ NB6_2;obtain ⟨hnb17,hnc17⟩:=n2_ NB6_3;obtain ⟨hnb18,hnc18⟩:=n2_ NB6_4;obtain ⟨hnb19,hnc19⟩:=n2_ NB6_5;have hcz20:=z3_ BK6
    try go_wp2_with (first|((with_reducible refine gc_ (f:=30) rfl ?_);refine gl_ 316 Tryd.func30 #[.agg #[.int .i64 t56,.bool t57,.slice Ao7 t58.length co7],.int .i64 t49] ?_;(with_reducible refine (aa.calls k9 t56 t57 _ _ t58 t49 t60 true _ ?_ ?_ A44.out).mono ?_);(refine (rr_ (e:=3) (base:=w.heap.size) (ok:=fun k_=>(no_ v7 k_∧(no_ v10 k_∧(no_ (.slice (some ad1) t54.length co6) k_∧(no_ v2 k_∧(no_ (.slice Ao1 t5.length co1) k_∧(no_ (.slice Ao2 t35.length co2) k_∧(no_ (.slice Ao3 t40.length co3) k_∧(no_ (.slice Ao4 t44.length co4) k_∧no_ (.slice Ao5 t48.length co5) k_))))))))) (n:=t58.length) (c:=co7) ?_).2.2;exact nI);exact (rr_ HO13.out).2.1;rintro e w28 ⟨rfl,hb⟩;refine ⟨_,rfl,?_⟩;replace HO_1:=A0_ (Kd.R_below rb hb);replace HO_3:=A0_ (Kd.R_below rc hb);replace HO_4:=A0_ (Kd.R_below re hb);replace HO_9:=A0_ (Kd.R_below rf hb);replace HO_2:=A0_ (Kd.R_below rg hb);replace HO_5:=A0_ (Kd.R_below rh hb);replace HO_6:=A0_ (Kd.R_below ri hb);replace HO_7:=A0_ (Kd.R_below rj hb);replace HO_8:=A0_ (Kd.R_below rk hb);replace HO13:=A0_ (Kd.R_below nI hb);replace BK1:=k1_ BK1 hb;replace BK2:=k1_ BK2 hb;replace BK3:=k1_ BK3 hb;replace BK4:=k1_ BK4 hb;replace BK5:=k1_ BK5 hb;replace BK6:=k2_ (.cells #[.int .i64 t56,.bool t57,.slice Ao7 t58.length co7] 26 (0,0)) BK6 hb;replace HB:=hb_ hb gM;(try clear hb)))
    go_roundg k9
    case measure=>have:=HJ1.out;have:=HJ2.out;have:=HJ3.out;have:=HJ4.out;have:=HJ5.out;have:=HJ6.out;have:=HJ7.out;have:=HJ8.out;have:=HK1.out;omega
    exact ⟨(true),(wrap64 (x47_9+1)),aC,aC,H',⟨rl⟩,⟨eZ⟩,⟨e8⟩,⟨gL⟩,⟨fV⟩,⟨eJ⟩,⟨fc⟩,⟨fd⟩,⟨fe⟩,⟨fw⟩,⟨u1_ BK1⟩,⟨u1_ BK2⟩,⟨u1_ BK3⟩,⟨u1_ BK4⟩,⟨u1_ BK5⟩,⟨gM⟩⟩
   obtain rfl:=bf_.mpr c16;rw [if_neg ft_] at H;have H':=A0_ H;clear H
   try go_wp2
   replace HO_1:=A0_ (rd_ HO_1.out);replace HO_3:=A0_ (rd_ HO_3.out);replace HO_4:=A0_ (rd_ HO_4.out);replace HO_9:=A0_ (rd_ HO_9.out);replace HO_2:=A0_ (rd_ HO_2.out);replace HO_5:=A0_ (rd_ HO_5.out);replace HO_6:=A0_ (rd_ HO_6.out);replace HO_7:=A0_ (rd_ HO_7.out);replace HO_8:=A0_ (rd_ HO_8.out);replace BK1:=A0_ (kd_ BK1.out);replace BK2:=A0_ (kd_ BK2.out);replace BK3:=A0_ (kd_ BK3.out);replace BK4:=A0_ (kd_ BK4.out);replace BK5:=A0_ (kd_ BK5.out);replace HB:=A0_ (bd_ HB.out);have p1:0≤(x47_9:Int):=od_ aE;have q1:x47_9<(t54.length:Int):=od_ aE;obtain ⟨ad1,e1,hx1_0⟩:=Kd.at_int (rr_ HO_9.out).2.2 x47_9 p1 q1;cases e1;replace p1:=eq_true p1;replace q1:=eq_true q1
   refine dh (n:=13) (S:=fun w'=>w'.cell? ⟨gb5,0,none⟩=some (.int .i64 t46)∧w'.cell? ⟨gb5,1,none⟩=some (.bool t47)∧w'.cell? ⟨gb5,2,none⟩=some (.slice Ao5 t48.length co5)∧w'.cell? (ad1.add (x47_9).toNat)=some (.int .i64 (rd t54 x47_9))) (ds:=[]) #[false,false,false,false,false,false,false,false,false,false,false,false,false] bS rfl rfl (a3_ BK5 hx1_0) (fun hHeld=>?_);refine dc laws_FnGame.tab46 laws_FnGame.bits46 (fun HT_ HW_=>?_)
   generalize wr.drew=w26 at HO_1 HO_3 HO_4 HO_9 HO_2 HO_5 HO_6 HO_7 HO_8 BK1 BK2 BK3 BK4 BK5 HB hx1_0 hHeld ⊢
   refine pu_ 1 305 ?_
   refine pu_ 2 306 ?_
   refine pu_ 3 307 ?_
   refine pu_ 4 308 ?_
   refine tk_ 0 304 hHeld ?_
   refine tk_ 5 309 hHeld ?_
   refine lq (σ:=Value × Nat) 2 #[true,true,true,true,true,true,true,true,true,true,true,false,false] (fun s_=>[(310,.tuple #[.agg #[.int .i64 t56,.bool t57,s_.1],.bool true]),(48,.pointer (some ⟨s_.2,0,none⟩)),(303,.tuple #[.agg #[.int .i64 t56,.bool t57,s_.1],.bool true]),(311,.agg #[.int .i64 t56,.bool t57,s_.1]),(312,.bool true)]) (fun s_ w'=>(w'.cell? ⟨gb5,0,none⟩=some (.int .i64 t46)∧w'.cell? ⟨gb5,1,none⟩=some (.bool t47)∧w'.cell? ⟨gb5,2,none⟩=some (.slice Ao5 t48.length co5)∧w'.cell? (ad1.add (x47_9).toNat)=some (.int .i64 (rd t54 x47_9)))∧(Kd.R (Kd.int .i64) 3 w' w.heap.size (fun k_=>no_ v7 k_∧no_ v10 k_∧no_ (.slice (some ad1) t54.length co6) k_∧no_ v2 k_∧no_ (.slice Ao1 t5.length co1) k_∧no_ (.slice Ao2 t35.length co2) k_∧no_ (.slice Ao3 t40.length co3) k_∧no_ (.slice Ao4 t44.length co4) k_∧no_ (.slice Ao5 t48.length co5) k_) s_.1 t58)∧(Kd.R (Kd.int .i64) 3 w' w.heap.size (fun k_=>some k_≠(s_.1:Value).ownBlock∧no_ v10 k_∧no_ (.slice (some ad1) t54.length co6) k_∧no_ v2 k_∧no_ (.slice Ao1 t5.length co1) k_∧no_ (.slice Ao2 t35.length co2) k_∧no_ (.slice Ao3 t40.length co3) k_∧no_ (.slice Ao4 t44.length co4) k_∧no_ (.slice Ao5 t48.length co5) k_) v7 t19)∧(Kd.R (Kd.int .i64) 3 w' w.heap.size (fun k_=>some k_≠(s_.1:Value).ownBlock∧no_ v7 k_∧no_ (.slice (some ad1) t54.length co6) k_∧no_ v2 k_∧no_ (.slice Ao1 t5.length co1) k_∧no_ (.slice Ao2 t35.length co2) k_∧no_ (.slice Ao3 t40.length co3) k_∧no_ (.slice Ao4 t44.length co4) k_∧no_ (.slice Ao5 t48.length co5) k_) v10 t23)∧(Kd.R (Kd.int .i64) 3 w' w.heap.size (fun k_=>some k_≠(s_.1:Value).ownBlock∧no_ v7 k_∧no_ v10 k_∧no_ v2 k_∧no_ (.slice Ao1 t5.length co1) k_∧no_ (.slice Ao2 t35.length co2) k_∧no_ (.slice Ao3 t40.length co3) k_∧no_ (.slice Ao4 t44.length co4) k_∧no_ (.slice Ao5 t48.length co5) k_) (.slice (some ad1) t54.length co6) t54)∧(Kd.R (Kd.int .i64) 3 w' w.heap.size (fun k_=>some k_≠(s_.1:Value).ownBlock∧no_ v7 k_∧no_ v10 k_∧no_ (.slice (some ad1) t54.length co6) k_∧no_ (.slice Ao1 t5.length co1) k_∧no_ (.slice Ao2 t35.length co2) k_∧no_ (.slice Ao3 t40.length co3) k_∧no_ (.slice Ao4 t44.length co4) k_∧no_ (.slice Ao5 t48.length co5) k_) v2 t7)∧(Kd.R (Kd.int .i64) 3 w' w.heap.size (fun k_=>some k_≠(s_.1:Value).ownBlock∧no_ v7 k_∧no_ v10 k_∧no_ (.slice (some ad1) t54.length co6) k_∧no_ v2 k_∧no_ (.slice Ao2 t35.length co2) k_∧no_ (.slice Ao3 t40.length co3) k_∧no_ (.slice Ao4 t44.length co4) k_∧no_ (.slice Ao5 t48.length co5) k_) (.slice Ao1 t5.length co1) t5)∧(Kd.R (Kd.int .i64) 3 w' w.heap.size (fun k_=>some k_≠(s_.1:Value).ownBlock∧no_ v7 k_∧no_ v10 k_∧no_ (.slice (some ad1) t54.length co6) k_∧no_ v2 k_∧no_ (.slice Ao1 t5.length co1) k_∧no_ (.slice Ao3 t40.length co3) k_∧no_ (.slice Ao4 t44.length co4) k_∧no_ (.slice Ao5 t48.length co5) k_) (.slice Ao2 t35.length co2) t35)∧(Kd.R (Kd.int .i64) 3 w' w.heap.size (fun k_=>some k_≠(s_.1:Value).ownBlock∧no_ v7 k_∧no_ v10 k_∧no_ (.slice (some ad1) t54.length co6) k_∧no_ v2 k_∧no_ (.slice Ao1 t5.length co1) k_∧no_ (.slice Ao2 t35.length co2) k_∧no_ (.slice Ao4 t44.length co4) k_∧no_ (.slice Ao5 t48.length co5) k_) (.slice Ao3 t40.length co3) t40)∧(Kd.R (Kd.int .i64) 3 w' w.heap.size (fun k_=>some k_≠(s_.1:Value).ownBlock∧no_ v7 k_∧no_ v10 k_∧no_ (.slice (some ad1) t54.length co6) k_∧no_ v2 k_∧no_ (.slice Ao1 t5.length co1) k_∧no_ (.slice Ao2 t35.length co2) k_∧no_ (.slice Ao3 t40.length co3) k_∧no_ (.slice Ao5 t48.length co5) k_) (.slice Ao4 t44.length co4) t44)∧(Kd.R (Kd.int .i64) 3 w' w.heap.size (fun k_=>some k_≠(s_.1:Value).ownBlock∧no_ v7 k_∧no_ v10 k_∧no_ (.slice (some ad1) t54.length co6) k_∧no_ v2 k_∧no_ (.slice Ao1 t5.length co1) k_∧no_ (.slice Ao2 t35.length co2) k_∧no_ (.slice Ao3 t40.length co3) k_∧no_ (.slice Ao4 t44.length co4) k_) (.slice Ao5 t48.length co5) t48)∧(w'.heap[gb1]?=some (.cells #[.int .i64 t3,.bool t4,.slice Ao1 t5.length co1] 26 (0,0)))∧(w'.heap[gb2]?=some (.cells #[.int .i64 t33,.bool t34,.slice Ao2 t35.length co2] 26 (0,0)))∧(w'.heap[gb3]?=some (.cells #[.int .i64 t38,.bool t39,.slice Ao3 t40.length co3] 26 (0,0)))∧(w'.heap[gb4]?=some (.cells #[.int .i64 t42,.bool t43,.slice Ao4 t44.length co4] 26 (0,0)))∧(w'.heap[gb5]?=some (.cells #[.int .i64 t46,.bool t47,.slice Ao5 t48.length co5] 26 (0,0)))∧(w'.heap[s_.2]?=some (.cells #[.int .i64 0,.bool false,.slice none 0 0] 26 (0,0)))∧(w.heap.size≤s_.2)∧(w.heap.size≤s_.2)∧(gb1≠s_.2)∧(s_.2≠gb1)∧(gb2≠s_.2)∧(s_.2≠gb2)∧(gb3≠s_.2)∧(s_.2≠gb3)∧(gb4≠s_.2)∧(s_.2≠gb4)∧(gb5≠s_.2)∧(s_.2≠gb5)∧(Below w.heap.size w w')) ?_ ?_
   rotate_left
   ·intro hCont
    refine ml (i:=6) (j:=10) (Ni:=some 310) (Nj:=some 48) #[true,true,true,true,true,true,true,false,false,false,false,false,false] #[true,true,true,true,true,true,false,false,false,false,true,false,false] rfl rfl rfl rfl (gS HT_.out bS) ao ao (fun K hK=>?_) (fun K hK=>?_)
    ·refine gs_ Tryd.func8 #[.agg #[.int .i64 t46,.bool t47,.slice Ao5 t48.length co5],.int .i64 t49,.int .i64 (rd t54 x47_9)] ?_
     with_reducible refine (aU.calls k9 t46 t47 _ _ t48 t49 (rd t54 x47_9) t56 t57 t58 true _ ?_ ?_ iv A42.out).mono ?_
     exact my
     exact (rr_ HO_8.out).2.1
     rintro e w27 ⟨v23,rfl,ho0,hb⟩;have HS3_:=(hb.cell (World.block_lt_of_cell? _ _ (hHeld.2.2.2))).trans (hHeld.2.2.2)
     refine ⟨_,rfl,?_⟩
     have HO13:=A0_ (Kd.R_lower (Kd.R_new' (Kd.R_new' (Kd.R_new' (Kd.R_new' (Kd.R_new' (Kd.R_new' (Kd.R_new' (Kd.R_new' (Kd.R_new' ho0 (Kd.R_lt aD)) (Kd.R_lt di)) (Kd.R_lt ei)) (Kd.R_lt eu)) (Kd.R_lt bW)) (Kd.R_lt dP)) (Kd.R_lt dQ)) (Kd.R_lt dR)) (Kd.R_lt d6)) (bz_ dY));replace HO_1:=A0_ (Kd.R_elder' aD (Kd.R_base ho0) hb);replace HO_3:=A0_ (Kd.R_elder' di (Kd.R_base ho0) hb);replace HO_4:=A0_ (Kd.R_elder' ei (Kd.R_base ho0) hb);replace HO_9:=A0_ (Kd.R_elder' eu (Kd.R_base ho0) hb);replace HO_2:=A0_ (Kd.R_elder' bW (Kd.R_base ho0) hb);replace HO_5:=A0_ (Kd.R_elder' dP (Kd.R_base ho0) hb);replace HO_6:=A0_ (Kd.R_elder' dQ (Kd.R_base ho0) hb);replace HO_7:=A0_ (Kd.R_elder' dR (Kd.R_base ho0) hb);replace HO_8:=A0_ (Kd.R_elder' d6 (Kd.R_base ho0) hb);replace BK1:=k1_ BK1 hb;replace BK2:=k1_ BK2 hb;replace BK3:=k1_ BK3 hb;replace BK4:=k1_ BK4 hb;replace BK5:=k1_ BK5 hb;replace HB:=hb_ hb dY
     (try clear hb ho0)
     refine hK.out _ _ (a3_ BK5 HS3_) (fun hHeld=>?_)
     clear hK K
     refine nm_ 310 ?_
     refine pu_ 7 303 ?_
     refine pu_ 8 311 ?_
     refine pu_ 9 312 ?_
     refine on_ 10 (some 48) (fun K hK=>?_)
     refine bp_ 48 #[.int .i64 0,.bool false,.slice none 0 0] 26 ?_
     intro gb6 hg w28 hbox hb;have HS3_:=(hb.cell (World.block_lt_of_cell? _ _ (hHeld.2.2.2))).trans (hHeld.2.2.2);replace HO_1:=q1_ HO_1 hb;replace HO_3:=q1_ HO_3 hb;replace HO_4:=q1_ HO_4 hb;replace HO_9:=q1_ HO_9 hb;replace HO_2:=q1_ HO_2 hb;replace HO_5:=q1_ HO_5 hb;replace HO_6:=q1_ HO_6 hb;replace HO_7:=q1_ HO_7 hb;replace HO_8:=q1_ HO_8 hb;replace HO13:=q1_ HO13 hb;have BK6:=A0_ (hbox);have GW6:=ge_ hg dY;have GE6:=ge_ hg dY;replace HB:=hb_ hb dY;obtain ⟨NB1_6,NB6_1⟩:=nn_ hg BK1;replace BK1:=k1_ BK1 hb;obtain ⟨NB2_6,NB6_2⟩:=nn_ hg BK2;replace BK2:=k1_ BK2 hb;obtain ⟨NB3_6,NB6_3⟩:=nn_ hg BK3;replace BK3:=k1_ BK3 hb;obtain ⟨NB4_6,NB6_4⟩:=nn_ hg BK4;replace BK4:=k1_ BK4 hb;obtain ⟨NB5_6,NB6_5⟩:=nn_ hg BK5;replace BK5:=k1_ BK5 hb;clear hb hbox hg
     refine hK.out _ _ (a3_ BK5 HS3_) (fun hHeld=>?_)
     clear hK K
     refine nm_ 48 ?_
     exact fD gh (hCont (v23,gb6) _ ⟨hHeld,mz,e8,gL,fV,eZ,eJ,fc,fd,fe,fw,(u1_ BK1),(u1_ BK2),(u1_ BK3),(u1_ BK4),(u1_ BK5),(u1_ BK6),GW6.out,GE6.out,NB1_6.out,NB6_1.out,NB2_6.out,NB6_2.out,NB3_6.out,NB6_3.out,NB4_6.out,NB6_4.out,NB5_6.out,NB6_5.out,gM⟩)
    refine bp_ 48 #[.int .i64 0,.bool false,.slice none 0 0] 26 ?_
    intro gb6 hg w27 hbox hb;have HS3_:=(hb.cell (World.block_lt_of_cell? _ _ (hHeld.2.2.2))).trans (hHeld.2.2.2);replace HO_1:=q1_ HO_1 hb;replace HO_3:=q1_ HO_3 hb;replace HO_4:=q1_ HO_4 hb;replace HO_9:=q1_ HO_9 hb;replace HO_2:=q1_ HO_2 hb;replace HO_5:=q1_ HO_5 hb;replace HO_6:=q1_ HO_6 hb;replace HO_7:=q1_ HO_7 hb;replace HO_8:=q1_ HO_8 hb;have BK6:=A0_ (hbox);have GW6:=ge_ hg dY;have GE6:=ge_ hg dY;replace HB:=hb_ hb dY;obtain ⟨NB1_6,NB6_1⟩:=nn_ hg BK1;replace BK1:=k1_ BK1 hb;obtain ⟨NB2_6,NB6_2⟩:=nn_ hg BK2;replace BK2:=k1_ BK2 hb;obtain ⟨NB3_6,NB6_3⟩:=nn_ hg BK3;replace BK3:=k1_ BK3 hb;obtain ⟨NB4_6,NB6_4⟩:=nn_ hg BK4;replace BK4:=k1_ BK4 hb;obtain ⟨NB5_6,NB6_5⟩:=nn_ hg BK5;replace BK5:=k1_ BK5 hb;clear hb hbox hg
    refine hK.out _ _ (a3_ BK5 HS3_) (fun hHeld=>?_)
    clear hK K
    refine nm_ 48 ?_
    refine on_ 6 (some 310) (fun K hK=>?_)
    refine gs_ Tryd.func8 #[.agg #[.int .i64 t46,.bool t47,.slice Ao5 t48.length co5],.int .i64 t49,.int .i64 (rd t54 x47_9)] ?_
    with_reducible refine (aU.calls k9 t46 t47 _ _ t48 t49 (rd t54 x47_9) t56 t57 t58 true _ ?_ ?_ iv A42.out).mono ?_
    exact my
    exact (rr_ HO_8.out).2.1
    rintro e w28 ⟨v23,rfl,ho0,hb⟩;have HS3_:=(hb.cell (World.block_lt_of_cell? _ _ (hHeld.2.2.2))).trans (hHeld.2.2.2)
    refine ⟨_,rfl,?_⟩
    have HO13:=A0_ (Kd.R_lower (Kd.R_new' (Kd.R_new' (Kd.R_new' (Kd.R_new' (Kd.R_new' (Kd.R_new' (Kd.R_new' (Kd.R_new' (Kd.R_new' ho0 (Kd.R_lt aD)) (Kd.R_lt di)) (Kd.R_lt ei)) (Kd.R_lt eu)) (Kd.R_lt bW)) (Kd.R_lt dP)) (Kd.R_lt dQ)) (Kd.R_lt dR)) (Kd.R_lt d6)) (bz_ gM));replace HO_1:=A0_ (Kd.R_elder' aD (Kd.R_base ho0) hb);replace HO_3:=A0_ (Kd.R_elder' di (Kd.R_base ho0) hb);replace HO_4:=A0_ (Kd.R_elder' ei (Kd.R_base ho0) hb);replace HO_9:=A0_ (Kd.R_elder' eu (Kd.R_base ho0) hb);replace HO_2:=A0_ (Kd.R_elder' bW (Kd.R_base ho0) hb);replace HO_5:=A0_ (Kd.R_elder' dP (Kd.R_base ho0) hb);replace HO_6:=A0_ (Kd.R_elder' dQ (Kd.R_base ho0) hb);replace HO_7:=A0_ (Kd.R_elder' dR (Kd.R_base ho0) hb);replace HO_8:=A0_ (Kd.R_elder' d6 (Kd.R_base ho0) hb);replace BK1:=k1_ BK1 hb;replace BK2:=k1_ BK2 hb;replace BK3:=k1_ BK3 hb;replace BK4:=k1_ BK4 hb;replace BK5:=k1_ BK5 hb;replace BK6:=k1_ BK6 hb;replace HB:=hb_ hb gM
    (try clear hb ho0)
    refine hK.out _ _ (a3_ BK5 HS3_) (fun hHeld=>?_)
    clear hK K
    refine nm_ 310 ?_
    refine pu_ 7 303 ?_
    refine pu_ 8 311 ?_
    refine pu_ 9 312 ?_
    exact fD gh (hCont (v23,gb6) _ ⟨hHeld,mz,e8,gL,fV,eZ,eJ,fc,fd,fe,fw,(u1_ BK1),(u1_ BK2),(u1_ BK3),(u1_ BK4),(u1_ BK5),(u1_ BK6),GW6.out,GE6.out,NB1_6.out,NB6_1.out,NB2_6.out,NB6_2.out,NB3_6.out,NB6_3.out,NB4_6.out,NB6_4.out,NB5_6.out,NB6_5.out,gM⟩)
   rintro ⟨v23,gb6⟩ w27 ⟨hS_,h0_,h1_,h2_,h3_,h4_,h5_,h6_,h7_,h8_,h9_,h10_,h11_,h12_,h13_,h14_,h15_,h16_,h17_,h18_,h19_,h20_,h21_,h22_,h23_,h24_,h25_,h26_,h27_,h28_⟩
   try dsimp only at h0_ h1_ h2_ h3_ h4_ h5_ h6_ h7_ h8_ h9_ h10_ h11_ h12_ h13_ h14_ h15_ h16_ h17_ h18_ h19_ h20_ h21_ h22_ h23_ h24_ h25_ h26_ h27_ h28_
   have HO13:=A0_ h0_;replace HO_3:=A0_ h1_;replace HO_4:=A0_ h2_;replace HO_9:=A0_ h3_;replace HO_1:=A0_ h4_;replace HO_2:=A0_ h5_;replace HO_5:=A0_ h6_;replace HO_6:=A0_ h7_;replace HO_7:=A0_ h8_;replace HO_8:=A0_ h9_;replace BK1:=A0_ h10_;replace BK2:=A0_ h11_;replace BK3:=A0_ h12_;replace BK4:=A0_ h13_;replace BK5:=A0_ h14_;have BK6:=A0_ h15_;have GW6:=A0_ h16_;have GE6:=A0_ h17_;have NB1_6:=A0_ h18_;have NB6_1:=A0_ h19_;have NB2_6:=A0_ h20_;have NB6_2:=A0_ h21_;have NB3_6:=A0_ h22_;have NB6_3:=A0_ h23_;have NB4_6:=A0_ h24_;have NB6_4:=A0_ h25_;have NB5_6:=A0_ h26_;have NB6_5:=A0_ h27_;replace HB:=A0_ h28_;clear h0_ h1_ h2_ h3_ h4_ h5_ h6_ h7_ h8_ h9_ h10_ h11_ h12_ h13_ h14_ h15_ h16_ h17_ h18_ h19_ h20_ h21_ h22_ h23_ h24_ h25_ h26_ h27_ h28_;have hHeld:w27.cell? ⟨gb5,0,none⟩=some (.int .i64 t46)∧w27.cell? ⟨gb5,1,none⟩=some (.bool t47)∧w27.cell? ⟨gb5,2,none⟩=some (.slice Ao5 t48.length co5)∧w27.cell? (ad1.add (x47_9).toNat)=some (.int .i64 (rd t54 x47_9)):=hS_;obtain ⟨Ao7,co7,eo7⟩:=Kd.R_slice HO13.out
   (first|subst eo7|(injection eo7 with f1_ f2_ f3_;have f4_:=f1_.symm;have f5_:=f3_.symm;clear f1_ f2_ f3_;subst f4_;subst f5_))
   refine nq_ ?_
   refine on_ 11 none (fun K hK=>?_)
   have hs165:=y_ BK6 0;have hfs165:=kf_ BK6.out 0;have hns1_0:=NB1_6.out;have hns1_1:=NB2_6.out;have hns1_2:=NB3_6.out;have hns1_3:=NB4_6.out;have hns1_4:=NB5_6.out;have hms1_0:=NB6_1.out;have hms1_1:=NB6_2.out;have hms1_2:=NB6_3.out;have hms1_3:=NB6_4.out;have hms1_4:=NB6_5.out;have hs166:=y_ BK6 1;have hfs166:=kf_ BK6.out 1;have hns2_0:=NB1_6.out;have hns2_1:=NB2_6.out;have hns2_2:=NB3_6.out;have hns2_3:=NB4_6.out;have hns2_4:=NB5_6.out;have hms2_0:=NB6_1.out;have hms2_1:=NB6_2.out;have hms2_2:=NB6_3.out;have hms2_3:=NB6_4.out;have hms2_4:=NB6_5.out;have hs168:=y_ BK6 2;have hfs168:=kf_ BK6.out 2;have hns3_0:=NB1_6.out;have hns3_1:=NB2_6.out;have hns3_2:=NB3_6.out;have hns3_3:=NB4_6.out;have hns3_4:=NB5_6.out;have hms3_0:=NB6_1.out;have hms3_1:=NB6_2.out;have hms3_2:=NB6_3.out;have hms3_3:=NB6_4.out;have hms3_4:=NB6_5.out
   refine fF (w1:=?_) (by rfl) rfl ?_ ?_
   rotate_left
   ·go_simp
    rfl
   refine hK.out _ _ ⟨((av (p:=⟨gb6,_,none⟩) NB5_6.out _).trans (((av (p:=⟨gb6,_,none⟩) NB5_6.out _).trans (((av (p:=⟨gb6,_,none⟩) NB5_6.out _).trans (hHeld.1)))))),((av (p:=⟨gb6,_,none⟩) NB5_6.out _).trans (((av (p:=⟨gb6,_,none⟩) NB5_6.out _).trans (((av (p:=⟨gb6,_,none⟩) NB5_6.out _).trans (hHeld.2.1)))))),((av (p:=⟨gb6,_,none⟩) NB5_6.out _).trans (((av (p:=⟨gb6,_,none⟩) NB5_6.out _).trans (((av (p:=⟨gb6,_,none⟩) NB5_6.out _).trans (hHeld.2.2.1)))))),((av (p:=⟨gb6,_,none⟩) lw _).trans (((av (p:=⟨gb6,_,none⟩) lw _).trans (((av (p:=⟨gb6,_,none⟩) lw _).trans (hHeld.2.2.2))))))⟩ (fun hHeld=>?_)
   clear hK K
   refine pu_ 12 49 ?_
   refine dn_ ?_
   obtain ⟨hnb15,hnc15⟩:=n2_ NB6_1;obtain ⟨hnb16,hnc16⟩:=n2_ NB6_2;obtain ⟨hnb17,hnc17⟩:=n2_ NB6_3;obtain ⟨hnb18,hnc18⟩:=n2_ NB6_4;obtain ⟨hnb19,hnc19⟩:=n2_ NB6_5;have hcz20:=z3_ BK6
   try go_wp2_with (first|((with_reducible refine gc_ (f:=30) rfl ?_);refine gl_ 316 Tryd.func30 #[.agg #[.int .i64 t56,.bool t57,.slice Ao7 t58.length co7],.int .i64 t49] ?_;(with_reducible refine (aa.calls k9 t56 t57 _ _ t58 t49 t60 true _ ?_ ?_ A44.out).mono ?_);(refine (rr_ (e:=3) (base:=w.heap.size) (ok:=fun k_=>(no_ v7 k_∧(no_ v10 k_∧(no_ (.slice (some ad1) t54.length co6) k_∧(no_ v2 k_∧(no_ (.slice Ao1 t5.length co1) k_∧(no_ (.slice Ao2 t35.length co2) k_∧(no_ (.slice Ao3 t40.length co3) k_∧(no_ (.slice Ao4 t44.length co4) k_∧no_ (.slice Ao5 t48.length co5) k_))))))))) (n:=t58.length) (c:=co7) ?_).2.2;exact nI);exact (rr_ HO13.out).2.1;rintro e w28 ⟨rfl,hb⟩;refine ⟨_,rfl,?_⟩;replace HO_1:=A0_ (Kd.R_below rb hb);replace HO_3:=A0_ (Kd.R_below rc hb);replace HO_4:=A0_ (Kd.R_below re hb);replace HO_9:=A0_ (Kd.R_below rf hb);replace HO_2:=A0_ (Kd.R_below rg hb);replace HO_5:=A0_ (Kd.R_below rh hb);replace HO_6:=A0_ (Kd.R_below ri hb);replace HO_7:=A0_ (Kd.R_below rj hb);replace HO_8:=A0_ (Kd.R_below rk hb);replace HO13:=A0_ (Kd.R_below nI hb);replace BK1:=k1_ BK1 hb;replace BK2:=k1_ BK2 hb;replace BK3:=k1_ BK3 hb;replace BK4:=k1_ BK4 hb;replace BK5:=k1_ BK5 hb;replace BK6:=k2_ (.cells #[.int .i64 t56,.bool t57,.slice Ao7 t58.length co7] 26 (0,0)) BK6 hb;replace HB:=hb_ hb gM;(try clear hb)))
   go_roundg k9
   case measure=>have:=HJ1.out;have:=HJ2.out;have:=HJ3.out;have:=HJ4.out;have:=HJ5.out;have:=HJ6.out;have:=HJ7.out;have:=HJ8.out;have:=HK1.out;omega
   exact ⟨(!t60),(wrap64 (x47_9+1)),aC,aC,H',⟨rl⟩,⟨eZ⟩,⟨e8⟩,⟨gL⟩,⟨fV⟩,⟨eJ⟩,⟨fc⟩,⟨fd⟩,⟨fe⟩,⟨fw⟩,⟨u1_ BK1⟩,⟨u1_ BK2⟩,⟨u1_ BK3⟩,⟨u1_ BK4⟩,⟨u1_ BK5⟩,⟨gM⟩⟩
  clear HC128
  try clear c1
  try clear c2
  obtain ⟨kq,HA,HJ9,HO_1,HO_3,HO_4,HO_2,HO_5,HO_6,HO_7,HO_8,BK1,BK2,BK3,BK4,BK5,HB⟩:=hcut
  cases kq with|zero=>exact absurd HA.out (by simp [laws_FnGame.j9])|succ kj9=>?_
  as_aux_lemma =>
  have H:=HA.out;clear HA;simp only [laws_FnGame.j9] at H
  by_cases c10:t8=true
  case neg =>
   obtain rfl:=bf_.mpr c10;rw [if_neg ft_] at H;obtain rfl:=si_ H
   go_wp2
   go_ret
   exact ⟨bc,dY⟩
  subst c10;rw [if_pos rfl] at H;have HC214:=A0_ H;clear H
  go_upto_region 55 with (fail)
  go_cut [365] from 286 to 365 (fun v20 wc=>∃ (kq:Nat) (x365_213:Bool),v20=.bool x365_213∧Aside0 (laws_FnGame.j10 kq t6 t7 t11 t19 t23 x365_213 t3 t4 t5=some r)∧Aside0 (kq≤kj9)∧Aside0 (Kd.R (Kd.int .i64) 3 wc w.heap.size (fun k_=>no_ v7 k_∧no_ v10 k_∧no_ (.slice Ao1 t5.length co1) k_∧no_ (.slice Ao2 t35.length co2) k_∧no_ (.slice Ao3 t40.length co3) k_∧no_ (.slice Ao4 t44.length co4) k_∧no_ (.slice Ao5 t48.length co5) k_) v2 t7)∧Aside0 (Kd.R (Kd.int .i64) 3 wc w.heap.size (fun k_=>no_ v2 k_∧no_ v10 k_∧no_ (.slice Ao1 t5.length co1) k_∧no_ (.slice Ao2 t35.length co2) k_∧no_ (.slice Ao3 t40.length co3) k_∧no_ (.slice Ao4 t44.length co4) k_∧no_ (.slice Ao5 t48.length co5) k_) v7 t19)∧Aside0 (Kd.R (Kd.int .i64) 3 wc w.heap.size (fun k_=>no_ v2 k_∧no_ v7 k_∧no_ (.slice Ao1 t5.length co1) k_∧no_ (.slice Ao2 t35.length co2) k_∧no_ (.slice Ao3 t40.length co3) k_∧no_ (.slice Ao4 t44.length co4) k_∧no_ (.slice Ao5 t48.length co5) k_) v10 t23)∧Aside0 (Kd.R (Kd.int .i64) 3 wc w.heap.size (fun k_=>no_ v2 k_∧no_ v7 k_∧no_ v10 k_∧no_ (.slice Ao2 t35.length co2) k_∧no_ (.slice Ao3 t40.length co3) k_∧no_ (.slice Ao4 t44.length co4) k_∧no_ (.slice Ao5 t48.length co5) k_) (.slice Ao1 t5.length co1) t5)∧Aside0 (Kd.R (Kd.int .i64) 3 wc w.heap.size (fun k_=>no_ v2 k_∧no_ v7 k_∧no_ v10 k_∧no_ (.slice Ao1 t5.length co1) k_∧no_ (.slice Ao3 t40.length co3) k_∧no_ (.slice Ao4 t44.length co4) k_∧no_ (.slice Ao5 t48.length co5) k_) (.slice Ao2 t35.length co2) t35)∧Aside0 (Kd.R (Kd.int .i64) 3 wc w.heap.size (fun k_=>no_ v2 k_∧no_ v7 k_∧no_ v10 k_∧no_ (.slice Ao1 t5.length co1) k_∧no_ (.slice Ao2 t35.length co2) k_∧no_ (.slice Ao4 t44.length co4) k_∧no_ (.slice Ao5 t48.length co5) k_) (.slice Ao3 t40.length co3) t40)∧Aside0 (Kd.R (Kd.int .i64) 3 wc w.heap.size (fun k_=>no_ v2 k_∧no_ v7 k_∧no_ v10 k_∧no_ (.slice Ao1 t5.length co1) k_∧no_ (.slice Ao2 t35.length co2) k_∧no_ (.slice Ao3 t40.length co3) k_∧no_ (.slice Ao5 t48.length co5) k_) (.slice Ao4 t44.length co4) t44)∧Aside0 (Kd.R (Kd.int .i64) 3 wc w.heap.size (fun k_=>no_ v2 k_∧no_ v7 k_∧no_ v10 k_∧no_ (.slice Ao1 t5.length co1) k_∧no_ (.slice Ao2 t35.length co2) k_∧no_ (.slice Ao3 t40.length co3) k_∧no_ (.slice Ao4 t44.length co4) k_) (.slice Ao5 t48.length co5) t48)∧Aside0 (wc.heap[gb1]?=some (.cells #[.int .i64 t3,.bool t4,(.slice Ao1 t5.length co1)] 26 (0,0)))∧Aside0 (wc.heap[gb2]?=some (.cells #[.int .i64 t33,.bool t34,(.slice Ao2 t35.length co2)] 26 (0,0)))∧Aside0 (wc.heap[gb3]?=some (.cells #[.int .i64 t38,.bool t39,(.slice Ao3 t40.length co3)] 26 (0,0)))∧Aside0 (wc.heap[gb4]?=some (.cells #[.int .i64 t42,.bool t43,(.slice Ao4 t44.length co4)] 26 (0,0)))∧Aside0 (wc.heap[gb5]?=some (.cells #[.int .i64 t46,.bool t47,(.slice Ao5 t48.length co5)] 26 (0,0)))∧Aside0 (Below w.heap.size w wc))
  case first =>
   have H:=HC214.out;clear HC214
   by_cases c11:(t15 != (decide (t11 > 0)))=true
   ·rw [if_pos c11] at H
    exact absurd H bx
   rw [if_neg c11] at H
   have c11b0:(t15 != (decide (t11 > 0)))=false:=by simpa using c11
   (try (have c11b1:decide (t15=(decide (t11 > 0)))=true:=by simpa using c11))
   (try (have c11b2:(t15 == (decide (t11 > 0)))=true:=by simpa using c11))
   clear c11
   (first|rw [c11b0]|(simp only [cH,dC];rw [c11b0])|skip)
   by_cases c12:(t15 != (decide ((t7.length:Int) > 0)))=true
   ·rw [if_pos c12] at H
    exact absurd H bx
   rw [if_neg c12] at H
   have c12b0:(t15 != (decide ((t7.length:Int) > 0)))=false:=by simpa using c12
   (try (have c12b1:decide (t15=(decide ((t7.length:Int) > 0)))=true:=by simpa using c12))
   (try (have c12b2:(t15 == (decide ((t7.length:Int) > 0)))=true:=by simpa using c12))
   clear c12
   by_cases c13:(t15 != (((t23.length:Int) % 2) == 1))=true
   ·rw [if_pos c13] at H
    exact absurd H bx
   rw [if_neg c13] at H
   have c13b0:(t15 != (((t23.length:Int) % 2) == 1))=false:=by simpa using c13
   (try (have c13b1:decide (t15=(((t23.length:Int) % 2) == 1))=true:=by simpa using c13))
   (try (have c13b2:(t15 == (((t23.length:Int) % 2) == 1))=true:=by simpa using c13))
   have c13s:=A0_ (show t15=(((t23.length:Int) % 2) == 1) from by simpa using c13)
   clear c13
   by_cases c14:(t23.length:Int)<t27
   ·rw [if_pos c14] at H
    exact absurd H bx
   rw [if_neg c14] at H;have c14b0:decide ((t23.length:Int)<t27)=false:=decide_eq_false c14;clear c14;have H':=A0_ H;clear H;obtain ⟨Ao6,co6,eo6⟩:=Kd.R_slice HO_1.out;subst eo6;obtain ⟨Ao7,co7,eo7⟩:=Kd.R_slice HO_4.out;subst eo7
   go_wp2
   (try rw [←c13s.out])
   go_meet
   exact ⟨_,(decide ((t23.length:Int) > t28)),aC,H',⟨by have:=HJ1.out;have:=HJ2.out;have:=HJ3.out;have:=HJ4.out;have:=HJ5.out;have:=HJ6.out;have:=HJ7.out;have:=HJ8.out;have:=HJ9.out;first|omega|exact Nat.le_refl _⟩,⟨aD⟩,⟨di⟩,⟨ei⟩,⟨bW⟩,⟨dP⟩,⟨dQ⟩,⟨dR⟩,⟨d6⟩,⟨u1_ BK1⟩,⟨u1_ BK2⟩,⟨u1_ BK3⟩,⟨u1_ BK4⟩,⟨u1_ BK5⟩,⟨dY⟩⟩
   all_goals (exfalso;have e1_:t15=(decide (0<t7.length)):=(by simpa using c12b1);have e2_:=c13s.out;first|exact absurd e1_ (by with_reducible assumption)|exact absurd (e1_.symm.trans e2_) (by with_reducible assumption))
  clear HC214
  try clear c1
  try clear c2
  try clear c10
  obtain ⟨kq,x365_213,rfl,HA,HJ10,HO_1,HO_3,HO_4,HO_2,HO_5,HO_6,HO_7,HO_8,BK1,BK2,BK3,BK4,BK5,HB⟩:=hcut
  cases kq with|zero=>exact absurd HA.out (by simp [laws_FnGame.j10])|succ kj10=>?_
  as_aux_lemma =>
  have H:=HA.out;clear HA;simp only [laws_FnGame.j10] at H
  by_cases c11:x365_213=true
  ·subst c11
   have H1:(none)=some r:=by rw [if_pos rfl] at H;exact H
   exact absurd H1 bx
  obtain rfl:=bf_.mpr c11;rw [if_neg ft_] at H;have H':=A0_ H;clear H;obtain ⟨hnb11,hnc11⟩:=n2_ NB1_2;obtain ⟨hnb12,hnc12⟩:=n2_ NB1_3;obtain ⟨hnb13,hnc13⟩:=n2_ NB1_4;obtain ⟨hnb14,hnc14⟩:=n2_ NB1_5;have hcz19:=z3_ BK1
  go_wp2_with (first|((with_reducible refine gd_ (N:=52) rfl ?_);(try (refine cL (by rfl) ?_;dsimp only));refine bx_ 52 #[.int .i64 0,.bool false,.slice none 0 0] 26 ?_;intro gb7 hg w25 BK7 hb;replace HO_1:=q1_ HO_1 hb;replace HO_3:=q1_ HO_3 hb;replace HO_4:=q1_ HO_4 hb;replace HO_2:=q1_ HO_2 hb;replace HO_5:=q1_ HO_5 hb;replace HO_6:=q1_ HO_6 hb;replace HO_7:=q1_ HO_7 hb;replace HO_8:=q1_ HO_8 hb;have GW7:=ge_ hg dY;have GE7:=GW7;replace HB:=hb_ hb dY;obtain ⟨NB1_7,NB7_1⟩:=nn_ hg BK1;replace BK1:=k1_ BK1 hb;obtain ⟨NB2_7,NB7_2⟩:=nn_ hg BK2;replace BK2:=k1_ BK2 hb;obtain ⟨NB3_7,NB7_3⟩:=nn_ hg BK3;replace BK3:=k1_ BK3 hb;obtain ⟨NB4_7,NB7_4⟩:=nn_ hg BK4;replace BK4:=k1_ BK4 hb;obtain ⟨NB5_7,NB7_5⟩:=nn_ hg BK5;replace BK5:=k1_ BK5 hb;clear hb hg;obtain ⟨hnb15,hnc15⟩:=n2_ NB7_1;obtain ⟨hnb16,hnc16⟩:=n2_ NB7_2;obtain ⟨hnb17,hnc17⟩:=n2_ NB7_3;obtain ⟨hnb18,hnc18⟩:=n2_ NB7_4;obtain ⟨hnb19,hnc19⟩:=n2_ NB7_5;have hcz20:=z3_ BK7))
  go_loopg [53] kj10 (fun kq v21 w'=>∃ (x53_11:Int) (xb:Int) (xc:Bool) (xa:List Int) (ud:Value),v21=.int .i64 x53_11∧Aside0 (laws_FnGame.l1 kq t6 t7 t11 t19 t23 x53_11 t3 t4 t5 xb xc xa=some r)∧Aside0 (kq≤kj10)∧Aside0 (Kd.R (Kd.int .i64) 3 w' w.heap.size (fun k_=>no_ v7 k_∧no_ v10 k_∧no_ (.slice Ao1 t5.length co1) k_∧no_ (.slice Ao2 t35.length co2) k_∧no_ (.slice Ao3 t40.length co3) k_∧no_ (.slice Ao4 t44.length co4) k_∧no_ (.slice Ao5 t48.length co5) k_∧no_ ud k_) v2 t7)∧Aside0 (Kd.R (Kd.int .i64) 3 w' w.heap.size (fun k_=>no_ v2 k_∧no_ v10 k_∧no_ (.slice Ao1 t5.length co1) k_∧no_ (.slice Ao2 t35.length co2) k_∧no_ (.slice Ao3 t40.length co3) k_∧no_ (.slice Ao4 t44.length co4) k_∧no_ (.slice Ao5 t48.length co5) k_∧no_ ud k_) v7 t19)∧Aside0 (Kd.R (Kd.int .i64) 3 w' w.heap.size (fun k_=>no_ v2 k_∧no_ v7 k_∧no_ (.slice Ao1 t5.length co1) k_∧no_ (.slice Ao2 t35.length co2) k_∧no_ (.slice Ao3 t40.length co3) k_∧no_ (.slice Ao4 t44.length co4) k_∧no_ (.slice Ao5 t48.length co5) k_∧no_ ud k_) v10 t23)∧Aside0 (Kd.R (Kd.int .i64) 3 w' w.heap.size (fun k_=>no_ v2 k_∧no_ v7 k_∧no_ v10 k_∧no_ (.slice Ao2 t35.length co2) k_∧no_ (.slice Ao3 t40.length co3) k_∧no_ (.slice Ao4 t44.length co4) k_∧no_ (.slice Ao5 t48.length co5) k_) (.slice Ao1 t5.length co1) t5)∧Aside0 (Kd.R (Kd.int .i64) 3 w' w.heap.size (fun k_=>no_ v2 k_∧no_ v7 k_∧no_ v10 k_∧no_ (.slice Ao1 t5.length co1) k_∧no_ (.slice Ao3 t40.length co3) k_∧no_ (.slice Ao4 t44.length co4) k_∧no_ (.slice Ao5 t48.length co5) k_∧no_ ud k_) (.slice Ao2 t35.length co2) t35)∧Aside0 (Kd.R (Kd.int .i64) 3 w' w.heap.size (fun k_=>no_ v2 k_∧no_ v7 k_∧no_ v10 k_∧no_ (.slice Ao1 t5.length co1) k_∧no_ (.slice Ao2 t35.length co2) k_∧no_ (.slice Ao4 t44.length co4) k_∧no_ (.slice Ao5 t48.length co5) k_∧no_ ud k_) (.slice Ao3 t40.length co3) t40)∧Aside0 (Kd.R (Kd.int .i64) 3 w' w.heap.size (fun k_=>no_ v2 k_∧no_ v7 k_∧no_ v10 k_∧no_ (.slice Ao1 t5.length co1) k_∧no_ (.slice Ao2 t35.length co2) k_∧no_ (.slice Ao3 t40.length co3) k_∧no_ (.slice Ao5 t48.length co5) k_∧no_ ud k_) (.slice Ao4 t44.length co4) t44)∧Aside0 (Kd.R (Kd.int .i64) 3 w' w.heap.size (fun k_=>no_ v2 k_∧no_ v7 k_∧no_ v10 k_∧no_ (.slice Ao1 t5.length co1) k_∧no_ (.slice Ao2 t35.length co2) k_∧no_ (.slice Ao3 t40.length co3) k_∧no_ (.slice Ao4 t44.length co4) k_∧no_ ud k_) (.slice Ao5 t48.length co5) t48)∧Aside0 (Kd.R (Kd.int .i64) 3 w' w.heap.size (fun k_=>no_ v2 k_∧no_ v7 k_∧no_ v10 k_∧no_ (.slice Ao2 t35.length co2) k_∧no_ (.slice Ao3 t40.length co3) k_∧no_ (.slice Ao4 t44.length co4) k_∧no_ (.slice Ao5 t48.length co5) k_) ud xa)∧Aside0 (w'.heap[gb1]?=some (.cells #[.int .i64 t3,.bool t4,(.slice Ao1 t5.length co1)] 26 (0,0)))∧Aside0 (w'.heap[gb2]?=some (.cells #[.int .i64 t33,.bool t34,(.slice Ao2 t35.length co2)] 26 (0,0)))∧Aside0 (w'.heap[gb3]?=some (.cells #[.int .i64 t38,.bool t39,(.slice Ao3 t40.length co3)] 26 (0,0)))∧Aside0 (w'.heap[gb4]?=some (.cells #[.int .i64 t42,.bool t43,(.slice Ao4 t44.length co4)] 26 (0,0)))∧Aside0 (w'.heap[gb5]?=some (.cells #[.int .i64 t46,.bool t47,(.slice Ao5 t48.length co5)] 26 (0,0)))∧Aside0 (w'.heap[gb7]?=some (.cells #[.int .i64 xb,.bool xc,ud] 26 (0,0)))∧Aside0 (Below w.heap.size w w'))
  case atStart=>exact ⟨(0),(t3),(t4),(t5),(.slice Ao1 t5.length co1),aC,H',⟨Nat.le_refl _⟩,⟨by (with_reducible repeat (first|apply ra_|apply rn_|apply rd_));exact Kd.R_mono (cf (Kd.R_types HO_1.out BK7.out ao)) cf_⟩,⟨by (with_reducible repeat (first|apply ra_|apply rn_|apply rd_));exact Kd.R_mono (cf (Kd.R_types HO_3.out BK7.out ao)) cf_⟩,⟨by (with_reducible repeat (first|apply ra_|apply rn_|apply rd_));exact Kd.R_mono (cf (Kd.R_types HO_4.out BK7.out ao)) cf_⟩,⟨rm⟩,⟨by (with_reducible repeat (first|apply ra_|apply rn_|apply rd_));exact Kd.R_mono (cf (Kd.R_types HO_5.out BK7.out ao)) cf_⟩,⟨by (with_reducible repeat (first|apply ra_|apply rn_|apply rd_));exact Kd.R_mono (cf (Kd.R_types HO_6.out BK7.out ao)) cf_⟩,⟨by (with_reducible repeat (first|apply ra_|apply rn_|apply rd_));exact Kd.R_mono (cf (Kd.R_types HO_7.out BK7.out ao)) cf_⟩,⟨by (with_reducible repeat (first|apply ra_|apply rn_|apply rd_));exact Kd.R_mono (cf (Kd.R_types HO_8.out BK7.out ao)) cf_⟩,⟨rm⟩,⟨u1_ BK1⟩,⟨u1_ BK2⟩,⟨u1_ BK3⟩,⟨u1_ BK4⟩,⟨u1_ BK5⟩,⟨u1_ BK7⟩,⟨fW⟩⟩
  clear H'
  try clear c1
  try clear c2
  try clear c10
  try clear c11
  (try clear hcz19);(try clear hcz20);(try clear hfz19);(try clear hfz20)
  obtain ⟨x53_11,xb,xc,xa,ud,rfl,HA,HK1,HO_1,HO_3,HO_4,HO_2,HO_5,HO_6,HO_7,HO_8,HO_9,BK1,BK2,BK3,BK4,BK5,BK7,HB⟩:=hrel
  cases gk with|zero=>exact absurd HA.out (by simp [laws_FnGame.l1])|succ k11=>?_
  as_aux_lemma =>
  have H:=HA.out;clear HA;simp only [laws_FnGame.l1] at H
  by_cases c12:x53_11<(t23.length:Int)
  ·rw [if_pos c12] at H
   have c12b0:decide (x53_11<(t23.length:Int))=true:=dt_ c12;clear c12;obtain ⟨c13b0,H⟩:=i1_ H;obtain ⟨⟨t54,t55,t56,t57⟩,A40,H⟩:=o1_ H
   by_cases c14:t57=true
   case neg =>
    obtain rfl:=bf_.mpr c14
    have H1:(none)=some r:=by rw [if_neg ft_] at H;exact H
    exact absurd H1 bx
   subst c14;rw [if_pos rfl] at H;have H':=A0_ H;clear H;obtain ⟨Ao6,co6,eo6⟩:=Kd.R_slice HO_4.out;subst eo6;obtain ⟨Ao7,co7,eo7⟩:=Kd.R_slice HO_9.out;subst eo7
   try go_wp2
   replace HO_1:=A0_ (rd_ HO_1.out);replace HO_3:=A0_ (rd_ HO_3.out);replace HO_4:=A0_ (rd_ HO_4.out);replace HO_2:=A0_ (rd_ HO_2.out);replace HO_5:=A0_ (rd_ HO_5.out);replace HO_6:=A0_ (rd_ HO_6.out);replace HO_7:=A0_ (rd_ HO_7.out);replace HO_8:=A0_ (rd_ HO_8.out);replace HO_9:=A0_ (rd_ HO_9.out);replace BK1:=A0_ (kd_ BK1.out);replace BK2:=A0_ (kd_ BK2.out);replace BK3:=A0_ (kd_ BK3.out);replace BK4:=A0_ (kd_ BK4.out);replace BK5:=A0_ (kd_ BK5.out);replace BK7:=A0_ (kd_ BK7.out);replace HB:=A0_ (bd_ HB.out);have p1:0≤(x53_11:Int):=od_ aE;have q1:x53_11<(t23.length:Int):=od_ aE;obtain ⟨ad1,e1,hx1_0⟩:=Kd.at_int (rr_ HO_4.out).2.2 x53_11 p1 q1;cases e1;replace p1:=eq_true p1;replace q1:=eq_true q1
   refine dh (n:=13) (S:=fun w'=>w'.cell? ⟨gb7,0,none⟩=some (.int .i64 xb)∧w'.cell? ⟨gb7,1,none⟩=some (.bool xc)∧w'.cell? ⟨gb7,2,none⟩=some (.slice Ao7 xa.length co7)∧w'.cell? (ad1.add (x53_11).toNat)=some (.int .i64 (rd t23 x53_11))) (ds:=[]) #[false,false,false,false,false,false,false,false,false,false,false,false,false] bS rfl rfl (a3_ BK7 hx1_0) (fun hHeld=>?_);refine dc laws_FnGame.tab61 laws_FnGame.bits61 (fun HT_ HW_=>?_)
   generalize wr.drew=w26 at HO_1 HO_3 HO_4 HO_2 HO_5 HO_6 HO_7 HO_8 HO_9 BK1 BK2 BK3 BK4 BK5 BK7 HB hx1_0 hHeld ⊢
   refine pu_ 1 375 ?_
   refine pu_ 2 376 ?_
   refine pu_ 3 377 ?_
   refine pu_ 4 378 ?_
   refine tk_ 0 374 hHeld ?_
   refine tk_ 5 379 hHeld ?_
   refine lq (σ:=Value × Nat) 2 #[true,true,true,true,true,true,true,true,true,true,true,false,false] (fun s_=>[(380,.tuple #[.agg #[.int .i64 t54,.bool t55,s_.1],.bool true]),(54,.pointer (some ⟨s_.2,0,none⟩)),(373,.tuple #[.agg #[.int .i64 t54,.bool t55,s_.1],.bool true]),(381,.agg #[.int .i64 t54,.bool t55,s_.1]),(382,.bool true)]) (fun s_ w'=>(w'.cell? ⟨gb7,0,none⟩=some (.int .i64 xb)∧w'.cell? ⟨gb7,1,none⟩=some (.bool xc)∧w'.cell? ⟨gb7,2,none⟩=some (.slice Ao7 xa.length co7)∧w'.cell? (ad1.add (x53_11).toNat)=some (.int .i64 (rd t23 x53_11)))∧(Kd.R (Kd.int .i64) 3 w' w.heap.size (fun k_=>no_ v7 k_∧no_ (.slice (some ad1) t23.length co6) k_∧no_ v2 k_∧no_ (.slice Ao1 t5.length co1) k_∧no_ (.slice Ao2 t35.length co2) k_∧no_ (.slice Ao3 t40.length co3) k_∧no_ (.slice Ao4 t44.length co4) k_∧no_ (.slice Ao5 t48.length co5) k_∧no_ (.slice Ao7 xa.length co7) k_) s_.1 t56)∧(Kd.R (Kd.int .i64) 3 w' w.heap.size (fun k_=>some k_≠(s_.1:Value).ownBlock∧no_ (.slice (some ad1) t23.length co6) k_∧no_ v2 k_∧no_ (.slice Ao1 t5.length co1) k_∧no_ (.slice Ao2 t35.length co2) k_∧no_ (.slice Ao3 t40.length co3) k_∧no_ (.slice Ao4 t44.length co4) k_∧no_ (.slice Ao5 t48.length co5) k_∧no_ (.slice Ao7 xa.length co7) k_) v7 t19)∧(Kd.R (Kd.int .i64) 3 w' w.heap.size (fun k_=>some k_≠(s_.1:Value).ownBlock∧no_ v7 k_∧no_ v2 k_∧no_ (.slice Ao1 t5.length co1) k_∧no_ (.slice Ao2 t35.length co2) k_∧no_ (.slice Ao3 t40.length co3) k_∧no_ (.slice Ao4 t44.length co4) k_∧no_ (.slice Ao5 t48.length co5) k_∧no_ (.slice Ao7 xa.length co7) k_) (.slice (some ad1) t23.length co6) t23)∧(Kd.R (Kd.int .i64) 3 w' w.heap.size (fun k_=>some k_≠(s_.1:Value).ownBlock∧no_ v7 k_∧no_ (.slice (some ad1) t23.length co6) k_∧no_ (.slice Ao1 t5.length co1) k_∧no_ (.slice Ao2 t35.length co2) k_∧no_ (.slice Ao3 t40.length co3) k_∧no_ (.slice Ao4 t44.length co4) k_∧no_ (.slice Ao5 t48.length co5) k_∧no_ (.slice Ao7 xa.length co7) k_) v2 t7)∧(Kd.R (Kd.int .i64) 3 w' w.heap.size (fun k_=>some k_≠(s_.1:Value).ownBlock∧no_ v7 k_∧no_ (.slice (some ad1) t23.length co6) k_∧no_ v2 k_∧no_ (.slice Ao2 t35.length co2) k_∧no_ (.slice Ao3 t40.length co3) k_∧no_ (.slice Ao4 t44.length co4) k_∧no_ (.slice Ao5 t48.length co5) k_) (.slice Ao1 t5.length co1) t5)∧(Kd.R (Kd.int .i64) 3 w' w.heap.size (fun k_=>some k_≠(s_.1:Value).ownBlock∧no_ v7 k_∧no_ (.slice (some ad1) t23.length co6) k_∧no_ v2 k_∧no_ (.slice Ao1 t5.length co1) k_∧no_ (.slice Ao3 t40.length co3) k_∧no_ (.slice Ao4 t44.length co4) k_∧no_ (.slice Ao5 t48.length co5) k_∧no_ (.slice Ao7 xa.length co7) k_) (.slice Ao2 t35.length co2) t35)∧(Kd.R (Kd.int .i64) 3 w' w.heap.size (fun k_=>some k_≠(s_.1:Value).ownBlock∧no_ v7 k_∧no_ (.slice (some ad1) t23.length co6) k_∧no_ v2 k_∧no_ (.slice Ao1 t5.length co1) k_∧no_ (.slice Ao2 t35.length co2) k_∧no_ (.slice Ao4 t44.length co4) k_∧no_ (.slice Ao5 t48.length co5) k_∧no_ (.slice Ao7 xa.length co7) k_) (.slice Ao3 t40.length co3) t40)∧(Kd.R (Kd.int .i64) 3 w' w.heap.size (fun k_=>some k_≠(s_.1:Value).ownBlock∧no_ v7 k_∧no_ (.slice (some ad1) t23.length co6) k_∧no_ v2 k_∧no_ (.slice Ao1 t5.length co1) k_∧no_ (.slice Ao2 t35.length co2) k_∧no_ (.slice Ao3 t40.length co3) k_∧no_ (.slice Ao5 t48.length co5) k_∧no_ (.slice Ao7 xa.length co7) k_) (.slice Ao4 t44.length co4) t44)∧(Kd.R (Kd.int .i64) 3 w' w.heap.size (fun k_=>some k_≠(s_.1:Value).ownBlock∧no_ v7 k_∧no_ (.slice (some ad1) t23.length co6) k_∧no_ v2 k_∧no_ (.slice Ao1 t5.length co1) k_∧no_ (.slice Ao2 t35.length co2) k_∧no_ (.slice Ao3 t40.length co3) k_∧no_ (.slice Ao4 t44.length co4) k_∧no_ (.slice Ao7 xa.length co7) k_) (.slice Ao5 t48.length co5) t48)∧(Kd.R (Kd.int .i64) 3 w' w.heap.size (fun k_=>some k_≠(s_.1:Value).ownBlock∧no_ v7 k_∧no_ (.slice (some ad1) t23.length co6) k_∧no_ v2 k_∧no_ (.slice Ao2 t35.length co2) k_∧no_ (.slice Ao3 t40.length co3) k_∧no_ (.slice Ao4 t44.length co4) k_∧no_ (.slice Ao5 t48.length co5) k_) (.slice Ao7 xa.length co7) xa)∧(w'.heap[gb1]?=some (.cells #[.int .i64 t3,.bool t4,.slice Ao1 t5.length co1] 26 (0,0)))∧(w'.heap[gb2]?=some (.cells #[.int .i64 t33,.bool t34,.slice Ao2 t35.length co2] 26 (0,0)))∧(w'.heap[gb3]?=some (.cells #[.int .i64 t38,.bool t39,.slice Ao3 t40.length co3] 26 (0,0)))∧(w'.heap[gb4]?=some (.cells #[.int .i64 t42,.bool t43,.slice Ao4 t44.length co4] 26 (0,0)))∧(w'.heap[gb5]?=some (.cells #[.int .i64 t46,.bool t47,.slice Ao5 t48.length co5] 26 (0,0)))∧(w'.heap[gb7]?=some (.cells #[.int .i64 xb,.bool xc,.slice Ao7 xa.length co7] 26 (0,0)))∧(w'.heap[s_.2]?=some (.cells #[.int .i64 0,.bool false,.slice none 0 0] 26 (0,0)))∧(w.heap.size≤s_.2)∧(w.heap.size≤s_.2)∧(gb1≠s_.2)∧(s_.2≠gb1)∧(gb2≠s_.2)∧(s_.2≠gb2)∧(gb3≠s_.2)∧(s_.2≠gb3)∧(gb4≠s_.2)∧(s_.2≠gb4)∧(gb5≠s_.2)∧(s_.2≠gb5)∧(gb7≠s_.2)∧(s_.2≠gb7)∧(Below w.heap.size w w')) ?_ ?_
   rotate_left
   ·intro hCont
    refine ml (i:=6) (j:=10) (Ni:=some 380) (Nj:=some 54) #[true,true,true,true,true,true,true,false,false,false,false,false,false] #[true,true,true,true,true,true,false,false,false,false,true,false,false] rfl rfl rfl rfl (gS HT_.out bS) ao ao (fun K hK=>?_) (fun K hK=>?_)
    ·refine gs_ Tryd.func8 #[.agg #[.int .i64 xb,.bool xc,.slice Ao7 xa.length co7],.int .i64 t6,.int .i64 (rd t23 x53_11)] ?_
     with_reducible refine (aU.calls k11 xb xc _ _ xa t6 (rd t23 x53_11) t54 t55 t56 true _ ?_ ?_ iv A40.out).mono ?_
     exact o3
     exact (rr_ HO_9.out).2.1
     rintro e w27 ⟨v22,rfl,ho0,hb⟩;have HS3_:=(hb.cell (World.block_lt_of_cell? _ _ (hHeld.2.2.2))).trans (hHeld.2.2.2)
     refine ⟨_,rfl,?_⟩
     have HO12:=A0_ (Kd.R_lower (Kd.R_new' (Kd.R_new' (Kd.R_new' (Kd.R_new' (Kd.R_new' (Kd.R_new' (Kd.R_new' (Kd.R_new' (Kd.R_new' ho0 (Kd.R_lt aD)) (Kd.R_lt di)) (Kd.R_lt ei)) (Kd.R_lt bW)) (Kd.R_lt dP)) (Kd.R_lt dQ)) (Kd.R_lt dR)) (Kd.R_lt d6)) (Kd.R_lt eu)) (bz_ fW));replace HO_1:=A0_ (Kd.R_elder' aD (Kd.R_base ho0) hb);replace HO_3:=A0_ (Kd.R_elder' di (Kd.R_base ho0) hb);replace HO_4:=A0_ (Kd.R_elder' ei (Kd.R_base ho0) hb);replace HO_2:=A0_ (Kd.R_elder' bW (Kd.R_base ho0) hb);replace HO_5:=A0_ (Kd.R_elder' dP (Kd.R_base ho0) hb);replace HO_6:=A0_ (Kd.R_elder' dQ (Kd.R_base ho0) hb);replace HO_7:=A0_ (Kd.R_elder' dR (Kd.R_base ho0) hb);replace HO_8:=A0_ (Kd.R_elder' d6 (Kd.R_base ho0) hb);replace HO_9:=A0_ (Kd.R_elder' eu (Kd.R_base ho0) hb);replace BK1:=k1_ BK1 hb;replace BK2:=k1_ BK2 hb;replace BK3:=k1_ BK3 hb;replace BK4:=k1_ BK4 hb;replace BK5:=k1_ BK5 hb;replace BK7:=k1_ BK7 hb;replace HB:=hb_ hb fW
     (try clear hb ho0)
     refine hK.out _ _ (a3_ BK7 HS3_) (fun hHeld=>?_)
     clear hK K
     refine nm_ 380 ?_
     refine pu_ 7 373 ?_
     refine pu_ 8 381 ?_
     refine pu_ 9 382 ?_
     refine on_ 10 (some 54) (fun K hK=>?_)
     refine bp_ 54 #[.int .i64 0,.bool false,.slice none 0 0] 26 ?_
     intro gb8 hg w28 hbox hb;have HS3_:=(hb.cell (World.block_lt_of_cell? _ _ (hHeld.2.2.2))).trans (hHeld.2.2.2);replace HO_1:=q1_ HO_1 hb;replace HO_3:=q1_ HO_3 hb;replace HO_4:=q1_ HO_4 hb;replace HO_2:=q1_ HO_2 hb;replace HO_5:=q1_ HO_5 hb;replace HO_6:=q1_ HO_6 hb;replace HO_7:=q1_ HO_7 hb;replace HO_8:=q1_ HO_8 hb;replace HO_9:=q1_ HO_9 hb;replace HO12:=q1_ HO12 hb;have BK8:=A0_ (hbox);have GW8:=ge_ hg fW;have GE8:=ge_ hg fW;replace HB:=hb_ hb fW;obtain ⟨NB1_8,NB8_1⟩:=nn_ hg BK1;replace BK1:=k1_ BK1 hb;obtain ⟨NB2_8,NB8_2⟩:=nn_ hg BK2;replace BK2:=k1_ BK2 hb;obtain ⟨NB3_8,NB8_3⟩:=nn_ hg BK3;replace BK3:=k1_ BK3 hb;obtain ⟨NB4_8,NB8_4⟩:=nn_ hg BK4;replace BK4:=k1_ BK4 hb;obtain ⟨NB5_8,NB8_5⟩:=nn_ hg BK5;replace BK5:=k1_ BK5 hb;obtain ⟨NB7_8,NB8_7⟩:=nn_ hg BK7;replace BK7:=k1_ BK7 hb;clear hb hbox hg
     refine hK.out _ _ (a3_ BK7 HS3_) (fun hHeld=>?_)
     clear hK K
     refine nm_ 54 ?_
     exact fD gh (hCont (v22,gb8) _ ⟨hHeld,oZ,e8,gL,eZ,eJ,fc,fd,fe,fw,fV,(u1_ BK1),(u1_ BK2),(u1_ BK3),(u1_ BK4),(u1_ BK5),(u1_ BK7),(u1_ BK8),GW8.out,GE8.out,NB1_8.out,NB8_1.out,NB2_8.out,NB8_2.out,NB3_8.out,NB8_3.out,NB4_8.out,NB8_4.out,NB5_8.out,NB8_5.out,NB7_8.out,NB8_7.out,mA⟩)
    refine bp_ 54 #[.int .i64 0,.bool false,.slice none 0 0] 26 ?_
    intro gb8 hg w27 hbox hb;have HS3_:=(hb.cell (World.block_lt_of_cell? _ _ (hHeld.2.2.2))).trans (hHeld.2.2.2);replace HO_1:=q1_ HO_1 hb;replace HO_3:=q1_ HO_3 hb;replace HO_4:=q1_ HO_4 hb;replace HO_2:=q1_ HO_2 hb;replace HO_5:=q1_ HO_5 hb;replace HO_6:=q1_ HO_6 hb;replace HO_7:=q1_ HO_7 hb;replace HO_8:=q1_ HO_8 hb;replace HO_9:=q1_ HO_9 hb;have BK8:=A0_ (hbox);have GW8:=ge_ hg fW;have GE8:=ge_ hg fW;replace HB:=hb_ hb fW;obtain ⟨NB1_8,NB8_1⟩:=nn_ hg BK1;replace BK1:=k1_ BK1 hb;obtain ⟨NB2_8,NB8_2⟩:=nn_ hg BK2;replace BK2:=k1_ BK2 hb;obtain ⟨NB3_8,NB8_3⟩:=nn_ hg BK3;replace BK3:=k1_ BK3 hb;obtain ⟨NB4_8,NB8_4⟩:=nn_ hg BK4;replace BK4:=k1_ BK4 hb;obtain ⟨NB5_8,NB8_5⟩:=nn_ hg BK5;replace BK5:=k1_ BK5 hb;obtain ⟨NB7_8,NB8_7⟩:=nn_ hg BK7;replace BK7:=k1_ BK7 hb;clear hb hbox hg
    refine hK.out _ _ (a3_ BK7 HS3_) (fun hHeld=>?_)
    clear hK K
    refine nm_ 54 ?_
    refine on_ 6 (some 380) (fun K hK=>?_)
    refine gs_ Tryd.func8 #[.agg #[.int .i64 xb,.bool xc,.slice Ao7 xa.length co7],.int .i64 t6,.int .i64 (rd t23 x53_11)] ?_
    with_reducible refine (aU.calls k11 xb xc _ _ xa t6 (rd t23 x53_11) t54 t55 t56 true _ ?_ ?_ iv A40.out).mono ?_
    exact o3
    exact (rr_ HO_9.out).2.1
    rintro e w28 ⟨v22,rfl,ho0,hb⟩;have HS3_:=(hb.cell (World.block_lt_of_cell? _ _ (hHeld.2.2.2))).trans (hHeld.2.2.2)
    refine ⟨_,rfl,?_⟩
    have HO12:=A0_ (Kd.R_lower (Kd.R_new' (Kd.R_new' (Kd.R_new' (Kd.R_new' (Kd.R_new' (Kd.R_new' (Kd.R_new' (Kd.R_new' (Kd.R_new' ho0 (Kd.R_lt aD)) (Kd.R_lt di)) (Kd.R_lt ei)) (Kd.R_lt bW)) (Kd.R_lt dP)) (Kd.R_lt dQ)) (Kd.R_lt dR)) (Kd.R_lt d6)) (Kd.R_lt eu)) (bz_ mA));replace HO_1:=A0_ (Kd.R_elder' aD (Kd.R_base ho0) hb);replace HO_3:=A0_ (Kd.R_elder' di (Kd.R_base ho0) hb);replace HO_4:=A0_ (Kd.R_elder' ei (Kd.R_base ho0) hb);replace HO_2:=A0_ (Kd.R_elder' bW (Kd.R_base ho0) hb);replace HO_5:=A0_ (Kd.R_elder' dP (Kd.R_base ho0) hb);replace HO_6:=A0_ (Kd.R_elder' dQ (Kd.R_base ho0) hb);replace HO_7:=A0_ (Kd.R_elder' dR (Kd.R_base ho0) hb);replace HO_8:=A0_ (Kd.R_elder' d6 (Kd.R_base ho0) hb);replace HO_9:=A0_ (Kd.R_elder' eu (Kd.R_base ho0) hb);replace BK1:=k1_ BK1 hb;replace BK2:=k1_ BK2 hb;replace BK3:=k1_ BK3 hb;replace BK4:=k1_ BK4 hb;replace BK5:=k1_ BK5 hb;replace BK7:=k1_ BK7 hb;replace BK8:=k1_ BK8 hb;replace HB:=hb_ hb mA
    (try clear hb ho0)
    refine hK.out _ _ (a3_ BK7 HS3_) (fun hHeld=>?_)
    clear hK K
    refine nm_ 380 ?_
    refine pu_ 7 373 ?_
    refine pu_ 8 381 ?_
    refine pu_ 9 382 ?_
    exact fD gh (hCont (v22,gb8) _ ⟨hHeld,oZ,e8,gL,eZ,eJ,fc,fd,fe,fw,fV,(u1_ BK1),(u1_ BK2),(u1_ BK3),(u1_ BK4),(u1_ BK5),(u1_ BK7),(u1_ BK8),GW8.out,GE8.out,NB1_8.out,NB8_1.out,NB2_8.out,NB8_2.out,NB3_8.out,NB8_3.out,NB4_8.out,NB8_4.out,NB5_8.out,NB8_5.out,NB7_8.out,NB8_7.out,mA⟩)
   rintro ⟨v22,gb8⟩ w27 ⟨hS_,h0_,h1_,h2_,h3_,h4_,h5_,h6_,h7_,h8_,h9_,h10_,h11_,h12_,h13_,h14_,h15_,h16_,h17_,h18_,h19_,h20_,h21_,h22_,h23_,h24_,h25_,h26_,h27_,h28_,h29_,h30_,h31_⟩
   try dsimp only at h0_ h1_ h2_ h3_ h4_ h5_ h6_ h7_ h8_ h9_ h10_ h11_ h12_ h13_ h14_ h15_ h16_ h17_ h18_ h19_ h20_ h21_ h22_ h23_ h24_ h25_ h26_ h27_ h28_ h29_ h30_ h31_
   have HO12:=A0_ h0_;replace HO_3:=A0_ h1_;replace HO_4:=A0_ h2_;replace HO_1:=A0_ h3_;replace HO_2:=A0_ h4_;replace HO_5:=A0_ h5_;replace HO_6:=A0_ h6_;replace HO_7:=A0_ h7_;replace HO_8:=A0_ h8_;replace HO_9:=A0_ h9_;replace BK1:=A0_ h10_;replace BK2:=A0_ h11_;replace BK3:=A0_ h12_;replace BK4:=A0_ h13_;replace BK5:=A0_ h14_;replace BK7:=A0_ h15_;have BK8:=A0_ h16_;have GW8:=A0_ h17_;have GE8:=A0_ h18_;have NB1_8:=A0_ h19_;have NB8_1:=A0_ h20_;have NB2_8:=A0_ h21_;have NB8_2:=A0_ h22_;have NB3_8:=A0_ h23_;have NB8_3:=A0_ h24_;have NB4_8:=A0_ h25_;have NB8_4:=A0_ h26_;have NB5_8:=A0_ h27_;have NB8_5:=A0_ h28_;have NB7_8:=A0_ h29_;have NB8_7:=A0_ h30_;replace HB:=A0_ h31_;clear h0_ h1_ h2_ h3_ h4_ h5_ h6_ h7_ h8_ h9_ h10_ h11_ h12_ h13_ h14_ h15_ h16_ h17_ h18_ h19_ h20_ h21_ h22_ h23_ h24_ h25_ h26_ h27_ h28_ h29_ h30_ h31_;have hHeld:w27.cell? ⟨gb7,0,none⟩=some (.int .i64 xb)∧w27.cell? ⟨gb7,1,none⟩=some (.bool xc)∧w27.cell? ⟨gb7,2,none⟩=some (.slice Ao7 xa.length co7)∧w27.cell? (ad1.add (x53_11).toNat)=some (.int .i64 (rd t23 x53_11)):=hS_;obtain ⟨Ao8,co8,eo8⟩:=Kd.R_slice HO12.out
   (first|subst eo8|(injection eo8 with f1_ f2_ f3_;have f4_:=f1_.symm;have f5_:=f3_.symm;clear f1_ f2_ f3_;subst f4_;subst f5_))
   refine nq_ ?_
   refine on_ 11 none (fun K hK=>?_)
   have hs249:=y_ BK8 0;have hfs249:=kf_ BK8.out 0;have hns1_0:=NB1_8.out;have hns1_1:=NB2_8.out;have hns1_2:=NB3_8.out;have hns1_3:=NB4_8.out;have hns1_4:=NB5_8.out;have hns1_5:=NB7_8.out;have hms1_0:=NB8_1.out;have hms1_1:=NB8_2.out;have hms1_2:=NB8_3.out;have hms1_3:=NB8_4.out;have hms1_4:=NB8_5.out;have hms1_5:=NB8_7.out;have hs250:=y_ BK8 1;have hfs250:=kf_ BK8.out 1;have hns2_0:=NB1_8.out;have hns2_1:=NB2_8.out;have hns2_2:=NB3_8.out;have hns2_3:=NB4_8.out;have hns2_4:=NB5_8.out;have hns2_5:=NB7_8.out;have hms2_0:=NB8_1.out;have hms2_1:=NB8_2.out;have hms2_2:=NB8_3.out;have hms2_3:=NB8_4.out;have hms2_4:=NB8_5.out;have hms2_5:=NB8_7.out;have hs252:=y_ BK8 2;have hfs252:=kf_ BK8.out 2;have hns3_0:=NB1_8.out;have hns3_1:=NB2_8.out;have hns3_2:=NB3_8.out;have hns3_3:=NB4_8.out;have hns3_4:=NB5_8.out;have hns3_5:=NB7_8.out;have hms3_0:=NB8_1.out;have hms3_1:=NB8_2.out;have hms3_2:=NB8_3.out;have hms3_3:=NB8_4.out;have hms3_4:=NB8_5.out;have hms3_5:=NB8_7.out
   refine fF (w1:=?_) (by rfl) rfl ?_ ?_
   rotate_left
   ·go_simp
    rfl
   refine hK.out _ _ ⟨((av (p:=⟨gb8,_,none⟩) NB7_8.out _).trans (((av (p:=⟨gb8,_,none⟩) NB7_8.out _).trans (((av (p:=⟨gb8,_,none⟩) NB7_8.out _).trans (hHeld.1)))))),((av (p:=⟨gb8,_,none⟩) NB7_8.out _).trans (((av (p:=⟨gb8,_,none⟩) NB7_8.out _).trans (((av (p:=⟨gb8,_,none⟩) NB7_8.out _).trans (hHeld.2.1)))))),((av (p:=⟨gb8,_,none⟩) NB7_8.out _).trans (((av (p:=⟨gb8,_,none⟩) NB7_8.out _).trans (((av (p:=⟨gb8,_,none⟩) NB7_8.out _).trans (hHeld.2.2.1)))))),((av (p:=⟨gb8,_,none⟩) o4 _).trans (((av (p:=⟨gb8,_,none⟩) o4 _).trans (((av (p:=⟨gb8,_,none⟩) o4 _).trans (hHeld.2.2.2))))))⟩ (fun hHeld=>?_)
   clear hK K
   refine pu_ 12 55 ?_
   refine dn_ ?_
   obtain ⟨hnb20,hnc20⟩:=n2_ NB8_1;obtain ⟨hnb21,hnc21⟩:=n2_ NB8_2;obtain ⟨hnb22,hnc22⟩:=n2_ NB8_3;obtain ⟨hnb23,hnc23⟩:=n2_ NB8_4;obtain ⟨hnb24,hnc24⟩:=n2_ NB8_5;obtain ⟨hnb25,hnc25⟩:=n2_ NB8_7;have hcz21:=z3_ BK8;obtain ⟨hnb26,hnc26⟩:=n2_ NB7_1;obtain ⟨hnb27,hnc27⟩:=n2_ NB7_2;obtain ⟨hnb28,hnc28⟩:=n2_ NB7_3;obtain ⟨hnb29,hnc29⟩:=n2_ NB7_4;obtain ⟨hnb30,hnc30⟩:=n2_ NB7_5;have hcz22:=z3_ BK7
   try go_wp2
   go_roundg k11
   case measure=>have:=HJ1.out;have:=HJ2.out;have:=HJ3.out;have:=HJ4.out;have:=HJ5.out;have:=HJ6.out;have:=HJ7.out;have:=HJ8.out;have:=HJ9.out;have:=HJ10.out;have:=HK1.out;omega
   exact ⟨(wrap64 (x53_11+1)),(t54),(t55),(t56),(.slice Ao8 t56.length co8),aC,H',⟨by have:=HJ1.out;have:=HJ2.out;have:=HJ3.out;have:=HJ4.out;have:=HJ5.out;have:=HJ6.out;have:=HJ7.out;have:=HJ8.out;have:=HJ9.out;have:=HJ10.out;have:=HK1.out;omega⟩,⟨by (with_reducible repeat (first|apply ra_|apply rn_|apply rd_));exact Kd.R_mono (cf (rf_ (rf_ (rf_ (Kd.R_types (Kd.R_types HO_1.out BK8.out ao) BK7.out ao) (fun _ hk=>hk.1.2) (.int .i64 t54)) (fun _ hk=>hk.1.2) (.bool t55)) (fun _ hk=>hk.1.2) (.slice Ao8 t56.length co8))) cf_⟩,⟨by (with_reducible repeat (first|apply ra_|apply rn_|apply rd_));exact Kd.R_mono (cf (rf_ (rf_ (rf_ (Kd.R_types (Kd.R_types HO_3.out BK8.out ao) BK7.out ao) (fun _ hk=>hk.1.2) (.int .i64 t54)) (fun _ hk=>hk.1.2) (.bool t55)) (fun _ hk=>hk.1.2) (.slice Ao8 t56.length co8))) cf_⟩,⟨by (with_reducible repeat (first|apply ra_|apply rn_|apply rd_));exact Kd.R_mono (cf (rf_ (rf_ (rf_ (Kd.R_types (Kd.R_types HO_4.out BK8.out ao) BK7.out ao) (fun _ hk=>hk.1.2) (.int .i64 t54)) (fun _ hk=>hk.1.2) (.bool t55)) (fun _ hk=>hk.1.2) (.slice Ao8 t56.length co8))) cf_⟩,⟨by (with_reducible repeat (first|apply ra_|apply rn_|apply rd_));exact Kd.R_mono (cf (rf_ (rf_ (rf_ (Kd.R_types (Kd.R_types HO_2.out BK8.out ao) BK7.out ao) (fun _ hk=>hk.1.2) (.int .i64 t54)) (fun _ hk=>hk.1.2) (.bool t55)) (fun _ hk=>hk.1.2) (.slice Ao8 t56.length co8))) cf_⟩,⟨by (with_reducible repeat (first|apply ra_|apply rn_|apply rd_));exact Kd.R_mono (cf (rf_ (rf_ (rf_ (Kd.R_types (Kd.R_types HO_5.out BK8.out ao) BK7.out ao) (fun _ hk=>hk.1.2) (.int .i64 t54)) (fun _ hk=>hk.1.2) (.bool t55)) (fun _ hk=>hk.1.2) (.slice Ao8 t56.length co8))) cf_⟩,⟨by (with_reducible repeat (first|apply ra_|apply rn_|apply rd_));exact Kd.R_mono (cf (rf_ (rf_ (rf_ (Kd.R_types (Kd.R_types HO_6.out BK8.out ao) BK7.out ao) (fun _ hk=>hk.1.2) (.int .i64 t54)) (fun _ hk=>hk.1.2) (.bool t55)) (fun _ hk=>hk.1.2) (.slice Ao8 t56.length co8))) cf_⟩,⟨by (with_reducible repeat (first|apply ra_|apply rn_|apply rd_));exact Kd.R_mono (cf (rf_ (rf_ (rf_ (Kd.R_types (Kd.R_types HO_7.out BK8.out ao) BK7.out ao) (fun _ hk=>hk.1.2) (.int .i64 t54)) (fun _ hk=>hk.1.2) (.bool t55)) (fun _ hk=>hk.1.2) (.slice Ao8 t56.length co8))) cf_⟩,⟨by (with_reducible repeat (first|apply ra_|apply rn_|apply rd_));exact Kd.R_mono (cf (rf_ (rf_ (rf_ (Kd.R_types (Kd.R_types HO_8.out BK8.out ao) BK7.out ao) (fun _ hk=>hk.1.2) (.int .i64 t54)) (fun _ hk=>hk.1.2) (.bool t55)) (fun _ hk=>hk.1.2) (.slice Ao8 t56.length co8))) cf_⟩,⟨by (with_reducible repeat (first|apply ra_|apply rn_|apply rd_));exact Kd.R_mono (cf (rf_ (rf_ (rf_ (Kd.R_types (Kd.R_types HO12.out BK8.out ao) BK7.out ao) (fun _ hk=>hk.1.2) (.int .i64 t54)) (fun _ hk=>hk.1.2) (.bool t55)) (fun _ hk=>hk.1.2) (.slice Ao8 t56.length co8))) cf_⟩,⟨u1_ BK1⟩,⟨u1_ BK2⟩,⟨u1_ BK3⟩,⟨u1_ BK4⟩,⟨u1_ BK5⟩,⟨u1_ BK7⟩,⟨mA⟩⟩
  rw [if_neg c12] at H;have c12b0:decide (x53_11<(t23.length:Int))=false:=decide_eq_false c12;clear c12;obtain ⟨⟨t54,t55⟩,A40,H⟩:=o1_ H;obtain ⟨⟨t56,t57,t58,t59⟩,A42,H⟩:=o1_ H;obtain ⟨⟨t60,t61⟩,A44,H⟩:=o1_ H;have HC279:=A0_ H;clear H;obtain ⟨Ao6,co6,eo6⟩:=Kd.R_slice HO_4.out;subst eo6;obtain ⟨hnb20,hnc20⟩:=n2_ NB7_1;obtain ⟨hnb21,hnc21⟩:=n2_ NB7_2;obtain ⟨hnb22,hnc22⟩:=n2_ NB7_3;obtain ⟨hnb23,hnc23⟩:=n2_ NB7_4;obtain ⟨hnb24,hnc24⟩:=n2_ NB7_5;have hcz21:=z3_ BK7;obtain ⟨Ao7,co7,eo7⟩:=Kd.R_slice HO_9.out;subst eo7
  go_upto_region 68 with (first|((with_reducible refine gc_ (f:=21) rfl ?_);refine gl_ 389 Tryd.func21 #[.agg #[.int .i64 xb,.bool xc,.slice Ao7 xa.length co7],.int .i64 t6] ?_;(with_reducible refine (bj.calls k11 xb xc _ _ xa t6 t54 t55 _ ?_ ?_ A40.out).mono ?_);exact o3;exact (rr_ HO_9.out).2.1;rintro e w26 ⟨v22,rfl,ho0,hb⟩;refine ⟨_,rfl,?_⟩;have HO12:=A0_ (Kd.R_lower (Kd.R_new' (Kd.R_new' (Kd.R_new' (Kd.R_new' (Kd.R_new' (Kd.R_new' (Kd.R_new' (Kd.R_new' (Kd.R_new' ho0 (Kd.R_lt aD)) (Kd.R_lt di)) (Kd.R_lt ei)) (Kd.R_lt bW)) (Kd.R_lt dP)) (Kd.R_lt dQ)) (Kd.R_lt dR)) (Kd.R_lt d6)) (Kd.R_lt eu)) (bz_ fW));replace HO_1:=A0_ (Kd.R_elder' aD (Kd.R_base ho0) hb);replace HO_3:=A0_ (Kd.R_elder' di (Kd.R_base ho0) hb);replace HO_4:=A0_ (Kd.R_elder' ei (Kd.R_base ho0) hb);replace HO_2:=A0_ (Kd.R_elder' bW (Kd.R_base ho0) hb);replace HO_5:=A0_ (Kd.R_elder' dP (Kd.R_base ho0) hb);replace HO_6:=A0_ (Kd.R_elder' dQ (Kd.R_base ho0) hb);replace HO_7:=A0_ (Kd.R_elder' dR (Kd.R_base ho0) hb);replace HO_8:=A0_ (Kd.R_elder' d6 (Kd.R_base ho0) hb);replace HO_9:=A0_ (Kd.R_elder' eu (Kd.R_base ho0) hb);replace BK1:=k1_ BK1 hb;replace BK2:=k1_ BK2 hb;replace BK3:=k1_ BK3 hb;replace BK4:=k1_ BK4 hb;replace BK5:=k1_ BK5 hb;replace BK7:=k1_ BK7 hb;replace HB:=hb_ hb fW;(try clear hb ho0);obtain ⟨hnb25,hnc25⟩:=n2_ NB1_2;obtain ⟨hnb26,hnc26⟩:=n2_ NB1_3;obtain ⟨hnb27,hnc27⟩:=n2_ NB1_4;obtain ⟨hnb28,hnc28⟩:=n2_ NB1_5;have hcz22:=z3_ BK1)|((with_reducible refine gc_ (f:=32) rfl ?_);refine gl_ 394 Tryd.func32 #[.agg #[.int .i64 t3,.bool t4,.slice Ao1 t5.length co1]] ?_;(with_reducible refine (cj.calls k11 t3 t4 _ _ t5 t56 t57 t58 t59 _ ?_ ?_ iv A42.out).mono ?_);exact e7;exact (rr_ HO_2.out).2.1;rintro e w27 ⟨v23,rfl,ho0,hb⟩;refine ⟨_,rfl,?_⟩;have HO13:=A0_ (Kd.R_lower (Kd.R_new' (Kd.R_new' (Kd.R_new' (Kd.R_new' (Kd.R_new' (Kd.R_new' (Kd.R_new' (Kd.R_new' (Kd.R_new' (Kd.R_new' ho0 (Kd.R_lt aD)) (Kd.R_lt di)) (Kd.R_lt ei)) (Kd.R_lt bW)) (Kd.R_lt dP)) (Kd.R_lt dQ)) (Kd.R_lt dR)) (Kd.R_lt d6)) (Kd.R_lt eu)) (Kd.R_lt rn)) (bz_ fW));replace HO_1:=A0_ (Kd.R_elder' aD (Kd.R_base ho0) hb);replace HO_3:=A0_ (Kd.R_elder' di (Kd.R_base ho0) hb);replace HO_4:=A0_ (Kd.R_elder' ei (Kd.R_base ho0) hb);replace HO_2:=A0_ (Kd.R_elder' bW (Kd.R_base ho0) hb);replace HO_5:=A0_ (Kd.R_elder' dP (Kd.R_base ho0) hb);replace HO_6:=A0_ (Kd.R_elder' dQ (Kd.R_base ho0) hb);replace HO_7:=A0_ (Kd.R_elder' dR (Kd.R_base ho0) hb);replace HO_8:=A0_ (Kd.R_elder' d6 (Kd.R_base ho0) hb);replace HO_9:=A0_ (Kd.R_elder' eu (Kd.R_base ho0) hb);replace HO12:=A0_ (Kd.R_elder' rn (Kd.R_base ho0) hb);replace BK1:=k1_ BK1 hb;replace BK2:=k1_ BK2 hb;replace BK3:=k1_ BK3 hb;replace BK4:=k1_ BK4 hb;replace BK5:=k1_ BK5 hb;replace BK7:=k1_ BK7 hb;replace HB:=hb_ hb fW;(try clear hb ho0))|((with_reducible refine gd_ (N:=58) rfl ?_);(try (refine cL (by rfl) ?_;dsimp only));refine bx_ 58 #[.int .i64 0,.bool false,.slice none 0 0] 26 ?_;intro gb9 hg w28 BK9 hb;replace HO_1:=q1_ HO_1 hb;replace HO_3:=q1_ HO_3 hb;replace HO_4:=q1_ HO_4 hb;replace HO_2:=q1_ HO_2 hb;replace HO_5:=q1_ HO_5 hb;replace HO_6:=q1_ HO_6 hb;replace HO_7:=q1_ HO_7 hb;replace HO_8:=q1_ HO_8 hb;replace HO_9:=q1_ HO_9 hb;replace HO12:=q1_ HO12 hb;replace HO13:=q1_ HO13 hb;have GW9:=ge_ hg fW;have GE9:=GW9;replace HB:=hb_ hb fW;obtain ⟨NB1_9,NB9_1⟩:=nn_ hg BK1;replace BK1:=k1_ BK1 hb;obtain ⟨NB2_9,NB9_2⟩:=nn_ hg BK2;replace BK2:=k1_ BK2 hb;obtain ⟨NB3_9,NB9_3⟩:=nn_ hg BK3;replace BK3:=k1_ BK3 hb;obtain ⟨NB4_9,NB9_4⟩:=nn_ hg BK4;replace BK4:=k1_ BK4 hb;obtain ⟨NB5_9,NB9_5⟩:=nn_ hg BK5;replace BK5:=k1_ BK5 hb;obtain ⟨NB7_9,NB9_7⟩:=nn_ hg BK7;replace BK7:=k1_ BK7 hb;clear hb hg;obtain ⟨hnb29,hnc29⟩:=n2_ NB9_1;obtain ⟨hnb30,hnc30⟩:=n2_ NB9_2;obtain ⟨hnb31,hnc31⟩:=n2_ NB9_3;obtain ⟨hnb32,hnc32⟩:=n2_ NB9_4;obtain ⟨hnb33,hnc33⟩:=n2_ NB9_5;obtain ⟨hnb34,hnc34⟩:=n2_ NB9_7;have hcz23:=z3_ BK9;obtain ⟨Ao8,co8,eo8⟩:=Kd.R_slice HO13.out;subst eo8)|((with_reducible refine gc_ (f:=17) rfl ?_);refine gl_ 400 Tryd.func17 #[.agg #[.int .i64 t56,.bool t57,.slice Ao8 t58.length co8],.int .i64 t6] ?_;(with_reducible refine (a9.calls k11 t56 t57 _ _ t58 t6 t60 t61 _ ?_ ?_ A44.out).mono ?_);(refine (rr_ (e:=3) (base:=w.heap.size) (ok:=fun k_=>((((((((((True∧no_ v2 k_)∧no_ v7 k_)∧no_ (.slice Ao6 t23.length co6) k_)∧no_ (.slice Ao1 t5.length co1) k_)∧no_ (.slice Ao2 t35.length co2) k_)∧no_ (.slice Ao3 t40.length co3) k_)∧no_ (.slice Ao4 t44.length co4) k_)∧no_ (.slice Ao5 t48.length co5) k_)∧no_ (.slice Ao7 xa.length co7) k_)∧no_ v22 k_)) (n:=t58.length) (c:=co8) ?_).2.2;exact ro);exact (rr_ HO13.out).2.1;rintro e w29 ⟨rfl,hb⟩;refine ⟨_,rfl,?_⟩;replace HO_1:=A0_ (Kd.R_below (by (with_reducible repeat (first|apply ra_|apply rn_|apply rd_));exact (Kd.R_mono (cf (Kd.R_types HO_1.out BK9.out ao)) (fun _ h_=>h_.1))) hb);replace HO_3:=A0_ (Kd.R_below (by (with_reducible repeat (first|apply ra_|apply rn_|apply rd_));exact (Kd.R_mono (cf (Kd.R_types HO_3.out BK9.out ao)) (fun _ h_=>h_.1))) hb);replace HO_4:=A0_ (Kd.R_below (by (with_reducible repeat (first|apply ra_|apply rn_|apply rd_));exact (Kd.R_mono (cf (Kd.R_types HO_4.out BK9.out ao)) (fun _ h_=>h_.1))) hb);replace HO_2:=A0_ (Kd.R_below (by (with_reducible repeat (first|apply ra_|apply rn_|apply rd_));exact (Kd.R_mono (cf (Kd.R_types HO_2.out BK9.out ao)) (fun _ h_=>h_.1))) hb);replace HO_5:=A0_ (Kd.R_below (by (with_reducible repeat (first|apply ra_|apply rn_|apply rd_));exact (Kd.R_mono (cf (Kd.R_types HO_5.out BK9.out ao)) (fun _ h_=>h_.1))) hb);replace HO_6:=A0_ (Kd.R_below (by (with_reducible repeat (first|apply ra_|apply rn_|apply rd_));exact (Kd.R_mono (cf (Kd.R_types HO_6.out BK9.out ao)) (fun _ h_=>h_.1))) hb);replace HO_7:=A0_ (Kd.R_below (by (with_reducible repeat (first|apply ra_|apply rn_|apply rd_));exact (Kd.R_mono (cf (Kd.R_types HO_7.out BK9.out ao)) (fun _ h_=>h_.1))) hb);replace HO_8:=A0_ (Kd.R_below (by (with_reducible repeat (first|apply ra_|apply rn_|apply rd_));exact (Kd.R_mono (cf (Kd.R_types HO_8.out BK9.out ao)) (fun _ h_=>h_.1))) hb);replace HO_9:=A0_ (Kd.R_below (by (with_reducible repeat (first|apply ra_|apply rn_|apply rd_));exact (Kd.R_mono (cf (Kd.R_types HO_9.out BK9.out ao)) (fun _ h_=>h_.1))) hb);replace HO12:=A0_ (Kd.R_below (by (with_reducible repeat (first|apply ra_|apply rn_|apply rd_));exact (Kd.R_mono (cf (Kd.R_types HO12.out BK9.out ao)) (fun _ h_=>h_.1))) hb);replace HO13:=A0_ (Kd.R_below ro hb);replace BK1:=k1_ BK1 hb;replace BK2:=k1_ BK2 hb;replace BK3:=k1_ BK3 hb;replace BK4:=k1_ BK4 hb;replace BK5:=k1_ BK5 hb;replace BK7:=k1_ BK7 hb;replace BK9:=k2_ (.cells #[.int .i64 t56,.bool t57,.slice Ao8 t58.length co8] 26 (0,0)) BK9 hb;replace HB:=hb_ hb fH;(try clear hb)))
  (try simp only [Act.put,sa_,sz_,ss_])
  go_cut [422] from 366 to 422 (fun v24 wc=>∃ (kq:Nat) (x422_278:Bool),v24=.bool x422_278∧Aside0 (laws_FnGame.j12 kq t6 t7 t11 t19 x422_278 t3 t4 t5=some r)∧Aside0 (kq≤k11)∧Aside0 (Kd.R (Kd.int .i64) 3 wc w.heap.size (fun k_=>no_ v7 k_∧no_ (.slice Ao1 t5.length co1) k_∧no_ (.slice Ao2 t35.length co2) k_∧no_ (.slice Ao3 t40.length co3) k_∧no_ (.slice Ao4 t44.length co4) k_∧no_ (.slice Ao5 t48.length co5) k_∧no_ (.slice Ao7 xa.length co7) k_∧no_ (.slice Ao8 t58.length co8) k_) v2 t7)∧Aside0 (Kd.R (Kd.int .i64) 3 wc w.heap.size (fun k_=>no_ v2 k_∧no_ (.slice Ao1 t5.length co1) k_∧no_ (.slice Ao2 t35.length co2) k_∧no_ (.slice Ao3 t40.length co3) k_∧no_ (.slice Ao4 t44.length co4) k_∧no_ (.slice Ao5 t48.length co5) k_∧no_ (.slice Ao7 xa.length co7) k_∧no_ (.slice Ao8 t58.length co8) k_) v7 t19)∧Aside0 (Kd.R (Kd.int .i64) 3 wc w.heap.size (fun k_=>no_ v2 k_∧no_ v7 k_∧no_ (.slice Ao2 t35.length co2) k_∧no_ (.slice Ao3 t40.length co3) k_∧no_ (.slice Ao4 t44.length co4) k_∧no_ (.slice Ao5 t48.length co5) k_∧no_ (.slice Ao8 t58.length co8) k_) (.slice Ao1 t5.length co1) t5)∧Aside0 (Kd.R (Kd.int .i64) 3 wc w.heap.size (fun k_=>no_ v2 k_∧no_ v7 k_∧no_ (.slice Ao1 t5.length co1) k_∧no_ (.slice Ao3 t40.length co3) k_∧no_ (.slice Ao4 t44.length co4) k_∧no_ (.slice Ao5 t48.length co5) k_∧no_ (.slice Ao7 xa.length co7) k_∧no_ (.slice Ao8 t58.length co8) k_) (.slice Ao2 t35.length co2) t35)∧Aside0 (Kd.R (Kd.int .i64) 3 wc w.heap.size (fun k_=>no_ v2 k_∧no_ v7 k_∧no_ (.slice Ao1 t5.length co1) k_∧no_ (.slice Ao2 t35.length co2) k_∧no_ (.slice Ao4 t44.length co4) k_∧no_ (.slice Ao5 t48.length co5) k_∧no_ (.slice Ao7 xa.length co7) k_∧no_ (.slice Ao8 t58.length co8) k_) (.slice Ao3 t40.length co3) t40)∧Aside0 (Kd.R (Kd.int .i64) 3 wc w.heap.size (fun k_=>no_ v2 k_∧no_ v7 k_∧no_ (.slice Ao1 t5.length co1) k_∧no_ (.slice Ao2 t35.length co2) k_∧no_ (.slice Ao3 t40.length co3) k_∧no_ (.slice Ao5 t48.length co5) k_∧no_ (.slice Ao7 xa.length co7) k_∧no_ (.slice Ao8 t58.length co8) k_) (.slice Ao4 t44.length co4) t44)∧Aside0 (Kd.R (Kd.int .i64) 3 wc w.heap.size (fun k_=>no_ v2 k_∧no_ v7 k_∧no_ (.slice Ao1 t5.length co1) k_∧no_ (.slice Ao2 t35.length co2) k_∧no_ (.slice Ao3 t40.length co3) k_∧no_ (.slice Ao4 t44.length co4) k_∧no_ (.slice Ao7 xa.length co7) k_∧no_ (.slice Ao8 t58.length co8) k_) (.slice Ao5 t48.length co5) t48)∧Aside0 (Kd.R (Kd.int .i64) 3 wc w.heap.size (fun k_=>no_ v2 k_∧no_ v7 k_∧no_ (.slice Ao2 t35.length co2) k_∧no_ (.slice Ao3 t40.length co3) k_∧no_ (.slice Ao4 t44.length co4) k_∧no_ (.slice Ao5 t48.length co5) k_∧no_ (.slice Ao8 t58.length co8) k_) (.slice Ao7 xa.length co7) xa)∧Aside0 (Kd.R (Kd.int .i64) 3 wc w.heap.size (fun k_=>no_ v2 k_∧no_ v7 k_∧no_ (.slice Ao1 t5.length co1) k_∧no_ (.slice Ao2 t35.length co2) k_∧no_ (.slice Ao3 t40.length co3) k_∧no_ (.slice Ao4 t44.length co4) k_∧no_ (.slice Ao5 t48.length co5) k_∧no_ (.slice Ao7 xa.length co7) k_) (.slice Ao8 t58.length co8) t58)∧Aside0 (wc.heap[gb1]?=some (.cells #[.int .i64 t3,.bool t4,(.slice Ao1 t5.length co1)] 26 (0,0)))∧Aside0 (wc.heap[gb2]?=some (.cells #[.int .i64 t33,.bool t34,(.slice Ao2 t35.length co2)] 26 (0,0)))∧Aside0 (wc.heap[gb3]?=some (.cells #[.int .i64 t38,.bool t39,(.slice Ao3 t40.length co3)] 26 (0,0)))∧Aside0 (wc.heap[gb4]?=some (.cells #[.int .i64 t42,.bool t43,(.slice Ao4 t44.length co4)] 26 (0,0)))∧Aside0 (wc.heap[gb5]?=some (.cells #[.int .i64 t46,.bool t47,(.slice Ao5 t48.length co5)] 26 (0,0)))∧Aside0 (wc.heap[gb7]?=some (.cells #[.int .i64 xb,.bool xc,(.slice Ao7 xa.length co7)] 26 (0,0)))∧Aside0 (wc.heap[gb9]?=some (.cells #[.int .i64 t56,.bool t57,(.slice Ao8 t58.length co8)] 26 (0,0)))∧Aside0 (Below w.heap.size w wc))
  case first =>
   have H:=HC279.out;clear HC279
   by_cases c13:t55=true
   case neg =>
    obtain rfl:=bf_.mpr c13
    have H1:(none)=some r:=by rw [if_neg ft_] at H;exact H
    exact absurd H1 bx
   subst c13;rw [if_pos rfl] at H
   by_cases c14:t59=true
   case neg =>
    obtain rfl:=bf_.mpr c14
    have H1:(none)=some r:=by rw [if_neg ft_] at H;exact H
    exact absurd H1 bx
   subst c14;rw [if_pos rfl] at H
   by_cases c15:t61=true
   case neg =>
    obtain rfl:=bf_.mpr c15
    have H1:(none)=some r:=by rw [if_neg ft_] at H;exact H
    exact absurd H1 bx
   subst c15;rw [if_pos rfl] at H;obtain ⟨c16,H⟩:=is_ H;obtain ⟨c16b0,c16b1⟩:=et_ c16;clear c16
   (first|rw [c16b0]|(simp only [cH,dC];rw [c16b0])|skip)
   have H':=A0_ H;clear H;obtain ⟨Ao9,co9,eo9⟩:=Kd.R_slice HO12.out;subst eo9
   go_wp2
   go_meet
   exact ⟨_,((t60 != t11)),aC,H',⟨by have:=HJ1.out;have:=HJ2.out;have:=HJ3.out;have:=HJ4.out;have:=HJ5.out;have:=HJ6.out;have:=HJ7.out;have:=HJ8.out;have:=HJ9.out;have:=HJ10.out;have:=HK1.out;first|omega|exact Nat.le_refl _⟩,⟨eZ⟩,⟨e8⟩,⟨eJ⟩,⟨fc⟩,⟨fd⟩,⟨fe⟩,⟨fw⟩,⟨fV⟩,⟨mz⟩,⟨u1_ BK1⟩,⟨u1_ BK2⟩,⟨u1_ BK3⟩,⟨u1_ BK4⟩,⟨u1_ BK5⟩,⟨u1_ BK7⟩,⟨u1_ BK9⟩,⟨fH⟩⟩
  clear HC279
  try clear c1
  try clear c3
  try clear c12
  try clear c12b0
  (try clear hcz21);(try clear hcz22);(try clear hcz23);(try clear hfz21);(try clear hfz22);(try clear hfz23)
  obtain ⟨kq,x422_278,rfl,HA,HJ11,HO_1,HO_3,HO_2,HO_5,HO_6,HO_7,HO_8,HO_9,HO_10,BK1,BK2,BK3,BK4,BK5,BK7,BK9,HB⟩:=hcut
  cases kq with|zero=>exact absurd HA.out (by simp [laws_FnGame.j12])|succ kj11=>?_
  as_aux_lemma =>
  have H:=HA.out;clear HA;simp only [laws_FnGame.j12] at H
  by_cases c13:x422_278=true
  ·subst c13
   have H1:(none)=some r:=by rw [if_pos rfl] at H;exact H
   exact absurd H1 bx
  obtain rfl:=bf_.mpr c13;rw [if_neg ft_] at H;obtain ⟨y1,hy1⟩:∃ y_:List Int,y_=(([]:List Int)):=⟨_,rfl⟩;replace H:(laws_FnGame.l2 kj11 t6 t7 t11 t19 y1 0 t3 t4 t5)=some r:=dp;have Ny1:=A0_ hy1;clear hy1;have H':=A0_ H;clear H
  go_wp2_with (first|((with_reducible refine gd_ (N:=423) rfl ?_);(try (refine cL (by rfl) ?_;dsimp only));refine Kd.R_lit (Kd.int .i64) _ 3 ?hg (N:=423) ?hd (xs:=([]:List Int)) (inner:=[]) (ok:=fun _=>True) (okp:=fun _=>True) ?hr ?hp (fun _ hk=>hk) trivial (Below.refl _ _) (Nat.le_refl _) bx ?_;(case hd=>rfl);(case hg=>rfl);(case hr=>go_simp;first|done|rfl);(case hp=>exact (bu.none _ _));intro v25 w30 ho313 hb hg_ hnew_;clear hg_ hnew_;(first|rw [← Ny1.out] at ho313|(simp only [Int.reduceToNat] at ho313;rw [← Ny1.out] at ho313));have HO14:=A0_ (Kd.R_lower (Kd.R_new' (Kd.R_new' (Kd.R_new' (Kd.R_new' (Kd.R_new' (Kd.R_new' (Kd.R_new' (Kd.R_new' (Kd.R_new' ho313 (Kd.R_lt aD)) (Kd.R_lt di)) (Kd.R_lt bW)) (Kd.R_lt dP)) (Kd.R_lt dQ)) (Kd.R_lt dR)) (Kd.R_lt d6)) (Kd.R_lt eu)) (Kd.R_lt jG)) (bz_ fH));replace HO_1:=A0_ (Kd.R_elder' aD (Kd.R_base ho313) hb);replace HO_3:=A0_ (Kd.R_elder' di (Kd.R_base ho313) hb);replace HO_2:=A0_ (Kd.R_elder' bW (Kd.R_base ho313) hb);replace HO_5:=A0_ (Kd.R_elder' dP (Kd.R_base ho313) hb);replace HO_6:=A0_ (Kd.R_elder' dQ (Kd.R_base ho313) hb);replace HO_7:=A0_ (Kd.R_elder' dR (Kd.R_base ho313) hb);replace HO_8:=A0_ (Kd.R_elder' d6 (Kd.R_base ho313) hb);replace HO_9:=A0_ (Kd.R_elder' eu (Kd.R_base ho313) hb);replace HO_10:=A0_ (Kd.R_elder' jG (Kd.R_base ho313) hb);replace BK1:=k1_ BK1 hb;replace BK2:=k1_ BK2 hb;replace BK3:=k1_ BK3 hb;replace BK4:=k1_ BK4 hb;replace BK5:=k1_ BK5 hb;replace BK7:=k1_ BK7 hb;replace BK9:=k1_ BK9 hb;replace HB:=hb_ hb fH;clear hb ho313))
  go_loopg [62,63] kj11 (fun kq v26 v27 w'=>∃ (x62_13:List Int) (x63_13:Int),v27=.int .i64 x63_13∧Aside0 (laws_FnGame.l2 kq t6 t7 t11 t19 x62_13 x63_13 t3 t4 t5=some r)∧Aside0 (kq≤kj11)∧Aside0 (Kd.R (Kd.int .i64) 3 w' w.heap.size (fun k_=>no_ v7 k_∧no_ v26 k_∧no_ (.slice Ao1 t5.length co1) k_∧no_ (.slice Ao2 t35.length co2) k_∧no_ (.slice Ao3 t40.length co3) k_∧no_ (.slice Ao4 t44.length co4) k_∧no_ (.slice Ao5 t48.length co5) k_∧no_ (.slice Ao7 xa.length co7) k_∧no_ (.slice Ao8 t58.length co8) k_) v2 t7)∧Aside0 (Kd.R (Kd.int .i64) 3 w' w.heap.size (fun k_=>no_ v2 k_∧no_ v26 k_∧no_ (.slice Ao1 t5.length co1) k_∧no_ (.slice Ao2 t35.length co2) k_∧no_ (.slice Ao3 t40.length co3) k_∧no_ (.slice Ao4 t44.length co4) k_∧no_ (.slice Ao5 t48.length co5) k_∧no_ (.slice Ao7 xa.length co7) k_∧no_ (.slice Ao8 t58.length co8) k_) v7 t19)∧Aside0 (Kd.R (Kd.int .i64) 3 w' w.heap.size (fun k_=>no_ v2 k_∧no_ v7 k_∧no_ (.slice Ao1 t5.length co1) k_∧no_ (.slice Ao2 t35.length co2) k_∧no_ (.slice Ao3 t40.length co3) k_∧no_ (.slice Ao4 t44.length co4) k_∧no_ (.slice Ao5 t48.length co5) k_∧no_ (.slice Ao7 xa.length co7) k_∧no_ (.slice Ao8 t58.length co8) k_) v26 x62_13)∧Aside0 (Kd.R (Kd.int .i64) 3 w' w.heap.size (fun k_=>no_ v2 k_∧no_ v7 k_∧no_ v26 k_∧no_ (.slice Ao2 t35.length co2) k_∧no_ (.slice Ao3 t40.length co3) k_∧no_ (.slice Ao4 t44.length co4) k_∧no_ (.slice Ao5 t48.length co5) k_∧no_ (.slice Ao8 t58.length co8) k_) (.slice Ao1 t5.length co1) t5)∧Aside0 (Kd.R (Kd.int .i64) 3 w' w.heap.size (fun k_=>no_ v2 k_∧no_ v7 k_∧no_ v26 k_∧no_ (.slice Ao1 t5.length co1) k_∧no_ (.slice Ao3 t40.length co3) k_∧no_ (.slice Ao4 t44.length co4) k_∧no_ (.slice Ao5 t48.length co5) k_∧no_ (.slice Ao7 xa.length co7) k_∧no_ (.slice Ao8 t58.length co8) k_) (.slice Ao2 t35.length co2) t35)∧Aside0 (Kd.R (Kd.int .i64) 3 w' w.heap.size (fun k_=>no_ v2 k_∧no_ v7 k_∧no_ v26 k_∧no_ (.slice Ao1 t5.length co1) k_∧no_ (.slice Ao2 t35.length co2) k_∧no_ (.slice Ao4 t44.length co4) k_∧no_ (.slice Ao5 t48.length co5) k_∧no_ (.slice Ao7 xa.length co7) k_∧no_ (.slice Ao8 t58.length co8) k_) (.slice Ao3 t40.length co3) t40)∧Aside0 (Kd.R (Kd.int .i64) 3 w' w.heap.size (fun k_=>no_ v2 k_∧no_ v7 k_∧no_ v26 k_∧no_ (.slice Ao1 t5.length co1) k_∧no_ (.slice Ao2 t35.length co2) k_∧no_ (.slice Ao3 t40.length co3) k_∧no_ (.slice Ao5 t48.length co5) k_∧no_ (.slice Ao7 xa.length co7) k_∧no_ (.slice Ao8 t58.length co8) k_) (.slice Ao4 t44.length co4) t44)∧Aside0 (Kd.R (Kd.int .i64) 3 w' w.heap.size (fun k_=>no_ v2 k_∧no_ v7 k_∧no_ v26 k_∧no_ (.slice Ao1 t5.length co1) k_∧no_ (.slice Ao2 t35.length co2) k_∧no_ (.slice Ao3 t40.length co3) k_∧no_ (.slice Ao4 t44.length co4) k_∧no_ (.slice Ao7 xa.length co7) k_∧no_ (.slice Ao8 t58.length co8) k_) (.slice Ao5 t48.length co5) t48)∧Aside0 (Kd.R (Kd.int .i64) 3 w' w.heap.size (fun k_=>no_ v2 k_∧no_ v7 k_∧no_ v26 k_∧no_ (.slice Ao2 t35.length co2) k_∧no_ (.slice Ao3 t40.length co3) k_∧no_ (.slice Ao4 t44.length co4) k_∧no_ (.slice Ao5 t48.length co5) k_∧no_ (.slice Ao8 t58.length co8) k_) (.slice Ao7 xa.length co7) xa)∧Aside0 (Kd.R (Kd.int .i64) 3 w' w.heap.size (fun k_=>no_ v2 k_∧no_ v7 k_∧no_ v26 k_∧no_ (.slice Ao1 t5.length co1) k_∧no_ (.slice Ao2 t35.length co2) k_∧no_ (.slice Ao3 t40.length co3) k_∧no_ (.slice Ao4 t44.length co4) k_∧no_ (.slice Ao5 t48.length co5) k_∧no_ (.slice Ao7 xa.length co7) k_) (.slice Ao8 t58.length co8) t58)∧Aside0 (w'.heap[gb1]?=some (.cells #[.int .i64 t3,.bool t4,(.slice Ao1 t5.length co1)] 26 (0,0)))∧Aside0 (w'.heap[gb2]?=some (.cells #[.int .i64 t33,.bool t34,(.slice Ao2 t35.length co2)] 26 (0,0)))∧Aside0 (w'.heap[gb3]?=some (.cells #[.int .i64 t38,.bool t39,(.slice Ao3 t40.length co3)] 26 (0,0)))∧Aside0 (w'.heap[gb4]?=some (.cells #[.int .i64 t42,.bool t43,(.slice Ao4 t44.length co4)] 26 (0,0)))∧Aside0 (w'.heap[gb5]?=some (.cells #[.int .i64 t46,.bool t47,(.slice Ao5 t48.length co5)] 26 (0,0)))∧Aside0 (w'.heap[gb7]?=some (.cells #[.int .i64 xb,.bool xc,(.slice Ao7 xa.length co7)] 26 (0,0)))∧Aside0 (w'.heap[gb9]?=some (.cells #[.int .i64 t56,.bool t57,(.slice Ao8 t58.length co8)] 26 (0,0)))∧Aside0 (Below w.heap.size w w'))
  case atStart=>exact ⟨(y1),(0),aC,H',⟨Nat.le_refl _⟩,⟨eZ⟩,⟨e8⟩,⟨by (with_reducible repeat (first|apply ra_|apply rn_|apply rd_));exact Kd.R_mono HO14.out cf_⟩,⟨eJ⟩,⟨fc⟩,⟨fd⟩,⟨fe⟩,⟨fw⟩,⟨fV⟩,⟨lx⟩,⟨u1_ BK1⟩,⟨u1_ BK2⟩,⟨u1_ BK3⟩,⟨u1_ BK4⟩,⟨u1_ BK5⟩,⟨u1_ BK7⟩,⟨u1_ BK9⟩,⟨fH⟩⟩
  clear H'
  try clear c1
  try clear c3
  try clear c12
  try clear c12b0
  try clear c13
  (try clear hcz21);(try clear hcz22);(try clear hcz23);(try clear hfz21);(try clear hfz22);(try clear hfz23)
  obtain ⟨x62_13,x63_13,rfl,HA,HK2,HO_1,HO_3,HO_11,HO_2,HO_5,HO_6,HO_7,HO_8,HO_9,HO_10,BK1,BK2,BK3,BK4,BK5,BK7,BK9,HB⟩:=hrel
  cases gk with|zero=>exact absurd HA.out (by simp [laws_FnGame.l2])|succ k13=>?_
  as_aux_lemma =>
  have H:=HA.out;clear HA;simp only [laws_FnGame.l2] at H
  by_cases c14:x63_13<(t19.length:Int)
  case neg =>
   rw [if_neg c14] at H;have c14b0:decide (x63_13<(t19.length:Int))=false:=decide_eq_false c14;clear c14;have H':=A0_ H;clear H;obtain ⟨Ao9,co9,eo9⟩:=Kd.R_slice HO_3.out;subst eo9
   go_wp2
   go_loopg [68] k13 (fun kq v28 w'=>∃ (x68_14:Int),v28=.int .i64 x68_14∧Aside0 (laws_FnGame.l3 kq t11 x62_13 x68_14=some r)∧Aside0 (kq≤k13)∧Aside0 (Kd.R (Kd.int .i64) 3 w' w.heap.size (fun k_=>no_ (.slice Ao1 t5.length co1) k_∧no_ (.slice Ao2 t35.length co2) k_∧no_ (.slice Ao3 t40.length co3) k_∧no_ (.slice Ao4 t44.length co4) k_∧no_ (.slice Ao5 t48.length co5) k_∧no_ (.slice Ao7 xa.length co7) k_∧no_ (.slice Ao8 t58.length co8) k_) u62 x62_13)∧Aside0 (Kd.R (Kd.int .i64) 3 w' w.heap.size (fun k_=>no_ u62 k_∧no_ (.slice Ao2 t35.length co2) k_∧no_ (.slice Ao3 t40.length co3) k_∧no_ (.slice Ao4 t44.length co4) k_∧no_ (.slice Ao5 t48.length co5) k_∧no_ (.slice Ao8 t58.length co8) k_) (.slice Ao1 t5.length co1) t5)∧Aside0 (Kd.R (Kd.int .i64) 3 w' w.heap.size (fun k_=>no_ u62 k_∧no_ (.slice Ao1 t5.length co1) k_∧no_ (.slice Ao3 t40.length co3) k_∧no_ (.slice Ao4 t44.length co4) k_∧no_ (.slice Ao5 t48.length co5) k_∧no_ (.slice Ao7 xa.length co7) k_∧no_ (.slice Ao8 t58.length co8) k_) (.slice Ao2 t35.length co2) t35)∧Aside0 (Kd.R (Kd.int .i64) 3 w' w.heap.size (fun k_=>no_ u62 k_∧no_ (.slice Ao1 t5.length co1) k_∧no_ (.slice Ao2 t35.length co2) k_∧no_ (.slice Ao4 t44.length co4) k_∧no_ (.slice Ao5 t48.length co5) k_∧no_ (.slice Ao7 xa.length co7) k_∧no_ (.slice Ao8 t58.length co8) k_) (.slice Ao3 t40.length co3) t40)∧Aside0 (Kd.R (Kd.int .i64) 3 w' w.heap.size (fun k_=>no_ u62 k_∧no_ (.slice Ao1 t5.length co1) k_∧no_ (.slice Ao2 t35.length co2) k_∧no_ (.slice Ao3 t40.length co3) k_∧no_ (.slice Ao5 t48.length co5) k_∧no_ (.slice Ao7 xa.length co7) k_∧no_ (.slice Ao8 t58.length co8) k_) (.slice Ao4 t44.length co4) t44)∧Aside0 (Kd.R (Kd.int .i64) 3 w' w.heap.size (fun k_=>no_ u62 k_∧no_ (.slice Ao1 t5.length co1) k_∧no_ (.slice Ao2 t35.length co2) k_∧no_ (.slice Ao3 t40.length co3) k_∧no_ (.slice Ao4 t44.length co4) k_∧no_ (.slice Ao7 xa.length co7) k_∧no_ (.slice Ao8 t58.length co8) k_) (.slice Ao5 t48.length co5) t48)∧Aside0 (Kd.R (Kd.int .i64) 3 w' w.heap.size (fun k_=>no_ u62 k_∧no_ (.slice Ao2 t35.length co2) k_∧no_ (.slice Ao3 t40.length co3) k_∧no_ (.slice Ao4 t44.length co4) k_∧no_ (.slice Ao5 t48.length co5) k_∧no_ (.slice Ao8 t58.length co8) k_) (.slice Ao7 xa.length co7) xa)∧Aside0 (Kd.R (Kd.int .i64) 3 w' w.heap.size (fun k_=>no_ u62 k_∧no_ (.slice Ao1 t5.length co1) k_∧no_ (.slice Ao2 t35.length co2) k_∧no_ (.slice Ao3 t40.length co3) k_∧no_ (.slice Ao4 t44.length co4) k_∧no_ (.slice Ao5 t48.length co5) k_∧no_ (.slice Ao7 xa.length co7) k_) (.slice Ao8 t58.length co8) t58)∧Aside0 (w'.heap[gb1]?=some (.cells #[.int .i64 t3,.bool t4,(.slice Ao1 t5.length co1)] 26 (0,0)))∧Aside0 (w'.heap[gb2]?=some (.cells #[.int .i64 t33,.bool t34,(.slice Ao2 t35.length co2)] 26 (0,0)))∧Aside0 (w'.heap[gb3]?=some (.cells #[.int .i64 t38,.bool t39,(.slice Ao3 t40.length co3)] 26 (0,0)))∧Aside0 (w'.heap[gb4]?=some (.cells #[.int .i64 t42,.bool t43,(.slice Ao4 t44.length co4)] 26 (0,0)))∧Aside0 (w'.heap[gb5]?=some (.cells #[.int .i64 t46,.bool t47,(.slice Ao5 t48.length co5)] 26 (0,0)))∧Aside0 (w'.heap[gb7]?=some (.cells #[.int .i64 xb,.bool xc,(.slice Ao7 xa.length co7)] 26 (0,0)))∧Aside0 (w'.heap[gb9]?=some (.cells #[.int .i64 t56,.bool t57,(.slice Ao8 t58.length co8)] 26 (0,0)))∧Aside0 (Below w.heap.size w w'))
   case atStart=>exact ⟨(0),aC,H',⟨Nat.le_refl _⟩,⟨nJ⟩,⟨eJ⟩,⟨fc⟩,⟨fd⟩,⟨fe⟩,⟨fw⟩,⟨fV⟩,⟨lx⟩,⟨u1_ BK1⟩,⟨u1_ BK2⟩,⟨u1_ BK3⟩,⟨u1_ BK4⟩,⟨u1_ BK5⟩,⟨u1_ BK7⟩,⟨u1_ BK9⟩,⟨fH⟩⟩
   clear H'
   try clear c1
   try clear c4
   try clear c14
   try clear c14b0
   obtain ⟨x68_14,rfl,HA,HK3,HO_11,HO_2,HO_5,HO_6,HO_7,HO_8,HO_9,HO_10,BK1,BK2,BK3,BK4,BK5,BK7,BK9,HB⟩:=hrel
   cases gk with|zero=>exact absurd HA.out (by simp [laws_FnGame.l3])|succ k14=>?_
   as_aux_lemma =>
   have H:=HA.out;clear HA;simp only [laws_FnGame.l3] at H;obtain ⟨t62,A46,H⟩:=o1_ H
   by_cases c15:t62=true
   case neg =>
    obtain rfl:=bf_.mpr c15;rw [if_neg ft_] at H;obtain rfl:=si_ H;obtain ⟨Ao10,co10,eo10⟩:=Kd.R_slice HO_11.out;subst eo10
    go_wp2_with (first|((with_reducible refine gc_ (f:=33) rfl ?_);refine gl_ 469 Tryd.func33 #[.slice Ao10 x62_13.length co10,.int .i64 x68_14] ?_;(with_reducible refine (b7.calls k14 _ _ x62_13 x68_14 false _ ?_ ?_ A46.out).mono ?_);exact rp;exact (rr_ HO_11.out).2.1;rintro e w' ⟨rfl,⟨nd,rfl⟩⟩;refine ⟨_,rfl,?_⟩))
    go_ret
    exact ⟨bc,fH⟩
   subst c15;rw [if_pos rfl] at H;have H':=A0_ H;clear H;obtain ⟨Ao10,co10,eo10⟩:=Kd.R_slice HO_11.out;subst eo10
   go_wp2_with (first|((with_reducible refine gc_ (f:=33) rfl ?_);refine gl_ 469 Tryd.func33 #[.slice Ao10 x62_13.length co10,.int .i64 x68_14] ?_;(with_reducible refine (b7.calls k14 _ _ x62_13 x68_14 true _ ?_ ?_ A46.out).mono ?_);exact rp;exact (rr_ HO_11.out).2.1;rintro e w' ⟨rfl,⟨nd,rfl⟩⟩;refine ⟨_,rfl,?_⟩))
   go_roundg k14
   case measure=>have:=HJ1.out;have:=HJ2.out;have:=HJ3.out;have:=HJ4.out;have:=HJ5.out;have:=HJ6.out;have:=HJ7.out;have:=HJ8.out;have:=HJ9.out;have:=HJ10.out;have:=HK1.out;have:=HJ11.out;have:=HK2.out;have:=HK3.out;omega
   exact ⟨(wrap64 (x68_14+1)),aC,H',⟨by have:=HJ1.out;have:=HJ2.out;have:=HJ3.out;have:=HJ4.out;have:=HJ5.out;have:=HJ6.out;have:=HJ7.out;have:=HJ8.out;have:=HJ9.out;have:=HJ10.out;have:=HK1.out;have:=HJ11.out;have:=HK2.out;have:=HK3.out;omega⟩,⟨mB⟩,⟨bW⟩,⟨dP⟩,⟨dQ⟩,⟨dR⟩,⟨d6⟩,⟨eu⟩,⟨jG⟩,⟨u1_ BK1⟩,⟨u1_ BK2⟩,⟨u1_ BK3⟩,⟨u1_ BK4⟩,⟨u1_ BK5⟩,⟨u1_ BK7⟩,⟨u1_ BK9⟩,⟨fH⟩⟩
  rw [if_pos c14] at H;have c14b0:decide (x63_13<(t19.length:Int))=true:=dt_ c14;clear c14;obtain ⟨c15b0,H⟩:=i1_ H;obtain ⟨⟨t62,t63,t64,t65⟩,A46,H⟩:=o1_ H;obtain ⟨⟨t66,t67⟩,A48,H⟩:=o1_ H
  by_cases c16:t65=true
  case neg =>
   obtain rfl:=bf_.mpr c16
   have H1:(none)=some r:=by rw [if_neg ft_] at H;exact H
   exact absurd H1 bx
  subst c16;rw [if_pos rfl] at H
  by_cases c17:t67=true
  case neg =>
   obtain rfl:=bf_.mpr c17
   have H1:(none)=some r:=by rw [if_neg ft_] at H;exact H
   exact absurd H1 bx
  subst c17;rw [if_pos rfl] at H;obtain ⟨t68,A50,H⟩:=o1_ H
  by_cases c18:(t68 != (t66 == 0))=true
  ·rw [if_pos c18] at H
   exact absurd H bx
  rw [if_neg c18] at H
  have c18b0:(t68 != (t66 == 0))=false:=by simpa using c18
  (try (have c18b1:decide (t68=(t66 == 0))=true:=by simpa using c18))
  (try (have c18b2:(t68 == (t66 == 0))=true:=by simpa using c18))
  clear c18;obtain ⟨c19,H⟩:=is_ H;have LMc1:=A0_ c19;clear c19;obtain ⟨y2,hy2⟩:∃ y_:List Int,y_=(x62_13++[t66]):=⟨_,rfl⟩;replace H:(laws_FnGame.l2 k13 t6 t7 t11 t19 y2 (wrap64 (x63_13+1)) t3 t4 t5)=some r:=dO;have Ny2:=A0_ hy2;clear hy2;have H':=A0_ H;clear H;obtain ⟨Ao9,co9,eo9⟩:=Kd.R_slice HO_3.out;subst eo9
  try go_wp2
  replace HO_1:=A0_ (rd_ HO_1.out);replace HO_3:=A0_ (rd_ HO_3.out);replace HO_11:=A0_ (rd_ HO_11.out);replace HO_2:=A0_ (rd_ HO_2.out);replace HO_5:=A0_ (rd_ HO_5.out);replace HO_6:=A0_ (rd_ HO_6.out);replace HO_7:=A0_ (rd_ HO_7.out);replace HO_8:=A0_ (rd_ HO_8.out);replace HO_9:=A0_ (rd_ HO_9.out);replace HO_10:=A0_ (rd_ HO_10.out);replace BK1:=A0_ (kd_ BK1.out);replace BK2:=A0_ (kd_ BK2.out);replace BK3:=A0_ (kd_ BK3.out);replace BK4:=A0_ (kd_ BK4.out);replace BK5:=A0_ (kd_ BK5.out);replace BK7:=A0_ (kd_ BK7.out);replace BK9:=A0_ (kd_ BK9.out);replace HB:=A0_ (bd_ HB.out);have p1:0≤(x63_13:Int):=od_ aE;have q1:x63_13<(t19.length:Int):=od_ aE;obtain ⟨ad1,e1,hx1_0⟩:=Kd.at_int (rr_ HO_3.out).2.2 x63_13 p1 q1;cases e1;replace p1:=eq_true p1;replace q1:=eq_true q1
  refine dh (n:=13) (S:=fun w'=>w'.cell? ⟨gb1,0,none⟩=some (.int .i64 t3)∧w'.cell? ⟨gb1,1,none⟩=some (.bool t4)∧w'.cell? ⟨gb1,2,none⟩=some (.slice Ao1 t5.length co1)∧w'.cell? (ad1.add (x63_13).toNat)=some (.int .i64 (rd t19 x63_13))) (ds:=[]) #[false,false,false,false,false,false,false,false,false,false,false,false,false] bS rfl rfl (a3_ BK1 hx1_0) (fun hHeld=>?_);refine dc laws_FnGame.tab74 laws_FnGame.bits74 (fun HT_ HW_=>?_)
  generalize wr.drew=w31 at HO_1 HO_3 HO_11 HO_2 HO_5 HO_6 HO_7 HO_8 HO_9 HO_10 BK1 BK2 BK3 BK4 BK5 BK7 BK9 HB hx1_0 hHeld ⊢
  refine pu_ 1 432 ?_
  refine pu_ 2 433 ?_
  refine pu_ 3 434 ?_
  refine pu_ 4 435 ?_
  refine tk_ 0 431 hHeld ?_
  refine tk_ 5 436 hHeld ?_
  refine lq (σ:=Value × Nat) 2 #[true,true,true,true,true,true,true,true,true,true,true,false,false] (fun s_=>[(437,.tuple #[.agg #[.int .i64 t62,.bool t63,s_.1],.bool true]),(64,.pointer (some ⟨s_.2,0,none⟩)),(430,.tuple #[.agg #[.int .i64 t62,.bool t63,s_.1],.bool true]),(438,.agg #[.int .i64 t62,.bool t63,s_.1]),(439,.bool true)]) (fun s_ w'=>(w'.cell? ⟨gb1,0,none⟩=some (.int .i64 t3)∧w'.cell? ⟨gb1,1,none⟩=some (.bool t4)∧w'.cell? ⟨gb1,2,none⟩=some (.slice Ao1 t5.length co1)∧w'.cell? (ad1.add (x63_13).toNat)=some (.int .i64 (rd t19 x63_13)))∧(Kd.R (Kd.int .i64) 3 w' w.heap.size (fun k_=>no_ (.slice (some ad1) t19.length co9) k_∧no_ v2 k_∧no_ u62 k_∧no_ (.slice Ao1 t5.length co1) k_∧no_ (.slice Ao2 t35.length co2) k_∧no_ (.slice Ao3 t40.length co3) k_∧no_ (.slice Ao4 t44.length co4) k_∧no_ (.slice Ao5 t48.length co5) k_∧no_ (.slice Ao7 xa.length co7) k_∧no_ (.slice Ao8 t58.length co8) k_) s_.1 t64)∧(Kd.R (Kd.int .i64) 3 w' w.heap.size (fun k_=>some k_≠(s_.1:Value).ownBlock∧no_ v2 k_∧no_ u62 k_∧no_ (.slice Ao1 t5.length co1) k_∧no_ (.slice Ao2 t35.length co2) k_∧no_ (.slice Ao3 t40.length co3) k_∧no_ (.slice Ao4 t44.length co4) k_∧no_ (.slice Ao5 t48.length co5) k_∧no_ (.slice Ao7 xa.length co7) k_∧no_ (.slice Ao8 t58.length co8) k_) (.slice (some ad1) t19.length co9) t19)∧(Kd.R (Kd.int .i64) 3 w' w.heap.size (fun k_=>some k_≠(s_.1:Value).ownBlock∧no_ (.slice (some ad1) t19.length co9) k_∧no_ u62 k_∧no_ (.slice Ao1 t5.length co1) k_∧no_ (.slice Ao2 t35.length co2) k_∧no_ (.slice Ao3 t40.length co3) k_∧no_ (.slice Ao4 t44.length co4) k_∧no_ (.slice Ao5 t48.length co5) k_∧no_ (.slice Ao7 xa.length co7) k_∧no_ (.slice Ao8 t58.length co8) k_) v2 t7)∧(Kd.R (Kd.int .i64) 3 w' w.heap.size (fun k_=>some k_≠(s_.1:Value).ownBlock∧no_ (.slice (some ad1) t19.length co9) k_∧no_ v2 k_∧no_ (.slice Ao1 t5.length co1) k_∧no_ (.slice Ao2 t35.length co2) k_∧no_ (.slice Ao3 t40.length co3) k_∧no_ (.slice Ao4 t44.length co4) k_∧no_ (.slice Ao5 t48.length co5) k_∧no_ (.slice Ao7 xa.length co7) k_∧no_ (.slice Ao8 t58.length co8) k_) u62 x62_13)∧(Kd.R (Kd.int .i64) 3 w' w.heap.size (fun k_=>some k_≠(s_.1:Value).ownBlock∧no_ (.slice (some ad1) t19.length co9) k_∧no_ v2 k_∧no_ u62 k_∧no_ (.slice Ao2 t35.length co2) k_∧no_ (.slice Ao3 t40.length co3) k_∧no_ (.slice Ao4 t44.length co4) k_∧no_ (.slice Ao5 t48.length co5) k_∧no_ (.slice Ao8 t58.length co8) k_) (.slice Ao1 t5.length co1) t5)∧(Kd.R (Kd.int .i64) 3 w' w.heap.size (fun k_=>some k_≠(s_.1:Value).ownBlock∧no_ (.slice (some ad1) t19.length co9) k_∧no_ v2 k_∧no_ u62 k_∧no_ (.slice Ao1 t5.length co1) k_∧no_ (.slice Ao3 t40.length co3) k_∧no_ (.slice Ao4 t44.length co4) k_∧no_ (.slice Ao5 t48.length co5) k_∧no_ (.slice Ao7 xa.length co7) k_∧no_ (.slice Ao8 t58.length co8) k_) (.slice Ao2 t35.length co2) t35)∧(Kd.R (Kd.int .i64) 3 w' w.heap.size (fun k_=>some k_≠(s_.1:Value).ownBlock∧no_ (.slice (some ad1) t19.length co9) k_∧no_ v2 k_∧no_ u62 k_∧no_ (.slice Ao1 t5.length co1) k_∧no_ (.slice Ao2 t35.length co2) k_∧no_ (.slice Ao4 t44.length co4) k_∧no_ (.slice Ao5 t48.length co5) k_∧no_ (.slice Ao7 xa.length co7) k_∧no_ (.slice Ao8 t58.length co8) k_) (.slice Ao3 t40.length co3) t40)∧(Kd.R (Kd.int .i64) 3 w' w.heap.size (fun k_=>some k_≠(s_.1:Value).ownBlock∧no_ (.slice (some ad1) t19.length co9) k_∧no_ v2 k_∧no_ u62 k_∧no_ (.slice Ao1 t5.length co1) k_∧no_ (.slice Ao2 t35.length co2) k_∧no_ (.slice Ao3 t40.length co3) k_∧no_ (.slice Ao5 t48.length co5) k_∧no_ (.slice Ao7 xa.length co7) k_∧no_ (.slice Ao8 t58.length co8) k_) (.slice Ao4 t44.length co4) t44)∧(Kd.R (Kd.int .i64) 3 w' w.heap.size (fun k_=>some k_≠(s_.1:Value).ownBlock∧no_ (.slice (some ad1) t19.length co9) k_∧no_ v2 k_∧no_ u62 k_∧no_ (.slice Ao1 t5.length co1) k_∧no_ (.slice Ao2 t35.length co2) k_∧no_ (.slice Ao3 t40.length co3) k_∧no_ (.slice Ao4 t44.length co4) k_∧no_ (.slice Ao7 xa.length co7) k_∧no_ (.slice Ao8 t58.length co8) k_) (.slice Ao5 t48.length co5) t48)∧(Kd.R (Kd.int .i64) 3 w' w.heap.size (fun k_=>some k_≠(s_.1:Value).ownBlock∧no_ (.slice (some ad1) t19.length co9) k_∧no_ v2 k_∧no_ u62 k_∧no_ (.slice Ao2 t35.length co2) k_∧no_ (.slice Ao3 t40.length co3) k_∧no_ (.slice Ao4 t44.length co4) k_∧no_ (.slice Ao5 t48.length co5) k_∧no_ (.slice Ao8 t58.length co8) k_) (.slice Ao7 xa.length co7) xa)∧(Kd.R (Kd.int .i64) 3 w' w.heap.size (fun k_=>some k_≠(s_.1:Value).ownBlock∧no_ (.slice (some ad1) t19.length co9) k_∧no_ v2 k_∧no_ u62 k_∧no_ (.slice Ao1 t5.length co1) k_∧no_ (.slice Ao2 t35.length co2) k_∧no_ (.slice Ao3 t40.length co3) k_∧no_ (.slice Ao4 t44.length co4) k_∧no_ (.slice Ao5 t48.length co5) k_∧no_ (.slice Ao7 xa.length co7) k_) (.slice Ao8 t58.length co8) t58)∧(w'.heap[gb1]?=some (.cells #[.int .i64 t3,.bool t4,.slice Ao1 t5.length co1] 26 (0,0)))∧(w'.heap[gb2]?=some (.cells #[.int .i64 t33,.bool t34,.slice Ao2 t35.length co2] 26 (0,0)))∧(w'.heap[gb3]?=some (.cells #[.int .i64 t38,.bool t39,.slice Ao3 t40.length co3] 26 (0,0)))∧(w'.heap[gb4]?=some (.cells #[.int .i64 t42,.bool t43,.slice Ao4 t44.length co4] 26 (0,0)))∧(w'.heap[gb5]?=some (.cells #[.int .i64 t46,.bool t47,.slice Ao5 t48.length co5] 26 (0,0)))∧(w'.heap[gb7]?=some (.cells #[.int .i64 xb,.bool xc,.slice Ao7 xa.length co7] 26 (0,0)))∧(w'.heap[gb9]?=some (.cells #[.int .i64 t56,.bool t57,.slice Ao8 t58.length co8] 26 (0,0)))∧(w'.heap[s_.2]?=some (.cells #[.int .i64 0,.bool false,.slice none 0 0] 26 (0,0)))∧(w.heap.size≤s_.2)∧(w.heap.size≤s_.2)∧(gb1≠s_.2)∧(s_.2≠gb1)∧(gb2≠s_.2)∧(s_.2≠gb2)∧(gb3≠s_.2)∧(s_.2≠gb3)∧(gb4≠s_.2)∧(s_.2≠gb4)∧(gb5≠s_.2)∧(s_.2≠gb5)∧(gb7≠s_.2)∧(s_.2≠gb7)∧(gb9≠s_.2)∧(s_.2≠gb9)∧(Below w.heap.size w w')) ?_ ?_
  rotate_left
  ·intro hCont
   refine ml (i:=6) (j:=10) (Ni:=some 437) (Nj:=some 64) #[true,true,true,true,true,true,true,false,false,false,false,false,false] #[true,true,true,true,true,true,false,false,false,false,true,false,false] rfl rfl rfl rfl (gS HT_.out bS) ao ao (fun K hK=>?_) (fun K hK=>?_)
   ·refine gs_ Tryd.func8 #[.agg #[.int .i64 t3,.bool t4,.slice Ao1 t5.length co1],.int .i64 t6,.int .i64 (rd t19 x63_13)] ?_
    with_reducible refine (aU.calls k13 t3 t4 _ _ t5 t6 (rd t19 x63_13) t62 t63 t64 true _ ?_ ?_ iv A46.out).mono ?_
    exact e7
    exact (rr_ HO_2.out).2.1
    rintro e w32 ⟨v28,rfl,ho0,hb⟩;have HS3_:=(hb.cell (World.block_lt_of_cell? _ _ (hHeld.2.2.2))).trans (hHeld.2.2.2)
    refine ⟨_,rfl,?_⟩
    have HO15:=A0_ (Kd.R_lower (Kd.R_new' (Kd.R_new' (Kd.R_new' (Kd.R_new' (Kd.R_new' (Kd.R_new' (Kd.R_new' (Kd.R_new' (Kd.R_new' (Kd.R_new' ho0 (Kd.R_lt aD)) (Kd.R_lt di)) (Kd.R_lt mB)) (Kd.R_lt bW)) (Kd.R_lt dP)) (Kd.R_lt dQ)) (Kd.R_lt dR)) (Kd.R_lt d6)) (Kd.R_lt eu)) (Kd.R_lt jG)) (bz_ fH));replace HO_1:=A0_ (Kd.R_elder' aD (Kd.R_base ho0) hb);replace HO_3:=A0_ (Kd.R_elder' di (Kd.R_base ho0) hb);replace HO_11:=A0_ (Kd.R_elder' mB (Kd.R_base ho0) hb);replace HO_2:=A0_ (Kd.R_elder' bW (Kd.R_base ho0) hb);replace HO_5:=A0_ (Kd.R_elder' dP (Kd.R_base ho0) hb);replace HO_6:=A0_ (Kd.R_elder' dQ (Kd.R_base ho0) hb);replace HO_7:=A0_ (Kd.R_elder' dR (Kd.R_base ho0) hb);replace HO_8:=A0_ (Kd.R_elder' d6 (Kd.R_base ho0) hb);replace HO_9:=A0_ (Kd.R_elder' eu (Kd.R_base ho0) hb);replace HO_10:=A0_ (Kd.R_elder' jG (Kd.R_base ho0) hb);replace BK1:=k1_ BK1 hb;replace BK2:=k1_ BK2 hb;replace BK3:=k1_ BK3 hb;replace BK4:=k1_ BK4 hb;replace BK5:=k1_ BK5 hb;replace BK7:=k1_ BK7 hb;replace BK9:=k1_ BK9 hb;replace HB:=hb_ hb fH
    (try clear hb ho0)
    refine hK.out _ _ (a3_ BK1 HS3_) (fun hHeld=>?_)
    clear hK K
    refine nm_ 437 ?_
    refine pu_ 7 430 ?_
    refine pu_ 8 438 ?_
    refine pu_ 9 439 ?_
    refine on_ 10 (some 64) (fun K hK=>?_)
    refine bp_ 64 #[.int .i64 0,.bool false,.slice none 0 0] 26 ?_
    intro gb10 hg w33 hbox hb;have HS3_:=(hb.cell (World.block_lt_of_cell? _ _ (hHeld.2.2.2))).trans (hHeld.2.2.2);replace HO_1:=q1_ HO_1 hb;replace HO_3:=q1_ HO_3 hb;replace HO_11:=q1_ HO_11 hb;replace HO_2:=q1_ HO_2 hb;replace HO_5:=q1_ HO_5 hb;replace HO_6:=q1_ HO_6 hb;replace HO_7:=q1_ HO_7 hb;replace HO_8:=q1_ HO_8 hb;replace HO_9:=q1_ HO_9 hb;replace HO_10:=q1_ HO_10 hb;replace HO15:=q1_ HO15 hb;have BK10:=A0_ (hbox);have GW10:=ge_ hg fH;have GE10:=ge_ hg fH;replace HB:=hb_ hb fH;obtain ⟨NB1_10,NB10_1⟩:=nn_ hg BK1;replace BK1:=k1_ BK1 hb;obtain ⟨NB2_10,NB10_2⟩:=nn_ hg BK2;replace BK2:=k1_ BK2 hb;obtain ⟨NB3_10,NB10_3⟩:=nn_ hg BK3;replace BK3:=k1_ BK3 hb;obtain ⟨NB4_10,NB10_4⟩:=nn_ hg BK4;replace BK4:=k1_ BK4 hb;obtain ⟨NB5_10,NB10_5⟩:=nn_ hg BK5;replace BK5:=k1_ BK5 hb;obtain ⟨NB7_10,NB10_7⟩:=nn_ hg BK7;replace BK7:=k1_ BK7 hb;obtain ⟨NB9_10,NB10_9⟩:=nn_ hg BK9;replace BK9:=k1_ BK9 hb;clear hb hbox hg
    refine hK.out _ _ (a3_ BK1 HS3_) (fun hHeld=>?_)
    clear hK K
    refine nm_ 64 ?_
    exact fD gh (hCont (v28,gb10) _ ⟨hHeld,o5,e8,eZ,nJ,eJ,fc,fd,fe,fw,fV,lx,(u1_ BK1),(u1_ BK2),(u1_ BK3),(u1_ BK4),(u1_ BK5),(u1_ BK7),(u1_ BK9),(u1_ BK10),GW10.out,GE10.out,NB1_10.out,NB10_1.out,NB2_10.out,NB10_2.out,NB3_10.out,NB10_3.out,NB4_10.out,NB10_4.out,NB5_10.out,NB10_5.out,NB7_10.out,NB10_7.out,NB9_10.out,NB10_9.out,jH⟩)
   refine bp_ 64 #[.int .i64 0,.bool false,.slice none 0 0] 26 ?_
   intro gb10 hg w32 hbox hb;have HS3_:=(hb.cell (World.block_lt_of_cell? _ _ (hHeld.2.2.2))).trans (hHeld.2.2.2);replace HO_1:=q1_ HO_1 hb;replace HO_3:=q1_ HO_3 hb;replace HO_11:=q1_ HO_11 hb;replace HO_2:=q1_ HO_2 hb;replace HO_5:=q1_ HO_5 hb;replace HO_6:=q1_ HO_6 hb;replace HO_7:=q1_ HO_7 hb;replace HO_8:=q1_ HO_8 hb;replace HO_9:=q1_ HO_9 hb;replace HO_10:=q1_ HO_10 hb;have BK10:=A0_ (hbox);have GW10:=ge_ hg fH;have GE10:=ge_ hg fH;replace HB:=hb_ hb fH;obtain ⟨NB1_10,NB10_1⟩:=nn_ hg BK1;replace BK1:=k1_ BK1 hb;obtain ⟨NB2_10,NB10_2⟩:=nn_ hg BK2;replace BK2:=k1_ BK2 hb;obtain ⟨NB3_10,NB10_3⟩:=nn_ hg BK3;replace BK3:=k1_ BK3 hb;obtain ⟨NB4_10,NB10_4⟩:=nn_ hg BK4;replace BK4:=k1_ BK4 hb;obtain ⟨NB5_10,NB10_5⟩:=nn_ hg BK5;replace BK5:=k1_ BK5 hb;obtain ⟨NB7_10,NB10_7⟩:=nn_ hg BK7;replace BK7:=k1_ BK7 hb;obtain ⟨NB9_10,NB10_9⟩:=nn_ hg BK9;replace BK9:=k1_ BK9 hb;clear hb hbox hg
   refine hK.out _ _ (a3_ BK1 HS3_) (fun hHeld=>?_)
   clear hK K
   refine nm_ 64 ?_
   refine on_ 6 (some 437) (fun K hK=>?_)
   refine gs_ Tryd.func8 #[.agg #[.int .i64 t3,.bool t4,.slice Ao1 t5.length co1],.int .i64 t6,.int .i64 (rd t19 x63_13)] ?_
   with_reducible refine (aU.calls k13 t3 t4 _ _ t5 t6 (rd t19 x63_13) t62 t63 t64 true _ ?_ ?_ iv A46.out).mono ?_
   exact e7
   exact (rr_ HO_2.out).2.1
   rintro e w33 ⟨v28,rfl,ho0,hb⟩;have HS3_:=(hb.cell (World.block_lt_of_cell? _ _ (hHeld.2.2.2))).trans (hHeld.2.2.2)
   refine ⟨_,rfl,?_⟩
   have HO15:=A0_ (Kd.R_lower (Kd.R_new' (Kd.R_new' (Kd.R_new' (Kd.R_new' (Kd.R_new' (Kd.R_new' (Kd.R_new' (Kd.R_new' (Kd.R_new' (Kd.R_new' ho0 (Kd.R_lt aD)) (Kd.R_lt di)) (Kd.R_lt mB)) (Kd.R_lt bW)) (Kd.R_lt dP)) (Kd.R_lt dQ)) (Kd.R_lt dR)) (Kd.R_lt d6)) (Kd.R_lt eu)) (Kd.R_lt jG)) (bz_ jH));replace HO_1:=A0_ (Kd.R_elder' aD (Kd.R_base ho0) hb);replace HO_3:=A0_ (Kd.R_elder' di (Kd.R_base ho0) hb);replace HO_11:=A0_ (Kd.R_elder' mB (Kd.R_base ho0) hb);replace HO_2:=A0_ (Kd.R_elder' bW (Kd.R_base ho0) hb);replace HO_5:=A0_ (Kd.R_elder' dP (Kd.R_base ho0) hb);replace HO_6:=A0_ (Kd.R_elder' dQ (Kd.R_base ho0) hb);replace HO_7:=A0_ (Kd.R_elder' dR (Kd.R_base ho0) hb);replace HO_8:=A0_ (Kd.R_elder' d6 (Kd.R_base ho0) hb);replace HO_9:=A0_ (Kd.R_elder' eu (Kd.R_base ho0) hb);replace HO_10:=A0_ (Kd.R_elder' jG (Kd.R_base ho0) hb);replace BK1:=k1_ BK1 hb;replace BK2:=k1_ BK2 hb;replace BK3:=k1_ BK3 hb;replace BK4:=k1_ BK4 hb;replace BK5:=k1_ BK5 hb;replace BK7:=k1_ BK7 hb;replace BK9:=k1_ BK9 hb;replace BK10:=k1_ BK10 hb;replace HB:=hb_ hb jH
   (try clear hb ho0)
   refine hK.out _ _ (a3_ BK1 HS3_) (fun hHeld=>?_)
   clear hK K
   refine nm_ 437 ?_
   refine pu_ 7 430 ?_
   refine pu_ 8 438 ?_
   refine pu_ 9 439 ?_
   exact fD gh (hCont (v28,gb10) _ ⟨hHeld,o5,e8,eZ,nJ,eJ,fc,fd,fe,fw,fV,lx,(u1_ BK1),(u1_ BK2),(u1_ BK3),(u1_ BK4),(u1_ BK5),(u1_ BK7),(u1_ BK9),(u1_ BK10),GW10.out,GE10.out,NB1_10.out,NB10_1.out,NB2_10.out,NB10_2.out,NB3_10.out,NB10_3.out,NB4_10.out,NB10_4.out,NB5_10.out,NB10_5.out,NB7_10.out,NB10_7.out,NB9_10.out,NB10_9.out,jH⟩)
  rintro ⟨v28,gb10⟩ w32 ⟨hS_,h0_,h1_,h2_,h3_,h4_,h5_,h6_,h7_,h8_,h9_,h10_,h11_,h12_,h13_,h14_,h15_,h16_,h17_,h18_,h19_,h20_,h21_,h22_,h23_,h24_,h25_,h26_,h27_,h28_,h29_,h30_,h31_,h32_,h33_,h34_,h35_⟩
  try dsimp only at h0_ h1_ h2_ h3_ h4_ h5_ h6_ h7_ h8_ h9_ h10_ h11_ h12_ h13_ h14_ h15_ h16_ h17_ h18_ h19_ h20_ h21_ h22_ h23_ h24_ h25_ h26_ h27_ h28_ h29_ h30_ h31_ h32_ h33_ h34_ h35_
  have HO15:=A0_ h0_;replace HO_3:=A0_ h1_;replace HO_1:=A0_ h2_;replace HO_11:=A0_ h3_;replace HO_2:=A0_ h4_;replace HO_5:=A0_ h5_;replace HO_6:=A0_ h6_;replace HO_7:=A0_ h7_;replace HO_8:=A0_ h8_;replace HO_9:=A0_ h9_;replace HO_10:=A0_ h10_;replace BK1:=A0_ h11_;replace BK2:=A0_ h12_;replace BK3:=A0_ h13_;replace BK4:=A0_ h14_;replace BK5:=A0_ h15_;replace BK7:=A0_ h16_;replace BK9:=A0_ h17_;have BK10:=A0_ h18_;have GW10:=A0_ h19_;have GE10:=A0_ h20_;have NB1_10:=A0_ h21_;have NB10_1:=A0_ h22_;have NB2_10:=A0_ h23_;have NB10_2:=A0_ h24_;have NB3_10:=A0_ h25_;have NB10_3:=A0_ h26_;have NB4_10:=A0_ h27_;have NB10_4:=A0_ h28_;have NB5_10:=A0_ h29_;have NB10_5:=A0_ h30_;have NB7_10:=A0_ h31_;have NB10_7:=A0_ h32_;have NB9_10:=A0_ h33_;have NB10_9:=A0_ h34_;replace HB:=A0_ h35_;clear h0_ h1_ h2_ h3_ h4_ h5_ h6_ h7_ h8_ h9_ h10_ h11_ h12_ h13_ h14_ h15_ h16_ h17_ h18_ h19_ h20_ h21_ h22_ h23_ h24_ h25_ h26_ h27_ h28_ h29_ h30_ h31_ h32_ h33_ h34_ h35_;have hHeld:w32.cell? ⟨gb1,0,none⟩=some (.int .i64 t3)∧w32.cell? ⟨gb1,1,none⟩=some (.bool t4)∧w32.cell? ⟨gb1,2,none⟩=some (.slice Ao1 t5.length co1)∧w32.cell? (ad1.add (x63_13).toNat)=some (.int .i64 (rd t19 x63_13)):=hS_;obtain ⟨Ao10,co10,eo10⟩:=Kd.R_slice HO15.out
  (first|subst eo10|(injection eo10 with f1_ f2_ f3_;have f4_:=f1_.symm;have f5_:=f3_.symm;clear f1_ f2_ f3_;subst f4_;subst f5_))
  refine nq_ ?_
  refine on_ 11 none (fun K hK=>?_)
  have hs347:=y_ BK10 0;have hfs347:=kf_ BK10.out 0;have hns1_0:=NB1_10.out;have hns1_1:=NB2_10.out;have hns1_2:=NB3_10.out;have hns1_3:=NB4_10.out;have hns1_4:=NB5_10.out;have hns1_5:=NB7_10.out;have hns1_6:=NB9_10.out;have hms1_0:=NB10_1.out;have hms1_1:=NB10_2.out;have hms1_2:=NB10_3.out;have hms1_3:=NB10_4.out;have hms1_4:=NB10_5.out;have hms1_5:=NB10_7.out;have hms1_6:=NB10_9.out;have hs348:=y_ BK10 1;have hfs348:=kf_ BK10.out 1;have hns2_0:=NB1_10.out;have hns2_1:=NB2_10.out;have hns2_2:=NB3_10.out;have hns2_3:=NB4_10.out;have hns2_4:=NB5_10.out;have hns2_5:=NB7_10.out;have hns2_6:=NB9_10.out;have hms2_0:=NB10_1.out;have hms2_1:=NB10_2.out;have hms2_2:=NB10_3.out;have hms2_3:=NB10_4.out;have hms2_4:=NB10_5.out;have hms2_5:=NB10_7.out;have hms2_6:=NB10_9.out;have hs350:=y_ BK10 2;have hfs350:=kf_ BK10.out 2;have hns3_0:=NB1_10.out;have hns3_1:=NB2_10.out;have hns3_2:=NB3_10.out;have hns3_3:=NB4_10.out;have hns3_4:=NB5_10.out;have hns3_5:=NB7_10.out;have hns3_6:=NB9_10.out;have hms3_0:=NB10_1.out;have hms3_1:=NB10_2.out;have hms3_2:=NB10_3.out;have hms3_3:=NB10_4.out;have hms3_4:=NB10_5.out;have hms3_5:=NB10_7.out;have hms3_6:=NB10_9.out
  refine fF (w1:=?_) (by rfl) rfl ?_ ?_
  rotate_left
  ·go_simp
   rfl
  refine hK.out _ _ ⟨((av (p:=⟨gb10,_,none⟩) NB1_10.out _).trans (((av (p:=⟨gb10,_,none⟩) NB1_10.out _).trans (((av (p:=⟨gb10,_,none⟩) NB1_10.out _).trans (hHeld.1)))))),((av (p:=⟨gb10,_,none⟩) NB1_10.out _).trans (((av (p:=⟨gb10,_,none⟩) NB1_10.out _).trans (((av (p:=⟨gb10,_,none⟩) NB1_10.out _).trans (hHeld.2.1)))))),((av (p:=⟨gb10,_,none⟩) NB1_10.out _).trans (((av (p:=⟨gb10,_,none⟩) NB1_10.out _).trans (((av (p:=⟨gb10,_,none⟩) NB1_10.out _).trans (hHeld.2.2.1)))))),((av (p:=⟨gb10,_,none⟩) o6 _).trans (((av (p:=⟨gb10,_,none⟩) o6 _).trans (((av (p:=⟨gb10,_,none⟩) o6 _).trans (hHeld.2.2.2))))))⟩ (fun hHeld=>?_)
  clear hK K
  refine pu_ 12 65 ?_
  refine dn_ ?_
  obtain ⟨hnb35,hnc35⟩:=n2_ NB10_1;obtain ⟨hnb36,hnc36⟩:=n2_ NB10_2;obtain ⟨hnb37,hnc37⟩:=n2_ NB10_3;obtain ⟨hnb38,hnc38⟩:=n2_ NB10_4;obtain ⟨hnb39,hnc39⟩:=n2_ NB10_5;obtain ⟨hnb40,hnc40⟩:=n2_ NB10_7;obtain ⟨hnb41,hnc41⟩:=n2_ NB10_9;have hcz24:=z3_ BK10
  try go_wp2_with (first|((with_reducible refine gc_ (f:=17) rfl ?_);refine gl_ 443 Tryd.func17 #[.agg #[.int .i64 t62,.bool t63,.slice Ao10 t64.length co10],.int .i64 t6] ?_;(with_reducible refine (a9.calls k13 t62 t63 _ _ t64 t6 t66 true _ ?_ ?_ A48.out).mono ?_);(refine (rr_ (e:=3) (base:=w.heap.size) (ok:=fun k_=>(no_ (.slice (some ad1) t19.length co9) k_∧(no_ v2 k_∧(no_ u62 k_∧(no_ (.slice Ao1 t5.length co1) k_∧(no_ (.slice Ao2 t35.length co2) k_∧(no_ (.slice Ao3 t40.length co3) k_∧(no_ (.slice Ao4 t44.length co4) k_∧(no_ (.slice Ao5 t48.length co5) k_∧(no_ (.slice Ao7 xa.length co7) k_∧no_ (.slice Ao8 t58.length co8) k_)))))))))) (n:=t64.length) (c:=co10) ?_).2.2;exact rq);exact (rr_ HO15.out).2.1;rintro e w33 ⟨rfl,hb⟩;refine ⟨_,rfl,?_⟩;replace HO_1:=A0_ (Kd.R_below (by (with_reducible repeat (first|apply ra_|apply rn_|apply rd_));exact (Kd.R_mono (cf (Kd.R_types HO_1.out BK10.out ao)) (fun _ h_=>h_.1))) hb);replace HO_3:=A0_ (Kd.R_below (by (with_reducible repeat (first|apply ra_|apply rn_|apply rd_));exact (Kd.R_mono (cf (Kd.R_types HO_3.out BK10.out ao)) (fun _ h_=>h_.1))) hb);replace HO_11:=A0_ (Kd.R_below (by (with_reducible repeat (first|apply ra_|apply rn_|apply rd_));exact (Kd.R_mono (cf (Kd.R_types HO_11.out BK10.out ao)) (fun _ h_=>h_.1))) hb);replace HO_2:=A0_ (Kd.R_below (by (with_reducible repeat (first|apply ra_|apply rn_|apply rd_));exact (Kd.R_mono (cf (Kd.R_types HO_2.out BK10.out ao)) (fun _ h_=>h_.1))) hb);replace HO_5:=A0_ (Kd.R_below (by (with_reducible repeat (first|apply ra_|apply rn_|apply rd_));exact (Kd.R_mono (cf (Kd.R_types HO_5.out BK10.out ao)) (fun _ h_=>h_.1))) hb);replace HO_6:=A0_ (Kd.R_below (by (with_reducible repeat (first|apply ra_|apply rn_|apply rd_));exact (Kd.R_mono (cf (Kd.R_types HO_6.out BK10.out ao)) (fun _ h_=>h_.1))) hb);replace HO_7:=A0_ (Kd.R_below (by (with_reducible repeat (first|apply ra_|apply rn_|apply rd_));exact (Kd.R_mono (cf (Kd.R_types HO_7.out BK10.out ao)) (fun _ h_=>h_.1))) hb);replace HO_8:=A0_ (Kd.R_below (by (with_reducible repeat (first|apply ra_|apply rn_|apply rd_));exact (Kd.R_mono (cf (Kd.R_types HO_8.out BK10.out ao)) (fun _ h_=>h_.1))) hb);replace HO_9:=A0_ (Kd.R_below (by (with_reducible repeat (first|apply ra_|apply rn_|apply rd_));exact (Kd.R_mono (cf (Kd.R_types HO_9.out BK10.out ao)) (fun _ h_=>h_.1))) hb);replace HO_10:=A0_ (Kd.R_below (by (with_reducible repeat (first|apply ra_|apply rn_|apply rd_));exact (Kd.R_mono (cf (Kd.R_types HO_10.out BK10.out ao)) (fun _ h_=>h_.1))) hb);replace HO15:=A0_ (Kd.R_below rq hb);replace BK1:=k1_ BK1 hb;replace BK2:=k1_ BK2 hb;replace BK3:=k1_ BK3 hb;replace BK4:=k1_ BK4 hb;replace BK5:=k1_ BK5 hb;replace BK7:=k1_ BK7 hb;replace BK9:=k1_ BK9 hb;replace BK10:=k2_ (.cells #[.int .i64 t62,.bool t63,.slice Ao10 t64.length co10] 26 (0,0)) BK10 hb;replace HB:=hb_ hb jH;(try clear hb);have p2:0≤(x63_13:Int):=od_ aE;have q2:x63_13<(t19.length:Int):=od_ aE;obtain ⟨ad2,e2,hx2_0⟩:=Kd.at_int (rr_ HO_3.out).2.2 x63_13 p2 q2;obtain rfl:ad1=ad2:=e5;replace p2:=eq_true p2;replace q2:=eq_true q2;obtain ⟨Ao11,co11,eo11⟩:=Kd.R_slice HO_1.out;subst eo11)|(go_at_call 33;(with_reducible refine (b7.calls k13 _ _ t7 (rd t19 x63_13) t68 _ ?_ ?_ A50.out).mono ?_);exact mu;exact (rr_ HO_1.out).2.1;rintro e w' ⟨rfl,⟨nd,rfl⟩⟩)|((with_reducible refine bO (b:=.append) (xs:=#[.tmp 463,.tmp 465]) rfl ?_);(try (refine cL (by rfl) ?_;dsimp only));at_builtin;refine Kd.R_append (Kd.int .i64) (w0:=w) w.heap.size rfl (.tmp 463) (.tmp 465) 22 3 (.int .i64 0) 8 rfl Tryd.underlying22 cP rfl ao bL u62 x62_13 t66 [.int .i64 t66] (fun k_=>no_ (.slice Ao11 t7.length co11) k_∧no_ (.slice (some ad1) t19.length co9) k_∧no_ (.slice Ao1 t5.length co1) k_∧no_ (.slice Ao2 t35.length co2) k_∧no_ (.slice Ao3 t40.length co3) k_∧no_ (.slice Ao4 t44.length co4) k_∧no_ (.slice Ao5 t48.length co5) k_∧no_ (.slice Ao7 xa.length co7) k_∧no_ (.slice Ao8 t58.length co8) k_∧no_ (.slice Ao10 t64.length co10) k_) (fun _=>False) rfl rfl ?aP (fun _ hk=>hk.elim) ?aF ?aO ?aB ?aS ?aL ?_;(case aP=>exact rfl);(case aB=>exact jH);(case aF=>exact (fun k_ hk=>⟨Kd.fresh' (Kd.R_lt aD) k_ hk,Kd.fresh' (Kd.R_lt di) k_ hk,Kd.fresh' (Kd.R_lt bW) k_ hk,Kd.fresh' (Kd.R_lt dP) k_ hk,Kd.fresh' (Kd.R_lt dQ) k_ hk,Kd.fresh' (Kd.R_lt dR) k_ hk,Kd.fresh' (Kd.R_lt d6) k_ hk,Kd.fresh' (Kd.R_lt eu) k_ hk,Kd.fresh' (Kd.R_lt jG) k_ hk,Kd.fresh' (Kd.R_lt (by (with_reducible repeat (first|apply ra_|apply rn_|apply rd_));exact HO15.out)) k_ hk⟩));(case aO=>exact nJ);(case aS=>exact (bz_ jH));(case aL=>have:=LMc1.out;omega);intro v29 w34 ho hb hg hat;rw [← Ny2.out] at ho;have n0_:=A0_ (Kd.R_after (ok:=(fun k_=>no_ (.slice (some ad1) t19.length co9) k_∧no_ (.slice Ao1 t5.length co1) k_∧no_ (.slice Ao2 t35.length co2) k_∧no_ (.slice Ao3 t40.length co3) k_∧no_ (.slice Ao4 t44.length co4) k_∧no_ (.slice Ao5 t48.length co5) k_∧no_ (.slice Ao7 xa.length co7) k_∧no_ (.slice Ao8 t58.length co8) k_∧no_ (.slice Ao10 t64.length co10) k_)) eZ hg hat);have n1_:=A0_ (Kd.R_after (ok:=(fun k_=>no_ (.slice Ao11 t7.length co11) k_∧no_ (.slice Ao1 t5.length co1) k_∧no_ (.slice Ao2 t35.length co2) k_∧no_ (.slice Ao3 t40.length co3) k_∧no_ (.slice Ao4 t44.length co4) k_∧no_ (.slice Ao5 t48.length co5) k_∧no_ (.slice Ao7 xa.length co7) k_∧no_ (.slice Ao8 t58.length co8) k_∧no_ (.slice Ao10 t64.length co10) k_)) e8 hg hat);have n2_:=A0_ (Kd.R_after (ok:=(fun k_=>no_ (.slice Ao11 t7.length co11) k_∧no_ (.slice (some ad1) t19.length co9) k_∧no_ (.slice Ao2 t35.length co2) k_∧no_ (.slice Ao3 t40.length co3) k_∧no_ (.slice Ao4 t44.length co4) k_∧no_ (.slice Ao5 t48.length co5) k_∧no_ (.slice Ao8 t58.length co8) k_∧no_ (.slice Ao10 t64.length co10) k_)) eJ hg hat);have n3_:=A0_ (Kd.R_after (ok:=(fun k_=>no_ (.slice Ao11 t7.length co11) k_∧no_ (.slice (some ad1) t19.length co9) k_∧no_ (.slice Ao1 t5.length co1) k_∧no_ (.slice Ao3 t40.length co3) k_∧no_ (.slice Ao4 t44.length co4) k_∧no_ (.slice Ao5 t48.length co5) k_∧no_ (.slice Ao7 xa.length co7) k_∧no_ (.slice Ao8 t58.length co8) k_∧no_ (.slice Ao10 t64.length co10) k_)) fc hg hat);have n4_:=A0_ (Kd.R_after (ok:=(fun k_=>no_ (.slice Ao11 t7.length co11) k_∧no_ (.slice (some ad1) t19.length co9) k_∧no_ (.slice Ao1 t5.length co1) k_∧no_ (.slice Ao2 t35.length co2) k_∧no_ (.slice Ao4 t44.length co4) k_∧no_ (.slice Ao5 t48.length co5) k_∧no_ (.slice Ao7 xa.length co7) k_∧no_ (.slice Ao8 t58.length co8) k_∧no_ (.slice Ao10 t64.length co10) k_)) fd hg hat);have n5_:=A0_ (Kd.R_after (ok:=(fun k_=>no_ (.slice Ao11 t7.length co11) k_∧no_ (.slice (some ad1) t19.length co9) k_∧no_ (.slice Ao1 t5.length co1) k_∧no_ (.slice Ao2 t35.length co2) k_∧no_ (.slice Ao3 t40.length co3) k_∧no_ (.slice Ao5 t48.length co5) k_∧no_ (.slice Ao7 xa.length co7) k_∧no_ (.slice Ao8 t58.length co8) k_∧no_ (.slice Ao10 t64.length co10) k_)) fe hg hat);have n6_:=A0_ (Kd.R_after (ok:=(fun k_=>no_ (.slice Ao11 t7.length co11) k_∧no_ (.slice (some ad1) t19.length co9) k_∧no_ (.slice Ao1 t5.length co1) k_∧no_ (.slice Ao2 t35.length co2) k_∧no_ (.slice Ao3 t40.length co3) k_∧no_ (.slice Ao4 t44.length co4) k_∧no_ (.slice Ao7 xa.length co7) k_∧no_ (.slice Ao8 t58.length co8) k_∧no_ (.slice Ao10 t64.length co10) k_)) fw hg hat);have n7_:=A0_ (Kd.R_after (ok:=(fun k_=>no_ (.slice Ao11 t7.length co11) k_∧no_ (.slice (some ad1) t19.length co9) k_∧no_ (.slice Ao2 t35.length co2) k_∧no_ (.slice Ao3 t40.length co3) k_∧no_ (.slice Ao4 t44.length co4) k_∧no_ (.slice Ao5 t48.length co5) k_∧no_ (.slice Ao8 t58.length co8) k_∧no_ (.slice Ao10 t64.length co10) k_)) fV hg hat);have n8_:=A0_ (Kd.R_after (ok:=(fun k_=>no_ (.slice Ao11 t7.length co11) k_∧no_ (.slice (some ad1) t19.length co9) k_∧no_ (.slice Ao1 t5.length co1) k_∧no_ (.slice Ao2 t35.length co2) k_∧no_ (.slice Ao3 t40.length co3) k_∧no_ (.slice Ao4 t44.length co4) k_∧no_ (.slice Ao5 t48.length co5) k_∧no_ (.slice Ao7 xa.length co7) k_∧no_ (.slice Ao10 t64.length co10) k_)) lx hg hat);have n9_:=A0_ (a6 (g:=gb1) (o:=.cells #[.int .i64 t3,.bool t4,.slice Ao1 t5.length co1] 26 (0,0)) (u1_ BK1) hg (Kd.R_ne HO_11.out BK1.out ao));have n10_:=A0_ (a6 (g:=gb2) (o:=.cells #[.int .i64 t33,.bool t34,.slice Ao2 t35.length co2] 26 (0,0)) (u1_ BK2) hg (Kd.R_ne HO_11.out BK2.out ao));have n11_:=A0_ (a6 (g:=gb3) (o:=.cells #[.int .i64 t38,.bool t39,.slice Ao3 t40.length co3] 26 (0,0)) (u1_ BK3) hg (Kd.R_ne HO_11.out BK3.out ao));have n12_:=A0_ (a6 (g:=gb4) (o:=.cells #[.int .i64 t42,.bool t43,.slice Ao4 t44.length co4] 26 (0,0)) (u1_ BK4) hg (Kd.R_ne HO_11.out BK4.out ao));have n13_:=A0_ (a6 (g:=gb5) (o:=.cells #[.int .i64 t46,.bool t47,.slice Ao5 t48.length co5] 26 (0,0)) (u1_ BK5) hg (Kd.R_ne HO_11.out BK5.out ao));have n14_:=A0_ (a6 (g:=gb7) (o:=.cells #[.int .i64 xb,.bool xc,.slice Ao7 xa.length co7] 26 (0,0)) (u1_ BK7) hg (Kd.R_ne HO_11.out BK7.out ao));have n15_:=A0_ (a6 (g:=gb9) (o:=.cells #[.int .i64 t56,.bool t57,.slice Ao8 t58.length co8] 26 (0,0)) (u1_ BK9) hg (Kd.R_ne HO_11.out BK9.out ao));have n16_:=A0_ (Kd.R_after (ok:=(fun k_=>no_ (.slice Ao11 t7.length co11) k_∧no_ (.slice (some ad1) t19.length co9) k_∧no_ (.slice Ao1 t5.length co1) k_∧no_ (.slice Ao2 t35.length co2) k_∧no_ (.slice Ao3 t40.length co3) k_∧no_ (.slice Ao4 t44.length co4) k_∧no_ (.slice Ao5 t48.length co5) k_∧no_ (.slice Ao7 xa.length co7) k_∧no_ (.slice Ao8 t58.length co8) k_)) o5 hg hat);have n17_:=A0_ (a6 (g:=gb10) (o:=.cells #[.int .i64 t62,.bool t63,.slice Ao10 t64.length co10] 26 (0,0)) (u1_ BK10) hg (Kd.R_ne HO_11.out BK10.out ao));have n18_:=A0_ (hb);have n19_:=A0_ (ho);clear HO_1 HO_3 HO_2 HO_5 HO_6 HO_7 HO_8 HO_9 HO_10 BK1 BK2 BK3 BK4 BK5 BK7 BK9 HO15 BK10 HB HO_11;have HO_1:=n0_;have HO_3:=n1_;have HO_2:=n2_;have HO_5:=n3_;have HO_6:=n4_;have HO_7:=n5_;have HO_8:=n6_;have HO_9:=n7_;have HO_10:=n8_;have BK1:=n9_;have BK2:=n10_;have BK3:=n11_;have BK4:=n12_;have BK5:=n13_;have BK7:=n14_;have BK9:=n15_;have HO15:=n16_;have BK10:=n17_;have HB:=n18_;have HO16:=n19_;clear n0_ n1_ n2_ n3_ n4_ n5_ n6_ n7_ n8_ n9_ n10_ n11_ n12_ n13_ n14_ n15_ n16_ n17_ n18_ n19_ ho hb hg hat))
  go_roundg k13
  case measure=>have:=HJ1.out;have:=HJ2.out;have:=HJ3.out;have:=HJ4.out;have:=HJ5.out;have:=HJ6.out;have:=HJ7.out;have:=HJ8.out;have:=HJ9.out;have:=HJ10.out;have:=HK1.out;have:=HJ11.out;have:=HK2.out;omega
  exact ⟨(y2),(wrap64 (x63_13+1)),aC,H',⟨by have:=HJ1.out;have:=HJ2.out;have:=HJ3.out;have:=HJ4.out;have:=HJ5.out;have:=HJ6.out;have:=HJ7.out;have:=HJ8.out;have:=HJ9.out;have:=HJ10.out;have:=HK1.out;have:=HJ11.out;have:=HK2.out;omega⟩,⟨eZ⟩,⟨e8⟩,⟨by (with_reducible repeat (first|apply ra_|apply rn_|apply rd_));exact Kd.R_mono HO16.out cf_⟩,⟨eJ⟩,⟨fc⟩,⟨fd⟩,⟨fe⟩,⟨fw⟩,⟨fV⟩,⟨lx⟩,⟨u1_ BK1⟩,⟨u1_ BK2⟩,⟨u1_ BK3⟩,⟨u1_ BK4⟩,⟨u1_ BK5⟩,⟨u1_ BK7⟩,⟨u1_ BK9⟩,⟨jH⟩⟩
 /-- THE ONE PURE STATEMENT of laws_FnGame: yours. -/
def laws_FnGame.Pure:Prop:=∀ (l0:List Int),l0.length≤maxLen→l0.length * 1≤140737488351232→(∀ x ∈ l0,(Lit.int .u8 x).wf=true)→∃ k,laws_FnGame.f k l0=some true
theorem laws_FnGame.walk (P:laws_FnGame.Pure) (a0:Option Addr) (len0 cap0:Nat) (z0:List Int) (w:World) (hG:TabOK w) (w0:(a0=none∧len0=0∧cap0=0∧z0=[]) ∨ ∃ x,a0=some x∧len0≤cap0∧cap0≤maxLen∧z0.length=cap0∧(∀ i,i<z0.length→w.cell? (x.add i)=some (.int .u8 (z0.getD i 0)))∧∀ n ∈ z0,(Lit.int .u8 n).wf=true) (y0:len0 * 1≤140737488351232) :
  Calls Tryd.prog 4 #[.slice a0 len0 cap0] w fun e w'=>e=.returned (.bool true)∧Below w.heap.size w w':=by
 obtain ⟨l0,rfl,hr0,hm0,hw0,hc0⟩:=cE.ofRowC w0;obtain ⟨k,h⟩:=P l0 hm0 y0 hw0
 refine (laws_FnGame.calls k _ _ l0 true w (Kd.C_of_reads (d:=(0:Int)) (h1:=fun _=>rfl) hr0) hc0 hG h).mono ?_
 rintro e w' ⟨rfl,hd⟩
 exact ⟨rfl,hd⟩

end Go.Proofs.YtgcgmlbjklkkjaaDoor.QFnGame
-- packed
-- squeezed
