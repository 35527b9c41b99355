-- Written by px.py, a program of this session, over the kit's printer: some functions have a definition and a proof of this session's own.
import Derived.Lib.TrailingZeros
import Derived.Laws.Bits64b
import Derived.Test.YtgcgmlbjklkkjaaDoorQFnGamex0
import Derived.Test.YtgcgmlbjklkkjaaDoorQFnGamex1
namespace Go.Proofs.YtgcgmlbjklkkjaaDoor.QFnGame
open Go.RowKit Go.Proofs.YtgcgmlbjklkkjaaDoorW.PrintWords Go.Proofs.YtgcgmlbjklkkjaaDoorW.PrintLast Go.Proofs.YtgcgmlbjklkkjaaDoorW.PrintMore
attribute [local go_sem] fq ft gc gf eW eX fu fv   -- for this text's walks alone
set_option linter.unusedVariables false
set_option linter.unusedSimpArgs false
set_option maxHeartbeats 8000000
set_option maxRecDepth 100000

def ar.j0:Nat→Int→Int→Int→Int→Bool→Option (Int × Bool)
 | 0,_,_,_,_,_=>none
 | k+1,x1,x3,x10,xa,xb=>if x10=xa then (some (0,false)) else ((bh.f x1 x3).bind fun t246=>(if t246=true then (some (0,false)) else ((bh.f x1 x10).bind fun t247=>(if t247=true then (some (0,false)) else (if 0≤x3 then (if 0≤x10 then (some (Go.bits .or .u32 (shl .u32 1 x3) (shl .u32 1 x10),true)) else (none)) else (none))))))
def ar.f (k:Nat) (a0_0:Int) (a0_1:Bool) (a1:Int) (a2:Int) (a3:Int):Option (Int × Bool):=(bD.f k a0_0 a0_1 (([a3]:List Int))).bind fun t243=>(if t243=true then (if a2=1 then (if 0≤a3 then ((aN.f k a0_0 a0_1 a1).bind fun t244=>((bh.f t244 a3).bind fun t245=>(some (shl .u32 1 a3,t245)))) else (none)) else (if a0_1=true then (if a0_0=0 then (none) else (ar.j0 k a1 a3 (Int.tmod (wrap64 (a3+1)) a0_0) a0_0 a0_1)) else (ar.j0 k a1 a3 (wrap64 (a3+1)) a0_0 a0_1))) else (some (0,false)))
theorem ar.mono_l:∀ k,(∀ y0 y1 y2 y3 y4,LeO (ar.j0 k y0 y1 y2 y3 y4) (ar.j0 (k+1) y0 y1 y2 y3 y4))
 | 0=>fun _ _ _ _ _ r h=>by simp [ar.j0] at h
 | k+1=>by
  have ih0:=ar.mono_l k
  ·intro y0 y1 y2 y3 y4
   unfold ar.j0
   repeat' with_reducible first|exact ih0 ..|exact bD.mono ..|exact aN.mono ..|exact LeO.refl ..|exact LeO.none ..|refine LeO.ite ?_ ?_|refine LeO.bind ?_ (fun _=>?_)
theorem ar.mono:∀ a0 a1 a2 a3 a4 k,LeO (ar.f k a0 a1 a2 a3 a4) (ar.f (k+1) a0 a1 a2 a3 a4):=by
 intro a0 a1 a2 a3 a4 k;have ih0:=ar.mono_l k;unfold ar.f
 repeat' with_reducible first|exact ih0 ..|exact bD.mono ..|exact aN.mono ..|exact LeO.refl ..|exact LeO.none ..|refine LeO.ite ?_ ?_|refine LeO.bind ?_ (fun _=>?_)
def ar.T4:Bool × List (List Nat × List Nat):=(true,[([],[]),([0],[0]),([],[]),([],[]),([2,3],[2,3]),([],[]),([4,5,4],[4,5]),([1,6,0,1],[1]),([6,7,0,1,2,3,4,5,6,7],[6])])
def ar.B4:List Nat:=[0,1,0,0,12,0,60,127,255]
theorem ar.tab4:dx .any (dX Tryd.f43 4)=ar.T4:=by kernel_rfl
theorem ar.bits4:cp ar.T4.2 ar.B4=true:=by kernel_rfl
theorem ar.calls (k:Nat) (a0_0:Int) (a0_1:Bool) (a1:Int) (a2:Int) (a3:Int) (r1:Int) (r2:Bool) (w:World) (H:ar.f k a0_0 a0_1 a1 a2 a3=some (r1,r2)) :
  Calls Tryd.prog 43 #[.agg #[.int .i64 a0_0,.bool a0_1],.int .u32 a1,.int .i64 a2,.int .i64 a3] w fun e w'=>e=.returned (.tuple #[.int .u32 r1,.bool r2])∧Below w.heap.size w w':=by
 have hu61:=Tryd.underlying61;have HB:=A0_ (Below.refl w.heap.size w);unfold ar.f at H;obtain ⟨y1,hy1⟩:∃ y_:List Int,y_=(([a3]:List Int)):=⟨_,rfl⟩;replace H:((bD.f k a0_0 a0_1 y1).bind fun t1=>(if t1=true then (if a2=1 then (if 0≤a3 then ((aN.f k a0_0 a0_1 a1).bind fun t2=>((bh.f t2 a3).bind fun t3=>(some (shl .u32 1 a3,t3)))) else (none)) else (if a0_1=true then (if a0_0=0 then (none) else (ar.j0 k a1 a3 (Int.tmod (wrap64 (a3+1)) a0_0) a0_0 a0_1)) else (ar.j0 k a1 a3 (wrap64 (a3+1)) a0_0 a0_1))) else (some (0,false))))=some (r1,r2):=dp;have Ny1:=A0_ hy1;clear hy1;obtain ⟨t1,A2,H⟩:=o1_ H
 by_cases c1:t1=true
 case neg =>
  obtain rfl:=bf_.mpr c1;rw [if_neg ft_] at H;simp only [sj_,pj_] at H;obtain ⟨rfl,rfl⟩:=H;go_enter Tryd.func43,Tryd.ntmps43
  go_wp2_with (first|((with_reducible refine gd_ (N:=4) rfl ?_);refine bx_ 4 #[.int .i64 a0_0,.bool a0_1] 61 ?_;intro gb1 hg w1 BK1 hb;have GW1:=ge_ hg am;have GE1:=GW1;replace HB:=hb_ hb am;clear hb hg;have hcz1:=c2_ BK1)|((with_reducible refine gd_ (N:=13) rfl ?_);refine Kd.R_lit (Kd.int .i64) _ 3 ?hg (N:=13) ?hd (xs:=([a3]:List Int)) (inner:=[.int .i64 a3]) (ok:=fun _=>True) (okp:=fun _=>True) ?hr ?hp (fun _ hk=>hk) trivial (Below.refl _ _) (Nat.le_refl _) bx ?_;(case hd=>rfl);(case hg=>rfl);(case hr=>go_simp;first|done|rfl);(case hp=>exact (bu.one (show Kd.M (Kd.int .i64) _ _ _ a3 [.int .i64 a3] from rfl) (bu.none _ _)));intro v1 w2 ho48 hb hg_ hnew_;clear hg_ hnew_;(first|rw [← Ny1.out] at ho48|(simp only [Int.reduceToNat] at ho48;rw [← Ny1.out] at ho48));have HO1:=A0_ (Kd.R_lower ho48 (bz_ ab));replace BK1:=k1_ BK1 hb;replace HB:=hb_ hb ab;clear hb ho48;obtain ⟨Ao1,co1,eo1⟩:=Kd.R_slice HO1.out;subst eo1)|((with_reducible refine gc_ (f:=76) rfl ?_);refine gl_ 14 Tryd.func76 #[.agg #[.int .i64 a0_0,.bool a0_1],.slice Ao1 y1.length co1] ?_;(with_reducible refine (bD.calls k a0_0 a0_1 _ _ y1 false _ ?_ ?_ A2.out).mono ?_);exact fE;exact (rr_ HO1.out).2.1;rintro e w3 ⟨rfl,hb⟩;refine ⟨_,rfl,?_⟩;replace HO1:=q1_ HO1 hb;replace BK1:=k1_ BK1 hb;replace HB:=hb_ hb ab;(try clear hb)))
  go_ret2
  exact ⟨bc,ab⟩
 subst c1;rw [if_pos rfl] at H
 by_cases c2:a2=1
 ·rw [if_pos c2] at H
  obtain ⟨c2b0,c2b1⟩:=et_ c2;clear c2;obtain ⟨c3b0,c3b1,H⟩:=i2_ H;obtain ⟨ji1,hji1⟩:∃ j_:Int,(shl .u32 1 a3)=j_:=⟨_,rfl⟩;replace H:((aN.f k a0_0 a0_1 a1).bind fun t2=>((bh.f t2 a3).bind fun t3=>(some (ji1,t3))))=some (r1,r2):=eY
  (try rw [hji1] at A2)
  have hji1_:(IntKind.u32.wrap (1 * 2 ^ min a3.toNat 32))=ji1:=hji1;have hji9z:a3≤32→(IntKind.u32.wrap (1 * 2 ^ a3.toNat))=ji1:=dB hji1
  have hji9u:(IntKind.u32.wrap (2 ^ min a3.toNat 32))=ji1:=by have h_:=hji1_;rw [Int.one_mul] at h_;exact h_
  have hji9v:a3≤32→(IntKind.u32.wrap (2 ^ a3.toNat))=ji1:=fun hle_=>by have h_:=hji9z hle_;rw [Int.one_mul] at h_;exact h_
  obtain ⟨t2,A4,H⟩:=o1_ H;obtain ⟨t3,A6,H⟩:=o1_ H;replace H:(some (ji1,t3))=some (r1,r2):=H;simp only [sj_,pj_] at H;obtain ⟨rfl,rfl⟩:=H;go_enter Tryd.func43,Tryd.ntmps43
  try go_wp2_with (first|((with_reducible refine gd_ (N:=4) rfl ?_);refine bx_ 4 #[.int .i64 a0_0,.bool a0_1] 61 ?_;intro gb1 hg w1 BK1 hb;have GW1:=ge_ hg am;have GE1:=GW1;replace HB:=hb_ hb am;clear hb hg;have hcz1:=c2_ BK1)|((with_reducible refine gd_ (N:=13) rfl ?_);refine Kd.R_lit (Kd.int .i64) _ 3 ?hg (N:=13) ?hd (xs:=([a3]:List Int)) (inner:=[.int .i64 a3]) (ok:=fun _=>True) (okp:=fun _=>True) ?hr ?hp (fun _ hk=>hk) trivial (Below.refl _ _) (Nat.le_refl _) bx ?_;(case hd=>rfl);(case hg=>rfl);(case hr=>go_simp;first|done|rfl);(case hp=>exact (bu.one (show Kd.M (Kd.int .i64) _ _ _ a3 [.int .i64 a3] from rfl) (bu.none _ _)));intro v1 w2 ho15 hb hg_ hnew_;clear hg_ hnew_;(first|rw [← Ny1.out] at ho15|(simp only [Int.reduceToNat] at ho15;rw [← Ny1.out] at ho15));have HO1:=A0_ (Kd.R_lower ho15 (bz_ ab));replace BK1:=k1_ BK1 hb;replace HB:=hb_ hb ab;clear hb ho15;obtain ⟨Ao1,co1,eo1⟩:=Kd.R_slice HO1.out;subst eo1)|((with_reducible refine gc_ (f:=76) rfl ?_);refine gl_ 14 Tryd.func76 #[.agg #[.int .i64 a0_0,.bool a0_1],.slice Ao1 y1.length co1] ?_;(with_reducible refine (bD.calls k a0_0 a0_1 _ _ y1 true _ ?_ ?_ A2.out).mono ?_);exact fE;exact (rr_ HO1.out).2.1;rintro e w3 ⟨rfl,hb⟩;refine ⟨_,rfl,?_⟩;replace HO1:=q1_ HO1 hb;replace BK1:=k1_ BK1 hb;replace HB:=hb_ hb ab;(try clear hb)))
  replace HO1:=A0_ (rd_ HO1.out);replace BK1:=A0_ (kd_ BK1.out);replace HB:=A0_ (bd_ HB.out)
  refine s2_ 9 [] BK1 ar.tab4 ar.bits4 (fun hHeld HT_ HW_=>?_)
  generalize w3.drew=w4 at HO1 BK1 HB hHeld ⊢
  refine pu_ 0 18 ?_
  refine pu_ 1 19 ?_
  refine pu_ 3 21 ?_
  refine pu_ 5 23 ?_
  refine tk_ 2 20 hHeld ?_
  refine on_ 4 (some 22) (fun K hK=>?_)
  refine gs_ Tryd.func77 #[.agg #[.int .i64 a0_0,.bool a0_1],.int .u32 a1] ?_
  with_reducible refine (aN.calls k a0_0 a0_1 a1 t2 _ A4.out).mono ?_
  rintro e w5 ⟨rfl,hb⟩
  refine ⟨_,rfl,?_⟩
  replace HO1:=q1_ HO1 hb;replace BK1:=k1_ BK1 hb;replace HB:=hb_ hb ab
  (try clear hb)
  refine hK.out _ _ (c2_ BK1) (fun hHeld=>?_)
  clear hK K
  refine nm_ 22 ?_
  refine on_ 6 (some 24) (fun K hK=>?_)
  refine gs_ Tryd.func78 #[.int .u32 t2,.int .i64 a3] ?_
  with_reducible refine (bh.calls t2 a3 t3 _ A6.out).mono ?_
  rintro e w' ⟨rfl,⟨nd,rfl⟩⟩
  refine ⟨_,rfl,?_⟩
  refine hK.out _ _ (c2_ BK1) (fun hHeld=>?_)
  clear hK K
  refine nm_ 24 ?_
  refine pu_ 7 8 ?_
  refine pu_ 8 9 ?_
  refine dn_ ?_
  try go_wp2
  go_ret2
  exact ⟨iX,ab⟩
 rw [if_neg c2] at H;obtain ⟨c2b0,c2b1⟩:=ef_ c2;have HC20:=A0_ H;clear H;go_enter Tryd.func43,Tryd.ntmps43
 go_upto_if 28 with (first|((with_reducible refine gd_ (N:=4) rfl ?_);refine bx_ 4 #[.int .i64 a0_0,.bool a0_1] 61 ?_;intro gb1 hg w1 BK1 hb;have GW1:=ge_ hg am;have GE1:=GW1;replace HB:=hb_ hb am;clear hb hg;have hcz1:=c2_ BK1)|((with_reducible refine gd_ (N:=13) rfl ?_);refine Kd.R_lit (Kd.int .i64) _ 3 ?hg (N:=13) ?hd (xs:=([a3]:List Int)) (inner:=[.int .i64 a3]) (ok:=fun _=>True) (okp:=fun _=>True) ?hr ?hp (fun _ hk=>hk) trivial (Below.refl _ _) (Nat.le_refl _) bx ?_;(case hd=>rfl);(case hg=>rfl);(case hr=>go_simp;first|done|rfl);(case hp=>exact (bu.one (show Kd.M (Kd.int .i64) _ _ _ a3 [.int .i64 a3] from rfl) (bu.none _ _)));intro v1 w2 ho24 hb hg_ hnew_;clear hg_ hnew_;(first|rw [← Ny1.out] at ho24|(simp only [Int.reduceToNat] at ho24;rw [← Ny1.out] at ho24));have HO1:=A0_ (Kd.R_lower ho24 (bz_ ab));replace BK1:=k1_ BK1 hb;replace HB:=hb_ hb ab;clear hb ho24;obtain ⟨Ao1,co1,eo1⟩:=Kd.R_slice HO1.out;subst eo1)|((with_reducible refine gc_ (f:=76) rfl ?_);refine gl_ 14 Tryd.func76 #[.agg #[.int .i64 a0_0,.bool a0_1],.slice Ao1 y1.length co1] ?_;(with_reducible refine (bD.calls k a0_0 a0_1 _ _ y1 true _ ?_ ?_ A2.out).mono ?_);exact fE;exact (rr_ HO1.out).2.1;rintro e w3 ⟨rfl,hb⟩;refine ⟨_,rfl,?_⟩;replace HO1:=q1_ HO1 hb;replace BK1:=k1_ BK1 hb;replace HB:=hb_ hb ab;(try clear hb);have hcz2:=c2_ BK1))
 (try simp only [Act.put,sa_,sz_,ss_])
 go_cut [10] (fun v2 wc=>∃ (kq:Nat) (x10_19:Int),v2=.int .i64 x10_19∧Aside0 (ar.j0 kq a1 a3 x10_19 a0_0 a0_1=some (r1,r2))∧Aside0 (kq≤k)∧Aside0 (wc.heap[gb1]?=some (.cells #[.int .i64 a0_0,.bool a0_1] 61 (0,0)))∧Aside0 (Below w.heap.size w wc))
 case first =>
  have H:=HC20.out;clear HC20
  by_cases c3:a0_1=true
  case neg =>
   obtain rfl:=bf_.mpr c3;rw [if_neg ft_] at H;have H':=A0_ H;clear H
   go_wp2
   go_meet
   exact ⟨_,(wrap64 (a3+1)),aC,H',⟨eH⟩,⟨u1_ BK1⟩,⟨ab⟩⟩
  subst c3;rw [if_pos rfl] at H
  by_cases c4:a0_0=0
  ·rw [if_pos c4] at H
   exact absurd H bx
  rw [if_neg c4] at H;obtain ⟨c4b0,c4b1⟩:=ef_ c4
  (first|rw [c4b0]|(simp only [cH,dC];rw [c4b0])|skip)
  have H':=A0_ H;clear H;have hcz3:=c2_ BK1
  go_wp2
  go_meet
  exact ⟨_,(Int.tmod (wrap64 (a3+1)) a0_0),aC,H',⟨eH⟩,⟨u1_ BK1⟩,⟨ab⟩⟩
 clear HC20
 try clear c1
 try clear c2
 try clear c2b0
 try clear c2b1
 (try clear hcz1);(try clear hcz2)
 obtain ⟨kq,x10_19,rfl,HA,HJ1,BK1,HB⟩:=hcut
 cases kq with|zero=>exact absurd HA.out (by simp [ar.j0])|succ kj1=>?_
 have H:=HA.out;clear HA;simp only [ar.j0] at H
 by_cases c3:x10_19=a0_0
 ·rw [if_pos c3] at H
  obtain ⟨c3b0,c3b1⟩:=et_ c3;clear c3;simp only [sj_,pj_] at H;obtain ⟨rfl,rfl⟩:=H;have hcz3:=c2_ BK1
  go_wp2
  go_ret2
  exact ⟨bc,ab⟩
 rw [if_neg c3] at H;obtain ⟨c3b0,c3b1⟩:=ef_ c3;obtain ⟨t4,A4,H⟩:=o1_ H
 by_cases c4:t4=true
 ·subst c4
  rw [if_pos rfl] at H;simp only [sj_,pj_] at H;obtain ⟨rfl,rfl⟩:=H;have hcz3:=c2_ BK1
  go_wp2_with (first|(go_at_call 78;(with_reducible refine (bh.calls a1 a3 true _ A4.out).mono ?_);rintro e w' ⟨rfl,⟨nd,rfl⟩⟩))
  go_ret2
  exact ⟨bc,ab⟩
 obtain rfl:=bf_.mpr c4;rw [if_neg ft_] at H;obtain ⟨t5,A6,H⟩:=o1_ H
 by_cases c5:t5=true
 ·subst c5
  rw [if_pos rfl] at H;simp only [sj_,pj_] at H;obtain ⟨rfl,rfl⟩:=H;have hcz3:=c2_ BK1
  go_wp2_with (first|(go_at_call 78;(with_reducible refine (bh.calls a1 a3 false _ A4.out).mono ?_);rintro e w' ⟨rfl,⟨nd,rfl⟩⟩)|(go_at_call 78;(with_reducible refine (bh.calls a1 x10_19 true _ A6.out).mono ?_);rintro e w' ⟨rfl,⟨nd,rfl⟩⟩))
  go_ret2
  exact ⟨bc,ab⟩
 obtain rfl:=bf_.mpr c5;rw [if_neg ft_] at H;obtain ⟨c6b0,c6b1,H⟩:=i2_ H;obtain ⟨ji1,hji1⟩:∃ j_:Int,(shl .u32 1 a3)=j_:=⟨_,rfl⟩;replace H:(if 0≤x10_19 then (some (Go.bits .or .u32 (ji1) (shl .u32 1 x10_19),true)) else (none))=some (r1,r2):=eY
 (try rw [hji1] at A4)
 (try rw [hji1] at A6)
 have hji1_:(IntKind.u32.wrap (1 * 2 ^ min a3.toNat 32))=ji1:=hji1;have hji40z:a3≤32→(IntKind.u32.wrap (1 * 2 ^ a3.toNat))=ji1:=dB hji1
 have hji40u:(IntKind.u32.wrap (2 ^ min a3.toNat 32))=ji1:=by have h_:=hji1_;rw [Int.one_mul] at h_;exact h_
 have hji40v:a3≤32→(IntKind.u32.wrap (2 ^ a3.toNat))=ji1:=fun hle_=>by have h_:=hji40z hle_;rw [Int.one_mul] at h_;exact h_
 obtain ⟨c7b0,c7b1,H⟩:=i2_ H;obtain ⟨ji2,hji2⟩:∃ j_:Int,(shl .u32 1 x10_19)=j_:=⟨_,rfl⟩;replace H:(some (Go.bits .or .u32 (ji1) (ji2),true))=some (r1,r2):=lu
 (try rw [hji2] at A4)
 (try rw [hji2] at A6)
 have hji2_:(IntKind.u32.wrap (1 * 2 ^ min x10_19.toNat 32))=ji2:=hji2;have hji42z:x10_19≤32→(IntKind.u32.wrap (1 * 2 ^ x10_19.toNat))=ji2:=dB hji2
 have hji42u:(IntKind.u32.wrap (2 ^ min x10_19.toNat 32))=ji2:=by have h_:=hji2_;rw [Int.one_mul] at h_;exact h_
 have hji42v:x10_19≤32→(IntKind.u32.wrap (2 ^ x10_19.toNat))=ji2:=fun hle_=>by have h_:=hji42z hle_;rw [Int.one_mul] at h_;exact h_
 simp only [sj_,pj_] at H;obtain ⟨rfl,rfl⟩:=H;have hcz3:=c2_ BK1
 try go_wp2_with (first|(go_at_call 78;(with_reducible refine (bh.calls a1 a3 false _ A4.out).mono ?_);rintro e w' ⟨rfl,⟨nd,rfl⟩⟩)|(go_at_call 78;(with_reducible refine (bh.calls a1 x10_19 false _ A6.out).mono ?_);rintro e w' ⟨rfl,⟨nd,rfl⟩⟩))
 (try (rw [cZ wc];generalize hq_:World.drewN wc _=wc;have n0_:Aside0 (wc.heap[gb1]?=some (.cells #[.int .i64 a0_0,.bool a0_1] 61 (0,0))):=⟨lr⟩;have n1_:Aside0 (Below w.heap.size w wc):=⟨by rw [← hq_];exact ab⟩;clear BK1 HB hq_;have BK1:=n0_;have HB:=n1_;clear n0_ n1_))
 replace BK1:=A0_ (kd_ BK1.out);replace HB:=A0_ (bd_ HB.out)
 refine dh (n:=7) (S:=fun w'=>True) (ds:=[]) #[false,false,false,false,false,false,false] bS rfl rfl trivial (fun hHeld=>?_)
 generalize wc.drew=w4 at BK1 HB hHeld ⊢
 refine pu_ 0 47 ?_
 refine pu_ 1 48 ?_
 refine pu_ 2 49 ?_
 refine pu_ 3 50 ?_
 refine pu_ 4 51 ?_
 refine pu_ 5 8 ?_
 refine pu_ 6 9 ?_
 refine gU bS ?_
 try go_wp2
 go_ret2
 exact ⟨qz,ab⟩

def b4.l0:Nat→Int→List Int→Int→Int→Option (Int)
 | 0,_,_,_,_=>none
 | k+1,x3,x6,x7,x8=>if x8<x7 then (if 0≤x8 then (if x8<(x6.length:Int) then (if 0≤(rd x6 x8) then (b4.l0 k (Go.bits .or .u32 x3 (shl .u32 1 (rd x6 x8))) x6 x7 (wrap64 (x8+1))) else (none)) else (none)) else (none)) else (some x3)
def b4.f (k:Nat) (l0:List Int):Option (Int):=b4.l0 k 0 l0 (l0.length:Int) 0
theorem b4.mono_l:∀ k,(∀ y0 y1 y2 y3,LeO (b4.l0 k y0 y1 y2 y3) (b4.l0 (k+1) y0 y1 y2 y3))
 | 0=>fun _ _ _ _ r h=>by simp [b4.l0] at h
 | k+1=>by
  have ih0:=b4.mono_l k
  ·intro y0 y1 y2 y3
   unfold b4.l0
   repeat' with_reducible first|exact ih0 ..|exact LeO.refl ..|exact LeO.none ..|refine LeO.ite ?_ ?_|refine LeO.bind ?_ (fun _=>?_)
theorem b4.mono:∀ a0 k,LeO (b4.f k a0) (b4.f (k+1) a0):=by
 intro a0 k;have ih0:=b4.mono_l k;unfold b4.f
 repeat' with_reducible first|exact ih0 ..|exact LeO.refl ..|exact LeO.none ..|refine LeO.ite ?_ ?_|refine LeO.bind ?_ (fun _=>?_)
theorem b4.calls (k:Nat) (A0:Option Addr) (c0:Nat) (l0:List Int) (r:Int) (w:World) (hr0:Kd.C (Kd.int .i64) w A0 l0.length l0) (hc0:l0.length≤c0) (H:b4.f k l0=some r) :
  Calls Tryd.prog 79 #[.slice A0 l0.length c0] w fun e w'=>e=.returned (.int .u32 r)∧Drawn0 w w':=by
 have HR0:=A0_ hr0;have HC0:=A0_ hc0;clear hr0 hc0;unfold b4.f at H;have H':=A0_ H;clear H;go_enter Tryd.func79,Tryd.ntmps79
 go_wp2
 go_loopg [3,8] k (fun kq v1 v2 w'=>∃ (x3_1:Int) (x8_1:Int),v1=.int .u32 x3_1∧v2=.int .i64 x8_1∧Aside0 (b4.l0 kq x3_1 l0 (l0.length:Int) x8_1=some r)∧Aside0 (kq≤k)∧Drawn0 w w')
 case atStart=>exact ⟨(0),(0),aC,aC,H',⟨Nat.le_refl _⟩,cT⟩
 clear H';obtain ⟨x3_1,x8_1,rfl,rfl,HA,HK1,⟨m1,rfl⟩⟩:=hrel
 cases gk with|zero=>exact absurd HA.out (by simp [b4.l0])|succ k1=>?_
 have H:=HA.out;clear HA;simp only [b4.l0] at H
 by_cases c1:x8_1<(l0.length:Int)
 case neg =>
  rw [if_neg c1] at H;have c1b0:decide (x8_1<(l0.length:Int))=false:=decide_eq_false c1;clear c1;obtain rfl:=si_ H
  go_wp2
  go_ret
  exact ⟨eq,cT⟩
 rw [if_pos c1] at H;have c1b0:decide (x8_1<(l0.length:Int))=true:=dt_ c1;clear c1;obtain ⟨c2b0,H⟩:=i1_ H;obtain ⟨c3b0,H⟩:=i1_ H;obtain ⟨c4b0,c4b1,H⟩:=i2_ H;obtain ⟨ji1,hji1⟩:∃ j_:Int,(shl .u32 1 (rd l0 x8_1))=j_:=⟨_,rfl⟩;replace H:(b4.l0 k1 (Go.bits .or .u32 x3_1 (ji1)) l0 (l0.length:Int) (wrap64 (x8_1+1)))=some r:=eY;have hji1_:(IntKind.u32.wrap (1 * 2 ^ min (rd l0 x8_1).toNat 32))=ji1:=hji1;have hji6z:(rd l0 x8_1)≤32→(IntKind.u32.wrap (1 * 2 ^ (rd l0 x8_1).toNat))=ji1:=dB hji1
 have hji6u:(IntKind.u32.wrap (2 ^ min (rd l0 x8_1).toNat 32))=ji1:=by have h_:=hji1_;rw [Int.one_mul] at h_;exact h_
 have hji6v:(rd l0 x8_1)≤32→(IntKind.u32.wrap (2 ^ (rd l0 x8_1).toNat))=ji1:=fun hle_=>by have h_:=hji6z hle_;rw [Int.one_mul] at h_;exact h_
 have H':=A0_ H;clear H;have p1:0≤(x8_1:Int):=od_ aE;have q1:x8_1<(l0.length:Int):=od_ aE;obtain ⟨ad1,e1,hx1_0⟩:=Kd.at_int HR0.out x8_1 p1 q1;cases e1;replace p1:=eq_true p1;replace q1:=eq_true q1
 go_wp2
 go_roundg k1
 case measure=>have:=HK1.out;omega
 exact ⟨(Go.bits .or .u32 x3_1 (ji1)),(wrap64 (x8_1+1)),kd,aC,H',⟨de⟩,cT⟩

def a7.f (k:Nat) (a0_0:Int) (a0_1:Bool) (l0_2:List Int):Option (Int):=(b4.f k l0_2).bind fun t250=>(some t250)
theorem a7.mono:∀ a0 a1 a2 k,LeO (a7.f k a0 a1 a2) (a7.f (k+1) a0 a1 a2):=by
 intro a0 a1 a2 k;unfold a7.f
 repeat' with_reducible first|exact b4.mono ..|exact LeO.refl ..|exact LeO.none ..|refine LeO.ite ?_ ?_|refine LeO.bind ?_ (fun _=>?_)
theorem a7.calls (k:Nat) (a0_0:Int) (a0_1:Bool) (A0_2:Option Addr) (c0_2:Nat) (l0_2:List Int) (r:Int) (w:World) (hr0_2:Kd.C (Kd.int .i64) w A0_2 l0_2.length l0_2) (hc0_2:l0_2.length≤c0_2) (H:a7.f k a0_0 a0_1 l0_2=some r) :
  Calls Tryd.prog 44 #[.agg #[.int .i64 a0_0,.bool a0_1,.slice A0_2 l0_2.length c0_2]] w fun e w'=>e=.returned (.int .u32 r)∧Below w.heap.size w w':=by
 have hu26:=Tryd.underlying26;have HR0_2:=A0_ hr0_2;have HC0_2:=A0_ hc0_2;clear hr0_2 hc0_2;have HB:=A0_ (Below.refl w.heap.size w);unfold a7.f at H;obtain ⟨t1,A2,H⟩:=o1_ H;replace H:(some t1)=some r:=H;obtain rfl:=si_ H;go_enter Tryd.func44,Tryd.ntmps44
 go_wp2_with (first|((with_reducible refine gd_ (N:=1) rfl ?_);refine bx_ 1 #[.int .i64 a0_0,.bool a0_1,.slice A0_2 l0_2.length c0_2] 26 ?_;intro gb1 hg w1 BK1 hb;have GW1:=ge_ hg am;have GE1:=GW1;replace HB:=hb_ hb am;clear hb hg;have hcz1:=c3_ BK1)|((with_reducible refine gc_ (f:=79) rfl ?_);refine gl_ 5 Tryd.func79 #[.slice A0_2 l0_2.length c0_2] ?_;(with_reducible refine (b4.calls k _ _ l0_2 t1 _ ?_ ?_ A2.out).mono ?_);exact bn;exact HC0_2.out;rintro e w' ⟨rfl,⟨nd,rfl⟩⟩;refine ⟨_,rfl,?_⟩))
 go_ret
 exact ⟨bc,ab⟩
 /-- The table of the library's stands in its variable: what the row's list gives. -/
def TabOK (w:World):Prop:=∀ j,j<Lib.deBruijn32tab.length→w.cell? ⟨0,j,none⟩=some (.int .u8 (Lib.deBruijn32tab.getD j 0))
theorem TabOK.below {w w':World} (h:TabOK w) (hb:Below w.heap.size w w'):TabOK w':=fun j hj=>(hb.cell (World.block_lt_of_cell? w _ (h j hj))).trans (h j hj)
theorem TabOK.drew {w:World} (h:TabOK w):TabOK w.drew:=h
theorem TabOK.drewN {w:World} (h:TabOK w) (n:Nat):TabOK (w.drewN n):=fun j hj=>h j hj
theorem ip (a b:Nat) (ha:a<4294967296) (hb:b<4294967296):Go.bits .and .u32 (a:Int) (b:Int)=((a &&& b:Nat):Int):=by
 have hx:a &&& b<2 ^ 32:=Nat.and_lt_two_pow _ bL
 have h1:(BitVec.ofInt 32 (a:Int)).toNat=a:=by
  rw [BitVec.ofInt_natCast,BitVec.toNat_ofNat];exact Nat.mod_eq_of_lt bL
 have h2:(BitVec.ofInt 32 (b:Int)).toNat=b:=by
  rw [BitVec.ofInt_natCast,BitVec.toNat_ofNat];exact Nat.mod_eq_of_lt bL
 show IntKind.u32.wrap ((BitVec.ofInt 32 (a:Int) &&& BitVec.ofInt 32 (b:Int)).toNat:Int)=_
 rw [BitVec.toNat_and,h1,h2,IntKind.wrap_u32]
 omega
theorem rK (x a:Nat) (hx:x<4294967296) (hx0:x≠0) (hlow:x &&& (4294967296 - x)=a) :
  Go.bits BinOp.and IntKind.u32 (x:Int) (-(x:Int) % 4294967296) * 125613361 % 4294967296 / 134217728=((a * 125613361 % 4294967296 / 134217728:Nat):Int):=by
 have e1 : -(x:Int) % 4294967296=((4294967296 - x:Nat):Int):=by omega
 rw [e1,ip x _ hx bL,hlow]
 omega
def b9.f (a0:Int):Option (Int):=if 0≤a0∧a0<4294967296 then some (Lib.ctz 32 a0.toNat:Int) else none
set_option maxHeartbeats 1000000 in
theorem b9.core (x k idx:Nat) (w:World) (hx0:((x:Int) == 0)=false)
  (key:Go.bits BinOp.and IntKind.u32 (x:Int) (-(x:Int) % 4294967296) * 125613361 % 4294967296 / 134217728=(idx:Int))
  (hi:idx<32) (hk:k<32) (hcell:w.cell? ⟨0,idx,none⟩=some (.int .u8 k)) :
  Calls Tryd.prog 100 #[.int .u32 x] w fun e w'=>e=.returned (.int .i64 k)∧Drawn0 w w':=by
 go_enter Tryd.func100,Tryd.ntmps100
 go_wp2_with (simp only [key])
 go_ret
 exact ⟨rfl,cT⟩
theorem b9.zero (w:World) :
  Calls Tryd.prog 100 #[.int .u32 0] w fun e w'=>e=.returned (.int .i64 32)∧Drawn0 w w':=by
 go_enter Tryd.func100,Tryd.ntmps100
 go_wp2
 go_ret
 exact ⟨rfl,cT⟩
set_option maxHeartbeats 400000 in
set_option maxRecDepth 100000 in
theorem b9.calls (a0:Int) (r:Int) (w:World) (hG:TabOK w) (h:b9.f a0=some r) :
  Calls Tryd.prog 100 #[.int .u32 a0] w fun e w'=>e=.returned (.int .i64 r)∧Drawn0 w w':=by
 unfold b9.f at h
 split at h
 ·rename_i hh
  obtain ⟨h0,h1⟩:=hh;obtain rfl:=si_ h;obtain ⟨x,rfl⟩:∃ x:Nat,a0=x:=⟨a0.toNat,bL⟩;rw [Int.toNat_natCast]
  by_cases hx1:x=0
  ·subst hx1
   exact b9.zero w
  obtain ⟨hlow,hk⟩:=Lib.lowest_bit 32 x hx1 bL;obtain ⟨hi,htab⟩:=Lib.deBruijn32_at _ hk;have hcell:=hG _ hi;rw [htab] at hcell
  exact b9.core x _ _ w (by simp;omega) (rK x _ bL hx1 hlow) hi hk hcell
 cases h


def bz.l0:Nat→Int→List Int→Option (List Int)
 | 0,_,_=>none
 | k+1,x0,x3=>if x0=0 then (some x3) else ((b9.f x0).bind fun t254=>(if x3.length<17592186044416 then (bz.l0 k (Go.bits .and .u32 x0 ((x0 - 1) % 4294967296)) (x3++[t254])) else (none)))
def bz.f (k:Nat) (a0:Int):Option (List Int):=bz.l0 k a0 (([]:List Int))
theorem bz.mono_l:∀ k,(∀ y0 y1,LeO (bz.l0 k y0 y1) (bz.l0 (k+1) y0 y1))
 | 0=>fun _ _ r h=>by simp [bz.l0] at h
 | k+1=>by
  have ih0:=bz.mono_l k
  ·intro y0 y1
   unfold bz.l0
   repeat' with_reducible first|exact ih0 ..|exact LeO.refl ..|exact LeO.none ..|refine LeO.ite ?_ ?_|refine LeO.bind ?_ (fun _=>?_)
theorem bz.mono:∀ a0 k,LeO (bz.f k a0) (bz.f (k+1) a0):=by
 intro a0 k;have ih0:=bz.mono_l k;unfold bz.f
 repeat' with_reducible first|exact ih0 ..|exact LeO.refl ..|exact LeO.none ..|refine LeO.ite ?_ ?_|refine LeO.bind ?_ (fun _=>?_)
theorem bz.calls (k:Nat) (a0:Int) (r:List Int) (w:World) (hG:TabOK w) (H:bz.f k a0=some r) :
  Calls Tryd.prog 80 #[.int .u32 a0] w fun e w'=>∃ v0_:Value,e=.returned (v0_)∧Kd.R (Kd.int .i64) 3 w' w.heap.size (fun _=>True) v0_ r∧Below w.heap.size w w':=by
 have HG0:=A0_ hG;clear hG;have HB:=A0_ (Below.refl w.heap.size w);unfold bz.f at H;obtain ⟨y1,hy1⟩:∃ y_:List Int,y_=(([]:List Int)):=⟨_,rfl⟩;replace H:(bz.l0 k a0 y1)=some r:=dp;have Ny1:=A0_ hy1;clear hy1;have H':=A0_ H;clear H;go_enter Tryd.func80,Tryd.ntmps80
 go_wp2_with (first|((with_reducible refine gd_ (N:=4) rfl ?_);refine Kd.R_lit (Kd.int .i64) _ 3 ?hg (N:=4) ?hd (xs:=([]:List Int)) (inner:=[]) (ok:=fun _=>True) (okp:=fun _=>True) ?hr ?hp (fun _ hk=>hk) trivial (Below.refl _ _) (Nat.le_refl _) bx ?_;(case hd=>rfl);(case hg=>rfl);(case hr=>go_simp;first|done|rfl);(case hp=>exact (bu.none _ _));intro v1 w1 ho3 hb hg_ hnew_;clear hg_ hnew_;(first|rw [← Ny1.out] at ho3|(simp only [Int.reduceToNat] at ho3;rw [← Ny1.out] at ho3));have HO1:=A0_ (Kd.R_lower ho3 (bz_ am));replace HB:=hb_ hb am;clear hb ho3))
 go_loopg [0,3] k (fun kq v0 v2 w'=>∃ (x0_1:Int) (x3_1:List Int),v0=.int .u32 x0_1∧Aside0 (bz.l0 kq x0_1 x3_1=some r)∧Aside0 (kq≤k)∧Aside0 (Kd.R (Kd.int .i64) 3 w' w.heap.size (fun _=>True) v2 x3_1)∧Aside0 (Below w.heap.size w w'))
 case atStart=>exact ⟨(a0),(y1),aC,H',⟨Nat.le_refl _⟩,⟨bR⟩,⟨am⟩⟩
 clear H';obtain ⟨x0_1,x3_1,rfl,HA,HK1,HO_1,HB⟩:=hrel
 cases gk with|zero=>exact absurd HA.out (by simp [bz.l0])|succ k1=>?_
 have H:=HA.out;clear HA;simp only [bz.l0] at H
 by_cases c1:x0_1=0
 ·rw [if_pos c1] at H
  obtain ⟨c1b0,c1b1⟩:=et_ c1;clear c1;obtain rfl:=si_ H
  go_wp2
  go_ret
  exact ⟨_,bc,aD,am⟩
 rw [if_neg c1] at H;obtain ⟨c1b0,c1b1⟩:=ef_ c1;obtain ⟨t1,A2,H⟩:=o1_ H;obtain ⟨c2,H⟩:=is_ H;have LMc1:=A0_ c2;clear c2;obtain ⟨y2,hy2⟩:∃ y_:List Int,y_=(x3_1++[t1]):=⟨_,rfl⟩;replace H:(bz.l0 k1 (Go.bits .and .u32 x0_1 ((x0_1 - 1) % 4294967296)) y2)=some r:=dO;have Ny2:=A0_ hy2;clear hy2;have H':=A0_ H;clear H
 go_wp2_with (first|((with_reducible refine gc_ (f:=100) rfl ?_);refine gl_ 13 Tryd.func100 #[.int .u32 x0_1] ?_;(with_reducible refine (b9.calls x0_1 t1 _ (by first|exact TabOK.below HG0.out am|(repeat (first|exact HG0.out|apply TabOK.drew|apply TabOK.drewN))|exact TabOK.drawn HG0.out r9) A2.out).mono ?_);rintro e w' ⟨rfl,⟨nd,rfl⟩⟩;refine ⟨_,rfl,?_⟩)|((with_reducible refine bO (b:=.append) (xs:=#[.tmp 11,.tmp 14]) rfl ?_);at_builtin;refine Kd.R_append (Kd.int .i64) (w0:=w) w.heap.size rfl (.tmp 11) (.tmp 14) 22 3 (.int .i64 0) 8 rfl Tryd.underlying22 cP rfl ao bL u3 x3_1 t1 [.int .i64 t1] (fun _=>True) (fun _=>False) rfl rfl ?aP (fun _ hk=>hk.elim) ?aF ?aO ?aB ?aS ?aL ?_;(case aP=>exact rfl);(case aB=>exact am);(case aF=>exact (fun _ _=>trivial));(case aO=>exact aD);(case aS=>exact (bz_ am));(case aL=>have:=LMc1.out;omega);intro v3 w2 ho hb hg hat;rw [← Ny2.out] at ho;have n0_:=A0_ (hb);have n1_:=A0_ (ho);clear HB HO_1;have HB:=n0_;have HO2:=n1_;clear n0_ n1_ ho hb hg hat))
 go_roundg k1
 case measure=>have:=HK1.out;omega
 exact ⟨(Go.bits .and .u32 x0_1 ((x0_1 - 1) % 4294967296)),(y2),aC,H',⟨de⟩,⟨cQ⟩,⟨am⟩⟩

def bE.f (k:Nat) (a0_0:Int) (a0_1:Bool) (a1:Int):Option (Int × Bool × List Int):=(bz.f k a1).bind fun t260=>(some (a0_0,a0_1,t260))
theorem bE.mono:∀ a0 a1 a2 k,LeO (bE.f k a0 a1 a2) (bE.f (k+1) a0 a1 a2):=by
 intro a0 a1 a2 k;unfold bE.f
 repeat' with_reducible first|exact bz.mono ..|exact LeO.refl ..|exact LeO.none ..|refine LeO.ite ?_ ?_|refine LeO.bind ?_ (fun _=>?_)
def bE.T1:Bool × List (List Nat × List Nat):=(true,[([],[]),([0],[0]),([],[]),([2],[2]),([],[]),([4],[4]),([1,3,5],[1,3,5]),([6,5,0,1,2,3,4,5,6],[6])])
def bE.B1:List Nat:=[0,1,0,4,0,16,63,127]
theorem bE.tab1:dx .any (dX Tryd.f45 1)=bE.T1:=by kernel_rfl
theorem bE.bits1:cp bE.T1.2 bE.B1=true:=by kernel_rfl
theorem bE.calls (k:Nat) (a0_0:Int) (a0_1:Bool) (a1:Int) (r1:Int) (r2:Bool) (r3:List Int) (w:World) (hG:TabOK w) (H:bE.f k a0_0 a0_1 a1=some (r1,r2,r3)) :
  Calls Tryd.prog 45 #[.agg #[.int .i64 a0_0,.bool a0_1],.int .u32 a1] w fun e w'=>∃ v2_:Value,e=.returned (.agg #[.int .i64 r1,.bool r2,v2_])∧Kd.R (Kd.int .i64) 3 w' w.heap.size (fun _=>True) v2_ r3∧Below w.heap.size w w':=by
 have HG0:=A0_ hG;clear hG;have hu61:=Tryd.underlying61;have hu26:=Tryd.underlying26;have HB:=A0_ (Below.refl w.heap.size w);unfold bE.f at H;obtain ⟨t1,A2,H⟩:=o1_ H;replace H:(some (a0_0,a0_1,t1))=some (r1,r2,r3):=H;simp only [sj_,pj_] at H;obtain ⟨rfl,rfl,rfl⟩:=H;go_enter Tryd.func45,Tryd.ntmps45
 try go_wp2_with (first|((with_reducible refine gd_ (N:=2) rfl ?_);refine bx_ 2 #[.int .i64 a0_0,.bool a0_1] 61 ?_;intro gb1 hg w1 BK1 hb;have GW1:=ge_ hg am;have GE1:=GW1;replace HB:=hb_ hb am;clear hb hg)|((with_reducible refine gd_ (N:=4) rfl ?_);refine bx_ 4 #[.int .i64 0,.bool false,.slice none 0 0] 26 ?_;intro gb2 hg w2 BK2 hb;have GW2:=ge_ hg ab;have GE2:=GW2;replace HB:=hb_ hb ab;obtain ⟨NB1_2,NB2_1⟩:=nn_ hg BK1;replace BK1:=k1_ BK1 hb;clear hb hg))
 replace BK1:=A0_ (kd_ BK1.out);replace BK2:=A0_ (kd_ BK2.out);replace HB:=A0_ (bd_ HB.out)
 refine s2_ 8 [] BK1 bE.tab1 bE.bits1 (fun hHeld HT_ HW_=>?_)
 generalize w2.drew=w3 at BK1 BK2 HB hHeld ⊢
 refine pu_ 0 5 ?_
 refine pu_ 2 7 ?_
 refine pu_ 4 9 ?_
 refine tk_ 1 6 hHeld ?_
 refine tk_ 3 8 hHeld ?_
 refine on_ 5 (some 10) (fun K hK=>?_)
 refine gs_ Tryd.func80 #[.int .u32 a1] ?_
 with_reducible refine (bz.calls k a1 t1 _ nK A2.out).mono ?_
 rintro e w4 ⟨v1,rfl,ho0,hb⟩
 refine ⟨_,rfl,?_⟩
 have HO1:=A0_ (Kd.R_lower ho0 (bz_ aY));replace BK1:=k1_ BK1 hb;replace BK2:=k1_ BK2 hb;replace HB:=hb_ hb aY
 (try clear hb ho0)
 obtain ⟨Ao1,co1,eo1⟩:=Kd.R_slice HO1.out
 (first|subst eo1|(injection eo1 with f1_ f2_ f3_;have f4_:=f1_.symm;have f5_:=f3_.symm;clear f1_ f2_ f3_;subst f4_;subst f5_))
 refine hK.out _ _ (c2_ BK1) (fun hHeld=>?_)
 clear hK K
 refine nm_ 10 ?_
 refine pu_ 6 11 ?_
 refine on_ 7 none (fun K hK=>?_)
 have hs9:=y_ BK2 0;have hfs9:=kf_ BK2.out 0;obtain ⟨hns1_0,hms1_0⟩:=n2_ NB1_2;have hs10:=y_ BK2 1;have hfs10:=kf_ BK2.out 1;obtain ⟨hns2_0,hms2_0⟩:=n2_ NB1_2;have hs11:=y_ BK2 2;have hfs11:=kf_ BK2.out 2;obtain ⟨hns3_0,hms3_0⟩:=n2_ NB1_2
 refine fF (w1:=?_) (by rfl) rfl ?_ ?_
 rotate_left
 ·go_simp
  rfl
 refine hK.out _ _ ⟨((av (p:=⟨gb2,_,none⟩) NB1_2.out _).trans (((av (p:=⟨gb2,_,none⟩) NB1_2.out _).trans (((av (p:=⟨gb2,_,none⟩) NB1_2.out _).trans (hHeld.1)))))),((av (p:=⟨gb2,_,none⟩) NB1_2.out _).trans (((av (p:=⟨gb2,_,none⟩) NB1_2.out _).trans (((av (p:=⟨gb2,_,none⟩) NB1_2.out _).trans (hHeld.2))))))⟩ (fun hHeld=>?_)
 clear hK K
 refine dn_ ?_
 try go_wp2
 refine bodyPost_ret (results_cell_row rfl _ _ gb2 26 #[.int .i64 a0_0,.bool a0_1,.slice Ao1 t1.length co1] (0,0) _ rfl (u1_ BK2) Tryd.underlying26 rfl bS) rfl ?_
 exact ⟨_,bc,kj,aY⟩

def aU.f (k:Nat) (a0_0:Int) (a0_1:Bool) (l0_2:List Int) (a1:Int) (a2:Int):Option (Int × Bool × List Int × Bool):=(bf.f k a0_0 a0_1 l0_2 a1).bind fun t265=>(if t265=true then ((bd.f a0_0 a0_1 l0_2).bind fun bt266=>((a7.f k a0_0 a0_1 l0_2).bind fun t268=>((ar.f k bt266.1 bt266.2 t268 a1 a2).bind fun bt269=>(if bt269.2=true then ((bd.f a0_0 a0_1 l0_2).bind fun bt271=>((a7.f k a0_0 a0_1 l0_2).bind fun t273=>((bE.f k bt271.1 bt271.2 (Go.bits .or .u32 t273 bt269.1)).bind fun bt274=>(some (bt274.1,bt274.2.1,bt274.2.2,true))))) else (some (0,false,([]:List Int),false)))))) else (some (0,false,([]:List Int),false)))
theorem aU.mono:∀ a0 a1 a2 a3 a4 k,LeO (aU.f k a0 a1 a2 a3 a4) (aU.f (k+1) a0 a1 a2 a3 a4):=by
 intro a0 a1 a2 a3 a4 k;unfold aU.f
 repeat' with_reducible first|exact a7.mono ..|exact bE.mono ..|exact ar.mono ..|exact bf.mono ..|exact LeO.refl ..|exact LeO.none ..|refine LeO.ite ?_ ?_|refine LeO.bind ?_ (fun _=>?_)
def aU.T3:Bool × List (List Nat × List Nat):=(true,[([],[]),([0],[0]),([],[]),([2,1],[2]),([],[]),([],[]),([1,3,4,5,3],[1,3,4,5]),([6],[6]),([7],[7]),([7],[7]),([8,6,0,1,2,3,4,5,6,7,8],[8]),([9,10,0,1,2,3,4,5,6,7,8,9,10],[9])])
def aU.B3:List Nat:=[0,1,0,7,0,0,63,127,255,255,511,2047]
theorem aU.tab3:dx .any (dX Tryd.f8 3)=aU.T3:=by kernel_rfl
theorem aU.bits3:cp aU.T3.2 aU.B3=true:=by kernel_rfl
def aU.T6:Bool × List (List Nat × List Nat):=(true,[([],[]),([0],[0]),([],[]),([2,1],[2]),([],[]),([3,4],[3,4]),([1,5,3],[1,5]),([6,6,0,1,2,3,4,5,6],[6]),([7,0,1,2,3,4,5,6,7],[])])
def aU.B6:List Nat:=[0,1,0,7,0,31,63,127,255]
theorem aU.tab6:dx .any (dX Tryd.f8 6)=aU.T6:=by kernel_rfl
theorem aU.bits6:cp aU.T6.2 aU.B6=true:=by kernel_rfl
theorem aU.calls (k:Nat) (a0_0:Int) (a0_1:Bool) (A0_2:Option Addr) (c0_2:Nat) (l0_2:List Int) (a1:Int) (a2:Int) (r1:Int) (r2:Bool) (r3:List Int) (r4:Bool) (w:World) (hr0_2:Kd.C (Kd.int .i64) w A0_2 l0_2.length l0_2) (hc0_2:l0_2.length≤c0_2) (hG:TabOK w) (H:aU.f k a0_0 a0_1 l0_2 a1 a2=some (r1,r2,r3,r4)) :
  Calls Tryd.prog 8 #[.agg #[.int .i64 a0_0,.bool a0_1,.slice A0_2 l0_2.length c0_2],.int .i64 a1,.int .i64 a2] w fun e w'=>∃ v2_:Value,e=.returned (.tuple #[.agg #[.int .i64 r1,.bool r2,v2_],.bool r4])∧Kd.R (Kd.int .i64) 3 w' w.heap.size (fun _=>True) v2_ r3∧Below w.heap.size w w':=by
 have HG0:=A0_ hG;clear hG;have hu26:=Tryd.underlying26;have HR0_2:=A0_ hr0_2;have HC0_2:=A0_ hc0_2;clear hr0_2 hc0_2;have HB:=A0_ (Below.refl w.heap.size w);unfold aU.f at H;obtain ⟨t1,A2,H⟩:=o1_ H
 by_cases c1:t1=true
 case neg =>
  obtain rfl:=bf_.mpr c1;rw [if_neg ft_] at H;simp only [sj_,pj_] at H;obtain ⟨rfl,rfl,rfl,rfl⟩:=H;go_enter Tryd.func8,Tryd.ntmps8
  go_wp2_with (first|((with_reducible refine gd_ (N:=3) rfl ?_);refine bx_ 3 #[.int .i64 a0_0,.bool a0_1,.slice A0_2 l0_2.length c0_2] 26 ?_;intro gb1 hg w1 BK1 hb;have GW1:=ge_ hg am;have GE1:=GW1;replace HB:=hb_ hb am;clear hb hg)|((with_reducible refine gd_ (N:=6) rfl ?_);refine bx_ 6 #[.int .i64 0,.bool false,.slice none 0 0] 26 ?_;intro gb2 hg w2 BK2 hb;have GW2:=ge_ hg ab;have GE2:=GW2;replace HB:=hb_ hb ab;obtain ⟨NB1_2,NB2_1⟩:=nn_ hg BK1;replace BK1:=k1_ BK1 hb;clear hb hg;obtain ⟨hnb1,hnc1⟩:=n2_ NB1_2;have hcz1:=z3_ BK1)|((with_reducible refine gc_ (f:=41) rfl ?_);refine gl_ 12 Tryd.func41 #[.agg #[.int .i64 a0_0,.bool a0_1,.slice A0_2 l0_2.length c0_2],.int .i64 a1] ?_;(with_reducible refine (bf.calls k a0_0 a0_1 _ _ l0_2 a1 false _ ?_ ?_ A2.out).mono ?_);exact bn;exact HC0_2.out;rintro e w3 ⟨rfl,hb⟩;refine ⟨_,rfl,?_⟩;replace BK1:=k1_ BK1 hb;replace BK2:=k1_ BK2 hb;replace HB:=hb_ hb aY;(try clear hb);have hcz2:=z3_ BK2))
  refine bodyPost_ret (cY rfl _ _ gb2 26 #[.int .i64 0,.bool false,.slice none 0 0] (0,0) _ rfl (u1_ BK2) Tryd.underlying26 rfl bS) rfl ?_
  exact ⟨_,bc,iu,aY⟩
 subst c1;rw [if_pos rfl] at H;obtain ⟨⟨t4,t5⟩,A4,H⟩:=o1_ H;obtain ⟨t2,A6,H⟩:=o1_ H;obtain ⟨⟨t6,t7⟩,A8,H⟩:=o1_ H
 by_cases c2:t7=true
 case neg =>
  obtain rfl:=bf_.mpr c2;rw [if_neg ft_] at H;simp only [sj_,pj_] at H;obtain ⟨rfl,rfl,rfl,rfl⟩:=H;go_enter Tryd.func8,Tryd.ntmps8
  try go_wp2_with (first|((with_reducible refine gd_ (N:=3) rfl ?_);refine bx_ 3 #[.int .i64 a0_0,.bool a0_1,.slice A0_2 l0_2.length c0_2] 26 ?_;intro gb1 hg w1 BK1 hb;have GW1:=ge_ hg am;have GE1:=GW1;replace HB:=hb_ hb am;clear hb hg)|((with_reducible refine gd_ (N:=6) rfl ?_);refine bx_ 6 #[.int .i64 0,.bool false,.slice none 0 0] 26 ?_;intro gb2 hg w2 BK2 hb;have GW2:=ge_ hg ab;have GE2:=GW2;replace HB:=hb_ hb ab;obtain ⟨NB1_2,NB2_1⟩:=nn_ hg BK1;replace BK1:=k1_ BK1 hb;clear hb hg;obtain ⟨hnb1,hnc1⟩:=n2_ NB1_2;have hcz1:=z3_ BK1)|((with_reducible refine gc_ (f:=41) rfl ?_);refine gl_ 12 Tryd.func41 #[.agg #[.int .i64 a0_0,.bool a0_1,.slice A0_2 l0_2.length c0_2],.int .i64 a1] ?_;(with_reducible refine (bf.calls k a0_0 a0_1 _ _ l0_2 a1 true _ ?_ ?_ A2.out).mono ?_);exact bn;exact HC0_2.out;rintro e w3 ⟨rfl,hb⟩;refine ⟨_,rfl,?_⟩;replace BK1:=k1_ BK1 hb;replace BK2:=k1_ BK2 hb;replace HB:=hb_ hb aY;(try clear hb)))
  replace BK1:=A0_ (kd_ BK1.out);replace BK2:=A0_ (kd_ BK2.out);replace HB:=A0_ (bd_ HB.out)
  refine s3_ 12 [] BK1 aU.tab3 aU.bits3 (fun hHeld HT_ HW_=>?_)
  generalize w3.drew=w4 at BK1 BK2 HB hHeld ⊢
  refine pu_ 4 20 ?_
  refine pu_ 5 21 ?_
  refine tk_ 0 16 hHeld ?_
  refine tk_ 2 18 hHeld ?_
  refine on_ 1 (some 17) (fun K hK=>?_)
  refine gs_ Tryd.func42 #[.agg #[.int .i64 a0_0,.bool a0_1,.slice A0_2 l0_2.length c0_2]] ?_
  with_reducible refine (bd.calls a0_0 a0_1 _ _ l0_2 t4 t5 _ ?_ ?_ A4.out).mono ?_
  exact bn
  exact HC0_2.out
  rintro e w5 ⟨rfl,hb⟩
  refine ⟨_,rfl,?_⟩
  replace BK1:=k1_ BK1 hb;replace BK2:=k1_ BK2 hb;replace HB:=hb_ hb aY
  (try clear hb)
  refine hK.out _ _ (c3_ BK1) (fun hHeld=>?_)
  clear hK K
  refine nm_ 17 ?_
  refine on_ 3 (some 19) (fun K hK=>?_)
  refine gs_ Tryd.func44 #[.agg #[.int .i64 a0_0,.bool a0_1,.slice A0_2 l0_2.length c0_2]] ?_
  with_reducible refine (a7.calls k a0_0 a0_1 _ _ l0_2 t2 _ ?_ ?_ A6.out).mono ?_
  exact bn
  exact HC0_2.out
  rintro e w6 ⟨rfl,hb⟩
  refine ⟨_,rfl,?_⟩
  replace BK1:=k1_ BK1 hb;replace BK2:=k1_ BK2 hb;replace HB:=hb_ hb aY
  (try clear hb)
  refine hK.out _ _ (c3_ BK1) (fun hHeld=>?_)
  clear hK K
  refine nm_ 19 ?_
  refine on_ 6 (some 22) (fun K hK=>?_)
  refine gs_ Tryd.func43 #[.agg #[.int .i64 t4,.bool t5],.int .u32 t2,.int .i64 a1,.int .i64 a2] ?_
  with_reducible refine (ar.calls k t4 t5 t2 a1 a2 t6 false _ A8.out).mono ?_
  rintro e w7 ⟨rfl,hb⟩
  refine ⟨_,rfl,?_⟩
  replace BK1:=k1_ BK1 hb;replace BK2:=k1_ BK2 hb;replace HB:=hb_ hb aY
  (try clear hb)
  refine hK.out _ _ (c3_ BK1) (fun hHeld=>?_)
  clear hK K
  refine nm_ 22 ?_
  refine pu_ 7 15 ?_
  refine pu_ 8 23 ?_
  refine pu_ 9 24 ?_
  refine pu_ 10 8 ?_
  refine pu_ 11 9 ?_
  refine dn_ ?_
  have hcz2:=z3_ BK2
  try go_wp2
  refine bodyPost_ret (cY rfl _ _ gb2 26 #[.int .i64 0,.bool false,.slice none 0 0] (0,0) _ rfl (u1_ BK2) Tryd.underlying26 rfl bS) rfl ?_
  exact ⟨_,bc,iu,aY⟩
 subst c2;rw [if_pos rfl] at H;obtain ⟨⟨t8,t9⟩,A10,H⟩:=o1_ H;obtain ⟨t3,A12,H⟩:=o1_ H;obtain ⟨⟨t10,t11,t12⟩,A14,H⟩:=o1_ H;replace H:(some (t10,t11,t12,true))=some (r1,r2,r3,r4):=H;simp only [sj_,pj_] at H;obtain ⟨rfl,rfl,rfl,rfl⟩:=H;go_enter Tryd.func8,Tryd.ntmps8
 try go_wp2_with (first|((with_reducible refine gd_ (N:=3) rfl ?_);refine bx_ 3 #[.int .i64 a0_0,.bool a0_1,.slice A0_2 l0_2.length c0_2] 26 ?_;intro gb1 hg w1 BK1 hb;have GW1:=ge_ hg am;have GE1:=GW1;replace HB:=hb_ hb am;clear hb hg)|((with_reducible refine gd_ (N:=6) rfl ?_);refine bx_ 6 #[.int .i64 0,.bool false,.slice none 0 0] 26 ?_;intro gb2 hg w2 BK2 hb;have GW2:=ge_ hg ab;have GE2:=GW2;replace HB:=hb_ hb ab;obtain ⟨NB1_2,NB2_1⟩:=nn_ hg BK1;replace BK1:=k1_ BK1 hb;clear hb hg;obtain ⟨hnb1,hnc1⟩:=n2_ NB1_2;have hcz1:=z3_ BK1)|((with_reducible refine gc_ (f:=41) rfl ?_);refine gl_ 12 Tryd.func41 #[.agg #[.int .i64 a0_0,.bool a0_1,.slice A0_2 l0_2.length c0_2],.int .i64 a1] ?_;(with_reducible refine (bf.calls k a0_0 a0_1 _ _ l0_2 a1 true _ ?_ ?_ A2.out).mono ?_);exact bn;exact HC0_2.out;rintro e w3 ⟨rfl,hb⟩;refine ⟨_,rfl,?_⟩;replace BK1:=k1_ BK1 hb;replace BK2:=k1_ BK2 hb;replace HB:=hb_ hb aY;(try clear hb)))
 replace BK1:=A0_ (kd_ BK1.out);replace BK2:=A0_ (kd_ BK2.out);replace HB:=A0_ (bd_ HB.out)
 refine s3_ 12 [] BK1 aU.tab3 aU.bits3 (fun hHeld HT_ HW_=>?_)
 generalize w3.drew=w4 at BK1 BK2 HB hHeld ⊢
 refine pu_ 4 20 ?_
 refine pu_ 5 21 ?_
 refine tk_ 0 16 hHeld ?_
 refine tk_ 2 18 hHeld ?_
 refine on_ 1 (some 17) (fun K hK=>?_)
 refine gs_ Tryd.func42 #[.agg #[.int .i64 a0_0,.bool a0_1,.slice A0_2 l0_2.length c0_2]] ?_
 with_reducible refine (bd.calls a0_0 a0_1 _ _ l0_2 t4 t5 _ ?_ ?_ A4.out).mono ?_
 exact bn
 exact HC0_2.out
 rintro e w5 ⟨rfl,hb⟩
 refine ⟨_,rfl,?_⟩
 replace BK1:=k1_ BK1 hb;replace BK2:=k1_ BK2 hb;replace HB:=hb_ hb aY
 (try clear hb)
 refine hK.out _ _ (c3_ BK1) (fun hHeld=>?_)
 clear hK K
 refine nm_ 17 ?_
 refine on_ 3 (some 19) (fun K hK=>?_)
 refine gs_ Tryd.func44 #[.agg #[.int .i64 a0_0,.bool a0_1,.slice A0_2 l0_2.length c0_2]] ?_
 with_reducible refine (a7.calls k a0_0 a0_1 _ _ l0_2 t2 _ ?_ ?_ A6.out).mono ?_
 exact bn
 exact HC0_2.out
 rintro e w6 ⟨rfl,hb⟩
 refine ⟨_,rfl,?_⟩
 replace BK1:=k1_ BK1 hb;replace BK2:=k1_ BK2 hb;replace HB:=hb_ hb aY
 (try clear hb)
 refine hK.out _ _ (c3_ BK1) (fun hHeld=>?_)
 clear hK K
 refine nm_ 19 ?_
 refine on_ 6 (some 22) (fun K hK=>?_)
 refine gs_ Tryd.func43 #[.agg #[.int .i64 t4,.bool t5],.int .u32 t2,.int .i64 a1,.int .i64 a2] ?_
 with_reducible refine (ar.calls k t4 t5 t2 a1 a2 t6 true _ A8.out).mono ?_
 rintro e w7 ⟨rfl,hb⟩
 refine ⟨_,rfl,?_⟩
 replace BK1:=k1_ BK1 hb;replace BK2:=k1_ BK2 hb;replace HB:=hb_ hb aY
 (try clear hb)
 refine hK.out _ _ (c3_ BK1) (fun hHeld=>?_)
 clear hK K
 refine nm_ 22 ?_
 refine pu_ 7 15 ?_
 refine pu_ 8 23 ?_
 refine pu_ 9 24 ?_
 refine pu_ 10 8 ?_
 refine pu_ 11 9 ?_
 refine dn_ ?_
 try go_wp2
 replace BK1:=A0_ (kd_ BK1.out);replace BK2:=A0_ (kd_ BK2.out);replace HB:=A0_ (bd_ HB.out)
 refine s3_ 9 [] BK1 aU.tab6 aU.bits6 (fun hHeld HT_ HW_=>?_)
 generalize w7.drew=w8 at BK1 BK2 HB hHeld ⊢
 refine pu_ 4 32 ?_
 refine tk_ 0 28 hHeld ?_
 refine tk_ 2 30 hHeld ?_
 refine on_ 1 (some 29) (fun K hK=>?_)
 refine gs_ Tryd.func42 #[.agg #[.int .i64 a0_0,.bool a0_1,.slice A0_2 l0_2.length c0_2]] ?_
 with_reducible refine (bd.calls a0_0 a0_1 _ _ l0_2 t8 t9 _ ?_ ?_ A10.out).mono ?_
 exact bn
 exact HC0_2.out
 rintro e w9 ⟨rfl,hb⟩
 refine ⟨_,rfl,?_⟩
 replace BK1:=k1_ BK1 hb;replace BK2:=k1_ BK2 hb;replace HB:=hb_ hb aY
 (try clear hb)
 refine hK.out _ _ (c3_ BK1) (fun hHeld=>?_)
 clear hK K
 refine nm_ 29 ?_
 refine on_ 3 (some 31) (fun K hK=>?_)
 refine gs_ Tryd.func44 #[.agg #[.int .i64 a0_0,.bool a0_1,.slice A0_2 l0_2.length c0_2]] ?_
 with_reducible refine (a7.calls k a0_0 a0_1 _ _ l0_2 t3 _ ?_ ?_ A12.out).mono ?_
 exact bn
 exact HC0_2.out
 rintro e w10 ⟨rfl,hb⟩
 refine ⟨_,rfl,?_⟩
 replace BK1:=k1_ BK1 hb;replace BK2:=k1_ BK2 hb;replace HB:=hb_ hb aY
 (try clear hb)
 refine hK.out _ _ (c3_ BK1) (fun hHeld=>?_)
 clear hK K
 refine nm_ 31 ?_
 refine pu_ 5 33 ?_
 refine on_ 6 (some 34) (fun K hK=>?_)
 refine gs_ Tryd.func45 #[.agg #[.int .i64 t8,.bool t9],.int .u32 (Go.bits .or .u32 t3 t6)] ?_
 with_reducible refine (bE.calls k t8 t9 (Go.bits .or .u32 t3 t6) t10 t11 t12 _ nK A14.out).mono ?_
 rintro e w11 ⟨v1,rfl,ho0,hb⟩
 refine ⟨_,rfl,?_⟩
 have HO1:=A0_ (Kd.R_lower ho0 (bz_ aY));replace BK1:=k1_ BK1 hb;replace BK2:=k1_ BK2 hb;replace HB:=hb_ hb aY
 (try clear hb ho0)
 obtain ⟨Ao1,co1,eo1⟩:=Kd.R_slice HO1.out
 (first|subst eo1|(injection eo1 with f1_ f2_ f3_;have f4_:=f1_.symm;have f5_:=f3_.symm;clear f1_ f2_ f3_;subst f4_;subst f5_))
 refine hK.out _ _ (c3_ BK1) (fun hHeld=>?_)
 clear hK K
 refine nm_ 34 ?_
 refine on_ 7 none (fun K hK=>?_)
 have hs26:=y_ BK2 0;have hfs26:=kf_ BK2.out 0;obtain ⟨hns1_0,hms1_0⟩:=n2_ NB1_2;have hs27:=y_ BK2 1;have hfs27:=kf_ BK2.out 1;obtain ⟨hns2_0,hms2_0⟩:=n2_ NB1_2;have hs29:=y_ BK2 2;have hfs29:=kf_ BK2.out 2;obtain ⟨hns3_0,hms3_0⟩:=n2_ NB1_2
 refine fF (w1:=?_) (by rfl) rfl ?_ ?_
 rotate_left
 ·go_simp
  rfl
 refine hK.out _ _ ⟨((av (p:=⟨gb2,_,none⟩) NB1_2.out _).trans (((av (p:=⟨gb2,_,none⟩) NB1_2.out _).trans (((av (p:=⟨gb2,_,none⟩) NB1_2.out _).trans (hHeld.1)))))),((av (p:=⟨gb2,_,none⟩) NB1_2.out _).trans (((av (p:=⟨gb2,_,none⟩) NB1_2.out _).trans (((av (p:=⟨gb2,_,none⟩) NB1_2.out _).trans (hHeld.2.1)))))),((av (p:=⟨gb2,_,none⟩) NB1_2.out _).trans (((av (p:=⟨gb2,_,none⟩) NB1_2.out _).trans (((av (p:=⟨gb2,_,none⟩) NB1_2.out _).trans (hHeld.2.2))))))⟩ (fun hHeld=>?_)
 clear hK K
 refine pu_ 8 7 ?_
 refine dn_ ?_
 try go_wp2
 refine bodyPost_ret (cY rfl _ _ gb2 26 #[.int .i64 t10,.bool t11,.slice Ao1 t12.length co1] (0,0) _ rfl (u1_ BK2) Tryd.underlying26 rfl bS) rfl ?_
 exact ⟨_,bc,kj,aY⟩

def fO.f (l0:List Int):Option (Bool):=some (decide ((l0.length:Int) > 65536))
theorem fO.calls (A0:Option Addr) (c0:Nat) (l0:List Int) (r:Bool) (w:World) (hr0:Kd.C (Kd.int .u8) w A0 l0.length l0) (hc0:l0.length≤c0) (H:fO.f l0=some r) :
  Calls Tryd.prog 12 #[.slice A0 l0.length c0] w fun e w'=>e=.returned (.bool r)∧Drawn0 w w':=by
 have HR0:=A0_ hr0;have HC0:=A0_ hc0;clear hr0 hc0;unfold fO.f at H;obtain rfl:=si_ H;go_enter Tryd.func12,Tryd.ntmps12
 go_wp2
 go_ret
 exact ⟨eq,cT⟩

/-- A state of type 77 at block g of W; what its slices lead to came in by w0. -/
def al (w0 W:World) (g:Nat) (f0:List Int) (f1:Int) (f2:Int):Prop:=∃ A0 c0,W.heap[g]?=some (.cells #[.slice A0 f0.length c0,.int .i64 f1,.int .u64 f2] 77 (0,0))∧w0.heap.size≤g∧Kd.C (Kd.int .u8) w0 A0 f0.length f0
theorem al.grown {w0 W:World} {g:Nat} {f0:List Int} {f1:Int} {f2:Int} {W1:World} {row:Option Nat} (h:al w0 W g f0 f1 f2) (hw:W.grownBy W1 row) (hne:some g≠row):al w0 W1 g f0 f1 f2:=by
 obtain ⟨A1,c1,hb,hg,hr0⟩:=h
 exact ⟨A1,c1,a6 hb hw hne,hg,hr0⟩
theorem al.own_neN {w0 W:World} {g:Nat} {f0:List Int} {f1:Int} {f2:Int} {α:Type} {d:Kd α} {e:Nat} {base:Nat} {ok:Nat→Prop} {v:Value} {xs:List α} (h:al w0 W g f0 f1 f2) (ho:Kd.N d e W base ok v xs) (ht:e≠77):some g≠v.ownBlock:=by
 obtain ⟨A1,c1,hb,hg,hr0⟩:=h
 exact Kd.N_ne ho hb ht
theorem al.fresh {w0 W:World} {g:Nat} {f0:List Int} {f1:Int} {f2:Int} (h:al w0 W g f0 f1 f2):∀ k,W.heap.size≤k→k≠g:=by
 obtain ⟨A1,c1,hb,hg,hr0⟩:=h
 exact Kd.freshB hb
theorem al.kept {w0 W:World} {g:Nat} {f0:List Int} {f1:Int} {f2:Int} {W1:World} {S:Nat→Prop} (h:al w0 W g f0 f1 f2) (hk:dn W W1 S) (hne:¬ S g):al w0 W1 g f0 f1 f2:=by
 obtain ⟨A1,c1,hb,hg,hr0⟩:=h
 exact ⟨A1,c1,e6 hb hk hne,hg,hr0⟩
theorem al.below {w0 W:World} {g:Nat} {f0:List Int} {f1:Int} {f2:Int} {W1:World} (h:al w0 W g f0 f1 f2) (hw:Below W.heap.size W W1):al w0 W1 g f0 f1 f2:=h.grown (gV hw none) bx
theorem al.alloc {w0 W:World} {g:Nat} {f0:List Int} {f1:Int} {f2:Int} (h:al w0 W g f0 f1 f2) (o:Obj):al w0 (W.alloc o) g f0 f1 f2:=h.below (ba_ (Below.refl _ _) o)
theorem al.drewN {w0 W:World} {g:Nat} {f0:List Int} {f1:Int} {f2:Int} (h:al w0 W g f0 f1 f2) (m:Nat):al w0 (W.drewN m) g f0 f1 f2:=h
theorem al.drew {w0 W:World} {g:Nat} {f0:List Int} {f1:Int} {f2:Int} (h:al w0 W g f0 f1 f2):al w0 W.drew g f0 f1 f2:=h
theorem al.at_ {w0 W:World} {g:Nat} {f0:List Int} {f1:Int} {f2:Int} {w':World} {m:Nat} (hq:W.drewN m=w') (h:al w0 W g f0 f1 f2):al w0 w' g f0 f1 f2:=by subst hq;exact al.drewN h m
theorem al.apart {w0 W:World} {g:Nat} {f0:List Int} {f1:Int} {f2:Int} {α:Type} {d:Kd α} {e:Nat} {base:Nat} {ok:Nat→Prop} {v:Value} {xs:List α} (h:al w0 W g f0 f1 f2) (ho:d.R e W base ok v xs) (ht:∀ q,q ∈ e :: d.E→q≠77):d.R e W base (fun k=>ok k∧k≠g) v xs:=by
 obtain ⟨A1,c1,hb,hg,hr0⟩:=h
 exact Kd.R_types ho hb ht
theorem al.own_ne {w0 W:World} {g:Nat} {f0:List Int} {f1:Int} {f2:Int} {α:Type} {d:Kd α} {e:Nat} {base:Nat} {ok:Nat→Prop} {v:Value} {xs:List α} (h:al w0 W g f0 f1 f2) (ho:d.R e W base ok v xs) (ht:e≠77):some g≠v.ownBlock:=by
 obtain ⟨A1,c1,hb,hg,hr0⟩:=h
 exact Kd.R_ne ho hb ht
theorem al.apartQ {w0 W:World} {g:Nat} {f0:List Int} {f1:Int} {f2:Int} {α:Type} {d:Kd α} {e:Nat} {base:Nat} {ok:Nat→Prop} {v:Value} {xs:List α} (h:al w0 W g f0 f1 f2) (ho:d.Q e W base ok v xs) (ht:∀ q,q ∈ e :: d.E→q≠77):d.Q e W base (fun k=>ok k∧k≠g) v xs:=by
 obtain ⟨A1,c1,hb,hg,hr0⟩:=h
 exact Kd.Q_types ho hb ht
theorem al.own_neQ {w0 W:World} {g:Nat} {f0:List Int} {f1:Int} {f2:Int} {α:Type} {d:Kd α} {e:Nat} {base:Nat} {ok:Nat→Prop} {v:Value} {xs:List α} (h:al w0 W g f0 f1 f2) (ho:d.Q e W base ok v xs) (ht:e≠77):some g≠v.ownBlock:=by
 obtain ⟨A1,c1,hb,hg,hr0⟩:=h
 exact Kd.Q_ne ho hb ht
theorem al.apartS {w0 W:World} {g:Nat} {f0:List Int} {f1:Int} {f2:Int} {α:Type} {d:Kd α} {e:Nat} {base:Nat} {ok:Nat→Prop} {v:Value} {xs:List α} (h:al w0 W g f0 f1 f2) (ho:d.S e W base ok v xs) (ht:∀ q,q ∈ e :: d.E→q≠77):d.S e W base (fun k=>ok k∧k≠g) v xs:=by
 obtain ⟨A1,c1,hb,hg,hr0⟩:=h
 exact Kd.S_types ho hb ht
theorem al.own_neS {w0 W:World} {g:Nat} {f0:List Int} {f1:Int} {f2:Int} {α:Type} {d:Kd α} {e:Nat} {base:Nat} {ok:Nat→Prop} {v:Value} {xs:List α} (h:al w0 W g f0 f1 f2) (ho:d.S e W base ok v xs) (ht:e≠77):some g≠v.ownBlock:=by
 obtain ⟨A1,c1,hb,hg,hr0⟩:=h
 exact Kd.S_ne ho hb ht
theorem al.lt {w0 W:World} {g:Nat} {f0:List Int} {f1:Int} {f2:Int} (h:al w0 W g f0 f1 f2):g<W.heap.size:=by
 obtain ⟨A1,c1,hb,hg,hr0⟩:=h
 exact fU hb
theorem al.ge {w0 W:World} {g:Nat} {f0:List Int} {f1:Int} {f2:Int} (h:al w0 W g f0 f1 f2):w0.heap.size≤g:=by
 obtain ⟨A1,c1,hb,hg,hr0⟩:=h
 exact hg
theorem al.ne_blk {w0 W:World} {g:Nat} {f0:List Int} {f1:Int} {f2:Int} {a:Nat} {cs:Array Value} {t:TypeId} {fr:Nat × Nat} (h:al w0 W g f0 f1 f2) (hb2:W.heap[a]?=some (.cells cs t fr)) (ht:t≠77):g≠a:=by
 obtain ⟨A1,c1,hb,hg,hr0⟩:=h;rintro rfl;rw [hb] at hb2
 injection hb2 with hb2
 injection hb2 with _ ht2
 exact ht ht2.symm
theorem al.far {w0 W:World} {g:Nat} {f0:List Int} {f1:Int} {f2:Int} {p:Addr} (h:al w0 W g f0 f1 f2) (hne:g≠p.block) (u:Value):al w0 (W.setCell p u) g f0 f1 f2:=by
 obtain ⟨A1,c1,hb,hg,hr0⟩:=h
 exact ⟨A1,c1,ec hb hne u,hg,hr0⟩
theorem hH {W:World} {g:Nat} {A0:Option Addr} {c0:Nat} {f0:List Int} {f1:Int} {f2:Int} (h:W.heap[g]?=some (.cells #[.slice A0 f0.length c0,.int .i64 f1,.int .u64 f2] 77 (0,0))):W.cell? ⟨g,0,none⟩=some (.slice A0 f0.length c0):=(kc_ h 0).trans rfl
theorem hJ {W:World} {g:Nat} {A0:Option Addr} {c0:Nat} {f0:List Int} {f1:Int} {f2:Int} (h:W.heap[g]?=some (.cells #[.slice A0 f0.length c0,.int .i64 f1,.int .u64 f2] 77 (0,0))):W.cell? ⟨g,1,none⟩=some (.int .i64 f1):=(kc_ h 1).trans rfl
theorem al.set_1 {w0 W:World} {g:Nat} {f0:List Int} {f1:Int} {f2:Int} (h:al w0 W g f0 f1 f2) (x:Int):al w0 (W.setCell ⟨g,1,none⟩ (.int .i64 x)) g f0 x f2:=by
 obtain ⟨A1,c1,hb,hg,hr0⟩:=h
 exact ⟨A1,c1,by simpa using lM hb 1 (.int .i64 x),hg,hr0⟩
theorem hO {W:World} {g:Nat} {A0:Option Addr} {c0:Nat} {f0:List Int} {f1:Int} {f2:Int} (h:W.heap[g]?=some (.cells #[.slice A0 f0.length c0,.int .i64 f1,.int .u64 f2] 77 (0,0))):W.cell? ⟨g,2,none⟩=some (.int .u64 f2):=(kc_ h 2).trans rfl
theorem al.set_2 {w0 W:World} {g:Nat} {f0:List Int} {f1:Int} {f2:Int} (h:al w0 W g f0 f1 f2) (x:Int):al w0 (W.setCell ⟨g,2,none⟩ (.int .u64 x)) g f0 f1 x:=by
 obtain ⟨A1,c1,hb,hg,hr0⟩:=h
 exact ⟨A1,c1,by simpa using lM hb 2 (.int .u64 x),hg,hr0⟩
theorem al.new (w0 W:World) (A0:Option Addr) (c0:Nat) (f0:List Int) (f1:Int) (f2:Int) (hB:Below w0.heap.size w0 W) (hr0:Kd.C (Kd.int .u8) w0 A0 f0.length f0):al w0 (W.alloc (.cells #[.slice A0 f0.length c0,.int .i64 f1,.int .u64 f2] 77)) W.heap.size f0 f1 f2:=⟨A0,c0,by simpa using heap_alloc_new W _,hB.size,hr0⟩

def cN.f (s0_0:List Int) (s0_1:Int) (s0_2:Int):Option (Int × Int × Int):=if s0_1<(s0_0.length:Int) then (if 0≤s0_1 then (if (wrap64 (s0_1+1))≤(s0_0.length:Int) then (some (wrap64 (rd s0_0 s0_1),wrap64 (s0_1+1),IntKind.u64.wrap ((IntKind.u64.wrap ((IntKind.u64.wrap (s0_2 * 6364136223846793005))+(IntKind.u64.wrap (wrap64 (rd s0_0 s0_1)))))+462197))) else (some (wrap64 (Go.bits .and .u64 ((IntKind.u64.wrap ((IntKind.u64.wrap ((IntKind.u64.wrap (s0_2 * 6364136223846793005))+(IntKind.u64.wrap (wrap64 (rd s0_0 s0_1)))))+462197)) / 1099511627776) 255),wrap64 (s0_1+1),IntKind.u64.wrap ((IntKind.u64.wrap ((IntKind.u64.wrap (s0_2 * 6364136223846793005))+(IntKind.u64.wrap (wrap64 (rd s0_0 s0_1)))))+462197)))) else (none)) else (if (wrap64 (s0_1+1))≤(s0_0.length:Int) then (some (0,wrap64 (s0_1+1),IntKind.u64.wrap ((IntKind.u64.wrap ((IntKind.u64.wrap (s0_2 * 6364136223846793005))+0))+462197))) else (some (wrap64 (Go.bits .and .u64 ((IntKind.u64.wrap ((IntKind.u64.wrap ((IntKind.u64.wrap (s0_2 * 6364136223846793005))+0))+462197)) / 1099511627776) 255),wrap64 (s0_1+1),IntKind.u64.wrap ((IntKind.u64.wrap ((IntKind.u64.wrap (s0_2 * 6364136223846793005))+0))+462197))))
theorem cN.calls (g:Nat) (s0_0:List Int) (s0_1:Int) (s0_2:Int) (r1:Int) (r2:Int) (r3:Int) (w0 w:World) (hI:al w0 w g s0_0 s0_1 s0_2) (hB:Below w0.heap.size w0 w) (H:cN.f s0_0 s0_1 s0_2=some (r1,r2,r3)) :
  Calls Tryd.prog 89 #[.pointer (some ⟨g,0,none⟩)] w fun e w'=>e=.returned (.int .i64 r1)∧al w0 w' g s0_0 r2 r3∧Below w0.heap.size w0 w'∧ah w w' g none:=by
 have HI0:=A0_ hI;have HK:=A0_ (ah.refl w g none);have HL:=A0_ hB.size;clear hI;have HW0:=A0_ hB.size;have HB:=A0_ hB;clear hB;unfold cN.f at H
 by_cases c1:s0_1<(s0_0.length:Int)
 case neg =>
  rw [if_neg c1] at H;have c1b0:decide (s0_1<(s0_0.length:Int))=false:=decide_eq_false c1;clear c1
  by_cases c2:(wrap64 (s0_1+1))≤(s0_0.length:Int)
  ·rw [if_pos c2] at H
   have c2b0:decide ((wrap64 (s0_1+1))≤(s0_0.length:Int))=true:=dt_ c2;clear c2;simp only [sj_,pj_] at H;obtain ⟨rfl,rfl,rfl⟩:=H;obtain ⟨ASz8_0,cSz8_0,HGz8,hgz8,HSz8_0⟩:=HI0.out;have hcz1_0:=hH HGz8;have hcz1_1:=hJ HGz8;have hcz1_2:=hO HGz8;have hfz1_1:=kf_ HGz8 1;have hfz1_2:=kf_ HGz8 2;clear HGz8 hgz8;go_enter Tryd.func89,Tryd.ntmps89
   go_wp2
   repeat (go_quiet (fail);try go_wp2)
   go_ret
   exact ⟨bc,nL,dq,df⟩
  rw [if_neg c2] at H;have c2b0:decide ((wrap64 (s0_1+1))≤(s0_0.length:Int))=false:=decide_eq_false c2;clear c2;simp only [sj_,pj_] at H;obtain ⟨rfl,rfl,rfl⟩:=H;obtain ⟨ASz9_0,cSz9_0,HGz9,hgz9,HSz9_0⟩:=HI0.out;have hcz1_0:=hH HGz9;have hcz1_1:=hJ HGz9;have hcz1_2:=hO HGz9;have hfz1_1:=kf_ HGz9 1;have hfz1_2:=kf_ HGz9 2;clear HGz9 hgz9;go_enter Tryd.func89,Tryd.ntmps89
  go_wp2
  repeat (go_quiet (fail);try go_wp2)
  go_ret
  exact ⟨bc,nL,dq,df⟩
 rw [if_pos c1] at H;have c1b0:decide (s0_1<(s0_0.length:Int))=true:=dt_ c1;clear c1;obtain ⟨c2b0,H⟩:=i1_ H
 by_cases c3:(wrap64 (s0_1+1))≤(s0_0.length:Int)
 ·rw [if_pos c3] at H
  have c3b0:decide ((wrap64 (s0_1+1))≤(s0_0.length:Int))=true:=dt_ c3;clear c3;simp only [sj_,pj_] at H;obtain ⟨rfl,rfl,rfl⟩:=H;obtain ⟨ASz5_0,cSz5_0,HGz5,hgz5,HSz5_0⟩:=HI0.out;have hcz1_0:=hH HGz5;have hcz1_1:=hJ HGz5;have hcz1_2:=hO HGz5;have hfz1_1:=kf_ HGz5 1;have hfz1_2:=kf_ HGz5 2;clear HGz5 hgz5;have p1:0≤(s0_1:Int):=od_ aE;have q1:s0_1<(s0_0.length:Int):=od_ aE;obtain ⟨ad1,e1,hx1_0⟩:=Kd.at_int HSz5_0 s0_1 p1 q1;cases e1;replace hx1_0:=eK HB.out hx1_0;replace p1:=eq_true p1;replace q1:=eq_true q1;go_enter Tryd.func89,Tryd.ntmps89
  go_wp2
  repeat (go_quiet (fail);try go_wp2)
  go_ret
  exact ⟨bc,nL,dq,df⟩
 rw [if_neg c3] at H;have c3b0:decide ((wrap64 (s0_1+1))≤(s0_0.length:Int))=false:=decide_eq_false c3;clear c3;simp only [sj_,pj_] at H;obtain ⟨rfl,rfl,rfl⟩:=H;obtain ⟨ASz6_0,cSz6_0,HGz6,hgz6,HSz6_0⟩:=HI0.out;have hcz1_0:=hH HGz6;have hcz1_1:=hJ HGz6;have hcz1_2:=hO HGz6;have hfz1_1:=kf_ HGz6 1;have hfz1_2:=kf_ HGz6 2;clear HGz6 hgz6;have p1:0≤(s0_1:Int):=od_ aE;have q1:s0_1<(s0_0.length:Int):=od_ aE;obtain ⟨ad1,e1,hx1_0⟩:=Kd.at_int HSz6_0 s0_1 p1 q1;cases e1;replace hx1_0:=eK HB.out hx1_0;replace p1:=eq_true p1;replace q1:=eq_true q1;go_enter Tryd.func89,Tryd.ntmps89
 go_wp2
 repeat (go_quiet (fail);try go_wp2)
 go_ret
 exact ⟨bc,nL,dq,df⟩

def bC.f (s0_0:List Int) (s0_1:Int) (s0_2:Int) (a1:Int):Option (Int × Int × Int):=if a1≤1 then (some (0,s0_1,s0_2)) else ((cN.f s0_0 s0_1 s0_2).bind fun bt280=>(if a1 > 200 then ((cN.f s0_0 bt280.2.1 bt280.2.2).bind fun bt283=>(if a1=0 then (none) else (some (Int.tmod (wrap64 ((wrap64 (bt280.1 * 256))+bt283.1)) a1,bt283.2.1,bt283.2.2)))) else (if a1=0 then (none) else (some (Int.tmod bt280.1 a1,bt280.2.1,bt280.2.2)))))
theorem bC.calls (g:Nat) (s0_0:List Int) (s0_1:Int) (s0_2:Int) (a1:Int) (r1:Int) (r2:Int) (r3:Int) (w0 w:World) (hI:al w0 w g s0_0 s0_1 s0_2) (hB:Below w0.heap.size w0 w) (H:bC.f s0_0 s0_1 s0_2 a1=some (r1,r2,r3)) :
  Calls Tryd.prog 60 #[.pointer (some ⟨g,0,none⟩),.int .i64 a1] w fun e w'=>e=.returned (.int .i64 r1)∧al w0 w' g s0_0 r2 r3∧Below w0.heap.size w0 w'∧ah w w' g none:=by
 have HI0:=A0_ hI;have HK:=A0_ (ah.refl w g none);have HL:=A0_ hB.size;clear hI;have HW0:=A0_ hB.size;have HB:=A0_ hB;clear hB;unfold bC.f at H
 by_cases c1:a1≤1
 ·rw [if_pos c1] at H
  have c1b0:decide (a1≤1)=true:=dt_ c1;clear c1;simp only [sj_,pj_] at H;obtain ⟨rfl,rfl,rfl⟩:=H;go_enter Tryd.func60,Tryd.ntmps60
  go_wp2
  go_ret
  exact ⟨bc,dv,dq,df⟩
 rw [if_neg c1] at H;have c1b0:decide (a1≤1)=false:=decide_eq_false c1;clear c1;obtain ⟨⟨t1,t2,t3⟩,A2,H⟩:=o1_ H
 by_cases c2:a1 > 200
 case neg =>
  rw [if_neg c2] at H;have c2b0:decide (200<a1)=false:=decide_eq_false c2;clear c2
  by_cases c3:a1=0
  ·rw [if_pos c3] at H
   exact absurd H bx
  rw [if_neg c3] at H;obtain ⟨c3b0,c3b1⟩:=ef_ c3;simp only [sj_,pj_] at H;obtain ⟨rfl,rfl,rfl⟩:=H;go_enter Tryd.func60,Tryd.ntmps60
  go_wp2_with (first|((with_reducible refine gc_ (f:=89) rfl ?_);refine gl_ 9 Tryd.func89 #[.pointer (some ⟨g,0,none⟩)] ?_;(with_reducible refine (cN.calls g s0_0 s0_1 s0_2 t1 t2 t3 w0 _ ?_ ?_ A2.out).mono ?_);exact dv;exact dq;rintro e w1 ⟨rfl,hi,hb,hk⟩;refine ⟨_,rfl,?_⟩;replace HK:=A0_ (ah.trans df hk (.inl rfl));replace HB:=A0_ (hb);replace HI0:=A0_ (hi);(try clear hb hk hi)))
  go_ret
  exact ⟨bc,dv,dq,df⟩
 rw [if_pos c2] at H;have c2b0:decide (200<a1)=true:=dt_ c2;clear c2;obtain ⟨⟨t4,t5,t6⟩,A4,H⟩:=o1_ H
 by_cases c3:a1=0
 ·rw [if_pos c3] at H
  exact absurd H bx
 rw [if_neg c3] at H;obtain ⟨c3b0,c3b1⟩:=ef_ c3;simp only [sj_,pj_] at H;obtain ⟨rfl,rfl,rfl⟩:=H;go_enter Tryd.func60,Tryd.ntmps60
 go_wp2_with (first|((with_reducible refine gc_ (f:=89) rfl ?_);refine gl_ 9 Tryd.func89 #[.pointer (some ⟨g,0,none⟩)] ?_;(with_reducible refine (cN.calls g s0_0 s0_1 s0_2 t1 t2 t3 w0 _ ?_ ?_ A2.out).mono ?_);exact dv;exact dq;rintro e w1 ⟨rfl,hi,hb,hk⟩;refine ⟨_,rfl,?_⟩;replace HK:=A0_ (ah.trans df hk (.inl rfl));replace HB:=A0_ (hb);replace HI0:=A0_ (hi);(try clear hb hk hi))|((with_reducible refine gc_ (f:=89) rfl ?_);refine gl_ 15 Tryd.func89 #[.pointer (some ⟨g,0,none⟩)] ?_;(with_reducible refine (cN.calls g s0_0 t2 t3 t4 t5 t6 w0 _ ?_ ?_ A4.out).mono ?_);exact dv;exact dq;rintro e w2 ⟨rfl,hi,hb,hk⟩;refine ⟨_,rfl,?_⟩;replace HK:=A0_ (ah.trans df hk (.inl rfl));replace HB:=A0_ (hb);replace HI0:=A0_ (hi);(try clear hb hk hi)))
 go_ret
 exact ⟨bc,dv,dq,df⟩

def aK.f (s0_0:List Int) (s0_1:Int) (s0_2:Int) (a1:Int):Option (Bool × Int × Int):=(bC.f s0_0 s0_1 s0_2 a1).bind fun bt286=>(some ((bt286.1 == 0),bt286.2.1,bt286.2.2))
theorem aK.calls (g:Nat) (s0_0:List Int) (s0_1:Int) (s0_2:Int) (a1:Int) (r1:Bool) (r2:Int) (r3:Int) (w0 w:World) (hI:al w0 w g s0_0 s0_1 s0_2) (hB:Below w0.heap.size w0 w) (H:aK.f s0_0 s0_1 s0_2 a1=some (r1,r2,r3)) :
  Calls Tryd.prog 59 #[.pointer (some ⟨g,0,none⟩),.int .i64 a1] w fun e w'=>e=.returned (.bool r1)∧al w0 w' g s0_0 r2 r3∧Below w0.heap.size w0 w'∧ah w w' g none:=by
 have HI0:=A0_ hI;have HK:=A0_ (ah.refl w g none);have HL:=A0_ hB.size;clear hI;have HW0:=A0_ hB.size;have HB:=A0_ hB;clear hB;unfold aK.f at H;obtain ⟨⟨t1,t2,t3⟩,A2,H⟩:=o1_ H;replace H:(some ((t1 == 0),t2,t3))=some (r1,r2,r3):=H;simp only [sj_,pj_] at H;obtain ⟨rfl,rfl,rfl⟩:=H;go_enter Tryd.func59,Tryd.ntmps59
 go_wp2_with (first|((with_reducible refine gc_ (f:=60) rfl ?_);refine gl_ 7 Tryd.func60 #[.pointer (some ⟨g,0,none⟩),.int .i64 a1] ?_;(with_reducible refine (bC.calls g s0_0 s0_1 s0_2 a1 t1 t2 t3 w0 _ ?_ ?_ A2.out).mono ?_);exact dv;exact dq;rintro e w1 ⟨rfl,hi,hb,hk⟩;refine ⟨_,rfl,?_⟩;replace HK:=A0_ (ah.trans df hk (.inl rfl));replace HB:=A0_ (hb);replace HI0:=A0_ (hi);(try clear hb hk hi)))
 go_ret
 exact ⟨bc,dv,dq,df⟩

def bq.f (s0_0:List Int) (s0_1:Int) (s0_2:Int) (l1:List Int):Option (Int × Int × Int):=(bC.f s0_0 s0_1 s0_2 (l1.length:Int)).bind fun bt289=>(if 0≤bt289.1 then (if bt289.1<(l1.length:Int) then (some (rd l1 bt289.1,bt289.2.1,bt289.2.2)) else (none)) else (none))
theorem bq.calls (g:Nat) (s0_0:List Int) (s0_1:Int) (s0_2:Int) (A1:Option Addr) (c1:Nat) (l1:List Int) (r1:Int) (r2:Int) (r3:Int) (w0 w:World) (hI:al w0 w g s0_0 s0_1 s0_2) (hB:Below w0.heap.size w0 w) (hr1:Kd.C (Kd.int .i64) w A1 l1.length l1) (hc1:l1.length≤c1) (hf1:∀ ad,A1=some ad→0<l1.length→ad.block≠g) (H:bq.f s0_0 s0_1 s0_2 l1=some (r1,r2,r3)) :
  Calls Tryd.prog 90 #[.pointer (some ⟨g,0,none⟩),.slice A1 l1.length c1] w fun e w'=>e=.returned (.int .i64 r1)∧al w0 w' g s0_0 r2 r3∧Below w0.heap.size w0 w'∧ah w w' g none:=by
 have HR1:=A0_ hr1;have HC1:=A0_ hc1;clear hr1 hc1;have HI0:=A0_ hI;have HK:=A0_ (ah.refl w g none);have HL:=A0_ hB.size;clear hI;have HW0:=A0_ hB.size;have HB:=A0_ hB;clear hB;unfold bq.f at H;obtain ⟨⟨t1,t2,t3⟩,A3,H⟩:=o1_ H;obtain ⟨c2b0,H⟩:=i1_ H;obtain ⟨c3b0,H⟩:=i1_ H;simp only [sj_,pj_] at H;obtain ⟨rfl,rfl,rfl⟩:=H;go_enter Tryd.func90,Tryd.ntmps90
 go_wp2_with (first|((with_reducible refine gc_ (f:=60) rfl ?_);refine gl_ 9 Tryd.func60 #[.pointer (some ⟨g,0,none⟩),.int .i64 (l1.length:Int)] ?_;(with_reducible refine (bC.calls g s0_0 s0_1 s0_2 (l1.length:Int) t1 t2 t3 w0 _ ?_ ?_ A3.out).mono ?_);exact dv;exact dq;rintro e w1 ⟨rfl,hi,hb,hk⟩;refine ⟨_,rfl,?_⟩;replace HK:=A0_ (ah.trans df hk (.inl rfl));replace HB:=A0_ (hb);replace HI0:=A0_ (hi);(try clear hb hk hi);have p1:0≤(t1:Int):=od_ aE;have q1:t1<(l1.length:Int):=od_ aE;obtain ⟨ad1,e1,hx1_0⟩:=Kd.at_int HR1.out t1 p1 q1;cases e1;replace hx1_0:=jk HK.out hx1_0 (by first|(rw [dd];exact hf1 _ rfl bL)|exact hf1 _ rfl bL|exact hf1 ad1 rfl bL);replace p1:=eq_true p1;replace q1:=eq_true q1))
 go_ret
 exact ⟨bc,dv,dq,df⟩

def cu.f (s0_0:List Int) (s0_1:Int) (s0_2:Int):Option (Int × Int × Int):=(aK.f s0_0 s0_1 s0_2 24).bind fun bt293=>(if bt293.1=true then ((bq.f s0_0 bt293.2.1 bt293.2.2 (([0,3,(-1)]:List Int))).bind fun bt299=>(some (bt299.1,bt299.2.1,bt299.2.2))) else ((bC.f s0_0 bt293.2.1 bt293.2.2 2).bind fun bt302=>(some (wrap64 (1+bt302.1),bt302.2.1,bt302.2.2))))
theorem cu.calls (g:Nat) (s0_0:List Int) (s0_1:Int) (s0_2:Int) (r1:Int) (r2:Int) (r3:Int) (w0 w:World) (hI:al w0 w g s0_0 s0_1 s0_2) (hB:Below w0.heap.size w0 w) (H:cu.f s0_0 s0_1 s0_2=some (r1,r2,r3)) :
  Calls Tryd.prog 63 #[.pointer (some ⟨g,0,none⟩)] w fun e w'=>e=.returned (.int .i64 r1)∧al w0 w' g s0_0 r2 r3∧Below w0.heap.size w0 w'∧ah w w' g none:=by
 have HI0:=A0_ hI;have HK:=A0_ (ah.refl w g none);have HL:=A0_ hB.size;clear hI;have HW0:=A0_ hB.size;have HB:=A0_ hB;clear hB;unfold cu.f at H;obtain ⟨⟨t1,t2,t3⟩,A2,H⟩:=o1_ H
 by_cases c1:t1=true
 case neg =>
  obtain rfl:=bf_.mpr c1;rw [if_neg ft_] at H;obtain ⟨⟨t4,t5,t6⟩,A4,H⟩:=o1_ H;replace H:(some (wrap64 (1+t4),t5,t6))=some (r1,r2,r3):=H;simp only [sj_,pj_] at H;obtain ⟨rfl,rfl,rfl⟩:=H;go_enter Tryd.func63,Tryd.ntmps63
  go_wp2_with (first|((with_reducible refine gc_ (f:=59) rfl ?_);refine gl_ 4 Tryd.func59 #[.pointer (some ⟨g,0,none⟩),.int .i64 24] ?_;(with_reducible refine (aK.calls g s0_0 s0_1 s0_2 24 false t2 t3 w0 _ ?_ ?_ A2.out).mono ?_);exact dv;exact dq;rintro e w1 ⟨rfl,hi,hb,hk⟩;refine ⟨_,rfl,?_⟩;replace HK:=A0_ (ah.trans df hk (.inl rfl));replace HB:=A0_ (hb);replace HI0:=A0_ (hi);(try clear hb hk hi))|((with_reducible refine gc_ (f:=60) rfl ?_);refine gl_ 9 Tryd.func60 #[.pointer (some ⟨g,0,none⟩),.int .i64 2] ?_;(with_reducible refine (bC.calls g s0_0 t2 t3 2 t4 t5 t6 w0 _ ?_ ?_ A4.out).mono ?_);exact dv;exact dq;rintro e w2 ⟨rfl,hi,hb,hk⟩;refine ⟨_,rfl,?_⟩;replace HK:=A0_ (ah.trans df hk (.inl rfl));replace HB:=A0_ (hb);replace HI0:=A0_ (hi);(try clear hb hk hi)))
  go_ret
  exact ⟨bc,dv,dq,df⟩
 subst c1;rw [if_pos rfl] at H;obtain ⟨y1,hy1⟩:∃ y_:List Int,y_=(([0,3,(-1)]:List Int)):=⟨_,rfl⟩;replace H:((bq.f s0_0 t2 t3 y1).bind fun bt2=>(some (bt2.1,bt2.2.1,bt2.2.2)))=some (r1,r2,r3):=dp;have Ny1:=A0_ hy1;clear hy1;obtain ⟨⟨t4,t5,t6⟩,A4,H⟩:=o1_ H;replace H:(some (t4,t5,t6))=some (r1,r2,r3):=H;simp only [sj_,pj_] at H;obtain ⟨rfl,rfl,rfl⟩:=H;go_enter Tryd.func63,Tryd.ntmps63
 go_wp2_with (first|((with_reducible refine gc_ (f:=59) rfl ?_);refine gl_ 4 Tryd.func59 #[.pointer (some ⟨g,0,none⟩),.int .i64 24] ?_;(with_reducible refine (aK.calls g s0_0 s0_1 s0_2 24 true t2 t3 w0 _ ?_ ?_ A2.out).mono ?_);exact dv;exact dq;rintro e w1 ⟨rfl,hi,hb,hk⟩;refine ⟨_,rfl,?_⟩;replace HK:=A0_ (ah.trans df hk (.inl rfl));replace HB:=A0_ (hb);replace HI0:=A0_ (hi);(try clear hb hk hi))|((with_reducible refine gd_ (N:=6) rfl ?_);refine Kd.R_lit (Kd.int .i64) _ 3 ?hg (N:=6) ?hd (xs:=([0,3,(-1)]:List Int)) (inner:=[.int .i64 0,.int .i64 3,.int .i64 (-1)]) (ok:=fun _=>True) (okp:=fun _=>True) ?hr ?hp (fun _ hk=>hk) trivial (Below.refl _ _) (Nat.le_refl _) bx ?_;(case hd=>rfl);(case hg=>rfl);(case hr=>go_simp;first|done|rfl);(case hp=>exact (bu.one (show Kd.M (Kd.int .i64) _ _ _ 0 [.int .i64 0] from rfl) (bu.one (show Kd.M (Kd.int .i64) _ _ _ 3 [.int .i64 3] from rfl) (bu.one (show Kd.M (Kd.int .i64) _ _ _ (-1) [.int .i64 (-1)] from rfl) (bu.none _ _)))));intro v1 w2 ho7 hb hg_ hnew_;clear hg_ hnew_;(first|rw [← Ny1.out] at ho7|(simp only [Int.reduceToNat] at ho7;rw [← Ny1.out] at ho7));have HO1:=A0_ (Kd.R_lower ho7 (cr (w:=w) (g:=g) (row:=none) df));replace HK:=A0_ (ah.trans df (ah.of_below hb g none) (.inl rfl));replace HB:=hb_ hb dq;replace HI0:=A0_ (al.below dv hb);clear hb ho7;obtain ⟨Ao1,co1,eo1⟩:=Kd.R_slice HO1.out;subst eo1)|((with_reducible refine gc_ (f:=90) rfl ?_);refine gl_ 7 Tryd.func90 #[.pointer (some ⟨g,0,none⟩),.slice Ao1 y1.length co1] ?_;(with_reducible refine (bq.calls g s0_0 t2 t3 _ _ y1 t4 t5 t6 w0 _ ?_ ?_ ?_ ?_ ?_ A4.out).mono ?_);exact dv;exact dq;exact fE;exact (rr_ HO1.out).2.1;exact ff (al.own_ne HI0.out HO1.out ao);rintro e w3 ⟨rfl,hi,hb,hk⟩;refine ⟨_,rfl,?_⟩;replace HO1:=A0_ (Kd.R_mono (Kd.R_keep (al.apart (show al w0 _ g s0_0 t2 t3 from dv) bR ao) hk (fun _ h=>h.2)) (fun _ h=>h.1));replace HK:=A0_ (ah.trans df hk (.inl rfl));replace HB:=A0_ (hb);replace HI0:=A0_ (hi);(try clear hb hk hi)))
 go_ret
 exact ⟨bc,dv,dq,df⟩

def cG.f (s0_0:List Int) (s0_1:Int) (s0_2:Int):Option (Int × Int × Int):=(aK.f s0_0 s0_1 s0_2 40).bind fun bt305=>(if bt305.1=true then ((bq.f s0_0 bt305.2.1 bt305.2.2 (([1,2,24,25,0,(-1),4611686018427387904]:List Int))).bind fun bt311=>(some (bt311.1,bt311.2.1,bt311.2.2))) else ((bq.f s0_0 bt305.2.1 bt305.2.2 (([6,8,5,10,7,3,12,4,20,24]:List Int))).bind fun bt317=>(some (bt317.1,bt317.2.1,bt317.2.2))))
theorem cG.calls (g:Nat) (s0_0:List Int) (s0_1:Int) (s0_2:Int) (r1:Int) (r2:Int) (r3:Int) (w0 w:World) (hI:al w0 w g s0_0 s0_1 s0_2) (hB:Below w0.heap.size w0 w) (H:cG.f s0_0 s0_1 s0_2=some (r1,r2,r3)) :
  Calls Tryd.prog 102 #[.pointer (some ⟨g,0,none⟩)] w fun e w'=>e=.returned (.int .i64 r1)∧al w0 w' g s0_0 r2 r3∧Below w0.heap.size w0 w'∧ah w w' g none:=by
 have HI0:=A0_ hI;have HK:=A0_ (ah.refl w g none);have HL:=A0_ hB.size;clear hI;have HW0:=A0_ hB.size;have HB:=A0_ hB;clear hB;unfold cG.f at H;obtain ⟨⟨t1,t2,t3⟩,A2,H⟩:=o1_ H
 by_cases c1:t1=true
 ·subst c1
  rw [if_pos rfl] at H;obtain ⟨y1,hy1⟩:∃ y_:List Int,y_=(([1,2,24,25,0,(-1),4611686018427387904]:List Int)):=⟨_,rfl⟩;replace H:((bq.f s0_0 t2 t3 y1).bind fun bt2=>(some (bt2.1,bt2.2.1,bt2.2.2)))=some (r1,r2,r3):=dp;have Ny1:=A0_ hy1;clear hy1;obtain ⟨⟨t4,t5,t6⟩,A4,H⟩:=o1_ H;replace H:(some (t4,t5,t6))=some (r1,r2,r3):=H;simp only [sj_,pj_] at H;obtain ⟨rfl,rfl,rfl⟩:=H;go_enter Tryd.func102,Tryd.ntmps102
  go_wp2_with (first|((with_reducible refine gc_ (f:=59) rfl ?_);refine gl_ 4 Tryd.func59 #[.pointer (some ⟨g,0,none⟩),.int .i64 40] ?_;(with_reducible refine (aK.calls g s0_0 s0_1 s0_2 40 true t2 t3 w0 _ ?_ ?_ A2.out).mono ?_);exact dv;exact dq;rintro e w1 ⟨rfl,hi,hb,hk⟩;refine ⟨_,rfl,?_⟩;replace HK:=A0_ (ah.trans df hk (.inl rfl));replace HB:=A0_ (hb);replace HI0:=A0_ (hi);(try clear hb hk hi))|((with_reducible refine gd_ (N:=6) rfl ?_);refine Kd.R_lit (Kd.int .i64) _ 3 ?hg (N:=6) ?hd (xs:=([1,2,24,25,0,(-1),4611686018427387904]:List Int)) (inner:=[.int .i64 1,.int .i64 2,.int .i64 24,.int .i64 25,.int .i64 0,.int .i64 (-1),.int .i64 4611686018427387904]) (ok:=fun _=>True) (okp:=fun _=>True) ?hr ?hp (fun _ hk=>hk) trivial (Below.refl _ _) (Nat.le_refl _) bx ?_;(case hd=>rfl);(case hg=>rfl);(case hr=>go_simp;first|done|rfl);(case hp=>exact (bu.one (show Kd.M (Kd.int .i64) _ _ _ 1 [.int .i64 1] from rfl) (bu.one (show Kd.M (Kd.int .i64) _ _ _ 2 [.int .i64 2] from rfl) (bu.one (show Kd.M (Kd.int .i64) _ _ _ 24 [.int .i64 24] from rfl) (bu.one (show Kd.M (Kd.int .i64) _ _ _ 25 [.int .i64 25] from rfl) (bu.one (show Kd.M (Kd.int .i64) _ _ _ 0 [.int .i64 0] from rfl) (bu.one (show Kd.M (Kd.int .i64) _ _ _ (-1) [.int .i64 (-1)] from rfl) (bu.one (show Kd.M (Kd.int .i64) _ _ _ 4611686018427387904 [.int .i64 4611686018427387904] from rfl) (bu.none _ _)))))))));intro v1 w2 ho7 hb hg_ hnew_;clear hg_ hnew_;(first|rw [← Ny1.out] at ho7|(simp only [Int.reduceToNat] at ho7;rw [← Ny1.out] at ho7));have HO1:=A0_ (Kd.R_lower ho7 (cr (w:=w) (g:=g) (row:=none) df));replace HK:=A0_ (ah.trans df (ah.of_below hb g none) (.inl rfl));replace HB:=hb_ hb dq;replace HI0:=A0_ (al.below dv hb);clear hb ho7;obtain ⟨Ao1,co1,eo1⟩:=Kd.R_slice HO1.out;subst eo1)|((with_reducible refine gc_ (f:=90) rfl ?_);refine gl_ 7 Tryd.func90 #[.pointer (some ⟨g,0,none⟩),.slice Ao1 y1.length co1] ?_;(with_reducible refine (bq.calls g s0_0 t2 t3 _ _ y1 t4 t5 t6 w0 _ ?_ ?_ ?_ ?_ ?_ A4.out).mono ?_);exact dv;exact dq;exact fE;exact (rr_ HO1.out).2.1;exact ff (al.own_ne HI0.out HO1.out ao);rintro e w3 ⟨rfl,hi,hb,hk⟩;refine ⟨_,rfl,?_⟩;replace HO1:=A0_ (Kd.R_mono (Kd.R_keep (al.apart (show al w0 _ g s0_0 t2 t3 from dv) bR ao) hk (fun _ h=>h.2)) (fun _ h=>h.1));replace HK:=A0_ (ah.trans df hk (.inl rfl));replace HB:=A0_ (hb);replace HI0:=A0_ (hi);(try clear hb hk hi)))
  go_ret
  exact ⟨bc,dv,dq,df⟩
 obtain rfl:=bf_.mpr c1;rw [if_neg ft_] at H;obtain ⟨y1,hy1⟩:∃ y_:List Int,y_=(([6,8,5,10,7,3,12,4,20,24]:List Int)):=⟨_,rfl⟩;replace H:((bq.f s0_0 t2 t3 y1).bind fun bt3=>(some (bt3.1,bt3.2.1,bt3.2.2)))=some (r1,r2,r3):=dp;have Ny1:=A0_ hy1;clear hy1;obtain ⟨⟨t4,t5,t6⟩,A4,H⟩:=o1_ H;replace H:(some (t4,t5,t6))=some (r1,r2,r3):=H;simp only [sj_,pj_] at H;obtain ⟨rfl,rfl,rfl⟩:=H;go_enter Tryd.func102,Tryd.ntmps102
 go_wp2_with (first|((with_reducible refine gc_ (f:=59) rfl ?_);refine gl_ 4 Tryd.func59 #[.pointer (some ⟨g,0,none⟩),.int .i64 40] ?_;(with_reducible refine (aK.calls g s0_0 s0_1 s0_2 40 false t2 t3 w0 _ ?_ ?_ A2.out).mono ?_);exact dv;exact dq;rintro e w1 ⟨rfl,hi,hb,hk⟩;refine ⟨_,rfl,?_⟩;replace HK:=A0_ (ah.trans df hk (.inl rfl));replace HB:=A0_ (hb);replace HI0:=A0_ (hi);(try clear hb hk hi))|((with_reducible refine gd_ (N:=9) rfl ?_);refine Kd.R_lit (Kd.int .i64) _ 3 ?hg (N:=9) ?hd (xs:=([6,8,5,10,7,3,12,4,20,24]:List Int)) (inner:=[.int .i64 6,.int .i64 8,.int .i64 5,.int .i64 10,.int .i64 7,.int .i64 3,.int .i64 12,.int .i64 4,.int .i64 20,.int .i64 24]) (ok:=fun _=>True) (okp:=fun _=>True) ?hr ?hp (fun _ hk=>hk) trivial (Below.refl _ _) (Nat.le_refl _) bx ?_;(case hd=>rfl);(case hg=>rfl);(case hr=>go_simp;first|done|rfl);(case hp=>exact (bu.one (show Kd.M (Kd.int .i64) _ _ _ 6 [.int .i64 6] from rfl) (bu.one (show Kd.M (Kd.int .i64) _ _ _ 8 [.int .i64 8] from rfl) (bu.one (show Kd.M (Kd.int .i64) _ _ _ 5 [.int .i64 5] from rfl) (bu.one (show Kd.M (Kd.int .i64) _ _ _ 10 [.int .i64 10] from rfl) (bu.one (show Kd.M (Kd.int .i64) _ _ _ 7 [.int .i64 7] from rfl) (bu.one (show Kd.M (Kd.int .i64) _ _ _ 3 [.int .i64 3] from rfl) (bu.one (show Kd.M (Kd.int .i64) _ _ _ 12 [.int .i64 12] from rfl) (bu.one (show Kd.M (Kd.int .i64) _ _ _ 4 [.int .i64 4] from rfl) (bu.one (show Kd.M (Kd.int .i64) _ _ _ 20 [.int .i64 20] from rfl) (bu.one (show Kd.M (Kd.int .i64) _ _ _ 24 [.int .i64 24] from rfl) (bu.none _ _))))))))))));intro v1 w2 ho13 hb hg_ hnew_;clear hg_ hnew_;(first|rw [← Ny1.out] at ho13|(simp only [Int.reduceToNat] at ho13;rw [← Ny1.out] at ho13));have HO1:=A0_ (Kd.R_lower ho13 (cr (w:=w) (g:=g) (row:=none) df));replace HK:=A0_ (ah.trans df (ah.of_below hb g none) (.inl rfl));replace HB:=hb_ hb dq;replace HI0:=A0_ (al.below dv hb);clear hb ho13;obtain ⟨Ao1,co1,eo1⟩:=Kd.R_slice HO1.out;subst eo1)|((with_reducible refine gc_ (f:=90) rfl ?_);refine gl_ 10 Tryd.func90 #[.pointer (some ⟨g,0,none⟩),.slice Ao1 y1.length co1] ?_;(with_reducible refine (bq.calls g s0_0 t2 t3 _ _ y1 t4 t5 t6 w0 _ ?_ ?_ ?_ ?_ ?_ A4.out).mono ?_);exact dv;exact dq;exact fE;exact (rr_ HO1.out).2.1;exact ff (al.own_ne HI0.out HO1.out ao);rintro e w3 ⟨rfl,hi,hb,hk⟩;refine ⟨_,rfl,?_⟩;replace HO1:=A0_ (Kd.R_mono (Kd.R_keep (al.apart (show al w0 _ g s0_0 t2 t3 from dv) bR ao) hk (fun _ h=>h.2)) (fun _ h=>h.1));replace HK:=A0_ (ah.trans df hk (.inl rfl));replace HB:=A0_ (hb);replace HI0:=A0_ (hi);(try clear hb hk hi)))
 go_ret
 exact ⟨bc,dv,dq,df⟩

def cy.f (s0_0:List Int) (s0_1:Int) (s0_2:Int):Option (Int × Bool × List Int × Int × Int):=(cG.f s0_0 s0_1 s0_2).bind fun bt321=>((aK.f s0_0 bt321.2.1 bt321.2.2 2).bind fun bt324=>((some (([]:List Int):List Int)).bind fun y327=>(if bt324.1=true then (if bt321.1=2 then ((aK.f s0_0 bt324.2.1 bt324.2.2 4).bind fun bt331=>(if bt331.1=true then (some (bt321.1,bt324.1,y327,bt331.2.1,bt331.2.2)) else (some (3,bt324.1,y327,bt331.2.1,bt331.2.2)))) else (some (bt321.1,bt324.1,y327,bt324.2.1,bt324.2.2))) else (some (bt321.1,bt324.1,y327,bt324.2.1,bt324.2.2)))))
theorem cy.calls (g:Nat) (s0_0:List Int) (s0_1:Int) (s0_2:Int) (r1:Int) (r2:Bool) (r3:List Int) (r4:Int) (r5:Int) (w0 w:World) (hI:al w0 w g s0_0 s0_1 s0_2) (hB:Below w0.heap.size w0 w) (H:cy.f s0_0 s0_1 s0_2=some (r1,r2,r3,r4,r5)) :
  Calls Tryd.prog 82 #[.pointer (some ⟨g,0,none⟩)] w fun e w'=>∃ v2_:Value,e=.returned (.agg #[.int .i64 r1,.bool r2,v2_])∧Kd.R (Kd.int .i64) 3 w' w.heap.size (fun _=>True) v2_ r3∧al w0 w' g s0_0 r4 r5∧Below w0.heap.size w0 w'∧ah w w' g none:=by
 have hu26:=Tryd.underlying26;have HI0:=A0_ hI;have HK:=A0_ (ah.refl w g none);have HL:=A0_ hB.size;clear hI;have HW0:=A0_ hB.size;have HB:=A0_ hB;clear hB;unfold cy.f at H;obtain ⟨⟨t1,t2,t3⟩,A2,H⟩:=o1_ H;obtain ⟨⟨t4,t5,t6⟩,A4,H⟩:=o1_ H;obtain ⟨y1,hy1⟩:∃ y_:List Int,y_=(([]:List Int)):=⟨_,rfl⟩;replace H:(if t4=true then (if t1=2 then ((aK.f s0_0 t5 t6 4).bind fun bt3=>(if bt3.1=true then (some (t1,t4,y1,bt3.2.1,bt3.2.2)) else (some (3,t4,y1,bt3.2.1,bt3.2.2)))) else (some (t1,t4,y1,t5,t6))) else (some (t1,t4,y1,t5,t6)))=some (r1,r2,r3,r4,r5):=dp;have Ny1:=A0_ hy1;clear hy1
 by_cases c1:t4=true
 case neg =>
  obtain rfl:=bf_.mpr c1;rw [if_neg ft_] at H;simp only [sj_,pj_] at H;obtain ⟨rfl,rfl,rfl,rfl,rfl⟩:=H;go_enter Tryd.func82,Tryd.ntmps82
  go_wp2_with (first|((with_reducible refine gd_ (N:=2) rfl ?_);refine bx_ 2 #[.int .i64 0,.bool false,.slice none 0 0] 26 ?_;intro gb1 hg w1 BK1 hb;replace HB:=hb_ hb dq;have GW1:=A0_ ((fG:w.heap.size≤gb1));have GE1:=A0_ ((Nat.le_trans HW0.out (fG:w.heap.size≤gb1):w0.heap.size≤gb1));replace HK:=A0_ (ah.trans df (ah.of_below hb g none) (.inl rfl));have NB0_1:=A0_ ((jD:g≠gb1));have NB1_0:=A0_ ((jE:gb1≠g));replace HI0:=A0_ (al.below dv hb);clear hb hg)|((with_reducible refine gc_ (f:=102) rfl ?_);refine gl_ 5 Tryd.func102 #[.pointer (some ⟨g,0,none⟩)] ?_;(with_reducible refine (cG.calls g s0_0 s0_1 s0_2 t1 t2 t3 w0 _ ?_ ?_ A2.out).mono ?_);exact dg;exact dG;rintro e w2 ⟨rfl,hi,hb,hk⟩;refine ⟨_,rfl,?_⟩;replace BK1:=da BK1 hk NB1_0;replace HK:=A0_ (ah.trans cU hk (.inl rfl));replace HB:=A0_ (hb);replace HI0:=A0_ (hi);(try clear hb hk hi))|((with_reducible refine gc_ (f:=59) rfl ?_);refine gl_ 7 Tryd.func59 #[.pointer (some ⟨g,0,none⟩),.int .i64 2] ?_;(with_reducible refine (aK.calls g s0_0 t2 t3 2 false t5 t6 w0 _ ?_ ?_ A4.out).mono ?_);exact dg;exact dG;rintro e w3 ⟨rfl,hi,hb,hk⟩;refine ⟨_,rfl,?_⟩;replace BK1:=da BK1 hk NB1_0;replace HK:=A0_ (ah.trans cU hk (.inl rfl));replace HB:=A0_ (hb);replace HI0:=A0_ (hi);(try clear hb hk hi))|((with_reducible refine gd_ (N:=8) rfl ?_);refine Kd.R_lit (Kd.int .i64) _ 3 ?hg (N:=8) ?hd (xs:=([]:List Int)) (inner:=[]) (ok:=fun _=>True) (okp:=fun _=>True) ?hr ?hp (fun _ hk=>hk) trivial (Below.refl _ _) (Nat.le_refl _) bx ?_;(case hd=>rfl);(case hg=>rfl);(case hr=>go_simp;first|done|rfl);(case hp=>exact (bu.none _ _));intro v1 w4 ho52 hb hg_ hnew_;clear hg_ hnew_;(first|rw [← Ny1.out] at ho52|(simp only [Int.reduceToNat] at ho52;rw [← Ny1.out] at ho52));have HO1:=A0_ (Kd.R_lower ho52 (cr (w:=w) (g:=g) (row:=none) cU));replace BK1:=k1_ BK1 hb;replace HK:=A0_ (ah.trans cU (ah.of_below hb g none) (.inl rfl));replace HB:=hb_ hb dG;replace HI0:=A0_ (al.below dg hb);clear hb ho52;obtain ⟨Ao1,co1,eo1⟩:=Kd.R_slice HO1.out;subst eo1)|((with_reducible refine gd_ (N:=3) rfl ?_);refine bx_ 3 #[.int .i64 0,.bool false,.slice none 0 0] 26 ?_;intro gb2 hg w5 BK2 hb;replace HO1:=q1_ HO1 hb;replace HB:=hb_ hb dG;have GW2:=A0_ ((gK:w.heap.size≤gb2));have GE2:=A0_ ((Nat.le_trans HW0.out (gK:w.heap.size≤gb2):w0.heap.size≤gb2));replace HK:=A0_ (ah.trans cU (ah.of_below hb g none) (.inl rfl));obtain ⟨NB1_2,NB2_1⟩:=nn_ hg BK1;replace BK1:=k1_ BK1 hb;have NB0_2:=A0_ ((nM:g≠gb2));have NB2_0:=A0_ ((nN:gb2≠g));replace HI0:=A0_ (al.below dg hb);clear hb hg;obtain ⟨hnb1,hnc1⟩:=n2_ NB2_1;obtain ⟨hnb2,hnc2⟩:=n2_ NB2_0;have hcz1:=z3_ BK2;obtain ⟨hnb3,hnc3⟩:=n2_ NB1_0;have hcz2_0:=y_ BK1 0;have hcz2_1:=y_ BK1 1;have hcz2_2:=y_ BK1 2;have hfz2_0:=kf_ BK1.out 0;have hfz2_1:=kf_ BK1.out 1;have hfz2_2:=kf_ BK1.out 2))
  refine bodyPost_ret (results_cell_row rfl _ _ gb1 26 #[.int .i64 t1,.bool false,.slice Ao1 y1.length co1] (0,0) _ rfl (u1_ BK1) Tryd.underlying26 rfl bS) rfl ?_
  exact ⟨_,bc,by (with_reducible repeat (first|apply ra_|apply rn_|apply rd_));exact Kd.R_mono (cf (rf_ (rf_ (rf_ (Kd.R_types (Kd.R_types HO1.out BK2.out ao) BK1.out ao) (fun _ hk=>hk.1.2) (.int .i64 t1)) (fun _ hk=>hk.1.2) (.bool false)) (fun _ hk=>hk.1.2) (.slice Ao1 y1.length co1))) (fun _ hk=>trivial),bQ,ce,bV⟩
 subst c1;rw [if_pos rfl] at H
 by_cases c2:t1=2
 case neg =>
  rw [if_neg c2] at H;obtain ⟨c2b0,c2b1⟩:=ef_ c2;simp only [sj_,pj_] at H;obtain ⟨rfl,rfl,rfl,rfl,rfl⟩:=H;go_enter Tryd.func82,Tryd.ntmps82
  go_wp2_with (first|((with_reducible refine gd_ (N:=2) rfl ?_);refine bx_ 2 #[.int .i64 0,.bool false,.slice none 0 0] 26 ?_;intro gb1 hg w1 BK1 hb;replace HB:=hb_ hb dq;have GW1:=A0_ ((fG:w.heap.size≤gb1));have GE1:=A0_ ((Nat.le_trans HW0.out (fG:w.heap.size≤gb1):w0.heap.size≤gb1));replace HK:=A0_ (ah.trans df (ah.of_below hb g none) (.inl rfl));have NB0_1:=A0_ ((jD:g≠gb1));have NB1_0:=A0_ ((jE:gb1≠g));replace HI0:=A0_ (al.below dv hb);clear hb hg)|((with_reducible refine gc_ (f:=102) rfl ?_);refine gl_ 5 Tryd.func102 #[.pointer (some ⟨g,0,none⟩)] ?_;(with_reducible refine (cG.calls g s0_0 s0_1 s0_2 t1 t2 t3 w0 _ ?_ ?_ A2.out).mono ?_);exact dg;exact dG;rintro e w2 ⟨rfl,hi,hb,hk⟩;refine ⟨_,rfl,?_⟩;replace BK1:=da BK1 hk NB1_0;replace HK:=A0_ (ah.trans cU hk (.inl rfl));replace HB:=A0_ (hb);replace HI0:=A0_ (hi);(try clear hb hk hi))|((with_reducible refine gc_ (f:=59) rfl ?_);refine gl_ 7 Tryd.func59 #[.pointer (some ⟨g,0,none⟩),.int .i64 2] ?_;(with_reducible refine (aK.calls g s0_0 t2 t3 2 true t5 t6 w0 _ ?_ ?_ A4.out).mono ?_);exact dg;exact dG;rintro e w3 ⟨rfl,hi,hb,hk⟩;refine ⟨_,rfl,?_⟩;replace BK1:=da BK1 hk NB1_0;replace HK:=A0_ (ah.trans cU hk (.inl rfl));replace HB:=A0_ (hb);replace HI0:=A0_ (hi);(try clear hb hk hi))|((with_reducible refine gd_ (N:=8) rfl ?_);refine Kd.R_lit (Kd.int .i64) _ 3 ?hg (N:=8) ?hd (xs:=([]:List Int)) (inner:=[]) (ok:=fun _=>True) (okp:=fun _=>True) ?hr ?hp (fun _ hk=>hk) trivial (Below.refl _ _) (Nat.le_refl _) bx ?_;(case hd=>rfl);(case hg=>rfl);(case hr=>go_simp;first|done|rfl);(case hp=>exact (bu.none _ _));intro v1 w4 ho40 hb hg_ hnew_;clear hg_ hnew_;(first|rw [← Ny1.out] at ho40|(simp only [Int.reduceToNat] at ho40;rw [← Ny1.out] at ho40));have HO1:=A0_ (Kd.R_lower ho40 (cr (w:=w) (g:=g) (row:=none) cU));replace BK1:=k1_ BK1 hb;replace HK:=A0_ (ah.trans cU (ah.of_below hb g none) (.inl rfl));replace HB:=hb_ hb dG;replace HI0:=A0_ (al.below dg hb);clear hb ho40;obtain ⟨Ao1,co1,eo1⟩:=Kd.R_slice HO1.out;subst eo1)|((with_reducible refine gd_ (N:=3) rfl ?_);refine bx_ 3 #[.int .i64 0,.bool false,.slice none 0 0] 26 ?_;intro gb2 hg w5 BK2 hb;replace HO1:=q1_ HO1 hb;replace HB:=hb_ hb dG;have GW2:=A0_ ((gK:w.heap.size≤gb2));have GE2:=A0_ ((Nat.le_trans HW0.out (gK:w.heap.size≤gb2):w0.heap.size≤gb2));replace HK:=A0_ (ah.trans cU (ah.of_below hb g none) (.inl rfl));obtain ⟨NB1_2,NB2_1⟩:=nn_ hg BK1;replace BK1:=k1_ BK1 hb;have NB0_2:=A0_ ((nM:g≠gb2));have NB2_0:=A0_ ((nN:gb2≠g));replace HI0:=A0_ (al.below dg hb);clear hb hg;obtain ⟨hnb1,hnc1⟩:=n2_ NB2_1;obtain ⟨hnb2,hnc2⟩:=n2_ NB2_0;have hcz1:=z3_ BK2;obtain ⟨hnb3,hnc3⟩:=n2_ NB1_0;have hcz2_0:=y_ BK1 0;have hcz2_1:=y_ BK1 1;have hcz2_2:=y_ BK1 2;have hfz2_0:=kf_ BK1.out 0;have hfz2_1:=kf_ BK1.out 1;have hfz2_2:=kf_ BK1.out 2))
  refine bodyPost_ret (results_cell_row rfl _ _ gb1 26 #[.int .i64 t1,.bool true,.slice Ao1 y1.length co1] (0,0) _ rfl (u1_ BK1) Tryd.underlying26 rfl bS) rfl ?_
  exact ⟨_,bc,by (with_reducible repeat (first|apply ra_|apply rn_|apply rd_));exact Kd.R_mono (cf (rf_ (rf_ (rf_ (Kd.R_types (Kd.R_types HO1.out BK2.out ao) BK1.out ao) (fun _ hk=>hk.1.2) (.int .i64 t1)) (fun _ hk=>hk.1.2) (.bool true)) (fun _ hk=>hk.1.2) (.slice Ao1 y1.length co1))) (fun _ hk=>trivial),bQ,ce,bV⟩
 rw [if_pos c2] at H;obtain ⟨c2b0,c2b1⟩:=et_ c2;clear c2;obtain ⟨⟨t7,t8,t9⟩,A6,H⟩:=o1_ H
 by_cases c3:t7=true
 ·subst c3
  rw [if_pos rfl] at H;simp only [sj_,pj_] at H;obtain ⟨rfl,rfl,rfl,rfl,rfl⟩:=H;go_enter Tryd.func82,Tryd.ntmps82
  go_wp2_with (first|((with_reducible refine gd_ (N:=2) rfl ?_);refine bx_ 2 #[.int .i64 0,.bool false,.slice none 0 0] 26 ?_;intro gb1 hg w1 BK1 hb;replace HB:=hb_ hb dq;have GW1:=A0_ ((fG:w.heap.size≤gb1));have GE1:=A0_ ((Nat.le_trans HW0.out (fG:w.heap.size≤gb1):w0.heap.size≤gb1));replace HK:=A0_ (ah.trans df (ah.of_below hb g none) (.inl rfl));have NB0_1:=A0_ ((jD:g≠gb1));have NB1_0:=A0_ ((jE:gb1≠g));replace HI0:=A0_ (al.below dv hb);clear hb hg)|((with_reducible refine gc_ (f:=102) rfl ?_);refine gl_ 5 Tryd.func102 #[.pointer (some ⟨g,0,none⟩)] ?_;(with_reducible refine (cG.calls g s0_0 s0_1 s0_2 t1 t2 t3 w0 _ ?_ ?_ A2.out).mono ?_);exact dg;exact dG;rintro e w2 ⟨rfl,hi,hb,hk⟩;refine ⟨_,rfl,?_⟩;replace BK1:=da BK1 hk NB1_0;replace HK:=A0_ (ah.trans cU hk (.inl rfl));replace HB:=A0_ (hb);replace HI0:=A0_ (hi);(try clear hb hk hi))|((with_reducible refine gc_ (f:=59) rfl ?_);refine gl_ 7 Tryd.func59 #[.pointer (some ⟨g,0,none⟩),.int .i64 2] ?_;(with_reducible refine (aK.calls g s0_0 t2 t3 2 true t5 t6 w0 _ ?_ ?_ A4.out).mono ?_);exact dg;exact dG;rintro e w3 ⟨rfl,hi,hb,hk⟩;refine ⟨_,rfl,?_⟩;replace BK1:=da BK1 hk NB1_0;replace HK:=A0_ (ah.trans cU hk (.inl rfl));replace HB:=A0_ (hb);replace HI0:=A0_ (hi);(try clear hb hk hi))|((with_reducible refine gd_ (N:=8) rfl ?_);refine Kd.R_lit (Kd.int .i64) _ 3 ?hg (N:=8) ?hd (xs:=([]:List Int)) (inner:=[]) (ok:=fun _=>True) (okp:=fun _=>True) ?hr ?hp (fun _ hk=>hk) trivial (Below.refl _ _) (Nat.le_refl _) bx ?_;(case hd=>rfl);(case hg=>rfl);(case hr=>go_simp;first|done|rfl);(case hp=>exact (bu.none _ _));intro v1 w4 ho12 hb hg_ hnew_;clear hg_ hnew_;(first|rw [← Ny1.out] at ho12|(simp only [Int.reduceToNat] at ho12;rw [← Ny1.out] at ho12));have HO1:=A0_ (Kd.R_lower ho12 (cr (w:=w) (g:=g) (row:=none) cU));replace BK1:=k1_ BK1 hb;replace HK:=A0_ (ah.trans cU (ah.of_below hb g none) (.inl rfl));replace HB:=hb_ hb dG;replace HI0:=A0_ (al.below dg hb);clear hb ho12;obtain ⟨Ao1,co1,eo1⟩:=Kd.R_slice HO1.out;subst eo1)|((with_reducible refine gd_ (N:=3) rfl ?_);refine bx_ 3 #[.int .i64 0,.bool false,.slice none 0 0] 26 ?_;intro gb2 hg w5 BK2 hb;replace HO1:=q1_ HO1 hb;replace HB:=hb_ hb dG;have GW2:=A0_ ((gK:w.heap.size≤gb2));have GE2:=A0_ ((Nat.le_trans HW0.out (gK:w.heap.size≤gb2):w0.heap.size≤gb2));replace HK:=A0_ (ah.trans cU (ah.of_below hb g none) (.inl rfl));obtain ⟨NB1_2,NB2_1⟩:=nn_ hg BK1;replace BK1:=k1_ BK1 hb;have NB0_2:=A0_ ((nM:g≠gb2));have NB2_0:=A0_ ((nN:gb2≠g));replace HI0:=A0_ (al.below dg hb);clear hb hg;obtain ⟨hnb1,hnc1⟩:=n2_ NB2_1;obtain ⟨hnb2,hnc2⟩:=n2_ NB2_0;have hcz1:=z3_ BK2)|(go_at_call 59;(with_reducible refine (aK.calls g s0_0 t5 t6 4 true t8 t9 w0 _ ?_ ?_ A6.out).mono ?_);exact bQ;exact ce;rintro e w6 ⟨rfl,hi,hb,hk⟩;replace BK1:=da BK1 hk NB1_0;replace HO1:=A0_ (Kd.R_mono (Kd.R_keep (al.apart (show al w0 _ g s0_0 t5 t6 from bQ) mr ao) hk (fun _ h=>h.2)) (fun _ h=>h.1));replace BK2:=A0_ (ah.blk hk (g':=gb2) (o:=.cells #[.int .i64 t1,.bool true,.slice Ao1 y1.length co1] 26 (0,0)) (u1_ BK2) NB2_0.out bx);replace HK:=A0_ (ah.trans bV hk (.inl rfl));replace HB:=A0_ (hb);replace HI0:=A0_ (hi);(try clear hb hk hi);have hcz2:=z3_ BK2;obtain ⟨hnb3,hnc3⟩:=n2_ NB1_0;have hcz3_0:=y_ BK1 0;have hcz3_1:=y_ BK1 1;have hcz3_2:=y_ BK1 2;have hfz3_0:=kf_ BK1.out 0;have hfz3_1:=kf_ BK1.out 1;have hfz3_2:=kf_ BK1.out 2))
  refine bodyPost_ret (results_cell_row rfl _ _ gb1 26 #[.int .i64 t1,.bool true,.slice Ao1 y1.length co1] (0,0) _ rfl (u1_ BK1) Tryd.underlying26 rfl bS) rfl ?_
  exact ⟨_,bc,rr,bQ,ce,bV⟩
 obtain rfl:=bf_.mpr c3;rw [if_neg ft_] at H;simp only [sj_,pj_] at H;obtain ⟨rfl,rfl,rfl,rfl,rfl⟩:=H;go_enter Tryd.func82,Tryd.ntmps82
 go_wp2_with (first|((with_reducible refine gd_ (N:=2) rfl ?_);refine bx_ 2 #[.int .i64 0,.bool false,.slice none 0 0] 26 ?_;intro gb1 hg w1 BK1 hb;replace HB:=hb_ hb dq;have GW1:=A0_ ((fG:w.heap.size≤gb1));have GE1:=A0_ ((Nat.le_trans HW0.out (fG:w.heap.size≤gb1):w0.heap.size≤gb1));replace HK:=A0_ (ah.trans df (ah.of_below hb g none) (.inl rfl));have NB0_1:=A0_ ((jD:g≠gb1));have NB1_0:=A0_ ((jE:gb1≠g));replace HI0:=A0_ (al.below dv hb);clear hb hg)|((with_reducible refine gc_ (f:=102) rfl ?_);refine gl_ 5 Tryd.func102 #[.pointer (some ⟨g,0,none⟩)] ?_;(with_reducible refine (cG.calls g s0_0 s0_1 s0_2 t1 t2 t3 w0 _ ?_ ?_ A2.out).mono ?_);exact dg;exact dG;rintro e w2 ⟨rfl,hi,hb,hk⟩;refine ⟨_,rfl,?_⟩;replace BK1:=da BK1 hk NB1_0;replace HK:=A0_ (ah.trans cU hk (.inl rfl));replace HB:=A0_ (hb);replace HI0:=A0_ (hi);(try clear hb hk hi))|((with_reducible refine gc_ (f:=59) rfl ?_);refine gl_ 7 Tryd.func59 #[.pointer (some ⟨g,0,none⟩),.int .i64 2] ?_;(with_reducible refine (aK.calls g s0_0 t2 t3 2 true t5 t6 w0 _ ?_ ?_ A4.out).mono ?_);exact dg;exact dG;rintro e w3 ⟨rfl,hi,hb,hk⟩;refine ⟨_,rfl,?_⟩;replace BK1:=da BK1 hk NB1_0;replace HK:=A0_ (ah.trans cU hk (.inl rfl));replace HB:=A0_ (hb);replace HI0:=A0_ (hi);(try clear hb hk hi))|((with_reducible refine gd_ (N:=8) rfl ?_);refine Kd.R_lit (Kd.int .i64) _ 3 ?hg (N:=8) ?hd (xs:=([]:List Int)) (inner:=[]) (ok:=fun _=>True) (okp:=fun _=>True) ?hr ?hp (fun _ hk=>hk) trivial (Below.refl _ _) (Nat.le_refl _) bx ?_;(case hd=>rfl);(case hg=>rfl);(case hr=>go_simp;first|done|rfl);(case hp=>exact (bu.none _ _));intro v1 w4 ho26 hb hg_ hnew_;clear hg_ hnew_;(first|rw [← Ny1.out] at ho26|(simp only [Int.reduceToNat] at ho26;rw [← Ny1.out] at ho26));have HO1:=A0_ (Kd.R_lower ho26 (cr (w:=w) (g:=g) (row:=none) cU));replace BK1:=k1_ BK1 hb;replace HK:=A0_ (ah.trans cU (ah.of_below hb g none) (.inl rfl));replace HB:=hb_ hb dG;replace HI0:=A0_ (al.below dg hb);clear hb ho26;obtain ⟨Ao1,co1,eo1⟩:=Kd.R_slice HO1.out;subst eo1)|((with_reducible refine gd_ (N:=3) rfl ?_);refine bx_ 3 #[.int .i64 0,.bool false,.slice none 0 0] 26 ?_;intro gb2 hg w5 BK2 hb;replace HO1:=q1_ HO1 hb;replace HB:=hb_ hb dG;have GW2:=A0_ ((gK:w.heap.size≤gb2));have GE2:=A0_ ((Nat.le_trans HW0.out (gK:w.heap.size≤gb2):w0.heap.size≤gb2));replace HK:=A0_ (ah.trans cU (ah.of_below hb g none) (.inl rfl));obtain ⟨NB1_2,NB2_1⟩:=nn_ hg BK1;replace BK1:=k1_ BK1 hb;have NB0_2:=A0_ ((nM:g≠gb2));have NB2_0:=A0_ ((nN:gb2≠g));replace HI0:=A0_ (al.below dg hb);clear hb hg;obtain ⟨hnb1,hnc1⟩:=n2_ NB2_1;obtain ⟨hnb2,hnc2⟩:=n2_ NB2_0;have hcz1:=z3_ BK2)|(go_at_call 59;(with_reducible refine (aK.calls g s0_0 t5 t6 4 false t8 t9 w0 _ ?_ ?_ A6.out).mono ?_);exact bQ;exact ce;rintro e w6 ⟨rfl,hi,hb,hk⟩;replace BK1:=da BK1 hk NB1_0;replace HO1:=A0_ (Kd.R_mono (Kd.R_keep (al.apart (show al w0 _ g s0_0 t5 t6 from bQ) mr ao) hk (fun _ h=>h.2)) (fun _ h=>h.1));replace BK2:=A0_ (ah.blk hk (g':=gb2) (o:=.cells #[.int .i64 t1,.bool true,.slice Ao1 y1.length co1] 26 (0,0)) (u1_ BK2) NB2_0.out bx);replace HK:=A0_ (ah.trans bV hk (.inl rfl));replace HB:=A0_ (hb);replace HI0:=A0_ (hi);(try clear hb hk hi);have hcz2:=z3_ BK2;obtain ⟨hnb3,hnc3⟩:=n2_ NB1_0;have hcz3_0:=y_ BK1 0;have hcz3_1:=y_ BK1 1;have hcz3_2:=y_ BK1 2;have hfz3_0:=kf_ BK1.out 0;have hfz3_1:=kf_ BK1.out 1;have hfz3_2:=kf_ BK1.out 2))
 refine bodyPost_ret (results_cell_row rfl _ _ gb1 26 #[.int .i64 3,.bool true,.slice Ao1 y1.length co1] (0,0) _ rfl (u1_ BK1) Tryd.underlying26 rfl bS) rfl ?_
 exact ⟨_,bc,by (with_reducible repeat (first|apply ra_|apply rn_|apply rd_));exact Kd.R_mono (cf (rf_ (Kd.R_types (Kd.R_types HO1.out BK2.out ao) BK1.out ao) (fun _ hk=>hk.1.2) (.int .i64 3))) (fun _ hk=>trivial),bQ,ce,bV⟩

def b6.f (k:Nat) (a0_0:Int) (a0_1:Bool) (l0_2:List Int):Option (Int × Bool × List Int × Bool):=(aI.f k a0_0 a0_1 l0_2).bind fun t336=>(if t336=true then ((bi.f k a0_0 a0_1 l0_2).bind fun t337=>((cA.f a0_0 a0_1 l0_2 t337).bind fun bt340=>(some (bt340.1,bt340.2.1,bt340.2.2,true)))) else (some (0,false,([]:List Int),false)))
theorem b6.mono:∀ a0 a1 a2 k,LeO (b6.f k a0 a1 a2) (b6.f (k+1) a0 a1 a2):=by
 intro a0 a1 a2 k;unfold b6.f
 repeat' with_reducible first|exact bi.mono ..|exact aI.mono ..|exact LeO.refl ..|exact LeO.none ..|refine LeO.ite ?_ ?_|refine LeO.bind ?_ (fun _=>?_)
theorem b6.calls (k:Nat) (a0_0:Int) (a0_1:Bool) (A0_2:Option Addr) (c0_2:Nat) (l0_2:List Int) (r1:Int) (r2:Bool) (r3:List Int) (r4:Bool) (w:World) (hr0_2:Kd.C (Kd.int .i64) w A0_2 l0_2.length l0_2) (hc0_2:l0_2.length≤c0_2) (H:b6.f k a0_0 a0_1 l0_2=some (r1,r2,r3,r4)) :
  Calls Tryd.prog 101 #[.agg #[.int .i64 a0_0,.bool a0_1,.slice A0_2 l0_2.length c0_2]] w fun e w'=>∃ v2_:Value,e=.returned (.tuple #[.agg #[.int .i64 r1,.bool r2,v2_],.bool r4])∧Kd.R (Kd.int .i64) 3 w' w.heap.size (fun _=>True) v2_ r3∧Below w.heap.size w w':=by
 have hu26:=Tryd.underlying26;have HR0_2:=A0_ hr0_2;have HC0_2:=A0_ hc0_2;clear hr0_2 hc0_2;have HB:=A0_ (Below.refl w.heap.size w);unfold b6.f at H;obtain ⟨t1,A2,H⟩:=o1_ H
 by_cases c1:t1=true
 case neg =>
  obtain rfl:=bf_.mpr c1;rw [if_neg ft_] at H;simp only [sj_,pj_] at H;obtain ⟨rfl,rfl,rfl,rfl⟩:=H;go_enter Tryd.func101,Tryd.ntmps101
  go_wp2_with (first|((with_reducible refine gd_ (N:=1) rfl ?_);refine bx_ 1 #[.int .i64 a0_0,.bool a0_1,.slice A0_2 l0_2.length c0_2] 26 ?_;intro gb1 hg w1 BK1 hb;have GW1:=ge_ hg am;have GE1:=GW1;replace HB:=hb_ hb am;clear hb hg)|((with_reducible refine gd_ (N:=2) rfl ?_);refine bx_ 2 #[.int .i64 0,.bool false,.slice none 0 0] 26 ?_;intro gb2 hg w2 BK2 hb;have GW2:=ge_ hg ab;have GE2:=GW2;replace HB:=hb_ hb ab;obtain ⟨NB1_2,NB2_1⟩:=nn_ hg BK1;replace BK1:=k1_ BK1 hb;clear hb hg;obtain ⟨hnb1,hnc1⟩:=n2_ NB1_2;have hcz1:=z3_ BK1)|((with_reducible refine gc_ (f:=35) rfl ?_);refine gl_ 5 Tryd.func35 #[.agg #[.int .i64 a0_0,.bool a0_1,.slice A0_2 l0_2.length c0_2]] ?_;(with_reducible refine (aI.calls k a0_0 a0_1 _ _ l0_2 false _ ?_ ?_ A2.out).mono ?_);exact bn;exact HC0_2.out;rintro e w3 ⟨rfl,hb⟩;refine ⟨_,rfl,?_⟩;replace BK1:=k1_ BK1 hb;replace BK2:=k1_ BK2 hb;replace HB:=hb_ hb aY;(try clear hb);have hcz2:=z3_ BK2))
  refine bodyPost_ret (cY rfl _ _ gb2 26 #[.int .i64 0,.bool false,.slice none 0 0] (0,0) _ rfl (u1_ BK2) Tryd.underlying26 rfl bS) rfl ?_
  exact ⟨_,bc,iu,aY⟩
 subst c1;rw [if_pos rfl] at H;obtain ⟨t2,A4,H⟩:=o1_ H;obtain ⟨⟨t3,t4,t5⟩,A6,H⟩:=o1_ H;replace H:(some (t3,t4,t5,true))=some (r1,r2,r3,r4):=H;simp only [sj_,pj_] at H;obtain ⟨rfl,rfl,rfl,rfl⟩:=H;go_enter Tryd.func101,Tryd.ntmps101
 try go_wp2_with (first|((with_reducible refine gd_ (N:=1) rfl ?_);refine bx_ 1 #[.int .i64 a0_0,.bool a0_1,.slice A0_2 l0_2.length c0_2] 26 ?_;intro gb1 hg w1 BK1 hb;have GW1:=ge_ hg am;have GE1:=GW1;replace HB:=hb_ hb am;clear hb hg)|((with_reducible refine gd_ (N:=2) rfl ?_);refine bx_ 2 #[.int .i64 0,.bool false,.slice none 0 0] 26 ?_;intro gb2 hg w2 BK2 hb;have GW2:=ge_ hg ab;have GE2:=GW2;replace HB:=hb_ hb ab;obtain ⟨NB1_2,NB2_1⟩:=nn_ hg BK1;replace BK1:=k1_ BK1 hb;clear hb hg;obtain ⟨hnb1,hnc1⟩:=n2_ NB1_2;have hcz1:=z3_ BK1)|((with_reducible refine gc_ (f:=35) rfl ?_);refine gl_ 5 Tryd.func35 #[.agg #[.int .i64 a0_0,.bool a0_1,.slice A0_2 l0_2.length c0_2]] ?_;(with_reducible refine (aI.calls k a0_0 a0_1 _ _ l0_2 true _ ?_ ?_ A2.out).mono ?_);exact bn;exact HC0_2.out;rintro e w3 ⟨rfl,hb⟩;refine ⟨_,rfl,?_⟩;replace BK1:=k1_ BK1 hb;replace BK2:=k1_ BK2 hb;replace HB:=hb_ hb aY;(try clear hb)))
 replace BK1:=A0_ (kd_ BK1.out);replace BK2:=A0_ (kd_ BK2.out);replace HB:=A0_ (bd_ HB.out)
 refine dh (n:=6) (S:=fun w'=>w'.cell? ⟨gb1,0,none⟩=some (.int .i64 a0_0)∧w'.cell? ⟨gb1,1,none⟩=some (.bool a0_1)∧w'.cell? ⟨gb1,2,none⟩=some (.slice A0_2 l0_2.length c0_2)) (ds:=[]) #[false,false,false,false,false,false] bS rfl rfl (c3_ BK1) (fun hHeld=>?_)
 generalize w3.drew=w4 at BK1 BK2 HB hHeld ⊢
 refine tk_ 0 8 hHeld ?_
 refine tk_ 1 9 hHeld ?_
 refine on_ 2 (some 10) (fun K hK=>?_)
 refine gs_ Tryd.func94 #[.agg #[.int .i64 a0_0,.bool a0_1,.slice A0_2 l0_2.length c0_2]] ?_
 with_reducible refine (bi.calls k a0_0 a0_1 _ _ l0_2 t2 _ ?_ ?_ A4.out).mono ?_
 exact bn
 exact HC0_2.out
 rintro e w5 ⟨v1,rfl,ho0,hb⟩
 refine ⟨_,rfl,?_⟩
 have HO1:=A0_ (Kd.R_lower ho0 (bz_ aY));replace BK1:=k1_ BK1 hb;replace BK2:=k1_ BK2 hb;replace HB:=hb_ hb aY
 (try clear hb ho0)
 obtain ⟨Ao1,co1,eo1⟩:=Kd.R_slice HO1.out
 (first|subst eo1|(injection eo1 with f1_ f2_ f3_;have f4_:=f1_.symm;have f5_:=f3_.symm;clear f1_ f2_ f3_;subst f4_;subst f5_))
 refine hK.out _ _ (c3_ BK1) (fun hHeld=>?_)
 clear hK K
 refine nm_ 10 ?_
 refine on_ 3 (some 11) (fun K hK=>?_)
 refine gs_ Tryd.func88 #[.agg #[.int .i64 a0_0,.bool a0_1,.slice A0_2 l0_2.length c0_2],.slice Ao1 t2.length co1] ?_
 with_reducible refine (cA.calls a0_0 a0_1 _ _ l0_2 (fun k_=>some k_=(.slice Ao1 t2.length co1:Value).ownBlock) (.slice Ao1 t2.length co1) t2 t3 t4 t5 w _ ?_ ?_ ?_ ?_ A6.out).mono ?_
 exact aY
 exact Kd.C_kept_came (Kd.heap_int .i64) HR0_2.out aY (fun k_ hs_=>(fun e_=>Kd.R_base HO1.out k_ e_.symm) hs_)
 exact HC0_2.out
 exact Kd.R_tight rfl HO1.out
 rintro e w6 ⟨v3,rfl,ho0,hb,hkp⟩
 refine ⟨_,rfl,?_⟩
 have n0_:=A0_ (e6 (u1_ BK1) hkp (fun hs_=>(fun e_=>(Kd.R_ne HO1.out BK1.out ao) e_) hs_));have n1_:=A0_ (e6 (u1_ BK2) hkp (fun hs_=>(fun e_=>(Kd.R_ne HO1.out BK2.out ao) e_) hs_));have n2_:=A0_ (Kd.R_mono (ok':=fun k_=>True) ho0 (fun k_ hk_=>trivial));have n3_:=A0_ (hb);clear BK1 BK2 HB HO1;have BK1:=n0_;have BK2:=n1_;have HO2:=n2_;have HB:=n3_;clear n0_ n1_ n2_ n3_
 (try clear hb)
 (try clear hkp)
 (try clear ho0)
 obtain ⟨Ao2,co2,eo2⟩:=Kd.R_slice HO2.out
 (first|subst eo2|(injection eo2 with f1_ f2_ f3_;have f4_:=f1_.symm;have f5_:=f3_.symm;clear f1_ f2_ f3_;subst f4_;subst f5_))
 refine hK.out _ _ (c3_ BK1) (fun hHeld=>?_)
 clear hK K
 refine nm_ 11 ?_
 refine on_ 4 none (fun K hK=>?_)
 have hs15:=y_ BK2 0;have hfs15:=kf_ BK2.out 0;obtain ⟨hns1_0,hms1_0⟩:=n2_ NB1_2;have hs16:=y_ BK2 1;have hfs16:=kf_ BK2.out 1;obtain ⟨hns2_0,hms2_0⟩:=n2_ NB1_2;have hs18:=y_ BK2 2;have hfs18:=kf_ BK2.out 2;obtain ⟨hns3_0,hms3_0⟩:=n2_ NB1_2
 refine fF (w1:=?_) (by rfl) rfl ?_ ?_
 rotate_left
 ·go_simp
  rfl
 refine hK.out _ _ ⟨((av (p:=⟨gb2,_,none⟩) NB1_2.out _).trans (((av (p:=⟨gb2,_,none⟩) NB1_2.out _).trans (((av (p:=⟨gb2,_,none⟩) NB1_2.out _).trans (hHeld.1)))))),((av (p:=⟨gb2,_,none⟩) NB1_2.out _).trans (((av (p:=⟨gb2,_,none⟩) NB1_2.out _).trans (((av (p:=⟨gb2,_,none⟩) NB1_2.out _).trans (hHeld.2.1)))))),((av (p:=⟨gb2,_,none⟩) NB1_2.out _).trans (((av (p:=⟨gb2,_,none⟩) NB1_2.out _).trans (((av (p:=⟨gb2,_,none⟩) NB1_2.out _).trans (hHeld.2.2))))))⟩ (fun hHeld=>?_)
 clear hK K
 refine pu_ 5 3 ?_
 refine gU bS ?_
 try go_wp2
 refine bodyPost_ret (cY rfl _ _ gb2 26 #[.int .i64 t3,.bool t4,.slice Ao2 t5.length co2] (0,0) _ rfl (u1_ BK2) Tryd.underlying26 rfl bS) rfl ?_
 exact ⟨_,bc,oR,aY⟩

mutual
def ag.l0:Nat→Int→Int→List Int→Int→Int→Int→Bool→List Int→Option (Int × Bool × List Int × Int × Int)
 | 0,_,_,_,_,_,_,_,_=>none
 | k+1,x4,x5,xb,xc,xd,xa,xe,xf=>if x5<xa then (ag.j1 k x4 x5 (decide (x5<25)) xb xc xd xa xe xf) else (ag.j1 k x4 x5 false xb xc xd xa xe xf)
def ag.j1:Nat→Int→Int→Bool→List Int→Int→Int→Int→Bool→List Int→Option (Int × Bool × List Int × Int × Int)
 | 0,_,_,_,_,_,_,_,_,_=>none
 | k+1,x4,x5,x18,xa,xe,xf,xc,xd,xb=>if x18=true then ((aK.f xa xe xf x4).bind fun bt360=>(if bt360.1=true then (if xb.length<17592186044416 then (ag.l0 k x4 (wrap64 (x5+1)) xa bt360.2.1 bt360.2.2 xc xd (xb++[x5])) else (none)) else (ag.l0 k x4 (wrap64 (x5+1)) xa bt360.2.1 bt360.2.2 xc xd xb))) else ((aK.f xa xe xf 6).bind fun bt366=>(if bt366.1=true then ((aI.f k xc xd xb).bind fun t369=>(ag.j2 k t369 xa bt366.2.1 bt366.2.2 xc xd xb)) else (ag.j2 k false xa bt366.2.1 bt366.2.2 xc xd xb)))
def ag.j2:Nat→Bool→List Int→Int→Int→Int→Bool→List Int→Option (Int × Bool × List Int × Int × Int)
 | 0,_,_,_,_,_,_,_=>none
 | k+1,x35,xa,xb,xc,xd,xe,xf=>if x35=true then ((b6.f k xd xe xf).bind fun bt370=>(ag.j3 k xa xb xc bt370.1 bt370.2.1 bt370.2.2.1)) else (ag.j3 k xa xb xc xd xe xf)
def ag.j3:Nat→List Int→Int→Int→Int→Bool→List Int→Option (Int × Bool × List Int × Int × Int)
 | 0,_,_,_,_,_,_=>none
 | k+1,xc,xe,xf,xa,xd,xb=>(aK.f xc xe xf 40).bind fun bt376=>(if bt376.1=true then ((bq.f xc bt376.2.1 bt376.2.2 (([(-1),0,xa,4611686018427387904]:List Int))).bind fun bt382=>(if xb.length<17592186044416 then (some (xa,xd,(xb++[bt382.1]),bt382.2.1,bt382.2.2)) else (none))) else (some (xa,xd,xb,bt376.2.1,bt376.2.2)))
end
def ag.f (k:Nat) (s0_0:List Int) (s0_1:Int) (s0_2:Int):Option (Int × Bool × List Int × Int × Int):=(cy.f s0_0 s0_1 s0_2).bind fun bt346=>((bq.f s0_0 bt346.2.2.2.1 bt346.2.2.2.2 (([3,2,5]:List Int))).bind fun bt356=>(ag.l0 k bt356.1 0 s0_0 bt356.2.1 bt356.2.2 bt346.1 bt346.2.1 bt346.2.2.1))
theorem ag.mono_l:∀ k,(∀ y0 y1 y2 y3 y4 y5 y6 y7,LeO (ag.l0 k y0 y1 y2 y3 y4 y5 y6 y7) (ag.l0 (k+1) y0 y1 y2 y3 y4 y5 y6 y7))∧(∀ y0 y1 y2 y3 y4 y5 y6 y7 y8,LeO (ag.j1 k y0 y1 y2 y3 y4 y5 y6 y7 y8) (ag.j1 (k+1) y0 y1 y2 y3 y4 y5 y6 y7 y8))∧(∀ y0 y1 y2 y3 y4 y5 y6,LeO (ag.j2 k y0 y1 y2 y3 y4 y5 y6) (ag.j2 (k+1) y0 y1 y2 y3 y4 y5 y6))∧(∀ y0 y1 y2 y3 y4 y5,LeO (ag.j3 k y0 y1 y2 y3 y4 y5) (ag.j3 (k+1) y0 y1 y2 y3 y4 y5))
 | 0=>⟨fun _ _ _ _ _ _ _ _ r h=>by simp [ag.l0] at h,fun _ _ _ _ _ _ _ _ _ r h=>by simp [ag.j1] at h,fun _ _ _ _ _ _ _ r h=>by simp [ag.j2] at h,fun _ _ _ _ _ _ r h=>by simp [ag.j3] at h⟩
 | k+1=>by
  obtain ⟨ih0,ih1,ih2,ih3⟩:=ag.mono_l k
  refine ⟨?_,?_,?_,?_⟩
  ·intro y0 y1 y2 y3 y4 y5 y6 y7
   unfold ag.l0
   repeat' with_reducible first|exact ih0 ..|exact ih1 ..|exact ih2 ..|exact ih3 ..|exact b6.mono ..|exact aI.mono ..|exact LeO.refl ..|exact LeO.none ..|refine LeO.ite ?_ ?_|refine LeO.bind ?_ (fun _=>?_)
  ·intro y0 y1 y2 y3 y4 y5 y6 y7 y8
   unfold ag.j1
   repeat' with_reducible first|exact ih0 ..|exact ih1 ..|exact ih2 ..|exact ih3 ..|exact b6.mono ..|exact aI.mono ..|exact LeO.refl ..|exact LeO.none ..|refine LeO.ite ?_ ?_|refine LeO.bind ?_ (fun _=>?_)
  ·intro y0 y1 y2 y3 y4 y5 y6
   unfold ag.j2
   repeat' with_reducible first|exact ih0 ..|exact ih1 ..|exact ih2 ..|exact ih3 ..|exact b6.mono ..|exact aI.mono ..|exact LeO.refl ..|exact LeO.none ..|refine LeO.ite ?_ ?_|refine LeO.bind ?_ (fun _=>?_)
  ·intro y0 y1 y2 y3 y4 y5
   unfold ag.j3
   repeat' with_reducible first|exact ih0 ..|exact ih1 ..|exact ih2 ..|exact ih3 ..|exact b6.mono ..|exact aI.mono ..|exact LeO.refl ..|exact LeO.none ..|refine LeO.ite ?_ ?_|refine LeO.bind ?_ (fun _=>?_)
theorem ag.mono:∀ a0 a1 a2 k,LeO (ag.f k a0 a1 a2) (ag.f (k+1) a0 a1 a2):=by
 intro a0 a1 a2 k;obtain ⟨ih0,ih1,ih2,ih3⟩:=ag.mono_l k;unfold ag.f
 repeat' with_reducible first|exact ih0 ..|exact ih1 ..|exact ih2 ..|exact ih3 ..|exact b6.mono ..|exact aI.mono ..|exact LeO.refl ..|exact LeO.none ..|refine LeO.ite ?_ ?_|refine LeO.bind ?_ (fun _=>?_)
def ag.T10:Bool × List (List Nat × List Nat):=(true,[([],[]),([0],[0]),([],[]),([],[]),([3],[3]),([4],[4]),([2,5],[2,5]),([6],[6]),([1,7,6],[1,7]),([0,1,2,3,4,5,6,7,8],[]),([9,8,8,0,1,2,3,4,5,6,7,8],[8,9])])
def ag.B10:List Nat:=[0,1,0,0,8,24,60,124,255,511,1023]
theorem ag.tab10:dx .any (dX Tryd.f81 10)=ag.T10:=by kernel_rfl
theorem ag.bits10:cp ag.T10.2 ag.B10=true:=by kernel_rfl
theorem ag.calls (k:Nat) (g:Nat) (s0_0:List Int) (s0_1:Int) (s0_2:Int) (r1:Int) (r2:Bool) (r3:List Int) (r4:Int) (r5:Int) (w0 w:World) (hI:al w0 w g s0_0 s0_1 s0_2) (hB:Below w0.heap.size w0 w) (H:ag.f k s0_0 s0_1 s0_2=some (r1,r2,r3,r4,r5)) :
  Calls Tryd.prog 81 #[.pointer (some ⟨g,0,none⟩)] w fun e w'=>∃ v2_:Value,e=.returned (.agg #[.int .i64 r1,.bool r2,v2_])∧Kd.R (Kd.int .i64) 3 w' w.heap.size (fun _=>True) v2_ r3∧al w0 w' g s0_0 r4 r5∧Below w0.heap.size w0 w'∧ah w w' g none:=by
 have hu26:=Tryd.underlying26;have HI0:=A0_ hI;have HK:=A0_ (ah.refl w g none);have HL:=A0_ hB.size;clear hI;have HW0:=A0_ hB.size;have HB:=A0_ hB;clear hB;unfold ag.f at H;obtain ⟨⟨t1,t2,t3,t4,t5⟩,A2,H⟩:=o1_ H;obtain ⟨y1,hy1⟩:∃ y_:List Int,y_=(([3,2,5]:List Int)):=⟨_,rfl⟩;replace H:((bq.f s0_0 t4 t5 y1).bind fun bt2=>(ag.l0 k bt2.1 0 s0_0 bt2.2.1 bt2.2.2 t1 t2 t3))=some (r1,r2,r3,r4,r5):=dp;have Ny1:=A0_ hy1;clear hy1;obtain ⟨⟨t6,t7,t8⟩,A4,H⟩:=o1_ H;have H':=A0_ H;clear H;go_enter Tryd.func81,Tryd.ntmps81
 go_wp2_with (first|((with_reducible refine gd_ (N:=2) rfl ?_);refine bx_ 2 #[.int .i64 0,.bool false,.slice none 0 0] 26 ?_;intro gb1 hg w1 BK1 hb;replace HB:=hb_ hb dq;have GW1:=A0_ ((fG:w.heap.size≤gb1));have GE1:=A0_ ((Nat.le_trans HW0.out (fG:w.heap.size≤gb1):w0.heap.size≤gb1));replace HK:=A0_ (ah.trans df (ah.of_below hb g none) (.inl rfl));have NB0_1:=A0_ ((jD:g≠gb1));have NB1_0:=A0_ ((jE:gb1≠g));replace HI0:=A0_ (al.below dv hb);clear hb hg)|((with_reducible refine gc_ (f:=82) rfl ?_);refine gl_ 7 Tryd.func82 #[.pointer (some ⟨g,0,none⟩)] ?_;(with_reducible refine (cy.calls g s0_0 s0_1 s0_2 t1 t2 t3 t4 t5 w0 _ ?_ ?_ A2.out).mono ?_);exact dg;exact dG;rintro e w2 ⟨v1,rfl,ho0,hi,hb,hk⟩;refine ⟨_,rfl,?_⟩;replace BK1:=da BK1 hk NB1_0;have HO1:=A0_ (Kd.R_lower ho0 (cr (w:=w) (g:=g) (row:=none) cU));replace HK:=A0_ (ah.trans cU hk (.inl rfl));replace HB:=A0_ (hb);replace HI0:=A0_ (hi);(try clear hb hk hi ho0))|((with_reducible refine gd_ (N:=9) rfl ?_);refine Kd.R_lit (Kd.int .i64) _ 3 ?hg (N:=9) ?hd (xs:=([3,2,5]:List Int)) (inner:=[.int .i64 3,.int .i64 2,.int .i64 5]) (ok:=fun _=>True) (okp:=fun _=>True) ?hr ?hp (fun _ hk=>hk) trivial (Below.refl _ _) (Nat.le_refl _) bx ?_;(case hd=>rfl);(case hg=>rfl);(case hr=>go_simp;first|done|rfl);(case hp=>exact (bu.one (show Kd.M (Kd.int .i64) _ _ _ 3 [.int .i64 3] from rfl) (bu.one (show Kd.M (Kd.int .i64) _ _ _ 2 [.int .i64 2] from rfl) (bu.one (show Kd.M (Kd.int .i64) _ _ _ 5 [.int .i64 5] from rfl) (bu.none _ _)))));intro v3 w3 ho7 hb hg_ hnew_;clear hg_ hnew_;(first|rw [← Ny1.out] at ho7|(simp only [Int.reduceToNat] at ho7;rw [← Ny1.out] at ho7));have HO2:=A0_ (Kd.R_lower (Kd.R_new' ho7 (Kd.R_lt bR)) (cr (w:=w) (g:=g) (row:=none) cU));replace HO1:=A0_ (Kd.R_elder' bR (Kd.R_base ho7) hb);replace BK1:=k1_ BK1 hb;replace HK:=A0_ (ah.trans cU (ah.of_below hb g none) (.inl rfl));replace HB:=hb_ hb dG;replace HI0:=A0_ (al.below dg hb);clear hb ho7;obtain ⟨Ao1,co1,eo1⟩:=Kd.R_slice HO2.out;subst eo1)|((with_reducible refine gc_ (f:=90) rfl ?_);refine gl_ 10 Tryd.func90 #[.pointer (some ⟨g,0,none⟩),.slice Ao1 y1.length co1] ?_;(with_reducible refine (bq.calls g s0_0 t4 t5 _ _ y1 t6 t7 t8 w0 _ ?_ ?_ ?_ ?_ ?_ A4.out).mono ?_);exact dg;exact dG;exact nD;exact (rr_ HO2.out).2.1;exact ff (al.own_ne HI0.out HO2.out ao);rintro e w4 ⟨rfl,hi,hb,hk⟩;refine ⟨_,rfl,?_⟩;replace BK1:=da BK1 hk NB1_0;replace HO1:=A0_ (Kd.R_mono (Kd.R_keep (al.apart (show al w0 _ g s0_0 t4 t5 from dg) bR ao) hk (fun _ h=>h.2)) (fun _ h=>h.1));replace HO2:=A0_ (Kd.R_mono (Kd.R_keep (al.apart (show al w0 _ g s0_0 t4 t5 from dg) cQ ao) hk (fun _ h=>h.2)) (fun _ h=>h.1));replace HK:=A0_ (ah.trans cU hk (.inl rfl));replace HB:=A0_ (hb);replace HI0:=A0_ (hi);(try clear hb hk hi))|((with_reducible refine gd_ (N:=3) rfl ?_);refine bx_ 3 #[.int .i64 0,.bool false,.slice none 0 0] 26 ?_;intro gb2 hg w5 BK2 hb;replace HO1:=q1_ HO1 hb;replace HO2:=q1_ HO2 hb;replace HB:=hb_ hb dG;have GW2:=A0_ ((gK:w.heap.size≤gb2));have GE2:=A0_ ((Nat.le_trans HW0.out (gK:w.heap.size≤gb2):w0.heap.size≤gb2));replace HK:=A0_ (ah.trans cU (ah.of_below hb g none) (.inl rfl));obtain ⟨NB1_2,NB2_1⟩:=nn_ hg BK1;replace BK1:=k1_ BK1 hb;have NB0_2:=A0_ ((by rw [hg];exact Nat.ne_of_lt (al.lt (show al w0 _ g s0_0 t7 t8 from dg)):g≠gb2));have NB2_0:=A0_ ((by rw [hg];exact Nat.ne_of_gt (al.lt (show al w0 _ g s0_0 t7 t8 from dg)):gb2≠g));replace HI0:=A0_ (al.below dg hb);clear hb hg;obtain ⟨hnb1,hnc1⟩:=n2_ NB2_1;obtain ⟨hnb2,hnc2⟩:=n2_ NB2_0;have hcz1:=z3_ BK2;obtain ⟨Ao2,co2,eo2⟩:=Kd.R_slice HO1.out;subst eo2))
 go_loopg [5] k (fun kq v4 w'=>∃ (x5_1:Int) (xc:Int) (xd:Int) (xb:List Int) (ua:Value),v4=.int .i64 x5_1∧Aside0 (ag.l0 kq t6 x5_1 s0_0 xc xd t1 t2 xb=some (r1,r2,r3,r4,r5))∧Aside0 (kq≤k)∧Aside0 (Kd.R (Kd.int .i64) 3 w' w.heap.size (fun _=>True) ua xb)∧Aside0 (w'.heap[gb1]?=some (.cells #[.int .i64 0,.bool false,(.slice none 0 0)] 26 (0,0)))∧Aside0 (w'.heap[gb2]?=some (.cells #[.int .i64 t1,.bool t2,ua] 26 (0,0)))∧Aside0 (al w0 w' g s0_0 xc xd)∧Aside0 (ah w w' g none)∧Aside0 (Below w0.heap.size w0 w'))
 case atStart=>exact ⟨(0),(t7),(t8),(t3),(.slice Ao2 t3.length co2),aC,H',⟨Nat.le_refl _⟩,⟨kj⟩,⟨u1_ BK1⟩,⟨u1_ BK2⟩,⟨bQ⟩,⟨bV⟩,⟨ce⟩⟩
 clear H'
 (try clear hcz1);(try clear hfz1)
 obtain ⟨x5_1,xc,xd,xb,ua,rfl,HA,HK1,HO_1,BK1,BK2,HI0,HK,HB⟩:=hrel
 cases gk with|zero=>exact absurd HA.out (by simp [ag.l0])|succ k1=>?_
 have H:=HA.out;clear HA;simp only [ag.l0] at H;have HC15:=A0_ H;clear H
 go_upto_region 3 with (fail)
 go_cut [18] (fun v5 wc=>∃ (kq:Nat) (x18_14:Bool),v5=.bool x18_14∧Aside0 (ag.j1 kq t6 x5_1 x18_14 s0_0 xc xd t1 t2 xb=some (r1,r2,r3,r4,r5))∧Aside0 (kq≤k1)∧Aside0 (Kd.R (Kd.int .i64) 3 wc w.heap.size (fun _=>True) ua xb)∧Aside0 (wc.heap[gb1]?=some (.cells #[.int .i64 0,.bool false,(.slice none 0 0)] 26 (0,0)))∧Aside0 (wc.heap[gb2]?=some (.cells #[.int .i64 t1,.bool t2,ua] 26 (0,0)))∧Aside0 (al w0 wc g s0_0 xc xd)∧Aside0 (ah w wc g none)∧Aside0 (Below w0.heap.size w0 wc))
 case first =>
  have H:=HC15.out;clear HC15
  by_cases c1:x5_1<t1
  ·rw [if_pos c1] at H
   have c1b0:decide (x5_1<t1)=true:=dt_ c1;clear c1
   (first|rw [c1b0]|(simp only [cH,dC];rw [c1b0])|skip)
   have H':=A0_ H;clear H;obtain ⟨hnb3,hnc3⟩:=n2_ NB2_1;obtain ⟨hnb4,hnc4⟩:=n2_ NB2_0;have hcz2:=z3_ BK2
   go_wp2
   go_meet
   exact ⟨_,(decide (x5_1<25)),aC,H',⟨by have:=HK1.out;first|omega|exact Nat.le_refl _⟩,⟨aD⟩,⟨u1_ BK1⟩,⟨u1_ BK2⟩,⟨bQ⟩,⟨bV⟩,⟨ce⟩⟩
  rw [if_neg c1] at H;have c1b0:decide (x5_1<t1)=false:=decide_eq_false c1;clear c1
  (first|rw [c1b0]|(simp only [cH,dC];rw [c1b0])|skip)
  have H':=A0_ H;clear H;obtain ⟨hnb3,hnc3⟩:=n2_ NB2_1;obtain ⟨hnb4,hnc4⟩:=n2_ NB2_0;have hcz2:=z3_ BK2
  go_wp2
  go_meet
  exact ⟨_,(false),aC,H',⟨by have:=HK1.out;first|omega|exact Nat.le_refl _⟩,⟨aD⟩,⟨u1_ BK1⟩,⟨u1_ BK2⟩,⟨bQ⟩,⟨bV⟩,⟨ce⟩⟩
 clear HC15
 (try clear hcz1);(try clear hfz1)
 obtain ⟨kq,x18_14,rfl,HA,HJ1,HO_1,BK1,BK2,HI0,HK,HB⟩:=hcut
 cases kq with|zero=>exact absurd HA.out (by simp [ag.j1])|succ kj1=>?_
 have H:=HA.out;clear HA;simp only [ag.j1] at H
 by_cases c1:x18_14=true
 ·subst c1
  rw [if_pos rfl] at H;obtain ⟨⟨t9,t10,t11⟩,A6,H⟩:=o1_ H
  by_cases c2:t9=true
  case neg =>
   obtain rfl:=bf_.mpr c2;rw [if_neg ft_] at H;have H':=A0_ H;clear H
   go_wp2_with (first|((with_reducible refine gc_ (f:=59) rfl ?_);refine gl_ 23 Tryd.func59 #[.pointer (some ⟨g,0,none⟩),.int .i64 t6] ?_;(with_reducible refine (aK.calls g s0_0 xc xd t6 false t10 t11 w0 _ ?_ ?_ A6.out).mono ?_);exact bQ;exact ce;rintro e w6 ⟨rfl,hi,hb,hk⟩;refine ⟨_,rfl,?_⟩;replace HO_1:=A0_ (Kd.R_mono (Kd.R_keep (al.apart (show al w0 _ g s0_0 xc xd from bQ) aD ao) hk (fun _ h=>h.2)) (fun _ h=>h.1));replace BK1:=da BK1 hk NB1_0;replace BK2:=da BK2 hk NB2_0;replace HK:=A0_ (ah.trans bV hk (.inl rfl));replace HB:=A0_ (hb);replace HI0:=A0_ (hi);(try clear hb hk hi)))
   go_roundg kj1
   case measure=>have:=HK1.out;have:=HJ1.out;omega
   exact ⟨(wrap64 (x5_1+1)),(t10),(t11),(xb),(ua),aC,H',⟨by have:=HK1.out;have:=HJ1.out;omega⟩,⟨aD⟩,⟨u1_ BK1⟩,⟨u1_ BK2⟩,⟨bQ⟩,⟨bV⟩,⟨ce⟩⟩
  subst c2;rw [if_pos rfl] at H;obtain ⟨c3,H⟩:=is_ H;have LMc1:=A0_ c3;clear c3;obtain ⟨y2,hy2⟩:∃ y_:List Int,y_=(xb++[x5_1]):=⟨_,rfl⟩;replace H:(ag.l0 kj1 t6 (wrap64 (x5_1+1)) s0_0 t10 t11 t1 t2 y2)=some (r1,r2,r3,r4,r5):=dO;have Ny2:=A0_ hy2;clear hy2;have H':=A0_ H;clear H
  go_wp2_with (first|((with_reducible refine gc_ (f:=59) rfl ?_);refine gl_ 23 Tryd.func59 #[.pointer (some ⟨g,0,none⟩),.int .i64 t6] ?_;(with_reducible refine (aK.calls g s0_0 xc xd t6 true t10 t11 w0 _ ?_ ?_ A6.out).mono ?_);exact bQ;exact ce;rintro e w6 ⟨rfl,hi,hb,hk⟩;refine ⟨_,rfl,?_⟩;replace HO_1:=A0_ (Kd.R_mono (Kd.R_keep (al.apart (show al w0 _ g s0_0 xc xd from bQ) aD ao) hk (fun _ h=>h.2)) (fun _ h=>h.1));replace BK1:=da BK1 hk NB1_0;replace BK2:=da BK2 hk NB2_0;replace HK:=A0_ (ah.trans bV hk (.inl rfl));replace HB:=A0_ (hb);replace HI0:=A0_ (hi);(try clear hb hk hi);obtain ⟨hnb3,hnc3⟩:=n2_ NB2_1;obtain ⟨hnb4,hnc4⟩:=n2_ NB2_0;have hcz2:=z3_ BK2)|((with_reducible refine bO (b:=.append) (xs:=#[.tmp 25,.tmp 27]) rfl ?_);at_builtin;refine Kd.R_append (Kd.int .i64) w.heap.size rfl (.tmp 25) (.tmp 27) 22 3 (.int .i64 0) 8 rfl Tryd.underlying22 cP rfl ao bL ua xb x5_1 [.int .i64 x5_1] (fun _=>True) (fun _=>False) rfl rfl ?aP (fun _ hk=>hk.elim) ?aF ?aO (Below.refl _ _) ?aS ?aL ?_;(case aP=>exact rfl);(case aF=>exact (fun _ _=>trivial));(case aO=>exact aD);(case aS=>exact (cr (w:=w) (g:=g) (row:=none) bV));(case aL=>have:=LMc1.out;omega);intro v6 w7 ho hb hg hat;rw [← Ny2.out] at ho;have n0_:=A0_ (a6 (g:=gb1) (o:=.cells #[.int .i64 0,.bool false,.slice none 0 0] 26 (0,0)) (u1_ BK1) hg (Kd.R_ne HO_1.out BK1.out ao));have n1_:=A0_ (a6 (g:=gb2) (o:=.cells #[.int .i64 t1,.bool t2,ua] 26 (0,0)) (u1_ BK2) hg (Kd.R_ne HO_1.out BK2.out ao));have n2_:=A0_ (al.grown bQ hg (al.own_ne HI0.out HO_1.out ao));have n3_:=A0_ (gE ce HL.out hb);have n4_:=A0_ (ah.trans bV (ah.of_grown hg g) (Kd.R_base2 HO_1.out));have n5_:=A0_ (ho);clear BK1 BK2 HI0 HB HK HO_1;have BK1:=n0_;have BK2:=n1_;have HI0:=n2_;have HB:=n3_;have HK:=n4_;have HO3:=n5_;clear n0_ n1_ n2_ n3_ n4_ n5_ ho hb hg hat;obtain ⟨Ao3,co3,eo3⟩:=Kd.R_slice HO3.out;subst eo3;have hcz3:=z3_ BK2))
  go_roundg kj1
  case measure=>have:=HK1.out;have:=HJ1.out;omega
  exact ⟨(wrap64 (x5_1+1)),(t10),(t11),(y2),(.slice Ao3 y2.length co3),aC,H',⟨by have:=HK1.out;have:=HJ1.out;omega⟩,⟨by (with_reducible repeat (first|apply ra_|apply rn_|apply rd_));exact Kd.R_mono (rf_ (Kd.R_types HO3.out BK2.out ao) kR _) (fun _ hk=>trivial)⟩,⟨u1_ BK1⟩,⟨u1_ BK2⟩,⟨bQ⟩,⟨bV⟩,⟨ce⟩⟩
 obtain rfl:=bf_.mpr c1;rw [if_neg ft_] at H;have HC35:=A0_ H;clear H
 go_upto_region 7 with (fail)
 go_cut [35] (fun v6 wc=>∃ (kq:Nat) (x35_34:Bool) (xf:Int) (xg:Int),v6=.bool x35_34∧Aside0 (ag.j2 kq x35_34 s0_0 xf xg t1 t2 xb=some (r1,r2,r3,r4,r5))∧Aside0 (kq≤kj1)∧Aside0 (Kd.R (Kd.int .i64) 3 wc w.heap.size (fun _=>True) ua xb)∧Aside0 (wc.heap[gb1]?=some (.cells #[.int .i64 0,.bool false,(.slice none 0 0)] 26 (0,0)))∧Aside0 (wc.heap[gb2]?=some (.cells #[.int .i64 t1,.bool t2,ua] 26 (0,0)))∧Aside0 (al w0 wc g s0_0 xf xg)∧Aside0 (ah w wc g none)∧Aside0 (Below w0.heap.size w0 wc))
 case first =>
  have H:=HC35.out;clear HC35;obtain ⟨⟨t9,t10,t11⟩,A6,H⟩:=o1_ H
  by_cases c2:t9=true
  case neg =>
   obtain rfl:=bf_.mpr c2;rw [if_neg ft_] at H;have H':=A0_ H;clear H
   go_wp2_with (first|((with_reducible refine gc_ (f:=59) rfl ?_);refine gl_ 31 Tryd.func59 #[.pointer (some ⟨g,0,none⟩),.int .i64 6] ?_;(with_reducible refine (aK.calls g s0_0 xc xd 6 false t10 t11 w0 _ ?_ ?_ A6.out).mono ?_);exact bQ;exact ce;rintro e w6 ⟨rfl,hi,hb,hk⟩;refine ⟨_,rfl,?_⟩;replace HO_1:=A0_ (Kd.R_mono (Kd.R_keep (al.apart (show al w0 _ g s0_0 xc xd from bQ) aD ao) hk (fun _ h=>h.2)) (fun _ h=>h.1));replace BK1:=da BK1 hk NB1_0;replace BK2:=da BK2 hk NB2_0;replace HK:=A0_ (ah.trans bV hk (.inl rfl));replace HB:=A0_ (hb);replace HI0:=A0_ (hi);(try clear hb hk hi)))
   go_meet
   exact ⟨_,(false),(t10),(t11),aC,H',⟨by have:=HK1.out;have:=HJ1.out;first|omega|exact Nat.le_refl _⟩,⟨aD⟩,⟨u1_ BK1⟩,⟨u1_ BK2⟩,⟨bQ⟩,⟨bV⟩,⟨ce⟩⟩
  subst c2;rw [if_pos rfl] at H;obtain ⟨t12,A8,H⟩:=o1_ H;have H':=A0_ H;clear H
  go_wp2_with (first|((with_reducible refine gc_ (f:=59) rfl ?_);refine gl_ 31 Tryd.func59 #[.pointer (some ⟨g,0,none⟩),.int .i64 6] ?_;(with_reducible refine (aK.calls g s0_0 xc xd 6 true t10 t11 w0 _ ?_ ?_ A6.out).mono ?_);exact bQ;exact ce;rintro e w6 ⟨rfl,hi,hb,hk⟩;refine ⟨_,rfl,?_⟩;replace HO_1:=A0_ (Kd.R_mono (Kd.R_keep (al.apart (show al w0 _ g s0_0 xc xd from bQ) aD ao) hk (fun _ h=>h.2)) (fun _ h=>h.1));replace BK1:=da BK1 hk NB1_0;replace BK2:=da BK2 hk NB2_0;replace HK:=A0_ (ah.trans bV hk (.inl rfl));replace HB:=A0_ (hb);replace HI0:=A0_ (hi);(try clear hb hk hi);obtain ⟨hnb3,hnc3⟩:=n2_ NB2_1;obtain ⟨hnb4,hnc4⟩:=n2_ NB2_0;have hcz2:=z3_ BK2;obtain ⟨Ao3,co3,eo3⟩:=Kd.R_slice HO_1.out;subst eo3)|(go_at_call 35;(with_reducible refine (aI.calls kj1 t1 t2 _ _ xb t12 _ ?_ ?_ A8.out).mono ?_);exact mu;exact (rr_ HO_1.out).2.1;rintro e w7 ⟨rfl,hb⟩;replace HO_1:=q1_ HO_1 hb;replace BK1:=k1_ BK1 hb;replace BK2:=k1_ BK2 hb;replace HK:=A0_ (ah.trans bV (ah.of_below hb g none) (.inl rfl));replace HB:=hb_ hb ce;replace HI0:=A0_ (al.below bQ hb);(try clear hb)))
  go_meet
  exact ⟨_,(t12),(t10),(t11),aC,H',⟨by have:=HK1.out;have:=HJ1.out;first|omega|exact Nat.le_refl _⟩,⟨aD⟩,⟨u1_ BK1⟩,⟨u1_ BK2⟩,⟨bQ⟩,⟨bV⟩,⟨ce⟩⟩
 clear HC35
 try clear c1
 (try clear hcz1);(try clear hfz1)
 obtain ⟨kq,x35_34,xf,xg,rfl,HA,HJ2,HO_1,BK1,BK2,HI0,HK,HB⟩:=hcut
 cases kq with|zero=>exact absurd HA.out (by simp [ag.j2])|succ kj2=>?_
 have H:=HA.out;clear HA;simp only [ag.j2] at H;have HC46:=A0_ H;clear H
 go_upto_if 35 with (fail)
 go_cut [] (fun wc=>∃ (kq:Nat) (xe:Int) (xh:Bool) (xi:List Int) (ua:Value),Aside0 (ag.j3 kq s0_0 xf xg xe xh xi=some (r1,r2,r3,r4,r5))∧Aside0 (kq≤kj2)∧Aside0 (Kd.R (Kd.int .i64) 3 wc w.heap.size (fun _=>True) ua xi)∧Aside0 (wc.heap[gb1]?=some (.cells #[.int .i64 0,.bool false,(.slice none 0 0)] 26 (0,0)))∧Aside0 (wc.heap[gb2]?=some (.cells #[.int .i64 xe,.bool xh,ua] 26 (0,0)))∧Aside0 (al w0 wc g s0_0 xf xg)∧Aside0 (ah w wc g none)∧Aside0 (Below w0.heap.size w0 wc))
 case first =>
  have H:=HC46.out;clear HC46
  by_cases c2:x35_34=true
  case neg =>
   obtain rfl:=bf_.mpr c2;rw [if_neg ft_] at H;have H':=A0_ H;clear H
   go_wp2
   go_meet
   exact ⟨_,(t1),(t2),(xb),(ua),H',⟨by have:=HK1.out;have:=HJ1.out;have:=HJ2.out;first|omega|exact Nat.le_refl _⟩,⟨aD⟩,⟨u1_ BK1⟩,⟨u1_ BK2⟩,⟨bQ⟩,⟨bV⟩,⟨ce⟩⟩
  subst c2;rw [if_pos rfl] at H;obtain ⟨⟨t9,t10,t11,t12⟩,A6,H⟩:=o1_ H;have H':=A0_ H;clear H;obtain ⟨hnb3,hnc3⟩:=n2_ NB2_1;obtain ⟨hnb4,hnc4⟩:=n2_ NB2_0;have hcz2:=z3_ BK2;obtain ⟨Ao3,co3,eo3⟩:=Kd.R_slice HO_1.out;subst eo3
  go_wp2_with (first|((with_reducible refine gc_ (f:=101) rfl ?_);refine gl_ 38 Tryd.func101 #[.agg #[.int .i64 t1,.bool t2,.slice Ao3 xb.length co3]] ?_;(with_reducible refine (b6.calls kj2 t1 t2 _ _ xb t9 t10 t11 t12 _ ?_ ?_ A6.out).mono ?_);exact mu;exact (rr_ HO_1.out).2.1;rintro e w6 ⟨v7,rfl,ho0,hb⟩;refine ⟨_,rfl,?_⟩;have HO3:=A0_ (Kd.R_lower (Kd.R_new' ho0 (Kd.R_lt aD)) (cr (w:=w) (g:=g) (row:=none) bV));replace HO_1:=A0_ (Kd.R_elder' aD (Kd.R_base ho0) hb);replace BK1:=k1_ BK1 hb;replace BK2:=k1_ BK2 hb;replace HK:=A0_ (ah.trans bV (ah.of_below hb g none) (.inl rfl));replace HB:=hb_ hb ce;replace HI0:=A0_ (al.below bQ hb);(try clear hb ho0);have hcz3:=z3_ BK2;obtain ⟨Ao4,co4,eo4⟩:=Kd.R_slice HO3.out;subst eo4))
  go_meet
  exact ⟨_,(t9),(t10),(t11),(.slice Ao4 t11.length co4),H',⟨by have:=HK1.out;have:=HJ1.out;have:=HJ2.out;first|omega|exact Nat.le_refl _⟩,⟨qy⟩,⟨u1_ BK1⟩,⟨u1_ BK2⟩,⟨bQ⟩,⟨bV⟩,⟨ce⟩⟩
 clear HC46
 try clear c1
 (try clear hcz1);(try clear hfz1)
 obtain ⟨kq,xe,xh,xi,ua,HA,HJ3,HO_1,BK1,BK2,HI0,HK,HB⟩:=hcut
 cases kq with|zero=>exact absurd HA.out (by simp [ag.j3])|succ kj3=>?_
 have H:=HA.out;clear HA;simp only [ag.j3] at H;obtain ⟨⟨t9,t10,t11⟩,A6,H⟩:=o1_ H
 by_cases c2:t9=true
 case neg =>
  obtain rfl:=bf_.mpr c2;rw [if_neg ft_] at H;simp only [sj_,pj_] at H;obtain ⟨rfl,rfl,rfl,rfl,rfl⟩:=H
  go_wp2_with (first|((with_reducible refine gc_ (f:=59) rfl ?_);refine gl_ 42 Tryd.func59 #[.pointer (some ⟨g,0,none⟩),.int .i64 40] ?_;(with_reducible refine (aK.calls g s0_0 xf xg 40 false t10 t11 w0 _ ?_ ?_ A6.out).mono ?_);exact bQ;exact ce;rintro e w6 ⟨rfl,hi,hb,hk⟩;refine ⟨_,rfl,?_⟩;replace HO_1:=A0_ (Kd.R_mono (Kd.R_keep (al.apart (show al w0 _ g s0_0 xf xg from bQ) aD ao) hk (fun _ h=>h.2)) (fun _ h=>h.1));replace BK1:=da BK1 hk NB1_0;replace BK2:=da BK2 hk NB2_0;replace HK:=A0_ (ah.trans bV hk (.inl rfl));replace HB:=A0_ (hb);replace HI0:=A0_ (hi);(try clear hb hk hi);obtain ⟨hnb3,hnc3⟩:=n2_ NB2_1;obtain ⟨hnb4,hnc4⟩:=n2_ NB2_0;have hcz2:=z3_ BK2;obtain ⟨hnb5,hnc5⟩:=n2_ NB1_0;have hcz3_0:=y_ BK1 0;have hcz3_1:=y_ BK1 1;have hcz3_2:=y_ BK1 2;have hfz3_0:=kf_ BK1.out 0;have hfz3_1:=kf_ BK1.out 1;have hfz3_2:=kf_ BK1.out 2;obtain ⟨Ao3,co3,eo3⟩:=Kd.R_slice HO_1.out;subst eo3))
  refine bodyPost_ret (results_cell_row rfl _ _ gb1 26 #[.int .i64 xe,.bool xh,.slice Ao3 xi.length co3] (0,0) _ rfl (u1_ BK1) Tryd.underlying26 rfl bS) rfl ?_
  exact ⟨_,bc,qS,bQ,ce,bV⟩
 subst c2;rw [if_pos rfl] at H;obtain ⟨y2,hy2⟩:∃ y_:List Int,y_=(([(-1),0,xe,4611686018427387904]:List Int)):=⟨_,rfl⟩;replace H:((bq.f s0_0 t10 t11 y2).bind fun bt3=>(if xi.length<17592186044416 then (some (xe,xh,(xi++[bt3.1]),bt3.2.1,bt3.2.2)) else (none)))=some (r1,r2,r3,r4,r5):=dO;have Ny2:=A0_ hy2;clear hy2;obtain ⟨⟨t12,t13,t14⟩,A8,H⟩:=o1_ H;obtain ⟨c3,H⟩:=is_ H;have LMc1:=A0_ c3;clear c3;obtain ⟨y3,hy3⟩:∃ y_:List Int,y_=(xi++[t12]):=⟨_,rfl⟩;replace H:(some (xe,xh,y3,t13,t14))=some (r1,r2,r3,r4,r5):=ir;have Ny3:=A0_ hy3;clear hy3;simp only [sj_,pj_] at H;obtain ⟨rfl,rfl,rfl,rfl,rfl⟩:=H
 try go_wp2_with (first|((with_reducible refine gc_ (f:=59) rfl ?_);refine gl_ 42 Tryd.func59 #[.pointer (some ⟨g,0,none⟩),.int .i64 40] ?_;(with_reducible refine (aK.calls g s0_0 xf xg 40 true t10 t11 w0 _ ?_ ?_ A6.out).mono ?_);exact bQ;exact ce;rintro e w6 ⟨rfl,hi,hb,hk⟩;refine ⟨_,rfl,?_⟩;replace HO_1:=A0_ (Kd.R_mono (Kd.R_keep (al.apart (show al w0 _ g s0_0 xf xg from bQ) aD ao) hk (fun _ h=>h.2)) (fun _ h=>h.1));replace BK1:=da BK1 hk NB1_0;replace BK2:=da BK2 hk NB2_0;replace HK:=A0_ (ah.trans bV hk (.inl rfl));replace HB:=A0_ (hb);replace HI0:=A0_ (hi);(try clear hb hk hi)))
 replace HO_1:=A0_ (rd_ HO_1.out);replace BK1:=A0_ (kd_ BK1.out);replace BK2:=A0_ (kd_ BK2.out);replace HI0:=A0_ (al.drew HI0.out);replace HK:=A0_ (dD HK.out);replace HB:=A0_ (bd_ HB.out)
 refine s3_ 11 [10] BK2 ag.tab10 ag.bits10 (fun hHeld HT_ HW_=>?_)
 generalize w6.drew=w7 at HO_1 BK1 BK2 HI0 HK HB hHeld ⊢
 refine pu_ 0 43 ?_
 refine pu_ 2 45 ?_
 refine pu_ 3 46 ?_
 refine tk_ 1 44 hHeld ?_
 refine tk_ 4 47 hHeld ?_
 refine on_ 5 (some 48) (fun K hK=>?_)
 refine Kd.R_lit_step (Kd.int .i64) _ 3 ?hg (N:=48) ?hd (xs:=([(-1),0,xe,4611686018427387904]:List Int)) (inner:=[.int .i64 (-1),.int .i64 0,.int .i64 xe,.int .i64 4611686018427387904]) (ok:=fun _=>True) (okp:=fun _=>True) ?hr ?hp (fun _ hk=>hk) trivial (Below.refl _ _) (Nat.le_refl _) bx ?_;(case hd=>rfl);(case hg=>rfl);(case hr=>go_simp;first|done|rfl);(case hp=>exact (bu.one (show Kd.M (Kd.int .i64) _ _ _ (-1) [.int .i64 (-1)] from rfl) (bu.one (show Kd.M (Kd.int .i64) _ _ _ 0 [.int .i64 0] from rfl) (bu.one (show Kd.M (Kd.int .i64) _ _ _ xe [.int .i64 xe] from rfl) (bu.one (show Kd.M (Kd.int .i64) _ _ _ 4611686018427387904 [.int .i64 4611686018427387904] from rfl) (bu.none _ _))))))
 intro v7 w8 ho63 hb hg_ hnew_;clear hg_ hnew_
 (first|rw [← Ny2.out] at ho63|(simp only [Int.reduceToNat] at ho63;rw [← Ny2.out] at ho63))
 have HO3:=A0_ (Kd.R_lower (Kd.R_new' ho63 (Kd.R_lt aD)) (cr (w:=w) (g:=g) (row:=none) bV));replace HO_1:=A0_ (Kd.R_elder' aD (Kd.R_base ho63) hb);replace BK1:=k1_ BK1 hb;replace BK2:=k1_ BK2 hb;replace HK:=A0_ (ah.trans bV (ah.of_below hb g none) (.inl rfl));replace HB:=hb_ hb ce;replace HI0:=A0_ (al.below bQ hb);clear hb ho63;obtain ⟨Ao3,co3,eo3⟩:=Kd.R_slice HO3.out
 (first|subst eo3|(injection eo3 with f1_ f2_ f3_;have f4_:=f1_.symm;have f5_:=f3_.symm;clear f1_ f2_ f3_;subst f4_;subst f5_))
 refine hK.out _ _ (c3_ BK2) (fun hHeld=>?_)
 clear hK K
 refine nm_ 48 ?_
 refine on_ 6 (some 49) (fun K hK=>?_)
 refine gs_ Tryd.func90 #[.pointer (some ⟨g,0,none⟩),.slice Ao3 y2.length co3] ?_
 with_reducible refine (bq.calls g s0_0 t10 t11 _ _ y2 t12 t13 t14 w0 _ ?_ ?_ ?_ ?_ ?_ A8.out).mono ?_
 exact bQ
 exact ce
 exact kk
 exact (rr_ HO3.out).2.1
 exact ff (al.own_ne HI0.out HO3.out ao)
 rintro e w9 ⟨rfl,hi,hb,hk⟩
 refine ⟨_,rfl,?_⟩
 replace HO_1:=A0_ (Kd.R_mono (Kd.R_keep (al.apart (show al w0 _ g s0_0 t10 t11 from bQ) aD ao) hk (fun _ h=>h.2)) (fun _ h=>h.1));replace BK1:=da BK1 hk NB1_0;replace BK2:=da BK2 hk NB2_0;replace HO3:=A0_ (Kd.R_mono (Kd.R_keep (al.apart (show al w0 _ g s0_0 t10 t11 from bQ) d9 ao) hk (fun _ h=>h.2)) (fun _ h=>h.1));replace HK:=A0_ (ah.trans bV hk (.inl rfl));replace HB:=A0_ (hb);replace HI0:=A0_ (hi)
 (try clear hb hk hi)
 refine hK.out _ _ (c3_ BK2) (fun hHeld=>?_)
 clear hK K
 refine nm_ 49 ?_
 refine on_ 7 (some 50) (fun K hK=>?_)
 refine jj (w1:=?_) (v:=?_) (by rfl) rfl ?_ ?_
 rotate_left 2
 ·go_simp
  constructor
  ·rfl
  rfl
 refine hK.out _ _ ⟨(kc_ (ka_ BK2.out _) 0).trans rfl,(kc_ (ka_ BK2.out _) 1).trans rfl,(kc_ (ka_ BK2.out _) 2).trans rfl⟩ (fun hHeld=>?_)
 clear hK K
 refine nm_ 50 ?_
 refine on_ 8 (some 51) (fun K hK=>?_)
 refine Kd.R_append_step (Kd.int .i64) w.heap.size (by rfl) (.tmp 44) (.tmp 50) 22 3 (.int .i64 0) 8 rfl Tryd.underlying22 cP rfl ao bL ua xi t12 [.int .i64 t12] (fun k_=>no_ (.slice Ao3 y2.length co3) k_) (fun _=>False) rfl rfl ?aP (fun _ hk=>hk.elim) ?aF ?aO (Below.refl _ _) ?aS ?aL ?_
 (case aP=>exact rfl)
 (case aF=>exact (fun k_ hk=>Kd.fresh' (Kd.R_lt d9) k_ hk))
 (case aO=>exact nO)
 (case aS=>exact (cr (w:=w) (g:=g) (row:=none) bV))
 (case aL=>have:=LMc1.out;omega)
 intro v8 w10 ho hb hg hat;rw [← Ny3.out] at ho;have n0_:=A0_ (a6 (g:=gb1) (o:=.cells #[.int .i64 0,.bool false,.slice none 0 0] 26 (0,0)) (u1_ BK1) hg (Kd.R_ne HO_1.out BK1.out ao));have n1_:=A0_ (a6 (g:=gb2) (o:=.cells #[.int .i64 xe,.bool xh,ua] 26 (0,0)) (u1_ BK2) hg (Kd.R_ne HO_1.out BK2.out ao));have n2_:=A0_ (al.grown bQ hg (al.own_ne HI0.out HO_1.out ao));have n3_:=A0_ (Kd.R_after (ok:=(fun _=>True)) d9 hg hat);have n4_:=A0_ (gE ce HL.out hb);have n5_:=A0_ (ah.trans bV (ah.of_grown hg g) (Kd.R_base2 HO_1.out));have n6_:=A0_ (ho);clear BK1 BK2 HI0 HO3 HB HK HO_1;have BK1:=n0_;have BK2:=n1_;have HI0:=n2_;have HO3:=n3_;have HB:=n4_;have HK:=n5_;have HO4:=n6_;clear n0_ n1_ n2_ n3_ n4_ n5_ n6_ ho hb hg hat;obtain ⟨Ao4,co4,eo4⟩:=Kd.R_slice HO4.out
 (first|subst eo4|(injection eo4 with f1_ f2_ f3_;have f4_:=f1_.symm;have f5_:=f3_.symm;clear f1_ f2_ f3_;subst f4_;subst f5_))
 refine hK.out _ _ (c3_ BK2) (fun hHeld=>?_)
 clear hK K
 refine nm_ 51 ?_
 refine pu_ 9 52 ?_
 refine iW (i:=10) (N:=none) #[true,true,true,true,true,true,true,true,true,true,true] rfl rfl (gD HT_.out bS) ao (fun K hK=>?_)
 have hs68:=y_ BK2 2;have hfs68:=kf_ BK2.out 2;obtain ⟨hns1_0,hms1_0⟩:=n2_ NB1_2
 refine fF (w1:=?_) (by rfl) rfl ?_ ?_
 rotate_left
 ·go_simp
  rfl
 refine hK.out _ _ ?_
 clear hK K
 refine dn_ ?_
 obtain ⟨hnb3,hnc3⟩:=n2_ NB2_1;obtain ⟨hnb4,hnc4⟩:=n2_ NB2_0;have hcz2:=z3_ BK2;obtain ⟨hnb5,hnc5⟩:=n2_ NB1_0;have hcz3:=z3_ BK1
 try go_wp2
 refine bodyPost_ret (results_cell_row rfl _ _ gb1 26 #[.int .i64 xe,.bool xh,.slice Ao4 y3.length co4] (0,0) _ rfl (u1_ BK1) Tryd.underlying26 rfl bS) rfl ?_
 exact ⟨_,bc,by (with_reducible repeat (first|apply ra_|apply rn_|apply rd_));exact Kd.R_mono (cf (rf_ (Kd.R_types (Kd.R_types HO4.out BK2.out ao) BK1.out ao) (fun _ hk=>hk.1.2) (.slice Ao4 y3.length co4))) (fun _ hk=>trivial),bQ,ce,bV⟩

mutual
def ax.j0:Nat→List Int→Int→Int→Int→Bool→List Int→Option (Int × Bool × List Int × Int × Int × Int)
 | 0,_,_,_,_,_,_=>none
 | k+1,xa,xc,xd,xe,xf,xb=>if (xb.length:Int) > 2 then ((aK.f xa xc xd 2).bind fun bt407=>(ax.j1 k bt407.1 xa bt407.2.1 bt407.2.2 xe xf xb)) else (ax.j1 k false xa xc xd xe xf xb)
def ax.j1:Nat→Bool→List Int→Int→Int→Int→Bool→List Int→Option (Int × Bool × List Int × Int × Int × Int)
 | 0,_,_,_,_,_,_,_=>none
 | k+1,x24,xa,xc,xd,xe,xf,xb=>if x24=true then ((bC.f xa xc xd 3).bind fun bt410=>(if 0≤bt410.1 then (if bt410.1≤(xb.length:Int) then ((cu.f xa bt410.2.1 bt410.2.2).bind fun bt416=>(some (xe,xf,(xb.take (bt410.1:Int).toNat),bt416.1,bt416.2.1,bt416.2.2))) else (none)) else (none))) else ((cu.f xa xc xd).bind fun bt419=>(some (xe,xf,xb,bt419.1,bt419.2.1,bt419.2.2)))
end
def ax.f (k:Nat) (s0_0:List Int) (s0_1:Int) (s0_2:Int):Option (Int × Bool × List Int × Int × Int × Int):=(ag.f k s0_0 s0_1 s0_2).bind fun bt389=>((aK.f s0_0 bt389.2.2.2.1 bt389.2.2.2.2 3).bind fun bt397=>(if bt397.1=true then ((cy.f s0_0 bt397.2.1 bt397.2.2).bind fun bt400=>(ax.j0 k s0_0 bt400.2.2.2.1 bt400.2.2.2.2 bt400.1 bt400.2.1 bt400.2.2.1)) else (ax.j0 k s0_0 bt397.2.1 bt397.2.2 bt389.1 bt389.2.1 bt389.2.2.1)))
theorem ax.mono_l:∀ k,(∀ y0 y1 y2 y3 y4 y5,LeO (ax.j0 k y0 y1 y2 y3 y4 y5) (ax.j0 (k+1) y0 y1 y2 y3 y4 y5))∧(∀ y0 y1 y2 y3 y4 y5 y6,LeO (ax.j1 k y0 y1 y2 y3 y4 y5 y6) (ax.j1 (k+1) y0 y1 y2 y3 y4 y5 y6))
 | 0=>⟨fun _ _ _ _ _ _ r h=>by simp [ax.j0] at h,fun _ _ _ _ _ _ _ r h=>by simp [ax.j1] at h⟩
 | k+1=>by
  obtain ⟨ih0,ih1⟩:=ax.mono_l k
  refine ⟨?_,?_⟩
  ·intro y0 y1 y2 y3 y4 y5
   unfold ax.j0
   repeat' with_reducible first|exact ih0 ..|exact ih1 ..|exact ag.mono ..|exact LeO.refl ..|exact LeO.none ..|refine LeO.ite ?_ ?_|refine LeO.bind ?_ (fun _=>?_)
  ·intro y0 y1 y2 y3 y4 y5 y6
   unfold ax.j1
   repeat' with_reducible first|exact ih0 ..|exact ih1 ..|exact ag.mono ..|exact LeO.refl ..|exact LeO.none ..|refine LeO.ite ?_ ?_|refine LeO.bind ?_ (fun _=>?_)
theorem ax.mono:∀ a0 a1 a2 k,LeO (ax.f k a0 a1 a2) (ax.f (k+1) a0 a1 a2):=by
 intro a0 a1 a2 k;obtain ⟨ih0,ih1⟩:=ax.mono_l k;unfold ax.f
 repeat' with_reducible first|exact ih0 ..|exact ih1 ..|exact ag.mono ..|exact LeO.refl ..|exact LeO.none ..|refine LeO.ite ?_ ?_|refine LeO.bind ?_ (fun _=>?_)
def bM.f (k:Nat) (l0:List Int):Option (Int × Bool × List Int × Int):=(ax.f k l0 0 0).bind fun b=>some (b.1,b.2.1,b.2.2.1,b.2.2.2.1)
theorem bM.mono:∀ a0 k,LeO (bM.f k a0) (bM.f (k+1) a0):=by
 intro a0 k;unfold bM.f
 exact LeO.bind (ax.mono _ _ _ _) (fun _=>LeO.refl _)
theorem bM.calls (k:Nat) (A0:Option Addr) (c0:Nat) (l0:List Int) (r1:Int) (r2:Bool) (r3:List Int) (r4:Int) (w:World) (hr0:Kd.C (Kd.int .u8) w A0 l0.length l0) (hc0:l0.length≤c0) (h:bM.f k l0=some (r1,r2,r3,r4)) :
  Calls Tryd.prog 49 #[.slice A0 l0.length c0] w fun e w'=>∃ v2_:Value,e=.returned (.tuple #[.agg #[.int .i64 r1,.bool r2,v2_],.int .i64 r4])∧Kd.R (Kd.int .i64) 3 w' w.heap.size (fun _=>True) v2_ r3∧Below w.heap.size w w':=by
 have hu26:=Tryd.underlying26;have hu77:=Tryd.underlying77;have HB:=A0_ (Below.refl w.heap.size w);obtain ⟨⟨r1_,r2_,r3_,r4_,r5,r6⟩,h,h_⟩:=ob_.mp (show (ax.f k l0 0 0).bind (fun b=>some (b.1,b.2.1,b.2.2.1,b.2.2.2.1))=some (r1,r2,r3,r4) from h)
 replace h:ax.f k l0 0 0=some (r1,r2,r3,r4,r5,r6):=by rw [h];cases h_;rfl
 clear h_;have H:((ag.f k l0 0 0).bind fun bt1=>((aK.f l0 bt1.2.2.2.1 bt1.2.2.2.2 3).bind fun bt2=>(if bt2.1=true then ((cy.f l0 bt2.2.1 bt2.2.2).bind fun bt3=>(ax.j0 k l0 bt3.2.2.2.1 bt3.2.2.2.2 bt3.1 bt3.2.1 bt3.2.2.1)) else (ax.j0 k l0 bt2.2.1 bt2.2.2 bt1.1 bt1.2.1 bt1.2.2.1))))=some (r1,r2,r3,r4,r5,r6):=h;clear h;obtain ⟨⟨t1,t2,t3,t4,t5⟩,A2,H⟩:=o1_ H;obtain ⟨⟨t6,t7,t8⟩,A4,H⟩:=o1_ H;have HC4:=A0_ H;clear H;go_enter Tryd.func49,Tryd.ntmps49
 go_upto_if 13 with (first|((with_reducible refine gd_ (N:=2) rfl ?_);refine bx_ 2 #[.int .i64 0,.bool false,.slice none 0 0] 26 ?_;intro gb1 hg w1 hbox hb;have n2_:=A0_ (bt_ am hb);have n3_:=hbox;have n4_:=A0_ ((lp:w.heap.size≤gb1));clear HB;have HB:=n2_;have BK1:=n3_;have GW1:=n4_;have GE1:=n4_;clear n2_ n3_ n4_ hb hbox hg)|((with_reducible refine gd_ (N:=9) rfl ?_);refine be_ ?hg (N:=9) ?hd (cs:=#[.slice A0 l0.length c0,.int .i64 0,.int .u64 0]) (t:=77) ?hr ?_;(case hd=>rfl);(case hg=>rfl);(case hr=>go_simp;first|done|rfl);intro g hg wB hbox hb;have n0_:=A0_ (show al w wB g l0 0 0 from ⟨A0,c0,hbox,lp,hr0⟩);have n1_:=A0_ (ah.refl wB g none);have n2_:=A0_ (bt_ am hb);have HW0:=A0_ (Below.size n2_.out);have m388_:=A0_ (kb_ (g:=gb1) (o:=.cells #[.int .i64 0,.bool false,.slice none 0 0] 26 (0,0)) (u1_ BK1) hb);have NB0_1:=A0_ ((oT:g≠gb1));have NB1_0:=A0_ (Ne.symm NB0_1.out);clear HB BK1;have HI0:=n0_;have HK:=n1_;have HB:=n2_;have BK1:=m388_;clear m388_ n0_ n1_ n2_ hb hbox hg)|((with_reducible refine gc_ (f:=81) rfl ?_);refine gl_ 11 Tryd.func81 #[.pointer (some ⟨g,0,none⟩)] ?_;(with_reducible refine (ag.calls k g l0 0 0 t1 t2 t3 t4 t5 w _ ?_ ?_ A2.out).mono ?_);exact dg;exact dG;rintro e w2 ⟨v1,rfl,ho0,hi,hb,hk⟩;refine ⟨_,rfl,?_⟩;replace BK1:=da BK1 hk NB1_0;have HO1:=A0_ (Kd.R_lower ho0 (cr (w:=wB) (g:=g) (row:=none) cU));replace HK:=A0_ (ah.trans cU hk (.inl rfl));replace HB:=A0_ (hb);replace HI0:=A0_ (hi);(try clear hb hk hi ho0))|((with_reducible refine gd_ (N:=5) rfl ?_);refine bx_ 5 #[.int .i64 0,.bool false,.slice none 0 0] 26 ?_;intro gb2 hg w3 BK2 hb;replace HO1:=q1_ HO1 hb;replace HB:=hb_ hb dG;have GW2:=A0_ ((nP:wB.heap.size≤gb2));have GE2:=A0_ ((Nat.le_trans HW0.out (nP:wB.heap.size≤gb2):w.heap.size≤gb2));replace HK:=A0_ (ah.trans cU (ah.of_below hb g none) (.inl rfl));obtain ⟨NB1_2,NB2_1⟩:=nn_ hg BK1;replace BK1:=k1_ BK1 hb;have NB0_2:=A0_ ((rt:g≠gb2));have NB2_0:=A0_ ((ru:gb2≠g));replace HI0:=A0_ (al.below dg hb);clear hb hg;obtain ⟨hnb1,hnc1⟩:=n2_ NB2_1;obtain ⟨hnb2,hnc2⟩:=n2_ NB2_0;have hcz1:=z3_ BK2;obtain ⟨Ao1,co1,eo1⟩:=Kd.R_slice HO1.out;subst eo1)|((with_reducible refine gc_ (f:=59) rfl ?_);refine gl_ 13 Tryd.func59 #[.pointer (some ⟨g,0,none⟩),.int .i64 3] ?_;(with_reducible refine (aK.calls g l0 t4 t5 3 t6 t7 t8 w _ ?_ ?_ A4.out).mono ?_);exact bQ;exact ce;rintro e w4 ⟨rfl,hi,hb,hk⟩;refine ⟨_,rfl,?_⟩;replace BK1:=da BK1 hk NB1_0;replace HO1:=A0_ (Kd.R_mono (Kd.R_keep (al.apart (show al w _ g l0 t4 t5 from bQ) mr ao) hk (fun _ h=>h.2)) (fun _ h=>h.1));replace BK2:=A0_ (ah.blk hk (g':=gb2) (o:=.cells #[.int .i64 t1,.bool t2,.slice Ao1 t3.length co1] 26 (0,0)) (u1_ BK2) NB2_0.out bx);replace HK:=A0_ (ah.trans bV hk (.inl rfl));replace HB:=A0_ (hb);replace HI0:=A0_ (hi);(try clear hb hk hi)))
 (try simp only [Act.put,sa_,sz_,ss_])
 go_cut [] (fun wc=>∃ (kq:Nat) (xf:Int) (xg:Int) (xb:Int) (xc:Bool) (xa:List Int) (uh:Value),Aside0 (ax.j0 kq l0 xf xg xb xc xa=some (r1,r2,r3,r4,r5,r6))∧Aside0 (kq≤k)∧Aside0 (Kd.R (Kd.int .i64) 3 wc wB.heap.size (fun _=>True) uh xa)∧Aside0 (wc.heap[gb1]?=some (.cells #[.int .i64 0,.bool false,(.slice none 0 0)] 26 (0,0)))∧Aside0 (wc.heap[gb2]?=some (.cells #[.int .i64 xb,.bool xc,uh] 26 (0,0)))∧Aside0 (al w wc g l0 xf xg)∧Aside0 (ah wB wc g none)∧Aside0 (Below w.heap.size w wc))
 case first =>
  have H:=HC4.out;clear HC4
  by_cases c1:t6=true
  case neg =>
   obtain rfl:=bf_.mpr c1;rw [if_neg ft_] at H;have H':=A0_ H;clear H
   go_wp2
   go_meet
   exact ⟨_,(t7),(t8),(t1),(t2),(t3),(.slice Ao1 t3.length co1),H',⟨eH⟩,⟨bR⟩,⟨u1_ BK1⟩,⟨u1_ BK2⟩,⟨bQ⟩,⟨bV⟩,⟨ce⟩⟩
  subst c1;rw [if_pos rfl] at H;obtain ⟨⟨t9,t10,t11,t12,t13⟩,A6,H⟩:=o1_ H;have H':=A0_ H;clear H
  go_wp2_with (first|((with_reducible refine gc_ (f:=82) rfl ?_);refine gl_ 15 Tryd.func82 #[.pointer (some ⟨g,0,none⟩)] ?_;(with_reducible refine (cy.calls g l0 t7 t8 t9 t10 t11 t12 t13 w _ ?_ ?_ A6.out).mono ?_);exact bQ;exact ce;rintro e w5 ⟨v3,rfl,ho0,hi,hb,hk⟩;refine ⟨_,rfl,?_⟩;replace BK1:=da BK1 hk NB1_0;replace BK2:=da BK2 hk NB2_0;have HO2:=A0_ (Kd.R_lower (Kd.R_new' ho0 (Kd.R_lt bR)) (cr (w:=wB) (g:=g) (row:=none) bV));replace HO1:=A0_ (Kd.R_mono (Kd.R_told (Kd.R_oldK (al.apart (show al w _ g l0 t7 t8 from bQ) bR ao) hk) (Kd.R_base ho0)) (fun _ h_=>h_.1));replace HK:=A0_ (ah.trans bV hk (.inl rfl));replace HB:=A0_ (hb);replace HI0:=A0_ (hi);(try clear hb hk hi ho0);obtain ⟨hnb3,hnc3⟩:=n2_ NB2_1;obtain ⟨hnb4,hnc4⟩:=n2_ NB2_0;have hcz2:=z3_ BK2;obtain ⟨Ao2,co2,eo2⟩:=Kd.R_slice HO2.out;subst eo2))
  go_meet
  exact ⟨_,(t12),(t13),(t9),(t10),(t11),(.slice Ao2 t11.length co2),H',⟨eH⟩,⟨oR⟩,⟨u1_ BK1⟩,⟨u1_ BK2⟩,⟨bQ⟩,⟨bV⟩,⟨ce⟩⟩
 clear HC4
 (try clear hcz1);(try clear hfz1)
 obtain ⟨kq,xf,xg,xb,xc,xa,uh,HA,HJ1,HO_1,BK1,BK2,HI0,HK,HB⟩:=hcut
 cases kq with|zero=>exact absurd HA.out (by simp [ax.j0])|succ kj1=>?_
 have H:=HA.out;clear HA;simp only [ax.j0] at H;have HC20:=A0_ H;clear H;obtain ⟨hnb3,hnc3⟩:=n2_ NB2_1;obtain ⟨hnb4,hnc4⟩:=n2_ NB2_0;have hcz2:=z3_ BK2;obtain ⟨Ao2,co2,eo2⟩:=Kd.R_slice HO_1.out;subst eo2
 go_upto_region 6 with (fail)
 go_cut [24] (fun v3 wc=>∃ (kq:Nat) (x24_19:Bool) (xd:Int) (xe:Int),v3=.bool x24_19∧Aside0 (ax.j1 kq x24_19 l0 xd xe xb xc xa=some (r1,r2,r3,r4,r5,r6))∧Aside0 (kq≤kj1)∧Aside0 (Kd.R (Kd.int .i64) 3 wc wB.heap.size (fun _=>True) (.slice Ao2 xa.length co2) xa)∧Aside0 (wc.heap[gb1]?=some (.cells #[.int .i64 0,.bool false,(.slice none 0 0)] 26 (0,0)))∧Aside0 (wc.heap[gb2]?=some (.cells #[.int .i64 xb,.bool xc,(.slice Ao2 xa.length co2)] 26 (0,0)))∧Aside0 (al w wc g l0 xd xe)∧Aside0 (ah wB wc g none)∧Aside0 (Below w.heap.size w wc))
 case first =>
  have H:=HC20.out;clear HC20
  by_cases c1:(xa.length:Int) > 2
  case neg =>
   rw [if_neg c1] at H;have c1b0:decide (2<(xa.length:Int))=false:=decide_eq_false c1;have c1b1:decide (2<xa.length)=false:=decide_eq_false bL;clear c1
   (first|rw [c1b0]|(simp only [cH,dC];rw [c1b0])|skip)
   have H':=A0_ H;clear H
   go_wp2
   go_meet
   exact ⟨_,(false),(xf),(xg),aC,H',⟨ki⟩,⟨aD⟩,⟨u1_ BK1⟩,⟨u1_ BK2⟩,⟨bQ⟩,⟨bV⟩,⟨ce⟩⟩
  rw [if_pos c1] at H;have c1b0:decide (2<(xa.length:Int))=true:=dt_ c1;have c1b1:decide (2<xa.length)=true:=dt_ bL;clear c1
  (first|rw [c1b0]|(simp only [cH,dC];rw [c1b0])|skip)
  obtain ⟨⟨t9,t10,t11⟩,A6,H⟩:=o1_ H;have H':=A0_ H;clear H
  go_wp2_with (first|(go_at_call 59;(with_reducible refine (aK.calls g l0 xf xg 2 t9 t10 t11 w _ ?_ ?_ A6.out).mono ?_);exact bQ;exact ce;rintro e w5 ⟨rfl,hi,hb,hk⟩;replace HO_1:=A0_ (Kd.R_mono (Kd.R_keep (al.apart (show al w _ g l0 xf xg from bQ) aD ao) hk (fun _ h=>h.2)) (fun _ h=>h.1));replace BK1:=da BK1 hk NB1_0;replace BK2:=da BK2 hk NB2_0;replace HK:=A0_ (ah.trans bV hk (.inl rfl));replace HB:=A0_ (hb);replace HI0:=A0_ (hi);(try clear hb hk hi)))
  go_meet
  exact ⟨_,(t9),(t10),(t11),aC,H',⟨ki⟩,⟨aD⟩,⟨u1_ BK1⟩,⟨u1_ BK2⟩,⟨bQ⟩,⟨bV⟩,⟨ce⟩⟩
 clear HC20
 (try clear hcz1);(try clear hcz2);(try clear hfz1);(try clear hfz2)
 obtain ⟨kq,x24_19,xd,xe,rfl,HA,HJ2,HO_1,BK1,BK2,HI0,HK,HB⟩:=hcut
 cases kq with|zero=>exact absurd HA.out (by simp [ax.j1])|succ kj2=>?_
 have H:=HA.out;clear HA;simp only [ax.j1] at H
 by_cases c1:x24_19=true
 case neg =>
  obtain rfl:=bf_.mpr c1;rw [if_neg ft_] at H;obtain ⟨⟨t9,t10,t11⟩,A6,H⟩:=o1_ H;replace H:(some (xb,xc,xa,t9,t10,t11))=some (r1,r2,r3,r4,r5,r6):=H;simp only [sj_,pj_] at H;obtain ⟨rfl,rfl,rfl,rfl,rfl,rfl⟩:=H
  try go_wp2
  replace HO_1:=A0_ (rd_ HO_1.out);replace BK1:=A0_ (kd_ BK1.out);replace BK2:=A0_ (kd_ BK2.out);replace HI0:=A0_ (al.drew HI0.out);replace HK:=A0_ (dD HK.out);replace HB:=A0_ (bd_ HB.out)
  refine dh (n:=5) (S:=fun w'=>w'.cell? ⟨gb2,0,none⟩=some (.int .i64 xb)∧w'.cell? ⟨gb2,1,none⟩=some (.bool xc)∧w'.cell? ⟨gb2,2,none⟩=some (.slice Ao2 xa.length co2)) (ds:=[]) #[false,false,false,false,false] bS rfl rfl (c3_ BK2) (fun hHeld=>?_)
  generalize wc.drew=w5 at HO_1 BK1 BK2 HI0 HK HB hHeld ⊢
  refine pu_ 1 32 ?_
  refine tk_ 0 31 hHeld ?_
  refine on_ 2 (some 33) (fun K hK=>?_)
  refine gs_ Tryd.func63 #[.pointer (some ⟨g,0,none⟩)] ?_
  with_reducible refine (cu.calls g l0 xd xe t9 t10 t11 w _ ?_ ?_ A6.out).mono ?_
  exact bQ
  exact ce
  rintro e w6 ⟨rfl,hi,hb,hk⟩
  refine ⟨_,rfl,?_⟩
  replace HO_1:=A0_ (Kd.R_mono (Kd.R_keep (al.apart (show al w _ g l0 xd xe from bQ) aD ao) hk (fun _ h=>h.2)) (fun _ h=>h.1));replace BK1:=da BK1 hk NB1_0;replace BK2:=da BK2 hk NB2_0;replace HK:=A0_ (ah.trans bV hk (.inl rfl));replace HB:=A0_ (hb);replace HI0:=A0_ (hi)
  (try clear hb hk hi)
  refine hK.out _ _ (c3_ BK2) (fun hHeld=>?_)
  clear hK K
  refine nm_ 33 ?_
  refine on_ 3 none (fun K hK=>?_)
  have hs46:=y_ BK1 0;have hfs46:=kf_ BK1.out 0;obtain ⟨hns1_1,hms1_1⟩:=n2_ NB2_1;have hs47:=y_ BK1 1;have hfs47:=kf_ BK1.out 1;obtain ⟨hns2_1,hms2_1⟩:=n2_ NB2_1;have hs48:=y_ BK1 2;have hfs48:=kf_ BK1.out 2;obtain ⟨hns3_1,hms3_1⟩:=n2_ NB2_1
  refine fF (w1:=?_) (by rfl) rfl ?_ ?_
  rotate_left
  ·go_simp
   rfl
  refine hK.out _ _ ⟨((av (p:=⟨gb1,_,none⟩) NB2_1.out _).trans (((av (p:=⟨gb1,_,none⟩) NB2_1.out _).trans (((av (p:=⟨gb1,_,none⟩) NB2_1.out _).trans (hHeld.1)))))),((av (p:=⟨gb1,_,none⟩) NB2_1.out _).trans (((av (p:=⟨gb1,_,none⟩) NB2_1.out _).trans (((av (p:=⟨gb1,_,none⟩) NB2_1.out _).trans (hHeld.2.1)))))),((av (p:=⟨gb1,_,none⟩) NB2_1.out _).trans (((av (p:=⟨gb1,_,none⟩) NB2_1.out _).trans (((av (p:=⟨gb1,_,none⟩) NB2_1.out _).trans (hHeld.2.2))))))⟩ (fun hHeld=>?_)
  clear hK K
  refine pu_ 4 3 ?_
  refine gU bS ?_
  try go_wp2
  refine bodyPost_ret (cY rfl _ _ gb1 26 #[.int .i64 xb,.bool xc,.slice Ao2 xa.length co2] (0,0) _ rfl (u1_ BK1) Tryd.underlying26 rfl bS) rfl ?_
  exact ⟨_,bc,by (with_reducible repeat (first|apply ra_|apply rn_|apply rd_));exact Kd.R_lower (Kd.R_mono (cf (Kd.R_types HO_1.out BK1.out ao)) (fun _ hk=>trivial)) HW0.out,ce⟩
 subst c1;rw [if_pos rfl] at H;obtain ⟨⟨t9,t10,t11⟩,A6,H⟩:=o1_ H;obtain ⟨c2b0,c2b1,H⟩:=i2_ H;obtain ⟨c3b0,c3b1,H⟩:=i2_ H;obtain ⟨y1,hy1⟩:∃ y_:List Int,y_=(xa.take (t9:Int).toNat):=⟨_,rfl⟩;replace H:((cu.f l0 t10 t11).bind fun bt4=>(some (xb,xc,y1,bt4.1,bt4.2.1,bt4.2.2)))=some (r1,r2,r3,r4,r5,r6):=dp;have Ny1:=A0_ hy1;clear hy1;obtain ⟨⟨t12,t13,t14⟩,A8,H⟩:=o1_ H;replace H:(some (xb,xc,y1,t12,t13,t14))=some (r1,r2,r3,r4,r5,r6):=H;simp only [sj_,pj_] at H;obtain ⟨rfl,rfl,rfl,rfl,rfl,rfl⟩:=H
 try go_wp2
 replace HO_1:=A0_ (rd_ HO_1.out);replace BK1:=A0_ (kd_ BK1.out);replace BK2:=A0_ (kd_ BK2.out);replace HI0:=A0_ (al.drew HI0.out);replace HK:=A0_ (dD HK.out);replace HB:=A0_ (bd_ HB.out)
 refine dh (n:=7) (S:=fun w'=>w'.cell? ⟨gb2,0,none⟩=some (.int .i64 xb)∧w'.cell? ⟨gb2,1,none⟩=some (.bool xc)∧w'.cell? ⟨gb2,2,none⟩=some (.slice Ao2 xa.length co2)) (ds:=[6]) #[false,false,false,false,false,false,false] bS rfl rfl (c3_ BK2) (fun hHeld=>?_)
 generalize wc.drew=w5 at HO_1 BK1 BK2 HI0 HK HB hHeld ⊢
 refine pu_ 0 25 ?_
 refine pu_ 2 27 ?_
 refine tk_ 1 26 hHeld ?_
 refine on_ 3 (some 28) (fun K hK=>?_)
 refine gs_ Tryd.func60 #[.pointer (some ⟨g,0,none⟩),.int .i64 3] ?_
 with_reducible refine (bC.calls g l0 xd xe 3 t9 t10 t11 w _ ?_ ?_ A6.out).mono ?_
 exact bQ
 exact ce
 rintro e w6 ⟨rfl,hi,hb,hk⟩
 refine ⟨_,rfl,?_⟩
 replace HO_1:=A0_ (Kd.R_mono (Kd.R_keep (al.apart (show al w _ g l0 xd xe from bQ) aD ao) hk (fun _ h=>h.2)) (fun _ h=>h.1));replace BK1:=da BK1 hk NB1_0;replace BK2:=da BK2 hk NB2_0;replace HK:=A0_ (ah.trans bV hk (.inl rfl));replace HB:=A0_ (hb);replace HI0:=A0_ (hi)
 (try clear hb hk hi)
 have q1:(t9:Int)≤((xa.length:Int):Int):=od_ aE;obtain ⟨i035,hi035,_,hsz35,_⟩:=info_parts cP;have hcut35:=rL (P:=Tryd.prog) 22 3 .i64 Tryd.underlying22 hi035 Ao2 xa.length co2 t9 (od_ aE) q1 (rr_ HO_1.out).2.1;have hr35:=Kd.R_take (m:=(t9:Int).toNat) HO_1.out bL;have hy2:y1.length=(t9:Int).toNat:=(by rw [Ny1.out,lt_];omega);rw [← Ny1.out] at hr35;rw [← hy2] at hr35 hcut35;clear hy2 hi035 hsz35 HO_1;have HO2:=A0_ hr35;clear hr35;replace q1:=eq_true q1
 refine hK.out _ _ (c3_ BK2) (fun hHeld=>?_)
 clear hK K
 refine nm_ 28 ?_
 refine pu_ 4 29 ?_
 refine pu_ 5 30 ?_
 refine iW (i:=6) (N:=none) #[true,true,true,true,true,true,true] rfl rfl bS ao (fun K hK=>?_)
 have hs36:=y_ BK2 2;have hfs36:=kf_ BK2.out 2;obtain ⟨hns1_0,hms1_0⟩:=n2_ NB1_2
 refine fF (w1:=?_) (by rfl) rfl ?_ ?_
 rotate_left
 ·go_simp
  rfl
 refine hK.out _ _ ?_
 clear hK K
 refine gU bS ?_
 try go_wp2
 have n0_:Aside0 (Kd.R (Kd.int .i64) 3 (w6.setCell ⟨gb2,2,none⟩ (.slice Ao2 y1.length co2)) wB.heap.size (fun _=>True) (.slice Ao2 y1.length co2) y1):=⟨qR⟩;have n1_:Aside0 ((w6.setCell ⟨gb2,2,none⟩ (.slice Ao2 y1.length co2)).heap[gb1]?=some (.cells #[.int .i64 0,.bool false,.slice none 0 0] 26 (0,0))):=⟨u1_ BK1⟩;have n2_:Aside0 ((w6.setCell ⟨gb2,2,none⟩ (.slice Ao2 y1.length co2)).heap[gb2]?=some (.cells #[.int .i64 xb,.bool xc,.slice Ao2 y1.length co2] 26 (0,0))):=⟨u1_ BK2⟩;have n3_:Aside0 (al w (w6.setCell ⟨gb2,2,none⟩ (.slice Ao2 y1.length co2)) g l0 t10 t11):=⟨bQ⟩;have n4_:Aside0 (ah wB (w6.setCell ⟨gb2,2,none⟩ (.slice Ao2 y1.length co2)) g none):=⟨bV⟩;have n5_:Aside0 (Below w.heap.size w (w6.setCell ⟨gb2,2,none⟩ (.slice Ao2 y1.length co2))):=⟨ce⟩
 (try clear HO2)
 (try clear BK1)
 (try clear BK2)
 (try clear HI0)
 (try clear HK)
 (try clear HB)
 generalize (w6.setCell ⟨gb2,2,none⟩ (.slice Ao2 y1.length co2))=w7 at n0_ n1_ n2_ n3_ n4_ n5_ ⊢;have HO2:=n0_;have BK1:=n1_;have BK2:=n2_;have HI0:=n3_;have HK:=n4_;have HB:=n5_;clear n0_ n1_ n2_ n3_ n4_ n5_;replace HO2:=A0_ (rd_ HO2.out);replace BK1:=A0_ (kd_ BK1.out);replace BK2:=A0_ (kd_ BK2.out);replace HI0:=A0_ (al.drew HI0.out);replace HK:=A0_ (dD HK.out);replace HB:=A0_ (bd_ HB.out)
 refine dh (n:=5) (S:=fun w'=>w'.cell? ⟨gb2,0,none⟩=some (.int .i64 xb)∧w'.cell? ⟨gb2,1,none⟩=some (.bool xc)∧w'.cell? ⟨gb2,2,none⟩=some (.slice Ao2 y1.length co2)) (ds:=[]) #[false,false,false,false,false] bS rfl rfl (c3_ BK2) (fun hHeld=>?_)
 generalize w7.drew=w8 at HO2 BK1 BK2 HI0 HK HB hHeld ⊢
 refine pu_ 1 32 ?_
 refine tk_ 0 31 hHeld ?_
 refine on_ 2 (some 33) (fun K hK=>?_)
 refine gs_ Tryd.func63 #[.pointer (some ⟨g,0,none⟩)] ?_
 with_reducible refine (cu.calls g l0 t10 t11 t12 t13 t14 w _ ?_ ?_ A8.out).mono ?_
 exact bQ
 exact ce
 rintro e w9 ⟨rfl,hi,hb,hk⟩
 refine ⟨_,rfl,?_⟩
 replace HO2:=A0_ (Kd.R_mono (Kd.R_keep (al.apart (show al w _ g l0 t10 t11 from bQ) cQ ao) hk (fun _ h=>h.2)) (fun _ h=>h.1));replace BK1:=da BK1 hk NB1_0;replace BK2:=da BK2 hk NB2_0;replace HK:=A0_ (ah.trans bV hk (.inl rfl));replace HB:=A0_ (hb);replace HI0:=A0_ (hi)
 (try clear hb hk hi)
 refine hK.out _ _ (c3_ BK2) (fun hHeld=>?_)
 clear hK K
 refine nm_ 33 ?_
 refine on_ 3 none (fun K hK=>?_)
 have hs40:=y_ BK1 0;have hfs40:=kf_ BK1.out 0;obtain ⟨hns2_1,hms2_1⟩:=n2_ NB2_1;have hs41:=y_ BK1 1;have hfs41:=kf_ BK1.out 1;obtain ⟨hns3_1,hms3_1⟩:=n2_ NB2_1;have hs42:=y_ BK1 2;have hfs42:=kf_ BK1.out 2;obtain ⟨hns4_1,hms4_1⟩:=n2_ NB2_1
 refine fF (w1:=?_) (by rfl) rfl ?_ ?_
 rotate_left
 ·go_simp
  rfl
 refine hK.out _ _ ⟨((av (p:=⟨gb1,_,none⟩) NB2_1.out _).trans (((av (p:=⟨gb1,_,none⟩) NB2_1.out _).trans (((av (p:=⟨gb1,_,none⟩) NB2_1.out _).trans (hHeld.1)))))),((av (p:=⟨gb1,_,none⟩) NB2_1.out _).trans (((av (p:=⟨gb1,_,none⟩) NB2_1.out _).trans (((av (p:=⟨gb1,_,none⟩) NB2_1.out _).trans (hHeld.2.1)))))),((av (p:=⟨gb1,_,none⟩) NB2_1.out _).trans (((av (p:=⟨gb1,_,none⟩) NB2_1.out _).trans (((av (p:=⟨gb1,_,none⟩) NB2_1.out _).trans (hHeld.2.2))))))⟩ (fun hHeld=>?_)
 clear hK K
 refine pu_ 4 3 ?_
 refine gU bS ?_
 try go_wp2
 refine bodyPost_ret (cY rfl _ _ gb1 26 #[.int .i64 xb,.bool xc,.slice Ao2 y1.length co2] (0,0) _ rfl (u1_ BK1) Tryd.underlying26 rfl bS) rfl ?_
 exact ⟨_,bc,by (with_reducible repeat (first|apply ra_|apply rn_|apply rd_));exact Kd.R_lower (Kd.R_mono (cf (Kd.R_types HO2.out BK1.out ao)) (fun _ hk=>trivial)) HW0.out,ce⟩


def cw.f (k:Nat) (l0:List Int):Option (Int × Bool × List Int × Int):=(bM.f k l0).bind fun bt389=>(some (bt389.1,bt389.2.1,bt389.2.2.1,bt389.2.2.2))
theorem cw.mono:∀ a0 k,LeO (cw.f k a0) (cw.f (k+1) a0):=by
 intro a0 k;unfold cw.f
 repeat' with_reducible first|exact bM.mono ..|exact LeO.refl ..|exact LeO.none ..|refine LeO.ite ?_ ?_|refine LeO.bind ?_ (fun _=>?_)
theorem cw.calls (k:Nat) (A0:Option Addr) (c0:Nat) (l0:List Int) (r1:Int) (r2:Bool) (r3:List Int) (r4:Int) (w:World) (hr0:Kd.C (Kd.int .u8) w A0 l0.length l0) (hc0:l0.length≤c0) (H:cw.f k l0=some (r1,r2,r3,r4)) :
  Calls Tryd.prog 13 #[.slice A0 l0.length c0] w fun e w'=>∃ v2_:Value,e=.returned (.tuple #[.agg #[.int .i64 r1,.bool r2,v2_],.int .i64 r4])∧Kd.R (Kd.int .i64) 3 w' w.heap.size (fun _=>True) v2_ r3∧Below w.heap.size w w':=by
 have hu26:=Tryd.underlying26;have HR0:=A0_ hr0;have HC0:=A0_ hc0;clear hr0 hc0;have HB:=A0_ (Below.refl w.heap.size w);unfold cw.f at H;obtain ⟨⟨t1,t2,t3,t4⟩,A2,H⟩:=o1_ H;replace H:(some (t1,t2,t3,t4))=some (r1,r2,r3,r4):=H;simp only [sj_,pj_] at H;obtain ⟨rfl,rfl,rfl,rfl⟩:=H;go_enter Tryd.func13,Tryd.ntmps13
 go_wp2_with (first|((with_reducible refine gd_ (N:=2) rfl ?_);refine bx_ 2 #[.int .i64 0,.bool false,.slice none 0 0] 26 ?_;intro gb1 hg w1 BK1 hb;have GW1:=ge_ hg am;have GE1:=GW1;replace HB:=hb_ hb am;clear hb hg)|((with_reducible refine gc_ (f:=49) rfl ?_);refine gl_ 5 Tryd.func49 #[.slice A0 l0.length c0] ?_;(with_reducible refine (bM.calls k _ _ l0 t1 t2 t3 t4 _ ?_ ?_ A2.out).mono ?_);exact mm;exact HC0.out;rintro e w2 ⟨v1,rfl,ho0,hb⟩;refine ⟨_,rfl,?_⟩;have HO1:=A0_ (Kd.R_lower ho0 (bz_ ab));replace BK1:=k1_ BK1 hb;replace HB:=hb_ hb ab;(try clear hb ho0);have hcz1:=z3_ BK1;obtain ⟨Ao1,co1,eo1⟩:=Kd.R_slice HO1.out;subst eo1))
 refine bodyPost_ret (cY rfl _ _ gb1 26 #[.int .i64 t1,.bool t2,.slice Ao1 t3.length co1] (0,0) _ rfl (u1_ BK1) Tryd.underlying26 rfl bS) rfl ?_
 exact ⟨_,bc,rr,ab⟩

def bY.f (a0_0:Int) (a0_1:Bool):Option (Int):=if 0≤a0_0 then (some (((shl .u32 1 a0_0) - 1) % 4294967296)) else (none)
theorem bY.calls (a0_0:Int) (a0_1:Bool) (r:Int) (w:World) (H:bY.f a0_0 a0_1=some r) :
  Calls Tryd.prog 86 #[.agg #[.int .i64 a0_0,.bool a0_1]] w fun e w'=>e=.returned (.int .u32 r)∧Below w.heap.size w w':=by
 have hu61:=Tryd.underlying61;have HB:=A0_ (Below.refl w.heap.size w);unfold bY.f at H;obtain ⟨c1b0,c1b1,H⟩:=i2_ H;obtain ⟨ji1,hji1⟩:∃ j_:Int,(shl .u32 1 a0_0)=j_:=⟨_,rfl⟩;replace H:(some (((ji1) - 1) % 4294967296))=some r:=eY;have hji1_:(IntKind.u32.wrap (1 * 2 ^ min a0_0.toNat 32))=ji1:=hji1;have hji3z:a0_0≤32→(IntKind.u32.wrap (1 * 2 ^ a0_0.toNat))=ji1:=dB hji1
 have hji3u:(IntKind.u32.wrap (2 ^ min a0_0.toNat 32))=ji1:=by have h_:=hji1_;rw [Int.one_mul] at h_;exact h_
 have hji3v:a0_0≤32→(IntKind.u32.wrap (2 ^ a0_0.toNat))=ji1:=fun hle_=>by have h_:=hji3z hle_;rw [Int.one_mul] at h_;exact h_
 obtain rfl:=si_ H;go_enter Tryd.func86,Tryd.ntmps86
 go_wp2_with (first|((with_reducible refine gd_ (N:=1) rfl ?_);refine bx_ 1 #[.int .i64 a0_0,.bool a0_1] 61 ?_;intro gb1 hg w1 BK1 hb;have GW1:=ge_ hg am;have GE1:=GW1;replace HB:=hb_ hb am;clear hb hg;have hcz1:=c2_ BK1))
 go_ret
 exact ⟨iX,ab⟩

mutual
def ac.j0:Nat→Int→List (S72)→Bool→Int→Bool→Option ((List (S72)))
 | 0,_,_,_,_,_=>none
 | k+1,x1,x5,x18,xa,xb=>if x18=true then (if x5.length<8796093022208 then (some (x5++[(⟨0,xa⟩:S72)])) else (none)) else (ac.l0 k x1 x5 xa 0 xa xb)
def ac.l0:Nat→Int→List (S72)→Int→Int→Int→Bool→Option ((List (S72)))
 | 0,_,_,_,_,_,_=>none
 | k+1,x1,x5,x26,x27,xb,xa=>if x27<x26 then (if xa=true then (ac.j2 k x1 x5 x27 (wrap64 (x27 - 1)) x26 x27 (x27 == 0) xb xa) else (ac.j2 k x1 x5 x27 (wrap64 (x27 - 1)) x26 x27 false xb xa)) else (some x5)
def ac.j2:Nat→Int→List (S72)→Int→Int→Int→Int→Bool→Int→Bool→Option ((List (S72)))
 | 0,_,_,_,_,_,_,_,_,_=>none
 | k+1,x1,x5,x6,x7,x26,x27,x37,xa,xb=>if x37=true then (ac.j3 k x1 x5 x6 (wrap64 (xa - 1)) x26 x27 xa xb) else (ac.j3 k x1 x5 x6 x7 x26 x27 xa xb)
def ac.j3:Nat→Int→List (S72)→Int→Int→Int→Int→Int→Bool→Option ((List (S72)))
 | 0,_,_,_,_,_,_,_,_=>none
 | k+1,x1,x5,x6,x7,x26,x27,xa,xb=>(bh.f x1 x6).bind fun t404=>(if t404=true then (if x7 ≥ 0 then ((bh.f x1 x7).bind fun t405=>(ac.j4 k x1 x5 x6 x26 x27 t405 xa xb)) else (ac.j4 k x1 x5 x6 x26 x27 false xa xb)) else (ac.j4 k x1 x5 x6 x26 x27 true xa xb))
def ac.j4:Nat→Int→List (S72)→Int→Int→Int→Bool→Int→Bool→Option ((List (S72)))
 | 0,_,_,_,_,_,_,_,_=>none
 | k+1,x1,x5,x6,x26,x27,x53,xa,xb=>if x53=true then (ac.l0 k x1 x5 x26 (wrap64 (x27+1)) xa xb) else (ac.l1 k x1 x5 x6 0 x6 x26 x27 xa xb)
def ac.l1:Nat→Int→List (S72)→Int→Int→Int→Int→Int→Int→Bool→Option ((List (S72)))
 | 0,_,_,_,_,_,_,_,_,_=>none
 | k+1,x1,x5,x6,x8,x9,x26,x27,xa,xb=>if xa=0 then (none) else ((bh.f x1 (Int.tmod x9 xa)).bind fun t406=>(if t406=true then (if xb=true then (ac.l1 k x1 x5 x6 (wrap64 (x8+1)) (wrap64 (x9+1)) x26 x27 xa xb) else (if x9<xa then (ac.l1 k x1 x5 x6 (wrap64 (x8+1)) (wrap64 (x9+1)) x26 x27 xa xb) else (if x5.length<8796093022208 then (ac.l0 k x1 (x5++[(⟨x6,x8⟩:S72)]) x26 (wrap64 (x27+1)) xa xb) else (none)))) else (if x5.length<8796093022208 then (ac.l0 k x1 (x5++[(⟨x6,x8⟩:S72)]) x26 (wrap64 (x27+1)) xa xb) else (none))))
end
def ac.f (k:Nat) (a0_0:Int) (a0_1:Bool) (a1:Int):Option ((List (S72))):=(some (([]:List (S72)):List (S72))).bind fun y397=>(if a0_1=true then ((bY.f a0_0 a0_1).bind fun t400=>(ac.j0 k a1 y397 (a1 == t400) a0_0 a0_1)) else (ac.j0 k a1 y397 false a0_0 a0_1))
theorem ac.mono_l:∀ k,(∀ y0 y1 y2 y3 y4,LeO (ac.j0 k y0 y1 y2 y3 y4) (ac.j0 (k+1) y0 y1 y2 y3 y4))∧(∀ y0 y1 y2 y3 y4 y5,LeO (ac.l0 k y0 y1 y2 y3 y4 y5) (ac.l0 (k+1) y0 y1 y2 y3 y4 y5))∧(∀ y0 y1 y2 y3 y4 y5 y6 y7 y8,LeO (ac.j2 k y0 y1 y2 y3 y4 y5 y6 y7 y8) (ac.j2 (k+1) y0 y1 y2 y3 y4 y5 y6 y7 y8))∧(∀ y0 y1 y2 y3 y4 y5 y6 y7,LeO (ac.j3 k y0 y1 y2 y3 y4 y5 y6 y7) (ac.j3 (k+1) y0 y1 y2 y3 y4 y5 y6 y7))∧(∀ y0 y1 y2 y3 y4 y5 y6 y7,LeO (ac.j4 k y0 y1 y2 y3 y4 y5 y6 y7) (ac.j4 (k+1) y0 y1 y2 y3 y4 y5 y6 y7))∧(∀ y0 y1 y2 y3 y4 y5 y6 y7 y8,LeO (ac.l1 k y0 y1 y2 y3 y4 y5 y6 y7 y8) (ac.l1 (k+1) y0 y1 y2 y3 y4 y5 y6 y7 y8))
 | 0=>⟨fun _ _ _ _ _ r h=>by simp [ac.j0] at h,fun _ _ _ _ _ _ r h=>by simp [ac.l0] at h,fun _ _ _ _ _ _ _ _ _ r h=>by simp [ac.j2] at h,fun _ _ _ _ _ _ _ _ r h=>by simp [ac.j3] at h,fun _ _ _ _ _ _ _ _ r h=>by simp [ac.j4] at h,fun _ _ _ _ _ _ _ _ _ r h=>by simp [ac.l1] at h⟩
 | k+1=>by
  obtain ⟨ih0,ih1,ih2,ih3,ih4,ih5⟩:=ac.mono_l k
  refine ⟨?_,?_,?_,?_,?_,?_⟩
  ·intro y0 y1 y2 y3 y4
   unfold ac.j0
   repeat' with_reducible first|exact ih0 ..|exact ih1 ..|exact ih2 ..|exact ih3 ..|exact ih4 ..|exact ih5 ..|exact LeO.refl ..|exact LeO.none ..|refine LeO.ite ?_ ?_|refine LeO.bind ?_ (fun _=>?_)
  ·intro y0 y1 y2 y3 y4 y5
   unfold ac.l0
   repeat' with_reducible first|exact ih0 ..|exact ih1 ..|exact ih2 ..|exact ih3 ..|exact ih4 ..|exact ih5 ..|exact LeO.refl ..|exact LeO.none ..|refine LeO.ite ?_ ?_|refine LeO.bind ?_ (fun _=>?_)
  ·intro y0 y1 y2 y3 y4 y5 y6 y7 y8
   unfold ac.j2
   repeat' with_reducible first|exact ih0 ..|exact ih1 ..|exact ih2 ..|exact ih3 ..|exact ih4 ..|exact ih5 ..|exact LeO.refl ..|exact LeO.none ..|refine LeO.ite ?_ ?_|refine LeO.bind ?_ (fun _=>?_)
  ·intro y0 y1 y2 y3 y4 y5 y6 y7
   unfold ac.j3
   repeat' with_reducible first|exact ih0 ..|exact ih1 ..|exact ih2 ..|exact ih3 ..|exact ih4 ..|exact ih5 ..|exact LeO.refl ..|exact LeO.none ..|refine LeO.ite ?_ ?_|refine LeO.bind ?_ (fun _=>?_)
  ·intro y0 y1 y2 y3 y4 y5 y6 y7
   unfold ac.j4
   repeat' with_reducible first|exact ih0 ..|exact ih1 ..|exact ih2 ..|exact ih3 ..|exact ih4 ..|exact ih5 ..|exact LeO.refl ..|exact LeO.none ..|refine LeO.ite ?_ ?_|refine LeO.bind ?_ (fun _=>?_)
  ·intro y0 y1 y2 y3 y4 y5 y6 y7 y8
   unfold ac.l1
   repeat' with_reducible first|exact ih0 ..|exact ih1 ..|exact ih2 ..|exact ih3 ..|exact ih4 ..|exact ih5 ..|exact LeO.refl ..|exact LeO.none ..|refine LeO.ite ?_ ?_|refine LeO.bind ?_ (fun _=>?_)
theorem ac.mono:∀ a0 a1 a2 k,LeO (ac.f k a0 a1 a2) (ac.f (k+1) a0 a1 a2):=by
 intro a0 a1 a2 k;obtain ⟨ih0,ih1,ih2,ih3,ih4,ih5⟩:=ac.mono_l k;unfold ac.f
 repeat' with_reducible first|exact ih0 ..|exact ih1 ..|exact ih2 ..|exact ih3 ..|exact ih4 ..|exact ih5 ..|exact LeO.refl ..|exact LeO.none ..|refine LeO.ite ?_ ?_|refine LeO.bind ?_ (fun _=>?_)
theorem ac.calls (k:Nat) (a0_0:Int) (a0_1:Bool) (a1:Int) (r:List (S72)) (w:World) (H:ac.f k a0_0 a0_1 a1=some r) :
  Calls Tryd.prog 87 #[.agg #[.int .i64 a0_0,.bool a0_1],.int .u32 a1] w fun e w'=>∃ v0_:Value,e=.returned (v0_)∧Kd.R k72 72 w' w.heap.size (fun _=>True) v0_ r∧Below w.heap.size w w':=by
 have hu61:=Tryd.underlying61;have hu72:=Tryd.underlying72;have HB:=A0_ (Below.refl w.heap.size w);unfold ac.f at H;obtain ⟨y1,hy1⟩:∃ y_:List (S72),y_=(([]:List (S72))):=⟨_,rfl⟩;replace H:(if a0_1=true then ((bY.f a0_0 a0_1).bind fun t1=>(ac.j0 k a1 y1 (a1 == t1) a0_0 a0_1)) else (ac.j0 k a1 y1 false a0_0 a0_1))=some r:=dp;have Ny1:=A0_ hy1;clear hy1;have HC3:=A0_ H;clear H;go_enter Tryd.func87,Tryd.ntmps87
 go_upto_region 2 with (first|((with_reducible refine gd_ (N:=2) rfl ?_);refine bx_ 2 #[.int .i64 a0_0,.bool a0_1] 61 ?_;intro gb1 hg w1 BK1 hb;have GW1:=ge_ hg am;have GE1:=GW1;replace HB:=hb_ hb am;clear hb hg)|((with_reducible refine gd_ (N:=10) rfl ?_);refine Kd.R_lit k72 _ 72 ?hg (N:=10) ?hd (xs:=([]:List (S72))) (inner:=[]) (ok:=fun _=>True) (okp:=fun _=>True) ?hr ?hp (fun _ hk=>hk) trivial (Below.refl _ _) (Nat.le_refl _) bx ?_;(case hd=>rfl);(case hg=>rfl);(case hr=>go_simp;first|done|rfl);(case hp=>exact (bu.none _ _));intro v1 w2 ho6 hb hg_ hnew_;clear hg_ hnew_;(first|rw [← Ny1.out] at ho6|(simp only [Int.reduceToNat] at ho6;rw [← Ny1.out] at ho6));have HO1:=A0_ (Kd.R_lower ho6 (bz_ ab));replace BK1:=k1_ BK1 hb;replace HB:=hb_ hb ab;clear hb ho6))
 (try simp only [Act.put,sa_,sz_,ss_])
 go_cut [18] (fun v2 wc=>∃ (kq:Nat) (x18_2:Bool),v2=.bool x18_2∧Aside0 (ac.j0 kq a1 y1 x18_2 a0_0 a0_1=some r)∧Aside0 (kq≤k)∧Aside0 (Kd.R k72 72 wc w.heap.size (fun _=>True) v1 y1)∧Aside0 (wc.heap[gb1]?=some (.cells #[.int .i64 a0_0,.bool a0_1] 61 (0,0)))∧Aside0 (Below w.heap.size w wc))
 case first =>
  have H:=HC3.out;clear HC3
  by_cases c1:a0_1=true
  case neg =>
   obtain rfl:=bf_.mpr c1;rw [if_neg ft_] at H;have H':=A0_ H;clear H;have hcz1:=c2_ BK1
   go_wp2
   go_meet
   exact ⟨_,(false),aC,H',⟨eH⟩,⟨bR⟩,⟨u1_ BK1⟩,⟨ab⟩⟩
  subst c1;rw [if_pos rfl] at H;obtain ⟨t1,A2,H⟩:=o1_ H;have H':=A0_ H;clear H;have hcz1:=c2_ BK1
  go_wp2_with (first|(go_at_call 86;(with_reducible refine (bY.calls a0_0 true t1 _ A2.out).mono ?_);rintro e w3 ⟨rfl,hb⟩;replace HO1:=q1_ HO1 hb;replace BK1:=k1_ BK1 hb;replace HB:=hb_ hb ab;(try clear hb)))
  go_meet
  exact ⟨_,((a1 == t1)),aC,H',⟨eH⟩,⟨bR⟩,⟨u1_ BK1⟩,⟨ab⟩⟩
 clear HC3;obtain ⟨kq,x18_2,rfl,HA,HJ1,HO_1,BK1,HB⟩:=hcut
 cases kq with|zero=>exact absurd HA.out (by simp [ac.j0])|succ kj1=>?_
 have H:=HA.out;clear HA;simp only [ac.j0] at H
 by_cases c1:x18_2=true
 ·subst c1
  rw [if_pos rfl] at H;obtain ⟨c2,H⟩:=is_ H;have LMc1:=A0_ c2;clear c2;obtain ⟨y2,hy2⟩:∃ y_:List (S72),y_=(y1++[(⟨0,a0_0⟩:S72)]):=⟨_,rfl⟩;replace H:(some y2)=some r:=dO;have Ny2:=A0_ hy2;clear hy2;obtain rfl:=si_ H;have hcz1:=c2_ BK1
  go_wp2_with (first|((with_reducible refine bO (b:=.append) (xs:=#[.tmp 19,.tmp 23]) rfl ?_);at_builtin;refine Kd.R_append k72 (w0:=w) w.heap.size rfl (.tmp 19) (.tmp 23) 69 72 (.agg #[(.int .i64 0),(.int .i64 0)]) 16 rfl Tryd.underlying69 km rfl ao bL v1 y1 (⟨0,a0_0⟩:S72) [.int .i64 0,.int .i64 a0_0] (fun _=>True) (fun _=>False) rfl rfl ?aP (fun _ hk=>hk.elim) ?aF ?aO ?aB ?aS ?aL ?_;(case aP=>exact hY _ _ _ (⟨0,a0_0⟩:S72));(case aB=>exact ab);(case aF=>exact (fun _ _=>trivial));(case aO=>exact aD);(case aS=>exact (bz_ ab));(case aL=>have:=LMc1.out;omega);intro v3 w3 ho hb hg hat;rw [← Ny2.out] at ho;have n0_:=A0_ (a6 (g:=gb1) (o:=.cells #[.int .i64 a0_0,.bool a0_1] 61 (0,0)) (u1_ BK1) hg (Kd.R_ne HO_1.out BK1.out ao));have n1_:=A0_ (hb);have n2_:=A0_ (ho);clear BK1 HB HO_1;have BK1:=n0_;have HB:=n1_;have HO2:=n2_;clear n0_ n1_ n2_ ho hb hg hat))
  go_ret
  exact ⟨_,bc,cQ,ab⟩
 obtain rfl:=bf_.mpr c1;rw [if_neg ft_] at H;have H':=A0_ H;clear H;have hcz1:=c2_ BK1
 go_wp2
 go_loopg [5,27] kj1 (fun kq v3 v4 w'=>∃ (x5_2:List (S72)) (x27_2:Int),v4=.int .i64 x27_2∧Aside0 (ac.l0 kq a1 x5_2 a0_0 x27_2 a0_0 a0_1=some r)∧Aside0 (kq≤kj1)∧Aside0 (Kd.R k72 72 w' w.heap.size (fun _=>True) v3 x5_2)∧Aside0 (w'.heap[gb1]?=some (.cells #[.int .i64 a0_0,.bool a0_1] 61 (0,0)))∧Aside0 (Below w.heap.size w w'))
 case atStart=>exact ⟨(y1),(0),aC,H',⟨Nat.le_refl _⟩,⟨aD⟩,⟨u1_ BK1⟩,⟨ab⟩⟩
 clear H'
 try clear c1
 (try clear hcz1)
 obtain ⟨x5_2,x27_2,rfl,HA,HK1,HO_1,BK1,HB⟩:=hrel
 cases gk with|zero=>exact absurd HA.out (by simp [ac.l0])|succ k2=>?_
 have H:=HA.out;clear HA;simp only [ac.l0] at H
 by_cases c2:x27_2<a0_0
 case neg =>
  rw [if_neg c2] at H;have c2b0:decide (x27_2<a0_0)=false:=decide_eq_false c2;clear c2;obtain rfl:=si_ H
  go_wp2
  go_ret
  exact ⟨_,bc,aD,ab⟩
 rw [if_pos c2] at H;have c2b0:decide (x27_2<a0_0)=true:=dt_ c2;clear c2;have HC18:=A0_ H;clear H
 go_upto_region 8 with (fail)
 go_cut [37] (fun v5 wc=>∃ (kq:Nat) (x37_17:Bool),v5=.bool x37_17∧Aside0 (ac.j2 kq a1 x5_2 x27_2 (wrap64 (x27_2 - 1)) a0_0 x27_2 x37_17 a0_0 a0_1=some r)∧Aside0 (kq≤k2)∧Aside0 (Kd.R k72 72 wc w.heap.size (fun _=>True) u5 x5_2)∧Aside0 (wc.heap[gb1]?=some (.cells #[.int .i64 a0_0,.bool a0_1] 61 (0,0)))∧Aside0 (Below w.heap.size w wc))
 case first =>
  have H:=HC18.out;clear HC18
  by_cases c3:a0_1=true
  ·subst c3
   rw [if_pos rfl] at H;have H':=A0_ H;clear H;have hcz2:=c2_ BK1
   go_wp2
   go_meet
   exact ⟨_,((x27_2 == 0)),aC,H',⟨jI⟩,⟨aD⟩,⟨u1_ BK1⟩,⟨ab⟩⟩
  obtain rfl:=bf_.mpr c3;rw [if_neg ft_] at H;have H':=A0_ H;clear H;have hcz2:=c2_ BK1
  go_wp2
  go_meet
  exact ⟨_,(false),aC,H',⟨jI⟩,⟨aD⟩,⟨u1_ BK1⟩,⟨ab⟩⟩
 clear HC18
 try clear c1
 try clear c2
 try clear c2b0
 (try clear hcz1)
 obtain ⟨kq,x37_17,rfl,HA,HJ2,HO_1,BK1,HB⟩:=hcut
 cases kq with|zero=>exact absurd HA.out (by simp [ac.j2])|succ kj2=>?_
 have H:=HA.out;clear HA;simp only [ac.j2] at H;have HC22:=A0_ H;clear H
 go_upto_if 37 with (fail)
 go_cut [7] (fun v6 wc=>∃ (kq:Nat) (x7_21:Int),v6=.int .i64 x7_21∧Aside0 (ac.j3 kq a1 x5_2 x27_2 x7_21 a0_0 x27_2 a0_0 a0_1=some r)∧Aside0 (kq≤kj2)∧Aside0 (Kd.R k72 72 wc w.heap.size (fun _=>True) u5 x5_2)∧Aside0 (wc.heap[gb1]?=some (.cells #[.int .i64 a0_0,.bool a0_1] 61 (0,0)))∧Aside0 (Below w.heap.size w wc))
 case first =>
  have H:=HC22.out;clear HC22
  by_cases c3:x37_17=true
  case neg =>
   obtain rfl:=bf_.mpr c3;rw [if_neg ft_] at H;have H':=A0_ H;clear H
   go_wp2
   go_meet
   exact ⟨_,((wrap64 (x27_2 - 1))),aC,H',⟨by have:=HJ1.out;have:=HK1.out;have:=HJ2.out;first|omega|exact Nat.le_refl _⟩,⟨aD⟩,⟨u1_ BK1⟩,⟨ab⟩⟩
  subst c3;rw [if_pos rfl] at H;have H':=A0_ H;clear H;have hcz2:=c2_ BK1
  go_wp2
  go_meet
  exact ⟨_,(wrap64 (a0_0 - 1)),aC,H',⟨by have:=HJ1.out;have:=HK1.out;have:=HJ2.out;first|omega|exact Nat.le_refl _⟩,⟨aD⟩,⟨u1_ BK1⟩,⟨ab⟩⟩
 clear HC22
 try clear c1
 try clear c2
 try clear c2b0
 (try clear hcz1)
 obtain ⟨kq,x7_21,rfl,HA,HJ3,HO_1,BK1,HB⟩:=hcut
 cases kq with|zero=>exact absurd HA.out (by simp [ac.j3])|succ kj3=>?_
 have H:=HA.out;clear HA;simp only [ac.j3] at H;have HC25:=A0_ H;clear H
 go_upto_region 10 with (fail)
 go_cut [53] (fun v7 wc=>∃ (kq:Nat) (x53_24:Bool),v7=.bool x53_24∧Aside0 (ac.j4 kq a1 x5_2 x27_2 a0_0 x27_2 x53_24 a0_0 a0_1=some r)∧Aside0 (kq≤kj3)∧Aside0 (Kd.R k72 72 wc w.heap.size (fun _=>True) u5 x5_2)∧Aside0 (wc.heap[gb1]?=some (.cells #[.int .i64 a0_0,.bool a0_1] 61 (0,0)))∧Aside0 (Below w.heap.size w wc))
 case first =>
  have H:=HC25.out;clear HC25;obtain ⟨t2,A2,H⟩:=o1_ H
  by_cases c3:t2=true
  case neg =>
   obtain rfl:=bf_.mpr c3;rw [if_neg ft_] at H;have H':=A0_ H;clear H
   go_wp2_with (first|((with_reducible refine gc_ (f:=78) rfl ?_);refine gl_ 43 Tryd.func78 #[.int .u32 a1,.int .i64 x27_2] ?_;(with_reducible refine (bh.calls a1 x27_2 false _ A2.out).mono ?_);rintro e w' ⟨rfl,⟨nd,rfl⟩⟩;refine ⟨_,rfl,?_⟩))
   go_meet
   exact ⟨_,(true),aC,H',⟨o7⟩,⟨aD⟩,⟨u1_ BK1⟩,⟨ab⟩⟩
  subst c3;rw [if_pos rfl] at H
  by_cases c4:x7_21 ≥ 0
  case neg =>
   rw [if_neg c4] at H;have c4b0:decide (0≤x7_21)=false:=decide_eq_false c4;clear c4
   (first|rw [c4b0]|(simp only [cH,dC];rw [c4b0])|skip)
   have H':=A0_ H;clear H
   go_wp2_with (first|((with_reducible refine gc_ (f:=78) rfl ?_);refine gl_ 43 Tryd.func78 #[.int .u32 a1,.int .i64 x27_2] ?_;(with_reducible refine (bh.calls a1 x27_2 true _ A2.out).mono ?_);rintro e w' ⟨rfl,⟨nd,rfl⟩⟩;refine ⟨_,rfl,?_⟩))
   go_meet
   exact ⟨_,(false),aC,H',⟨o7⟩,⟨aD⟩,⟨u1_ BK1⟩,⟨ab⟩⟩
  rw [if_pos c4] at H;have c4b0:decide (0≤x7_21)=true:=dt_ c4;clear c4
  (first|rw [c4b0]|(simp only [cH,dC];rw [c4b0])|skip)
  obtain ⟨t3,A4,H⟩:=o1_ H;have H':=A0_ H;clear H
  go_wp2_with (first|((with_reducible refine gc_ (f:=78) rfl ?_);refine gl_ 43 Tryd.func78 #[.int .u32 a1,.int .i64 x27_2] ?_;(with_reducible refine (bh.calls a1 x27_2 true _ A2.out).mono ?_);rintro e w' ⟨rfl,⟨nd,rfl⟩⟩;refine ⟨_,rfl,?_⟩)|(go_at_call 78;(with_reducible refine (bh.calls a1 x7_21 t3 _ A4.out).mono ?_);rintro e w' ⟨rfl,⟨nd,rfl⟩⟩))
  go_meet
  exact ⟨_,(t3),aC,H',⟨o7⟩,⟨aD⟩,⟨u1_ BK1⟩,⟨ab⟩⟩
 clear HC25
 try clear c1
 try clear c2
 try clear c2b0
 (try clear hcz1)
 obtain ⟨kq,x53_24,rfl,HA,HJ4,HO_1,BK1,HB⟩:=hcut
 cases kq with|zero=>exact absurd HA.out (by simp [ac.j4])|succ kj4=>?_
 have H:=HA.out;clear HA;simp only [ac.j4] at H
 by_cases c3:x53_24=true
 ·subst c3
  rw [if_pos rfl] at H;have H':=A0_ H;clear H
  go_wp2
  go_roundg kj4
  case measure=>have:=HJ1.out;have:=HK1.out;have:=HJ2.out;have:=HJ3.out;have:=HJ4.out;omega
  exact ⟨(x5_2),(wrap64 (x27_2+1)),aC,H',⟨by have:=HJ1.out;have:=HK1.out;have:=HJ2.out;have:=HJ3.out;have:=HJ4.out;omega⟩,⟨aD⟩,⟨u1_ BK1⟩,⟨ab⟩⟩
 obtain rfl:=bf_.mpr c3;rw [if_neg ft_] at H;have H':=A0_ H;clear H
 go_wp2
 go_loopg [8,9] kj4 (fun kq v8 v9 w'=>∃ (x8_6:Int) (x9_6:Int),v8=.int .i64 x8_6∧v9=.int .i64 x9_6∧Aside0 (ac.l1 kq a1 x5_2 x27_2 x8_6 x9_6 a0_0 x27_2 a0_0 a0_1=some r)∧Aside0 (kq≤kj4)∧Aside0 (Kd.R k72 72 w' w.heap.size (fun _=>True) u5 x5_2)∧Aside0 (w'.heap[gb1]?=some (.cells #[.int .i64 a0_0,.bool a0_1] 61 (0,0)))∧Aside0 (Below w.heap.size w w'))
 case atStart=>exact ⟨(0),(x27_2),aC,aC,H',⟨Nat.le_refl _⟩,⟨aD⟩,⟨u1_ BK1⟩,⟨ab⟩⟩
 clear H'
 try clear c1
 try clear c2
 try clear c2b0
 try clear c3
 (try clear hcz1)
 obtain ⟨x8_6,x9_6,rfl,rfl,HA,HK2,HO_1,BK1,HB⟩:=hrel
 cases gk with|zero=>exact absurd HA.out (by simp [ac.l1])|succ k6=>?_
 have H:=HA.out;clear HA;simp only [ac.l1] at H
 by_cases c4:a0_0=0
 ·rw [if_pos c4] at H
  exact absurd H bx
 rw [if_neg c4] at H;obtain ⟨c4b0,c4b1⟩:=ef_ c4;obtain ⟨t2,A2,H⟩:=o1_ H
 by_cases c5:t2=true
 case neg =>
  obtain rfl:=bf_.mpr c5;rw [if_neg ft_] at H;obtain ⟨c6,H⟩:=is_ H;have LMc1:=A0_ c6;clear c6;obtain ⟨y2,hy2⟩:∃ y_:List (S72),y_=(x5_2++[(⟨x27_2,x8_6⟩:S72)]):=⟨_,rfl⟩;replace H:(ac.l0 k6 a1 y2 a0_0 (wrap64 (x27_2+1)) a0_0 a0_1)=some r:=dO;have Ny2:=A0_ hy2;clear hy2;have H':=A0_ H;clear H;have hcz2:=c2_ BK1
  go_wp2_with (first|((with_reducible refine gc_ (f:=78) rfl ?_);refine gl_ 60 Tryd.func78 #[.int .u32 a1,.int .i64 (Int.tmod x9_6 a0_0)] ?_;(with_reducible refine (bh.calls a1 (Int.tmod x9_6 a0_0) false _ A2.out).mono ?_);rintro e w' ⟨rfl,⟨nd,rfl⟩⟩;refine ⟨_,rfl,?_⟩)|((with_reducible refine bO (b:=.append) (xs:=#[.tmp 75,.tmp 79]) rfl ?_);at_builtin;refine Kd.R_append k72 (w0:=w) w.heap.size rfl (.tmp 75) (.tmp 79) 69 72 (.agg #[(.int .i64 0),(.int .i64 0)]) 16 rfl Tryd.underlying69 km rfl ao bL u5 x5_2 (⟨x27_2,x8_6⟩:S72) [.int .i64 x27_2,.int .i64 x8_6] (fun _=>True) (fun _=>False) rfl rfl ?aP (fun _ hk=>hk.elim) ?aF ?aO ?aB ?aS ?aL ?_;(case aP=>exact hY _ _ _ (⟨x27_2,x8_6⟩:S72));(case aB=>exact ab);(case aF=>exact (fun _ _=>trivial));(case aO=>exact aD);(case aS=>exact (bz_ ab));(case aL=>have:=LMc1.out;omega);intro v10 w3 ho hb hg hat;rw [← Ny2.out] at ho;have n0_:=A0_ (a6 (g:=gb1) (o:=.cells #[.int .i64 a0_0,.bool a0_1] 61 (0,0)) (u1_ BK1) hg (Kd.R_ne HO_1.out BK1.out ao));have n1_:=A0_ (hb);have n2_:=A0_ (ho);clear BK1 HB HO_1;have BK1:=n0_;have HB:=n1_;have HO2:=n2_;clear n0_ n1_ n2_ ho hb hg hat))
  go_roundg k6
  case measure=>have:=HJ1.out;have:=HK1.out;have:=HJ2.out;have:=HJ3.out;have:=HJ4.out;have:=HK2.out;omega
  exact ⟨(y2),(wrap64 (x27_2+1)),aC,H',⟨nQ⟩,⟨cQ⟩,⟨u1_ BK1⟩,⟨ab⟩⟩
 subst c5;rw [if_pos rfl] at H
 by_cases c6:a0_1=true
 ·subst c6
  rw [if_pos rfl] at H;have H':=A0_ H;clear H;have hcz2:=c2_ BK1
  go_wp2_with (first|((with_reducible refine gc_ (f:=78) rfl ?_);refine gl_ 60 Tryd.func78 #[.int .u32 a1,.int .i64 (Int.tmod x9_6 a0_0)] ?_;(with_reducible refine (bh.calls a1 (Int.tmod x9_6 a0_0) true _ A2.out).mono ?_);rintro e w' ⟨rfl,⟨nd,rfl⟩⟩;refine ⟨_,rfl,?_⟩))
  go_roundg k6
  case measure=>have:=HJ1.out;have:=HK1.out;have:=HJ2.out;have:=HJ3.out;have:=HJ4.out;have:=HK2.out;omega
  exact ⟨(wrap64 (x8_6+1)),(wrap64 (x9_6+1)),aC,aC,H',⟨nQ⟩,⟨aD⟩,⟨u1_ BK1⟩,⟨ab⟩⟩
 obtain rfl:=bf_.mpr c6;rw [if_neg ft_] at H
 by_cases c7:x9_6<a0_0
 ·rw [if_pos c7] at H
  have c7b0:decide (x9_6<a0_0)=true:=dt_ c7;clear c7;have H':=A0_ H;clear H;have hcz2:=c2_ BK1
  go_wp2_with (first|((with_reducible refine gc_ (f:=78) rfl ?_);refine gl_ 60 Tryd.func78 #[.int .u32 a1,.int .i64 (Int.tmod x9_6 a0_0)] ?_;(with_reducible refine (bh.calls a1 (Int.tmod x9_6 a0_0) true _ A2.out).mono ?_);rintro e w' ⟨rfl,⟨nd,rfl⟩⟩;refine ⟨_,rfl,?_⟩))
  go_roundg k6
  case measure=>have:=HJ1.out;have:=HK1.out;have:=HJ2.out;have:=HJ3.out;have:=HJ4.out;have:=HK2.out;omega
  exact ⟨(wrap64 (x8_6+1)),(wrap64 (x9_6+1)),aC,aC,H',⟨nQ⟩,⟨aD⟩,⟨u1_ BK1⟩,⟨ab⟩⟩
 rw [if_neg c7] at H;have c7b0:decide (x9_6<a0_0)=false:=decide_eq_false c7;clear c7;obtain ⟨c8,H⟩:=is_ H;have LMc1:=A0_ c8;clear c8;obtain ⟨y2,hy2⟩:∃ y_:List (S72),y_=(x5_2++[(⟨x27_2,x8_6⟩:S72)]):=⟨_,rfl⟩;replace H:(ac.l0 k6 a1 y2 a0_0 (wrap64 (x27_2+1)) a0_0 false)=some r:=dO;have Ny2:=A0_ hy2;clear hy2;have H':=A0_ H;clear H;have hcz2:=c2_ BK1
 go_wp2_with (first|((with_reducible refine gc_ (f:=78) rfl ?_);refine gl_ 60 Tryd.func78 #[.int .u32 a1,.int .i64 (Int.tmod x9_6 a0_0)] ?_;(with_reducible refine (bh.calls a1 (Int.tmod x9_6 a0_0) true _ A2.out).mono ?_);rintro e w' ⟨rfl,⟨nd,rfl⟩⟩;refine ⟨_,rfl,?_⟩)|((with_reducible refine bO (b:=.append) (xs:=#[.tmp 75,.tmp 79]) rfl ?_);at_builtin;refine Kd.R_append k72 (w0:=w) w.heap.size rfl (.tmp 75) (.tmp 79) 69 72 (.agg #[(.int .i64 0),(.int .i64 0)]) 16 rfl Tryd.underlying69 km rfl ao bL u5 x5_2 (⟨x27_2,x8_6⟩:S72) [.int .i64 x27_2,.int .i64 x8_6] (fun _=>True) (fun _=>False) rfl rfl ?aP (fun _ hk=>hk.elim) ?aF ?aO ?aB ?aS ?aL ?_;(case aP=>exact hY _ _ _ (⟨x27_2,x8_6⟩:S72));(case aB=>exact ab);(case aF=>exact (fun _ _=>trivial));(case aO=>exact aD);(case aS=>exact (bz_ ab));(case aL=>have:=LMc1.out;omega);intro v10 w3 ho hb hg hat;rw [← Ny2.out] at ho;have n0_:=A0_ (a6 (g:=gb1) (o:=.cells #[.int .i64 a0_0,.bool false] 61 (0,0)) (u1_ BK1) hg (Kd.R_ne HO_1.out BK1.out ao));have n1_:=A0_ (hb);have n2_:=A0_ (ho);clear BK1 HB HO_1;have BK1:=n0_;have HB:=n1_;have HO2:=n2_;clear n0_ n1_ n2_ ho hb hg hat))
 go_roundg k6
 case measure=>have:=HJ1.out;have:=HK1.out;have:=HJ2.out;have:=HJ3.out;have:=HJ4.out;have:=HK2.out;omega
 exact ⟨(y2),(wrap64 (x27_2+1)),aC,H',⟨nQ⟩,⟨cQ⟩,⟨u1_ BK1⟩,⟨ab⟩⟩

end Go.Proofs.YtgcgmlbjklkkjaaDoor.QFnGame
-- packed
-- squeezed
