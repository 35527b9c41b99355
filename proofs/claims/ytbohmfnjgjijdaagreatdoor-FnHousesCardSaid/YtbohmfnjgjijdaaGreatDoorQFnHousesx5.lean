-- Written by px.py, a program of this session, over the kit's printer: some functions have a definition and a proof of this session's own.
import Derived.Test.YtbohmfnjgjijdaaGreatDoorQFnHousesx0
import Derived.Test.YtbohmfnjgjijdaaGreatDoorQFnHousesx1
import Derived.Test.YtbohmfnjgjijdaaGreatDoorQFnHousesx2
import Derived.Test.YtbohmfnjgjijdaaGreatDoorQFnHousesx4
namespace Go.Proofs.YtbohmfnjgjijdaaGreatDoor.QFnHouses
open Go.RowKit Go.Proofs.YtbohmfnjgjijdaaGreatDoorW.PrintWords Go.Proofs.YtbohmfnjgjijdaaGreatDoorW.PrintLast Go.Proofs.YtbohmfnjgjijdaaGreatDoorW.PrintMore
attribute [local go_sem] ek el eM eN dU dV en eo   -- for this text's walks alone
set_option linter.unusedVariables false
set_option linter.unusedSimpArgs false
set_option maxHeartbeats 8000000
set_option maxRecDepth 100000

mutual
def ah.l0:Nat→Bool→Int→List Int→Int→Int→Int→Bool→List Int→List Int→Int→Option (Int × Bool × List Int × List Int × Int × Int × Int)
 | 0,_,_,_,_,_,_,_,_,_,_=>none
 | k+1,x5,x6,xa,xb,xc,xd,xe,xf,xg,xh=>if x6 > 0 then (ah.j1 k x5 x6 x5 xa xb xc xd xe xf xg xh) else (ah.j1 k x5 x6 false xa xb xc xd xe xf xg xh)
def ah.j1:Nat→Bool→Int→Bool→List Int→Int→Int→Int→Bool→List Int→List Int→Int→Option (Int × Bool × List Int × List Int × Int × Int × Int)
 | 0,_,_,_,_,_,_,_,_,_,_,_=>none
 | k+1,x5,x6,x26,xf,xg,xh,xd,xb,xc,xa,xe=>if x26=true then ((ab.f k xf xg xh xd xb xc xa xe).bind fun bt656=>((aK.f k xd xb xc xa xe bt656.1 bt656.2.1 bt656.2.2.1).bind fun bt661=>(if bt661.2.2.2.2.2=true then (ah.l0 k x5 (wrap64 (x6 - 1)) xf bt656.2.2.2.1 bt656.2.2.2.2 bt661.1 bt661.2.1 bt661.2.2.1 bt661.2.2.2.1 bt661.2.2.2.2.1) else (ah.l0 k x5 (wrap64 (x6 - 1)) xf bt656.2.2.2.1 bt656.2.2.2.2 xd xb xc xa xe)))) else ((aC.f xf xg xh 48).bind fun bt672=>(if bt672.1=0 then ((av.f xf bt672.2.1 bt672.2.2 (([(-1),1000,1001]:List Int))).bind fun bt678=>(some (xd,xb,xc,xa,bt678.1,bt678.2.1,bt678.2.2))) else (if bt672.1=1 then ((cI.f xa).bind fun t681=>((av.f xf bt672.2.1 bt672.2.2 (([0,(-1),24]:List Int))).bind fun bt687=>(if t681.length<17592186044416 then (some (xd,xb,xc,(t681++[bt687.1]),xe,bt687.2.1,bt687.2.2)) else (none)))) else (if bt672.1=2 then (if (xa.length:Int) > 1 then (if 1<(xa.length:Int) then (if 0<(xa.length:Int) then (some (xd,xb,xc,(xa.set (0:Int).toNat (rd xa 1)),xe,bt672.2.1,bt672.2.2)) else (none)) else (none)) else (some (xd,xb,xc,xa,xe,bt672.2.1,bt672.2.2))) else (if bt672.1=3 then ((av.f xf bt672.2.1 bt672.2.2 (([1,24,25,4611686018427387904]:List Int))).bind fun bt698=>(some (bt698.1,xb,xc,xa,xe,bt698.2.1,bt698.2.2))) else (some (xd,xb,xc,xa,xe,bt672.2.1,bt672.2.2)))))))
end
def ah.f (k:Nat) (s0_0:List Int) (s0_1:Int) (s0_2:Int):Option (Int × Bool × List Int × List Int × Int × Int × Int):=(av.f s0_0 s0_1 s0_2 (([6,8,5,10,4,7,3,12]:List Int))).bind fun bt636=>((bp.f s0_0 bt636.2.1 bt636.2.2 2).bind fun bt639=>((bs.f k bt636.1 bt639.1).bind fun bt642=>((aC.f s0_0 bt639.2.1 bt639.2.2 8).bind fun bt653=>(ah.l0 k bt642.2.2.2.2.2 (wrap64 (1+bt653.1)) s0_0 bt653.2.1 bt653.2.2 bt642.1 bt642.2.1 bt642.2.2.1 bt642.2.2.2.1 bt642.2.2.2.2.1))))
theorem ah.mono_l:∀ k,(∀ y0 y1 y2 y3 y4 y5 y6 y7 y8 y9,LeO (ah.l0 k y0 y1 y2 y3 y4 y5 y6 y7 y8 y9) (ah.l0 (k+1) y0 y1 y2 y3 y4 y5 y6 y7 y8 y9))∧(∀ y0 y1 y2 y3 y4 y5 y6 y7 y8 y9 y10,LeO (ah.j1 k y0 y1 y2 y3 y4 y5 y6 y7 y8 y9 y10) (ah.j1 (k+1) y0 y1 y2 y3 y4 y5 y6 y7 y8 y9 y10))
 | 0=>⟨fun _ _ _ _ _ _ _ _ _ _ r h=>by simp [ah.l0] at h,fun _ _ _ _ _ _ _ _ _ _ _ r h=>by simp [ah.j1] at h⟩
 | k+1=>by
  obtain ⟨ih0,ih1⟩:=ah.mono_l k
  refine ⟨?_,?_⟩
  ·intro y0 y1 y2 y3 y4 y5 y6 y7 y8 y9
   unfold ah.l0
   repeat' with_reducible first|exact ih0 ..|exact ih1 ..|exact bs.mono ..|exact aK.mono ..|exact ab.mono ..|exact LeO.refl ..|exact LeO.none ..|refine LeO.ite ?_ ?_|refine LeO.bind ?_ (fun _=>?_)
  ·intro y0 y1 y2 y3 y4 y5 y6 y7 y8 y9 y10
   unfold ah.j1
   repeat' with_reducible first|exact ih0 ..|exact ih1 ..|exact bs.mono ..|exact aK.mono ..|exact ab.mono ..|exact LeO.refl ..|exact LeO.none ..|refine LeO.ite ?_ ?_|refine LeO.bind ?_ (fun _=>?_)
theorem ah.mono:∀ a0 a1 a2 k,LeO (ah.f k a0 a1 a2) (ah.f (k+1) a0 a1 a2):=by
 intro a0 a1 a2 k;obtain ⟨ih0,ih1⟩:=ah.mono_l k;unfold ah.f
 repeat' with_reducible first|exact ih0 ..|exact ih1 ..|exact bs.mono ..|exact aK.mono ..|exact ab.mono ..|exact LeO.refl ..|exact LeO.none ..|refine LeO.ite ?_ ?_|refine LeO.bind ?_ (fun _=>?_)
def ah.T6:Bool × List (List Nat × List Nat):=(true,[([],[]),([],[]),([],[]),([1,2],[1,2]),([0,3,3],[0,3]),([4],[4]),([5],[5]),([5],[5]),([],[]),([8,6,4,0,1,2,3,4,5,6,8],[6,8]),([7,9,0,1,2,3,4,5,6,7,8,9],[7])])
def ah.B6:List Nat:=[0,0,0,6,15,31,63,63,0,383,1023]
theorem ah.tab6:df .any (dO Tryz.f50 6)=ah.T6:=by kernel_rfl
theorem ah.bits6:ce ah.T6.2 ah.B6=true:=by kernel_rfl
def ah.T16:Bool × List (List Nat × List Nat):=(true,[([],[]),([0],[0]),([],[]),([2],[2]),([3],[3]),([4],[4]),([1,0,1,2,3,4,5],[1]),([6,5,0,1,2,3,4,5],[5,6])])
def ah.B16:List Nat:=[0,1,0,4,12,28,63,127]
theorem ah.tab16:df .any (dO Tryz.f50 16)=ah.T16:=by kernel_rfl
theorem ah.bits16:ce ah.T16.2 ah.B16=true:=by kernel_rfl
theorem ah.calls (k:Nat) (g:Nat) (s0_0:List Int) (s0_1:Int) (s0_2:Int) (r1:Int) (r2:Bool) (r3:List Int) (r4:List Int) (r5:Int) (r6:Int) (r7:Int) (w0 w:World) (hI:aa w0 w g s0_0 s0_1 s0_2) (hB:Below w0.heap.size w0 w) (H:ah.f k s0_0 s0_1 s0_2=some (r1,r2,r3,r4,r5,r6,r7)) :
  Calls Tryz.prog 50 #[.pointer (some ⟨g,0,none⟩)] w fun e w'=>∃ v2_ v3_:Value,e=.returned (.agg #[.int .i64 r1,.bool r2,v2_,v3_,.int .i64 r5])∧Kd.R (Kd.int .i64) 3 w' w.heap.size (fun k_=>no_ v3_ k_) v2_ r3∧Kd.R (Kd.int .i64) 3 w' w.heap.size (fun k_=>no_ v2_ k_) v3_ r4∧aa w0 w' g s0_0 r6 r7∧Below w0.heap.size w0 w'∧af w w' g none:=by
 have hu32:=Tryz.underlying32;have HI0:=A0_ hI;have HK:=A0_ (af.refl w g none);have HL:=A0_ hB.size;clear hI;have HW0:=A0_ hB.size;have HB:=A0_ hB;clear hB;unfold ah.f at H;obtain ⟨y1,hy1⟩:∃ y_:List Int,y_=(([6,8,5,10,4,7,3,12]:List Int)):=⟨_,rfl⟩;replace H:((av.f s0_0 s0_1 s0_2 y1).bind fun bt1=>((bp.f s0_0 bt1.2.1 bt1.2.2 2).bind fun bt2=>((bs.f k bt1.1 bt2.1).bind fun bt3=>((aC.f s0_0 bt2.2.1 bt2.2.2 8).bind fun bt4=>(ah.l0 k bt3.2.2.2.2.2 (wrap64 (1+bt4.1)) s0_0 bt4.2.1 bt4.2.2 bt3.1 bt3.2.1 bt3.2.2.1 bt3.2.2.2.1 bt3.2.2.2.2.1)))))=some (r1,r2,r3,r4,r5,r6,r7):=dx;have Ny1:=A0_ hy1;clear hy1;obtain ⟨⟨t1,t2,t3⟩,A2,H⟩:=o1_ H;obtain ⟨⟨t4,t5,t6⟩,A4,H⟩:=o1_ H;obtain ⟨⟨t7,t8,t9,t10,t11,t12⟩,A6,H⟩:=o1_ H;obtain ⟨⟨t13,t14,t15⟩,A8,H⟩:=o1_ H;have H':=A0_ H;clear H;go_enter Tryz.func50,Tryz.ntmps50
 go_wp2_with (first|((with_reducible refine gd_ (N:=2) rfl ?_);refine bx_ 2 #[.int .i64 0,.bool false,.slice none 0 0,.slice none 0 0,.int .i64 0] 32 ?_;intro gb1 hg w1 BK1 hb;replace HB:=hb_ hb di;have GW1:=A0_ ((gc:w.heap.size≤gb1));have GE1:=A0_ ((Nat.le_trans HW0.out (gc:w.heap.size≤gb1):w0.heap.size≤gb1));replace HK:=A0_ (af.trans dg (af.of_below hb g none) (.inl rfl));have NB0_1:=A0_ ((j8:g≠gb1));have NB1_0:=A0_ ((j4:gb1≠g));replace HI0:=A0_ (aa.below dz hb);clear hb hg)|((with_reducible refine gd_ (N:=10) rfl ?_);refine Kd.R_lit (Kd.int .i64) _ 3 ?hg (N:=10) ?hd (xs:=([6,8,5,10,4,7,3,12]:List Int)) (inner:=[.int .i64 6,.int .i64 8,.int .i64 5,.int .i64 10,.int .i64 4,.int .i64 7,.int .i64 3,.int .i64 12]) (ok:=fun _=>True) (okp:=fun _=>True) ?hr ?hp (fun _ hk=>hk) trivial (Below.refl _ _) (Nat.le_refl _) bB ?_;(case hd=>rfl);(case hg=>rfl);(case hr=>go_simp;first|done|rfl);(case hp=>exact (aN.one (show Kd.M (Kd.int .i64) _ _ _ 6 [.int .i64 6] from rfl) (aN.one (show Kd.M (Kd.int .i64) _ _ _ 8 [.int .i64 8] from rfl) (aN.one (show Kd.M (Kd.int .i64) _ _ _ 5 [.int .i64 5] from rfl) (aN.one (show Kd.M (Kd.int .i64) _ _ _ 10 [.int .i64 10] from rfl) (aN.one (show Kd.M (Kd.int .i64) _ _ _ 4 [.int .i64 4] from rfl) (aN.one (show Kd.M (Kd.int .i64) _ _ _ 7 [.int .i64 7] from rfl) (aN.one (show Kd.M (Kd.int .i64) _ _ _ 3 [.int .i64 3] from rfl) (aN.one (show Kd.M (Kd.int .i64) _ _ _ 12 [.int .i64 12] from rfl) (aN.none _ _))))))))));intro v1 w2 ho8 hb hg_ hnew_;clear hg_ hnew_;(first|rw [← Ny1.out] at ho8|(simp only [Int.reduceToNat] at ho8;rw [← Ny1.out] at ho8));have HO1:=A0_ (Kd.R_lower ho8 (ba (w:=w) (g:=g) (row:=none) cF));replace BK1:=k1_ BK1 hb;replace HK:=A0_ (af.trans cF (af.of_below hb g none) (.inl rfl));replace HB:=hb_ hb dw;replace HI0:=A0_ (aa.below cM hb);clear hb ho8;obtain ⟨Ao1,co1,eo1⟩:=Kd.R_slice HO1.out;subst eo1)|((with_reducible refine gc_ (f:=70) rfl ?_);refine gl_ 11 Tryz.func70 #[.pointer (some ⟨g,0,none⟩),.slice Ao1 y1.length co1] ?_;(with_reducible refine (av.calls g s0_0 s0_1 s0_2 _ _ y1 t1 t2 t3 w0 _ ?_ ?_ ?_ ?_ ?_ A2.out).mono ?_);exact cM;exact dw;exact dW;exact (rr_ HO1.out).2.1;exact bW (aa.own_ne HI0.out HO1.out ag);rintro e w3 ⟨rfl,hi,hb,hk⟩;refine ⟨_,rfl,?_⟩;replace BK1:=bT BK1 hk NB1_0;replace HO1:=A0_ (Kd.R_mono (Kd.R_keep (aa.apart (show aa w0 _ g s0_0 s0_1 s0_2 from cM) bx ag) hk (fun _ h=>h.2)) (fun _ h=>h.1));replace HK:=A0_ (af.trans cF hk (.inl rfl));replace HB:=A0_ (hb);replace HI0:=A0_ (hi);(try clear hb hk hi))|((with_reducible refine gc_ (f:=47) rfl ?_);refine gl_ 15 Tryz.func47 #[.pointer (some ⟨g,0,none⟩),.int .i64 2] ?_;(with_reducible refine (bp.calls g s0_0 t2 t3 2 t4 t5 t6 w0 _ ?_ ?_ A4.out).mono ?_);exact cM;exact dw;rintro e w4 ⟨rfl,hi,hb,hk⟩;refine ⟨_,rfl,?_⟩;replace BK1:=bT BK1 hk NB1_0;replace HO1:=A0_ (Kd.R_mono (Kd.R_keep (aa.apart (show aa w0 _ g s0_0 t2 t3 from cM) bx ag) hk (fun _ h=>h.2)) (fun _ h=>h.1));replace HK:=A0_ (af.trans cF hk (.inl rfl));replace HB:=A0_ (hb);replace HI0:=A0_ (hi);(try clear hb hk hi))|((with_reducible refine gc_ (f:=19) rfl ?_);refine gl_ 16 Tryz.func19 #[.int .i64 t1,.bool t4] ?_;(with_reducible refine (bs.calls k t1 t4 t7 t8 t9 t10 t11 t12 _ A6.out).mono ?_);rintro e w5 ⟨v4,v5,rfl,ho0,ho1,hb⟩;refine ⟨_,rfl,?_⟩;have HO2:=A0_ (Kd.R_lower (Kd.R_new' ho0 (Kd.R_lt bx)) (ba (w:=w) (g:=g) (row:=none) cF));have HO3:=A0_ (Kd.R_lower (Kd.R_new' ho1 (Kd.R_lt bx)) (ba (w:=w) (g:=g) (row:=none) cF));replace HO1:=A0_ (Kd.R_mono (Kd.R_told (Kd.R_told (Kd.R_old bx hb) (Kd.R_base ho0)) (Kd.R_base ho1)) (fun _ h_=>h_.1));replace BK1:=k1_ BK1 hb;replace HK:=A0_ (af.trans cF (af.of_below hb g none) (.inl rfl));replace HB:=hb_ hb dw;replace HI0:=A0_ (aa.below cM hb);(try clear hb ho0 ho1))|((with_reducible refine gd_ (N:=4) rfl ?_);refine bx_ 4 #[.int .i64 0,.bool false,.slice none 0 0,.slice none 0 0,.int .i64 0] 32 ?_;intro gb2 hg w6 BK2 hb;replace HO1:=q1_ HO1 hb;replace HO2:=q1_ HO2 hb;replace HO3:=q1_ HO3 hb;replace HB:=hb_ hb dw;have GW2:=A0_ ((kN:w.heap.size≤gb2));have GE2:=A0_ ((Nat.le_trans HW0.out (kN:w.heap.size≤gb2):w0.heap.size≤gb2));replace HK:=A0_ (af.trans cF (af.of_below hb g none) (.inl rfl));obtain ⟨NB1_2,NB2_1⟩:=nn_ hg BK1;replace BK1:=k1_ BK1 hb;have NB0_2:=A0_ ((by rw [hg];exact Nat.ne_of_lt (aa.lt (show aa w0 _ g s0_0 t5 t6 from cM)):g≠gb2));have NB2_0:=A0_ ((by rw [hg];exact Nat.ne_of_gt (aa.lt (show aa w0 _ g s0_0 t5 t6 from cM)):gb2≠g));replace HI0:=A0_ (aa.below cM hb);clear hb hg;obtain ⟨hnb1,hnc1⟩:=n2_ NB2_1;obtain ⟨hnb2,hnc2⟩:=n2_ NB2_0;have hcz1:=z5_ BK2;obtain ⟨Ao2,co2,eo2⟩:=Kd.R_slice HO2.out;subst eo2;obtain ⟨Ao3,co3,eo3⟩:=Kd.R_slice HO3.out;subst eo3)|((with_reducible refine gc_ (f:=55) rfl ?_);refine gl_ 20 Tryz.func55 #[.pointer (some ⟨g,0,none⟩),.int .i64 8] ?_;(with_reducible refine (aC.calls g s0_0 t5 t6 8 t13 t14 t15 w0 _ ?_ ?_ A8.out).mono ?_);exact bI;exact cJ;rintro e w7 ⟨rfl,hi,hb,hk⟩;refine ⟨_,rfl,?_⟩;replace BK1:=bT BK1 hk NB1_0;replace HO1:=A0_ (Kd.R_mono (Kd.R_keep (aa.apart (show aa w0 _ g s0_0 t5 t6 from bI) iy ag) hk (fun _ h=>h.2)) (fun _ h=>h.1));replace HO2:=A0_ (Kd.R_mono (Kd.R_keep (aa.apart (show aa w0 _ g s0_0 t5 t6 from bI) iw ag) hk (fun _ h=>h.2)) (fun _ h=>h.1));replace HO3:=A0_ (Kd.R_mono (Kd.R_keep (aa.apart (show aa w0 _ g s0_0 t5 t6 from bI) nP ag) hk (fun _ h=>h.2)) (fun _ h=>h.1));replace BK2:=A0_ (af.blk hk (g':=gb2) (o:=.cells #[.int .i64 t7,.bool t8,.slice Ao2 t9.length co2,.slice Ao3 t10.length co3,.int .i64 t11] 32 (0,0)) (u1_ BK2) NB2_0.out bB);replace HK:=A0_ (af.trans cb hk (.inl rfl));replace HB:=A0_ (hb);replace HI0:=A0_ (hi);(try clear hb hk hi)))
 go_loopg [6] k (fun kq v6 w'=>∃ (x6_1:Int) (x1001_1:Int) (x1002_1:Int) (xd:Int) (xc:Bool) (xb:List Int) (xa:List Int) (xe:Int) (uf:Value) (ug:Value),v6=.int .i64 x6_1∧Aside0 (ah.l0 kq t12 x6_1 s0_0 x1001_1 x1002_1 xd xc xb xa xe=some (r1,r2,r3,r4,r5,r6,r7))∧Aside0 (kq≤k)∧Aside0 (Kd.R (Kd.int .i64) 3 w' w.heap.size (fun k_=>no_ ug k_) uf xb)∧Aside0 (Kd.R (Kd.int .i64) 3 w' w.heap.size (fun k_=>no_ uf k_) ug xa)∧Aside0 (w'.heap[gb1]?=some (.cells #[.int .i64 0,.bool false,(.slice none 0 0),(.slice none 0 0),.int .i64 0] 32 (0,0)))∧Aside0 (w'.heap[gb2]?=some (.cells #[.int .i64 xd,.bool xc,uf,ug,.int .i64 xe] 32 (0,0)))∧Aside0 (aa w0 w' g s0_0 x1001_1 x1002_1)∧Aside0 (af w w' g none)∧Aside0 (Below w0.heap.size w0 w'))
 case atStart=>exact ⟨(wrap64 (1+t13)),(t14),(t15),(t7),(t8),(t9),(t10),(t11),(.slice Ao2 t9.length co2),(.slice Ao3 t10.length co3),aX,H',⟨Nat.le_refl _⟩,⟨by (with_reducible repeat (first|apply ra_|apply rn_|apply rd_));exact Kd.R_mono HO2.out (fun _ hk=>hk.1)⟩,⟨by (with_reducible repeat (first|apply ra_|apply rn_|apply rd_));exact Kd.R_mono HO3.out (fun _ hk=>hk.1)⟩,⟨u1_ BK1⟩,⟨u1_ BK2⟩,⟨bI⟩,⟨cb⟩,⟨cJ⟩⟩
 clear H'
 (try clear hcz1);(try clear hfz1)
 obtain ⟨x6_1,x1001_1,x1002_1,xd,xc,xb,xa,xe,uf,ug,rfl,HA,HK1,HO_1,HO_2,BK1,BK2,HI0,HK,HB⟩:=hrel
 cases gk with|zero=>exact absurd HA.out (by simp [ah.l0])|succ k1=>?_
 have H:=HA.out;clear HA;simp only [ah.l0] at H;have HC20:=A0_ H;clear H
 go_upto_region 4 with (fail)
 go_cut [26] (fun v7 wc=>∃ (kq:Nat) (x26_19:Bool),v7=.bool x26_19∧Aside0 (ah.j1 kq t12 x6_1 x26_19 s0_0 x1001_1 x1002_1 xd xc xb xa xe=some (r1,r2,r3,r4,r5,r6,r7))∧Aside0 (kq≤k1)∧Aside0 (Kd.R (Kd.int .i64) 3 wc w.heap.size (fun k_=>no_ ug k_) uf xb)∧Aside0 (Kd.R (Kd.int .i64) 3 wc w.heap.size (fun k_=>no_ uf k_) ug xa)∧Aside0 (wc.heap[gb1]?=some (.cells #[.int .i64 0,.bool false,(.slice none 0 0),(.slice none 0 0),.int .i64 0] 32 (0,0)))∧Aside0 (wc.heap[gb2]?=some (.cells #[.int .i64 xd,.bool xc,uf,ug,.int .i64 xe] 32 (0,0)))∧Aside0 (aa w0 wc g s0_0 x1001_1 x1002_1)∧Aside0 (af w wc g none)∧Aside0 (Below w0.heap.size w0 wc))
 case first =>
  have H:=HC20.out;clear HC20
  by_cases c1:x6_1 > 0
  ·rw [if_pos c1] at H
   have c1b0:decide (0<x6_1)=true:=dt_ c1;clear c1
   (first|rw [c1b0]|(simp only [dD,dM];rw [c1b0])|skip)
   have H':=A0_ H;clear H
   go_wp2
   go_meet
   exact ⟨_,(t12),aX,H',⟨ji⟩,⟨br⟩,⟨bG⟩,⟨u1_ BK1⟩,⟨u1_ BK2⟩,⟨bI⟩,⟨cb⟩,⟨cJ⟩⟩
  rw [if_neg c1] at H;have c1b0:decide (0<x6_1)=false:=decide_eq_false c1;clear c1
  (first|rw [c1b0]|(simp only [dD,dM];rw [c1b0])|skip)
  have H':=A0_ H;clear H
  go_wp2
  go_meet
  exact ⟨_,(false),aX,H',⟨ji⟩,⟨br⟩,⟨bG⟩,⟨u1_ BK1⟩,⟨u1_ BK2⟩,⟨bI⟩,⟨cb⟩,⟨cJ⟩⟩
 clear HC20
 (try clear hcz1);(try clear hfz1)
 obtain ⟨kq,x26_19,rfl,HA,HJ1,HO_1,HO_2,BK1,BK2,HI0,HK,HB⟩:=hcut
 cases kq with|zero=>exact absurd HA.out (by simp [ah.j1])|succ kj1=>?_
 have H:=HA.out;clear HA;simp only [ah.j1] at H
 by_cases c1:x26_19=true
 case neg =>
  obtain rfl:=bf_.mpr c1;rw [if_neg ft_] at H;obtain ⟨⟨t16,t17,t18⟩,A10,H⟩:=o1_ H
  by_cases c2:t16=0
  ·rw [if_pos c2] at H
   obtain ⟨c2b0,c2b1⟩:=et_ c2;clear c2;obtain ⟨y2,hy2⟩:∃ y_:List Int,y_=(([(-1),1000,1001]:List Int)):=⟨_,rfl⟩;replace H:((av.f s0_0 t17 t18 y2).bind fun bt5=>(some (xd,xc,xb,xa,bt5.1,bt5.2.1,bt5.2.2)))=some (r1,r2,r3,r4,r5,r6,r7):=dH;have Ny2:=A0_ hy2;clear hy2;obtain ⟨⟨t19,t20,t21⟩,A12,H⟩:=o1_ H;replace H:(some (xd,xc,xb,xa,t19,t20,t21))=some (r1,r2,r3,r4,r5,r6,r7):=H;simp only [sj_,pj_] at H;obtain ⟨rfl,rfl,rfl,rfl,rfl,rfl,rfl⟩:=H
   go_wp2_with (first|((with_reducible refine gc_ (f:=55) rfl ?_);refine gl_ 40 Tryz.func55 #[.pointer (some ⟨g,0,none⟩),.int .i64 48] ?_;(with_reducible refine (aC.calls g s0_0 x1001_1 x1002_1 48 t16 t17 t18 w0 _ ?_ ?_ A10.out).mono ?_);exact bI;exact cJ;rintro e w8 ⟨rfl,hi,hb,hk⟩;refine ⟨_,rfl,?_⟩;replace HO_1:=A0_ (Kd.R_mono (Kd.R_keep (aa.apart (show aa w0 _ g s0_0 x1001_1 x1002_1 from bI) br ag) hk (fun _ h=>h.2)) (fun _ h=>h.1));replace HO_2:=A0_ (Kd.R_mono (Kd.R_keep (aa.apart (show aa w0 _ g s0_0 x1001_1 x1002_1 from bI) bG ag) hk (fun _ h=>h.2)) (fun _ h=>h.1));replace BK1:=bT BK1 hk NB1_0;replace BK2:=bT BK2 hk NB2_0;replace HK:=A0_ (af.trans cb hk (.inl rfl));replace HB:=A0_ (hb);replace HI0:=A0_ (hi);(try clear hb hk hi))|((with_reducible refine gd_ (N:=44) rfl ?_);refine Kd.R_lit (Kd.int .i64) _ 3 ?hg (N:=44) ?hd (xs:=([(-1),1000,1001]:List Int)) (inner:=[.int .i64 (-1),.int .i64 1000,.int .i64 1001]) (ok:=fun _=>True) (okp:=fun _=>True) ?hr ?hp (fun _ hk=>hk) trivial (Below.refl _ _) (Nat.le_refl _) bB ?_;(case hd=>rfl);(case hg=>rfl);(case hr=>go_simp;first|done|rfl);(case hp=>exact (aN.one (show Kd.M (Kd.int .i64) _ _ _ (-1) [.int .i64 (-1)] from rfl) (aN.one (show Kd.M (Kd.int .i64) _ _ _ 1000 [.int .i64 1000] from rfl) (aN.one (show Kd.M (Kd.int .i64) _ _ _ 1001 [.int .i64 1001] from rfl) (aN.none _ _)))));intro v8 w9 ho66 hb hg_ hnew_;clear hg_ hnew_;(first|rw [← Ny2.out] at ho66|(simp only [Int.reduceToNat] at ho66;rw [← Ny2.out] at ho66));have HO4:=A0_ (Kd.R_lower (Kd.R_new' (Kd.R_new' ho66 (Kd.R_lt br)) (Kd.R_lt bG)) (ba (w:=w) (g:=g) (row:=none) cb));replace HO_1:=A0_ (Kd.R_elder' br (Kd.R_base ho66) hb);replace HO_2:=A0_ (Kd.R_elder' bG (Kd.R_base ho66) hb);replace BK1:=k1_ BK1 hb;replace BK2:=k1_ BK2 hb;replace HK:=A0_ (af.trans cb (af.of_below hb g none) (.inl rfl));replace HB:=hb_ hb cJ;replace HI0:=A0_ (aa.below bI hb);clear hb ho66;obtain ⟨Ao4,co4,eo4⟩:=Kd.R_slice HO4.out;subst eo4)|((with_reducible refine gc_ (f:=70) rfl ?_);refine gl_ 45 Tryz.func70 #[.pointer (some ⟨g,0,none⟩),.slice Ao4 y2.length co4] ?_;(with_reducible refine (av.calls g s0_0 t17 t18 _ _ y2 t19 t20 t21 w0 _ ?_ ?_ ?_ ?_ ?_ A12.out).mono ?_);exact bI;exact cJ;exact lR;exact (rr_ HO4.out).2.1;exact bW (aa.own_ne HI0.out HO4.out ag);rintro e w10 ⟨rfl,hi,hb,hk⟩;refine ⟨_,rfl,?_⟩;replace HO_1:=A0_ (Kd.R_mono (Kd.R_keep (aa.apart (show aa w0 _ g s0_0 t17 t18 from bI) br ag) hk (fun _ h=>h.2)) (fun _ h=>h.1));replace HO_2:=A0_ (Kd.R_mono (Kd.R_keep (aa.apart (show aa w0 _ g s0_0 t17 t18 from bI) bG ag) hk (fun _ h=>h.2)) (fun _ h=>h.1));replace BK1:=bT BK1 hk NB1_0;replace BK2:=bT BK2 hk NB2_0;replace HO4:=A0_ (Kd.R_mono (Kd.R_keep (aa.apart (show aa w0 _ g s0_0 t17 t18 from bI) j6 ag) hk (fun _ h=>h.2)) (fun _ h=>h.1));replace HK:=A0_ (af.trans cb hk (.inl rfl));replace HB:=A0_ (hb);replace HI0:=A0_ (hi);(try clear hb hk hi);obtain ⟨hnb3,hnc3⟩:=n2_ NB2_1;obtain ⟨hnb4,hnc4⟩:=n2_ NB2_0;have hcz2:=z5_ BK2;obtain ⟨hnb5,hnc5⟩:=n2_ NB1_0;have hcz3_0:=y_ BK1 0;have hcz3_1:=y_ BK1 1;have hcz3_2:=y_ BK1 2;have hcz3_3:=y_ BK1 3;have hcz3_4:=y_ BK1 4;have hfz3_0:=kf_ BK1.out 0;have hfz3_1:=kf_ BK1.out 1;have hfz3_2:=kf_ BK1.out 2;have hfz3_3:=kf_ BK1.out 3;have hfz3_4:=kf_ BK1.out 4;obtain ⟨Ao5,co5,eo5⟩:=Kd.R_slice HO_1.out;subst eo5;obtain ⟨Ao6,co6,eo6⟩:=Kd.R_slice HO_2.out;subst eo6))
   refine bodyPost_ret (results_cell_row rfl _ _ gb1 32 #[.int .i64 xd,.bool xc,.slice Ao5 xb.length co5,.slice Ao6 xa.length co6,.int .i64 t19] (0,0) _ rfl (u1_ BK1) Tryz.underlying32 rfl aY) rfl ?_
   exact ⟨_,_,aE,mT,nL,bI,cJ,cb⟩
  rw [if_neg c2] at H;obtain ⟨c2b0,c2b1⟩:=ef_ c2
  by_cases c3:t16=1
  ·rw [if_pos c3] at H
   obtain ⟨c3b0,c3b1⟩:=et_ c3;clear c3;obtain ⟨t19,A12,H⟩:=o1_ H;obtain ⟨y2,hy2⟩:∃ y_:List Int,y_=(([0,(-1),24]:List Int)):=⟨_,rfl⟩;replace H:((av.f s0_0 t17 t18 y2).bind fun bt5=>(if t19.length<17592186044416 then (some (xd,xc,xb,(t19++[bt5.1]),xe,bt5.2.1,bt5.2.2)) else (none)))=some (r1,r2,r3,r4,r5,r6,r7):=dH;have Ny2:=A0_ hy2;clear hy2;obtain ⟨⟨t20,t21,t22⟩,A14,H⟩:=o1_ H;obtain ⟨c4,H⟩:=is_ H;have LMc1:=A0_ c4;clear c4;obtain ⟨y3,hy3⟩:∃ y_:List Int,y_=(t19++[t20]):=⟨_,rfl⟩;replace H:(some (xd,xc,xb,y3,xe,t21,t22))=some (r1,r2,r3,r4,r5,r6,r7):=it;have Ny3:=A0_ hy3;clear hy3;simp only [sj_,pj_] at H;obtain ⟨rfl,rfl,rfl,rfl,rfl,rfl,rfl⟩:=H
   go_wp2_with (first|((with_reducible refine gc_ (f:=55) rfl ?_);refine gl_ 40 Tryz.func55 #[.pointer (some ⟨g,0,none⟩),.int .i64 48] ?_;(with_reducible refine (aC.calls g s0_0 x1001_1 x1002_1 48 t16 t17 t18 w0 _ ?_ ?_ A10.out).mono ?_);exact bI;exact cJ;rintro e w8 ⟨rfl,hi,hb,hk⟩;refine ⟨_,rfl,?_⟩;replace HO_1:=A0_ (Kd.R_mono (Kd.R_keep (aa.apart (show aa w0 _ g s0_0 x1001_1 x1002_1 from bI) br ag) hk (fun _ h=>h.2)) (fun _ h=>h.1));replace HO_2:=A0_ (Kd.R_mono (Kd.R_keep (aa.apart (show aa w0 _ g s0_0 x1001_1 x1002_1 from bI) bG ag) hk (fun _ h=>h.2)) (fun _ h=>h.1));replace BK1:=bT BK1 hk NB1_0;replace BK2:=bT BK2 hk NB2_0;replace HK:=A0_ (af.trans cb hk (.inl rfl));replace HB:=A0_ (hb);replace HI0:=A0_ (hi);(try clear hb hk hi);obtain ⟨hnb3,hnc3⟩:=n2_ NB2_1;obtain ⟨hnb4,hnc4⟩:=n2_ NB2_0;have hcz2:=z5_ BK2;obtain ⟨Ao4,co4,eo4⟩:=Kd.R_slice HO_2.out;subst eo4)|((with_reducible refine gc_ (f:=67) rfl ?_);refine gl_ 51 Tryz.func67 #[.slice Ao4 xa.length co4] ?_;(with_reducible refine (cI.calls _ _ xa t19 _ ?_ ?_ A12.out).mono ?_);exact eD;exact (rr_ HO_2.out).2.1;rintro e w9 ⟨v8,rfl,ho0,hb⟩;refine ⟨_,rfl,?_⟩;have HO4:=A0_ (Kd.R_lower (Kd.R_new' (Kd.R_new' ho0 (Kd.R_lt br)) (Kd.R_lt bG)) (ba (w:=w) (g:=g) (row:=none) cb));replace HO_1:=A0_ (Kd.R_elder' br (Kd.R_base ho0) hb);replace HO_2:=A0_ (Kd.R_elder' bG (Kd.R_base ho0) hb);replace BK1:=k1_ BK1 hb;replace BK2:=k1_ BK2 hb;replace HK:=A0_ (af.trans cb (af.of_below hb g none) (.inl rfl));replace HB:=hb_ hb cJ;replace HI0:=A0_ (aa.below bI hb);(try clear hb ho0))|((with_reducible refine gd_ (N:=53) rfl ?_);refine Kd.R_lit (Kd.int .i64) _ 3 ?hg (N:=53) ?hd (xs:=([0,(-1),24]:List Int)) (inner:=[.int .i64 0,.int .i64 (-1),.int .i64 24]) (ok:=fun _=>True) (okp:=fun _=>True) ?hr ?hp (fun _ hk=>hk) trivial (Below.refl _ _) (Nat.le_refl _) bB ?_;(case hd=>rfl);(case hg=>rfl);(case hr=>go_simp;first|done|rfl);(case hp=>exact (aN.one (show Kd.M (Kd.int .i64) _ _ _ 0 [.int .i64 0] from rfl) (aN.one (show Kd.M (Kd.int .i64) _ _ _ (-1) [.int .i64 (-1)] from rfl) (aN.one (show Kd.M (Kd.int .i64) _ _ _ 24 [.int .i64 24] from rfl) (aN.none _ _)))));intro v9 w10 ho87 hb hg_ hnew_;clear hg_ hnew_;(first|rw [← Ny2.out] at ho87|(simp only [Int.reduceToNat] at ho87;rw [← Ny2.out] at ho87));have HO5:=A0_ (Kd.R_lower (Kd.R_new' (Kd.R_new' (Kd.R_new' ho87 (Kd.R_lt br)) (Kd.R_lt bG)) (Kd.R_lt j6)) (ba (w:=w) (g:=g) (row:=none) cb));replace HO_1:=A0_ (Kd.R_elder' br (Kd.R_base ho87) hb);replace HO_2:=A0_ (Kd.R_elder' bG (Kd.R_base ho87) hb);replace HO4:=A0_ (Kd.R_elder' j6 (Kd.R_base ho87) hb);replace BK1:=k1_ BK1 hb;replace BK2:=k1_ BK2 hb;replace HK:=A0_ (af.trans cb (af.of_below hb g none) (.inl rfl));replace HB:=hb_ hb cJ;replace HI0:=A0_ (aa.below bI hb);clear hb ho87;obtain ⟨Ao5,co5,eo5⟩:=Kd.R_slice HO5.out;subst eo5)|((with_reducible refine gc_ (f:=70) rfl ?_);refine gl_ 54 Tryz.func70 #[.pointer (some ⟨g,0,none⟩),.slice Ao5 y2.length co5] ?_;(with_reducible refine (av.calls g s0_0 t17 t18 _ _ y2 t20 t21 t22 w0 _ ?_ ?_ ?_ ?_ ?_ A14.out).mono ?_);exact bI;exact cJ;exact nG;exact (rr_ HO5.out).2.1;exact bW (aa.own_ne HI0.out HO5.out ag);rintro e w11 ⟨rfl,hi,hb,hk⟩;refine ⟨_,rfl,?_⟩;replace HO_1:=A0_ (Kd.R_mono (Kd.R_keep (aa.apart (show aa w0 _ g s0_0 t17 t18 from bI) br ag) hk (fun _ h=>h.2)) (fun _ h=>h.1));replace HO_2:=A0_ (Kd.R_mono (Kd.R_keep (aa.apart (show aa w0 _ g s0_0 t17 t18 from bI) bG ag) hk (fun _ h=>h.2)) (fun _ h=>h.1));replace BK1:=bT BK1 hk NB1_0;replace BK2:=bT BK2 hk NB2_0;replace HO4:=A0_ (Kd.R_mono (Kd.R_keep (aa.apart (show aa w0 _ g s0_0 t17 t18 from bI) j6 ag) hk (fun _ h=>h.2)) (fun _ h=>h.1));replace HO5:=A0_ (Kd.R_mono (Kd.R_keep (aa.apart (show aa w0 _ g s0_0 t17 t18 from bI) nb ag) hk (fun _ h=>h.2)) (fun _ h=>h.1));replace HK:=A0_ (af.trans cb hk (.inl rfl));replace HB:=A0_ (hb);replace HI0:=A0_ (hi);(try clear hb hk hi))|((with_reducible refine bX (b:=.append) (xs:=#[.tmp 51,.tmp 55]) rfl ?_);at_builtin;refine Kd.R_append (Kd.int .i64) w.heap.size rfl (.tmp 51) (.tmp 55) 22 3 (.int .i64 0) 8 rfl Tryz.underlying22 cW rfl ag bm v8 t19 t20 [.int .i64 t20] (fun k_=>no_ uf k_∧no_ (.slice Ao4 xa.length co4) k_∧no_ (.slice Ao5 y2.length co5) k_) (fun _=>False) rfl rfl ?aP (fun _ hk=>hk.elim) ?aF ?aO (Below.refl _ _) ?aS ?aL ?_;(case aP=>exact rfl);(case aF=>exact (fun k_ hk=>⟨Kd.fresh' (Kd.R_lt br) k_ hk,Kd.fresh' (Kd.R_lt bG) k_ hk,Kd.fresh' (Kd.R_lt nb) k_ hk⟩));(case aO=>exact (by (with_reducible repeat (first|apply ra_|apply rn_|apply rd_));exact Kd.R_mono HO4.out (fun _ hk=>⟨hk.1.1.2,⟨hk.1.2,hk.2⟩⟩)));(case aS=>exact (ba (w:=w) (g:=g) (row:=none) cb));(case aL=>have:=LMc1.out;omega);intro v10 w12 ho hb hg hat;rw [← Ny3.out] at ho;have n0_:=A0_ (Kd.R_after (ok:=(fun k_=>no_ (.slice Ao4 xa.length co4) k_∧no_ (.slice Ao5 y2.length co5) k_)) (by (with_reducible repeat (first|apply ra_|apply rn_|apply rd_));exact Kd.R_mono HO_1.out (fun _ hk=>⟨⟨hk.1.1,hk.2⟩,hk.1.2⟩)) hg hat);have n1_:=A0_ (Kd.R_after (ok:=(fun k_=>no_ uf k_∧no_ (.slice Ao5 y2.length co5) k_)) (by (with_reducible repeat (first|apply ra_|apply rn_|apply rd_));exact Kd.R_mono HO_2.out (fun _ hk=>⟨⟨hk.1.1,hk.2⟩,hk.1.2⟩)) hg hat);have n2_:=A0_ (aJ (g:=gb1) (o:=.cells #[.int .i64 0,.bool false,.slice none 0 0,.slice none 0 0,.int .i64 0] 32 (0,0)) (u1_ BK1) hg (Kd.R_ne HO4.out BK1.out ag));have n3_:=A0_ (aJ (g:=gb2) (o:=.cells #[.int .i64 xd,.bool xc,uf,.slice Ao4 xa.length co4,.int .i64 xe] 32 (0,0)) (u1_ BK2) hg (Kd.R_ne HO4.out BK2.out ag));have n4_:=A0_ (aa.grown bI hg (aa.own_ne HI0.out HO4.out ag));have n5_:=A0_ (Kd.R_after (ok:=(fun k_=>no_ uf k_∧no_ (.slice Ao4 xa.length co4) k_)) (by (with_reducible repeat (first|apply ra_|apply rn_|apply rd_));exact Kd.R_mono HO5.out (fun _ hk=>⟨⟨hk.1.1.2,hk.1.2⟩,hk.2⟩)) hg hat);have n6_:=A0_ (fg cJ HL.out hb);have n7_:=A0_ (af.trans cb (af.of_grown hg g) (Kd.R_base2 HO4.out));have n8_:=A0_ (ho);clear HO_1 HO_2 BK1 BK2 HI0 HO5 HB HK HO4;have HO_1:=n0_;have HO_2:=n1_;have BK1:=n2_;have BK2:=n3_;have HI0:=n4_;have HO5:=n5_;have HB:=n6_;have HK:=n7_;have HO6:=n8_;clear n0_ n1_ n2_ n3_ n4_ n5_ n6_ n7_ n8_ ho hb hg hat;obtain ⟨Ao6,co6,eo6⟩:=Kd.R_slice HO6.out;subst eo6;have hcz3:=z5_ BK2;obtain ⟨hnb5,hnc5⟩:=n2_ NB1_0;have hcz4_0:=y_ BK1 0;have hcz4_1:=y_ BK1 1;have hcz4_2:=y_ BK1 2;have hcz4_3:=y_ BK1 3;have hcz4_4:=y_ BK1 4;have hfz4_0:=kf_ BK1.out 0;have hfz4_1:=kf_ BK1.out 1;have hfz4_2:=kf_ BK1.out 2;have hfz4_3:=kf_ BK1.out 3;have hfz4_4:=kf_ BK1.out 4;obtain ⟨Ao7,co7,eo7⟩:=Kd.R_slice HO_1.out;subst eo7))
   refine bodyPost_ret (results_cell_row rfl _ _ gb1 32 #[.int .i64 xd,.bool xc,.slice Ao7 xb.length co7,.slice Ao6 y3.length co6,.int .i64 xe] (0,0) _ rfl (u1_ BK1) Tryz.underlying32 rfl aY) rfl ?_
   exact ⟨_,_,aE,by (with_reducible repeat (first|apply ra_|apply rn_|apply rd_));exact Kd.R_mono (bw (rf_ (Kd.R_types (Kd.R_types HO_1.out BK2.out ag) BK1.out ag) (fun _ hk=>hk.1.2) (.slice Ao6 y3.length co6))) (fun _ hk=>hk.1.1.2),by (with_reducible repeat (first|apply ra_|apply rn_|apply rd_));exact Kd.R_mono (bw (rf_ (Kd.R_types (Kd.R_types HO6.out BK2.out ag) BK1.out ag) (fun _ hk=>hk.1.2) (.slice Ao6 y3.length co6))) (fun _ hk=>hk.1.1.1),bI,cJ,cb⟩
  rw [if_neg c3] at H;obtain ⟨c3b0,c3b1⟩:=ef_ c3
  by_cases c4:t16=2
  case neg =>
   rw [if_neg c4] at H;obtain ⟨c4b0,c4b1⟩:=ef_ c4
   by_cases c5:t16=3
   case neg =>
    rw [if_neg c5] at H;obtain ⟨c5b0,c5b1⟩:=ef_ c5;simp only [sj_,pj_] at H;obtain ⟨rfl,rfl,rfl,rfl,rfl,rfl,rfl⟩:=H
    go_wp2_with (first|((with_reducible refine gc_ (f:=55) rfl ?_);refine gl_ 40 Tryz.func55 #[.pointer (some ⟨g,0,none⟩),.int .i64 48] ?_;(with_reducible refine (aC.calls g s0_0 x1001_1 x1002_1 48 t16 t17 t18 w0 _ ?_ ?_ A10.out).mono ?_);exact bI;exact cJ;rintro e w8 ⟨rfl,hi,hb,hk⟩;refine ⟨_,rfl,?_⟩;replace HO_1:=A0_ (Kd.R_mono (Kd.R_keep (aa.apart (show aa w0 _ g s0_0 x1001_1 x1002_1 from bI) br ag) hk (fun _ h=>h.2)) (fun _ h=>h.1));replace HO_2:=A0_ (Kd.R_mono (Kd.R_keep (aa.apart (show aa w0 _ g s0_0 x1001_1 x1002_1 from bI) bG ag) hk (fun _ h=>h.2)) (fun _ h=>h.1));replace BK1:=bT BK1 hk NB1_0;replace BK2:=bT BK2 hk NB2_0;replace HK:=A0_ (af.trans cb hk (.inl rfl));replace HB:=A0_ (hb);replace HI0:=A0_ (hi);(try clear hb hk hi);obtain ⟨hnb3,hnc3⟩:=n2_ NB2_1;obtain ⟨hnb4,hnc4⟩:=n2_ NB2_0;have hcz2:=z5_ BK2;obtain ⟨hnb5,hnc5⟩:=n2_ NB1_0;have hcz3_0:=y_ BK1 0;have hcz3_1:=y_ BK1 1;have hcz3_2:=y_ BK1 2;have hcz3_3:=y_ BK1 3;have hcz3_4:=y_ BK1 4;have hfz3_0:=kf_ BK1.out 0;have hfz3_1:=kf_ BK1.out 1;have hfz3_2:=kf_ BK1.out 2;have hfz3_3:=kf_ BK1.out 3;have hfz3_4:=kf_ BK1.out 4;obtain ⟨Ao4,co4,eo4⟩:=Kd.R_slice HO_1.out;subst eo4;obtain ⟨Ao5,co5,eo5⟩:=Kd.R_slice HO_2.out;subst eo5))
    refine bodyPost_ret (results_cell_row rfl _ _ gb1 32 #[.int .i64 xd,.bool xc,.slice Ao4 xb.length co4,.slice Ao5 xa.length co5,.int .i64 xe] (0,0) _ rfl (u1_ BK1) Tryz.underlying32 rfl aY) rfl ?_
    exact ⟨_,_,aE,l3,lS,bI,cJ,cb⟩
   rw [if_pos c5] at H;obtain ⟨c5b0,c5b1⟩:=et_ c5;clear c5;obtain ⟨y2,hy2⟩:∃ y_:List Int,y_=(([1,24,25,4611686018427387904]:List Int)):=⟨_,rfl⟩;replace H:((av.f s0_0 t17 t18 y2).bind fun bt5=>(some (bt5.1,xc,xb,xa,xe,bt5.2.1,bt5.2.2)))=some (r1,r2,r3,r4,r5,r6,r7):=dH;have Ny2:=A0_ hy2;clear hy2;obtain ⟨⟨t19,t20,t21⟩,A12,H⟩:=o1_ H;replace H:(some (t19,xc,xb,xa,xe,t20,t21))=some (r1,r2,r3,r4,r5,r6,r7):=H;simp only [sj_,pj_] at H;obtain ⟨rfl,rfl,rfl,rfl,rfl,rfl,rfl⟩:=H
   go_wp2_with (first|((with_reducible refine gc_ (f:=55) rfl ?_);refine gl_ 40 Tryz.func55 #[.pointer (some ⟨g,0,none⟩),.int .i64 48] ?_;(with_reducible refine (aC.calls g s0_0 x1001_1 x1002_1 48 t16 t17 t18 w0 _ ?_ ?_ A10.out).mono ?_);exact bI;exact cJ;rintro e w8 ⟨rfl,hi,hb,hk⟩;refine ⟨_,rfl,?_⟩;replace HO_1:=A0_ (Kd.R_mono (Kd.R_keep (aa.apart (show aa w0 _ g s0_0 x1001_1 x1002_1 from bI) br ag) hk (fun _ h=>h.2)) (fun _ h=>h.1));replace HO_2:=A0_ (Kd.R_mono (Kd.R_keep (aa.apart (show aa w0 _ g s0_0 x1001_1 x1002_1 from bI) bG ag) hk (fun _ h=>h.2)) (fun _ h=>h.1));replace BK1:=bT BK1 hk NB1_0;replace BK2:=bT BK2 hk NB2_0;replace HK:=A0_ (af.trans cb hk (.inl rfl));replace HB:=A0_ (hb);replace HI0:=A0_ (hi);(try clear hb hk hi))|((with_reducible refine gd_ (N:=74) rfl ?_);refine Kd.R_lit (Kd.int .i64) _ 3 ?hg (N:=74) ?hd (xs:=([1,24,25,4611686018427387904]:List Int)) (inner:=[.int .i64 1,.int .i64 24,.int .i64 25,.int .i64 4611686018427387904]) (ok:=fun _=>True) (okp:=fun _=>True) ?hr ?hp (fun _ hk=>hk) trivial (Below.refl _ _) (Nat.le_refl _) bB ?_;(case hd=>rfl);(case hg=>rfl);(case hr=>go_simp;first|done|rfl);(case hp=>exact (aN.one (show Kd.M (Kd.int .i64) _ _ _ 1 [.int .i64 1] from rfl) (aN.one (show Kd.M (Kd.int .i64) _ _ _ 24 [.int .i64 24] from rfl) (aN.one (show Kd.M (Kd.int .i64) _ _ _ 25 [.int .i64 25] from rfl) (aN.one (show Kd.M (Kd.int .i64) _ _ _ 4611686018427387904 [.int .i64 4611686018427387904] from rfl) (aN.none _ _))))));intro v8 w9 ho125 hb hg_ hnew_;clear hg_ hnew_;(first|rw [← Ny2.out] at ho125|(simp only [Int.reduceToNat] at ho125;rw [← Ny2.out] at ho125));have HO4:=A0_ (Kd.R_lower (Kd.R_new' (Kd.R_new' ho125 (Kd.R_lt br)) (Kd.R_lt bG)) (ba (w:=w) (g:=g) (row:=none) cb));replace HO_1:=A0_ (Kd.R_elder' br (Kd.R_base ho125) hb);replace HO_2:=A0_ (Kd.R_elder' bG (Kd.R_base ho125) hb);replace BK1:=k1_ BK1 hb;replace BK2:=k1_ BK2 hb;replace HK:=A0_ (af.trans cb (af.of_below hb g none) (.inl rfl));replace HB:=hb_ hb cJ;replace HI0:=A0_ (aa.below bI hb);clear hb ho125;obtain ⟨Ao4,co4,eo4⟩:=Kd.R_slice HO4.out;subst eo4)|((with_reducible refine gc_ (f:=70) rfl ?_);refine gl_ 75 Tryz.func70 #[.pointer (some ⟨g,0,none⟩),.slice Ao4 y2.length co4] ?_;(with_reducible refine (av.calls g s0_0 t17 t18 _ _ y2 t19 t20 t21 w0 _ ?_ ?_ ?_ ?_ ?_ A12.out).mono ?_);exact bI;exact cJ;exact lR;exact (rr_ HO4.out).2.1;exact bW (aa.own_ne HI0.out HO4.out ag);rintro e w10 ⟨rfl,hi,hb,hk⟩;refine ⟨_,rfl,?_⟩;replace HO_1:=A0_ (Kd.R_mono (Kd.R_keep (aa.apart (show aa w0 _ g s0_0 t17 t18 from bI) br ag) hk (fun _ h=>h.2)) (fun _ h=>h.1));replace HO_2:=A0_ (Kd.R_mono (Kd.R_keep (aa.apart (show aa w0 _ g s0_0 t17 t18 from bI) bG ag) hk (fun _ h=>h.2)) (fun _ h=>h.1));replace BK1:=bT BK1 hk NB1_0;replace BK2:=bT BK2 hk NB2_0;replace HO4:=A0_ (Kd.R_mono (Kd.R_keep (aa.apart (show aa w0 _ g s0_0 t17 t18 from bI) j6 ag) hk (fun _ h=>h.2)) (fun _ h=>h.1));replace HK:=A0_ (af.trans cb hk (.inl rfl));replace HB:=A0_ (hb);replace HI0:=A0_ (hi);(try clear hb hk hi);obtain ⟨hnb3,hnc3⟩:=n2_ NB2_1;obtain ⟨hnb4,hnc4⟩:=n2_ NB2_0;have hcz2:=z5_ BK2;obtain ⟨hnb5,hnc5⟩:=n2_ NB1_0;have hcz3_0:=y_ BK1 0;have hcz3_1:=y_ BK1 1;have hcz3_2:=y_ BK1 2;have hcz3_3:=y_ BK1 3;have hcz3_4:=y_ BK1 4;have hfz3_0:=kf_ BK1.out 0;have hfz3_1:=kf_ BK1.out 1;have hfz3_2:=kf_ BK1.out 2;have hfz3_3:=kf_ BK1.out 3;have hfz3_4:=kf_ BK1.out 4;obtain ⟨Ao5,co5,eo5⟩:=Kd.R_slice HO_1.out;subst eo5;obtain ⟨Ao6,co6,eo6⟩:=Kd.R_slice HO_2.out;subst eo6))
   refine bodyPost_ret (results_cell_row rfl _ _ gb1 32 #[.int .i64 t19,.bool xc,.slice Ao5 xb.length co5,.slice Ao6 xa.length co6,.int .i64 xe] (0,0) _ rfl (u1_ BK1) Tryz.underlying32 rfl aY) rfl ?_
   exact ⟨_,_,aE,mT,nL,bI,cJ,cb⟩
  rw [if_pos c4] at H;obtain ⟨c4b0,c4b1⟩:=et_ c4;clear c4
  by_cases c5:(xa.length:Int) > 1
  case neg =>
   rw [if_neg c5] at H;have c5b0:decide (1<(xa.length:Int))=false:=decide_eq_false c5;have c5b1:decide (1<xa.length)=false:=decide_eq_false bm;clear c5;simp only [sj_,pj_] at H;obtain ⟨rfl,rfl,rfl,rfl,rfl,rfl,rfl⟩:=H
   go_wp2_with (first|((with_reducible refine gc_ (f:=55) rfl ?_);refine gl_ 40 Tryz.func55 #[.pointer (some ⟨g,0,none⟩),.int .i64 48] ?_;(with_reducible refine (aC.calls g s0_0 x1001_1 x1002_1 48 t16 t17 t18 w0 _ ?_ ?_ A10.out).mono ?_);exact bI;exact cJ;rintro e w8 ⟨rfl,hi,hb,hk⟩;refine ⟨_,rfl,?_⟩;replace HO_1:=A0_ (Kd.R_mono (Kd.R_keep (aa.apart (show aa w0 _ g s0_0 x1001_1 x1002_1 from bI) br ag) hk (fun _ h=>h.2)) (fun _ h=>h.1));replace HO_2:=A0_ (Kd.R_mono (Kd.R_keep (aa.apart (show aa w0 _ g s0_0 x1001_1 x1002_1 from bI) bG ag) hk (fun _ h=>h.2)) (fun _ h=>h.1));replace BK1:=bT BK1 hk NB1_0;replace BK2:=bT BK2 hk NB2_0;replace HK:=A0_ (af.trans cb hk (.inl rfl));replace HB:=A0_ (hb);replace HI0:=A0_ (hi);(try clear hb hk hi);obtain ⟨hnb3,hnc3⟩:=n2_ NB2_1;obtain ⟨hnb4,hnc4⟩:=n2_ NB2_0;have hcz2:=z5_ BK2;obtain ⟨Ao4,co4,eo4⟩:=Kd.R_slice HO_2.out;subst eo4;obtain ⟨hnb5,hnc5⟩:=n2_ NB1_0;have hcz3_0:=y_ BK1 0;have hcz3_1:=y_ BK1 1;have hcz3_2:=y_ BK1 2;have hcz3_3:=y_ BK1 3;have hcz3_4:=y_ BK1 4;have hfz3_0:=kf_ BK1.out 0;have hfz3_1:=kf_ BK1.out 1;have hfz3_2:=kf_ BK1.out 2;have hfz3_3:=kf_ BK1.out 3;have hfz3_4:=kf_ BK1.out 4;obtain ⟨Ao5,co5,eo5⟩:=Kd.R_slice HO_1.out;subst eo5))
   refine bodyPost_ret (results_cell_row rfl _ _ gb1 32 #[.int .i64 xd,.bool xc,.slice Ao5 xb.length co5,.slice Ao4 xa.length co4,.int .i64 xe] (0,0) _ rfl (u1_ BK1) Tryz.underlying32 rfl aY) rfl ?_
   exact ⟨_,_,aE,l3,lS,bI,cJ,cb⟩
  rw [if_pos c5] at H;have c5b0:decide (1<(xa.length:Int))=true:=dt_ c5;have c5b1:decide (1<xa.length)=true:=dt_ bm;clear c5;obtain ⟨c6,H⟩:=is_ H;have c6b0:decide (1<(xa.length:Int))=true:=dt_ c6;have c6b1:decide (1<xa.length)=true:=dt_ bm;clear c6;obtain ⟨c7,H⟩:=is_ H;have c7b0:decide (0<(xa.length:Int))=true:=dt_ c7;have c7b1:decide (0<xa.length)=true:=dt_ bm;clear c7;obtain ⟨y2,hy2⟩:∃ y_:List Int,y_=(xa.set (0:Int).toNat (rd xa 1)):=⟨_,rfl⟩;replace H:(some (xd,xc,xb,y2,xe,t17,t18))=some (r1,r2,r3,r4,r5,r6,r7):=dH;have Ny2:=A0_ hy2;clear hy2;simp only [sj_,pj_] at H;obtain ⟨rfl,rfl,rfl,rfl,rfl,rfl,rfl⟩:=H
  try go_wp2_with (first|((with_reducible refine gc_ (f:=55) rfl ?_);refine gl_ 40 Tryz.func55 #[.pointer (some ⟨g,0,none⟩),.int .i64 48] ?_;(with_reducible refine (aC.calls g s0_0 x1001_1 x1002_1 48 t16 t17 t18 w0 _ ?_ ?_ A10.out).mono ?_);exact bI;exact cJ;rintro e w8 ⟨rfl,hi,hb,hk⟩;refine ⟨_,rfl,?_⟩;replace HO_1:=A0_ (Kd.R_mono (Kd.R_keep (aa.apart (show aa w0 _ g s0_0 x1001_1 x1002_1 from bI) br ag) hk (fun _ h=>h.2)) (fun _ h=>h.1));replace HO_2:=A0_ (Kd.R_mono (Kd.R_keep (aa.apart (show aa w0 _ g s0_0 x1001_1 x1002_1 from bI) bG ag) hk (fun _ h=>h.2)) (fun _ h=>h.1));replace BK1:=bT BK1 hk NB1_0;replace BK2:=bT BK2 hk NB2_0;replace HK:=A0_ (af.trans cb hk (.inl rfl));replace HB:=A0_ (hb);replace HI0:=A0_ (hi);(try clear hb hk hi);obtain ⟨hnb3,hnc3⟩:=n2_ NB2_1;obtain ⟨hnb4,hnc4⟩:=n2_ NB2_0;have hcz2:=z5_ BK2;obtain ⟨Ao4,co4,eo4⟩:=Kd.R_slice HO_2.out;subst eo4))
  replace HO_1:=A0_ (rd_ HO_1.out);replace HO_2:=A0_ (rd_ HO_2.out);replace BK1:=A0_ (kd_ BK1.out);replace BK2:=A0_ (kd_ BK2.out);replace HI0:=A0_ (aa.drew HI0.out);replace HK:=A0_ (ci HK.out);replace HB:=A0_ (bd_ HB.out);have p1:0≤(1:Int):=bm;have q1:1<(xa.length:Int):=od_ ay;obtain ⟨ad1,e1,hx1_0⟩:=Kd.at_int (rr_ HO_2.out).2.2 1 p1 q1;cases e1
  (try simp only [show (1:Int).toNat=1 from rfl,Nat.reduceMul,Nat.reduceEqDiff,Go.Addr.add,↓reduceIte] at hx1_0)
  have qi693:(1<xa.length)=True:=eq_true bm
  (try rw [show ((1:Int)).toNat=1 from rfl] at hx1_0)
  replace p1:=eq_true p1;replace q1:=eq_true q1;have p2:0≤(0:Int):=bm;have q2:(0:Int)<((xa.length:Int):Int):=od_ ay;have qi100:(0<xa.length)=True:=eq_true bm;obtain ⟨go100,co5,eo5,gb3,gl100,cl100,HG100⟩:=Kd.R_form HO_2.out bm
  (first|cases eo5|(injection eo5 with ea_ en_ ec_;(first|subst ea_|(injection ea_ with ea_;subst ea_));subst ec_;clear en_))
  have GB100:=A0_ gb3;have GG100:=A0_ HG100;clear gb3 gl100 HG100
  (first|simp only [jr] at hx1_0|skip)
  obtain ⟨hx2_0,hf1_0⟩:=Kd.R_celln 0 HO_2.out (0:Int) p2 q2
  (try rw [show ((0:Int)).toNat=0 from rfl] at hx2_0)
  (try simp only [Nat.reduceMul,Nat.zero_mul,Nat.zero_add,Nat.reduceAdd] at hx2_0)
  (try rw [show ((0:Int)).toNat=0 from rfl] at hf1_0)
  (try simp only [Nat.reduceMul,Nat.zero_mul,Nat.zero_add,Nat.reduceAdd] at hf1_0)
  replace p2:=eq_true p2;replace q2:=eq_true q2;have HN0_go100:=A0_ (show g≠go100 from by have h_:=aa.own_ne HI0.out HO_2.out ag;intro e_;exact h_ (by rw [e_];rfl));have HP1:=Kd.R_putn HO_2.out (0:Int) (rd xa 1);rw [← Ny2.out] at HP1;have HQ107:=A0_ HP1;clear HP1
  refine dd (n:=8) (S:=fun w'=>w'.cell? ⟨gb2,0,none⟩=some (.int .i64 xd)∧w'.cell? ⟨gb2,1,none⟩=some (.bool xc)∧w'.cell? ⟨gb2,2,none⟩=some (uf)∧w'.cell? ⟨gb2,3,none⟩=some (.slice (some ⟨go100,0,none⟩) xa.length co4)∧w'.cell? ⟨gb2,4,none⟩=some (.int .i64 xe)∧w'.cell? ⟨go100,1,none⟩=some (.int .i64 (rd xa 1))) (ds:=[7]) #[false,false,false,false,false,false,false,false] aY rfl rfl (a5_ BK2 hx1_0) (fun hHeld=>?_);refine cu ah.tab16 ah.bits16 (fun HT_ HW_=>?_)
  generalize w8.drew=w9 at HO_1 HO_2 BK1 BK2 HI0 HK HB GG100 HQ107 hf1_0 hx2_0 hx1_0 hHeld ⊢
  refine pu_ 0 64 ?_
  refine pu_ 2 66 ?_
  refine tk_ 1 65 hHeld ?_
  refine tk_ 3 67 hHeld ?_
  refine pu_ 4 68 ?_
  refine tk_ 5 69 hHeld ?_
  refine pu_ 6 70 ?_
  refine iG (i:=7) (N:=none) #[true,true,true,true,true,true,true,true] rfl rfl (ft HT_.out aY) ag (fun K hK=>?_)
  refine ea (w1:=?_) (by rfl) rfl ?_ ?_
  rotate_left
  ·go_simp
   rfl
  refine hK.out _ _ ?_
  clear hK K
  refine dn_ ?_
  have n0_:Aside0 (Kd.R (Kd.int .i64) 3 (w9.setCell ⟨go100,0,none⟩ (.int .i64 (rd xa 1))) w.heap.size (fun k_=>some k_≠(.slice (some ⟨go100,0,none⟩) xa.length co4:Value).ownBlock) uf xb):=⟨by (with_reducible repeat (first|apply ra_|apply rn_|apply rd_));exact Kd.R_mono (Kd.R_far (p:=⟨go100,0,none⟩) (Kd.R_mono HO_1.out (fun k_ hk=>(⟨hk,fun e_=>hk (by rw [e_];rfl)⟩:_∧k_≠go100))) jC _) (fun _ hk=>hk.1)⟩;have n1_:Aside0 (Kd.R (Kd.int .i64) 3 (w9.setCell ⟨go100,0,none⟩ (.int .i64 (rd xa 1))) w.heap.size (fun k_=>no_ uf k_) (.slice (some ⟨go100,0,none⟩) xa.length co4) y2):=⟨by (with_reducible repeat (first|apply ra_|apply rn_|apply rd_));exact HQ107.out⟩;have n2_:Aside0 ((w9.setCell ⟨go100,0,none⟩ (.int .i64 (rd xa 1))).heap[gb1]?=some (.cells #[.int .i64 0,.bool false,.slice none 0 0,.slice none 0 0,.int .i64 0] 32 (0,0))):=⟨by (with_reducible repeat (first|apply kn_|apply kd_|apply ka_));refine dm ?_ (by have h_:=Kd.R_ne HO_2.out BK1.out ag;intro e_;exact h_ (by rw [e_];rfl)) _;(with_reducible repeat (first|apply kn_|apply kd_|apply ka_));exact BK1.out⟩;have n3_:Aside0 ((w9.setCell ⟨go100,0,none⟩ (.int .i64 (rd xa 1))).heap[gb2]?=some (.cells #[.int .i64 xd,.bool xc,uf,.slice (some ⟨go100,0,none⟩) xa.length co4,.int .i64 xe] 32 (0,0))):=⟨by (with_reducible repeat (first|apply kn_|apply kd_|apply ka_));refine dm ?_ (by have h_:=Kd.R_ne HO_2.out BK2.out ag;intro e_;exact h_ (by rw [e_];rfl)) _;(with_reducible repeat (first|apply kn_|apply kd_|apply ka_));exact BK2.out⟩;have n4_:Aside0 (aa w0 (w9.setCell ⟨go100,0,none⟩ (.int .i64 (rd xa 1))) g s0_0 t17 t18):=⟨by repeat (with_reducible first|exact HI0.out|apply aa.alloc|apply aa.drewN|apply aa.drew|apply aa.set_1|apply aa.set_2|refine aa.far ?_ HN0_go100.out _|refine aa.far ?_ NB0_1.out _|refine aa.far ?_ NB0_2.out _)⟩;have n5_:Aside0 (af w (w9.setCell ⟨go100,0,none⟩ (.int .i64 (rd xa 1))) g none):=⟨by repeat (with_reducible first|exact HK.out|apply af.set_|apply cG|apply ci|apply cH|refine bL ?_ GB100.out _|refine bL ?_ GW1.out _|refine bL ?_ GW2.out _)⟩;have n6_:Aside0 (Below w0.heap.size w0 (w9.setCell ⟨go100,0,none⟩ (.int .i64 (rd xa 1)))):=⟨by repeat (with_reducible first|exact HB.out|apply ba_|apply bn_|apply bd_|refine bs_ ?_ (Nat.le_trans HL.out GB100.out)|refine bs_ ?_ (aa.ge HI0.out)|refine bs_ ?_ GE1.out|refine bs_ ?_ GE2.out)⟩
  (try clear HO_1)
  (try clear HO_2)
  (try clear BK1)
  (try clear BK2)
  (try clear HI0)
  (try clear HK)
  (try clear HB)
  generalize (w9.setCell ⟨go100,0,none⟩ (.int .i64 (rd xa 1)))=w10 at n0_ n1_ n2_ n3_ n4_ n5_ n6_ ⊢;have HO_1:=n0_;have HO_2:=n1_;have BK1:=n2_;have BK2:=n3_;have HI0:=n4_;have HK:=n5_;have HB:=n6_;clear n0_ n1_ n2_ n3_ n4_ n5_ n6_;have hcz3:=z5_ BK2;obtain ⟨hnb5,hnc5⟩:=n2_ NB1_0;have hcz4:=z5_ BK1;obtain ⟨Ao5,co6,eo6⟩:=Kd.R_slice HO_1.out;subst eo6
  try go_wp2
  refine bodyPost_ret (results_cell_row rfl _ _ gb1 32 #[.int .i64 xd,.bool xc,.slice Ao5 xb.length co6,.slice (some ⟨go100,0,none⟩) xa.length co4,.int .i64 xe] (0,0) _ rfl (u1_ BK1) Tryz.underlying32 rfl aY) rfl ?_
  exact ⟨_,_,aE,l3,lS,bI,cJ,cb⟩
 subst c1;rw [if_pos rfl] at H;obtain ⟨⟨t16,t17,t18,t19,t20⟩,A10,H⟩:=o1_ H;obtain ⟨⟨t21,t22,t23,t24,t25,t26⟩,A12,H⟩:=o1_ H
 by_cases c2:t26=true
 case neg =>
  obtain rfl:=bf_.mpr c2;rw [if_neg ft_] at H;have H':=A0_ H;clear H;obtain ⟨Ao4,co4,eo4⟩:=Kd.R_slice HO_1.out;subst eo4;obtain ⟨Ao5,co5,eo5⟩:=Kd.R_slice HO_2.out;subst eo5
  try go_wp2
  replace HO_1:=A0_ (rd_ HO_1.out);replace HO_2:=A0_ (rd_ HO_2.out);replace BK1:=A0_ (kd_ BK1.out);replace BK2:=A0_ (kd_ BK2.out);replace HI0:=A0_ (aa.drew HI0.out);replace HK:=A0_ (ci HK.out);replace HB:=A0_ (bd_ HB.out)
  refine s5_ 11 [] BK2 ah.tab6 ah.bits6 (fun hHeld HT_ HW_=>?_)
  generalize wc.drew=w8 at HO_1 HO_2 BK1 BK2 HI0 HK HB hHeld ⊢
  refine pu_ 1 31 ?_
  refine tk_ 0 30 hHeld ?_
  refine tk_ 2 32 hHeld ?_
  refine iF (σ:=Value × Value × Nat) 2 #[true,true,true,true,true,true,true,true,true,false,false] (fun s_=>[(33,.agg #[.int .i64 t16,.int .i64 t17,.int .i64 t18]),(34,.tuple #[.agg #[.int .i64 t21,.bool t22,s_.1,s_.2.1,.int .i64 t25],.bool false]),(7,.pointer (some ⟨s_.2.2,0,none⟩)),(29,.tuple #[.agg #[.int .i64 t21,.bool t22,s_.1,s_.2.1,.int .i64 t25],.bool false]),(35,.agg #[.int .i64 t21,.bool t22,s_.1,s_.2.1,.int .i64 t25]),(36,.bool false)]) (fun s_ w'=>(w'.cell? ⟨gb2,0,none⟩=some (.int .i64 xd)∧w'.cell? ⟨gb2,1,none⟩=some (.bool xc)∧w'.cell? ⟨gb2,2,none⟩=some (.slice Ao4 xb.length co4)∧w'.cell? ⟨gb2,3,none⟩=some (.slice Ao5 xa.length co5)∧w'.cell? ⟨gb2,4,none⟩=some (.int .i64 xe))∧(Kd.R (Kd.int .i64) 3 w' w.heap.size (fun k_=>some k_≠(s_.2.1:Value).ownBlock∧no_ (.slice Ao4 xb.length co4) k_∧no_ (.slice Ao5 xa.length co5) k_) s_.1 t23)∧(Kd.R (Kd.int .i64) 3 w' w.heap.size (fun k_=>some k_≠(s_.1:Value).ownBlock∧no_ (.slice Ao4 xb.length co4) k_∧no_ (.slice Ao5 xa.length co5) k_) s_.2.1 t24)∧(Kd.R (Kd.int .i64) 3 w' w.heap.size (fun k_=>some k_≠(s_.1:Value).ownBlock∧some k_≠(s_.2.1:Value).ownBlock∧no_ (.slice Ao5 xa.length co5) k_) (.slice Ao4 xb.length co4) xb)∧(Kd.R (Kd.int .i64) 3 w' w.heap.size (fun k_=>some k_≠(s_.1:Value).ownBlock∧some k_≠(s_.2.1:Value).ownBlock∧no_ (.slice Ao4 xb.length co4) k_) (.slice Ao5 xa.length co5) xa)∧(w'.heap[gb1]?=some (.cells #[.int .i64 0,.bool false,.slice none 0 0,.slice none 0 0,.int .i64 0] 32 (0,0)))∧(w'.heap[gb2]?=some (.cells #[.int .i64 xd,.bool xc,.slice Ao4 xb.length co4,.slice Ao5 xa.length co5,.int .i64 xe] 32 (0,0)))∧(w'.heap[s_.2.2]?=some (.cells #[.int .i64 0,.bool false,.slice none 0 0,.slice none 0 0,.int .i64 0] 32 (0,0)))∧(w.heap.size≤s_.2.2)∧(w0.heap.size≤s_.2.2)∧(g≠s_.2.2)∧(s_.2.2≠g)∧(gb1≠s_.2.2)∧(s_.2.2≠gb1)∧(gb2≠s_.2.2)∧(s_.2.2≠gb2)∧(aa w0 w' g s0_0 t19 t20)∧(af w w' g none)∧(Below w0.heap.size w0 w')) ?_ ?_
  rotate_left
  ·intro hCont
   refine ig (i:=3) (j:=8) (Ni:=some 33) (Nj:=some 7) #[true,true,true,true,false,false,false,false,false,false,false] #[true,true,true,false,false,false,false,false,true,false,false] rfl rfl rfl rfl (ew HT_.out aY) ag ag (fun K hK=>?_) (fun K hK=>?_)
   ·refine gs_ Tryz.func51 #[.pointer (some ⟨g,0,none⟩),.agg #[.int .i64 xd,.bool xc,.slice Ao4 xb.length co4,.slice Ao5 xa.length co5,.int .i64 xe]] ?_
    with_reducible refine (ab.calls kj1 g s0_0 x1001_1 x1002_1 xd xc _ _ xb _ _ xa xe t16 t17 t18 t19 t20 w0 _ ?_ ?_ ?_ ?_ ?_ ?_ ?_ ?_ A10.out).mono ?_
    exact bI
    exact cJ
    exact eE
    exact (rr_ HO_1.out).2.1
    exact bW (aa.own_ne HI0.out HO_1.out ag)
    exact eD
    exact (rr_ HO_2.out).2.1
    exact bW (aa.own_ne HI0.out HO_2.out ag)
    rintro e w9 ⟨rfl,hi,hb,hk⟩
    refine ⟨_,rfl,?_⟩
    replace HO_1:=A0_ (Kd.R_mono (Kd.R_keep (aa.apart (show aa w0 _ g s0_0 x1001_1 x1002_1 from bI) br ag) hk (fun _ h=>h.2)) (fun _ h=>h.1));replace HO_2:=A0_ (Kd.R_mono (Kd.R_keep (aa.apart (show aa w0 _ g s0_0 x1001_1 x1002_1 from bI) bG ag) hk (fun _ h=>h.2)) (fun _ h=>h.1));replace BK1:=bT BK1 hk NB1_0;replace BK2:=bT BK2 hk NB2_0;replace HK:=A0_ (af.trans cb hk (.inl rfl));replace HB:=A0_ (hb);replace HI0:=A0_ (hi)
    (try clear hb hk hi)
    refine hK.out _ _ (c5_ BK2) (fun hHeld=>?_)
    clear hK K
    refine nm_ 33 ?_
    refine ig (i:=4) (j:=8) (Ni:=some 34) (Nj:=some 7) #[true,true,true,true,true,false,false,false,false,false,false] #[true,true,true,true,false,false,false,false,true,false,false] rfl rfl rfl rfl (ew HT_.out aY) ag ag (fun K hK=>?_) (fun K hK=>?_)
    ·refine gs_ Tryz.func34 #[.agg #[.int .i64 xd,.bool xc,.slice Ao4 xb.length co4,.slice Ao5 xa.length co5,.int .i64 xe],.agg #[.int .i64 t16,.int .i64 t17,.int .i64 t18]] ?_
     with_reducible refine (aK.calls kj1 xd xc _ _ xb _ _ xa xe t16 t17 t18 t21 t22 t23 t24 t25 false _ ?_ ?_ ?_ ?_ A12.out).mono ?_
     exact eE
     exact (rr_ HO_1.out).2.1
     exact eD
     exact (rr_ HO_2.out).2.1
     rintro e w10 ⟨v8,v9,rfl,ho0,ho1,hb⟩
     refine ⟨_,rfl,?_⟩
     have HO4:=A0_ (Kd.R_lower (Kd.R_new' (Kd.R_new' ho0 (Kd.R_lt br)) (Kd.R_lt bG)) (ba (w:=w) (g:=g) (row:=none) cb));have HO5:=A0_ (Kd.R_lower (Kd.R_new' (Kd.R_new' ho1 (Kd.R_lt br)) (Kd.R_lt bG)) (ba (w:=w) (g:=g) (row:=none) cb));replace HO_1:=A0_ (Kd.R_mono (Kd.R_told (Kd.R_told (Kd.R_old br hb) (Kd.R_base ho0)) (Kd.R_base ho1)) (fun _ h_=>h_.1));replace HO_2:=A0_ (Kd.R_mono (Kd.R_told (Kd.R_told (Kd.R_old bG hb) (Kd.R_base ho0)) (Kd.R_base ho1)) (fun _ h_=>h_.1));replace BK1:=k1_ BK1 hb;replace BK2:=k1_ BK2 hb;replace HK:=A0_ (af.trans cb (af.of_below hb g none) (.inl rfl));replace HB:=hb_ hb cJ;replace HI0:=A0_ (aa.below bI hb)
     (try clear hb ho0 ho1)
     refine hK.out _ _ (c5_ BK2) (fun hHeld=>?_)
     clear hK K
     refine nm_ 34 ?_
     refine pu_ 5 29 ?_
     refine pu_ 6 35 ?_
     refine pu_ 7 36 ?_
     refine on_ 8 (some 7) (fun K hK=>?_)
     refine bp_ 7 #[.int .i64 0,.bool false,.slice none 0 0,.slice none 0 0,.int .i64 0] 32 ?_
     intro gb3 hg w11 hbox hb;replace HO_1:=q1_ HO_1 hb;replace HO_2:=q1_ HO_2 hb;replace HO4:=q1_ HO4 hb;replace HO5:=q1_ HO5 hb;replace HB:=hb_ hb cJ;have BK3:=A0_ (hbox);have GW3:=A0_ ((eQ:w.heap.size≤gb3));have GE3:=A0_ ((Nat.le_trans HW0.out (eQ:w.heap.size≤gb3):w0.heap.size≤gb3));replace HK:=A0_ (af.trans cb (af.of_below hb g none) (.inl rfl));obtain ⟨NB1_3,NB3_1⟩:=nn_ hg BK1;replace BK1:=k1_ BK1 hb;obtain ⟨NB2_3,NB3_2⟩:=nn_ hg BK2;replace BK2:=k1_ BK2 hb;have NB0_3:=A0_ ((kS:g≠gb3));have NB3_0:=A0_ ((kL:gb3≠g));replace HI0:=A0_ (aa.below bI hb);clear hb hbox hg
     refine hK.out _ _ (c5_ BK2) (fun hHeld=>?_)
     clear hK K
     refine nm_ 7 ?_
     exact dN dZ (hCont (v8,v9,gb3) _ ⟨hHeld,gg,jo,gh,f9,(u1_ BK1),(u1_ BK2),(u1_ BK3),GW3.out,GE3.out,NB0_3.out,NB3_0.out,NB1_3.out,NB3_1.out,NB2_3.out,NB3_2.out,bN,bZ,ct⟩)
    refine bp_ 7 #[.int .i64 0,.bool false,.slice none 0 0,.slice none 0 0,.int .i64 0] 32 ?_
    intro gb3 hg w10 hbox hb;replace HO_1:=q1_ HO_1 hb;replace HO_2:=q1_ HO_2 hb;replace HB:=hb_ hb cJ;have BK3:=A0_ (hbox);have GW3:=A0_ ((eQ:w.heap.size≤gb3));have GE3:=A0_ ((Nat.le_trans HW0.out (eQ:w.heap.size≤gb3):w0.heap.size≤gb3));replace HK:=A0_ (af.trans cb (af.of_below hb g none) (.inl rfl));obtain ⟨NB1_3,NB3_1⟩:=nn_ hg BK1;replace BK1:=k1_ BK1 hb;obtain ⟨NB2_3,NB3_2⟩:=nn_ hg BK2;replace BK2:=k1_ BK2 hb;have NB0_3:=A0_ ((kS:g≠gb3));have NB3_0:=A0_ ((kL:gb3≠g));replace HI0:=A0_ (aa.below bI hb);clear hb hbox hg
    refine hK.out _ _ (c5_ BK2) (fun hHeld=>?_)
    clear hK K
    refine nm_ 7 ?_
    refine on_ 4 (some 34) (fun K hK=>?_)
    refine gs_ Tryz.func34 #[.agg #[.int .i64 xd,.bool xc,.slice Ao4 xb.length co4,.slice Ao5 xa.length co5,.int .i64 xe],.agg #[.int .i64 t16,.int .i64 t17,.int .i64 t18]] ?_
    with_reducible refine (aK.calls kj1 xd xc _ _ xb _ _ xa xe t16 t17 t18 t21 t22 t23 t24 t25 false _ ?_ ?_ ?_ ?_ A12.out).mono ?_
    exact eE
    exact (rr_ HO_1.out).2.1
    exact eD
    exact (rr_ HO_2.out).2.1
    rintro e w11 ⟨v8,v9,rfl,ho0,ho1,hb⟩
    refine ⟨_,rfl,?_⟩
    have HO4:=A0_ (Kd.R_lower (Kd.R_new' (Kd.R_new' ho0 (Kd.R_lt br)) (Kd.R_lt bG)) (ba (w:=w) (g:=g) (row:=none) bZ));have HO5:=A0_ (Kd.R_lower (Kd.R_new' (Kd.R_new' ho1 (Kd.R_lt br)) (Kd.R_lt bG)) (ba (w:=w) (g:=g) (row:=none) bZ));replace HO_1:=A0_ (Kd.R_mono (Kd.R_told (Kd.R_told (Kd.R_old br hb) (Kd.R_base ho0)) (Kd.R_base ho1)) (fun _ h_=>h_.1));replace HO_2:=A0_ (Kd.R_mono (Kd.R_told (Kd.R_told (Kd.R_old bG hb) (Kd.R_base ho0)) (Kd.R_base ho1)) (fun _ h_=>h_.1));replace BK1:=k1_ BK1 hb;replace BK2:=k1_ BK2 hb;replace BK3:=k1_ BK3 hb;replace HK:=A0_ (af.trans bZ (af.of_below hb g none) (.inl rfl));replace HB:=hb_ hb ct;replace HI0:=A0_ (aa.below bN hb)
    (try clear hb ho0 ho1)
    refine hK.out _ _ (c5_ BK2) (fun hHeld=>?_)
    clear hK K
    refine nm_ 34 ?_
    refine pu_ 5 29 ?_
    refine pu_ 6 35 ?_
    refine pu_ 7 36 ?_
    exact dN dZ (hCont (v8,v9,gb3) _ ⟨hHeld,gg,jo,gh,f9,(u1_ BK1),(u1_ BK2),(u1_ BK3),GW3.out,GE3.out,NB0_3.out,NB3_0.out,NB1_3.out,NB3_1.out,NB2_3.out,NB3_2.out,bN,bZ,ct⟩)
   refine bp_ 7 #[.int .i64 0,.bool false,.slice none 0 0,.slice none 0 0,.int .i64 0] 32 ?_
   intro gb3 hg w9 hbox hb;replace HO_1:=q1_ HO_1 hb;replace HO_2:=q1_ HO_2 hb;replace HB:=hb_ hb cJ;have BK3:=A0_ (hbox);have GW3:=A0_ ((eQ:w.heap.size≤gb3));have GE3:=A0_ ((Nat.le_trans HW0.out (eQ:w.heap.size≤gb3):w0.heap.size≤gb3));replace HK:=A0_ (af.trans cb (af.of_below hb g none) (.inl rfl));obtain ⟨NB1_3,NB3_1⟩:=nn_ hg BK1;replace BK1:=k1_ BK1 hb;obtain ⟨NB2_3,NB3_2⟩:=nn_ hg BK2;replace BK2:=k1_ BK2 hb;have NB0_3:=A0_ ((mQ:g≠gb3));have NB3_0:=A0_ ((ob:gb3≠g));replace HI0:=A0_ (aa.below bI hb);clear hb hbox hg
   refine hK.out _ _ (c5_ BK2) (fun hHeld=>?_)
   clear hK K
   refine nm_ 7 ?_
   refine on_ 3 (some 33) (fun K hK=>?_)
   refine gs_ Tryz.func51 #[.pointer (some ⟨g,0,none⟩),.agg #[.int .i64 xd,.bool xc,.slice Ao4 xb.length co4,.slice Ao5 xa.length co5,.int .i64 xe]] ?_
   with_reducible refine (ab.calls kj1 g s0_0 x1001_1 x1002_1 xd xc _ _ xb _ _ xa xe t16 t17 t18 t19 t20 w0 _ ?_ ?_ ?_ ?_ ?_ ?_ ?_ ?_ A10.out).mono ?_
   exact bN
   exact ct
   exact eE
   exact (rr_ HO_1.out).2.1
   exact bW (aa.own_ne HI0.out HO_1.out ag)
   exact eD
   exact (rr_ HO_2.out).2.1
   exact bW (aa.own_ne HI0.out HO_2.out ag)
   rintro e w10 ⟨rfl,hi,hb,hk⟩
   refine ⟨_,rfl,?_⟩
   replace HO_1:=A0_ (Kd.R_mono (Kd.R_keep (aa.apart (show aa w0 _ g s0_0 x1001_1 x1002_1 from bN) br ag) hk (fun _ h=>h.2)) (fun _ h=>h.1));replace HO_2:=A0_ (Kd.R_mono (Kd.R_keep (aa.apart (show aa w0 _ g s0_0 x1001_1 x1002_1 from bN) bG ag) hk (fun _ h=>h.2)) (fun _ h=>h.1));replace BK1:=bT BK1 hk NB1_0;replace BK2:=bT BK2 hk NB2_0;replace BK3:=bT BK3 hk NB3_0;replace HK:=A0_ (af.trans bZ hk (.inl rfl));replace HB:=A0_ (hb);replace HI0:=A0_ (hi)
   (try clear hb hk hi)
   refine hK.out _ _ (c5_ BK2) (fun hHeld=>?_)
   clear hK K
   refine nm_ 33 ?_
   refine on_ 4 (some 34) (fun K hK=>?_)
   refine gs_ Tryz.func34 #[.agg #[.int .i64 xd,.bool xc,.slice Ao4 xb.length co4,.slice Ao5 xa.length co5,.int .i64 xe],.agg #[.int .i64 t16,.int .i64 t17,.int .i64 t18]] ?_
   with_reducible refine (aK.calls kj1 xd xc _ _ xb _ _ xa xe t16 t17 t18 t21 t22 t23 t24 t25 false _ ?_ ?_ ?_ ?_ A12.out).mono ?_
   exact eE
   exact (rr_ HO_1.out).2.1
   exact eD
   exact (rr_ HO_2.out).2.1
   rintro e w11 ⟨v8,v9,rfl,ho0,ho1,hb⟩
   refine ⟨_,rfl,?_⟩
   have HO4:=A0_ (Kd.R_lower (Kd.R_new' (Kd.R_new' ho0 (Kd.R_lt br)) (Kd.R_lt bG)) (ba (w:=w) (g:=g) (row:=none) bZ));have HO5:=A0_ (Kd.R_lower (Kd.R_new' (Kd.R_new' ho1 (Kd.R_lt br)) (Kd.R_lt bG)) (ba (w:=w) (g:=g) (row:=none) bZ));replace HO_1:=A0_ (Kd.R_mono (Kd.R_told (Kd.R_told (Kd.R_old br hb) (Kd.R_base ho0)) (Kd.R_base ho1)) (fun _ h_=>h_.1));replace HO_2:=A0_ (Kd.R_mono (Kd.R_told (Kd.R_told (Kd.R_old bG hb) (Kd.R_base ho0)) (Kd.R_base ho1)) (fun _ h_=>h_.1));replace BK1:=k1_ BK1 hb;replace BK2:=k1_ BK2 hb;replace BK3:=k1_ BK3 hb;replace HK:=A0_ (af.trans bZ (af.of_below hb g none) (.inl rfl));replace HB:=hb_ hb ct;replace HI0:=A0_ (aa.below bN hb)
   (try clear hb ho0 ho1)
   refine hK.out _ _ (c5_ BK2) (fun hHeld=>?_)
   clear hK K
   refine nm_ 34 ?_
   refine pu_ 5 29 ?_
   refine pu_ 6 35 ?_
   refine pu_ 7 36 ?_
   exact dN dZ (hCont (v8,v9,gb3) _ ⟨hHeld,gg,jo,gh,f9,(u1_ BK1),(u1_ BK2),(u1_ BK3),GW3.out,GE3.out,NB0_3.out,NB3_0.out,NB1_3.out,NB3_1.out,NB2_3.out,NB3_2.out,bN,bZ,ct⟩)
  rintro ⟨v8,v9,gb3⟩ w9 ⟨hS_,h0_,h1_,h2_,h3_,h4_,h5_,h6_,h7_,h8_,h9_,h10_,h11_,h12_,h13_,h14_,h15_,h16_,h17_⟩
  try dsimp only at h0_ h1_ h2_ h3_ h4_ h5_ h6_ h7_ h8_ h9_ h10_ h11_ h12_ h13_ h14_ h15_ h16_ h17_
  have HO4:=A0_ h0_;have HO5:=A0_ h1_;replace HO_1:=A0_ h2_;replace HO_2:=A0_ h3_;replace BK1:=A0_ h4_;replace BK2:=A0_ h5_;have BK3:=A0_ h6_;have GW3:=A0_ h7_;have GE3:=A0_ h8_;have NB0_3:=A0_ h9_;have NB3_0:=A0_ h10_;have NB1_3:=A0_ h11_;have NB3_1:=A0_ h12_;have NB2_3:=A0_ h13_;have NB3_2:=A0_ h14_;replace HI0:=A0_ h15_;replace HK:=A0_ h16_;replace HB:=A0_ h17_;clear h0_ h1_ h2_ h3_ h4_ h5_ h6_ h7_ h8_ h9_ h10_ h11_ h12_ h13_ h14_ h15_ h16_ h17_;have hHeld:w9.cell? ⟨gb2,0,none⟩=some (.int .i64 xd)∧w9.cell? ⟨gb2,1,none⟩=some (.bool xc)∧w9.cell? ⟨gb2,2,none⟩=some (.slice Ao4 xb.length co4)∧w9.cell? ⟨gb2,3,none⟩=some (.slice Ao5 xa.length co5)∧w9.cell? ⟨gb2,4,none⟩=some (.int .i64 xe):=hS_;obtain ⟨Ao6,co6,eo6⟩:=Kd.R_slice HO4.out
  (first|subst eo6|(injection eo6 with f1_ f2_ f3_;have f4_:=f1_.symm;have f5_:=f3_.symm;clear f1_ f2_ f3_;subst f4_;subst f5_))
  obtain ⟨Ao7,co7,eo7⟩:=Kd.R_slice HO5.out
  (first|subst eo7|(injection eo7 with f1_ f2_ f3_;have f4_:=f1_.symm;have f5_:=f3_.symm;clear f1_ f2_ f3_;subst f4_;subst f5_))
  refine nq_ ?_
  refine on_ 9 none (fun K hK=>?_)
  have hs54:=y_ BK3 0;have hfs54:=kf_ BK3.out 0;have hns1_0:=NB1_3.out;have hns1_1:=NB2_3.out;have hms1_0:=NB3_1.out;have hms1_1:=NB3_2.out;have hs55:=y_ BK3 1;have hfs55:=kf_ BK3.out 1;have hns2_0:=NB1_3.out;have hns2_1:=NB2_3.out;have hms2_0:=NB3_1.out;have hms2_1:=NB3_2.out;have hs57:=y_ BK3 2;have hfs57:=kf_ BK3.out 2;have hns3_0:=NB1_3.out;have hns3_1:=NB2_3.out;have hms3_0:=NB3_1.out;have hms3_1:=NB3_2.out;have hs59:=y_ BK3 3;have hfs59:=kf_ BK3.out 3;have hns4_0:=NB1_3.out;have hns4_1:=NB2_3.out;have hms4_0:=NB3_1.out;have hms4_1:=NB3_2.out;have hs60:=y_ BK3 4;have hfs60:=kf_ BK3.out 4;have hns5_0:=NB1_3.out;have hns5_1:=NB2_3.out;have hms5_0:=NB3_1.out;have hms5_1:=NB3_2.out
  refine ea (w1:=?_) (by rfl) rfl ?_ ?_
  rotate_left
  ·go_simp
   rfl
  refine hK.out _ _ ⟨((ae (p:=⟨gb3,_,none⟩) NB2_3.out _).trans (((ae (p:=⟨gb3,_,none⟩) NB2_3.out _).trans (((ae (p:=⟨gb3,_,none⟩) NB2_3.out _).trans (((ae (p:=⟨gb3,_,none⟩) NB2_3.out _).trans (((ae (p:=⟨gb3,_,none⟩) NB2_3.out _).trans (hHeld.1)))))))))),((ae (p:=⟨gb3,_,none⟩) NB2_3.out _).trans (((ae (p:=⟨gb3,_,none⟩) NB2_3.out _).trans (((ae (p:=⟨gb3,_,none⟩) NB2_3.out _).trans (((ae (p:=⟨gb3,_,none⟩) NB2_3.out _).trans (((ae (p:=⟨gb3,_,none⟩) NB2_3.out _).trans (hHeld.2.1)))))))))),((ae (p:=⟨gb3,_,none⟩) NB2_3.out _).trans (((ae (p:=⟨gb3,_,none⟩) NB2_3.out _).trans (((ae (p:=⟨gb3,_,none⟩) NB2_3.out _).trans (((ae (p:=⟨gb3,_,none⟩) NB2_3.out _).trans (((ae (p:=⟨gb3,_,none⟩) NB2_3.out _).trans (hHeld.2.2.1)))))))))),((ae (p:=⟨gb3,_,none⟩) NB2_3.out _).trans (((ae (p:=⟨gb3,_,none⟩) NB2_3.out _).trans (((ae (p:=⟨gb3,_,none⟩) NB2_3.out _).trans (((ae (p:=⟨gb3,_,none⟩) NB2_3.out _).trans (((ae (p:=⟨gb3,_,none⟩) NB2_3.out _).trans (hHeld.2.2.2.1)))))))))),((ae (p:=⟨gb3,_,none⟩) NB2_3.out _).trans (((ae (p:=⟨gb3,_,none⟩) NB2_3.out _).trans (((ae (p:=⟨gb3,_,none⟩) NB2_3.out _).trans (((ae (p:=⟨gb3,_,none⟩) NB2_3.out _).trans (((ae (p:=⟨gb3,_,none⟩) NB2_3.out _).trans (hHeld.2.2.2.2))))))))))⟩ (fun hHeld=>?_)
  clear hK K
  refine pu_ 10 8 ?_
  refine dn_ ?_
  try go_wp2
  go_roundg kj1
  case measure=>have:=HK1.out;have:=HJ1.out;omega
  exact ⟨(wrap64 (x6_1 - 1)),(t19),(t20),(xd),(xc),(xb),(xa),(xe),(.slice Ao4 xb.length co4),(.slice Ao5 xa.length co5),aX,H',⟨iA⟩,⟨by (with_reducible repeat (first|apply ra_|apply rn_|apply rd_));exact Kd.R_mono (bw (Kd.R_types HO_1.out BK3.out ag)) (fun _ hk=>hk.1.2.2)⟩,⟨by (with_reducible repeat (first|apply ra_|apply rn_|apply rd_));exact Kd.R_mono (bw (Kd.R_types HO_2.out BK3.out ag)) (fun _ hk=>hk.1.2.2)⟩,⟨u1_ BK1⟩,⟨u1_ BK2⟩,⟨bN⟩,⟨bZ⟩,⟨ct⟩⟩
 subst c2;rw [if_pos rfl] at H;have H':=A0_ H;clear H;obtain ⟨Ao4,co4,eo4⟩:=Kd.R_slice HO_1.out;subst eo4;obtain ⟨Ao5,co5,eo5⟩:=Kd.R_slice HO_2.out;subst eo5
 try go_wp2
 replace HO_1:=A0_ (rd_ HO_1.out);replace HO_2:=A0_ (rd_ HO_2.out);replace BK1:=A0_ (kd_ BK1.out);replace BK2:=A0_ (kd_ BK2.out);replace HI0:=A0_ (aa.drew HI0.out);replace HK:=A0_ (ci HK.out);replace HB:=A0_ (bd_ HB.out)
 refine s5_ 11 [] BK2 ah.tab6 ah.bits6 (fun hHeld HT_ HW_=>?_)
 generalize wc.drew=w8 at HO_1 HO_2 BK1 BK2 HI0 HK HB hHeld ⊢
 refine pu_ 1 31 ?_
 refine tk_ 0 30 hHeld ?_
 refine tk_ 2 32 hHeld ?_
 refine iF (σ:=Value × Value × Nat) 2 #[true,true,true,true,true,true,true,true,true,false,false] (fun s_=>[(33,.agg #[.int .i64 t16,.int .i64 t17,.int .i64 t18]),(34,.tuple #[.agg #[.int .i64 t21,.bool t22,s_.1,s_.2.1,.int .i64 t25],.bool true]),(7,.pointer (some ⟨s_.2.2,0,none⟩)),(29,.tuple #[.agg #[.int .i64 t21,.bool t22,s_.1,s_.2.1,.int .i64 t25],.bool true]),(35,.agg #[.int .i64 t21,.bool t22,s_.1,s_.2.1,.int .i64 t25]),(36,.bool true)]) (fun s_ w'=>(w'.cell? ⟨gb2,0,none⟩=some (.int .i64 xd)∧w'.cell? ⟨gb2,1,none⟩=some (.bool xc)∧w'.cell? ⟨gb2,2,none⟩=some (.slice Ao4 xb.length co4)∧w'.cell? ⟨gb2,3,none⟩=some (.slice Ao5 xa.length co5)∧w'.cell? ⟨gb2,4,none⟩=some (.int .i64 xe))∧(Kd.R (Kd.int .i64) 3 w' w.heap.size (fun k_=>some k_≠(s_.2.1:Value).ownBlock∧no_ (.slice Ao4 xb.length co4) k_∧no_ (.slice Ao5 xa.length co5) k_) s_.1 t23)∧(Kd.R (Kd.int .i64) 3 w' w.heap.size (fun k_=>some k_≠(s_.1:Value).ownBlock∧no_ (.slice Ao4 xb.length co4) k_∧no_ (.slice Ao5 xa.length co5) k_) s_.2.1 t24)∧(Kd.R (Kd.int .i64) 3 w' w.heap.size (fun k_=>some k_≠(s_.1:Value).ownBlock∧some k_≠(s_.2.1:Value).ownBlock∧no_ (.slice Ao5 xa.length co5) k_) (.slice Ao4 xb.length co4) xb)∧(Kd.R (Kd.int .i64) 3 w' w.heap.size (fun k_=>some k_≠(s_.1:Value).ownBlock∧some k_≠(s_.2.1:Value).ownBlock∧no_ (.slice Ao4 xb.length co4) k_) (.slice Ao5 xa.length co5) xa)∧(w'.heap[gb1]?=some (.cells #[.int .i64 0,.bool false,.slice none 0 0,.slice none 0 0,.int .i64 0] 32 (0,0)))∧(w'.heap[gb2]?=some (.cells #[.int .i64 xd,.bool xc,.slice Ao4 xb.length co4,.slice Ao5 xa.length co5,.int .i64 xe] 32 (0,0)))∧(w'.heap[s_.2.2]?=some (.cells #[.int .i64 0,.bool false,.slice none 0 0,.slice none 0 0,.int .i64 0] 32 (0,0)))∧(w.heap.size≤s_.2.2)∧(w0.heap.size≤s_.2.2)∧(g≠s_.2.2)∧(s_.2.2≠g)∧(gb1≠s_.2.2)∧(s_.2.2≠gb1)∧(gb2≠s_.2.2)∧(s_.2.2≠gb2)∧(aa w0 w' g s0_0 t19 t20)∧(af w w' g none)∧(Below w0.heap.size w0 w')) ?_ ?_
 rotate_left
 ·intro hCont
  refine ig (i:=3) (j:=8) (Ni:=some 33) (Nj:=some 7) #[true,true,true,true,false,false,false,false,false,false,false] #[true,true,true,false,false,false,false,false,true,false,false] rfl rfl rfl rfl (ew HT_.out aY) ag ag (fun K hK=>?_) (fun K hK=>?_)
  ·refine gs_ Tryz.func51 #[.pointer (some ⟨g,0,none⟩),.agg #[.int .i64 xd,.bool xc,.slice Ao4 xb.length co4,.slice Ao5 xa.length co5,.int .i64 xe]] ?_
   with_reducible refine (ab.calls kj1 g s0_0 x1001_1 x1002_1 xd xc _ _ xb _ _ xa xe t16 t17 t18 t19 t20 w0 _ ?_ ?_ ?_ ?_ ?_ ?_ ?_ ?_ A10.out).mono ?_
   exact bI
   exact cJ
   exact eE
   exact (rr_ HO_1.out).2.1
   exact bW (aa.own_ne HI0.out HO_1.out ag)
   exact eD
   exact (rr_ HO_2.out).2.1
   exact bW (aa.own_ne HI0.out HO_2.out ag)
   rintro e w9 ⟨rfl,hi,hb,hk⟩
   refine ⟨_,rfl,?_⟩
   replace HO_1:=A0_ (Kd.R_mono (Kd.R_keep (aa.apart (show aa w0 _ g s0_0 x1001_1 x1002_1 from bI) br ag) hk (fun _ h=>h.2)) (fun _ h=>h.1));replace HO_2:=A0_ (Kd.R_mono (Kd.R_keep (aa.apart (show aa w0 _ g s0_0 x1001_1 x1002_1 from bI) bG ag) hk (fun _ h=>h.2)) (fun _ h=>h.1));replace BK1:=bT BK1 hk NB1_0;replace BK2:=bT BK2 hk NB2_0;replace HK:=A0_ (af.trans cb hk (.inl rfl));replace HB:=A0_ (hb);replace HI0:=A0_ (hi)
   (try clear hb hk hi)
   refine hK.out _ _ (c5_ BK2) (fun hHeld=>?_)
   clear hK K
   refine nm_ 33 ?_
   refine ig (i:=4) (j:=8) (Ni:=some 34) (Nj:=some 7) #[true,true,true,true,true,false,false,false,false,false,false] #[true,true,true,true,false,false,false,false,true,false,false] rfl rfl rfl rfl (ew HT_.out aY) ag ag (fun K hK=>?_) (fun K hK=>?_)
   ·refine gs_ Tryz.func34 #[.agg #[.int .i64 xd,.bool xc,.slice Ao4 xb.length co4,.slice Ao5 xa.length co5,.int .i64 xe],.agg #[.int .i64 t16,.int .i64 t17,.int .i64 t18]] ?_
    with_reducible refine (aK.calls kj1 xd xc _ _ xb _ _ xa xe t16 t17 t18 t21 t22 t23 t24 t25 true _ ?_ ?_ ?_ ?_ A12.out).mono ?_
    exact eE
    exact (rr_ HO_1.out).2.1
    exact eD
    exact (rr_ HO_2.out).2.1
    rintro e w10 ⟨v8,v9,rfl,ho0,ho1,hb⟩
    refine ⟨_,rfl,?_⟩
    have HO4:=A0_ (Kd.R_lower (Kd.R_new' (Kd.R_new' ho0 (Kd.R_lt br)) (Kd.R_lt bG)) (ba (w:=w) (g:=g) (row:=none) cb));have HO5:=A0_ (Kd.R_lower (Kd.R_new' (Kd.R_new' ho1 (Kd.R_lt br)) (Kd.R_lt bG)) (ba (w:=w) (g:=g) (row:=none) cb));replace HO_1:=A0_ (Kd.R_mono (Kd.R_told (Kd.R_told (Kd.R_old br hb) (Kd.R_base ho0)) (Kd.R_base ho1)) (fun _ h_=>h_.1));replace HO_2:=A0_ (Kd.R_mono (Kd.R_told (Kd.R_told (Kd.R_old bG hb) (Kd.R_base ho0)) (Kd.R_base ho1)) (fun _ h_=>h_.1));replace BK1:=k1_ BK1 hb;replace BK2:=k1_ BK2 hb;replace HK:=A0_ (af.trans cb (af.of_below hb g none) (.inl rfl));replace HB:=hb_ hb cJ;replace HI0:=A0_ (aa.below bI hb)
    (try clear hb ho0 ho1)
    refine hK.out _ _ (c5_ BK2) (fun hHeld=>?_)
    clear hK K
    refine nm_ 34 ?_
    refine pu_ 5 29 ?_
    refine pu_ 6 35 ?_
    refine pu_ 7 36 ?_
    refine on_ 8 (some 7) (fun K hK=>?_)
    refine bp_ 7 #[.int .i64 0,.bool false,.slice none 0 0,.slice none 0 0,.int .i64 0] 32 ?_
    intro gb3 hg w11 hbox hb;replace HO_1:=q1_ HO_1 hb;replace HO_2:=q1_ HO_2 hb;replace HO4:=q1_ HO4 hb;replace HO5:=q1_ HO5 hb;replace HB:=hb_ hb cJ;have BK3:=A0_ (hbox);have GW3:=A0_ ((eQ:w.heap.size≤gb3));have GE3:=A0_ ((Nat.le_trans HW0.out (eQ:w.heap.size≤gb3):w0.heap.size≤gb3));replace HK:=A0_ (af.trans cb (af.of_below hb g none) (.inl rfl));obtain ⟨NB1_3,NB3_1⟩:=nn_ hg BK1;replace BK1:=k1_ BK1 hb;obtain ⟨NB2_3,NB3_2⟩:=nn_ hg BK2;replace BK2:=k1_ BK2 hb;have NB0_3:=A0_ ((kS:g≠gb3));have NB3_0:=A0_ ((kL:gb3≠g));replace HI0:=A0_ (aa.below bI hb);clear hb hbox hg
    refine hK.out _ _ (c5_ BK2) (fun hHeld=>?_)
    clear hK K
    refine nm_ 7 ?_
    exact dN dZ (hCont (v8,v9,gb3) _ ⟨hHeld,gg,jo,gh,f9,(u1_ BK1),(u1_ BK2),(u1_ BK3),GW3.out,GE3.out,NB0_3.out,NB3_0.out,NB1_3.out,NB3_1.out,NB2_3.out,NB3_2.out,bN,bZ,ct⟩)
   refine bp_ 7 #[.int .i64 0,.bool false,.slice none 0 0,.slice none 0 0,.int .i64 0] 32 ?_
   intro gb3 hg w10 hbox hb;replace HO_1:=q1_ HO_1 hb;replace HO_2:=q1_ HO_2 hb;replace HB:=hb_ hb cJ;have BK3:=A0_ (hbox);have GW3:=A0_ ((eQ:w.heap.size≤gb3));have GE3:=A0_ ((Nat.le_trans HW0.out (eQ:w.heap.size≤gb3):w0.heap.size≤gb3));replace HK:=A0_ (af.trans cb (af.of_below hb g none) (.inl rfl));obtain ⟨NB1_3,NB3_1⟩:=nn_ hg BK1;replace BK1:=k1_ BK1 hb;obtain ⟨NB2_3,NB3_2⟩:=nn_ hg BK2;replace BK2:=k1_ BK2 hb;have NB0_3:=A0_ ((kS:g≠gb3));have NB3_0:=A0_ ((kL:gb3≠g));replace HI0:=A0_ (aa.below bI hb);clear hb hbox hg
   refine hK.out _ _ (c5_ BK2) (fun hHeld=>?_)
   clear hK K
   refine nm_ 7 ?_
   refine on_ 4 (some 34) (fun K hK=>?_)
   refine gs_ Tryz.func34 #[.agg #[.int .i64 xd,.bool xc,.slice Ao4 xb.length co4,.slice Ao5 xa.length co5,.int .i64 xe],.agg #[.int .i64 t16,.int .i64 t17,.int .i64 t18]] ?_
   with_reducible refine (aK.calls kj1 xd xc _ _ xb _ _ xa xe t16 t17 t18 t21 t22 t23 t24 t25 true _ ?_ ?_ ?_ ?_ A12.out).mono ?_
   exact eE
   exact (rr_ HO_1.out).2.1
   exact eD
   exact (rr_ HO_2.out).2.1
   rintro e w11 ⟨v8,v9,rfl,ho0,ho1,hb⟩
   refine ⟨_,rfl,?_⟩
   have HO4:=A0_ (Kd.R_lower (Kd.R_new' (Kd.R_new' ho0 (Kd.R_lt br)) (Kd.R_lt bG)) (ba (w:=w) (g:=g) (row:=none) bZ));have HO5:=A0_ (Kd.R_lower (Kd.R_new' (Kd.R_new' ho1 (Kd.R_lt br)) (Kd.R_lt bG)) (ba (w:=w) (g:=g) (row:=none) bZ));replace HO_1:=A0_ (Kd.R_mono (Kd.R_told (Kd.R_told (Kd.R_old br hb) (Kd.R_base ho0)) (Kd.R_base ho1)) (fun _ h_=>h_.1));replace HO_2:=A0_ (Kd.R_mono (Kd.R_told (Kd.R_told (Kd.R_old bG hb) (Kd.R_base ho0)) (Kd.R_base ho1)) (fun _ h_=>h_.1));replace BK1:=k1_ BK1 hb;replace BK2:=k1_ BK2 hb;replace BK3:=k1_ BK3 hb;replace HK:=A0_ (af.trans bZ (af.of_below hb g none) (.inl rfl));replace HB:=hb_ hb ct;replace HI0:=A0_ (aa.below bN hb)
   (try clear hb ho0 ho1)
   refine hK.out _ _ (c5_ BK2) (fun hHeld=>?_)
   clear hK K
   refine nm_ 34 ?_
   refine pu_ 5 29 ?_
   refine pu_ 6 35 ?_
   refine pu_ 7 36 ?_
   exact dN dZ (hCont (v8,v9,gb3) _ ⟨hHeld,gg,jo,gh,f9,(u1_ BK1),(u1_ BK2),(u1_ BK3),GW3.out,GE3.out,NB0_3.out,NB3_0.out,NB1_3.out,NB3_1.out,NB2_3.out,NB3_2.out,bN,bZ,ct⟩)
  refine bp_ 7 #[.int .i64 0,.bool false,.slice none 0 0,.slice none 0 0,.int .i64 0] 32 ?_
  intro gb3 hg w9 hbox hb;replace HO_1:=q1_ HO_1 hb;replace HO_2:=q1_ HO_2 hb;replace HB:=hb_ hb cJ;have BK3:=A0_ (hbox);have GW3:=A0_ ((eQ:w.heap.size≤gb3));have GE3:=A0_ ((Nat.le_trans HW0.out (eQ:w.heap.size≤gb3):w0.heap.size≤gb3));replace HK:=A0_ (af.trans cb (af.of_below hb g none) (.inl rfl));obtain ⟨NB1_3,NB3_1⟩:=nn_ hg BK1;replace BK1:=k1_ BK1 hb;obtain ⟨NB2_3,NB3_2⟩:=nn_ hg BK2;replace BK2:=k1_ BK2 hb;have NB0_3:=A0_ ((mQ:g≠gb3));have NB3_0:=A0_ ((ob:gb3≠g));replace HI0:=A0_ (aa.below bI hb);clear hb hbox hg
  refine hK.out _ _ (c5_ BK2) (fun hHeld=>?_)
  clear hK K
  refine nm_ 7 ?_
  refine on_ 3 (some 33) (fun K hK=>?_)
  refine gs_ Tryz.func51 #[.pointer (some ⟨g,0,none⟩),.agg #[.int .i64 xd,.bool xc,.slice Ao4 xb.length co4,.slice Ao5 xa.length co5,.int .i64 xe]] ?_
  with_reducible refine (ab.calls kj1 g s0_0 x1001_1 x1002_1 xd xc _ _ xb _ _ xa xe t16 t17 t18 t19 t20 w0 _ ?_ ?_ ?_ ?_ ?_ ?_ ?_ ?_ A10.out).mono ?_
  exact bN
  exact ct
  exact eE
  exact (rr_ HO_1.out).2.1
  exact bW (aa.own_ne HI0.out HO_1.out ag)
  exact eD
  exact (rr_ HO_2.out).2.1
  exact bW (aa.own_ne HI0.out HO_2.out ag)
  rintro e w10 ⟨rfl,hi,hb,hk⟩
  refine ⟨_,rfl,?_⟩
  replace HO_1:=A0_ (Kd.R_mono (Kd.R_keep (aa.apart (show aa w0 _ g s0_0 x1001_1 x1002_1 from bN) br ag) hk (fun _ h=>h.2)) (fun _ h=>h.1));replace HO_2:=A0_ (Kd.R_mono (Kd.R_keep (aa.apart (show aa w0 _ g s0_0 x1001_1 x1002_1 from bN) bG ag) hk (fun _ h=>h.2)) (fun _ h=>h.1));replace BK1:=bT BK1 hk NB1_0;replace BK2:=bT BK2 hk NB2_0;replace BK3:=bT BK3 hk NB3_0;replace HK:=A0_ (af.trans bZ hk (.inl rfl));replace HB:=A0_ (hb);replace HI0:=A0_ (hi)
  (try clear hb hk hi)
  refine hK.out _ _ (c5_ BK2) (fun hHeld=>?_)
  clear hK K
  refine nm_ 33 ?_
  refine on_ 4 (some 34) (fun K hK=>?_)
  refine gs_ Tryz.func34 #[.agg #[.int .i64 xd,.bool xc,.slice Ao4 xb.length co4,.slice Ao5 xa.length co5,.int .i64 xe],.agg #[.int .i64 t16,.int .i64 t17,.int .i64 t18]] ?_
  with_reducible refine (aK.calls kj1 xd xc _ _ xb _ _ xa xe t16 t17 t18 t21 t22 t23 t24 t25 true _ ?_ ?_ ?_ ?_ A12.out).mono ?_
  exact eE
  exact (rr_ HO_1.out).2.1
  exact eD
  exact (rr_ HO_2.out).2.1
  rintro e w11 ⟨v8,v9,rfl,ho0,ho1,hb⟩
  refine ⟨_,rfl,?_⟩
  have HO4:=A0_ (Kd.R_lower (Kd.R_new' (Kd.R_new' ho0 (Kd.R_lt br)) (Kd.R_lt bG)) (ba (w:=w) (g:=g) (row:=none) bZ));have HO5:=A0_ (Kd.R_lower (Kd.R_new' (Kd.R_new' ho1 (Kd.R_lt br)) (Kd.R_lt bG)) (ba (w:=w) (g:=g) (row:=none) bZ));replace HO_1:=A0_ (Kd.R_mono (Kd.R_told (Kd.R_told (Kd.R_old br hb) (Kd.R_base ho0)) (Kd.R_base ho1)) (fun _ h_=>h_.1));replace HO_2:=A0_ (Kd.R_mono (Kd.R_told (Kd.R_told (Kd.R_old bG hb) (Kd.R_base ho0)) (Kd.R_base ho1)) (fun _ h_=>h_.1));replace BK1:=k1_ BK1 hb;replace BK2:=k1_ BK2 hb;replace BK3:=k1_ BK3 hb;replace HK:=A0_ (af.trans bZ (af.of_below hb g none) (.inl rfl));replace HB:=hb_ hb ct;replace HI0:=A0_ (aa.below bN hb)
  (try clear hb ho0 ho1)
  refine hK.out _ _ (c5_ BK2) (fun hHeld=>?_)
  clear hK K
  refine nm_ 34 ?_
  refine pu_ 5 29 ?_
  refine pu_ 6 35 ?_
  refine pu_ 7 36 ?_
  exact dN dZ (hCont (v8,v9,gb3) _ ⟨hHeld,gg,jo,gh,f9,(u1_ BK1),(u1_ BK2),(u1_ BK3),GW3.out,GE3.out,NB0_3.out,NB3_0.out,NB1_3.out,NB3_1.out,NB2_3.out,NB3_2.out,bN,bZ,ct⟩)
 rintro ⟨v8,v9,gb3⟩ w9 ⟨hS_,h0_,h1_,h2_,h3_,h4_,h5_,h6_,h7_,h8_,h9_,h10_,h11_,h12_,h13_,h14_,h15_,h16_,h17_⟩
 try dsimp only at h0_ h1_ h2_ h3_ h4_ h5_ h6_ h7_ h8_ h9_ h10_ h11_ h12_ h13_ h14_ h15_ h16_ h17_
 have HO4:=A0_ h0_;have HO5:=A0_ h1_;replace HO_1:=A0_ h2_;replace HO_2:=A0_ h3_;replace BK1:=A0_ h4_;replace BK2:=A0_ h5_;have BK3:=A0_ h6_;have GW3:=A0_ h7_;have GE3:=A0_ h8_;have NB0_3:=A0_ h9_;have NB3_0:=A0_ h10_;have NB1_3:=A0_ h11_;have NB3_1:=A0_ h12_;have NB2_3:=A0_ h13_;have NB3_2:=A0_ h14_;replace HI0:=A0_ h15_;replace HK:=A0_ h16_;replace HB:=A0_ h17_;clear h0_ h1_ h2_ h3_ h4_ h5_ h6_ h7_ h8_ h9_ h10_ h11_ h12_ h13_ h14_ h15_ h16_ h17_;have hHeld:w9.cell? ⟨gb2,0,none⟩=some (.int .i64 xd)∧w9.cell? ⟨gb2,1,none⟩=some (.bool xc)∧w9.cell? ⟨gb2,2,none⟩=some (.slice Ao4 xb.length co4)∧w9.cell? ⟨gb2,3,none⟩=some (.slice Ao5 xa.length co5)∧w9.cell? ⟨gb2,4,none⟩=some (.int .i64 xe):=hS_;obtain ⟨Ao6,co6,eo6⟩:=Kd.R_slice HO4.out
 (first|subst eo6|(injection eo6 with f1_ f2_ f3_;have f4_:=f1_.symm;have f5_:=f3_.symm;clear f1_ f2_ f3_;subst f4_;subst f5_))
 obtain ⟨Ao7,co7,eo7⟩:=Kd.R_slice HO5.out
 (first|subst eo7|(injection eo7 with f1_ f2_ f3_;have f4_:=f1_.symm;have f5_:=f3_.symm;clear f1_ f2_ f3_;subst f4_;subst f5_))
 refine nq_ ?_
 refine on_ 9 none (fun K hK=>?_)
 have hs33:=y_ BK3 0;have hfs33:=kf_ BK3.out 0;have hns1_0:=NB1_3.out;have hns1_1:=NB2_3.out;have hms1_0:=NB3_1.out;have hms1_1:=NB3_2.out;have hs34:=y_ BK3 1;have hfs34:=kf_ BK3.out 1;have hns2_0:=NB1_3.out;have hns2_1:=NB2_3.out;have hms2_0:=NB3_1.out;have hms2_1:=NB3_2.out;have hs36:=y_ BK3 2;have hfs36:=kf_ BK3.out 2;have hns3_0:=NB1_3.out;have hns3_1:=NB2_3.out;have hms3_0:=NB3_1.out;have hms3_1:=NB3_2.out;have hs38:=y_ BK3 3;have hfs38:=kf_ BK3.out 3;have hns4_0:=NB1_3.out;have hns4_1:=NB2_3.out;have hms4_0:=NB3_1.out;have hms4_1:=NB3_2.out;have hs39:=y_ BK3 4;have hfs39:=kf_ BK3.out 4;have hns5_0:=NB1_3.out;have hns5_1:=NB2_3.out;have hms5_0:=NB3_1.out;have hms5_1:=NB3_2.out
 refine ea (w1:=?_) (by rfl) rfl ?_ ?_
 rotate_left
 ·go_simp
  rfl
 refine hK.out _ _ ⟨((ae (p:=⟨gb3,_,none⟩) NB2_3.out _).trans (((ae (p:=⟨gb3,_,none⟩) NB2_3.out _).trans (((ae (p:=⟨gb3,_,none⟩) NB2_3.out _).trans (((ae (p:=⟨gb3,_,none⟩) NB2_3.out _).trans (((ae (p:=⟨gb3,_,none⟩) NB2_3.out _).trans (hHeld.1)))))))))),((ae (p:=⟨gb3,_,none⟩) NB2_3.out _).trans (((ae (p:=⟨gb3,_,none⟩) NB2_3.out _).trans (((ae (p:=⟨gb3,_,none⟩) NB2_3.out _).trans (((ae (p:=⟨gb3,_,none⟩) NB2_3.out _).trans (((ae (p:=⟨gb3,_,none⟩) NB2_3.out _).trans (hHeld.2.1)))))))))),((ae (p:=⟨gb3,_,none⟩) NB2_3.out _).trans (((ae (p:=⟨gb3,_,none⟩) NB2_3.out _).trans (((ae (p:=⟨gb3,_,none⟩) NB2_3.out _).trans (((ae (p:=⟨gb3,_,none⟩) NB2_3.out _).trans (((ae (p:=⟨gb3,_,none⟩) NB2_3.out _).trans (hHeld.2.2.1)))))))))),((ae (p:=⟨gb3,_,none⟩) NB2_3.out _).trans (((ae (p:=⟨gb3,_,none⟩) NB2_3.out _).trans (((ae (p:=⟨gb3,_,none⟩) NB2_3.out _).trans (((ae (p:=⟨gb3,_,none⟩) NB2_3.out _).trans (((ae (p:=⟨gb3,_,none⟩) NB2_3.out _).trans (hHeld.2.2.2.1)))))))))),((ae (p:=⟨gb3,_,none⟩) NB2_3.out _).trans (((ae (p:=⟨gb3,_,none⟩) NB2_3.out _).trans (((ae (p:=⟨gb3,_,none⟩) NB2_3.out _).trans (((ae (p:=⟨gb3,_,none⟩) NB2_3.out _).trans (((ae (p:=⟨gb3,_,none⟩) NB2_3.out _).trans (hHeld.2.2.2.2))))))))))⟩ (fun hHeld=>?_)
 clear hK K
 refine pu_ 10 8 ?_
 refine dn_ ?_
 obtain ⟨hnb3,hnc3⟩:=n2_ NB3_1;obtain ⟨hnb4,hnc4⟩:=n2_ NB3_2;obtain ⟨hnb5,hnc5⟩:=n2_ NB3_0;have hcz2:=z5_ BK3;obtain ⟨hnb6,hnc6⟩:=n2_ NB2_1;obtain ⟨hnb7,hnc7⟩:=n2_ NB2_0;have hcz3:=z5_ BK2
 try go_wp2
 go_roundg kj1
 case measure=>have:=HK1.out;have:=HJ1.out;omega
 exact ⟨(wrap64 (x6_1 - 1)),(t19),(t20),(t21),(t22),(t23),(t24),(t25),(.slice Ao6 t23.length co6),(.slice Ao7 t24.length co7),aX,H',⟨iA⟩,⟨by (with_reducible repeat (first|apply ra_|apply rn_|apply rd_));exact Kd.R_mono (bw (rf_ (rf_ (rf_ (rf_ (rf_ (Kd.R_types (Kd.R_types HO4.out BK3.out ag) BK2.out ag) (fun _ hk=>hk.1.2) (.int .i64 t21)) (fun _ hk=>hk.1.2) (.bool t22)) (fun _ hk=>hk.1.2) (.slice Ao6 t23.length co6)) (fun _ hk=>hk.1.2) (.slice Ao7 t24.length co7)) (fun _ hk=>hk.1.2) (.int .i64 t25))) (fun _ hk=>hk.1.1.1)⟩,⟨by (with_reducible repeat (first|apply ra_|apply rn_|apply rd_));exact Kd.R_mono (bw (rf_ (rf_ (rf_ (rf_ (rf_ (Kd.R_types (Kd.R_types HO5.out BK3.out ag) BK2.out ag) (fun _ hk=>hk.1.2) (.int .i64 t21)) (fun _ hk=>hk.1.2) (.bool t22)) (fun _ hk=>hk.1.2) (.slice Ao6 t23.length co6)) (fun _ hk=>hk.1.2) (.slice Ao7 t24.length co7)) (fun _ hk=>hk.1.2) (.int .i64 t25))) (fun _ hk=>hk.1.1.1)⟩,⟨u1_ BK1⟩,⟨u1_ BK2⟩,⟨bN⟩,⟨bZ⟩,⟨ct⟩⟩

def cp.f (k:Nat) (s0_0:List Int) (s0_1:Int) (s0_2:Int):Option (Int × Bool × List Int × List Int × Int × Int × Int × Int × Int × Int):=(ah.f k s0_0 s0_1 s0_2).bind fun bt709=>((ab.f k s0_0 bt709.2.2.2.2.2.1 bt709.2.2.2.2.2.2 bt709.1 bt709.2.1 bt709.2.2.1 bt709.2.2.2.1 bt709.2.2.2.2.1).bind fun bt721=>(some (bt709.1,bt709.2.1,bt709.2.2.1,bt709.2.2.2.1,bt709.2.2.2.2.1,bt721.1,bt721.2.1,bt721.2.2.1,bt721.2.2.2.1,bt721.2.2.2.2)))
theorem cp.mono:∀ a0 a1 a2 k,LeO (cp.f k a0 a1 a2) (cp.f (k+1) a0 a1 a2):=by
 intro a0 a1 a2 k;unfold cp.f
 repeat' with_reducible first|exact ah.mono ..|exact ab.mono ..|exact LeO.refl ..|exact LeO.none ..|refine LeO.ite ?_ ?_|refine LeO.bind ?_ (fun _=>?_)
def cy.f (k:Nat) (l0:List Int):Option (Int × Bool × List Int × List Int × Int × Int × Int × Int):=(cp.f k l0 0 0).bind fun b=>some (b.1,b.2.1,b.2.2.1,b.2.2.2.1,b.2.2.2.2.1,b.2.2.2.2.2.1,b.2.2.2.2.2.2.1,b.2.2.2.2.2.2.2.1)
theorem cy.mono:∀ a0 k,LeO (cy.f k a0) (cy.f (k+1) a0):=by
 intro a0 k;unfold cy.f
 exact LeO.bind (cp.mono _ _ _ _) (fun _=>LeO.refl _)
theorem cy.calls (k:Nat) (A0:Option Addr) (c0:Nat) (l0:List Int) (r1:Int) (r2:Bool) (r3:List Int) (r4:List Int) (r5:Int) (r6:Int) (r7:Int) (r8:Int) (w:World) (hr0:Kd.C (Kd.int .u8) w A0 l0.length l0) (hc0:l0.length≤c0) (h:cy.f k l0=some (r1,r2,r3,r4,r5,r6,r7,r8)) :
  Calls Tryz.prog 20 #[.slice A0 l0.length c0] w fun e w'=>∃ v2_ v3_:Value,e=.returned (.tuple #[.agg #[.int .i64 r1,.bool r2,v2_,v3_,.int .i64 r5],.agg #[.int .i64 r6,.int .i64 r7,.int .i64 r8]])∧Kd.R (Kd.int .i64) 3 w' w.heap.size (fun k_=>no_ v3_ k_) v2_ r3∧Kd.R (Kd.int .i64) 3 w' w.heap.size (fun k_=>no_ v2_ k_) v3_ r4∧Below w.heap.size w w':=by
 have hu32:=Tryz.underlying32;have hu50:=Tryz.underlying50;have hu75:=Tryz.underlying75;have HB:=A0_ (Below.refl w.heap.size w);obtain ⟨⟨r1_,r2_,r3_,r4_,r5_,r6_,r7_,r8_,r9,r10⟩,h,h_⟩:=ob_.mp (show (cp.f k l0 0 0).bind (fun b=>some (b.1,b.2.1,b.2.2.1,b.2.2.2.1,b.2.2.2.2.1,b.2.2.2.2.2.1,b.2.2.2.2.2.2.1,b.2.2.2.2.2.2.2.1))=some (r1,r2,r3,r4,r5,r6,r7,r8) from h)
 replace h:cp.f k l0 0 0=some (r1,r2,r3,r4,r5,r6,r7,r8,r9,r10):=by rw [h];cases h_;rfl
 clear h_;have H:((ah.f k l0 0 0).bind fun bt1=>((ab.f k l0 bt1.2.2.2.2.2.1 bt1.2.2.2.2.2.2 bt1.1 bt1.2.1 bt1.2.2.1 bt1.2.2.2.1 bt1.2.2.2.2.1).bind fun bt2=>(some (bt1.1,bt1.2.1,bt1.2.2.1,bt1.2.2.2.1,bt1.2.2.2.2.1,bt2.1,bt2.2.1,bt2.2.2.1,bt2.2.2.2.1,bt2.2.2.2.2))))=some (r1,r2,r3,r4,r5,r6,r7,r8,r9,r10):=h;clear h;obtain ⟨⟨t1,t2,t3,t4,t5,t6,t7⟩,A2,H⟩:=o1_ H;obtain ⟨⟨t8,t9,t10,t11,t12⟩,A4,H⟩:=o1_ H;replace H:(some (t1,t2,t3,t4,t5,t8,t9,t10,t11,t12))=some (r1,r2,r3,r4,r5,r6,r7,r8,r9,r10):=H;simp only [sj_,pj_] at H;obtain ⟨rfl,rfl,rfl,rfl,rfl,rfl,rfl,rfl,rfl,rfl⟩:=H;go_enter Tryz.func20,Tryz.ntmps20
 try go_wp2_with (first|((with_reducible refine gd_ (N:=2) rfl ?_);refine bx_ 2 #[.int .i64 0,.bool false,.slice none 0 0,.slice none 0 0,.int .i64 0] 32 ?_;intro gb1 hg w1 hbox hb;have n2_:=A0_ (bt_ ai hb);have n3_:=hbox;have n4_:=A0_ ((iz:w.heap.size≤gb1));clear HB;have HB:=n2_;have BK1:=n3_;have GW1:=n4_;have GE1:=n4_;clear n2_ n3_ n4_ hb hbox hg)|((with_reducible refine gd_ (N:=3) rfl ?_);refine bx_ 3 #[.int .i64 0,.int .i64 0,.int .i64 0] 50 ?_;intro gb2 hg w2 hbox hb;have n2_:=A0_ (bt_ ai hb);have n3_:=hbox;have n4_:=A0_ ((iz:w.heap.size≤gb2));have m707_:=A0_ (kb_ (g:=gb1) (o:=.cells #[.int .i64 0,.bool false,.slice none 0 0,.slice none 0 0,.int .i64 0] 32 (0,0)) (u1_ BK1) hb);have NB2_1:=ng_ hg BK1;have NB1_2:=A0_ (Ne.symm NB2_1.out);clear HB BK1;have HB:=n2_;have BK2:=n3_;have GW2:=n4_;have GE2:=n4_;have BK1:=m707_;clear m707_ n2_ n3_ n4_ hb hbox hg)|((with_reducible refine gd_ (N:=8) rfl ?_);refine be_ ?hg (N:=8) ?hd (cs:=#[.slice A0 l0.length c0,.int .i64 0,.int .u64 0]) (t:=75) ?hr ?_;(case hd=>rfl);(case hg=>rfl);(case hr=>go_simp;first|done|rfl);intro g hg wB hbox hb;have n0_:=A0_ (show aa w wB g l0 0 0 from ⟨A0,c0,hbox,iz,hr0⟩);have n1_:=A0_ (af.refl wB g none);have n2_:=A0_ (bt_ ai hb);have HW0:=A0_ (Below.size n2_.out);have m707_:=A0_ (kb_ (g:=gb1) (o:=.cells #[.int .i64 0,.bool false,.slice none 0 0,.slice none 0 0,.int .i64 0] 32 (0,0)) (u1_ BK1) hb);have NB0_1:=A0_ ((nc:g≠gb1));have NB1_0:=A0_ (Ne.symm NB0_1.out);have m708_:=A0_ (kb_ (g:=gb2) (o:=.cells #[.int .i64 0,.int .i64 0,.int .i64 0] 50 (0,0)) (u1_ BK2) hb);have NB0_2:=A0_ ((by rw [hg];exact Nat.ne_of_gt (ev (g:=gb2) (o:=.cells #[.int .i64 0,.int .i64 0,.int .i64 0] 50 (0,0)) (u1_ BK2)):g≠gb2));have NB2_0:=A0_ (Ne.symm NB0_2.out);clear HB BK1 BK2;have HI0:=n0_;have HK:=n1_;have HB:=n2_;have BK1:=m707_;clear m707_;have BK2:=m708_;clear m708_ n0_ n1_ n2_ hb hbox hg)|((with_reducible refine gc_ (f:=50) rfl ?_);refine gl_ 10 Tryz.func50 #[.pointer (some ⟨g,0,none⟩)] ?_;(with_reducible refine (ah.calls k g l0 0 0 t1 t2 t3 t4 t5 t6 t7 w _ ?_ ?_ A2.out).mono ?_);exact bI;exact cJ;rintro e w3 ⟨v1,v4,rfl,ho0,ho1,hi,hb,hk⟩;refine ⟨_,rfl,?_⟩;replace BK1:=bT BK1 hk NB1_0;replace BK2:=bT BK2 hk NB2_0;have HO1:=A0_ (Kd.R_lower ho0 (ba (w:=wB) (g:=g) (row:=none) cb));have HO2:=A0_ (Kd.R_lower ho1 (ba (w:=wB) (g:=g) (row:=none) cb));replace HK:=A0_ (af.trans cb hk (.inl rfl));replace HB:=A0_ (hb);replace HI0:=A0_ (hi);(try clear hb hk hi ho0 ho1))|((with_reducible refine gd_ (N:=5) rfl ?_);refine bx_ 5 #[.int .i64 0,.bool false,.slice none 0 0,.slice none 0 0,.int .i64 0] 32 ?_;intro gb3 hg w4 BK3 hb;replace HO1:=q1_ HO1 hb;replace HO2:=q1_ HO2 hb;replace HB:=hb_ hb cJ;have GW3:=A0_ ((kR:wB.heap.size≤gb3));have GE3:=A0_ ((Nat.le_trans HW0.out (kR:wB.heap.size≤gb3):w.heap.size≤gb3));replace HK:=A0_ (af.trans cb (af.of_below hb g none) (.inl rfl));obtain ⟨NB1_3,NB3_1⟩:=nn_ hg BK1;replace BK1:=k1_ BK1 hb;obtain ⟨NB2_3,NB3_2⟩:=nn_ hg BK2;replace BK2:=k1_ BK2 hb;have NB0_3:=A0_ ((nm:g≠gb3));have NB3_0:=A0_ ((nQ:gb3≠g));replace HI0:=A0_ (aa.below bI hb);clear hb hg;obtain ⟨hnb1,hnc1⟩:=n2_ NB3_1;obtain ⟨hnb2,hnc2⟩:=n2_ NB3_2;obtain ⟨hnb3,hnc3⟩:=n2_ NB3_0;have hcz1:=z5_ BK3;obtain ⟨Ao1,co1,eo1⟩:=Kd.R_slice HO1.out;subst eo1;obtain ⟨Ao2,co2,eo2⟩:=Kd.R_slice HO2.out;subst eo2))
 have n0_:Aside0 (Kd.R (Kd.int .i64) 3 (((((w4.setCell ⟨gb3,0,none⟩ (.int .i64 t1)).setCell ⟨gb3,1,none⟩ (.bool t2)).setCell ⟨gb3,2,none⟩ (.slice Ao1 t3.length co1)).setCell ⟨gb3,3,none⟩ (.slice Ao2 t4.length co2)).setCell ⟨gb3,4,none⟩ (.int .i64 t5)) wB.heap.size (fun k_=>no_ (.slice Ao2 t4.length co2) k_) (.slice Ao1 t3.length co1) t3):=⟨lT⟩;have n1_:Aside0 (Kd.R (Kd.int .i64) 3 (((((w4.setCell ⟨gb3,0,none⟩ (.int .i64 t1)).setCell ⟨gb3,1,none⟩ (.bool t2)).setCell ⟨gb3,2,none⟩ (.slice Ao1 t3.length co1)).setCell ⟨gb3,3,none⟩ (.slice Ao2 t4.length co2)).setCell ⟨gb3,4,none⟩ (.int .i64 t5)) wB.heap.size (fun k_=>no_ (.slice Ao1 t3.length co1) k_) (.slice Ao2 t4.length co2) t4):=⟨lY⟩;have n2_:Aside0 ((((((w4.setCell ⟨gb3,0,none⟩ (.int .i64 t1)).setCell ⟨gb3,1,none⟩ (.bool t2)).setCell ⟨gb3,2,none⟩ (.slice Ao1 t3.length co1)).setCell ⟨gb3,3,none⟩ (.slice Ao2 t4.length co2)).setCell ⟨gb3,4,none⟩ (.int .i64 t5)).heap[gb1]?=some (.cells #[.int .i64 0,.bool false,.slice none 0 0,.slice none 0 0,.int .i64 0] 32 (0,0))):=⟨u1_ BK1⟩;have n3_:Aside0 ((((((w4.setCell ⟨gb3,0,none⟩ (.int .i64 t1)).setCell ⟨gb3,1,none⟩ (.bool t2)).setCell ⟨gb3,2,none⟩ (.slice Ao1 t3.length co1)).setCell ⟨gb3,3,none⟩ (.slice Ao2 t4.length co2)).setCell ⟨gb3,4,none⟩ (.int .i64 t5)).heap[gb2]?=some (.cells #[.int .i64 0,.int .i64 0,.int .i64 0] 50 (0,0))):=⟨u1_ BK2⟩;have n4_:Aside0 ((((((w4.setCell ⟨gb3,0,none⟩ (.int .i64 t1)).setCell ⟨gb3,1,none⟩ (.bool t2)).setCell ⟨gb3,2,none⟩ (.slice Ao1 t3.length co1)).setCell ⟨gb3,3,none⟩ (.slice Ao2 t4.length co2)).setCell ⟨gb3,4,none⟩ (.int .i64 t5)).heap[gb3]?=some (.cells #[.int .i64 t1,.bool t2,.slice Ao1 t3.length co1,.slice Ao2 t4.length co2,.int .i64 t5] 32 (0,0))):=⟨u1_ BK3⟩;have n5_:Aside0 (aa w (((((w4.setCell ⟨gb3,0,none⟩ (.int .i64 t1)).setCell ⟨gb3,1,none⟩ (.bool t2)).setCell ⟨gb3,2,none⟩ (.slice Ao1 t3.length co1)).setCell ⟨gb3,3,none⟩ (.slice Ao2 t4.length co2)).setCell ⟨gb3,4,none⟩ (.int .i64 t5)) g l0 t6 t7):=⟨bN⟩;have n6_:Aside0 (af wB (((((w4.setCell ⟨gb3,0,none⟩ (.int .i64 t1)).setCell ⟨gb3,1,none⟩ (.bool t2)).setCell ⟨gb3,2,none⟩ (.slice Ao1 t3.length co1)).setCell ⟨gb3,3,none⟩ (.slice Ao2 t4.length co2)).setCell ⟨gb3,4,none⟩ (.int .i64 t5)) g none):=⟨bZ⟩;have n7_:Aside0 (Below w.heap.size w (((((w4.setCell ⟨gb3,0,none⟩ (.int .i64 t1)).setCell ⟨gb3,1,none⟩ (.bool t2)).setCell ⟨gb3,2,none⟩ (.slice Ao1 t3.length co1)).setCell ⟨gb3,3,none⟩ (.slice Ao2 t4.length co2)).setCell ⟨gb3,4,none⟩ (.int .i64 t5))):=⟨ct⟩
 (try clear HO1)
 (try clear HO2)
 (try clear BK1)
 (try clear BK2)
 (try clear BK3)
 (try clear HI0)
 (try clear HK)
 (try clear HB)
 generalize (((((w4.setCell ⟨gb3,0,none⟩ (.int .i64 t1)).setCell ⟨gb3,1,none⟩ (.bool t2)).setCell ⟨gb3,2,none⟩ (.slice Ao1 t3.length co1)).setCell ⟨gb3,3,none⟩ (.slice Ao2 t4.length co2)).setCell ⟨gb3,4,none⟩ (.int .i64 t5))=w5 at n0_ n1_ n2_ n3_ n4_ n5_ n6_ n7_ ⊢;have HO1:=n0_;have HO2:=n1_;have BK1:=n2_;have BK2:=n3_;have BK3:=n4_;have HI0:=n5_;have HK:=n6_;have HB:=n7_;clear n0_ n1_ n2_ n3_ n4_ n5_ n6_ n7_;replace HO1:=A0_ (rd_ HO1.out);replace HO2:=A0_ (rd_ HO2.out);replace BK1:=A0_ (kd_ BK1.out);replace BK2:=A0_ (kd_ BK2.out);replace BK3:=A0_ (kd_ BK3.out);replace HI0:=A0_ (aa.drew HI0.out);replace HK:=A0_ (ci HK.out);replace HB:=A0_ (bd_ HB.out)
 refine dd (n:=6) (S:=fun w'=>w'.cell? ⟨gb3,0,none⟩=some (.int .i64 t1)∧w'.cell? ⟨gb3,1,none⟩=some (.bool t2)∧w'.cell? ⟨gb3,2,none⟩=some (.slice Ao1 t3.length co1)∧w'.cell? ⟨gb3,3,none⟩=some (.slice Ao2 t4.length co2)∧w'.cell? ⟨gb3,4,none⟩=some (.int .i64 t5)) (ds:=[]) #[false,false,false,false,false,false] aY rfl rfl (c5_ BK3) (fun hHeld=>?_)
 generalize w5.drew=w6 at HO1 HO2 BK1 BK2 BK3 HI0 HK HB hHeld ⊢
 refine pu_ 1 12 ?_
 refine tk_ 0 11 hHeld ?_
 refine tk_ 2 13 hHeld ?_
 refine on_ 3 (some 14) (fun K hK=>?_)
 refine gs_ Tryz.func51 #[.pointer (some ⟨g,0,none⟩),.agg #[.int .i64 t1,.bool t2,.slice Ao1 t3.length co1,.slice Ao2 t4.length co2,.int .i64 t5]] ?_
 with_reducible refine (ab.calls k g l0 t6 t7 t1 t2 _ _ t3 _ _ t4 t5 t8 t9 t10 t11 t12 w _ ?_ ?_ ?_ ?_ ?_ ?_ ?_ ?_ A4.out).mono ?_
 exact bN
 exact ct
 exact dW
 exact (rr_ HO1.out).2.1
 exact bW (aa.own_ne HI0.out HO1.out ag)
 exact f6
 exact (rr_ HO2.out).2.1
 exact bW (aa.own_ne HI0.out HO2.out ag)
 rintro e w7 ⟨rfl,hi,hb,hk⟩
 refine ⟨_,rfl,?_⟩
 replace BK1:=bT BK1 hk NB1_0;replace BK2:=bT BK2 hk NB2_0;replace HO1:=A0_ (Kd.R_mono (Kd.R_keep (aa.apart (show aa w _ g l0 t6 t7 from bN) bx ag) hk (fun _ h=>h.2)) (fun _ h=>h.1));replace HO2:=A0_ (Kd.R_mono (Kd.R_keep (aa.apart (show aa w _ g l0 t6 t7 from bN) cd ag) hk (fun _ h=>h.2)) (fun _ h=>h.1));replace BK3:=bT BK3 hk NB3_0;replace HK:=A0_ (af.trans bZ hk (.inl rfl));replace HB:=A0_ (hb);replace HI0:=A0_ (hi)
 (try clear hb hk hi)
 refine hK.out _ _ (c5_ BK3) (fun hHeld=>?_)
 clear hK K
 refine nm_ 14 ?_
 refine on_ 4 none (fun K hK=>?_)
 have hs17:=y_ BK1 0;have hfs17:=kf_ BK1.out 0;have hns1_1:=NB2_1.out;have hns1_2:=NB3_1.out;have hms1_1:=NB1_2.out;have hms1_2:=NB1_3.out;have hs18:=y_ BK1 1;have hfs18:=kf_ BK1.out 1;have hns2_1:=NB2_1.out;have hns2_2:=NB3_1.out;have hms2_1:=NB1_2.out;have hms2_2:=NB1_3.out;have hs19:=y_ BK1 2;have hfs19:=kf_ BK1.out 2;have hns3_1:=NB2_1.out;have hns3_2:=NB3_1.out;have hms3_1:=NB1_2.out;have hms3_2:=NB1_3.out;have hs20:=y_ BK1 3;have hfs20:=kf_ BK1.out 3;have hns4_1:=NB2_1.out;have hns4_2:=NB3_1.out;have hms4_1:=NB1_2.out;have hms4_2:=NB1_3.out;have hs21:=y_ BK1 4;have hfs21:=kf_ BK1.out 4;have hns5_1:=NB2_1.out;have hns5_2:=NB3_1.out;have hms5_1:=NB1_2.out;have hms5_2:=NB1_3.out
 refine ea (w1:=?_) (by rfl) rfl ?_ ?_
 rotate_left
 ·go_simp
  rfl
 refine hK.out _ _ ⟨((ae (p:=⟨gb1,_,none⟩) NB3_1.out _).trans (((ae (p:=⟨gb1,_,none⟩) NB3_1.out _).trans (((ae (p:=⟨gb1,_,none⟩) NB3_1.out _).trans (((ae (p:=⟨gb1,_,none⟩) NB3_1.out _).trans (((ae (p:=⟨gb1,_,none⟩) NB3_1.out _).trans (hHeld.1)))))))))),((ae (p:=⟨gb1,_,none⟩) NB3_1.out _).trans (((ae (p:=⟨gb1,_,none⟩) NB3_1.out _).trans (((ae (p:=⟨gb1,_,none⟩) NB3_1.out _).trans (((ae (p:=⟨gb1,_,none⟩) NB3_1.out _).trans (((ae (p:=⟨gb1,_,none⟩) NB3_1.out _).trans (hHeld.2.1)))))))))),((ae (p:=⟨gb1,_,none⟩) NB3_1.out _).trans (((ae (p:=⟨gb1,_,none⟩) NB3_1.out _).trans (((ae (p:=⟨gb1,_,none⟩) NB3_1.out _).trans (((ae (p:=⟨gb1,_,none⟩) NB3_1.out _).trans (((ae (p:=⟨gb1,_,none⟩) NB3_1.out _).trans (hHeld.2.2.1)))))))))),((ae (p:=⟨gb1,_,none⟩) NB3_1.out _).trans (((ae (p:=⟨gb1,_,none⟩) NB3_1.out _).trans (((ae (p:=⟨gb1,_,none⟩) NB3_1.out _).trans (((ae (p:=⟨gb1,_,none⟩) NB3_1.out _).trans (((ae (p:=⟨gb1,_,none⟩) NB3_1.out _).trans (hHeld.2.2.2.1)))))))))),((ae (p:=⟨gb1,_,none⟩) NB3_1.out _).trans (((ae (p:=⟨gb1,_,none⟩) NB3_1.out _).trans (((ae (p:=⟨gb1,_,none⟩) NB3_1.out _).trans (((ae (p:=⟨gb1,_,none⟩) NB3_1.out _).trans (((ae (p:=⟨gb1,_,none⟩) NB3_1.out _).trans (hHeld.2.2.2.2))))))))))⟩ (fun hHeld=>?_)
 clear hK K
 refine on_ 5 none (fun K hK=>?_)
 have hs22:=y_ BK2 0;have hfs22:=kf_ BK2.out 0;have hns6_0:=NB1_2.out;have hns6_2:=NB3_2.out;have hms6_0:=NB2_1.out;have hms6_2:=NB2_3.out;have hs23:=y_ BK2 1;have hfs23:=kf_ BK2.out 1;have hns7_0:=NB1_2.out;have hns7_2:=NB3_2.out;have hms7_0:=NB2_1.out;have hms7_2:=NB2_3.out;have hs24:=y_ BK2 2;have hfs24:=kf_ BK2.out 2;have hns8_0:=NB1_2.out;have hns8_2:=NB3_2.out;have hms8_0:=NB2_1.out;have hms8_2:=NB2_3.out
 refine ea (w1:=?_) (by rfl) rfl ?_ ?_
 rotate_left
 ·go_simp
  rfl
 refine hK.out _ _ ⟨((ae (p:=⟨gb2,_,none⟩) NB3_2.out _).trans (((ae (p:=⟨gb2,_,none⟩) NB3_2.out _).trans (((ae (p:=⟨gb2,_,none⟩) NB3_2.out _).trans (hHeld.1)))))),((ae (p:=⟨gb2,_,none⟩) NB3_2.out _).trans (((ae (p:=⟨gb2,_,none⟩) NB3_2.out _).trans (((ae (p:=⟨gb2,_,none⟩) NB3_2.out _).trans (hHeld.2.1)))))),((ae (p:=⟨gb2,_,none⟩) NB3_2.out _).trans (((ae (p:=⟨gb2,_,none⟩) NB3_2.out _).trans (((ae (p:=⟨gb2,_,none⟩) NB3_2.out _).trans (hHeld.2.2.1)))))),((ae (p:=⟨gb2,_,none⟩) NB3_2.out _).trans (((ae (p:=⟨gb2,_,none⟩) NB3_2.out _).trans (((ae (p:=⟨gb2,_,none⟩) NB3_2.out _).trans (hHeld.2.2.2.1)))))),((ae (p:=⟨gb2,_,none⟩) NB3_2.out _).trans (((ae (p:=⟨gb2,_,none⟩) NB3_2.out _).trans (((ae (p:=⟨gb2,_,none⟩) NB3_2.out _).trans (hHeld.2.2.2.2))))))⟩ (fun hHeld=>?_)
 clear hK K
 refine mP aY ?_
 try go_wp2
 refine bodyPost_ret (kz rfl _ _ gb1 gb2 32 50 #[.int .i64 t1,.bool t2,.slice Ao1 t3.length co1,.slice Ao2 t4.length co2,.int .i64 t5] #[.int .i64 t8,.int .i64 t9,.int .i64 t10] (0,0) (0,0) _ _ rfl (u1_ BK1) Tryz.underlying32 rfl aY rfl (u1_ BK2) Tryz.underlying50 rfl aY) rfl ?_
 exact ⟨_,_,aE,by (with_reducible repeat (first|apply ra_|apply rn_|apply rd_));exact Kd.R_lower (Kd.R_mono (d8 (rf_ (rf_ (rf_ (rf_ (rf_ (Kd.R_types (Kd.R_types HO1.out BK1.out ag) BK2.out ag) (fun _ hk=>hk.1.2) (.int .i64 t1)) (fun _ hk=>hk.1.2) (.bool t2)) (fun _ hk=>hk.1.2) (.slice Ao1 t3.length co1)) (fun _ hk=>hk.1.2) (.slice Ao2 t4.length co2)) (fun _ hk=>hk.1.2) (.int .i64 t5))) (fun _ hk=>hk.1.1)) HW0.out,by (with_reducible repeat (first|apply ra_|apply rn_|apply rd_));exact Kd.R_lower (Kd.R_mono (d8 (rf_ (rf_ (rf_ (rf_ (rf_ (Kd.R_types (Kd.R_types HO2.out BK1.out ag) BK2.out ag) (fun _ hk=>hk.1.2) (.int .i64 t1)) (fun _ hk=>hk.1.2) (.bool t2)) (fun _ hk=>hk.1.2) (.slice Ao1 t3.length co1)) (fun _ hk=>hk.1.2) (.slice Ao2 t4.length co2)) (fun _ hk=>hk.1.2) (.int .i64 t5))) (fun _ hk=>hk.1.1)) HW0.out,ct⟩


def dI.f (l0:List Int) (a1:Int):Option (List Int):=if a1 > (l0.length:Int) then ((some (([]:List Int):List Int)).bind fun y701=>(if 0≤(l0.length:Int) then (if (l0.length:Int)≤(l0.length:Int) then (if y701.length+(l0.drop ((l0.length:Int):Int).toNat).length<140737488355328 then ((some (y701++(l0.drop ((l0.length:Int):Int).toNat):List Int)).bind fun y705=>(if y705.length<140737488355328 then (some (y705++[((l0.length:Int)) % 256])) else (none))) else (none)) else (none)) else (none))) else ((some (([]:List Int):List Int)).bind fun y711=>(if 0≤a1 then (if a1≤(l0.length:Int) then (if y711.length+(l0.drop (a1:Int).toNat).length<140737488355328 then ((some (y711++(l0.drop (a1:Int).toNat):List Int)).bind fun y715=>(if y715.length<140737488355328 then (some (y715++[(a1) % 256])) else (none))) else (none)) else (none)) else (none)))
theorem dI.calls (A0:Option Addr) (c0:Nat) (l0:List Int) (a1:Int) (r:List Int) (w:World) (hr0:Kd.C (Kd.int .u8) w A0 l0.length l0) (hc0:l0.length≤c0) (H:dI.f l0 a1=some r) :
  Calls Tryz.prog 21 #[.slice A0 l0.length c0,.int .i64 a1] w fun e w'=>∃ v0_:Value,e=.returned (v0_)∧Kd.R (Kd.int .u8) 5 w' w.heap.size (fun _=>True) v0_ r∧Below w.heap.size w w':=by
 have HR0:=A0_ hr0;have HC0:=A0_ hc0;clear hr0 hc0;have HB:=A0_ (Below.refl w.heap.size w);unfold dI.f at H
 by_cases c1:a1 > (l0.length:Int)
 case neg =>
  rw [if_neg c1] at H;have c1b0:decide ((l0.length:Int)<a1)=false:=decide_eq_false c1;clear c1;obtain ⟨y3,hy1⟩:∃ y_:List Int,y_=(([]:List Int)):=⟨_,rfl⟩;replace H:(if 0≤a1 then (if a1≤(l0.length:Int) then (if y3.length+(l0.drop (a1:Int).toNat).length<140737488355328 then ((some (y3++(l0.drop (a1:Int).toNat):List Int)).bind fun y4=>(if y4.length<140737488355328 then (some (y4++[(a1) % 256])) else (none))) else (none)) else (none)) else (none))=some r:=dx;have Ny1:=A0_ hy1;clear hy1;obtain ⟨c2b0,c2b1,H⟩:=i2_ H;obtain ⟨c3b0,c3b1,H⟩:=i2_ H;obtain ⟨c4,H⟩:=is_ H;have LMc1:=A0_ c4;clear c4;obtain ⟨y4,hy2⟩:∃ y_:List Int,y_=(y3++(l0.drop (a1:Int).toNat)):=⟨_,rfl⟩;replace H:(if y4.length<140737488355328 then (some (y4++[(a1) % 256])) else (none))=some r:=dH;have Ny2:=A0_ hy2;clear hy2;obtain ⟨c5,H⟩:=is_ H;have LMc2:=A0_ c5;clear c5;obtain ⟨y5,hy3⟩:∃ y_:List Int,y_=(y4++[(a1) % 256]):=⟨_,rfl⟩;replace H:(some y5)=some r:=it;have Ny3:=A0_ hy3;clear hy3;obtain rfl:=si_ H;go_enter Tryz.func21,Tryz.ntmps21
  go_wp2_with (first|((with_reducible refine gd_ (N:=11) rfl ?_);refine Kd.R_lit (Kd.int .u8) _ 5 ?hg (N:=11) ?hd (xs:=([]:List Int)) (inner:=[]) (ok:=fun _=>True) (okp:=fun _=>True) ?hr ?hp (fun _ hk=>hk) trivial (Below.refl _ _) (Nat.le_refl _) bB ?_;(case hd=>rfl);(case hg=>rfl);(case hr=>go_simp;first|done|rfl);(case hp=>exact (aN.none _ _));intro v1 w1 ho18 hb hg_ hnew_;clear hg_ hnew_;(first|rw [← Ny1.out] at ho18|(simp only [Int.reduceToNat] at ho18;rw [← Ny1.out] at ho18));have HO1:=A0_ (Kd.R_lower ho18 (bz_ ai));replace HB:=hb_ hb ai;clear hb ho18;obtain ⟨i019,hi019,_,hsz19,_⟩:=info_parts jp;obtain ⟨A1,hcut19,hA19,hC19⟩:=eg (P:=Tryz.prog) (Value.int .u8) 0 43 5 .i64 Tryz.underlying43 hi019 hsz19 A0 c0 l0 a1 (od_ ay) (od_ ay) HC0.out;have HR714:=A0_ (Kd.C_of_reads (h1:=fun _=>rfl) (hA19 _ (Kd.reads_of_C HR0.out)));have HC714:=A0_ hC19;clear hA19 hC19 hi019 hsz19)|((with_reducible refine bX (b:=.append) (xs:=#[.tmp 11,.tmp 14]) rfl ?_);at_builtin;refine Kd.R_append_rows (Kd.int .u8) (w0:=w) w.heap.size rfl (.tmp 11) (.tmp 14) 43 5 (.int .u8 0) 1 rfl Tryz.underlying43 jp rfl ag bm v1 y3 (l0.drop (a1:Int).toNat) _ _ _ (fun _=>True) (fun _=>False) rfl rfl ?aO ?aR (fun _ _ h=>h) (fun _ h=>h.elim) ?aF ?aB ?aS ?aL ?_;(case aR=>first|(rw [← show (l0.drop (a1:Int).toNat).length=(l0.length - a1.toNat) from ld_];repeat (first|exact (cb_ HR714.out HB.out)|(with_reducible refine ca_ ?_ _)|(with_reducible refine cn_ ?_ _)|(with_reducible refine cd_ ?_)))|(repeat (first|exact (cb_ HR714.out HB.out)|(with_reducible refine ca_ ?_ _)|(with_reducible refine cn_ ?_ _)|(with_reducible refine cd_ ?_))));(case aB=>exact ai);(case aF=>exact (fun _ _=>trivial));(case aO=>exact bx);(case aS=>exact (bz_ ai));(case aL=>have:=LMc1.out;have hlx_:=(show (l0.drop (a1:Int).toNat).length=(l0.length - a1.toNat) from ld_);omega);intro v2 w2 ho hb hg hat;rw [← Ny2.out] at ho;have n0_:=A0_ (hb);have n1_:=A0_ (ho);clear HB HO1;have HB:=n0_;have HO2:=n1_;clear n0_ n1_ ho hb hg hat)|((with_reducible refine bX (b:=.append) (xs:=#[.tmp 15,.tmp 18]) rfl ?_);at_builtin;refine Kd.R_append (Kd.int .u8) (w0:=w) w.heap.size rfl (.tmp 15) (.tmp 18) 43 5 (.int .u8 0) 1 rfl Tryz.underlying43 jp rfl ag bm v2 y4 ((a1) % 256) [.int .u8 ((a1) % 256)] (fun _=>True) (fun _=>False) rfl rfl ?aP (fun _ hk=>hk.elim) ?aF ?aO ?aB ?aS ?aL ?_;(case aP=>exact rfl);(case aB=>exact ai);(case aF=>exact (fun _ _=>trivial));(case aO=>exact cd);(case aS=>exact (bz_ ai));(case aL=>have:=LMc2.out;omega);intro v3 w3 ho hb hg hat;rw [← Ny3.out] at ho;have n0_:=A0_ (hb);have n1_:=A0_ (ho);clear HB HO2;have HB:=n0_;have HO3:=n1_;clear n0_ n1_ ho hb hg hat))
  go_ret
  exact ⟨_,aE,d9,ai⟩
 rw [if_pos c1] at H;have c1b0:decide ((l0.length:Int)<a1)=true:=dt_ c1;clear c1
 have hdd_:l0.drop (l0.length:Int).toNat=[]:=by simp
 rw [hdd_] at H;obtain ⟨y1,hy1⟩:∃ y_:List Int,y_=(([]:List Int)):=⟨_,rfl⟩;replace H:(if 0≤(l0.length:Int) then (if (l0.length:Int)≤(l0.length:Int) then (if y1.length+([]:List Int).length<140737488355328 then ((some (y1++([]:List Int):List Int)).bind fun y2=>(if y2.length<140737488355328 then (some (y2++[((l0.length:Int)) % 256])) else (none))) else (none)) else (none)) else (none))=some r:=dx;have Ny1:=A0_ hy1;clear hy1;obtain ⟨c2b0,c2b1,H⟩:=i2_ H;obtain ⟨c3b0,c3b1,H⟩:=i2_ H;obtain ⟨c4,H⟩:=is_ H;have LMc1:=A0_ c4;clear c4;obtain ⟨y2,hy2⟩:∃ y_:List Int,y_=(y1++([]:List Int)):=⟨_,rfl⟩;replace H:(if y2.length<140737488355328 then (some (y2++[((l0.length:Int)) % 256])) else (none))=some r:=dH;have Ny2:=A0_ hy2;clear hy2;obtain ⟨c5,H⟩:=is_ H;have LMc2:=A0_ c5;clear c5;obtain ⟨y5,hy3⟩:∃ y_:List Int,y_=(y2++[((l0.length:Int)) % 256]):=⟨_,rfl⟩;replace H:(some y5)=some r:=it;have Ny3:=A0_ hy3;clear hy3;obtain rfl:=si_ H;go_enter Tryz.func21,Tryz.ntmps21
 go_wp2_with (first|((with_reducible refine gd_ (N:=11) rfl ?_);refine Kd.R_lit (Kd.int .u8) _ 5 ?hg (N:=11) ?hd (xs:=([]:List Int)) (inner:=[]) (ok:=fun _=>True) (okp:=fun _=>True) ?hr ?hp (fun _ hk=>hk) trivial (Below.refl _ _) (Nat.le_refl _) bB ?_;(case hd=>rfl);(case hg=>rfl);(case hr=>go_simp;first|done|rfl);(case hp=>exact (aN.none _ _));intro v1 w1 ho9 hb hg_ hnew_;clear hg_ hnew_;(first|rw [← Ny1.out] at ho9|(simp only [Int.reduceToNat] at ho9;rw [← Ny1.out] at ho9));have HO1:=A0_ (Kd.R_lower ho9 (bz_ ai));replace HB:=hb_ hb ai;clear hb ho9;obtain ⟨i010,hi010,_,hsz10,_⟩:=info_parts jp;obtain ⟨A1,hcut10,hA10,hC10⟩:=eg (P:=Tryz.prog) (Value.int .u8) 0 43 5 .i64 Tryz.underlying43 hi010 hsz10 A0 c0 l0 (l0.length:Int) (od_ ay) (od_ ay) HC0.out;have HR704:=A0_ (Kd.C_of_reads (h1:=fun _=>rfl) (hA10 _ (Kd.reads_of_C HR0.out)));rw [hdd_] at HR704;have HC704:=A0_ hC10;clear hA10 hC10 hi010 hsz10)|((with_reducible refine bX (b:=.append) (xs:=#[.tmp 11,.tmp 14]) rfl ?_);at_builtin;refine Kd.R_append_rows (Kd.int .u8) (w0:=w) w.heap.size rfl (.tmp 11) (.tmp 14) 43 5 (.int .u8 0) 1 rfl Tryz.underlying43 jp rfl ag bm v1 y1 ([]:List Int) _ _ _ (fun _=>True) (fun _=>False) rfl rfl ?aO ?aR (fun _ _ h=>h) (fun _ h=>h.elim) ?aF ?aB ?aS ?aL ?_;(case aR=>first|(rw [← show ([]:List Int).length=(l0.length - (l0.length:Int).toNat) from ld_];repeat (first|exact (cb_ HR704.out HB.out)|(with_reducible refine ca_ ?_ _)|(with_reducible refine cn_ ?_ _)|(with_reducible refine cd_ ?_)))|(repeat (first|exact (cb_ HR704.out HB.out)|(with_reducible refine ca_ ?_ _)|(with_reducible refine cn_ ?_ _)|(with_reducible refine cd_ ?_))));(case aB=>exact ai);(case aF=>exact (fun _ _=>trivial));(case aO=>exact bx);(case aS=>exact (bz_ ai));(case aL=>have:=LMc1.out;have hlx_:([]:List Int).length=0:=rfl;omega);intro v2 w2 ho hb hg hat;rw [← Ny2.out] at ho;have n0_:=A0_ (hb);have n1_:=A0_ (ho);clear HB HO1;have HB:=n0_;have HO2:=n1_;clear n0_ n1_ ho hb hg hat)|((with_reducible refine bX (b:=.append) (xs:=#[.tmp 15,.tmp 18]) rfl ?_);at_builtin;refine Kd.R_append (Kd.int .u8) (w0:=w) w.heap.size rfl (.tmp 15) (.tmp 18) 43 5 (.int .u8 0) 1 rfl Tryz.underlying43 jp rfl ag bm v2 y2 (((l0.length:Int)) % 256) [.int .u8 (((l0.length:Int)) % 256)] (fun _=>True) (fun _=>False) rfl rfl ?aP (fun _ hk=>hk.elim) ?aF ?aO ?aB ?aS ?aL ?_;(case aP=>exact rfl);(case aB=>exact ai);(case aF=>exact (fun _ _=>trivial));(case aO=>exact cd);(case aS=>exact (bz_ ai));(case aL=>have:=LMc2.out;omega);intro v3 w3 ho hb hg hat;rw [← Ny3.out] at ho;have n0_:=A0_ (hb);have n1_:=A0_ (ho);clear HB HO2;have HB:=n0_;have HO3:=n1_;clear n0_ n1_ ho hb hg hat))
 go_ret
 exact ⟨_,aE,d9,ai⟩

def cB.f (k:Nat) (a0_0:Int) (a0_1:Bool) (l0_2:List Int) (l0_3:List Int) (a0_4:Int) (a1_0:Int) (a1_1:Int) (a1_2:Int):Option (Int × Bool × List Int × List Int × Int × Bool):=(ao.f k a0_0 a0_1 l0_2 l0_3 a0_4).bind fun t724=>(if t724=true then ((aK.f k a0_0 a0_1 l0_2 l0_3 a0_4 a1_0 a1_1 a1_2).bind fun bt725=>(some (bt725.1,bt725.2.1,bt725.2.2.1,bt725.2.2.2.1,bt725.2.2.2.2.1,bt725.2.2.2.2.2))) else (some (0,false,([]:List Int),([]:List Int),0,false)))
theorem cB.mono:∀ a0 a1 a2 a3 a4 a5 a6 a7 k,LeO (cB.f k a0 a1 a2 a3 a4 a5 a6 a7) (cB.f (k+1) a0 a1 a2 a3 a4 a5 a6 a7):=by
 intro a0 a1 a2 a3 a4 a5 a6 a7 k;unfold cB.f
 repeat' with_reducible first|exact aK.mono ..|exact ao.mono ..|exact LeO.refl ..|exact LeO.none ..|refine LeO.ite ?_ ?_|refine LeO.bind ?_ (fun _=>?_)
theorem cB.calls (k:Nat) (a0_0:Int) (a0_1:Bool) (A0_2:Option Addr) (c0_2:Nat) (l0_2:List Int) (A0_3:Option Addr) (c0_3:Nat) (l0_3:List Int) (a0_4:Int) (a1_0:Int) (a1_1:Int) (a1_2:Int) (r1:Int) (r2:Bool) (r3:List Int) (r4:List Int) (r5:Int) (r6:Bool) (w:World) (hr0_2:Kd.C (Kd.int .i64) w A0_2 l0_2.length l0_2) (hc0_2:l0_2.length≤c0_2) (hr0_3:Kd.C (Kd.int .i64) w A0_3 l0_3.length l0_3) (hc0_3:l0_3.length≤c0_3) (H:cB.f k a0_0 a0_1 l0_2 l0_3 a0_4 a1_0 a1_1 a1_2=some (r1,r2,r3,r4,r5,r6)) :
  Calls Tryz.prog 23 #[.agg #[.int .i64 a0_0,.bool a0_1,.slice A0_2 l0_2.length c0_2,.slice A0_3 l0_3.length c0_3,.int .i64 a0_4],.agg #[.int .i64 a1_0,.int .i64 a1_1,.int .i64 a1_2]] w fun e w'=>∃ v2_ v3_:Value,e=.returned (.tuple #[.agg #[.int .i64 r1,.bool r2,v2_,v3_,.int .i64 r5],.bool r6])∧Kd.R (Kd.int .i64) 3 w' w.heap.size (fun k_=>no_ v3_ k_) v2_ r3∧Kd.R (Kd.int .i64) 3 w' w.heap.size (fun k_=>no_ v2_ k_) v3_ r4∧Below w.heap.size w w':=by
 have hu32:=Tryz.underlying32;have hu50:=Tryz.underlying50;have HR0_2:=A0_ hr0_2;have HC0_2:=A0_ hc0_2;clear hr0_2 hc0_2;have HR0_3:=A0_ hr0_3;have HC0_3:=A0_ hc0_3;clear hr0_3 hc0_3;have HB:=A0_ (Below.refl w.heap.size w);unfold cB.f at H;obtain ⟨t1,A2,H⟩:=o1_ H
 by_cases c1:t1=true
 case neg =>
  obtain rfl:=bf_.mpr c1;rw [if_neg ft_] at H;simp only [sj_,pj_] at H;obtain ⟨rfl,rfl,rfl,rfl,rfl,rfl⟩:=H;go_enter Tryz.func23,Tryz.ntmps23
  go_wp2_with (first|((with_reducible refine gd_ (N:=2) rfl ?_);refine bx_ 2 #[.int .i64 a0_0,.bool a0_1,.slice A0_2 l0_2.length c0_2,.slice A0_3 l0_3.length c0_3,.int .i64 a0_4] 32 ?_;intro gb1 hg w1 BK1 hb;have GW1:=ge_ hg ai;have GE1:=GW1;replace HB:=hb_ hb ai;clear hb hg)|((with_reducible refine gd_ (N:=3) rfl ?_);refine bx_ 3 #[.int .i64 a1_0,.int .i64 a1_1,.int .i64 a1_2] 50 ?_;intro gb2 hg w2 BK2 hb;have GW2:=ge_ hg aj;have GE2:=GW2;replace HB:=hb_ hb aj;obtain ⟨NB1_2,NB2_1⟩:=nn_ hg BK1;replace BK1:=k1_ BK1 hb;clear hb hg)|((with_reducible refine gd_ (N:=4) rfl ?_);refine bx_ 4 #[.int .i64 0,.bool false,.slice none 0 0,.slice none 0 0,.int .i64 0] 32 ?_;intro gb3 hg w3 BK3 hb;have GW3:=ge_ hg au;have GE3:=GW3;replace HB:=hb_ hb au;obtain ⟨NB1_3,NB3_1⟩:=nn_ hg BK1;replace BK1:=k1_ BK1 hb;obtain ⟨NB2_3,NB3_2⟩:=nn_ hg BK2;replace BK2:=k1_ BK2 hb;clear hb hg;obtain ⟨hnb1,hnc1⟩:=n2_ NB1_2;obtain ⟨hnb2,hnc2⟩:=n2_ NB1_3;have hcz1:=z5_ BK1)|((with_reducible refine gc_ (f:=32) rfl ?_);refine gl_ 7 Tryz.func32 #[.agg #[.int .i64 a0_0,.bool a0_1,.slice A0_2 l0_2.length c0_2,.slice A0_3 l0_3.length c0_3,.int .i64 a0_4]] ?_;(with_reducible refine (ao.calls k a0_0 a0_1 _ _ l0_2 _ _ l0_3 a0_4 false _ ?_ ?_ ?_ ?_ A2.out).mono ?_);exact bz;exact HC0_2.out;exact b6;exact HC0_3.out;rintro e w4 ⟨rfl,hb⟩;refine ⟨_,rfl,?_⟩;replace BK1:=k1_ BK1 hb;replace BK2:=k1_ BK2 hb;replace BK3:=k1_ BK3 hb;replace HB:=hb_ hb aD;(try clear hb);obtain ⟨hnb3,hnc3⟩:=n2_ NB3_2;have hcz2:=z5_ BK3))
  refine bodyPost_ret (cU rfl _ _ gb3 32 #[.int .i64 0,.bool false,.slice none 0 0,.slice none 0 0,.int .i64 0] (0,0) _ rfl (u1_ BK3) Tryz.underlying32 rfl aY) rfl ?_
  exact ⟨_,_,aE,dF,dF,aD⟩
 subst c1;rw [if_pos rfl] at H;obtain ⟨⟨t2,t3,t4,t5,t6,t7⟩,A4,H⟩:=o1_ H;replace H:(some (t2,t3,t4,t5,t6,t7))=some (r1,r2,r3,r4,r5,r6):=H;simp only [sj_,pj_] at H;obtain ⟨rfl,rfl,rfl,rfl,rfl,rfl⟩:=H;go_enter Tryz.func23,Tryz.ntmps23
 go_wp2_with (first|((with_reducible refine gd_ (N:=2) rfl ?_);refine bx_ 2 #[.int .i64 a0_0,.bool a0_1,.slice A0_2 l0_2.length c0_2,.slice A0_3 l0_3.length c0_3,.int .i64 a0_4] 32 ?_;intro gb1 hg w1 BK1 hb;have GW1:=ge_ hg ai;have GE1:=GW1;replace HB:=hb_ hb ai;clear hb hg)|((with_reducible refine gd_ (N:=3) rfl ?_);refine bx_ 3 #[.int .i64 a1_0,.int .i64 a1_1,.int .i64 a1_2] 50 ?_;intro gb2 hg w2 BK2 hb;have GW2:=ge_ hg aj;have GE2:=GW2;replace HB:=hb_ hb aj;obtain ⟨NB1_2,NB2_1⟩:=nn_ hg BK1;replace BK1:=k1_ BK1 hb;clear hb hg)|((with_reducible refine gd_ (N:=4) rfl ?_);refine bx_ 4 #[.int .i64 0,.bool false,.slice none 0 0,.slice none 0 0,.int .i64 0] 32 ?_;intro gb3 hg w3 BK3 hb;have GW3:=ge_ hg au;have GE3:=GW3;replace HB:=hb_ hb au;obtain ⟨NB1_3,NB3_1⟩:=nn_ hg BK1;replace BK1:=k1_ BK1 hb;obtain ⟨NB2_3,NB3_2⟩:=nn_ hg BK2;replace BK2:=k1_ BK2 hb;clear hb hg;obtain ⟨hnb1,hnc1⟩:=n2_ NB1_2;obtain ⟨hnb2,hnc2⟩:=n2_ NB1_3;have hcz1:=z5_ BK1)|((with_reducible refine gc_ (f:=32) rfl ?_);refine gl_ 7 Tryz.func32 #[.agg #[.int .i64 a0_0,.bool a0_1,.slice A0_2 l0_2.length c0_2,.slice A0_3 l0_3.length c0_3,.int .i64 a0_4]] ?_;(with_reducible refine (ao.calls k a0_0 a0_1 _ _ l0_2 _ _ l0_3 a0_4 true _ ?_ ?_ ?_ ?_ A2.out).mono ?_);exact bz;exact HC0_2.out;exact b6;exact HC0_3.out;rintro e w4 ⟨rfl,hb⟩;refine ⟨_,rfl,?_⟩;replace BK1:=k1_ BK1 hb;replace BK2:=k1_ BK2 hb;replace BK3:=k1_ BK3 hb;replace HB:=hb_ hb aD;(try clear hb);have hcz2:=z5_ BK1;obtain ⟨hnb3,hnc3⟩:=n2_ NB2_3;have hcz3_0:=y_ BK2 0;have hcz3_1:=y_ BK2 1;have hcz3_2:=y_ BK2 2;have hfz3_0:=kf_ BK2.out 0;have hfz3_1:=kf_ BK2.out 1;have hfz3_2:=kf_ BK2.out 2)|((with_reducible refine gc_ (f:=34) rfl ?_);refine gl_ 12 Tryz.func34 #[.agg #[.int .i64 a0_0,.bool a0_1,.slice A0_2 l0_2.length c0_2,.slice A0_3 l0_3.length c0_3,.int .i64 a0_4],.agg #[.int .i64 a1_0,.int .i64 a1_1,.int .i64 a1_2]] ?_;(with_reducible refine (aK.calls k a0_0 a0_1 _ _ l0_2 _ _ l0_3 a0_4 a1_0 a1_1 a1_2 t2 t3 t4 t5 t6 t7 _ ?_ ?_ ?_ ?_ A4.out).mono ?_);exact bz;exact HC0_2.out;exact b6;exact HC0_3.out;rintro e w5 ⟨v1,v4,rfl,ho0,ho1,hb⟩;refine ⟨_,rfl,?_⟩;have HO1:=A0_ (Kd.R_lower ho0 (bz_ aD));have HO2:=A0_ (Kd.R_lower ho1 (bz_ aD));replace BK1:=k1_ BK1 hb;replace BK2:=k1_ BK2 hb;replace BK3:=k1_ BK3 hb;replace HB:=hb_ hb aD;(try clear hb ho0 ho1);have hcz4:=z5_ BK3;obtain ⟨Ao1,co1,eo1⟩:=Kd.R_slice HO1.out;subst eo1;obtain ⟨Ao2,co2,eo2⟩:=Kd.R_slice HO2.out;subst eo2))
 refine bodyPost_ret (cU rfl _ _ gb3 32 #[.int .i64 t2,.bool t3,.slice Ao1 t4.length co1,.slice Ao2 t5.length co2,.int .i64 t6] (0,0) _ rfl (u1_ BK3) Tryz.underlying32 rfl aY) rfl ?_
 exact ⟨_,_,aE,lT,lY,aD⟩

mutual
def al.l0:Nat→List (S50)→Int→List Int→Int→Int→Int→Bool→List Int→List Int→Int→Int→Bool→List Int→List Int→Int→Option (Int × Bool × List Int × List Int × Int × (List (S50)) × Int × Int)
 | 0,_,_,_,_,_,_,_,_,_,_,_,_,_,_,_=>none
 | k+1,x6,x8,xf,xg,xh,xi,xj,xk,xl,xm,xa,xb,xc,xd,xe=>if x8 > 0 then ((ao.f k xa xb xc xd xe).bind fun t780=>(al.j1 k x6 x8 t780 xf xg xh xi xj xk xl xm xa xb xc xd xe)) else (al.j1 k x6 x8 false xf xg xh xi xj xk xl xm xa xb xc xd xe)
def al.j1:Nat→List (S50)→Int→Bool→List Int→Int→Int→Int→Bool→List Int→List Int→Int→Int→Bool→List Int→List Int→Int→Option (Int × Bool × List Int × List Int × Int × (List (S50)) × Int × Int)
 | 0,_,_,_,_,_,_,_,_,_,_,_,_,_,_,_,_=>none
 | k+1,x6,x8,x26,xa,xl,xm,xb,xc,xd,xe,xf,xg,xh,xi,xj,xk=>if x26=true then ((ab.f k xa xl xm xg xh xi xj xk).bind fun bt781=>(if x6.length<5864062014805 then ((some (x6++[(⟨bt781.1,bt781.2.1,bt781.2.2.1⟩:S50)]:List (S50))).bind fun y787=>((aK.f k xg xh xi xj xk bt781.1 bt781.2.1 bt781.2.2.1).bind fun bt790=>(if bt790.2.2.2.2.2=true then (al.l0 k y787 (wrap64 (x8 - 1)) xa bt781.2.2.2.1 bt781.2.2.2.2 xb xc xd xe xf bt790.1 bt790.2.1 bt790.2.2.1 bt790.2.2.2.1 bt790.2.2.2.2.1) else (al.l0 k y787 (wrap64 (x8 - 1)) xa bt781.2.2.2.1 bt781.2.2.2.2 xb xc xd xe xf xg xh xi xj xk)))) else (none))) else (some (xb,xc,xd,xe,xf,x6,xl,xm))
end
def al.f (k:Nat) (s0_0:List Int) (s0_1:Int) (s0_2:Int):Option (Int × Bool × List Int × List Int × Int × (List (S50)) × Int × Int):=(ah.f k s0_0 s0_1 s0_2).bind fun bt761=>((aC.f s0_0 bt761.2.2.2.2.2.1 bt761.2.2.2.2.2.2 6).bind fun bt777=>(al.l0 k (([]:List (S50))) bt777.1 s0_0 bt777.2.1 bt777.2.2 bt761.1 bt761.2.1 bt761.2.2.1 bt761.2.2.2.1 bt761.2.2.2.2.1 bt761.1 bt761.2.1 bt761.2.2.1 bt761.2.2.2.1 bt761.2.2.2.2.1))
theorem al.mono_l:∀ k,(∀ y0 y1 y2 y3 y4 y5 y6 y7 y8 y9 y10 y11 y12 y13 y14,LeO (al.l0 k y0 y1 y2 y3 y4 y5 y6 y7 y8 y9 y10 y11 y12 y13 y14) (al.l0 (k+1) y0 y1 y2 y3 y4 y5 y6 y7 y8 y9 y10 y11 y12 y13 y14))∧(∀ y0 y1 y2 y3 y4 y5 y6 y7 y8 y9 y10 y11 y12 y13 y14 y15,LeO (al.j1 k y0 y1 y2 y3 y4 y5 y6 y7 y8 y9 y10 y11 y12 y13 y14 y15) (al.j1 (k+1) y0 y1 y2 y3 y4 y5 y6 y7 y8 y9 y10 y11 y12 y13 y14 y15))
 | 0=>⟨fun _ _ _ _ _ _ _ _ _ _ _ _ _ _ _ r h=>by simp [al.l0] at h,fun _ _ _ _ _ _ _ _ _ _ _ _ _ _ _ _ r h=>by simp [al.j1] at h⟩
 | k+1=>by
  obtain ⟨ih0,ih1⟩:=al.mono_l k
  refine ⟨?_,?_⟩
  ·intro y0 y1 y2 y3 y4 y5 y6 y7 y8 y9 y10 y11 y12 y13 y14
   unfold al.l0
   repeat' with_reducible first|exact ih0 ..|exact ih1 ..|exact aK.mono ..|exact ao.mono ..|exact ah.mono ..|exact ab.mono ..|exact LeO.refl ..|exact LeO.none ..|refine LeO.ite ?_ ?_|refine LeO.bind ?_ (fun _=>?_)
  ·intro y0 y1 y2 y3 y4 y5 y6 y7 y8 y9 y10 y11 y12 y13 y14 y15
   unfold al.j1
   repeat' with_reducible first|exact ih0 ..|exact ih1 ..|exact aK.mono ..|exact ao.mono ..|exact ah.mono ..|exact ab.mono ..|exact LeO.refl ..|exact LeO.none ..|refine LeO.ite ?_ ?_|refine LeO.bind ?_ (fun _=>?_)
theorem al.mono:∀ a0 a1 a2 k,LeO (al.f k a0 a1 a2) (al.f (k+1) a0 a1 a2):=by
 intro a0 a1 a2 k;obtain ⟨ih0,ih1⟩:=al.mono_l k;unfold al.f
 repeat' with_reducible first|exact ih0 ..|exact ih1 ..|exact aK.mono ..|exact ao.mono ..|exact ah.mono ..|exact ab.mono ..|exact LeO.refl ..|exact LeO.none ..|refine LeO.ite ?_ ?_|refine LeO.bind ?_ (fun _=>?_)
theorem aa.grownW {w0 W:World} {g:Nat} {f0:List Int} {f1:Int} {f2:Int} {W1:World} {row:Option Nat} (h:aa w0 W g f0 f1 f2) (hw:W.grownBy W1 row) (hne:some g≠row):aa w0 W1 g f0 f1 f2:=by
 obtain ⟨A1,c1,hb,hg,hr0⟩:=h
 exact ⟨A1,c1,aJ hb hw hne,hg,hr0⟩
def cj.f (k:Nat) (l0:List Int):Option (Int × Bool × List Int × List Int × Int × (List (S50))):=(al.f k l0 0 0).bind fun b=>some (b.1,b.2.1,b.2.2.1,b.2.2.2.1,b.2.2.2.2.1,b.2.2.2.2.2.1)
theorem cj.mono:∀ a0 k,LeO (cj.f k a0) (cj.f (k+1) a0):=by
 intro a0 k;unfold cj.f
 exact LeO.bind (al.mono _ _ _ _) (fun _=>LeO.refl _)
theorem cj.calls (k:Nat) (A0:Option Addr) (c0:Nat) (l0:List Int) (r1:Int) (r2:Bool) (r3:List Int) (r4:List Int) (r5:Int) (r6:List S50) (w:World) (hr0:Kd.C (Kd.int .u8) w A0 l0.length l0) (hc0:l0.length≤c0) (h:cj.f k l0=some (r1,r2,r3,r4,r5,r6)) :
  Calls Tryz.prog 24 #[.slice A0 l0.length c0] w fun e w'=>∃ v2_ v3_ v5_:Value,e=.returned (.tuple #[.agg #[.int .i64 r1,.bool r2,v2_,v3_,.int .i64 r5],v5_])∧Kd.R (Kd.int .i64) 3 w' w.heap.size (fun k_=>no_ v3_ k_) v2_ r3∧Kd.R (Kd.int .i64) 3 w' w.heap.size (fun k_=>no_ v2_ k_) v3_ r4∧Kd.R k50 50 w' w.heap.size (fun _=>True) v5_ r6∧Below w.heap.size w w':=by
 have hu32:=Tryz.underlying32;have hu50:=Tryz.underlying50;have hu75:=Tryz.underlying75;have HB:=A0_ (Below.refl w.heap.size w);obtain ⟨⟨r1_,r2_,r3_,r4_,r5_,r6_,r7,r8⟩,h,h_⟩:=ob_.mp (show (al.f k l0 0 0).bind (fun b=>some (b.1,b.2.1,b.2.2.1,b.2.2.2.1,b.2.2.2.2.1,b.2.2.2.2.2.1))=some (r1,r2,r3,r4,r5,r6) from h)
 replace h:al.f k l0 0 0=some (r1,r2,r3,r4,r5,r6,r7,r8):=by rw [h];cases h_;rfl
 clear h_;have H:((ah.f k l0 0 0).bind fun bt1=>((aC.f l0 bt1.2.2.2.2.2.1 bt1.2.2.2.2.2.2 6).bind fun bt2=>(al.l0 k (([]:List (S50))) bt2.1 l0 bt2.2.1 bt2.2.2 bt1.1 bt1.2.1 bt1.2.2.1 bt1.2.2.2.1 bt1.2.2.2.2.1 bt1.1 bt1.2.1 bt1.2.2.1 bt1.2.2.2.1 bt1.2.2.2.2.1)))=some (r1,r2,r3,r4,r5,r6,r7,r8):=h;clear h;obtain ⟨⟨t1,t2,t3,t4,t5,t6,t7⟩,A2,H⟩:=o1_ H;obtain ⟨y1,hy1⟩:∃ y_:List (S50),y_=(([]:List (S50))):=⟨_,rfl⟩;replace H:((aC.f l0 t6 t7 6).bind fun bt2=>(al.l0 k y1 bt2.1 l0 bt2.2.1 bt2.2.2 t1 t2 t3 t4 t5 t1 t2 t3 t4 t5))=some (r1,r2,r3,r4,r5,r6,r7,r8):=dx;have Ny1:=A0_ hy1;clear hy1;obtain ⟨⟨t8,t9,t10⟩,A4,H⟩:=o1_ H;have H':=A0_ H;clear H;go_enter Tryz.func24,Tryz.ntmps24
 go_wp2_with (first|((with_reducible refine gd_ (N:=2) rfl ?_);refine bx_ 2 #[.int .i64 0,.bool false,.slice none 0 0,.slice none 0 0,.int .i64 0] 32 ?_;intro gb1 hg w1 hbox hb;have n2_:=A0_ (bt_ ai hb);have n3_:=hbox;have n4_:=A0_ ((iz:w.heap.size≤gb1));clear HB;have HB:=n2_;have BK1:=n3_;have GW1:=n4_;have GE1:=n4_;clear n2_ n3_ n4_ hb hbox hg)|((with_reducible refine gd_ (N:=14) rfl ?_);refine be_ ?hg (N:=14) ?hd (cs:=#[.slice A0 l0.length c0,.int .i64 0,.int .u64 0]) (t:=75) ?hr ?_;(case hd=>rfl);(case hg=>rfl);(case hr=>go_simp;first|done|rfl);intro g hg wB hbox hb;have n0_:=A0_ (show aa w wB g l0 0 0 from ⟨A0,c0,hbox,iz,hr0⟩);have n1_:=A0_ (af.refl wB g none);have n2_:=A0_ (bt_ ai hb);have HW0:=A0_ (Below.size n2_.out);have m760_:=A0_ (kb_ (g:=gb1) (o:=.cells #[.int .i64 0,.bool false,.slice none 0 0,.slice none 0 0,.int .i64 0] 32 (0,0)) (u1_ BK1) hb);have NB0_1:=A0_ ((nc:g≠gb1));have NB1_0:=A0_ (Ne.symm NB0_1.out);clear HB BK1;have HI0:=n0_;have HK:=n1_;have HB:=n2_;have BK1:=m760_;clear m760_ n0_ n1_ n2_ hb hbox hg)|((with_reducible refine gc_ (f:=50) rfl ?_);refine gl_ 16 Tryz.func50 #[.pointer (some ⟨g,0,none⟩)] ?_;(with_reducible refine (ah.calls k g l0 0 0 t1 t2 t3 t4 t5 t6 t7 w _ ?_ ?_ A2.out).mono ?_);exact cM;exact dw;rintro e w2 ⟨v1,v4,rfl,ho0,ho1,hi,hb,hk⟩;refine ⟨_,rfl,?_⟩;replace BK1:=bT BK1 hk NB1_0;have HO1:=A0_ (Kd.R_lower ho0 (ba (w:=wB) (g:=g) (row:=none) cF));have HO2:=A0_ (Kd.R_lower ho1 (ba (w:=wB) (g:=g) (row:=none) cF));replace HK:=A0_ (af.trans cF hk (.inl rfl));replace HB:=A0_ (hb);replace HI0:=A0_ (hi);(try clear hb hk hi ho0 ho1))|((with_reducible refine gd_ (N:=5) rfl ?_);refine bx_ 5 #[.int .i64 0,.bool false,.slice none 0 0,.slice none 0 0,.int .i64 0] 32 ?_;intro gb2 hg w3 BK2 hb;replace HO1:=q1_ HO1 hb;replace HO2:=q1_ HO2 hb;replace HB:=hb_ hb dw;have GW2:=A0_ ((mR:wB.heap.size≤gb2));have GE2:=A0_ ((Nat.le_trans HW0.out (mR:wB.heap.size≤gb2):w.heap.size≤gb2));replace HK:=A0_ (af.trans cF (af.of_below hb g none) (.inl rfl));obtain ⟨NB1_2,NB2_1⟩:=nn_ hg BK1;replace BK1:=k1_ BK1 hb;have NB0_2:=A0_ ((by rw [hg];exact Nat.ne_of_lt (aa.lt (show aa w _ g l0 t6 t7 from cM)):g≠gb2));have NB2_0:=A0_ ((by rw [hg];exact Nat.ne_of_gt (aa.lt (show aa w _ g l0 t6 t7 from cM)):gb2≠g));replace HI0:=A0_ (aa.below cM hb);clear hb hg;obtain ⟨hnb1,hnc1⟩:=n2_ NB2_1;obtain ⟨hnb2,hnc2⟩:=n2_ NB2_0;have hcz1:=z5_ BK2;obtain ⟨Ao1,co1,eo1⟩:=Kd.R_slice HO1.out;subst eo1;obtain ⟨Ao2,co2,eo2⟩:=Kd.R_slice HO2.out;subst eo2)|((with_reducible refine gd_ (N:=17) rfl ?_);refine Kd.R_lit k50 _ 50 ?hg (N:=17) ?hd (xs:=([]:List (S50))) (inner:=[]) (ok:=fun _=>True) (okp:=fun _=>True) ?hr ?hp (fun _ hk=>hk) trivial (Below.refl _ _) (Nat.le_refl _) bB ?_;(case hd=>rfl);(case hg=>rfl);(case hr=>go_simp;first|done|rfl);(case hp=>exact (aN.none _ _));intro v6 w4 ho13 hb hg_ hnew_;clear hg_ hnew_;(first|rw [← Ny1.out] at ho13|(simp only [Int.reduceToNat] at ho13;rw [← Ny1.out] at ho13));replace HO1:=A0_ (Kd.R_below iy hb);replace HO2:=A0_ (Kd.R_below iw hb);have HO3:=A0_ (Kd.R_lower ho13 (ba (w:=wB) (g:=g) (row:=none) cb));replace BK1:=k1_ BK1 hb;replace BK2:=k2_ (.cells #[.int .i64 t1,.bool t2,.slice Ao1 t3.length co1,.slice Ao2 t4.length co2,.int .i64 t5] 32 (0,0)) BK2 hb;replace HK:=A0_ (af.trans cb (af.of_below hb g none) (.inl rfl));replace HB:=hb_ hb cJ;replace HI0:=A0_ (aa.below (show aa w (((((w3.setCell ⟨gb2,0,none⟩ (.int .i64 t1)).setCell ⟨gb2,1,none⟩ (.bool t2)).setCell ⟨gb2,2,none⟩ (.slice Ao1 t3.length co1)).setCell ⟨gb2,3,none⟩ (.slice Ao2 t4.length co2)).setCell ⟨gb2,4,none⟩ (.int .i64 t5)) g l0 t6 t7 from bI) hb);clear hb ho13;have hcz2:=z5_ BK2)|((with_reducible refine gd_ (N:=7) rfl ?_);refine bx_ 7 #[.int .i64 0,.bool false,.slice none 0 0,.slice none 0 0,.int .i64 0] 32 ?_;intro gb3 hg w5 BK3 hb;replace HO1:=q1_ HO1 hb;replace HO2:=q1_ HO2 hb;replace HO3:=q1_ HO3 hb;replace HB:=hb_ hb cJ;have GW3:=A0_ ((kR:wB.heap.size≤gb3));have GE3:=A0_ ((Nat.le_trans HW0.out (kR:wB.heap.size≤gb3):w.heap.size≤gb3));replace HK:=A0_ (af.trans cb (af.of_below hb g none) (.inl rfl));obtain ⟨NB1_3,NB3_1⟩:=nn_ hg BK1;replace BK1:=k1_ BK1 hb;obtain ⟨NB2_3,NB3_2⟩:=nn_ hg BK2;replace BK2:=k1_ BK2 hb;have NB0_3:=A0_ ((nm:g≠gb3));have NB3_0:=A0_ ((nQ:gb3≠g));replace HI0:=A0_ (aa.below bI hb);clear hb hg;obtain ⟨hnb3,hnc3⟩:=n2_ NB3_1;obtain ⟨hnb4,hnc4⟩:=n2_ NB3_2;obtain ⟨hnb5,hnc5⟩:=n2_ NB3_0;have hcz3:=z5_ BK3)|((with_reducible refine gc_ (f:=55) rfl ?_);refine gl_ 20 Tryz.func55 #[.pointer (some ⟨g,0,none⟩),.int .i64 6] ?_;(with_reducible refine (aC.calls g l0 t6 t7 6 t8 t9 t10 w _ ?_ ?_ A4.out).mono ?_);exact bN;exact ct;rintro e w6 ⟨rfl,hi,hb,hk⟩;refine ⟨_,rfl,?_⟩;replace BK1:=bT BK1 hk NB1_0;replace HO1:=A0_ (Kd.R_mono (Kd.R_keep (aa.apart (show aa w _ g l0 t6 t7 from bN) (by (with_reducible repeat (first|apply ra_|apply rn_|apply rd_));exact (Kd.R_mono (bw (Kd.R_types HO1.out BK3.out ag)) (fun _ h_=>h_.1))) ag) hk (fun _ h=>h.2)) (fun _ h=>h.1));replace HO2:=A0_ (Kd.R_mono (Kd.R_keep (aa.apart (show aa w _ g l0 t6 t7 from bN) (by (with_reducible repeat (first|apply ra_|apply rn_|apply rd_));exact (Kd.R_mono (bw (Kd.R_types HO2.out BK3.out ag)) (fun _ h_=>h_.1))) ag) hk (fun _ h=>h.2)) (fun _ h=>h.1));replace BK2:=bT BK2 hk NB2_0;replace HO3:=A0_ (Kd.R_mono (Kd.R_keep (aa.apart (show aa w _ g l0 t6 t7 from bN) (by (with_reducible repeat (first|apply ra_|apply rn_|apply rd_));exact (Kd.R_mono (bw (Kd.R_types HO3.out BK3.out ag)) (fun _ h_=>h_.1))) ag) hk (fun _ h=>h.2)) (fun _ h=>h.1));replace BK3:=A0_ (af.blk hk (g':=gb3) (o:=.cells #[.int .i64 t1,.bool t2,.slice Ao1 t3.length co1,.slice Ao2 t4.length co2,.int .i64 t5] 32 (0,0)) (u1_ BK3) NB3_0.out bB);replace HK:=A0_ (af.trans bZ hk (.inl rfl));replace HB:=A0_ (hb);replace HI0:=A0_ (hi);(try clear hb hk hi)))
 go_loopg [6,8] k (fun kq v7 v8 w'=>∃ (x6_1:List (S50)) (x8_1:Int) (x1001_1:Int) (x1002_1:Int) (xc:Int) (xd:Bool) (xa:List Int) (xb:List Int) (xe:Int) (uf:Value) (ug:Value),v8=.int .i64 x8_1∧Aside0 (al.l0 kq x6_1 x8_1 l0 x1001_1 x1002_1 t1 t2 t3 t4 t5 xc xd xa xb xe=some (r1,r2,r3,r4,r5,r6,r7,r8))∧Aside0 (kq≤k)∧Aside0 (Kd.R k50 50 w' wB.heap.size (fun _=>True) v7 x6_1)∧Aside0 (Kd.R (Kd.int .i64) 3 w' wB.heap.size (fun k_=>no_ (.slice Ao2 t4.length co2) k_∧no_ ug k_) (.slice Ao1 t3.length co1) t3)∧Aside0 (Kd.R (Kd.int .i64) 3 w' wB.heap.size (fun k_=>no_ (.slice Ao1 t3.length co1) k_∧no_ uf k_) (.slice Ao2 t4.length co2) t4)∧Aside0 (Kd.R (Kd.int .i64) 3 w' wB.heap.size (fun k_=>no_ (.slice Ao2 t4.length co2) k_∧no_ ug k_) uf xa)∧Aside0 (Kd.R (Kd.int .i64) 3 w' wB.heap.size (fun k_=>no_ (.slice Ao1 t3.length co1) k_∧no_ uf k_) ug xb)∧Aside0 (w'.heap[gb1]?=some (.cells #[.int .i64 0,.bool false,(.slice none 0 0),(.slice none 0 0),.int .i64 0] 32 (0,0)))∧Aside0 (w'.heap[gb2]?=some (.cells #[.int .i64 t1,.bool t2,(.slice Ao1 t3.length co1),(.slice Ao2 t4.length co2),.int .i64 t5] 32 (0,0)))∧Aside0 (w'.heap[gb3]?=some (.cells #[.int .i64 xc,.bool xd,uf,ug,.int .i64 xe] 32 (0,0)))∧Aside0 (aa w w' g l0 x1001_1 x1002_1)∧Aside0 (af wB w' g none)∧Aside0 (Below w.heap.size w w'))
 case atStart=>exact ⟨(y1),(t8),(t9),(t10),(t1),(t2),(t3),(t4),(t5),(.slice Ao1 t3.length co1),(.slice Ao2 t4.length co2),aX,H',⟨Nat.le_refl _⟩,⟨d9⟩,⟨na⟩,⟨nj⟩,⟨na⟩,⟨nj⟩,⟨u1_ BK1⟩,⟨u1_ BK2⟩,⟨u1_ BK3⟩,⟨bN⟩,⟨bZ⟩,⟨ct⟩⟩
 clear H'
 (try clear hcz2);(try clear hcz3);(try clear hcz1);(try clear hfz2);(try clear hfz3);(try clear hfz1)
 obtain ⟨x6_1,x8_1,x1001_1,x1002_1,xc,xd,xa,xb,xe,uf,ug,rfl,HA,HK1,HO_1,HO_2,HO_3,HO_4,HO_5,BK1,BK2,BK3,HI0,HK,HB⟩:=hrel
 cases gk with|zero=>exact absurd HA.out (by simp [al.l0])|succ k1=>?_
 have H:=HA.out;clear HA;simp only [al.l0] at H;have HC21:=A0_ H;clear H
 go_upto_region 6 with (fail)
 go_cut [26] (fun v9 wc=>∃ (kq:Nat) (x26_20:Bool),v9=.bool x26_20∧Aside0 (al.j1 kq x6_1 x8_1 x26_20 l0 x1001_1 x1002_1 t1 t2 t3 t4 t5 xc xd xa xb xe=some (r1,r2,r3,r4,r5,r6,r7,r8))∧Aside0 (kq≤k1)∧Aside0 (Kd.R k50 50 wc wB.heap.size (fun _=>True) u6 x6_1)∧Aside0 (Kd.R (Kd.int .i64) 3 wc wB.heap.size (fun k_=>no_ (.slice Ao2 t4.length co2) k_∧no_ ug k_) (.slice Ao1 t3.length co1) t3)∧Aside0 (Kd.R (Kd.int .i64) 3 wc wB.heap.size (fun k_=>no_ (.slice Ao1 t3.length co1) k_∧no_ uf k_) (.slice Ao2 t4.length co2) t4)∧Aside0 (Kd.R (Kd.int .i64) 3 wc wB.heap.size (fun k_=>no_ (.slice Ao2 t4.length co2) k_∧no_ ug k_) uf xa)∧Aside0 (Kd.R (Kd.int .i64) 3 wc wB.heap.size (fun k_=>no_ (.slice Ao1 t3.length co1) k_∧no_ uf k_) ug xb)∧Aside0 (wc.heap[gb1]?=some (.cells #[.int .i64 0,.bool false,(.slice none 0 0),(.slice none 0 0),.int .i64 0] 32 (0,0)))∧Aside0 (wc.heap[gb2]?=some (.cells #[.int .i64 t1,.bool t2,(.slice Ao1 t3.length co1),(.slice Ao2 t4.length co2),.int .i64 t5] 32 (0,0)))∧Aside0 (wc.heap[gb3]?=some (.cells #[.int .i64 xc,.bool xd,uf,ug,.int .i64 xe] 32 (0,0)))∧Aside0 (aa w wc g l0 x1001_1 x1002_1)∧Aside0 (af wB wc g none)∧Aside0 (Below w.heap.size w wc))
 case first =>
  have H:=HC21.out;clear HC21
  by_cases c1:x8_1 > 0
  case neg =>
   rw [if_neg c1] at H;have c1b0:decide (0<x8_1)=false:=decide_eq_false c1;clear c1
   (first|rw [c1b0]|(simp only [dD,dM];rw [c1b0])|skip)
   have H':=A0_ H;clear H
   go_wp2
   go_meet
   exact ⟨_,(false),aX,H',⟨ji⟩,⟨br⟩,⟨bG⟩,⟨eR⟩,⟨eP⟩,⟨gj⟩,⟨u1_ BK1⟩,⟨u1_ BK2⟩,⟨u1_ BK3⟩,⟨bN⟩,⟨bZ⟩,⟨ct⟩⟩
  rw [if_pos c1] at H;have c1b0:decide (0<x8_1)=true:=dt_ c1;clear c1
  (first|rw [c1b0]|(simp only [dD,dM];rw [c1b0])|skip)
  obtain ⟨t11,A6,H⟩:=o1_ H;have H':=A0_ H;clear H;obtain ⟨hnb6,hnc6⟩:=n2_ NB3_1;obtain ⟨hnb7,hnc7⟩:=n2_ NB3_2;obtain ⟨hnb8,hnc8⟩:=n2_ NB3_0;have hcz4:=z5_ BK3;obtain ⟨Ao3,co3,eo3⟩:=Kd.R_slice HO_4.out;subst eo3;obtain ⟨Ao4,co4,eo4⟩:=Kd.R_slice HO_5.out;subst eo4
  go_wp2_with (first|(go_at_call 32;(with_reducible refine (ao.calls k1 xc xd _ _ xa _ _ xb xe t11 _ ?_ ?_ ?_ ?_ A6.out).mono ?_);exact iB;exact (rr_ HO_4.out).2.1;exact jj;exact (rr_ HO_5.out).2.1;rintro e w7 ⟨rfl,hb⟩;replace HO_1:=q1_ HO_1 hb;replace HO_2:=q1_ HO_2 hb;replace HO_3:=q1_ HO_3 hb;replace HO_4:=q1_ HO_4 hb;replace HO_5:=q1_ HO_5 hb;replace BK1:=k1_ BK1 hb;replace BK2:=k1_ BK2 hb;replace BK3:=k1_ BK3 hb;replace HK:=A0_ (af.trans bZ (af.of_below hb g none) (.inl rfl));replace HB:=hb_ hb ct;replace HI0:=A0_ (aa.below bN hb);(try clear hb)))
  go_meet
  exact ⟨_,(t11),aX,H',⟨ji⟩,⟨br⟩,⟨bG⟩,⟨eR⟩,⟨eP⟩,⟨gj⟩,⟨u1_ BK1⟩,⟨u1_ BK2⟩,⟨u1_ BK3⟩,⟨bN⟩,⟨bZ⟩,⟨ct⟩⟩
 clear HC21
 (try clear hcz2);(try clear hcz3);(try clear hcz1);(try clear hfz2);(try clear hfz3);(try clear hfz1)
 obtain ⟨kq,x26_20,rfl,HA,HJ1,HO_1,HO_2,HO_3,HO_4,HO_5,BK1,BK2,BK3,HI0,HK,HB⟩:=hcut
 cases kq with|zero=>exact absurd HA.out (by simp [al.j1])|succ kj1=>?_
 have H:=HA.out;clear HA;simp only [al.j1] at H
 by_cases c1:x26_20=true
 case neg =>
  obtain rfl:=bf_.mpr c1;rw [if_neg ft_] at H;simp only [sj_,pj_] at H;obtain ⟨rfl,rfl,rfl,rfl,rfl,rfl,rfl,rfl⟩:=H;obtain ⟨hnb6,hnc6⟩:=n2_ NB2_1;obtain ⟨hnb7,hnc7⟩:=n2_ NB2_3;obtain ⟨hnb8,hnc8⟩:=n2_ NB2_0;have hcz4:=z5_ BK2;obtain ⟨hnb9,hnc9⟩:=n2_ NB1_3;obtain ⟨hnb10,hnc10⟩:=n2_ NB1_0;have hcz5:=z5_ BK1
  go_wp2
  refine bodyPost_ret (cU rfl _ _ gb1 32 #[.int .i64 t1,.bool t2,.slice Ao1 t3.length co1,.slice Ao2 t4.length co2,.int .i64 t5] (0,0) _ rfl (u1_ BK1) Tryz.underlying32 rfl aY) rfl ?_
  exact ⟨_,_,_,aE,by (with_reducible repeat (first|apply ra_|apply rn_|apply rd_));exact Kd.R_lower (Kd.R_mono (bw (Kd.R_types HO_2.out BK1.out ag)) (fun _ hk=>hk.1.1)) HW0.out,by (with_reducible repeat (first|apply ra_|apply rn_|apply rd_));exact Kd.R_lower (Kd.R_mono (bw (Kd.R_types HO_3.out BK1.out ag)) (fun _ hk=>hk.1.1)) HW0.out,by (with_reducible repeat (first|apply ra_|apply rn_|apply rd_));exact Kd.R_lower (Kd.R_mono (bw (Kd.R_types HO_1.out BK1.out ag)) (fun _ hk=>trivial)) HW0.out,ct⟩
 subst c1;rw [if_pos rfl] at H;obtain ⟨⟨t11,t12,t13,t14,t15⟩,A6,H⟩:=o1_ H;obtain ⟨c2,H⟩:=is_ H;have LMc1:=A0_ c2;clear c2;obtain ⟨y2,hy2⟩:∃ y_:List (S50),y_=(x6_1++[(⟨t11,t12,t13⟩:S50)]):=⟨_,rfl⟩;replace H:((aK.f kj1 xc xd xa xb xe t11 t12 t13).bind fun bt3=>(if bt3.2.2.2.2.2=true then (al.l0 kj1 y2 (wrap64 (x8_1 - 1)) l0 t14 t15 t1 t2 t3 t4 t5 bt3.1 bt3.2.1 bt3.2.2.1 bt3.2.2.2.1 bt3.2.2.2.2.1) else (al.l0 kj1 y2 (wrap64 (x8_1 - 1)) l0 t14 t15 t1 t2 t3 t4 t5 xc xd xa xb xe)))=some (r1,r2,r3,r4,r5,r6,r7,r8):=dH;have Ny2:=A0_ hy2;clear hy2;obtain ⟨⟨t16,t17,t18,t19,t20,t21⟩,A8,H⟩:=o1_ H
 by_cases c3:t21=true
 case neg =>
  obtain rfl:=bf_.mpr c3;rw [if_neg ft_] at H;have H':=A0_ H;clear H;obtain ⟨hnb6,hnc6⟩:=n2_ NB3_1;obtain ⟨hnb7,hnc7⟩:=n2_ NB3_2;obtain ⟨hnb8,hnc8⟩:=n2_ NB3_0;have hcz4:=z5_ BK3;obtain ⟨Ao3,co3,eo3⟩:=Kd.R_slice HO_4.out;subst eo3;obtain ⟨Ao4,co4,eo4⟩:=Kd.R_slice HO_5.out;subst eo4
  go_wp2_with (first|((with_reducible refine gc_ (f:=51) rfl ?_);refine gl_ 31 Tryz.func51 #[.pointer (some ⟨g,0,none⟩),.agg #[.int .i64 xc,.bool xd,.slice Ao3 xa.length co3,.slice Ao4 xb.length co4,.int .i64 xe]] ?_;(with_reducible refine (ab.calls kj1 g l0 x1001_1 x1002_1 xc xd _ _ xa _ _ xb xe t11 t12 t13 t14 t15 w _ ?_ ?_ ?_ ?_ ?_ ?_ ?_ ?_ A6.out).mono ?_);exact bN;exact ct;exact iB;exact (rr_ HO_4.out).2.1;exact bW (aa.own_ne HI0.out HO_4.out ag);exact jj;exact (rr_ HO_5.out).2.1;exact bW (aa.own_ne HI0.out HO_5.out ag);rintro e w7 ⟨rfl,hi,hb,hk⟩;refine ⟨_,rfl,?_⟩;replace HO_1:=A0_ (Kd.R_mono (Kd.R_keep (aa.apart (show aa w _ g l0 x1001_1 x1002_1 from bN) br ag) hk (fun _ h=>h.2)) (fun _ h=>h.1));replace HO_2:=A0_ (Kd.R_mono (Kd.R_keep (aa.apart (show aa w _ g l0 x1001_1 x1002_1 from bN) bG ag) hk (fun _ h=>h.2)) (fun _ h=>h.1));replace HO_3:=A0_ (Kd.R_mono (Kd.R_keep (aa.apart (show aa w _ g l0 x1001_1 x1002_1 from bN) eR ag) hk (fun _ h=>h.2)) (fun _ h=>h.1));replace HO_4:=A0_ (Kd.R_mono (Kd.R_keep (aa.apart (show aa w _ g l0 x1001_1 x1002_1 from bN) eP ag) hk (fun _ h=>h.2)) (fun _ h=>h.1));replace HO_5:=A0_ (Kd.R_mono (Kd.R_keep (aa.apart (show aa w _ g l0 x1001_1 x1002_1 from bN) gj ag) hk (fun _ h=>h.2)) (fun _ h=>h.1));replace BK1:=bT BK1 hk NB1_0;replace BK2:=bT BK2 hk NB2_0;replace BK3:=bT BK3 hk NB3_0;replace HK:=A0_ (af.trans bZ hk (.inl rfl));replace HB:=A0_ (hb);replace HI0:=A0_ (hi);(try clear hb hk hi))|((with_reducible refine gd_ (N:=9) rfl ?_);refine bx_ 9 #[.int .i64 0,.int .i64 0,.int .i64 0] 50 ?_;intro gb4 hg w8 BK4 hb;replace HO_1:=A0_ (Kd.R_below (Kd.R_elderB br gb4 (Nat.le_of_eq hg.symm)) hb);replace HO_2:=q1_ HO_2 hb;replace HO_3:=q1_ HO_3 hb;replace HO_4:=q1_ HO_4 hb;replace HO_5:=q1_ HO_5 hb;replace HB:=hb_ hb ct;have GW4:=A0_ ((kU:wB.heap.size≤gb4));have GE4:=A0_ ((Nat.le_trans HW0.out (kU:wB.heap.size≤gb4):w.heap.size≤gb4));replace HK:=A0_ (af.trans bZ (af.of_below hb g none) (.inl rfl));obtain ⟨NB1_4,NB4_1⟩:=nn_ hg BK1;replace BK1:=k1_ BK1 hb;obtain ⟨NB2_4,NB4_2⟩:=nn_ hg BK2;replace BK2:=k1_ BK2 hb;obtain ⟨NB3_4,NB4_3⟩:=nn_ hg BK3;replace BK3:=k1_ BK3 hb;have NB0_4:=A0_ ((nw:g≠gb4));have NB4_0:=A0_ ((nC:gb4≠g));replace HI0:=A0_ (aa.below bN hb);clear hb hg;obtain ⟨hnb9,hnc9⟩:=n2_ NB4_1;obtain ⟨hnb10,hnc10⟩:=n2_ NB4_2;obtain ⟨hnb11,hnc11⟩:=n2_ NB4_3;obtain ⟨hnb12,hnc12⟩:=n2_ NB4_0;have hcz5:=z3_ BK4)|((with_reducible refine bX (b:=.append) (xs:=#[.tmp 32,.tmp 34]) rfl ?_);at_builtin;refine Kd.R_append k50 wB.heap.size rfl (.tmp 32) (.tmp 34) 36 50 (.agg #[(.int .i64 0),(.int .i64 0),(.int .i64 0)]) 24 rfl Tryz.underlying36 l5 rfl ag bm u6 x6_1 (⟨t11,t12,t13⟩:S50) [.int .i64 t11,.int .i64 t12,.int .i64 t13] (fun k_=>k_≠gb4) (fun _=>False) rfl (by first|(go_simp;done)|(go_simp;rfl)) ?aP (fun _ hk=>hk.elim) ?aF ?aO (Below.refl _ _) ?aS ?aL ?_;(case aP=>exact kY _ _ _ (⟨t11,t12,t13⟩:S50));(case aF=>exact (fun k_ hk=>Kd.freshB (g:=gb4) (o:=.cells #[.int .i64 t11,.int .i64 t12,.int .i64 t13] 50 (0,0)) (u1_ BK4) k_ hk));(case aO=>exact mS);(case aS=>exact (ba (w:=wB) (g:=g) (row:=none) fp));(case aL=>have:=LMc1.out;omega);intro v10 w9 ho hb hg hat;rw [← Ny2.out] at ho;have n0_:=A0_ (Kd.R_over' nt (Kd.R_typed hX) ag hg);have n1_:=A0_ (Kd.R_over' nv (Kd.R_typed hX) ag hg);have n2_:=A0_ (Kd.R_over' nA (Kd.R_typed hX) ag hg);have n3_:=A0_ (Kd.R_over' ni (Kd.R_typed hX) ag hg);have n4_:=A0_ (aJ (g:=gb1) (o:=.cells #[.int .i64 0,.bool false,.slice none 0 0,.slice none 0 0,.int .i64 0] 32 (0,0)) (u1_ BK1) hg (Kd.R_ne HO_1.out BK1.out ag));have n5_:=A0_ (aJ (g:=gb2) (o:=.cells #[.int .i64 t1,.bool t2,.slice Ao1 t3.length co1,.slice Ao2 t4.length co2,.int .i64 t5] 32 (0,0)) (u1_ BK2) hg (Kd.R_ne HO_1.out BK2.out ag));have n6_:=A0_ (aJ (g:=gb3) (o:=.cells #[.int .i64 xc,.bool xd,.slice Ao3 xa.length co3,.slice Ao4 xb.length co4,.int .i64 xe] 32 (0,0)) (u1_ BK3) hg (Kd.R_ne HO_1.out BK3.out ag));have n7_:=A0_ (aa.grownW (show aa w _ g l0 t14 t15 from jm) hg (aa.own_ne HI0.out HO_1.out ag));have n8_:=A0_ (aJ (g:=gb4) (o:=.cells #[.int .i64 t11,.int .i64 t12,.int .i64 t13] 50 (0,0)) (u1_ BK4) hg (Kd.R_away HO_1.out (fun _ hk=>hk.2)));have n9_:=A0_ (fg jk HW0.out hb);have n10_:=A0_ (af.trans fp (af.of_grown hg g) (Kd.R_base2 HO_1.out));have n11_:=A0_ (ho);clear HO_2 HO_3 HO_4 HO_5 BK1 BK2 BK3 HI0 BK4 HB HK HO_1;have HO_2:=n0_;have HO_3:=n1_;have HO_4:=n2_;have HO_5:=n3_;have BK1:=n4_;have BK2:=n5_;have BK3:=n6_;have HI0:=n7_;have BK4:=n8_;have HB:=n9_;have HK:=n10_;have HO4:=n11_;clear n0_ n1_ n2_ n3_ n4_ n5_ n6_ n7_ n8_ n9_ n10_ n11_ ho hb hg hat;have hcz6:=z5_ BK3;have hcz7:=z3_ BK4)|((with_reducible refine gc_ (f:=34) rfl ?_);refine gl_ 39 Tryz.func34 #[.agg #[.int .i64 xc,.bool xd,.slice Ao3 xa.length co3,.slice Ao4 xb.length co4,.int .i64 xe],.agg #[.int .i64 t11,.int .i64 t12,.int .i64 t13]] ?_;(with_reducible refine (aK.calls kj1 xc xd _ _ xa _ _ xb xe t11 t12 t13 t16 t17 t18 t19 t20 false _ ?_ ?_ ?_ ?_ A8.out).mono ?_);exact iB;exact (rr_ HO_4.out).2.1;exact jj;exact (rr_ HO_5.out).2.1;rintro e w10 ⟨v11,v12,rfl,ho0,ho1,hb⟩;refine ⟨_,rfl,?_⟩;replace HO4:=q1_ HO4 hb;have HO5:=A0_ (Kd.R_lower (Kd.R_new' (Kd.R_new' (Kd.R_new' (Kd.R_new' ho0 (Kd.R_lt bG)) (Kd.R_lt eR)) (Kd.R_lt eP)) (Kd.R_lt gj)) (ba (w:=wB) (g:=g) (row:=none) fp));have HO6:=A0_ (Kd.R_lower (Kd.R_new' (Kd.R_new' (Kd.R_new' (Kd.R_new' ho1 (Kd.R_lt bG)) (Kd.R_lt eR)) (Kd.R_lt eP)) (Kd.R_lt gj)) (ba (w:=wB) (g:=g) (row:=none) fp));replace HO_2:=A0_ (Kd.R_mono (Kd.R_told (Kd.R_told (Kd.R_old bG hb) (Kd.R_base ho0)) (Kd.R_base ho1)) (fun _ h_=>h_.1));replace HO_3:=A0_ (Kd.R_mono (Kd.R_told (Kd.R_told (Kd.R_old eR hb) (Kd.R_base ho0)) (Kd.R_base ho1)) (fun _ h_=>h_.1));replace HO_4:=A0_ (Kd.R_mono (Kd.R_told (Kd.R_told (Kd.R_old eP hb) (Kd.R_base ho0)) (Kd.R_base ho1)) (fun _ h_=>h_.1));replace HO_5:=A0_ (Kd.R_mono (Kd.R_told (Kd.R_told (Kd.R_old gj hb) (Kd.R_base ho0)) (Kd.R_base ho1)) (fun _ h_=>h_.1));replace BK1:=k1_ BK1 hb;replace BK2:=k1_ BK2 hb;replace BK3:=k1_ BK3 hb;replace BK4:=k1_ BK4 hb;replace HK:=A0_ (af.trans fp (af.of_below hb g none) (.inl rfl));replace HB:=hb_ hb jk;replace HI0:=A0_ (aa.below jm hb);(try clear hb ho0 ho1))|((with_reducible refine gd_ (N:=10) rfl ?_);refine bx_ 10 #[.int .i64 0,.bool false,.slice none 0 0,.slice none 0 0,.int .i64 0] 32 ?_;intro gb5 hg w11 BK5 hb;replace HO_2:=q1_ HO_2 hb;replace HO_3:=q1_ HO_3 hb;replace HO_4:=q1_ HO_4 hb;replace HO_5:=q1_ HO_5 hb;replace HO4:=q1_ HO4 hb;replace HO5:=q1_ HO5 hb;replace HO6:=q1_ HO6 hb;replace HB:=hb_ hb jk;have GW5:=A0_ ((kW:wB.heap.size≤gb5));have GE5:=A0_ ((Nat.le_trans HW0.out (kW:wB.heap.size≤gb5):w.heap.size≤gb5));replace HK:=A0_ (af.trans fp (af.of_below hb g none) (.inl rfl));obtain ⟨NB1_5,NB5_1⟩:=nn_ hg BK1;replace BK1:=k1_ BK1 hb;obtain ⟨NB2_5,NB5_2⟩:=nn_ hg BK2;replace BK2:=k1_ BK2 hb;obtain ⟨NB3_5,NB5_3⟩:=nn_ hg BK3;replace BK3:=k1_ BK3 hb;obtain ⟨NB4_5,NB5_4⟩:=nn_ hg BK4;replace BK4:=k1_ BK4 hb;have NB0_5:=A0_ ((ol:g≠gb5));have NB5_0:=A0_ ((m7:gb5≠g));replace HI0:=A0_ (aa.below jm hb);clear hb hg;obtain ⟨hnb13,hnc13⟩:=n2_ NB5_1;obtain ⟨hnb14,hnc14⟩:=n2_ NB5_2;obtain ⟨hnb15,hnc15⟩:=n2_ NB5_3;obtain ⟨hnb16,hnc16⟩:=n2_ NB5_4;obtain ⟨hnb17,hnc17⟩:=n2_ NB5_0;have hcz8:=z5_ BK5;obtain ⟨Ao5,co5,eo5⟩:=Kd.R_slice HO5.out;subst eo5;obtain ⟨Ao6,co6,eo6⟩:=Kd.R_slice HO6.out;subst eo6))
  go_roundg kj1
  case measure=>have:=HK1.out;have:=HJ1.out;omega
  exact ⟨(y2),(wrap64 (x8_1 - 1)),(t14),(t15),(xc),(xd),(xa),(xb),(xe),(.slice Ao3 xa.length co3),(.slice Ao4 xb.length co4),aX,H',⟨iA⟩,⟨by (with_reducible repeat (first|apply ra_|apply rn_|apply rd_));exact Kd.R_mono (bw (Kd.R_types HO4.out BK5.out ag)) (fun _ hk=>trivial)⟩,⟨by (with_reducible repeat (first|apply ra_|apply rn_|apply rd_));exact Kd.R_mono (bw (Kd.R_types HO_2.out BK5.out ag)) (fun _ hk=>⟨hk.1.1.1.1,hk.1.1.1.2⟩)⟩,⟨by (with_reducible repeat (first|apply ra_|apply rn_|apply rd_));exact Kd.R_mono (bw (Kd.R_types HO_3.out BK5.out ag)) (fun _ hk=>⟨hk.1.1.1.1,hk.1.1.1.2⟩)⟩,⟨by (with_reducible repeat (first|apply ra_|apply rn_|apply rd_));exact Kd.R_mono (bw (Kd.R_types HO_4.out BK5.out ag)) (fun _ hk=>⟨hk.1.1.1.1,hk.1.1.1.2⟩)⟩,⟨by (with_reducible repeat (first|apply ra_|apply rn_|apply rd_));exact Kd.R_mono (bw (Kd.R_types HO_5.out BK5.out ag)) (fun _ hk=>⟨hk.1.1.1.1,hk.1.1.1.2⟩)⟩,⟨u1_ BK1⟩,⟨u1_ BK2⟩,⟨u1_ BK3⟩,⟨mX⟩,⟨oe⟩,⟨nM⟩⟩
 subst c3;rw [if_pos rfl] at H;have H':=A0_ H;clear H;obtain ⟨hnb6,hnc6⟩:=n2_ NB3_1;obtain ⟨hnb7,hnc7⟩:=n2_ NB3_2;obtain ⟨hnb8,hnc8⟩:=n2_ NB3_0;have hcz4:=z5_ BK3;obtain ⟨Ao3,co3,eo3⟩:=Kd.R_slice HO_4.out;subst eo3;obtain ⟨Ao4,co4,eo4⟩:=Kd.R_slice HO_5.out;subst eo4
 go_wp2_with (first|((with_reducible refine gc_ (f:=51) rfl ?_);refine gl_ 31 Tryz.func51 #[.pointer (some ⟨g,0,none⟩),.agg #[.int .i64 xc,.bool xd,.slice Ao3 xa.length co3,.slice Ao4 xb.length co4,.int .i64 xe]] ?_;(with_reducible refine (ab.calls kj1 g l0 x1001_1 x1002_1 xc xd _ _ xa _ _ xb xe t11 t12 t13 t14 t15 w _ ?_ ?_ ?_ ?_ ?_ ?_ ?_ ?_ A6.out).mono ?_);exact bN;exact ct;exact iB;exact (rr_ HO_4.out).2.1;exact bW (aa.own_ne HI0.out HO_4.out ag);exact jj;exact (rr_ HO_5.out).2.1;exact bW (aa.own_ne HI0.out HO_5.out ag);rintro e w7 ⟨rfl,hi,hb,hk⟩;refine ⟨_,rfl,?_⟩;replace HO_1:=A0_ (Kd.R_mono (Kd.R_keep (aa.apart (show aa w _ g l0 x1001_1 x1002_1 from bN) br ag) hk (fun _ h=>h.2)) (fun _ h=>h.1));replace HO_2:=A0_ (Kd.R_mono (Kd.R_keep (aa.apart (show aa w _ g l0 x1001_1 x1002_1 from bN) bG ag) hk (fun _ h=>h.2)) (fun _ h=>h.1));replace HO_3:=A0_ (Kd.R_mono (Kd.R_keep (aa.apart (show aa w _ g l0 x1001_1 x1002_1 from bN) eR ag) hk (fun _ h=>h.2)) (fun _ h=>h.1));replace HO_4:=A0_ (Kd.R_mono (Kd.R_keep (aa.apart (show aa w _ g l0 x1001_1 x1002_1 from bN) eP ag) hk (fun _ h=>h.2)) (fun _ h=>h.1));replace HO_5:=A0_ (Kd.R_mono (Kd.R_keep (aa.apart (show aa w _ g l0 x1001_1 x1002_1 from bN) gj ag) hk (fun _ h=>h.2)) (fun _ h=>h.1));replace BK1:=bT BK1 hk NB1_0;replace BK2:=bT BK2 hk NB2_0;replace BK3:=bT BK3 hk NB3_0;replace HK:=A0_ (af.trans bZ hk (.inl rfl));replace HB:=A0_ (hb);replace HI0:=A0_ (hi);(try clear hb hk hi))|((with_reducible refine gd_ (N:=9) rfl ?_);refine bx_ 9 #[.int .i64 0,.int .i64 0,.int .i64 0] 50 ?_;intro gb4 hg w8 BK4 hb;replace HO_1:=A0_ (Kd.R_below (Kd.R_elderB br gb4 (Nat.le_of_eq hg.symm)) hb);replace HO_2:=q1_ HO_2 hb;replace HO_3:=q1_ HO_3 hb;replace HO_4:=q1_ HO_4 hb;replace HO_5:=q1_ HO_5 hb;replace HB:=hb_ hb ct;have GW4:=A0_ ((kU:wB.heap.size≤gb4));have GE4:=A0_ ((Nat.le_trans HW0.out (kU:wB.heap.size≤gb4):w.heap.size≤gb4));replace HK:=A0_ (af.trans bZ (af.of_below hb g none) (.inl rfl));obtain ⟨NB1_4,NB4_1⟩:=nn_ hg BK1;replace BK1:=k1_ BK1 hb;obtain ⟨NB2_4,NB4_2⟩:=nn_ hg BK2;replace BK2:=k1_ BK2 hb;obtain ⟨NB3_4,NB4_3⟩:=nn_ hg BK3;replace BK3:=k1_ BK3 hb;have NB0_4:=A0_ ((nw:g≠gb4));have NB4_0:=A0_ ((nC:gb4≠g));replace HI0:=A0_ (aa.below bN hb);clear hb hg;obtain ⟨hnb9,hnc9⟩:=n2_ NB4_1;obtain ⟨hnb10,hnc10⟩:=n2_ NB4_2;obtain ⟨hnb11,hnc11⟩:=n2_ NB4_3;obtain ⟨hnb12,hnc12⟩:=n2_ NB4_0;have hcz5:=z3_ BK4)|((with_reducible refine bX (b:=.append) (xs:=#[.tmp 32,.tmp 34]) rfl ?_);at_builtin;refine Kd.R_append k50 wB.heap.size rfl (.tmp 32) (.tmp 34) 36 50 (.agg #[(.int .i64 0),(.int .i64 0),(.int .i64 0)]) 24 rfl Tryz.underlying36 l5 rfl ag bm u6 x6_1 (⟨t11,t12,t13⟩:S50) [.int .i64 t11,.int .i64 t12,.int .i64 t13] (fun k_=>k_≠gb4) (fun _=>False) rfl (by first|(go_simp;done)|(go_simp;rfl)) ?aP (fun _ hk=>hk.elim) ?aF ?aO (Below.refl _ _) ?aS ?aL ?_;(case aP=>exact kY _ _ _ (⟨t11,t12,t13⟩:S50));(case aF=>exact (fun k_ hk=>Kd.freshB (g:=gb4) (o:=.cells #[.int .i64 t11,.int .i64 t12,.int .i64 t13] 50 (0,0)) (u1_ BK4) k_ hk));(case aO=>exact mS);(case aS=>exact (ba (w:=wB) (g:=g) (row:=none) fp));(case aL=>have:=LMc1.out;omega);intro v10 w9 ho hb hg hat;rw [← Ny2.out] at ho;have n0_:=A0_ (Kd.R_over' nt (Kd.R_typed hX) ag hg);have n1_:=A0_ (Kd.R_over' nv (Kd.R_typed hX) ag hg);have n2_:=A0_ (Kd.R_over' nA (Kd.R_typed hX) ag hg);have n3_:=A0_ (Kd.R_over' ni (Kd.R_typed hX) ag hg);have n4_:=A0_ (aJ (g:=gb1) (o:=.cells #[.int .i64 0,.bool false,.slice none 0 0,.slice none 0 0,.int .i64 0] 32 (0,0)) (u1_ BK1) hg (Kd.R_ne HO_1.out BK1.out ag));have n5_:=A0_ (aJ (g:=gb2) (o:=.cells #[.int .i64 t1,.bool t2,.slice Ao1 t3.length co1,.slice Ao2 t4.length co2,.int .i64 t5] 32 (0,0)) (u1_ BK2) hg (Kd.R_ne HO_1.out BK2.out ag));have n6_:=A0_ (aJ (g:=gb3) (o:=.cells #[.int .i64 xc,.bool xd,.slice Ao3 xa.length co3,.slice Ao4 xb.length co4,.int .i64 xe] 32 (0,0)) (u1_ BK3) hg (Kd.R_ne HO_1.out BK3.out ag));have n7_:=A0_ (aa.grownW (show aa w _ g l0 t14 t15 from jm) hg (aa.own_ne HI0.out HO_1.out ag));have n8_:=A0_ (aJ (g:=gb4) (o:=.cells #[.int .i64 t11,.int .i64 t12,.int .i64 t13] 50 (0,0)) (u1_ BK4) hg (Kd.R_away HO_1.out (fun _ hk=>hk.2)));have n9_:=A0_ (fg jk HW0.out hb);have n10_:=A0_ (af.trans fp (af.of_grown hg g) (Kd.R_base2 HO_1.out));have n11_:=A0_ (ho);clear HO_2 HO_3 HO_4 HO_5 BK1 BK2 BK3 HI0 BK4 HB HK HO_1;have HO_2:=n0_;have HO_3:=n1_;have HO_4:=n2_;have HO_5:=n3_;have BK1:=n4_;have BK2:=n5_;have BK3:=n6_;have HI0:=n7_;have BK4:=n8_;have HB:=n9_;have HK:=n10_;have HO4:=n11_;clear n0_ n1_ n2_ n3_ n4_ n5_ n6_ n7_ n8_ n9_ n10_ n11_ ho hb hg hat;have hcz6:=z5_ BK3;have hcz7:=z3_ BK4)|((with_reducible refine gc_ (f:=34) rfl ?_);refine gl_ 39 Tryz.func34 #[.agg #[.int .i64 xc,.bool xd,.slice Ao3 xa.length co3,.slice Ao4 xb.length co4,.int .i64 xe],.agg #[.int .i64 t11,.int .i64 t12,.int .i64 t13]] ?_;(with_reducible refine (aK.calls kj1 xc xd _ _ xa _ _ xb xe t11 t12 t13 t16 t17 t18 t19 t20 true _ ?_ ?_ ?_ ?_ A8.out).mono ?_);exact iB;exact (rr_ HO_4.out).2.1;exact jj;exact (rr_ HO_5.out).2.1;rintro e w10 ⟨v11,v12,rfl,ho0,ho1,hb⟩;refine ⟨_,rfl,?_⟩;replace HO4:=q1_ HO4 hb;have HO5:=A0_ (Kd.R_lower (Kd.R_new' (Kd.R_new' (Kd.R_new' (Kd.R_new' ho0 (Kd.R_lt bG)) (Kd.R_lt eR)) (Kd.R_lt eP)) (Kd.R_lt gj)) (ba (w:=wB) (g:=g) (row:=none) fp));have HO6:=A0_ (Kd.R_lower (Kd.R_new' (Kd.R_new' (Kd.R_new' (Kd.R_new' ho1 (Kd.R_lt bG)) (Kd.R_lt eR)) (Kd.R_lt eP)) (Kd.R_lt gj)) (ba (w:=wB) (g:=g) (row:=none) fp));replace HO_2:=A0_ (Kd.R_mono (Kd.R_told (Kd.R_told (Kd.R_old bG hb) (Kd.R_base ho0)) (Kd.R_base ho1)) (fun _ h_=>h_.1));replace HO_3:=A0_ (Kd.R_mono (Kd.R_told (Kd.R_told (Kd.R_old eR hb) (Kd.R_base ho0)) (Kd.R_base ho1)) (fun _ h_=>h_.1));replace HO_4:=A0_ (Kd.R_mono (Kd.R_told (Kd.R_told (Kd.R_old eP hb) (Kd.R_base ho0)) (Kd.R_base ho1)) (fun _ h_=>h_.1));replace HO_5:=A0_ (Kd.R_mono (Kd.R_told (Kd.R_told (Kd.R_old gj hb) (Kd.R_base ho0)) (Kd.R_base ho1)) (fun _ h_=>h_.1));replace BK1:=k1_ BK1 hb;replace BK2:=k1_ BK2 hb;replace BK3:=k1_ BK3 hb;replace BK4:=k1_ BK4 hb;replace HK:=A0_ (af.trans fp (af.of_below hb g none) (.inl rfl));replace HB:=hb_ hb jk;replace HI0:=A0_ (aa.below jm hb);(try clear hb ho0 ho1))|((with_reducible refine gd_ (N:=10) rfl ?_);refine bx_ 10 #[.int .i64 0,.bool false,.slice none 0 0,.slice none 0 0,.int .i64 0] 32 ?_;intro gb5 hg w11 BK5 hb;replace HO_2:=q1_ HO_2 hb;replace HO_3:=q1_ HO_3 hb;replace HO_4:=q1_ HO_4 hb;replace HO_5:=q1_ HO_5 hb;replace HO4:=q1_ HO4 hb;replace HO5:=q1_ HO5 hb;replace HO6:=q1_ HO6 hb;replace HB:=hb_ hb jk;have GW5:=A0_ ((kW:wB.heap.size≤gb5));have GE5:=A0_ ((Nat.le_trans HW0.out (kW:wB.heap.size≤gb5):w.heap.size≤gb5));replace HK:=A0_ (af.trans fp (af.of_below hb g none) (.inl rfl));obtain ⟨NB1_5,NB5_1⟩:=nn_ hg BK1;replace BK1:=k1_ BK1 hb;obtain ⟨NB2_5,NB5_2⟩:=nn_ hg BK2;replace BK2:=k1_ BK2 hb;obtain ⟨NB3_5,NB5_3⟩:=nn_ hg BK3;replace BK3:=k1_ BK3 hb;obtain ⟨NB4_5,NB5_4⟩:=nn_ hg BK4;replace BK4:=k1_ BK4 hb;have NB0_5:=A0_ ((ol:g≠gb5));have NB5_0:=A0_ ((m7:gb5≠g));replace HI0:=A0_ (aa.below jm hb);clear hb hg;obtain ⟨hnb13,hnc13⟩:=n2_ NB5_1;obtain ⟨hnb14,hnc14⟩:=n2_ NB5_2;obtain ⟨hnb15,hnc15⟩:=n2_ NB5_3;obtain ⟨hnb16,hnc16⟩:=n2_ NB5_4;obtain ⟨hnb17,hnc17⟩:=n2_ NB5_0;have hcz8:=z5_ BK5;obtain ⟨Ao5,co5,eo5⟩:=Kd.R_slice HO5.out;subst eo5;obtain ⟨Ao6,co6,eo6⟩:=Kd.R_slice HO6.out;subst eo6;have hcz9_0:=y_ BK3 0;have hcz9_1:=y_ BK3 1;have hcz9_2:=y_ BK3 2;have hcz9_3:=y_ BK3 3;have hcz9_4:=y_ BK3 4;have hfz9_0:=kf_ BK3.out 0;have hfz9_1:=kf_ BK3.out 1;have hfz9_2:=kf_ BK3.out 2;have hfz9_3:=kf_ BK3.out 3;have hfz9_4:=kf_ BK3.out 4))
 go_roundg kj1
 case measure=>have:=HK1.out;have:=HJ1.out;omega
 exact ⟨(y2),(wrap64 (x8_1 - 1)),(t14),(t15),(t16),(t17),(t18),(t19),(t20),(.slice Ao5 t18.length co5),(.slice Ao6 t19.length co6),aX,H',⟨iA⟩,⟨by (with_reducible repeat (first|apply ra_|apply rn_|apply rd_));exact Kd.R_mono (bw (rf_ (rf_ (rf_ (rf_ (rf_ (Kd.R_types (Kd.R_types HO4.out BK5.out ag) BK3.out ag) (fun _ hk=>hk.1.2) (.int .i64 t16)) (fun _ hk=>hk.1.2) (.bool t17)) (fun _ hk=>hk.1.2) (.slice Ao5 t18.length co5)) (fun _ hk=>hk.1.2) (.slice Ao6 t19.length co6)) (fun _ hk=>hk.1.2) (.int .i64 t20))) (fun _ hk=>trivial)⟩,⟨by (with_reducible repeat (first|apply ra_|apply rn_|apply rd_));exact Kd.R_mono (bw (rf_ (rf_ (rf_ (rf_ (rf_ (Kd.R_types (Kd.R_types HO_2.out BK5.out ag) BK3.out ag) (fun _ hk=>hk.1.2) (.int .i64 t16)) (fun _ hk=>hk.1.2) (.bool t17)) (fun _ hk=>hk.1.2) (.slice Ao5 t18.length co5)) (fun _ hk=>hk.1.2) (.slice Ao6 t19.length co6)) (fun _ hk=>hk.1.2) (.int .i64 t20))) (fun _ hk=>⟨hk.1.1.1.1.1,hk.1.1.2⟩)⟩,⟨by (with_reducible repeat (first|apply ra_|apply rn_|apply rd_));exact Kd.R_mono (bw (rf_ (rf_ (rf_ (rf_ (rf_ (Kd.R_types (Kd.R_types HO_3.out BK5.out ag) BK3.out ag) (fun _ hk=>hk.1.2) (.int .i64 t16)) (fun _ hk=>hk.1.2) (.bool t17)) (fun _ hk=>hk.1.2) (.slice Ao5 t18.length co5)) (fun _ hk=>hk.1.2) (.slice Ao6 t19.length co6)) (fun _ hk=>hk.1.2) (.int .i64 t20))) (fun _ hk=>⟨hk.1.1.1.1.1,hk.1.1.1.2⟩)⟩,⟨by (with_reducible repeat (first|apply ra_|apply rn_|apply rd_));exact Kd.R_mono (bw (rf_ (rf_ (rf_ (rf_ (rf_ (Kd.R_types (Kd.R_types HO5.out BK5.out ag) BK3.out ag) (fun _ hk=>hk.1.2) (.int .i64 t16)) (fun _ hk=>hk.1.2) (.bool t17)) (fun _ hk=>hk.1.2) (.slice Ao5 t18.length co5)) (fun _ hk=>hk.1.2) (.slice Ao6 t19.length co6)) (fun _ hk=>hk.1.2) (.int .i64 t20))) (fun _ hk=>⟨hk.1.1.1.1.2,hk.1.1.1.1.1.1⟩)⟩,⟨by (with_reducible repeat (first|apply ra_|apply rn_|apply rd_));exact Kd.R_mono (bw (rf_ (rf_ (rf_ (rf_ (rf_ (Kd.R_types (Kd.R_types HO6.out BK5.out ag) BK3.out ag) (fun _ hk=>hk.1.2) (.int .i64 t16)) (fun _ hk=>hk.1.2) (.bool t17)) (fun _ hk=>hk.1.2) (.slice Ao5 t18.length co5)) (fun _ hk=>hk.1.2) (.slice Ao6 t19.length co6)) (fun _ hk=>hk.1.2) (.int .i64 t20))) (fun _ hk=>⟨hk.1.1.1.1.1.2,hk.1.1.1.1.1.1⟩)⟩,⟨u1_ BK1⟩,⟨u1_ BK2⟩,⟨u1_ BK3⟩,⟨mX⟩,⟨oe⟩,⟨nM⟩⟩

def bt.l0:Nat→List Int→List Int→Int→Option (Bool)
 | 0,_,_,_=>none
 | k+1,x0,x1,x5=>if x5<(x0.length:Int) then (if 0≤x5 then (if x5<(x1.length:Int) then (if (rd x0 x5)=(rd x1 x5) then (bt.l0 k x0 x1 (wrap64 (x5+1))) else (some false)) else (none)) else (none)) else (some true)
def bt.f (k:Nat) (l0:List Int) (l1:List Int):Option (Bool):=if (l0.length:Int)=(l1.length:Int) then (bt.l0 k l0 l1 0) else (some false)
theorem bt.mono_l:∀ k,(∀ y0 y1 y2,LeO (bt.l0 k y0 y1 y2) (bt.l0 (k+1) y0 y1 y2))
 | 0=>fun _ _ _ r h=>by simp [bt.l0] at h
 | k+1=>by
  have ih0:=bt.mono_l k
  ·intro y0 y1 y2
   unfold bt.l0
   repeat' with_reducible first|exact ih0 ..|exact LeO.refl ..|exact LeO.none ..|refine LeO.ite ?_ ?_|refine LeO.bind ?_ (fun _=>?_)
theorem bt.mono:∀ a0 a1 k,LeO (bt.f k a0 a1) (bt.f (k+1) a0 a1):=by
 intro a0 a1 k;have ih0:=bt.mono_l k;unfold bt.f
 repeat' with_reducible first|exact ih0 ..|exact LeO.refl ..|exact LeO.none ..|refine LeO.ite ?_ ?_|refine LeO.bind ?_ (fun _=>?_)
theorem bt.calls (k:Nat) (A0:Option Addr) (c0:Nat) (l0:List Int) (A1:Option Addr) (c1:Nat) (l1:List Int) (r:Bool) (w:World) (hr0:Kd.C (Kd.int .i64) w A0 l0.length l0) (hc0:l0.length≤c0) (hr1:Kd.C (Kd.int .i64) w A1 l1.length l1) (hc1:l1.length≤c1) (H:bt.f k l0 l1=some r) :
  Calls Tryz.prog 57 #[.slice A0 l0.length c0,.slice A1 l1.length c1] w fun e w'=>e=.returned (.bool r)∧Drawn0 w w':=by
 have HR0:=A0_ hr0;have HC0:=A0_ hc0;clear hr0 hc0;have HR1:=A0_ hr1;have HC1:=A0_ hc1;clear hr1 hc1;unfold bt.f at H
 by_cases c2:(l0.length:Int)=(l1.length:Int)
 case neg =>
  rw [if_neg c2] at H;obtain ⟨c2b0,c2b1⟩:=ef_ c2;have c2b2:(l0.length == l1.length)=false:=jl;obtain rfl:=si_ H;go_enter Tryz.func57,Tryz.ntmps57
  go_wp2
  repeat (go_quiet (fail);try go_wp2)
  go_ret
  exact ⟨dv,ck⟩
 rw [if_pos c2] at H;obtain ⟨c2b0,c2b1⟩:=et_ c2;have c2b2:(l0.length == l1.length)=true:=jl;clear c2;have H':=A0_ H;clear H;go_enter Tryz.func57,Tryz.ntmps57
 go_wp2
 repeat (go_quiet (fail);try go_wp2)
 go_loopg [5] k (fun kq v1 w'=>∃ (x5_1:Int),v1=.int .i64 x5_1∧Aside0 (bt.l0 kq l0 l1 x5_1=some r)∧Aside0 (kq≤k)∧Drawn0 w w')
 case atStart=>exact ⟨(0),aX,H',⟨Nat.le_refl _⟩,ck⟩
 clear H'
 try clear c1
 try clear c2
 try clear c2b0
 try clear c2b1
 try clear c2b2
 obtain ⟨x5_1,rfl,HA,HK1,⟨m1,rfl⟩⟩:=hrel
 cases gk with|zero=>exact absurd HA.out (by simp [bt.l0])|succ k1=>?_
 have H:=HA.out;clear HA;simp only [bt.l0] at H
 by_cases c3:x5_1<(l0.length:Int)
 case neg =>
  rw [if_neg c3] at H;have c3b0:decide (x5_1<(l0.length:Int))=false:=decide_eq_false c3;clear c3;obtain rfl:=si_ H
  go_wp2
  repeat (go_quiet (fail);try go_wp2)
  go_ret
  exact ⟨dv,ck⟩
 rw [if_pos c3] at H;have c3b0:decide (x5_1<(l0.length:Int))=true:=dt_ c3;clear c3;obtain ⟨c4b0,H⟩:=i1_ H;obtain ⟨c5b0,H⟩:=i1_ H
 by_cases c6:(rd l0 x5_1)=(rd l1 x5_1)
 case neg =>
  rw [if_neg c6] at H;obtain ⟨c6b0,c6b1⟩:=ef_ c6;obtain rfl:=si_ H;have p1:0≤(x5_1:Int):=od_ ay;have q1:x5_1<(l0.length:Int):=od_ ay;obtain ⟨ad1,e1,hx1_0⟩:=Kd.at_int HR0.out x5_1 p1 q1;cases e1;replace p1:=eq_true p1;replace q1:=eq_true q1;have p2:0≤(x5_1:Int):=od_ ay;have q2:x5_1<(l1.length:Int):=od_ ay;obtain ⟨ad2,e2,hx2_0⟩:=Kd.at_int HR1.out x5_1 p2 q2;cases e2;replace p2:=eq_true p2;replace q2:=eq_true q2
  go_wp2
  repeat (go_quiet (fail);try go_wp2)
  go_ret
  exact ⟨dv,ck⟩
 rw [if_pos c6] at H;obtain ⟨c6b0,c6b1⟩:=et_ c6;clear c6;have H':=A0_ H;clear H;have p1:0≤(x5_1:Int):=od_ ay;have q1:x5_1<(l0.length:Int):=od_ ay;obtain ⟨ad1,e1,hx1_0⟩:=Kd.at_int HR0.out x5_1 p1 q1;cases e1;replace p1:=eq_true p1;replace q1:=eq_true q1;have p2:0≤(x5_1:Int):=od_ ay;have q2:x5_1<(l1.length:Int):=od_ ay;obtain ⟨ad2,e2,hx2_0⟩:=Kd.at_int HR1.out x5_1 p2 q2;cases e2;replace p2:=eq_true p2;replace q2:=eq_true q2
 go_wp2
 repeat (go_quiet (fail);try go_wp2)
 go_roundg k1
 case measure=>have:=HK1.out;omega
 exact ⟨(wrap64 (x5_1+1)),aX,H',⟨dj⟩,ck⟩

def cZ.f (k:Nat) (a0_0:Int) (a0_1:Bool) (l0_2:List Int) (a1_0:Int) (a1_1:Bool) (l1_2:List Int):Option (Bool):=if a0_0=a1_0 then (if (a0_1 == a1_1)=true then ((bt.f k l0_2 l1_2).bind fun t739=>(some t739)) else (some false)) else (some false)
theorem cZ.mono:∀ a0 a1 a2 a3 a4 a5 k,LeO (cZ.f k a0 a1 a2 a3 a4 a5) (cZ.f (k+1) a0 a1 a2 a3 a4 a5):=by
 intro a0 a1 a2 a3 a4 a5 k;unfold cZ.f
 repeat' with_reducible first|exact bt.mono ..|exact LeO.refl ..|exact LeO.none ..|refine LeO.ite ?_ ?_|refine LeO.bind ?_ (fun _=>?_)
theorem cZ.calls (k:Nat) (a0_0:Int) (a0_1:Bool) (A0_2:Option Addr) (c0_2:Nat) (l0_2:List Int) (a1_0:Int) (a1_1:Bool) (A1_2:Option Addr) (c1_2:Nat) (l1_2:List Int) (r:Bool) (w:World) (hr0_2:Kd.C (Kd.int .i64) w A0_2 l0_2.length l0_2) (hc0_2:l0_2.length≤c0_2) (hr1_2:Kd.C (Kd.int .i64) w A1_2 l1_2.length l1_2) (hc1_2:l1_2.length≤c1_2) (H:cZ.f k a0_0 a0_1 l0_2 a1_0 a1_1 l1_2=some r) :
  Calls Tryz.prog 56 #[.agg #[.int .i64 a0_0,.bool a0_1,.slice A0_2 l0_2.length c0_2],.agg #[.int .i64 a1_0,.bool a1_1,.slice A1_2 l1_2.length c1_2]] w fun e w'=>e=.returned (.bool r)∧Below w.heap.size w w':=by
 have hu30:=Tryz.underlying30;have HR0_2:=A0_ hr0_2;have HC0_2:=A0_ hc0_2;clear hr0_2 hc0_2;have HR1_2:=A0_ hr1_2;have HC1_2:=A0_ hc1_2;clear hr1_2 hc1_2;have HB:=A0_ (Below.refl w.heap.size w);unfold cZ.f at H
 by_cases c2:a0_0=a1_0
 case neg =>
  rw [if_neg c2] at H;obtain ⟨c2b0,c2b1⟩:=ef_ c2;obtain rfl:=si_ H;go_enter Tryz.func56,Tryz.ntmps56
  go_wp2_with (first|((with_reducible refine gd_ (N:=2) rfl ?_);refine bx_ 2 #[.int .i64 a0_0,.bool a0_1,.slice A0_2 l0_2.length c0_2] 30 ?_;intro gb1 hg w1 BK1 hb;have GW1:=ge_ hg ai;have GE1:=GW1;replace HB:=hb_ hb ai;clear hb hg)|((with_reducible refine gd_ (N:=3) rfl ?_);refine bx_ 3 #[.int .i64 a1_0,.bool a1_1,.slice A1_2 l1_2.length c1_2] 30 ?_;intro gb2 hg w2 BK2 hb;have GW2:=ge_ hg aj;have GE2:=GW2;replace HB:=hb_ hb aj;obtain ⟨NB1_2,NB2_1⟩:=nn_ hg BK1;replace BK1:=k1_ BK1 hb;clear hb hg;obtain ⟨hnb1,hnc1⟩:=n2_ NB1_2;have hcz1:=c3_ BK1;have hcz2:=c3_ BK2))
  go_ret
  exact ⟨aE,au⟩
 rw [if_pos c2] at H;obtain ⟨c2b0,c2b1⟩:=et_ c2;clear c2
 by_cases c3:(a0_1 == a1_1)=true
 case neg =>
  rw [if_neg c3] at H
  have c3b0:(a0_1 == a1_1)=false:=by simpa using c3
  (try (have c3b1:decide (a0_1=a1_1)=false:=by simpa using c3))
  (try (have c3b2:(a0_1 == a1_1)=false:=by simpa using c3))
  (try (have c3b3:¬ (a0_1=a1_1):=by simpa using c3))
  clear c3;obtain rfl:=si_ H;go_enter Tryz.func56,Tryz.ntmps56
  go_wp2_with (first|((with_reducible refine gd_ (N:=2) rfl ?_);refine bx_ 2 #[.int .i64 a0_0,.bool a0_1,.slice A0_2 l0_2.length c0_2] 30 ?_;intro gb1 hg w1 BK1 hb;have GW1:=ge_ hg ai;have GE1:=GW1;replace HB:=hb_ hb ai;clear hb hg)|((with_reducible refine gd_ (N:=3) rfl ?_);refine bx_ 3 #[.int .i64 a1_0,.bool a1_1,.slice A1_2 l1_2.length c1_2] 30 ?_;intro gb2 hg w2 BK2 hb;have GW2:=ge_ hg aj;have GE2:=GW2;replace HB:=hb_ hb aj;obtain ⟨NB1_2,NB2_1⟩:=nn_ hg BK1;replace BK1:=k1_ BK1 hb;clear hb hg;obtain ⟨hnb1,hnc1⟩:=n2_ NB1_2;have hcz1:=c3_ BK1;have hcz2:=c3_ BK2))
  go_ret
  exact ⟨aE,au⟩
 rw [if_pos c3] at H;have c3b0:(a0_1 == a1_1)=true:=c3
 (try (have c3b1:decide (a0_1=a1_1)=true:=by simpa using c3))
 (try (have c3b2:(a0_1 == a1_1)=true:=by simpa using c3))
 clear c3;obtain ⟨t1,A3,H⟩:=o1_ H;replace H:(some t1)=some r:=H;obtain rfl:=si_ H;go_enter Tryz.func56,Tryz.ntmps56
 go_wp2_with (first|((with_reducible refine gd_ (N:=2) rfl ?_);refine bx_ 2 #[.int .i64 a0_0,.bool a0_1,.slice A0_2 l0_2.length c0_2] 30 ?_;intro gb1 hg w1 BK1 hb;have GW1:=ge_ hg ai;have GE1:=GW1;replace HB:=hb_ hb ai;clear hb hg)|((with_reducible refine gd_ (N:=3) rfl ?_);refine bx_ 3 #[.int .i64 a1_0,.bool a1_1,.slice A1_2 l1_2.length c1_2] 30 ?_;intro gb2 hg w2 BK2 hb;have GW2:=ge_ hg aj;have GE2:=GW2;replace HB:=hb_ hb aj;obtain ⟨NB1_2,NB2_1⟩:=nn_ hg BK1;replace BK1:=k1_ BK1 hb;clear hb hg;obtain ⟨hnb1,hnc1⟩:=n2_ NB1_2;have hcz1:=c3_ BK1;have hcz2:=c3_ BK2)|(go_at_call 57;(with_reducible refine (bt.calls k _ _ l0_2 _ _ l1_2 t1 _ ?_ ?_ ?_ ?_ A3.out).mono ?_);exact bz;exact HC0_2.out;exact kQ;exact HC1_2.out;rintro e w' ⟨rfl,⟨nd,rfl⟩⟩))
 go_ret
 exact ⟨aE,au⟩

def bP.f (k:Nat) (a0_0:Int) (a0_1:Bool) (l0_2:List Int) (l0_3:List Int) (a0_4:Int) (a1_0:Int) (a1_1:Bool) (l1_2:List Int) (l1_3:List Int) (a1_4:Int):Option (Bool):=(cZ.f k a0_0 a0_1 l0_2 a1_0 a1_1 l1_2).bind fun t742=>(if t742=true then ((bt.f k l0_3 l1_3).bind fun t743=>(if t743=true then (some (a0_4 == a1_4)) else (some false))) else (some false))
theorem bP.mono:∀ a0 a1 a2 a3 a4 a5 a6 a7 a8 a9 k,LeO (bP.f k a0 a1 a2 a3 a4 a5 a6 a7 a8 a9) (bP.f (k+1) a0 a1 a2 a3 a4 a5 a6 a7 a8 a9):=by
 intro a0 a1 a2 a3 a4 a5 a6 a7 a8 a9 k;unfold bP.f
 repeat' with_reducible first|exact bt.mono ..|exact cZ.mono ..|exact LeO.refl ..|exact LeO.none ..|refine LeO.ite ?_ ?_|refine LeO.bind ?_ (fun _=>?_)
theorem bP.calls (k:Nat) (a0_0:Int) (a0_1:Bool) (A0_2:Option Addr) (c0_2:Nat) (l0_2:List Int) (A0_3:Option Addr) (c0_3:Nat) (l0_3:List Int) (a0_4:Int) (a1_0:Int) (a1_1:Bool) (A1_2:Option Addr) (c1_2:Nat) (l1_2:List Int) (A1_3:Option Addr) (c1_3:Nat) (l1_3:List Int) (a1_4:Int) (r:Bool) (w:World) (hr0_2:Kd.C (Kd.int .i64) w A0_2 l0_2.length l0_2) (hc0_2:l0_2.length≤c0_2) (hr0_3:Kd.C (Kd.int .i64) w A0_3 l0_3.length l0_3) (hc0_3:l0_3.length≤c0_3) (hr1_2:Kd.C (Kd.int .i64) w A1_2 l1_2.length l1_2) (hc1_2:l1_2.length≤c1_2) (hr1_3:Kd.C (Kd.int .i64) w A1_3 l1_3.length l1_3) (hc1_3:l1_3.length≤c1_3) (H:bP.f k a0_0 a0_1 l0_2 l0_3 a0_4 a1_0 a1_1 l1_2 l1_3 a1_4=some r) :
  Calls Tryz.prog 25 #[.agg #[.int .i64 a0_0,.bool a0_1,.slice A0_2 l0_2.length c0_2,.slice A0_3 l0_3.length c0_3,.int .i64 a0_4],.agg #[.int .i64 a1_0,.bool a1_1,.slice A1_2 l1_2.length c1_2,.slice A1_3 l1_3.length c1_3,.int .i64 a1_4]] w fun e w'=>e=.returned (.bool r)∧Below w.heap.size w w':=by
 have hu32:=Tryz.underlying32;have hu30:=Tryz.underlying30;have HR0_2:=A0_ hr0_2;have HC0_2:=A0_ hc0_2;clear hr0_2 hc0_2;have HR0_3:=A0_ hr0_3;have HC0_3:=A0_ hc0_3;clear hr0_3 hc0_3;have HR1_2:=A0_ hr1_2;have HC1_2:=A0_ hc1_2;clear hr1_2 hc1_2;have HR1_3:=A0_ hr1_3;have HC1_3:=A0_ hc1_3;clear hr1_3 hc1_3;have HB:=A0_ (Below.refl w.heap.size w);unfold bP.f at H;obtain ⟨t1,A3,H⟩:=o1_ H
 by_cases c2:t1=true
 case neg =>
  obtain rfl:=bf_.mpr c2;rw [if_neg ft_] at H;obtain rfl:=si_ H;go_enter Tryz.func25,Tryz.ntmps25
  go_wp2_with (first|((with_reducible refine gd_ (N:=2) rfl ?_);refine bx_ 2 #[.int .i64 a0_0,.bool a0_1,.slice A0_2 l0_2.length c0_2,.slice A0_3 l0_3.length c0_3,.int .i64 a0_4] 32 ?_;intro gb1 hg w1 BK1 hb;have GW1:=ge_ hg ai;have GE1:=GW1;replace HB:=hb_ hb ai;clear hb hg)|((with_reducible refine gd_ (N:=3) rfl ?_);refine bx_ 3 #[.int .i64 a1_0,.bool a1_1,.slice A1_2 l1_2.length c1_2,.slice A1_3 l1_3.length c1_3,.int .i64 a1_4] 32 ?_;intro gb2 hg w2 BK2 hb;have GW2:=ge_ hg aj;have GE2:=GW2;replace HB:=hb_ hb aj;obtain ⟨NB1_2,NB2_1⟩:=nn_ hg BK1;replace BK1:=k1_ BK1 hb;clear hb hg;obtain ⟨hnb1,hnc1⟩:=n2_ NB1_2;have hcz1:=c5_ BK1;have hcz2:=c5_ BK2)|((with_reducible refine gc_ (f:=56) rfl ?_);refine gl_ 9 Tryz.func56 #[.agg #[.int .i64 a0_0,.bool a0_1,.slice A0_2 l0_2.length c0_2],.agg #[.int .i64 a1_0,.bool a1_1,.slice A1_2 l1_2.length c1_2]] ?_;(with_reducible refine (cZ.calls k a0_0 a0_1 _ _ l0_2 a1_0 a1_1 _ _ l1_2 false _ ?_ ?_ ?_ ?_ A3.out).mono ?_);exact bz;exact HC0_2.out;exact kQ;exact HC1_2.out;rintro e w3 ⟨rfl,hb⟩;refine ⟨_,rfl,?_⟩;replace BK1:=k1_ BK1 hb;replace BK2:=k1_ BK2 hb;replace HB:=hb_ hb au;(try clear hb)))
  go_ret
  exact ⟨aE,au⟩
 subst c2;rw [if_pos rfl] at H;obtain ⟨t2,A5,H⟩:=o1_ H
 by_cases c3:t2=true
 ·subst c3
  rw [if_pos rfl] at H;obtain rfl:=si_ H;go_enter Tryz.func25,Tryz.ntmps25
  go_wp2_with (first|((with_reducible refine gd_ (N:=2) rfl ?_);refine bx_ 2 #[.int .i64 a0_0,.bool a0_1,.slice A0_2 l0_2.length c0_2,.slice A0_3 l0_3.length c0_3,.int .i64 a0_4] 32 ?_;intro gb1 hg w1 BK1 hb;have GW1:=ge_ hg ai;have GE1:=GW1;replace HB:=hb_ hb ai;clear hb hg)|((with_reducible refine gd_ (N:=3) rfl ?_);refine bx_ 3 #[.int .i64 a1_0,.bool a1_1,.slice A1_2 l1_2.length c1_2,.slice A1_3 l1_3.length c1_3,.int .i64 a1_4] 32 ?_;intro gb2 hg w2 BK2 hb;have GW2:=ge_ hg aj;have GE2:=GW2;replace HB:=hb_ hb aj;obtain ⟨NB1_2,NB2_1⟩:=nn_ hg BK1;replace BK1:=k1_ BK1 hb;clear hb hg;obtain ⟨hnb1,hnc1⟩:=n2_ NB1_2;have hcz1:=c5_ BK1;have hcz2:=c5_ BK2)|((with_reducible refine gc_ (f:=56) rfl ?_);refine gl_ 9 Tryz.func56 #[.agg #[.int .i64 a0_0,.bool a0_1,.slice A0_2 l0_2.length c0_2],.agg #[.int .i64 a1_0,.bool a1_1,.slice A1_2 l1_2.length c1_2]] ?_;(with_reducible refine (cZ.calls k a0_0 a0_1 _ _ l0_2 a1_0 a1_1 _ _ l1_2 true _ ?_ ?_ ?_ ?_ A3.out).mono ?_);exact bz;exact HC0_2.out;exact kQ;exact HC1_2.out;rintro e w3 ⟨rfl,hb⟩;refine ⟨_,rfl,?_⟩;replace BK1:=k1_ BK1 hb;replace BK2:=k1_ BK2 hb;replace HB:=hb_ hb au;(try clear hb);have hcz3:=c5_ BK1;have hcz4:=c5_ BK2)|(go_at_call 57;(with_reducible refine (bt.calls k _ _ l0_3 _ _ l1_3 true _ ?_ ?_ ?_ ?_ A5.out).mono ?_);exact b6;exact HC0_3.out;exact nR;exact HC1_3.out;rintro e w' ⟨rfl,⟨nd,rfl⟩⟩))
  go_ret
  exact ⟨aE,au⟩
 obtain rfl:=bf_.mpr c3;rw [if_neg ft_] at H;obtain rfl:=si_ H;go_enter Tryz.func25,Tryz.ntmps25
 go_wp2_with (first|((with_reducible refine gd_ (N:=2) rfl ?_);refine bx_ 2 #[.int .i64 a0_0,.bool a0_1,.slice A0_2 l0_2.length c0_2,.slice A0_3 l0_3.length c0_3,.int .i64 a0_4] 32 ?_;intro gb1 hg w1 BK1 hb;have GW1:=ge_ hg ai;have GE1:=GW1;replace HB:=hb_ hb ai;clear hb hg)|((with_reducible refine gd_ (N:=3) rfl ?_);refine bx_ 3 #[.int .i64 a1_0,.bool a1_1,.slice A1_2 l1_2.length c1_2,.slice A1_3 l1_3.length c1_3,.int .i64 a1_4] 32 ?_;intro gb2 hg w2 BK2 hb;have GW2:=ge_ hg aj;have GE2:=GW2;replace HB:=hb_ hb aj;obtain ⟨NB1_2,NB2_1⟩:=nn_ hg BK1;replace BK1:=k1_ BK1 hb;clear hb hg;obtain ⟨hnb1,hnc1⟩:=n2_ NB1_2;have hcz1:=c5_ BK1;have hcz2:=c5_ BK2)|((with_reducible refine gc_ (f:=56) rfl ?_);refine gl_ 9 Tryz.func56 #[.agg #[.int .i64 a0_0,.bool a0_1,.slice A0_2 l0_2.length c0_2],.agg #[.int .i64 a1_0,.bool a1_1,.slice A1_2 l1_2.length c1_2]] ?_;(with_reducible refine (cZ.calls k a0_0 a0_1 _ _ l0_2 a1_0 a1_1 _ _ l1_2 true _ ?_ ?_ ?_ ?_ A3.out).mono ?_);exact bz;exact HC0_2.out;exact kQ;exact HC1_2.out;rintro e w3 ⟨rfl,hb⟩;refine ⟨_,rfl,?_⟩;replace BK1:=k1_ BK1 hb;replace BK2:=k1_ BK2 hb;replace HB:=hb_ hb au;(try clear hb);have hcz3:=c5_ BK1;have hcz4:=c5_ BK2)|(go_at_call 57;(with_reducible refine (bt.calls k _ _ l0_3 _ _ l1_3 false _ ?_ ?_ ?_ ?_ A5.out).mono ?_);exact b6;exact HC0_3.out;exact nR;exact HC1_3.out;rintro e w' ⟨rfl,⟨nd,rfl⟩⟩))
 go_ret
 exact ⟨aE,au⟩

def cQ.f (k:Nat) (a0_0:Int) (a0_1:Bool) (l0_2:List Int) (l0_3:List Int) (a0_4:Int):Option (Bool):=(ao.f k a0_0 a0_1 l0_2 l0_3 a0_4).bind fun t745=>(some t745)
theorem cQ.mono:∀ a0 a1 a2 a3 a4 k,LeO (cQ.f k a0 a1 a2 a3 a4) (cQ.f (k+1) a0 a1 a2 a3 a4):=by
 intro a0 a1 a2 a3 a4 k;unfold cQ.f
 repeat' with_reducible first|exact ao.mono ..|exact LeO.refl ..|exact LeO.none ..|refine LeO.ite ?_ ?_|refine LeO.bind ?_ (fun _=>?_)
theorem cQ.calls (k:Nat) (a0_0:Int) (a0_1:Bool) (A0_2:Option Addr) (c0_2:Nat) (l0_2:List Int) (A0_3:Option Addr) (c0_3:Nat) (l0_3:List Int) (a0_4:Int) (r:Bool) (w:World) (hr0_2:Kd.C (Kd.int .i64) w A0_2 l0_2.length l0_2) (hc0_2:l0_2.length≤c0_2) (hr0_3:Kd.C (Kd.int .i64) w A0_3 l0_3.length l0_3) (hc0_3:l0_3.length≤c0_3) (H:cQ.f k a0_0 a0_1 l0_2 l0_3 a0_4=some r) :
  Calls Tryz.prog 27 #[.agg #[.int .i64 a0_0,.bool a0_1,.slice A0_2 l0_2.length c0_2,.slice A0_3 l0_3.length c0_3,.int .i64 a0_4]] w fun e w'=>e=.returned (.bool r)∧Below w.heap.size w w':=by
 have hu32:=Tryz.underlying32;have HR0_2:=A0_ hr0_2;have HC0_2:=A0_ hc0_2;clear hr0_2 hc0_2;have HR0_3:=A0_ hr0_3;have HC0_3:=A0_ hc0_3;clear hr0_3 hc0_3;have HB:=A0_ (Below.refl w.heap.size w);unfold cQ.f at H;obtain ⟨t1,A2,H⟩:=o1_ H;replace H:(some t1)=some r:=H;obtain rfl:=si_ H;go_enter Tryz.func27,Tryz.ntmps27
 go_wp2_with (first|((with_reducible refine gd_ (N:=1) rfl ?_);refine bx_ 1 #[.int .i64 a0_0,.bool a0_1,.slice A0_2 l0_2.length c0_2,.slice A0_3 l0_3.length c0_3,.int .i64 a0_4] 32 ?_;intro gb1 hg w1 BK1 hb;have GW1:=ge_ hg ai;have GE1:=GW1;replace HB:=hb_ hb ai;clear hb hg;have hcz1:=c5_ BK1)|((with_reducible refine gc_ (f:=32) rfl ?_);refine gl_ 4 Tryz.func32 #[.agg #[.int .i64 a0_0,.bool a0_1,.slice A0_2 l0_2.length c0_2,.slice A0_3 l0_3.length c0_3,.int .i64 a0_4]] ?_;(with_reducible refine (ao.calls k a0_0 a0_1 _ _ l0_2 _ _ l0_3 a0_4 t1 _ ?_ ?_ ?_ ?_ A2.out).mono ?_);exact bz;exact HC0_2.out;exact b6;exact HC0_3.out;rintro e w2 ⟨rfl,hb⟩;refine ⟨_,rfl,?_⟩;replace BK1:=k1_ BK1 hb;replace HB:=hb_ hb aj;(try clear hb)))
 go_ret
 exact ⟨aE,aj⟩

def bS.l0:Nat→List Int→Int→Int→Option (Bool)
 | 0,_,_,_=>none
 | k+1,x0,x1,x5=>if x5<(x0.length:Int) then (if 0≤x5 then (if (rd x0 x5)=x1 then (some true) else (bS.l0 k x0 x1 (wrap64 (x5+1)))) else (none)) else (some false)
def bS.f (k:Nat) (l0:List Int) (a1:Int):Option (Bool):=bS.l0 k l0 a1 0
theorem bS.mono_l:∀ k,(∀ y0 y1 y2,LeO (bS.l0 k y0 y1 y2) (bS.l0 (k+1) y0 y1 y2))
 | 0=>fun _ _ _ r h=>by simp [bS.l0] at h
 | k+1=>by
  have ih0:=bS.mono_l k
  ·intro y0 y1 y2
   unfold bS.l0
   repeat' with_reducible first|exact ih0 ..|exact LeO.refl ..|exact LeO.none ..|refine LeO.ite ?_ ?_|refine LeO.bind ?_ (fun _=>?_)
theorem bS.mono:∀ a0 a1 k,LeO (bS.f k a0 a1) (bS.f (k+1) a0 a1):=by
 intro a0 a1 k;have ih0:=bS.mono_l k;unfold bS.f
 repeat' with_reducible first|exact ih0 ..|exact LeO.refl ..|exact LeO.none ..|refine LeO.ite ?_ ?_|refine LeO.bind ?_ (fun _=>?_)
theorem bS.calls (k:Nat) (A0:Option Addr) (c0:Nat) (l0:List Int) (a1:Int) (r:Bool) (w:World) (hr0:Kd.C (Kd.int .i64) w A0 l0.length l0) (hc0:l0.length≤c0) (H:bS.f k l0 a1=some r) :
  Calls Tryz.prog 29 #[.slice A0 l0.length c0,.int .i64 a1] w fun e w'=>e=.returned (.bool r)∧Drawn0 w w':=by
 have HR0:=A0_ hr0;have HC0:=A0_ hc0;clear hr0 hc0;unfold bS.f at H;have H':=A0_ H;clear H;go_enter Tryz.func29,Tryz.ntmps29
 go_wp2
 go_loopg [5] k (fun kq v1 w'=>∃ (x5_1:Int),v1=.int .i64 x5_1∧Aside0 (bS.l0 kq l0 a1 x5_1=some r)∧Aside0 (kq≤k)∧Drawn0 w w')
 case atStart=>exact ⟨(0),aX,H',⟨Nat.le_refl _⟩,ck⟩
 clear H';obtain ⟨x5_1,rfl,HA,HK1,⟨m1,rfl⟩⟩:=hrel
 cases gk with|zero=>exact absurd HA.out (by simp [bS.l0])|succ k1=>?_
 have H:=HA.out;clear HA;simp only [bS.l0] at H
 by_cases c1:x5_1<(l0.length:Int)
 case neg =>
  rw [if_neg c1] at H;have c1b0:decide (x5_1<(l0.length:Int))=false:=decide_eq_false c1;clear c1;obtain rfl:=si_ H
  go_wp2
  go_ret
  exact ⟨dv,ck⟩
 rw [if_pos c1] at H;have c1b0:decide (x5_1<(l0.length:Int))=true:=dt_ c1;clear c1;obtain ⟨c2b0,H⟩:=i1_ H
 by_cases c3:(rd l0 x5_1)=a1
 ·rw [if_pos c3] at H
  obtain ⟨c3b0,c3b1⟩:=et_ c3;clear c3;obtain rfl:=si_ H;have p1:0≤(x5_1:Int):=od_ ay;have q1:x5_1<(l0.length:Int):=od_ ay;obtain ⟨ad1,e1,hx1_0⟩:=Kd.at_int HR0.out x5_1 p1 q1;cases e1;replace p1:=eq_true p1;replace q1:=eq_true q1
  go_wp2
  go_ret
  exact ⟨dv,ck⟩
 rw [if_neg c3] at H;obtain ⟨c3b0,c3b1⟩:=ef_ c3;have H':=A0_ H;clear H;have p1:0≤(x5_1:Int):=od_ ay;have q1:x5_1<(l0.length:Int):=od_ ay;obtain ⟨ad1,e1,hx1_0⟩:=Kd.at_int HR0.out x5_1 p1 q1;cases e1;replace p1:=eq_true p1;replace q1:=eq_true q1
 go_wp2
 go_roundg k1
 case measure=>have:=HK1.out;omega
 exact ⟨(wrap64 (x5_1+1)),aX,H',⟨dj⟩,ck⟩

end Go.Proofs.YtbohmfnjgjijdaaGreatDoor.QFnHouses
-- packed
-- squeezed
