-- Written by px.py, a program of this session, over the kit's printer: some functions have a definition and a proof of this session's own.
import Derived.Test.YtbohmfnjgjijdaaGreatDoorQFnHousesx0
import Derived.Test.YtbohmfnjgjijdaaGreatDoorQFnHousesx3
import Derived.Test.YtbohmfnjgjijdaaGreatDoorQFnHousesx1
import Derived.Test.YtbohmfnjgjijdaaGreatDoorQFnHousesx2
namespace Go.Proofs.YtbohmfnjgjijdaaGreatDoor.QFnHouses
open Go.RowKit Go.Proofs.YtbohmfnjgjijdaaGreatDoorW.PrintWords Go.Proofs.YtbohmfnjgjijdaaGreatDoorW.PrintLast Go.Proofs.YtbohmfnjgjijdaaGreatDoorW.PrintMore
attribute [local go_sem] ek el eM eN dU dV en eo   -- for this text's walks alone
set_option linter.unusedVariables false
set_option linter.unusedSimpArgs false
set_option maxHeartbeats 8000000
set_option maxRecDepth 100000

def bM.f (a0_0:Int) (a0_1:Bool) (l0_2:List Int) (l0_3:List Int) (a0_4:Int):Option (Int × Bool × List Int × List Int × Int):=(some (([]:List Int):List Int)).bind fun y224=>(if y224.length+l0_2.length<17592186044416 then ((some (([]:List Int):List Int)).bind fun y230=>(if y230.length+l0_3.length<17592186044416 then (some (a0_0,a0_1,(y224++l0_2),(y230++l0_3),a0_4)) else (none))) else (none))
def bM.T1:Bool × List (List Nat × List Nat):=(true,[([],[]),([],[]),([1],[1]),([2],[2]),([0,3],[0,3]),([],[]),([],[]),([6],[6]),([5,7,4],[5,7]),([0,1,2,3,4,6,7],[]),([9,0,1,2,3,4,6,7],[9]),([10,4,8,0,1,2,3,4,6,7],[4,10]),([0,1,2,3,4,5,6,7,8,9,10,11],[]),([12,8,11,0,1,2,3,4,5,6,7,8,9,10,11],[8,12])])
def bM.B1:List Nat:=[0,0,2,6,15,0,0,64,255,223,735,2047,4095,8191]
theorem bM.tab1:df .any (dO Tryz.f38 1)=bM.T1:=by kernel_rfl
theorem bM.bits1:ce bM.T1.2 bM.B1=true:=by kernel_rfl
theorem bM.calls (a0_0:Int) (a0_1:Bool) (A0_2:Option Addr) (c0_2:Nat) (l0_2:List Int) (A0_3:Option Addr) (c0_3:Nat) (l0_3:List Int) (a0_4:Int) (r1:Int) (r2:Bool) (r3:List Int) (r4:List Int) (r5:Int) (w:World) (hr0_2:Kd.C (Kd.int .i64) w A0_2 l0_2.length l0_2) (hc0_2:l0_2.length≤c0_2) (hr0_3:Kd.C (Kd.int .i64) w A0_3 l0_3.length l0_3) (hc0_3:l0_3.length≤c0_3) (H:bM.f a0_0 a0_1 l0_2 l0_3 a0_4=some (r1,r2,r3,r4,r5)) :
  Calls Tryz.prog 38 #[.agg #[.int .i64 a0_0,.bool a0_1,.slice A0_2 l0_2.length c0_2,.slice A0_3 l0_3.length c0_3,.int .i64 a0_4]] w fun e w'=>∃ v2_ v3_:Value,e=.returned (.agg #[.int .i64 r1,.bool r2,v2_,v3_,.int .i64 r5])∧Kd.R (Kd.int .i64) 3 w' w.heap.size (fun k_=>no_ v3_ k_) v2_ r3∧Kd.R (Kd.int .i64) 3 w' w.heap.size (fun k_=>no_ v2_ k_) v3_ r4∧Below w.heap.size w w':=by
 have hu31:=Tryz.underlying32;have HR0_2:=A0_ hr0_2;have HC0_2:=A0_ hc0_2;clear hr0_2 hc0_2;have HR0_3:=A0_ hr0_3;have HC0_3:=A0_ hc0_3;clear hr0_3 hc0_3;have HB:=A0_ (Below.refl w.heap.size w);unfold bM.f at H;obtain ⟨y1,hy1⟩:∃ y_:List Int,y_=(([]:List Int)):=⟨_,rfl⟩;replace H:(if y1.length+l0_2.length<17592186044416 then ((some (([]:List Int):List Int)).bind fun y2=>(if y2.length+l0_3.length<17592186044416 then (some (a0_0,a0_1,(y1++l0_2),(y2++l0_3),a0_4)) else (none))) else (none))=some (r1,r2,r3,r4,r5):=dx;have Ny1:=A0_ hy1;clear hy1;obtain ⟨c1,H⟩:=is_ H;have LMc1:=A0_ c1;clear c1;obtain ⟨y3,hy2⟩:∃ y_:List Int,y_=(y1++l0_2):=⟨_,rfl⟩;replace H:((some (([]:List Int):List Int)).bind fun y2=>(if y2.length+l0_3.length<17592186044416 then (some (a0_0,a0_1,y3,(y2++l0_3),a0_4)) else (none)))=some (r1,r2,r3,r4,r5):=dH;have Ny2:=A0_ hy2;clear hy2;obtain ⟨y2,hy3⟩:∃ y_:List Int,y_=(([]:List Int)):=⟨_,rfl⟩;replace H:(if y2.length+l0_3.length<17592186044416 then (some (a0_0,a0_1,y3,(y2++l0_3),a0_4)) else (none))=some (r1,r2,r3,r4,r5):=it;have Ny3:=A0_ hy3;clear hy3;obtain ⟨c2,H⟩:=is_ H;have LMc2:=A0_ c2;clear c2;obtain ⟨y4,hy4⟩:∃ y_:List Int,y_=(y2++l0_3):=⟨_,rfl⟩;replace H:(some (a0_0,a0_1,y3,y4,a0_4))=some (r1,r2,r3,r4,r5):=lU;have Ny4:=A0_ hy4;clear hy4;simp only [sj_,pj_] at H;obtain ⟨rfl,rfl,rfl,rfl,rfl⟩:=H;go_enter Tryz.func38,Tryz.ntmps38
 try go_wp2_with (first|((with_reducible refine gd_ (N:=1) rfl ?_);refine bx_ 1 #[.int .i64 a0_0,.bool a0_1,.slice A0_2 l0_2.length c0_2,.slice A0_3 l0_3.length c0_3,.int .i64 a0_4] 32 ?_;intro gb1 hg w1 BK1 hb;have GW1:=ge_ hg ai;have GE1:=GW1;replace HB:=hb_ hb ai;clear hb hg)|((with_reducible refine gd_ (N:=2) rfl ?_);refine bx_ 2 #[.int .i64 0,.bool false,.slice none 0 0,.slice none 0 0,.int .i64 0] 32 ?_;intro gb2 hg w2 BK2 hb;have GW2:=ge_ hg aj;have GE2:=GW2;replace HB:=hb_ hb aj;obtain ⟨NB1_2,NB2_1⟩:=nn_ hg BK1;replace BK1:=k1_ BK1 hb;clear hb hg))
 replace BK1:=A0_ (kd_ BK1.out);replace BK2:=A0_ (kd_ BK2.out);replace HB:=A0_ (bd_ HB.out)
 refine s5_ 14 [11,13] BK1 bM.tab1 bM.bits1 (fun hHeld HT_ HW_=>?_)
 generalize w2.drew=w3 at BK1 BK2 HB hHeld ⊢
 refine pu_ 1 4 ?_
 refine pu_ 2 5 ?_
 refine pu_ 6 9 ?_
 refine tk_ 3 6 hHeld ?_
 refine tk_ 7 10 hHeld ?_
 refine iF (σ:=Value × Value × Value) 4 #[true,true,true,true,true,true,true,true,false,true,true,false,false,false] (fun s_=>[(3,s_.1),(7,s_.2.1),(8,s_.2.2),(12,.pointer (some ⟨gb1,0,none⟩)),(13,.pointer (some ⟨gb1,2,none⟩))]) (fun s_ w'=>(w'.cell? ⟨gb1,0,none⟩=some (.int .i64 a0_0)∧w'.cell? ⟨gb1,1,none⟩=some (.bool a0_1)∧w'.cell? ⟨gb1,2,none⟩=some (.slice A0_2 l0_2.length c0_2)∧w'.cell? ⟨gb1,3,none⟩=some (.slice A0_3 l0_3.length c0_3)∧w'.cell? ⟨gb1,4,none⟩=some (.int .i64 a0_4))∧(Kd.R (Kd.int .i64) 3 w' w.heap.size (fun k_=>some k_≠(s_.2.2:Value).ownBlock) s_.2.1 y3)∧(Kd.R (Kd.int .i64) 3 w' w.heap.size (fun k_=>some k_≠(s_.2.1:Value).ownBlock) s_.2.2 y2)∧(w'.heap[gb1]?=some (.cells #[.int .i64 a0_0,.bool a0_1,.slice A0_2 l0_2.length c0_2,.slice A0_3 l0_3.length c0_3,.int .i64 a0_4] 32 (0,0)))∧(w'.heap[gb2]?=some (.cells #[.int .i64 0,.bool false,.slice none 0 0,.slice none 0 0,.int .i64 0] 32 (0,0)))∧(Below w.heap.size w w')) ?_ ?_
 rotate_left
 ·intro hCont
  refine ig (i:=0) (j:=5) (Ni:=some 3) (Nj:=some 8) #[true,true,true,true,false,false,true,true,false,false,false,false,false,false] #[false,true,true,true,false,true,true,true,false,false,false,false,false,false] rfl rfl rfl rfl (ew HT_.out aY) ag ag (fun K hK=>?_) (fun K hK=>?_)
  ·refine Kd.R_lit_step (Kd.int .i64) _ 3 ?hg (N:=3) ?hd (xs:=([]:List Int)) (inner:=[]) (ok:=fun _=>True) (okp:=fun _=>True) ?hr ?hp (fun _ hk=>hk) trivial (Below.refl _ _) (Nat.le_refl _) bB ?_;(case hd=>rfl);(case hg=>rfl);(case hr=>go_simp;first|done|rfl);(case hp=>exact (aN.none _ _))
   intro v1 w4 ho8 hb hg_ hnew_;clear hg_ hnew_
   (first|rw [← Ny1.out] at ho8|(simp only [Int.reduceToNat] at ho8;rw [← Ny1.out] at ho8))
   have HO1:=A0_ (Kd.R_lower ho8 (bz_ au));replace BK1:=k1_ BK1 hb;replace BK2:=k1_ BK2 hb;replace HB:=hb_ hb au;clear hb ho8
   refine hK.out _ _ (c5_ BK1) (fun hHeld=>?_)
   clear hK K
   refine nm_ 3 ?_
   refine ig (i:=4) (j:=5) (Ni:=some 7) (Nj:=some 8) #[true,true,true,true,true,false,true,true,false,false,false,false,false,false] #[true,true,true,true,false,true,true,true,false,false,false,false,false,false] rfl rfl rfl rfl (ew HT_.out aY) ag ag (fun K hK=>?_) (fun K hK=>?_)
   ·refine Kd.R_append_rows_step (Kd.int .i64) (w0:=w) w.heap.size (by rfl) (.tmp 3) (.tmp 6) 22 3 (.int .i64 0) 8 rfl Tryz.underlying22 cW rfl ag bm v1 y1 l0_2 _ _ _ (fun _=>True) (fun _=>False) rfl rfl ?aO ?aR (fun _ _ h=>h) (fun _ h=>h.elim) ?aF ?aB ?aS ?aL ?_
    (case aR=>exact bz)
    (case aB=>exact au)
    (case aF=>exact (fun _ _=>trivial))
    (case aO=>exact bx)
    (case aS=>exact (bz_ au))
    (case aL=>have:=LMc1.out;omega)
    intro v4 w5 ho hb hg hat;rw [← Ny2.out] at ho;have n0_:=A0_ (aJ (g:=gb1) (o:=.cells #[.int .i64 a0_0,.bool a0_1,.slice A0_2 l0_2.length c0_2,.slice A0_3 l0_3.length c0_3,.int .i64 a0_4] 32 (0,0)) (u1_ BK1) hg (Kd.R_ne HO1.out BK1.out ag));have n1_:=A0_ (aJ (g:=gb2) (o:=.cells #[.int .i64 0,.bool false,.slice none 0 0,.slice none 0 0,.int .i64 0] 32 (0,0)) (u1_ BK2) hg (Kd.R_ne HO1.out BK2.out ag));have n2_:=A0_ (hb);have n3_:=A0_ (ho);clear BK1 BK2 HB HO1;have BK1:=n0_;have BK2:=n1_;have HB:=n2_;have HO2:=n3_;clear n0_ n1_ n2_ n3_ ho hb hg hat
    refine hK.out _ _ (c5_ BK1) (fun hHeld=>?_)
    clear hK K
    refine nm_ 7 ?_
    refine pu_ 9 12 ?_
    refine pu_ 10 13 ?_
    refine on_ 5 (some 8) (fun K hK=>?_)
    refine Kd.R_lit_step (Kd.int .i64) _ 3 ?hg (N:=8) ?hd (xs:=([]:List Int)) (inner:=[]) (ok:=fun _=>True) (okp:=fun _=>True) ?hr ?hp (fun _ hk=>hk) trivial (Below.refl _ _) (Nat.le_refl _) bB ?_;(case hd=>rfl);(case hg=>rfl);(case hr=>go_simp;first|done|rfl);(case hp=>exact (aN.none _ _))
    intro v5 w6 ho11 hb hg_ hnew_;clear hg_ hnew_
    (first|rw [← Ny3.out] at ho11|(simp only [Int.reduceToNat] at ho11;rw [← Ny3.out] at ho11))
    have HO3:=A0_ (Kd.R_lower (Kd.R_new' ho11 (Kd.R_lt cd)) (bz_ au));replace HO2:=A0_ (Kd.R_elder' cd (Kd.R_base ho11) hb);replace BK1:=k1_ BK1 hb;replace BK2:=k1_ BK2 hb;replace HB:=hb_ hb au;clear hb ho11
    refine hK.out _ _ (c5_ BK1) (fun hHeld=>?_)
    clear hK K
    refine nm_ 8 ?_
    exact dN dZ (hCont (v1,v4,v5) _ ⟨hHeld,fu,lW,(u1_ BK1),(u1_ BK2),au⟩)
   refine Kd.R_lit_step (Kd.int .i64) _ 3 ?hg (N:=8) ?hd (xs:=([]:List Int)) (inner:=[]) (ok:=fun _=>True) (okp:=fun _=>True) ?hr ?hp (fun _ hk=>hk) trivial (Below.refl _ _) (Nat.le_refl _) bB ?_;(case hd=>rfl);(case hg=>rfl);(case hr=>go_simp;first|done|rfl);(case hp=>exact (aN.none _ _))
   intro v4 w5 ho10 hb hg_ hnew_;clear hg_ hnew_
   (first|rw [← Ny3.out] at ho10|(simp only [Int.reduceToNat] at ho10;rw [← Ny3.out] at ho10))
   have HO2:=A0_ (Kd.R_lower (Kd.R_new' ho10 (Kd.R_lt bx)) (bz_ au));replace HO1:=A0_ (Kd.R_elder' bx (Kd.R_base ho10) hb);replace BK1:=k1_ BK1 hb;replace BK2:=k1_ BK2 hb;replace HB:=hb_ hb au;clear hb ho10
   refine hK.out _ _ (c5_ BK1) (fun hHeld=>?_)
   clear hK K
   refine nm_ 8 ?_
   refine on_ 4 (some 7) (fun K hK=>?_)
   refine Kd.R_append_rows_step (Kd.int .i64) (w0:=w) w.heap.size (by rfl) (.tmp 3) (.tmp 6) 22 3 (.int .i64 0) 8 rfl Tryz.underlying22 cW rfl ag bm v1 y1 l0_2 _ _ _ (fun k_=>no_ v4 k_) (fun _=>False) rfl rfl ?aO ?aR (fun _ _ h=>h) (fun _ h=>h.elim) ?aF ?aB ?aS ?aL ?_
   (case aR=>exact bz)
   (case aB=>exact au)
   (case aF=>exact (fun k_ hk=>Kd.fresh' (Kd.R_lt cd) k_ hk))
   (case aO=>exact iu)
   (case aS=>exact (bz_ au))
   (case aL=>have:=LMc1.out;omega)
   intro v5 w6 ho hb hg hat;rw [← Ny2.out] at ho;have n0_:=A0_ (aJ (g:=gb1) (o:=.cells #[.int .i64 a0_0,.bool a0_1,.slice A0_2 l0_2.length c0_2,.slice A0_3 l0_3.length c0_3,.int .i64 a0_4] 32 (0,0)) (u1_ BK1) hg (Kd.R_ne HO1.out BK1.out ag));have n1_:=A0_ (aJ (g:=gb2) (o:=.cells #[.int .i64 0,.bool false,.slice none 0 0,.slice none 0 0,.int .i64 0] 32 (0,0)) (u1_ BK2) hg (Kd.R_ne HO1.out BK2.out ag));have n2_:=A0_ (Kd.R_after (ok:=(fun _=>True)) cd hg hat);have n3_:=A0_ (hb);have n4_:=A0_ (ho);clear BK1 BK2 HO2 HB HO1;have BK1:=n0_;have BK2:=n1_;have HO2:=n2_;have HB:=n3_;have HO3:=n4_;clear n0_ n1_ n2_ n3_ n4_ ho hb hg hat
   refine hK.out _ _ (c5_ BK1) (fun hHeld=>?_)
   clear hK K
   refine nm_ 7 ?_
   refine pu_ 9 12 ?_
   refine pu_ 10 13 ?_
   exact dN dZ (hCont (v1,v5,v4) _ ⟨hHeld,d9,fu,(u1_ BK1),(u1_ BK2),au⟩)
  refine Kd.R_lit_step (Kd.int .i64) _ 3 ?hg (N:=8) ?hd (xs:=([]:List Int)) (inner:=[]) (ok:=fun _=>True) (okp:=fun _=>True) ?hr ?hp (fun _ hk=>hk) trivial (Below.refl _ _) (Nat.le_refl _) bB ?_;(case hd=>rfl);(case hg=>rfl);(case hr=>go_simp;first|done|rfl);(case hp=>exact (aN.none _ _))
  intro v1 w4 ho8 hb hg_ hnew_;clear hg_ hnew_
  (first|rw [← Ny3.out] at ho8|(simp only [Int.reduceToNat] at ho8;rw [← Ny3.out] at ho8))
  have HO1:=A0_ (Kd.R_lower ho8 (bz_ au));replace BK1:=k1_ BK1 hb;replace BK2:=k1_ BK2 hb;replace HB:=hb_ hb au;clear hb ho8
  refine hK.out _ _ (c5_ BK1) (fun hHeld=>?_)
  clear hK K
  refine nm_ 8 ?_
  refine on_ 0 (some 3) (fun K hK=>?_)
  refine Kd.R_lit_step (Kd.int .i64) _ 3 ?hg (N:=3) ?hd (xs:=([]:List Int)) (inner:=[]) (ok:=fun _=>True) (okp:=fun _=>True) ?hr ?hp (fun _ hk=>hk) trivial (Below.refl _ _) (Nat.le_refl _) bB ?_;(case hd=>rfl);(case hg=>rfl);(case hr=>go_simp;first|done|rfl);(case hp=>exact (aN.none _ _))
  intro v4 w5 ho10 hb hg_ hnew_;clear hg_ hnew_
  (first|rw [← Ny1.out] at ho10|(simp only [Int.reduceToNat] at ho10;rw [← Ny1.out] at ho10))
  have HO2:=A0_ (Kd.R_lower (Kd.R_new' ho10 (Kd.R_lt bx)) (bz_ au));replace HO1:=A0_ (Kd.R_elder' bx (Kd.R_base ho10) hb);replace BK1:=k1_ BK1 hb;replace BK2:=k1_ BK2 hb;replace HB:=hb_ hb au;clear hb ho10
  refine hK.out _ _ (c5_ BK1) (fun hHeld=>?_)
  clear hK K
  refine nm_ 3 ?_
  refine on_ 4 (some 7) (fun K hK=>?_)
  refine Kd.R_append_rows_step (Kd.int .i64) (w0:=w) w.heap.size (by rfl) (.tmp 3) (.tmp 6) 22 3 (.int .i64 0) 8 rfl Tryz.underlying22 cW rfl ag bm v4 y1 l0_2 _ _ _ (fun k_=>no_ v1 k_) (fun _=>False) rfl rfl ?aO ?aR (fun _ _ h=>h) (fun _ h=>h.elim) ?aF ?aB ?aS ?aL ?_
  (case aR=>exact bz)
  (case aB=>exact au)
  (case aF=>exact (fun k_ hk=>Kd.fresh' (Kd.R_lt bx) k_ hk))
  (case aO=>exact fu)
  (case aS=>exact (bz_ au))
  (case aL=>have:=LMc1.out;omega)
  intro v5 w6 ho hb hg hat;rw [← Ny2.out] at ho;have n0_:=A0_ (aJ (g:=gb1) (o:=.cells #[.int .i64 a0_0,.bool a0_1,.slice A0_2 l0_2.length c0_2,.slice A0_3 l0_3.length c0_3,.int .i64 a0_4] 32 (0,0)) (u1_ BK1) hg (Kd.R_ne HO2.out BK1.out ag));have n1_:=A0_ (aJ (g:=gb2) (o:=.cells #[.int .i64 0,.bool false,.slice none 0 0,.slice none 0 0,.int .i64 0] 32 (0,0)) (u1_ BK2) hg (Kd.R_ne HO2.out BK2.out ag));have n2_:=A0_ (Kd.R_after (ok:=(fun _=>True)) bx hg hat);have n3_:=A0_ (hb);have n4_:=A0_ (ho);clear BK1 BK2 HO1 HB HO2;have BK1:=n0_;have BK2:=n1_;have HO1:=n2_;have HB:=n3_;have HO3:=n4_;clear n0_ n1_ n2_ n3_ n4_ ho hb hg hat
  refine hK.out _ _ (c5_ BK1) (fun hHeld=>?_)
  clear hK K
  refine nm_ 7 ?_
  refine pu_ 9 12 ?_
  refine pu_ 10 13 ?_
  exact dN dZ (hCont (v4,v5,v1) _ ⟨hHeld,d9,iu,(u1_ BK1),(u1_ BK2),au⟩)
 rintro ⟨v1,v4,v5⟩ w4 ⟨hS_,h0_,h1_,h2_,h3_,h4_⟩
 try dsimp only at h0_ h1_ h2_ h3_ h4_
 have HO1:=A0_ h0_;have HO2:=A0_ h1_;replace BK1:=A0_ h2_;replace BK2:=A0_ h3_;replace HB:=A0_ h4_;clear h0_ h1_ h2_ h3_ h4_;have hHeld:w4.cell? ⟨gb1,0,none⟩=some (.int .i64 a0_0)∧w4.cell? ⟨gb1,1,none⟩=some (.bool a0_1)∧w4.cell? ⟨gb1,2,none⟩=some (.slice A0_2 l0_2.length c0_2)∧w4.cell? ⟨gb1,3,none⟩=some (.slice A0_3 l0_3.length c0_3)∧w4.cell? ⟨gb1,4,none⟩=some (.int .i64 a0_4):=hS_
 refine nq_ ?_
 refine on_ 8 (some 11) (fun K hK=>?_)
 refine Kd.R_append_rows_step (Kd.int .i64) (w0:=w) w.heap.size (by rfl) (.tmp 8) (.tmp 10) 22 3 (.int .i64 0) 8 rfl Tryz.underlying22 cW rfl ag bm v5 y2 l0_3 _ _ _ (fun k_=>no_ v4 k_) (fun _=>False) rfl rfl ?aO ?aR (fun _ _ h=>h) (fun _ h=>h.elim) ?aF ?aB ?aS ?aL ?_
 (case aR=>exact b6)
 (case aB=>exact au)
 (case aF=>exact (fun k_ hk=>Kd.fresh' (Kd.R_lt bx) k_ hk))
 (case aO=>exact cd)
 (case aS=>exact (bz_ au))
 (case aL=>have:=LMc2.out;omega)
 intro v6 w5 ho hb hg hat;rw [← Ny4.out] at ho;have n0_:=A0_ (aJ (g:=gb1) (o:=.cells #[.int .i64 a0_0,.bool a0_1,.slice A0_2 l0_2.length c0_2,.slice A0_3 l0_3.length c0_3,.int .i64 a0_4] 32 (0,0)) (u1_ BK1) hg (Kd.R_ne HO2.out BK1.out ag));have n1_:=A0_ (aJ (g:=gb2) (o:=.cells #[.int .i64 0,.bool false,.slice none 0 0,.slice none 0 0,.int .i64 0] 32 (0,0)) (u1_ BK2) hg (Kd.R_ne HO2.out BK2.out ag));have n2_:=A0_ (Kd.R_after (ok:=(fun _=>True)) (by (with_reducible repeat (first|apply ra_|apply rn_|apply rd_));exact Kd.R_mono HO1.out (fun _ hk=>⟨trivial,hk⟩)) hg hat);have n3_:=A0_ (hb);have n4_:=A0_ (ho);clear BK1 BK2 HO1 HB HO2;have BK1:=n0_;have BK2:=n1_;have HO1:=n2_;have HB:=n3_;have HO3:=n4_;clear n0_ n1_ n2_ n3_ n4_ ho hb hg hat;obtain ⟨Ao1,co1,eo1⟩:=Kd.R_slice HO1.out
 (first|subst eo1|(injection eo1 with f1_ f2_ f3_;have f4_:=f1_.symm;have f5_:=f3_.symm;clear f1_ f2_ f3_;subst f4_;subst f5_))
 obtain ⟨Ao2,co2,eo2⟩:=Kd.R_slice HO3.out
 (first|subst eo2|(injection eo2 with f1_ f2_ f3_;have f4_:=f1_.symm;have f5_:=f3_.symm;clear f1_ f2_ f3_;subst f4_;subst f5_))
 refine hK.out _ _ (c5_ BK1) (fun hHeld=>?_)
 clear hK K
 refine nm_ 11 ?_
 refine iG (i:=11) (N:=none) #[true,true,true,true,true,true,true,true,true,true,true,true,false,false] rfl rfl (ft HT_.out aY) ag (fun K hK=>?_)
 have hs15:=y_ BK1 2;have hfs15:=kf_ BK1.out 2;obtain ⟨hns1_1,hms1_1⟩:=n2_ NB2_1
 refine ea (w1:=?_) (by rfl) rfl ?_ ?_
 rotate_left
 ·go_simp
  rfl
 refine hK.out _ _ ?_
 clear hK K
 refine pu_ 12 14 ?_
 refine iG (i:=13) (N:=none) #[true,true,true,true,true,true,true,true,true,true,true,true,true,true] rfl rfl (ft HT_.out aY) ag (fun K hK=>?_)
 have hs17:=y_ BK1 3;have hfs17:=kf_ BK1.out 3;obtain ⟨hns2_1,hms2_1⟩:=n2_ NB2_1
 refine ea (w1:=?_) (by rfl) rfl ?_ ?_
 rotate_left
 ·go_simp
  rfl
 refine hK.out _ _ ?_
 clear hK K
 refine dn_ ?_
 obtain ⟨hnb1,hnc1⟩:=n2_ NB1_2;have hcz1:=z5_ BK1;have hcz2:=z5_ BK2
 try go_wp2
 refine bodyPost_ret (results_cell_row rfl _ _ gb2 32 #[.int .i64 a0_0,.bool a0_1,.slice Ao1 y3.length co1,.slice Ao2 y4.length co2,.int .i64 a0_4] (0,0) _ rfl (u1_ BK2) Tryz.underlying32 rfl aY) rfl ?_
 exact ⟨_,_,aE,by (with_reducible repeat (first|apply ra_|apply rn_|apply rd_));exact Kd.R_mono (bw (rf_ (rf_ (Kd.R_types (Kd.R_types HO1.out BK1.out ag) BK2.out ag) (fun _ hk=>hk.1.2) (.slice Ao1 y3.length co1)) (fun _ hk=>hk.1.2) (.slice Ao2 y4.length co2))) (fun _ hk=>hk.1.1.2),by (with_reducible repeat (first|apply ra_|apply rn_|apply rd_));exact Kd.R_mono (bw (rf_ (rf_ (Kd.R_types (Kd.R_types HO3.out BK1.out ag) BK2.out ag) (fun _ hk=>hk.1.2) (.slice Ao1 y3.length co1)) (fun _ hk=>hk.1.2) (.slice Ao2 y4.length co2))) (fun _ hk=>hk.1.1),au⟩


def bl.l0:Nat→List (S50)→List (S50)→Int→Int→Int→Bool→List Int→List Int→Int→Option (Int × Bool × List Int × List Int × Int × Int × Bool)
 | 0,_,_,_,_,_,_,_,_,_=>none
 | k+1,x1,x17,x18,x19,xa,xb,xc,xd,xe=>if x19<x18 then (if 0≤x19 then (if x19<(x17.length:Int) then ((ap.f k xa xb xc xd xe ((bf x17 x19).f0) ((bf x17 x19).f1) ((bf x17 x19).f2)).bind fun bt479=>(if bt479.2.2.2.2.2=true then (bl.l0 k x1 x17 x18 (wrap64 (x19+1)) bt479.1 bt479.2.1 bt479.2.2.1 bt479.2.2.2.1 bt479.2.2.2.2.1) else (some (xa,xb,xc,xd,xe,x19,true)))) else (none)) else (none)) else (some (xa,xb,xc,xd,xe,(x1.length:Int),true))
def bl.f (k:Nat) (a0_0:Int) (a0_1:Bool) (l0_2:List Int) (l0_3:List Int) (a0_4:Int) (l1:List (S50)):Option (Int × Bool × List Int × List Int × Int × Int × Bool):=(aM.f k a0_0 a0_1 l0_2 l0_3 a0_4).bind fun t467=>(if t467=true then ((bM.f a0_0 a0_1 l0_2 l0_3 a0_4).bind fun bt468=>(bl.l0 k l1 l1 (l1.length:Int) 0 bt468.1 bt468.2.1 bt468.2.2.1 bt468.2.2.2.1 bt468.2.2.2.2)) else (some (0,false,([]:List Int),([]:List Int),0,0,false)))
theorem bl.mono_l:∀ k,(∀ y0 y1 y2 y3 y4 y5 y6 y7 y8,LeO (bl.l0 k y0 y1 y2 y3 y4 y5 y6 y7 y8) (bl.l0 (k+1) y0 y1 y2 y3 y4 y5 y6 y7 y8))
 | 0=>fun _ _ _ _ _ _ _ _ _ r h=>by simp [bl.l0] at h
 | k+1=>by
  have ih0:=bl.mono_l k
  ·intro y0 y1 y2 y3 y4 y5 y6 y7 y8
   unfold bl.l0
   repeat' with_reducible first|exact ih0 ..|exact ap.mono ..|exact aM.mono ..|exact LeO.refl ..|exact LeO.none ..|refine LeO.ite ?_ ?_|refine LeO.bind ?_ (fun _=>?_)
theorem bl.mono:∀ a0 a1 a2 a3 a4 a5 k,LeO (bl.f k a0 a1 a2 a3 a4 a5) (bl.f (k+1) a0 a1 a2 a3 a4 a5):=by
 intro a0 a1 a2 a3 a4 a5 k;have ih0:=bl.mono_l k;unfold bl.f
 repeat' with_reducible first|exact ih0 ..|exact ap.mono ..|exact aM.mono ..|exact LeO.refl ..|exact LeO.none ..|refine LeO.ite ?_ ?_|refine LeO.bind ?_ (fun _=>?_)
theorem bl.calls (k:Nat) (a0_0:Int) (a0_1:Bool) (A0_2:Option Addr) (c0_2:Nat) (l0_2:List Int) (A0_3:Option Addr) (c0_3:Nat) (l0_3:List Int) (a0_4:Int) (A1:Option Addr) (c1:Nat) (l1:List (S50)) (r1:Int) (r2:Bool) (r3:List Int) (r4:List Int) (r5:Int) (r6:Int) (r7:Bool) (w:World) (hr0_2:Kd.C (Kd.int .i64) w A0_2 l0_2.length l0_2) (hc0_2:l0_2.length≤c0_2) (hr0_3:Kd.C (Kd.int .i64) w A0_3 l0_3.length l0_3) (hc0_3:l0_3.length≤c0_3) (hr1:Kd.C k50 w A1 l1.length l1) (hc1:l1.length≤c1) (hG:TabOK w) (H:bl.f k a0_0 a0_1 l0_2 l0_3 a0_4 l1=some (r1,r2,r3,r4,r5,r6,r7)) :
  Calls Tryz.prog 10 #[.agg #[.int .i64 a0_0,.bool a0_1,.slice A0_2 l0_2.length c0_2,.slice A0_3 l0_3.length c0_3,.int .i64 a0_4],.slice A1 l1.length c1] w fun e w'=>∃ v2_ v3_:Value,e=.returned (.tuple #[.agg #[.int .i64 r1,.bool r2,v2_,v3_,.int .i64 r5],.int .i64 r6,.bool r7])∧Kd.R (Kd.int .i64) 3 w' w.heap.size (fun k_=>no_ v3_ k_) v2_ r3∧Kd.R (Kd.int .i64) 3 w' w.heap.size (fun k_=>no_ v2_ k_) v3_ r4∧Below w.heap.size w w':=by
 have HG0:=A0_ hG;clear hG;have hu32:=Tryz.underlying32;have hu50:=Tryz.underlying50;have HR0_2:=A0_ hr0_2;have HC0_2:=A0_ hc0_2;clear hr0_2 hc0_2;have HR0_3:=A0_ hr0_3;have HC0_3:=A0_ hc0_3;clear hr0_3 hc0_3;have HR1:=A0_ hr1;have HC1:=A0_ hc1;clear hr1 hc1;have HB:=A0_ (Below.refl w.heap.size w);unfold bl.f at H;obtain ⟨t1,A3,H⟩:=o1_ H
 by_cases c2:t1=true
 case neg =>
  obtain rfl:=bf_.mpr c2;rw [if_neg ft_] at H;simp only [sj_,pj_] at H;obtain ⟨rfl,rfl,rfl,rfl,rfl,rfl,rfl⟩:=H;go_enter Tryz.func10,Tryz.ntmps10
  go_wp2_with (first|((with_reducible refine gd_ (N:=2) rfl ?_);refine bx_ 2 #[.int .i64 a0_0,.bool a0_1,.slice A0_2 l0_2.length c0_2,.slice A0_3 l0_3.length c0_3,.int .i64 a0_4] 32 ?_;intro gb1 hg w1 BK1 hb;have GW1:=ge_ hg ai;have GE1:=GW1;replace HB:=hb_ hb ai;clear hb hg)|((with_reducible refine gd_ (N:=4) rfl ?_);refine bx_ 4 #[.int .i64 0,.bool false,.slice none 0 0,.slice none 0 0,.int .i64 0] 32 ?_;intro gb2 hg w2 BK2 hb;have GW2:=ge_ hg aj;have GE2:=GW2;replace HB:=hb_ hb aj;obtain ⟨NB1_2,NB2_1⟩:=nn_ hg BK1;replace BK1:=k1_ BK1 hb;clear hb hg;obtain ⟨hnb1,hnc1⟩:=n2_ NB1_2;have hcz1:=z5_ BK1)|((with_reducible refine gc_ (f:=26) rfl ?_);refine gl_ 12 Tryz.func26 #[.agg #[.int .i64 a0_0,.bool a0_1,.slice A0_2 l0_2.length c0_2,.slice A0_3 l0_3.length c0_3,.int .i64 a0_4]] ?_;(with_reducible refine (aM.calls k a0_0 a0_1 _ _ l0_2 _ _ l0_3 a0_4 false _ ?_ ?_ ?_ ?_ A3.out).mono ?_);exact bz;exact HC0_2.out;exact b6;exact HC0_3.out;rintro e w3 ⟨rfl,hb⟩;refine ⟨_,rfl,?_⟩;replace BK1:=k1_ BK1 hb;replace BK2:=k1_ BK2 hb;replace HB:=hb_ hb au;(try clear hb);have hcz2:=z5_ BK2))
  refine bodyPost_ret (dX rfl _ _ gb2 32 #[.int .i64 0,.bool false,.slice none 0 0,.slice none 0 0,.int .i64 0] (0,0) _ rfl (u1_ BK2) Tryz.underlying32 rfl aY) rfl ?_
  exact ⟨_,_,aE,dF,dF,au⟩
 subst c2;rw [if_pos rfl] at H;obtain ⟨⟨t2,t3,t4,t5,t6⟩,A5,H⟩:=o1_ H;have H':=A0_ H;clear H;go_enter Tryz.func10,Tryz.ntmps10
 go_wp2_with (first|((with_reducible refine gd_ (N:=2) rfl ?_);refine bx_ 2 #[.int .i64 a0_0,.bool a0_1,.slice A0_2 l0_2.length c0_2,.slice A0_3 l0_3.length c0_3,.int .i64 a0_4] 32 ?_;intro gb1 hg w1 BK1 hb;have GW1:=ge_ hg ai;have GE1:=GW1;replace HB:=hb_ hb ai;clear hb hg)|((with_reducible refine gd_ (N:=4) rfl ?_);refine bx_ 4 #[.int .i64 0,.bool false,.slice none 0 0,.slice none 0 0,.int .i64 0] 32 ?_;intro gb2 hg w2 BK2 hb;have GW2:=ge_ hg aj;have GE2:=GW2;replace HB:=hb_ hb aj;obtain ⟨NB1_2,NB2_1⟩:=nn_ hg BK1;replace BK1:=k1_ BK1 hb;clear hb hg;obtain ⟨hnb1,hnc1⟩:=n2_ NB1_2;have hcz1:=z5_ BK1)|((with_reducible refine gc_ (f:=26) rfl ?_);refine gl_ 12 Tryz.func26 #[.agg #[.int .i64 a0_0,.bool a0_1,.slice A0_2 l0_2.length c0_2,.slice A0_3 l0_3.length c0_3,.int .i64 a0_4]] ?_;(with_reducible refine (aM.calls k a0_0 a0_1 _ _ l0_2 _ _ l0_3 a0_4 true _ ?_ ?_ ?_ ?_ A3.out).mono ?_);exact bz;exact HC0_2.out;exact b6;exact HC0_3.out;rintro e w3 ⟨rfl,hb⟩;refine ⟨_,rfl,?_⟩;replace BK1:=k1_ BK1 hb;replace BK2:=k1_ BK2 hb;replace HB:=hb_ hb au;(try clear hb);have hcz2:=z5_ BK1)|((with_reducible refine gc_ (f:=38) rfl ?_);refine gl_ 16 Tryz.func38 #[.agg #[.int .i64 a0_0,.bool a0_1,.slice A0_2 l0_2.length c0_2,.slice A0_3 l0_3.length c0_3,.int .i64 a0_4]] ?_;(with_reducible refine (bM.calls a0_0 a0_1 _ _ l0_2 _ _ l0_3 a0_4 t2 t3 t4 t5 t6 _ ?_ ?_ ?_ ?_ A5.out).mono ?_);exact bz;exact HC0_2.out;exact b6;exact HC0_3.out;rintro e w4 ⟨v1,v4,rfl,ho0,ho1,hb⟩;refine ⟨_,rfl,?_⟩;have HO1:=A0_ (Kd.R_lower ho0 (bz_ au));have HO2:=A0_ (Kd.R_lower ho1 (bz_ au));replace BK1:=k1_ BK1 hb;replace BK2:=k1_ BK2 hb;replace HB:=hb_ hb au;(try clear hb ho0 ho1);have hcz3:=z5_ BK1;obtain ⟨Ao1,co1,eo1⟩:=Kd.R_slice HO1.out;subst eo1;obtain ⟨Ao2,co2,eo2⟩:=Kd.R_slice HO2.out;subst eo2))
 go_loopg [19] k (fun kq v5 w'=>∃ (x19_1:Int) (xc:Int) (xd:Bool) (xa:List Int) (xb:List Int) (xe:Int) (xh:Int) (xi:Bool) (xj:Int) (uf:Value) (ug:Value),v5=.int .i64 x19_1∧Aside0 (bl.l0 kq l1 l1 (l1.length:Int) x19_1 xc xd xa xb xe=some (r1,r2,r3,r4,r5,r6,r7))∧Aside0 (kq≤k)∧Aside0 (Kd.R (Kd.int .i64) 3 w' w.heap.size (fun k_=>no_ ug k_) uf xa)∧Aside0 (Kd.R (Kd.int .i64) 3 w' w.heap.size (fun k_=>no_ uf k_) ug xb)∧Aside0 (w'.heap[gb1]?=some (.cells #[.int .i64 xc,.bool xd,uf,ug,.int .i64 xe] 32 (0,0)))∧Aside0 (w'.heap[gb2]?=some (.cells #[.int .i64 xh,.bool xi,(.slice none 0 0),(.slice none 0 0),.int .i64 xj] 32 (0,0)))∧Aside0 (Below w.heap.size w w'))
 case atStart=>exact ⟨(0),(t2),(t3),(t4),(t5),(t6),(0),(false),(0),(.slice Ao1 t4.length co1),(.slice Ao2 t5.length co2),aX,H',⟨Nat.le_refl _⟩,⟨nk⟩,⟨nh⟩,⟨u1_ BK1⟩,⟨u1_ BK2⟩,⟨au⟩⟩
 clear H'
 try clear c1
 try clear c2
 (try clear hcz2);(try clear hcz3);(try clear hcz1);(try clear hfz2);(try clear hfz3);(try clear hfz1)
 obtain ⟨x19_1,xc,xd,xa,xb,xe,xh,xi,xj,uf,ug,rfl,HA,HK1,HO_1,HO_2,BK1,BK2,HB⟩:=hrel
 cases gk with|zero=>exact absurd HA.out (by simp [bl.l0])|succ k1=>?_
 have H:=HA.out;clear HA;simp only [bl.l0] at H
 by_cases c3:x19_1<(l1.length:Int)
 case neg =>
  rw [if_neg c3] at H;have c3b0:decide (x19_1<(l1.length:Int))=false:=decide_eq_false c3;clear c3;simp only [sj_,pj_] at H;obtain ⟨rfl,rfl,rfl,rfl,rfl,rfl,rfl⟩:=H;obtain ⟨hnb2,hnc2⟩:=n2_ NB1_2;have hcz4:=z5_ BK1;have hcz5:=z5_ BK2;obtain ⟨Ao3,co3,eo3⟩:=Kd.R_slice HO_1.out;subst eo3;obtain ⟨Ao4,co4,eo4⟩:=Kd.R_slice HO_2.out;subst eo4
  go_wp2
  refine bodyPost_ret (dX rfl _ _ gb2 32 #[.int .i64 xc,.bool xd,.slice Ao3 xa.length co3,.slice Ao4 xb.length co4,.int .i64 xe] (0,0) _ rfl (u1_ BK2) Tryz.underlying32 rfl aY) rfl ?_
  exact ⟨_,_,aE,oa,nr,au⟩
 rw [if_pos c3] at H;have c3b0:decide (x19_1<(l1.length:Int))=true:=dt_ c3;clear c3;obtain ⟨c4b0,H⟩:=i1_ H;obtain ⟨c5b0,H⟩:=i1_ H;obtain ⟨⟨t7,t8,t9,t10,t11,t12⟩,A7,H⟩:=o1_ H
 by_cases c6:t12=true
 ·subst c6
  rw [if_pos rfl] at H;have H':=A0_ H;clear H;have p1:0≤(x19_1:Int):=od_ ay;have q1:x19_1<(l1.length:Int):=od_ ay;obtain ⟨ad1,e1,hx1_0,hx1_1,hx1_2⟩:=jD HR1.out x19_1 p1 q1;cases e1;replace hx1_0:=(HB.out.cell (World.block_lt_of_cell? w _ hx1_0)).trans hx1_0;replace hx1_1:=(HB.out.cell (World.block_lt_of_cell? w _ hx1_1)).trans hx1_1;replace hx1_2:=(HB.out.cell (World.block_lt_of_cell? w _ hx1_2)).trans hx1_2;replace p1:=eq_true p1;replace q1:=eq_true q1
  go_wp2_with (first|((with_reducible refine gd_ (N:=8) rfl ?_);refine bx_ 8 #[.int .i64 0,.int .i64 0,.int .i64 0] 50 ?_;intro gb3 hg w5 BK3 hb;replace HO_1:=q1_ HO_1 hb;replace HO_2:=q1_ HO_2 hb;have GW3:=ge_ hg au;have GE3:=GW3;replace HB:=hb_ hb au;obtain ⟨NB1_3,NB3_1⟩:=nn_ hg BK1;replace BK1:=k1_ BK1 hb;obtain ⟨NB2_3,NB3_2⟩:=nn_ hg BK2;replace BK2:=k1_ BK2 hb;clear hb hg;obtain ⟨hnb2,hnc2⟩:=n2_ NB3_1;obtain ⟨hnb3,hnc3⟩:=n2_ NB3_2;have hcz4:=z3_ BK3;obtain ⟨hnb4,hnc4⟩:=n2_ NB1_2;have hcz5_0:=y_ BK1 0;have hcz5_1:=y_ BK1 1;have hcz5_2:=y_ BK1 2;have hcz5_3:=y_ BK1 3;have hcz5_4:=y_ BK1 4;have hfz5_0:=kf_ BK1.out 0;have hfz5_1:=kf_ BK1.out 1;have hfz5_2:=kf_ BK1.out 2;have hfz5_3:=kf_ BK1.out 3;have hfz5_4:=kf_ BK1.out 4;obtain ⟨Ao3,co3,eo3⟩:=Kd.R_slice HO_1.out;subst eo3;obtain ⟨Ao4,co4,eo4⟩:=Kd.R_slice HO_2.out;subst eo4)|((with_reducible refine gc_ (f:=22) rfl ?_);refine gl_ 27 Tryz.func22 #[.agg #[.int .i64 xc,.bool xd,.slice Ao3 xa.length co3,.slice Ao4 xb.length co4,.int .i64 xe],.agg #[.int .i64 ((bf l1 x19_1).f0),.int .i64 ((bf l1 x19_1).f1),.int .i64 ((bf l1 x19_1).f2)]] ?_;(with_reducible refine (ap.calls k1 xc xd _ _ xa _ _ xb xe ((bf l1 x19_1).f0) ((bf l1 x19_1).f1) ((bf l1 x19_1).f2) t7 t8 t9 t10 t11 true _ ?_ ?_ ?_ ?_ nX A7.out).mono ?_);(refine (rr_ (e:=3) (base:=w.heap.size) (ok:=fun k_=>no_ (.slice Ao4 xb.length co4) k_) (n:=xa.length) (c:=co3) ?_).2.2;exact hJ);exact (rr_ HO_1.out).2.1;(refine (rr_ (e:=3) (base:=w.heap.size) (ok:=fun k_=>no_ (.slice Ao3 xa.length co3) k_) (n:=xb.length) (c:=co4) ?_).2.2;exact hO);exact (rr_ HO_2.out).2.1;rintro e w6 ⟨v6,v7,rfl,ho0,ho1,hb⟩;refine ⟨_,rfl,?_⟩;have HO3:=A0_ (Kd.R_lower (Kd.R_new' (Kd.R_new' ho0 (Kd.R_lt hJ)) (Kd.R_lt hO)) (bz_ aD));have HO4:=A0_ (Kd.R_lower (Kd.R_new' (Kd.R_new' ho1 (Kd.R_lt hJ)) (Kd.R_lt hO)) (bz_ aD));replace HO_1:=A0_ (Kd.R_mono (Kd.R_told (Kd.R_told (Kd.R_old hJ hb) (Kd.R_base ho0)) (Kd.R_base ho1)) (fun _ h_=>h_.1));replace HO_2:=A0_ (Kd.R_mono (Kd.R_told (Kd.R_told (Kd.R_old hO hb) (Kd.R_base ho0)) (Kd.R_base ho1)) (fun _ h_=>h_.1));replace BK1:=k1_ BK1 hb;replace BK2:=k1_ BK2 hb;replace BK3:=k2_ (.cells #[.int .i64 ((bf l1 x19_1).f0),.int .i64 ((bf l1 x19_1).f1),.int .i64 ((bf l1 x19_1).f2)] 50 (0,0)) BK3 hb;replace HB:=hb_ hb aD;(try clear hb ho0 ho1))|((with_reducible refine gd_ (N:=9) rfl ?_);refine bx_ 9 #[.int .i64 0,.bool false,.slice none 0 0,.slice none 0 0,.int .i64 0] 32 ?_;intro gb4 hg w7 BK4 hb;replace HO_1:=q1_ HO_1 hb;replace HO_2:=q1_ HO_2 hb;replace HO3:=q1_ HO3 hb;replace HO4:=q1_ HO4 hb;have GW4:=ge_ hg aD;have GE4:=GW4;replace HB:=hb_ hb aD;obtain ⟨NB1_4,NB4_1⟩:=nn_ hg BK1;replace BK1:=k1_ BK1 hb;obtain ⟨NB2_4,NB4_2⟩:=nn_ hg BK2;replace BK2:=k1_ BK2 hb;obtain ⟨NB3_4,NB4_3⟩:=nn_ hg BK3;replace BK3:=k1_ BK3 hb;clear hb hg;obtain ⟨hnb5,hnc5⟩:=n2_ NB4_1;obtain ⟨hnb6,hnc6⟩:=n2_ NB4_2;obtain ⟨hnb7,hnc7⟩:=n2_ NB4_3;have hcz6:=z5_ BK4;obtain ⟨Ao5,co5,eo5⟩:=Kd.R_slice HO3.out;subst eo5;obtain ⟨Ao6,co6,eo6⟩:=Kd.R_slice HO4.out;subst eo6;have hcz7_0:=y_ BK1 0;have hcz7_1:=y_ BK1 1;have hcz7_2:=y_ BK1 2;have hcz7_3:=y_ BK1 3;have hcz7_4:=y_ BK1 4;have hfz7_0:=kf_ BK1.out 0;have hfz7_1:=kf_ BK1.out 1;have hfz7_2:=kf_ BK1.out 2;have hfz7_3:=kf_ BK1.out 3;have hfz7_4:=kf_ BK1.out 4))
  go_roundg k1
  case measure=>have:=HK1.out;omega
  exact ⟨(wrap64 (x19_1+1)),(t7),(t8),(t9),(t10),(t11),(xh),(xi),(xj),(.slice Ao5 t9.length co5),(.slice Ao6 t10.length co6),aX,H',⟨dj⟩,⟨by (with_reducible repeat (first|apply ra_|apply rn_|apply rd_));exact Kd.R_mono (bw (rf_ (rf_ (rf_ (rf_ (rf_ (Kd.R_types (Kd.R_types HO3.out BK4.out ag) BK1.out ag) (fun _ hk=>hk.1.2) (.int .i64 t7)) (fun _ hk=>hk.1.2) (.bool t8)) (fun _ hk=>hk.1.2) (.slice Ao5 t9.length co5)) (fun _ hk=>hk.1.2) (.slice Ao6 t10.length co6)) (fun _ hk=>hk.1.2) (.int .i64 t11))) (fun _ hk=>hk.1.1.1.1)⟩,⟨by (with_reducible repeat (first|apply ra_|apply rn_|apply rd_));exact Kd.R_mono (bw (rf_ (rf_ (rf_ (rf_ (rf_ (Kd.R_types (Kd.R_types HO4.out BK4.out ag) BK1.out ag) (fun _ hk=>hk.1.2) (.int .i64 t7)) (fun _ hk=>hk.1.2) (.bool t8)) (fun _ hk=>hk.1.2) (.slice Ao5 t9.length co5)) (fun _ hk=>hk.1.2) (.slice Ao6 t10.length co6)) (fun _ hk=>hk.1.2) (.int .i64 t11))) (fun _ hk=>hk.1.1.1.1)⟩,⟨u1_ BK1⟩,⟨u1_ BK2⟩,⟨ca⟩⟩
 obtain rfl:=bf_.mpr c6;rw [if_neg ft_] at H;simp only [sj_,pj_] at H;obtain ⟨rfl,rfl,rfl,rfl,rfl,rfl,rfl⟩:=H;have p1:0≤(x19_1:Int):=od_ ay;have q1:x19_1<(l1.length:Int):=od_ ay;obtain ⟨ad1,e1,hx1_0,hx1_1,hx1_2⟩:=jD HR1.out x19_1 p1 q1;cases e1;replace hx1_0:=(HB.out.cell (World.block_lt_of_cell? w _ hx1_0)).trans hx1_0;replace hx1_1:=(HB.out.cell (World.block_lt_of_cell? w _ hx1_1)).trans hx1_1;replace hx1_2:=(HB.out.cell (World.block_lt_of_cell? w _ hx1_2)).trans hx1_2;replace p1:=eq_true p1;replace q1:=eq_true q1
 go_wp2_with (first|((with_reducible refine gd_ (N:=8) rfl ?_);refine bx_ 8 #[.int .i64 0,.int .i64 0,.int .i64 0] 50 ?_;intro gb3 hg w5 BK3 hb;replace HO_1:=q1_ HO_1 hb;replace HO_2:=q1_ HO_2 hb;have GW3:=ge_ hg au;have GE3:=GW3;replace HB:=hb_ hb au;obtain ⟨NB1_3,NB3_1⟩:=nn_ hg BK1;replace BK1:=k1_ BK1 hb;obtain ⟨NB2_3,NB3_2⟩:=nn_ hg BK2;replace BK2:=k1_ BK2 hb;clear hb hg;obtain ⟨hnb2,hnc2⟩:=n2_ NB3_1;obtain ⟨hnb3,hnc3⟩:=n2_ NB3_2;have hcz4:=z3_ BK3;obtain ⟨hnb4,hnc4⟩:=n2_ NB1_2;have hcz5_0:=y_ BK1 0;have hcz5_1:=y_ BK1 1;have hcz5_2:=y_ BK1 2;have hcz5_3:=y_ BK1 3;have hcz5_4:=y_ BK1 4;have hfz5_0:=kf_ BK1.out 0;have hfz5_1:=kf_ BK1.out 1;have hfz5_2:=kf_ BK1.out 2;have hfz5_3:=kf_ BK1.out 3;have hfz5_4:=kf_ BK1.out 4;obtain ⟨Ao3,co3,eo3⟩:=Kd.R_slice HO_1.out;subst eo3;obtain ⟨Ao4,co4,eo4⟩:=Kd.R_slice HO_2.out;subst eo4)|((with_reducible refine gc_ (f:=22) rfl ?_);refine gl_ 27 Tryz.func22 #[.agg #[.int .i64 xc,.bool xd,.slice Ao3 xa.length co3,.slice Ao4 xb.length co4,.int .i64 xe],.agg #[.int .i64 ((bf l1 x19_1).f0),.int .i64 ((bf l1 x19_1).f1),.int .i64 ((bf l1 x19_1).f2)]] ?_;(with_reducible refine (ap.calls k1 xc xd _ _ xa _ _ xb xe ((bf l1 x19_1).f0) ((bf l1 x19_1).f1) ((bf l1 x19_1).f2) t7 t8 t9 t10 t11 false _ ?_ ?_ ?_ ?_ nX A7.out).mono ?_);(refine (rr_ (e:=3) (base:=w.heap.size) (ok:=fun k_=>no_ (.slice Ao4 xb.length co4) k_) (n:=xa.length) (c:=co3) ?_).2.2;exact hJ);exact (rr_ HO_1.out).2.1;(refine (rr_ (e:=3) (base:=w.heap.size) (ok:=fun k_=>no_ (.slice Ao3 xa.length co3) k_) (n:=xb.length) (c:=co4) ?_).2.2;exact hO);exact (rr_ HO_2.out).2.1;rintro e w6 ⟨v6,v7,rfl,ho0,ho1,hb⟩;refine ⟨_,rfl,?_⟩;have HO3:=A0_ (Kd.R_lower (Kd.R_new' (Kd.R_new' ho0 (Kd.R_lt hJ)) (Kd.R_lt hO)) (bz_ aD));have HO4:=A0_ (Kd.R_lower (Kd.R_new' (Kd.R_new' ho1 (Kd.R_lt hJ)) (Kd.R_lt hO)) (bz_ aD));replace HO_1:=A0_ (Kd.R_mono (Kd.R_told (Kd.R_told (Kd.R_old hJ hb) (Kd.R_base ho0)) (Kd.R_base ho1)) (fun _ h_=>h_.1));replace HO_2:=A0_ (Kd.R_mono (Kd.R_told (Kd.R_told (Kd.R_old hO hb) (Kd.R_base ho0)) (Kd.R_base ho1)) (fun _ h_=>h_.1));replace BK1:=k1_ BK1 hb;replace BK2:=k1_ BK2 hb;replace BK3:=k2_ (.cells #[.int .i64 ((bf l1 x19_1).f0),.int .i64 ((bf l1 x19_1).f1),.int .i64 ((bf l1 x19_1).f2)] 50 (0,0)) BK3 hb;replace HB:=hb_ hb aD;(try clear hb ho0 ho1))|((with_reducible refine gd_ (N:=9) rfl ?_);refine bx_ 9 #[.int .i64 0,.bool false,.slice none 0 0,.slice none 0 0,.int .i64 0] 32 ?_;intro gb4 hg w7 BK4 hb;replace HO_1:=q1_ HO_1 hb;replace HO_2:=q1_ HO_2 hb;replace HO3:=q1_ HO3 hb;replace HO4:=q1_ HO4 hb;have GW4:=ge_ hg aD;have GE4:=GW4;replace HB:=hb_ hb aD;obtain ⟨NB1_4,NB4_1⟩:=nn_ hg BK1;replace BK1:=k1_ BK1 hb;obtain ⟨NB2_4,NB4_2⟩:=nn_ hg BK2;replace BK2:=k1_ BK2 hb;obtain ⟨NB3_4,NB4_3⟩:=nn_ hg BK3;replace BK3:=k1_ BK3 hb;clear hb hg;obtain ⟨hnb5,hnc5⟩:=n2_ NB4_1;obtain ⟨hnb6,hnc6⟩:=n2_ NB4_2;obtain ⟨hnb7,hnc7⟩:=n2_ NB4_3;have hcz6:=z5_ BK4;obtain ⟨Ao5,co5,eo5⟩:=Kd.R_slice HO3.out;subst eo5;obtain ⟨Ao6,co6,eo6⟩:=Kd.R_slice HO4.out;subst eo6;have hcz7_0:=y_ BK1 0;have hcz7_1:=y_ BK1 1;have hcz7_2:=y_ BK1 2;have hcz7_3:=y_ BK1 3;have hcz7_4:=y_ BK1 4;have hfz7_0:=kf_ BK1.out 0;have hfz7_1:=kf_ BK1.out 1;have hfz7_2:=kf_ BK1.out 2;have hfz7_3:=kf_ BK1.out 3;have hfz7_4:=kf_ BK1.out 4;have hcz8_0:=y_ BK2 0;have hcz8_1:=y_ BK2 1;have hcz8_2:=y_ BK2 2;have hcz8_3:=y_ BK2 3;have hcz8_4:=y_ BK2 4;have hfz8_0:=kf_ BK2.out 0;have hfz8_1:=kf_ BK2.out 1;have hfz8_2:=kf_ BK2.out 2;have hfz8_3:=kf_ BK2.out 3;have hfz8_4:=kf_ BK2.out 4))
 refine bodyPost_ret (dX rfl _ _ gb2 32 #[.int .i64 xc,.bool xd,.slice Ao3 xa.length co3,.slice Ao4 xb.length co4,.int .i64 xe] (0,0) _ rfl (u1_ BK2) Tryz.underlying32 rfl aY) rfl ?_
 exact ⟨_,_,aE,by (with_reducible repeat (first|apply ra_|apply rn_|apply rd_));exact Kd.R_mono (bw (rf_ (rf_ (rf_ (rf_ (rf_ (Kd.R_types (Kd.R_types HO_1.out BK4.out ag) BK2.out ag) (fun _ hk=>hk.1.2) (.int .i64 t7)) (fun _ hk=>hk.1.2) (.bool t8)) (fun _ hk=>hk.1.2) (.slice Ao5 t9.length co5)) (fun _ hk=>hk.1.2) (.slice Ao6 t10.length co6)) (fun _ hk=>hk.1.2) (.int .i64 t11))) (fun _ hk=>hk.1.1.1.1),by (with_reducible repeat (first|apply ra_|apply rn_|apply rd_));exact Kd.R_mono (bw (rf_ (rf_ (rf_ (rf_ (rf_ (Kd.R_types (Kd.R_types HO_2.out BK4.out ag) BK2.out ag) (fun _ hk=>hk.1.2) (.int .i64 t7)) (fun _ hk=>hk.1.2) (.bool t8)) (fun _ hk=>hk.1.2) (.slice Ao5 t9.length co5)) (fun _ hk=>hk.1.2) (.slice Ao6 t10.length co6)) (fun _ hk=>hk.1.2) (.int .i64 t11))) (fun _ hk=>hk.1.1.1.1),ca⟩

def eA.f (l0:List Int):Option (Bool):=some (decide ((l0.length:Int) > 65536))
theorem eA.calls (A0:Option Addr) (c0:Nat) (l0:List Int) (r:Bool) (w:World) (hr0:Kd.C (Kd.int .u8) w A0 l0.length l0) (hc0:l0.length≤c0) (H:eA.f l0=some r) :
  Calls Tryz.prog 16 #[.slice A0 l0.length c0] w fun e w'=>e=.returned (.bool r)∧Drawn0 w w':=by
 have HR0:=A0_ hr0;have HC0:=A0_ hc0;clear hr0 hc0;unfold eA.f at H;obtain rfl:=si_ H;go_enter Tryz.func16,Tryz.ntmps16
 go_wp2
 go_ret
 exact ⟨dv,ck⟩

/-- A state of type 75 at block g of W; what its slices lead to came in by w0. -/
def aa (w0 W:World) (g:Nat) (f0:List Int) (f1:Int) (f2:Int):Prop:=∃ A0 c0,W.heap[g]?=some (.cells #[.slice A0 f0.length c0,.int .i64 f1,.int .u64 f2] 75 (0,0))∧w0.heap.size≤g∧Kd.C (Kd.int .u8) w0 A0 f0.length f0
theorem aa.grown {w0 W:World} {g:Nat} {f0:List Int} {f1:Int} {f2:Int} {W1:World} {row:Option Nat} (h:aa w0 W g f0 f1 f2) (hw:W.grownBy W1 row) (hne:some g≠row):aa w0 W1 g f0 f1 f2:=by
 obtain ⟨A1,c1,hb,hg,hr0⟩:=h
 exact ⟨A1,c1,aJ hb hw hne,hg,hr0⟩
theorem aa.own_neN {w0 W:World} {g:Nat} {f0:List Int} {f1:Int} {f2:Int} {α:Type} {d:Kd α} {e:Nat} {base:Nat} {ok:Nat→Prop} {v:Value} {xs:List α} (h:aa w0 W g f0 f1 f2) (ho:Kd.N d e W base ok v xs) (ht:e≠75):some g≠v.ownBlock:=by
 obtain ⟨A1,c1,hb,hg,hr0⟩:=h
 exact Kd.N_ne ho hb ht
theorem aa.fresh {w0 W:World} {g:Nat} {f0:List Int} {f1:Int} {f2:Int} (h:aa w0 W g f0 f1 f2):∀ k,W.heap.size≤k→k≠g:=by
 obtain ⟨A1,c1,hb,hg,hr0⟩:=h
 exact Kd.freshB hb
theorem aa.kept {w0 W:World} {g:Nat} {f0:List Int} {f1:Int} {f2:Int} {W1:World} {S:Nat→Prop} (h:aa w0 W g f0 f1 f2) (hk:cN W W1 S) (hne:¬ S g):aa w0 W1 g f0 f1 f2:=by
 obtain ⟨A1,c1,hb,hg,hr0⟩:=h
 exact ⟨A1,c1,fw hb hk hne,hg,hr0⟩
theorem aa.below {w0 W:World} {g:Nat} {f0:List Int} {f1:Int} {f2:Int} {W1:World} (h:aa w0 W g f0 f1 f2) (hw:Below W.heap.size W W1):aa w0 W1 g f0 f1 f2:=h.grown (fy hw none) bB
theorem aa.alloc {w0 W:World} {g:Nat} {f0:List Int} {f1:Int} {f2:Int} (h:aa w0 W g f0 f1 f2) (o:Obj):aa w0 (W.alloc o) g f0 f1 f2:=h.below (ba_ (Below.refl _ _) o)
theorem aa.drewN {w0 W:World} {g:Nat} {f0:List Int} {f1:Int} {f2:Int} (h:aa w0 W g f0 f1 f2) (m:Nat):aa w0 (W.drewN m) g f0 f1 f2:=h
theorem aa.drew {w0 W:World} {g:Nat} {f0:List Int} {f1:Int} {f2:Int} (h:aa w0 W g f0 f1 f2):aa w0 W.drew g f0 f1 f2:=h
theorem aa.at_ {w0 W:World} {g:Nat} {f0:List Int} {f1:Int} {f2:Int} {w':World} {m:Nat} (hq:W.drewN m=w') (h:aa w0 W g f0 f1 f2):aa w0 w' g f0 f1 f2:=by subst hq;exact aa.drewN h m
theorem aa.apart {w0 W:World} {g:Nat} {f0:List Int} {f1:Int} {f2:Int} {α:Type} {d:Kd α} {e:Nat} {base:Nat} {ok:Nat→Prop} {v:Value} {xs:List α} (h:aa w0 W g f0 f1 f2) (ho:d.R e W base ok v xs) (ht:∀ q,q ∈ e :: d.E→q≠75):d.R e W base (fun k=>ok k∧k≠g) v xs:=by
 obtain ⟨A1,c1,hb,hg,hr0⟩:=h
 exact Kd.R_types ho hb ht
theorem aa.own_ne {w0 W:World} {g:Nat} {f0:List Int} {f1:Int} {f2:Int} {α:Type} {d:Kd α} {e:Nat} {base:Nat} {ok:Nat→Prop} {v:Value} {xs:List α} (h:aa w0 W g f0 f1 f2) (ho:d.R e W base ok v xs) (ht:e≠75):some g≠v.ownBlock:=by
 obtain ⟨A1,c1,hb,hg,hr0⟩:=h
 exact Kd.R_ne ho hb ht
theorem aa.apartQ {w0 W:World} {g:Nat} {f0:List Int} {f1:Int} {f2:Int} {α:Type} {d:Kd α} {e:Nat} {base:Nat} {ok:Nat→Prop} {v:Value} {xs:List α} (h:aa w0 W g f0 f1 f2) (ho:d.Q e W base ok v xs) (ht:∀ q,q ∈ e :: d.E→q≠75):d.Q e W base (fun k=>ok k∧k≠g) v xs:=by
 obtain ⟨A1,c1,hb,hg,hr0⟩:=h
 exact Kd.Q_types ho hb ht
theorem aa.own_neQ {w0 W:World} {g:Nat} {f0:List Int} {f1:Int} {f2:Int} {α:Type} {d:Kd α} {e:Nat} {base:Nat} {ok:Nat→Prop} {v:Value} {xs:List α} (h:aa w0 W g f0 f1 f2) (ho:d.Q e W base ok v xs) (ht:e≠75):some g≠v.ownBlock:=by
 obtain ⟨A1,c1,hb,hg,hr0⟩:=h
 exact Kd.Q_ne ho hb ht
theorem aa.apartS {w0 W:World} {g:Nat} {f0:List Int} {f1:Int} {f2:Int} {α:Type} {d:Kd α} {e:Nat} {base:Nat} {ok:Nat→Prop} {v:Value} {xs:List α} (h:aa w0 W g f0 f1 f2) (ho:d.S e W base ok v xs) (ht:∀ q,q ∈ e :: d.E→q≠75):d.S e W base (fun k=>ok k∧k≠g) v xs:=by
 obtain ⟨A1,c1,hb,hg,hr0⟩:=h
 exact Kd.S_types ho hb ht
theorem aa.own_neS {w0 W:World} {g:Nat} {f0:List Int} {f1:Int} {f2:Int} {α:Type} {d:Kd α} {e:Nat} {base:Nat} {ok:Nat→Prop} {v:Value} {xs:List α} (h:aa w0 W g f0 f1 f2) (ho:d.S e W base ok v xs) (ht:e≠75):some g≠v.ownBlock:=by
 obtain ⟨A1,c1,hb,hg,hr0⟩:=h
 exact Kd.S_ne ho hb ht
theorem aa.lt {w0 W:World} {g:Nat} {f0:List Int} {f1:Int} {f2:Int} (h:aa w0 W g f0 f1 f2):g<W.heap.size:=by
 obtain ⟨A1,c1,hb,hg,hr0⟩:=h
 exact ev hb
theorem aa.ge {w0 W:World} {g:Nat} {f0:List Int} {f1:Int} {f2:Int} (h:aa w0 W g f0 f1 f2):w0.heap.size≤g:=by
 obtain ⟨A1,c1,hb,hg,hr0⟩:=h
 exact hg
theorem aa.ne_blk {w0 W:World} {g:Nat} {f0:List Int} {f1:Int} {f2:Int} {a:Nat} {cs:Array Value} {t:TypeId} {fr:Nat × Nat} (h:aa w0 W g f0 f1 f2) (hb2:W.heap[a]?=some (.cells cs t fr)) (ht:t≠75):g≠a:=by
 obtain ⟨A1,c1,hb,hg,hr0⟩:=h;rintro rfl;rw [hb] at hb2
 injection hb2 with hb2
 injection hb2 with _ ht2
 exact ht ht2.symm
theorem aa.far {w0 W:World} {g:Nat} {f0:List Int} {f1:Int} {f2:Int} {p:Addr} (h:aa w0 W g f0 f1 f2) (hne:g≠p.block) (u:Value):aa w0 (W.setCell p u) g f0 f1 f2:=by
 obtain ⟨A1,c1,hb,hg,hr0⟩:=h
 exact ⟨A1,c1,dm hb hne u,hg,hr0⟩
theorem fG {W:World} {g:Nat} {A0:Option Addr} {c0:Nat} {f0:List Int} {f1:Int} {f2:Int} (h:W.heap[g]?=some (.cells #[.slice A0 f0.length c0,.int .i64 f1,.int .u64 f2] 75 (0,0))):W.cell? ⟨g,0,none⟩=some (.slice A0 f0.length c0):=(kc_ h 0).trans rfl
theorem fH {W:World} {g:Nat} {A0:Option Addr} {c0:Nat} {f0:List Int} {f1:Int} {f2:Int} (h:W.heap[g]?=some (.cells #[.slice A0 f0.length c0,.int .i64 f1,.int .u64 f2] 75 (0,0))):W.cell? ⟨g,1,none⟩=some (.int .i64 f1):=(kc_ h 1).trans rfl
theorem aa.set_1 {w0 W:World} {g:Nat} {f0:List Int} {f1:Int} {f2:Int} (h:aa w0 W g f0 f1 f2) (x:Int):aa w0 (W.setCell ⟨g,1,none⟩ (.int .i64 x)) g f0 x f2:=by
 obtain ⟨A1,c1,hb,hg,hr0⟩:=h
 exact ⟨A1,c1,by simpa using io hb 1 (.int .i64 x),hg,hr0⟩
theorem fI {W:World} {g:Nat} {A0:Option Addr} {c0:Nat} {f0:List Int} {f1:Int} {f2:Int} (h:W.heap[g]?=some (.cells #[.slice A0 f0.length c0,.int .i64 f1,.int .u64 f2] 75 (0,0))):W.cell? ⟨g,2,none⟩=some (.int .u64 f2):=(kc_ h 2).trans rfl
theorem aa.set_2 {w0 W:World} {g:Nat} {f0:List Int} {f1:Int} {f2:Int} (h:aa w0 W g f0 f1 f2) (x:Int):aa w0 (W.setCell ⟨g,2,none⟩ (.int .u64 x)) g f0 f1 x:=by
 obtain ⟨A1,c1,hb,hg,hr0⟩:=h
 exact ⟨A1,c1,by simpa using io hb 2 (.int .u64 x),hg,hr0⟩
theorem aa.new (w0 W:World) (A0:Option Addr) (c0:Nat) (f0:List Int) (f1:Int) (f2:Int) (hB:Below w0.heap.size w0 W) (hr0:Kd.C (Kd.int .u8) w0 A0 f0.length f0):aa w0 (W.alloc (.cells #[.slice A0 f0.length c0,.int .i64 f1,.int .u64 f2] 75)) W.heap.size f0 f1 f2:=⟨A0,c0,by simpa using heap_alloc_new W _,hB.size,hr0⟩

def cz.f (s0_0:List Int) (s0_1:Int) (s0_2:Int):Option (Int × Int × Int):=if s0_1<(s0_0.length:Int) then (if 0≤s0_1 then (if (wrap64 (s0_1+1))≤(s0_0.length:Int) then (some (wrap64 (rd s0_0 s0_1),wrap64 (s0_1+1),IntKind.u64.wrap ((IntKind.u64.wrap ((IntKind.u64.wrap (s0_2 * 6364136223846793005))+(IntKind.u64.wrap (wrap64 (rd s0_0 s0_1)))))+462197))) else (some (wrap64 (Go.bits .and .u64 ((IntKind.u64.wrap ((IntKind.u64.wrap ((IntKind.u64.wrap (s0_2 * 6364136223846793005))+(IntKind.u64.wrap (wrap64 (rd s0_0 s0_1)))))+462197)) / 1099511627776) 255),wrap64 (s0_1+1),IntKind.u64.wrap ((IntKind.u64.wrap ((IntKind.u64.wrap (s0_2 * 6364136223846793005))+(IntKind.u64.wrap (wrap64 (rd s0_0 s0_1)))))+462197)))) else (none)) else (if (wrap64 (s0_1+1))≤(s0_0.length:Int) then (some (0,wrap64 (s0_1+1),IntKind.u64.wrap ((IntKind.u64.wrap ((IntKind.u64.wrap (s0_2 * 6364136223846793005))+0))+462197))) else (some (wrap64 (Go.bits .and .u64 ((IntKind.u64.wrap ((IntKind.u64.wrap ((IntKind.u64.wrap (s0_2 * 6364136223846793005))+0))+462197)) / 1099511627776) 255),wrap64 (s0_1+1),IntKind.u64.wrap ((IntKind.u64.wrap ((IntKind.u64.wrap (s0_2 * 6364136223846793005))+0))+462197))))
theorem cz.calls (g:Nat) (s0_0:List Int) (s0_1:Int) (s0_2:Int) (r1:Int) (r2:Int) (r3:Int) (w0 w:World) (hI:aa w0 w g s0_0 s0_1 s0_2) (hB:Below w0.heap.size w0 w) (H:cz.f s0_0 s0_1 s0_2=some (r1,r2,r3)) :
  Calls Tryz.prog 80 #[.pointer (some ⟨g,0,none⟩)] w fun e w'=>e=.returned (.int .i64 r1)∧aa w0 w' g s0_0 r2 r3∧Below w0.heap.size w0 w'∧af w w' g none:=by
 have HI0:=A0_ hI;have HK:=A0_ (af.refl w g none);have HL:=A0_ hB.size;clear hI;have HW0:=A0_ hB.size;have HB:=A0_ hB;clear hB;unfold cz.f at H
 by_cases c1:s0_1<(s0_0.length:Int)
 case neg =>
  rw [if_neg c1] at H;have c1b0:decide (s0_1<(s0_0.length:Int))=false:=decide_eq_false c1;clear c1
  by_cases c2:(wrap64 (s0_1+1))≤(s0_0.length:Int)
  ·rw [if_pos c2] at H
   have c2b0:decide ((wrap64 (s0_1+1))≤(s0_0.length:Int))=true:=dt_ c2;clear c2;simp only [sj_,pj_] at H;obtain ⟨rfl,rfl,rfl⟩:=H;obtain ⟨ASz8_0,cSz8_0,HGz8,hgz8,HSz8_0⟩:=HI0.out;have hcz1_0:=fG HGz8;have hcz1_1:=fH HGz8;have hcz1_2:=fI HGz8;have hfz1_1:=kf_ HGz8 1;have hfz1_2:=kf_ HGz8 2;clear HGz8 hgz8;go_enter Tryz.func80,Tryz.ntmps80
   go_wp2
   repeat (go_quiet (fail);try go_wp2)
   go_ret
   exact ⟨aE,kX,di,dg⟩
  rw [if_neg c2] at H;have c2b0:decide ((wrap64 (s0_1+1))≤(s0_0.length:Int))=false:=decide_eq_false c2;clear c2;simp only [sj_,pj_] at H;obtain ⟨rfl,rfl,rfl⟩:=H;obtain ⟨ASz9_0,cSz9_0,HGz9,hgz9,HSz9_0⟩:=HI0.out;have hcz1_0:=fG HGz9;have hcz1_1:=fH HGz9;have hcz1_2:=fI HGz9;have hfz1_1:=kf_ HGz9 1;have hfz1_2:=kf_ HGz9 2;clear HGz9 hgz9;go_enter Tryz.func80,Tryz.ntmps80
  go_wp2
  repeat (go_quiet (fail);try go_wp2)
  go_ret
  exact ⟨aE,kX,di,dg⟩
 rw [if_pos c1] at H;have c1b0:decide (s0_1<(s0_0.length:Int))=true:=dt_ c1;clear c1;obtain ⟨c2b0,H⟩:=i1_ H
 by_cases c3:(wrap64 (s0_1+1))≤(s0_0.length:Int)
 ·rw [if_pos c3] at H
  have c3b0:decide ((wrap64 (s0_1+1))≤(s0_0.length:Int))=true:=dt_ c3;clear c3;simp only [sj_,pj_] at H;obtain ⟨rfl,rfl,rfl⟩:=H;obtain ⟨ASz5_0,cSz5_0,HGz5,hgz5,HSz5_0⟩:=HI0.out;have hcz1_0:=fG HGz5;have hcz1_1:=fH HGz5;have hcz1_2:=fI HGz5;have hfz1_1:=kf_ HGz5 1;have hfz1_2:=kf_ HGz5 2;clear HGz5 hgz5;have p1:0≤(s0_1:Int):=od_ ay;have q1:s0_1<(s0_0.length:Int):=od_ ay;obtain ⟨ad1,e1,hx1_0⟩:=Kd.at_int HSz5_0 s0_1 p1 q1;cases e1;replace hx1_0:=dP HB.out hx1_0;replace p1:=eq_true p1;replace q1:=eq_true q1;go_enter Tryz.func80,Tryz.ntmps80
  go_wp2
  repeat (go_quiet (fail);try go_wp2)
  go_ret
  exact ⟨aE,kX,di,dg⟩
 rw [if_neg c3] at H;have c3b0:decide ((wrap64 (s0_1+1))≤(s0_0.length:Int))=false:=decide_eq_false c3;clear c3;simp only [sj_,pj_] at H;obtain ⟨rfl,rfl,rfl⟩:=H;obtain ⟨ASz6_0,cSz6_0,HGz6,hgz6,HSz6_0⟩:=HI0.out;have hcz1_0:=fG HGz6;have hcz1_1:=fH HGz6;have hcz1_2:=fI HGz6;have hfz1_1:=kf_ HGz6 1;have hfz1_2:=kf_ HGz6 2;clear HGz6 hgz6;have p1:0≤(s0_1:Int):=od_ ay;have q1:s0_1<(s0_0.length:Int):=od_ ay;obtain ⟨ad1,e1,hx1_0⟩:=Kd.at_int HSz6_0 s0_1 p1 q1;cases e1;replace hx1_0:=dP HB.out hx1_0;replace p1:=eq_true p1;replace q1:=eq_true q1;go_enter Tryz.func80,Tryz.ntmps80
 go_wp2
 repeat (go_quiet (fail);try go_wp2)
 go_ret
 exact ⟨aE,kX,di,dg⟩

def aC.f (s0_0:List Int) (s0_1:Int) (s0_2:Int) (a1:Int):Option (Int × Int × Int):=if a1≤1 then (some (0,s0_1,s0_2)) else ((cz.f s0_0 s0_1 s0_2).bind fun bt491=>(if a1 > 200 then ((cz.f s0_0 bt491.2.1 bt491.2.2).bind fun bt494=>(if a1=0 then (none) else (some (Int.tmod (wrap64 ((wrap64 (bt491.1 * 256))+bt494.1)) a1,bt494.2.1,bt494.2.2)))) else (if a1=0 then (none) else (some (Int.tmod bt491.1 a1,bt491.2.1,bt491.2.2)))))
theorem aC.calls (g:Nat) (s0_0:List Int) (s0_1:Int) (s0_2:Int) (a1:Int) (r1:Int) (r2:Int) (r3:Int) (w0 w:World) (hI:aa w0 w g s0_0 s0_1 s0_2) (hB:Below w0.heap.size w0 w) (H:aC.f s0_0 s0_1 s0_2 a1=some (r1,r2,r3)) :
  Calls Tryz.prog 55 #[.pointer (some ⟨g,0,none⟩),.int .i64 a1] w fun e w'=>e=.returned (.int .i64 r1)∧aa w0 w' g s0_0 r2 r3∧Below w0.heap.size w0 w'∧af w w' g none:=by
 have HI0:=A0_ hI;have HK:=A0_ (af.refl w g none);have HL:=A0_ hB.size;clear hI;have HW0:=A0_ hB.size;have HB:=A0_ hB;clear hB;unfold aC.f at H
 by_cases c1:a1≤1
 ·rw [if_pos c1] at H
  have c1b0:decide (a1≤1)=true:=dt_ c1;clear c1;simp only [sj_,pj_] at H;obtain ⟨rfl,rfl,rfl⟩:=H;go_enter Tryz.func55,Tryz.ntmps55
  go_wp2
  go_ret
  exact ⟨aE,dz,di,dg⟩
 rw [if_neg c1] at H;have c1b0:decide (a1≤1)=false:=decide_eq_false c1;clear c1;obtain ⟨⟨t1,t2,t3⟩,A2,H⟩:=o1_ H
 by_cases c2:a1 > 200
 case neg =>
  rw [if_neg c2] at H;have c2b0:decide (200<a1)=false:=decide_eq_false c2;clear c2
  by_cases c3:a1=0
  ·rw [if_pos c3] at H
   exact absurd H bB
  rw [if_neg c3] at H;obtain ⟨c3b0,c3b1⟩:=ef_ c3;simp only [sj_,pj_] at H;obtain ⟨rfl,rfl,rfl⟩:=H;go_enter Tryz.func55,Tryz.ntmps55
  go_wp2_with (first|((with_reducible refine gc_ (f:=80) rfl ?_);refine gl_ 9 Tryz.func80 #[.pointer (some ⟨g,0,none⟩)] ?_;(with_reducible refine (cz.calls g s0_0 s0_1 s0_2 t1 t2 t3 w0 _ ?_ ?_ A2.out).mono ?_);exact dz;exact di;rintro e w1 ⟨rfl,hi,hb,hk⟩;refine ⟨_,rfl,?_⟩;replace HK:=A0_ (af.trans dg hk (.inl rfl));replace HB:=A0_ (hb);replace HI0:=A0_ (hi);(try clear hb hk hi)))
  go_ret
  exact ⟨aE,dz,di,dg⟩
 rw [if_pos c2] at H;have c2b0:decide (200<a1)=true:=dt_ c2;clear c2;obtain ⟨⟨t4,t5,t6⟩,A4,H⟩:=o1_ H
 by_cases c3:a1=0
 ·rw [if_pos c3] at H
  exact absurd H bB
 rw [if_neg c3] at H;obtain ⟨c3b0,c3b1⟩:=ef_ c3;simp only [sj_,pj_] at H;obtain ⟨rfl,rfl,rfl⟩:=H;go_enter Tryz.func55,Tryz.ntmps55
 go_wp2_with (first|((with_reducible refine gc_ (f:=80) rfl ?_);refine gl_ 9 Tryz.func80 #[.pointer (some ⟨g,0,none⟩)] ?_;(with_reducible refine (cz.calls g s0_0 s0_1 s0_2 t1 t2 t3 w0 _ ?_ ?_ A2.out).mono ?_);exact dz;exact di;rintro e w1 ⟨rfl,hi,hb,hk⟩;refine ⟨_,rfl,?_⟩;replace HK:=A0_ (af.trans dg hk (.inl rfl));replace HB:=A0_ (hb);replace HI0:=A0_ (hi);(try clear hb hk hi))|((with_reducible refine gc_ (f:=80) rfl ?_);refine gl_ 15 Tryz.func80 #[.pointer (some ⟨g,0,none⟩)] ?_;(with_reducible refine (cz.calls g s0_0 t2 t3 t4 t5 t6 w0 _ ?_ ?_ A4.out).mono ?_);exact dz;exact di;rintro e w2 ⟨rfl,hi,hb,hk⟩;refine ⟨_,rfl,?_⟩;replace HK:=A0_ (af.trans dg hk (.inl rfl));replace HB:=A0_ (hb);replace HI0:=A0_ (hi);(try clear hb hk hi)))
 go_ret
 exact ⟨aE,dz,di,dg⟩

def bp.f (s0_0:List Int) (s0_1:Int) (s0_2:Int) (a1:Int):Option (Bool × Int × Int):=(aC.f s0_0 s0_1 s0_2 a1).bind fun bt497=>(some ((bt497.1 == 0),bt497.2.1,bt497.2.2))
theorem bp.calls (g:Nat) (s0_0:List Int) (s0_1:Int) (s0_2:Int) (a1:Int) (r1:Bool) (r2:Int) (r3:Int) (w0 w:World) (hI:aa w0 w g s0_0 s0_1 s0_2) (hB:Below w0.heap.size w0 w) (H:bp.f s0_0 s0_1 s0_2 a1=some (r1,r2,r3)) :
  Calls Tryz.prog 47 #[.pointer (some ⟨g,0,none⟩),.int .i64 a1] w fun e w'=>e=.returned (.bool r1)∧aa w0 w' g s0_0 r2 r3∧Below w0.heap.size w0 w'∧af w w' g none:=by
 have HI0:=A0_ hI;have HK:=A0_ (af.refl w g none);have HL:=A0_ hB.size;clear hI;have HW0:=A0_ hB.size;have HB:=A0_ hB;clear hB;unfold bp.f at H;obtain ⟨⟨t1,t2,t3⟩,A2,H⟩:=o1_ H;replace H:(some ((t1 == 0),t2,t3))=some (r1,r2,r3):=H;simp only [sj_,pj_] at H;obtain ⟨rfl,rfl,rfl⟩:=H;go_enter Tryz.func47,Tryz.ntmps47
 go_wp2_with (first|((with_reducible refine gc_ (f:=55) rfl ?_);refine gl_ 7 Tryz.func55 #[.pointer (some ⟨g,0,none⟩),.int .i64 a1] ?_;(with_reducible refine (aC.calls g s0_0 s0_1 s0_2 a1 t1 t2 t3 w0 _ ?_ ?_ A2.out).mono ?_);exact dz;exact di;rintro e w1 ⟨rfl,hi,hb,hk⟩;refine ⟨_,rfl,?_⟩;replace HK:=A0_ (af.trans dg hk (.inl rfl));replace HB:=A0_ (hb);replace HI0:=A0_ (hi);(try clear hb hk hi)))
 go_ret
 exact ⟨aE,dz,di,dg⟩

def av.f (s0_0:List Int) (s0_1:Int) (s0_2:Int) (l1:List Int):Option (Int × Int × Int):=(aC.f s0_0 s0_1 s0_2 (l1.length:Int)).bind fun bt500=>(if 0≤bt500.1 then (if bt500.1<(l1.length:Int) then (some (rd l1 bt500.1,bt500.2.1,bt500.2.2)) else (none)) else (none))
theorem av.calls (g:Nat) (s0_0:List Int) (s0_1:Int) (s0_2:Int) (A1:Option Addr) (c1:Nat) (l1:List Int) (r1:Int) (r2:Int) (r3:Int) (w0 w:World) (hI:aa w0 w g s0_0 s0_1 s0_2) (hB:Below w0.heap.size w0 w) (hr1:Kd.C (Kd.int .i64) w A1 l1.length l1) (hc1:l1.length≤c1) (hf1:∀ ad,A1=some ad→0<l1.length→ad.block≠g) (H:av.f s0_0 s0_1 s0_2 l1=some (r1,r2,r3)) :
  Calls Tryz.prog 70 #[.pointer (some ⟨g,0,none⟩),.slice A1 l1.length c1] w fun e w'=>e=.returned (.int .i64 r1)∧aa w0 w' g s0_0 r2 r3∧Below w0.heap.size w0 w'∧af w w' g none:=by
 have HR1:=A0_ hr1;have HC1:=A0_ hc1;clear hr1 hc1;have HI0:=A0_ hI;have HK:=A0_ (af.refl w g none);have HL:=A0_ hB.size;clear hI;have HW0:=A0_ hB.size;have HB:=A0_ hB;clear hB;unfold av.f at H;obtain ⟨⟨t1,t2,t3⟩,A3,H⟩:=o1_ H;obtain ⟨c2b0,H⟩:=i1_ H;obtain ⟨c3b0,H⟩:=i1_ H;simp only [sj_,pj_] at H;obtain ⟨rfl,rfl,rfl⟩:=H;go_enter Tryz.func70,Tryz.ntmps70
 go_wp2_with (first|((with_reducible refine gc_ (f:=55) rfl ?_);refine gl_ 9 Tryz.func55 #[.pointer (some ⟨g,0,none⟩),.int .i64 (l1.length:Int)] ?_;(with_reducible refine (aC.calls g s0_0 s0_1 s0_2 (l1.length:Int) t1 t2 t3 w0 _ ?_ ?_ A3.out).mono ?_);exact dz;exact di;rintro e w1 ⟨rfl,hi,hb,hk⟩;refine ⟨_,rfl,?_⟩;replace HK:=A0_ (af.trans dg hk (.inl rfl));replace HB:=A0_ (hb);replace HI0:=A0_ (hi);(try clear hb hk hi);have p1:0≤(t1:Int):=od_ ay;have q1:t1<(l1.length:Int):=od_ ay;obtain ⟨ad1,e1,hx1_0⟩:=Kd.at_int HR1.out t1 p1 q1;cases e1;replace hx1_0:=dJ HK.out hx1_0 (by first|(rw [bu];exact hf1 _ rfl bm)|exact hf1 _ rfl bm|exact hf1 ad1 rfl bm);replace p1:=eq_true p1;replace q1:=eq_true q1))
 go_ret
 exact ⟨aE,dz,di,dg⟩

def cK.f (s0_0:List Int) (s0_1:Int) (s0_2:Int):Option (Int × Int × Int):=(bp.f s0_0 s0_1 s0_2 40).bind fun bt504=>(if bt504.1=true then ((av.f s0_0 bt504.2.1 bt504.2.2 (([1,2,24,25,0,(-1),4611686018427387904]:List Int))).bind fun bt510=>(some (bt510.1,bt510.2.1,bt510.2.2))) else ((av.f s0_0 bt504.2.1 bt504.2.2 (([6,8,5,10,7,3,12,4,20,24]:List Int))).bind fun bt516=>(some (bt516.1,bt516.2.1,bt516.2.2))))
theorem cK.calls (g:Nat) (s0_0:List Int) (s0_1:Int) (s0_2:Int) (r1:Int) (r2:Int) (r3:Int) (w0 w:World) (hI:aa w0 w g s0_0 s0_1 s0_2) (hB:Below w0.heap.size w0 w) (H:cK.f s0_0 s0_1 s0_2=some (r1,r2,r3)) :
  Calls Tryz.prog 46 #[.pointer (some ⟨g,0,none⟩)] w fun e w'=>e=.returned (.int .i64 r1)∧aa w0 w' g s0_0 r2 r3∧Below w0.heap.size w0 w'∧af w w' g none:=by
 have HI0:=A0_ hI;have HK:=A0_ (af.refl w g none);have HL:=A0_ hB.size;clear hI;have HW0:=A0_ hB.size;have HB:=A0_ hB;clear hB;unfold cK.f at H;obtain ⟨⟨t1,t2,t3⟩,A2,H⟩:=o1_ H
 by_cases c1:t1=true
 ·subst c1
  rw [if_pos rfl] at H;obtain ⟨y1,hy1⟩:∃ y_:List Int,y_=(([1,2,24,25,0,(-1),4611686018427387904]:List Int)):=⟨_,rfl⟩;replace H:((av.f s0_0 t2 t3 y1).bind fun bt2=>(some (bt2.1,bt2.2.1,bt2.2.2)))=some (r1,r2,r3):=dx;have Ny1:=A0_ hy1;clear hy1;obtain ⟨⟨t4,t5,t6⟩,A4,H⟩:=o1_ H;replace H:(some (t4,t5,t6))=some (r1,r2,r3):=H;simp only [sj_,pj_] at H;obtain ⟨rfl,rfl,rfl⟩:=H;go_enter Tryz.func46,Tryz.ntmps46
  go_wp2_with (first|((with_reducible refine gc_ (f:=47) rfl ?_);refine gl_ 4 Tryz.func47 #[.pointer (some ⟨g,0,none⟩),.int .i64 40] ?_;(with_reducible refine (bp.calls g s0_0 s0_1 s0_2 40 true t2 t3 w0 _ ?_ ?_ A2.out).mono ?_);exact dz;exact di;rintro e w1 ⟨rfl,hi,hb,hk⟩;refine ⟨_,rfl,?_⟩;replace HK:=A0_ (af.trans dg hk (.inl rfl));replace HB:=A0_ (hb);replace HI0:=A0_ (hi);(try clear hb hk hi))|((with_reducible refine gd_ (N:=6) rfl ?_);refine Kd.R_lit (Kd.int .i64) _ 3 ?hg (N:=6) ?hd (xs:=([1,2,24,25,0,(-1),4611686018427387904]:List Int)) (inner:=[.int .i64 1,.int .i64 2,.int .i64 24,.int .i64 25,.int .i64 0,.int .i64 (-1),.int .i64 4611686018427387904]) (ok:=fun _=>True) (okp:=fun _=>True) ?hr ?hp (fun _ hk=>hk) trivial (Below.refl _ _) (Nat.le_refl _) bB ?_;(case hd=>rfl);(case hg=>rfl);(case hr=>go_simp;first|done|rfl);(case hp=>exact (aN.one (show Kd.M (Kd.int .i64) _ _ _ 1 [.int .i64 1] from rfl) (aN.one (show Kd.M (Kd.int .i64) _ _ _ 2 [.int .i64 2] from rfl) (aN.one (show Kd.M (Kd.int .i64) _ _ _ 24 [.int .i64 24] from rfl) (aN.one (show Kd.M (Kd.int .i64) _ _ _ 25 [.int .i64 25] from rfl) (aN.one (show Kd.M (Kd.int .i64) _ _ _ 0 [.int .i64 0] from rfl) (aN.one (show Kd.M (Kd.int .i64) _ _ _ (-1) [.int .i64 (-1)] from rfl) (aN.one (show Kd.M (Kd.int .i64) _ _ _ 4611686018427387904 [.int .i64 4611686018427387904] from rfl) (aN.none _ _)))))))));intro v1 w2 ho7 hb hg_ hnew_;clear hg_ hnew_;(first|rw [← Ny1.out] at ho7|(simp only [Int.reduceToNat] at ho7;rw [← Ny1.out] at ho7));have HO1:=A0_ (Kd.R_lower ho7 (ba (w:=w) (g:=g) (row:=none) dg));replace HK:=A0_ (af.trans dg (af.of_below hb g none) (.inl rfl));replace HB:=hb_ hb di;replace HI0:=A0_ (aa.below dz hb);clear hb ho7;obtain ⟨Ao1,co1,eo1⟩:=Kd.R_slice HO1.out;subst eo1)|((with_reducible refine gc_ (f:=70) rfl ?_);refine gl_ 7 Tryz.func70 #[.pointer (some ⟨g,0,none⟩),.slice Ao1 y1.length co1] ?_;(with_reducible refine (av.calls g s0_0 t2 t3 _ _ y1 t4 t5 t6 w0 _ ?_ ?_ ?_ ?_ ?_ A4.out).mono ?_);exact dz;exact di;exact dW;exact (rr_ HO1.out).2.1;exact bW (aa.own_ne HI0.out HO1.out ag);rintro e w3 ⟨rfl,hi,hb,hk⟩;refine ⟨_,rfl,?_⟩;replace HO1:=A0_ (Kd.R_mono (Kd.R_keep (aa.apart (show aa w0 _ g s0_0 t2 t3 from dz) bx ag) hk (fun _ h=>h.2)) (fun _ h=>h.1));replace HK:=A0_ (af.trans dg hk (.inl rfl));replace HB:=A0_ (hb);replace HI0:=A0_ (hi);(try clear hb hk hi)))
  go_ret
  exact ⟨aE,dz,di,dg⟩
 obtain rfl:=bf_.mpr c1;rw [if_neg ft_] at H;obtain ⟨y1,hy1⟩:∃ y_:List Int,y_=(([6,8,5,10,7,3,12,4,20,24]:List Int)):=⟨_,rfl⟩;replace H:((av.f s0_0 t2 t3 y1).bind fun bt3=>(some (bt3.1,bt3.2.1,bt3.2.2)))=some (r1,r2,r3):=dx;have Ny1:=A0_ hy1;clear hy1;obtain ⟨⟨t4,t5,t6⟩,A4,H⟩:=o1_ H;replace H:(some (t4,t5,t6))=some (r1,r2,r3):=H;simp only [sj_,pj_] at H;obtain ⟨rfl,rfl,rfl⟩:=H;go_enter Tryz.func46,Tryz.ntmps46
 go_wp2_with (first|((with_reducible refine gc_ (f:=47) rfl ?_);refine gl_ 4 Tryz.func47 #[.pointer (some ⟨g,0,none⟩),.int .i64 40] ?_;(with_reducible refine (bp.calls g s0_0 s0_1 s0_2 40 false t2 t3 w0 _ ?_ ?_ A2.out).mono ?_);exact dz;exact di;rintro e w1 ⟨rfl,hi,hb,hk⟩;refine ⟨_,rfl,?_⟩;replace HK:=A0_ (af.trans dg hk (.inl rfl));replace HB:=A0_ (hb);replace HI0:=A0_ (hi);(try clear hb hk hi))|((with_reducible refine gd_ (N:=9) rfl ?_);refine Kd.R_lit (Kd.int .i64) _ 3 ?hg (N:=9) ?hd (xs:=([6,8,5,10,7,3,12,4,20,24]:List Int)) (inner:=[.int .i64 6,.int .i64 8,.int .i64 5,.int .i64 10,.int .i64 7,.int .i64 3,.int .i64 12,.int .i64 4,.int .i64 20,.int .i64 24]) (ok:=fun _=>True) (okp:=fun _=>True) ?hr ?hp (fun _ hk=>hk) trivial (Below.refl _ _) (Nat.le_refl _) bB ?_;(case hd=>rfl);(case hg=>rfl);(case hr=>go_simp;first|done|rfl);(case hp=>exact (aN.one (show Kd.M (Kd.int .i64) _ _ _ 6 [.int .i64 6] from rfl) (aN.one (show Kd.M (Kd.int .i64) _ _ _ 8 [.int .i64 8] from rfl) (aN.one (show Kd.M (Kd.int .i64) _ _ _ 5 [.int .i64 5] from rfl) (aN.one (show Kd.M (Kd.int .i64) _ _ _ 10 [.int .i64 10] from rfl) (aN.one (show Kd.M (Kd.int .i64) _ _ _ 7 [.int .i64 7] from rfl) (aN.one (show Kd.M (Kd.int .i64) _ _ _ 3 [.int .i64 3] from rfl) (aN.one (show Kd.M (Kd.int .i64) _ _ _ 12 [.int .i64 12] from rfl) (aN.one (show Kd.M (Kd.int .i64) _ _ _ 4 [.int .i64 4] from rfl) (aN.one (show Kd.M (Kd.int .i64) _ _ _ 20 [.int .i64 20] from rfl) (aN.one (show Kd.M (Kd.int .i64) _ _ _ 24 [.int .i64 24] from rfl) (aN.none _ _))))))))))));intro v1 w2 ho13 hb hg_ hnew_;clear hg_ hnew_;(first|rw [← Ny1.out] at ho13|(simp only [Int.reduceToNat] at ho13;rw [← Ny1.out] at ho13));have HO1:=A0_ (Kd.R_lower ho13 (ba (w:=w) (g:=g) (row:=none) dg));replace HK:=A0_ (af.trans dg (af.of_below hb g none) (.inl rfl));replace HB:=hb_ hb di;replace HI0:=A0_ (aa.below dz hb);clear hb ho13;obtain ⟨Ao1,co1,eo1⟩:=Kd.R_slice HO1.out;subst eo1)|((with_reducible refine gc_ (f:=70) rfl ?_);refine gl_ 10 Tryz.func70 #[.pointer (some ⟨g,0,none⟩),.slice Ao1 y1.length co1] ?_;(with_reducible refine (av.calls g s0_0 t2 t3 _ _ y1 t4 t5 t6 w0 _ ?_ ?_ ?_ ?_ ?_ A4.out).mono ?_);exact dz;exact di;exact dW;exact (rr_ HO1.out).2.1;exact bW (aa.own_ne HI0.out HO1.out ag);rintro e w3 ⟨rfl,hi,hb,hk⟩;refine ⟨_,rfl,?_⟩;replace HO1:=A0_ (Kd.R_mono (Kd.R_keep (aa.apart (show aa w0 _ g s0_0 t2 t3 from dz) bx ag) hk (fun _ h=>h.2)) (fun _ h=>h.1));replace HK:=A0_ (af.trans dg hk (.inl rfl));replace HB:=A0_ (hb);replace HI0:=A0_ (hi);(try clear hb hk hi)))
 go_ret
 exact ⟨aE,dz,di,dg⟩

def cP.f (l0:List Int):Option (Int × Bool):=(cK.f l0 0 0).bind fun bt519=>((bp.f l0 bt519.2.1 bt519.2.2 2).bind fun bt522=>(some (bt519.1,bt522.1)))
theorem cP.calls (A0:Option Addr) (c0:Nat) (l0:List Int) (r1:Int) (r2:Bool) (w:World) (hr0:Kd.C (Kd.int .u8) w A0 l0.length l0) (hc0:l0.length≤c0) (H:cP.f l0=some (r1,r2)) :
  Calls Tryz.prog 17 #[.slice A0 l0.length c0] w fun e w'=>e=.returned (.tuple #[.int .i64 r1,.bool r2])∧Below w.heap.size w w':=by
 have hu75:=Tryz.underlying75;have HB:=A0_ (Below.refl w.heap.size w);unfold cP.f at H;obtain ⟨⟨t1,t2,t3⟩,A2,H⟩:=o1_ H;obtain ⟨⟨t4,t5,t6⟩,A4,H⟩:=o1_ H;replace H:(some (t1,t4))=some (r1,r2):=H;simp only [sj_,pj_] at H;obtain ⟨rfl,rfl⟩:=H;go_enter Tryz.func17,Tryz.ntmps17
 go_wp2_with (first|((with_reducible refine gd_ (N:=7) rfl ?_);refine be_ ?hg (N:=7) ?hd (cs:=#[.slice A0 l0.length c0,.int .i64 0,.int .u64 0]) (t:=75) ?hr ?_;(case hd=>rfl);(case hg=>rfl);(case hr=>go_simp;first|done|rfl);intro g hg wB hbox hb;have HI0:=A0_ (show aa w wB g l0 0 0 from ⟨A0,c0,hbox,iz,hr0⟩);have HK:=A0_ (af.refl wB g none);replace HB:=hb_ hb ai;clear hb hbox hg)|((with_reducible refine gc_ (f:=46) rfl ?_);refine gl_ 9 Tryz.func46 #[.pointer (some ⟨g,0,none⟩)] ?_;(with_reducible refine (cK.calls g l0 0 0 t1 t2 t3 w _ ?_ ?_ A2.out).mono ?_);exact dz;exact di;rintro e w1 ⟨rfl,hi,hb,hk⟩;refine ⟨_,rfl,?_⟩;replace HK:=A0_ (af.trans dg hk (.inl rfl));replace HB:=A0_ (hb);replace HI0:=A0_ (hi);(try clear hb hk hi))|((with_reducible refine gc_ (f:=47) rfl ?_);refine gl_ 11 Tryz.func47 #[.pointer (some ⟨g,0,none⟩),.int .i64 2] ?_;(with_reducible refine (bp.calls g l0 t2 t3 2 t4 t5 t6 w _ ?_ ?_ A4.out).mono ?_);exact dz;exact di;rintro e w2 ⟨rfl,hi,hb,hk⟩;refine ⟨_,rfl,?_⟩;replace HK:=A0_ (af.trans dg hk (.inl rfl));replace HB:=A0_ (hb);replace HI0:=A0_ (hi);(try clear hb hk hi)))
 go_ret2
 exact ⟨aE,di⟩


def b4.f (k:Nat) (a0:Int) (a1:Bool):Option (Int × Bool × List Int × List Int × Int × Bool):=(b9.f a0 a1).bind fun t521=>(if t521=true then ((aV.f k a0 a1 0).bind fun bt522=>(some (bt522.1,bt522.2.1,bt522.2.2,([]:List Int),0,true))) else (some (0,false,([]:List Int),([]:List Int),0,false)))
theorem b4.mono:∀ a0 a1 k,LeO (b4.f k a0 a1) (b4.f (k+1) a0 a1):=by
 intro a0 a1 k;unfold b4.f
 repeat' with_reducible first|exact aV.mono ..|exact LeO.refl ..|exact LeO.none ..|refine LeO.ite ?_ ?_|refine LeO.bind ?_ (fun _=>?_)
theorem b4.calls (k:Nat) (a0:Int) (a1:Bool) (r1:Int) (r2:Bool) (r3:List Int) (r4:List Int) (r5:Int) (r6:Bool) (w:World) (hG:TabOK w) (H:b4.f k a0 a1=some (r1,r2,r3,r4,r5,r6)) :
  Calls Tryz.prog 18 #[.int .i64 a0,.bool a1] w fun e w'=>∃ v2_ v3_:Value,e=.returned (.tuple #[.agg #[.int .i64 r1,.bool r2,v2_,v3_,.int .i64 r5],.bool r6])∧Kd.R (Kd.int .i64) 3 w' w.heap.size (fun k_=>no_ v3_ k_) v2_ r3∧Kd.R (Kd.int .i64) 3 w' w.heap.size (fun k_=>no_ v2_ k_) v3_ r4∧Below w.heap.size w w':=by
 have HG0:=A0_ hG;clear hG;have hu32:=Tryz.underlying32;have hu79:=Tryz.underlying79;have HB:=A0_ (Below.refl w.heap.size w);unfold b4.f at H;obtain ⟨t1,A2,H⟩:=o1_ H
 by_cases c1:t1=true
 case neg =>
  obtain rfl:=bf_.mpr c1;rw [if_neg ft_] at H;simp only [sj_,pj_] at H;obtain ⟨rfl,rfl,rfl,rfl,rfl,rfl⟩:=H;go_enter Tryz.func18,Tryz.ntmps18
  go_wp2_with (first|((with_reducible refine gd_ (N:=4) rfl ?_);refine bx_ 4 #[.int .i64 0,.bool false,.slice none 0 0,.slice none 0 0,.int .i64 0] 32 ?_;intro gb1 hg w1 BK1 hb;have GW1:=ge_ hg ai;have GE1:=GW1;replace HB:=hb_ hb ai;clear hb hg)|((with_reducible refine gd_ (N:=6) rfl ?_);refine bx_ 6 #[.int .i64 0,.bool false] 79 ?_;intro gb2 hg w2 BK2 hb;have GW2:=ge_ hg aj;have GE2:=GW2;replace HB:=hb_ hb aj;obtain ⟨NB1_2,NB2_1⟩:=nn_ hg BK1;replace BK1:=k1_ BK1 hb;clear hb hg;obtain ⟨hnb1,hnc1⟩:=n2_ NB2_1;have hcz1:=z2_ BK2)|((with_reducible refine gc_ (f:=48) rfl ?_);refine gl_ 11 Tryz.func48 #[.agg #[.int .i64 a0,.bool a1]] ?_;(with_reducible refine (b9.calls a0 a1 false _ A2.out).mono ?_);rintro e w3 ⟨rfl,hb⟩;refine ⟨_,rfl,?_⟩;replace BK1:=k1_ BK1 hb;replace BK2:=k2_ (.cells #[.int .i64 a0,.bool a1] 79 (0,0)) BK2 hb;replace HB:=hb_ hb au;(try clear hb);have hcz2:=z5_ BK1))
  refine bodyPost_ret (cU rfl _ _ gb1 32 #[.int .i64 0,.bool false,.slice none 0 0,.slice none 0 0,.int .i64 0] (0,0) _ rfl (u1_ BK1) Tryz.underlying32 rfl aY) rfl ?_
  exact ⟨_,_,aE,dF,dF,au⟩
 subst c1;rw [if_pos rfl] at H;obtain ⟨⟨t2,t3,t4⟩,A4,H⟩:=o1_ H;replace H:(some (t2,t3,t4,([]:List Int),0,true))=some (r1,r2,r3,r4,r5,r6):=H;simp only [sj_,pj_] at H;obtain ⟨rfl,rfl,rfl,rfl,rfl,rfl⟩:=H;go_enter Tryz.func18,Tryz.ntmps18
 go_wp2_with (first|((with_reducible refine gd_ (N:=4) rfl ?_);refine bx_ 4 #[.int .i64 0,.bool false,.slice none 0 0,.slice none 0 0,.int .i64 0] 32 ?_;intro gb1 hg w1 BK1 hb;have GW1:=ge_ hg ai;have GE1:=GW1;replace HB:=hb_ hb ai;clear hb hg)|((with_reducible refine gd_ (N:=6) rfl ?_);refine bx_ 6 #[.int .i64 0,.bool false] 79 ?_;intro gb2 hg w2 BK2 hb;have GW2:=ge_ hg aj;have GE2:=GW2;replace HB:=hb_ hb aj;obtain ⟨NB1_2,NB2_1⟩:=nn_ hg BK1;replace BK1:=k1_ BK1 hb;clear hb hg;obtain ⟨hnb1,hnc1⟩:=n2_ NB2_1;have hcz1:=z2_ BK2)|((with_reducible refine gc_ (f:=48) rfl ?_);refine gl_ 11 Tryz.func48 #[.agg #[.int .i64 a0,.bool a1]] ?_;(with_reducible refine (b9.calls a0 a1 true _ A2.out).mono ?_);rintro e w3 ⟨rfl,hb⟩;refine ⟨_,rfl,?_⟩;replace BK1:=k1_ BK1 hb;replace BK2:=k2_ (.cells #[.int .i64 a0,.bool a1] 79 (0,0)) BK2 hb;replace HB:=hb_ hb au;(try clear hb);have hcz2:=z2_ BK2)|((with_reducible refine gc_ (f:=49) rfl ?_);refine gl_ 15 Tryz.func49 #[.agg #[.int .i64 a0,.bool a1],.int .u32 0] ?_;(with_reducible refine (aV.calls k a0 a1 0 t2 t3 t4 _ om A4.out).mono ?_);rintro e w4 ⟨v1,rfl,ho0,hb⟩;refine ⟨_,rfl,?_⟩;have HO1:=A0_ (Kd.R_lower ho0 (bz_ au));replace BK1:=k1_ BK1 hb;replace BK2:=k1_ BK2 hb;replace HB:=hb_ hb au;(try clear hb ho0);obtain ⟨Ao1,co1,eo1⟩:=Kd.R_slice HO1.out;subst eo1;have hcz3:=z5_ BK1))
 refine bodyPost_ret (cU rfl _ _ gb1 32 #[.int .i64 t2,.bool t3,.slice Ao1 t4.length co1,.slice none 0 0,.int .i64 0] (0,0) _ rfl (u1_ BK1) Tryz.underlying32 rfl aY) rfl ?_
 exact ⟨_,_,aE,by (with_reducible repeat (first|apply ra_|apply rn_|apply rd_));exact Kd.R_mono (bw (Kd.R_types HO1.out BK1.out ag)) (fun _ hk=>(by simp [Value.ownBlock])),dF,au⟩

def bs.f (k:Nat) (a0:Int) (a1:Bool):Option (Int × Bool × List Int × List Int × Int × Bool):=(bh.f a0 a1 ([]:List Int) ([]:List Int) 0).bind fun bt528=>((ao.f k bt528.1 bt528.2.1 bt528.2.2.1 bt528.2.2.2.1 bt528.2.2.2.2).bind fun t538=>(if t538=true then (some (bt528.1,bt528.2.1,bt528.2.2.1,bt528.2.2.2.1,bt528.2.2.2.2,true)) else (some (0,false,([]:List Int),([]:List Int),0,false))))
theorem bs.mono:∀ a0 a1 k,LeO (bs.f k a0 a1) (bs.f (k+1) a0 a1):=by
 intro a0 a1 k;unfold bs.f
 repeat' with_reducible first|exact ao.mono ..|exact LeO.refl ..|exact LeO.none ..|refine LeO.ite ?_ ?_|refine LeO.bind ?_ (fun _=>?_)
theorem bs.calls (k:Nat) (a0:Int) (a1:Bool) (r1:Int) (r2:Bool) (r3:List Int) (r4:List Int) (r5:Int) (r6:Bool) (w:World) (H:bs.f k a0 a1=some (r1,r2,r3,r4,r5,r6)) :
  Calls Tryz.prog 19 #[.int .i64 a0,.bool a1] w fun e w'=>∃ v2_ v3_:Value,e=.returned (.tuple #[.agg #[.int .i64 r1,.bool r2,v2_,v3_,.int .i64 r5],.bool r6])∧Kd.R (Kd.int .i64) 3 w' w.heap.size (fun k_=>no_ v3_ k_) v2_ r3∧Kd.R (Kd.int .i64) 3 w' w.heap.size (fun k_=>no_ v2_ k_) v3_ r4∧Below w.heap.size w w':=by
 have hu32:=Tryz.underlying32;have hu30:=Tryz.underlying30;have HB:=A0_ (Below.refl w.heap.size w);unfold bs.f at H;obtain ⟨⟨t2,t3,t4,t5,t6⟩,A2,H⟩:=o1_ H;obtain ⟨t1,A4,H⟩:=o1_ H
 by_cases c1:t1=true
 case neg =>
  obtain rfl:=bf_.mpr c1;rw [if_neg ft_] at H;simp only [sj_,pj_] at H;obtain ⟨rfl,rfl,rfl,rfl,rfl,rfl⟩:=H;go_enter Tryz.func19,Tryz.ntmps19
  go_wp2_with (first|((with_reducible refine gd_ (N:=4) rfl ?_);refine bx_ 4 #[.int .i64 0,.bool false,.slice none 0 0,.slice none 0 0,.int .i64 0] 32 ?_;intro gb1 hg w1 BK1 hb;have GW1:=ge_ hg ai;have GE1:=GW1;replace HB:=hb_ hb ai;clear hb hg)|((with_reducible refine gc_ (f:=33) rfl ?_);refine gl_ 11 Tryz.func33 #[.agg #[.int .i64 a0,.bool a1,.slice none 0 0,.slice none 0 0,.int .i64 0]] ?_;(refine (bh.calls a0 a1 _ _ ([]:List Int) _ _ ([]:List Int) 0 t2 t3 t4 t5 t6 _ ?side1 ?side2 ?side3 ?side4 A2.out).mono ?_);(case side1=>exact Kd.C_nil _ _);(case side2=>exact Nat.le_refl _);(case side3=>exact Kd.C_nil _ _);(case side4=>exact Nat.le_refl _);rintro e w2 ⟨v1,v4,rfl,ho0,ho1,hb⟩;refine ⟨_,rfl,?_⟩;have HO1:=A0_ (Kd.R_lower ho0 (bz_ aj));have HO2:=A0_ (Kd.R_lower ho1 (bz_ aj));replace BK1:=k1_ BK1 hb;replace HB:=hb_ hb aj;(try clear hb ho0 ho1))|((with_reducible refine gd_ (N:=6) rfl ?_);refine bx_ 6 #[.int .i64 0,.bool false,.slice none 0 0,.slice none 0 0,.int .i64 0] 32 ?_;intro gb2 hg w3 BK2 hb;replace HO1:=q1_ HO1 hb;replace HO2:=q1_ HO2 hb;have GW2:=ge_ hg aj;have GE2:=GW2;replace HB:=hb_ hb aj;obtain ⟨NB1_2,NB2_1⟩:=nn_ hg BK1;replace BK1:=k1_ BK1 hb;clear hb hg;obtain ⟨hnb1,hnc1⟩:=n2_ NB2_1;have hcz1:=z5_ BK2;obtain ⟨Ao1,co1,eo1⟩:=Kd.R_slice HO1.out;subst eo1;obtain ⟨Ao2,co2,eo2⟩:=Kd.R_slice HO2.out;subst eo2)|((with_reducible refine gc_ (f:=32) rfl ?_);refine gl_ 13 Tryz.func32 #[.agg #[.int .i64 t2,.bool t3,.slice Ao1 t4.length co1,.slice Ao2 t5.length co2,.int .i64 t6]] ?_;(with_reducible refine (ao.calls k t2 t3 _ _ t4 _ _ t5 t6 false _ ?_ ?_ ?_ ?_ A4.out).mono ?_);(refine (rr_ (e:=3) (base:=w.heap.size) (ok:=fun k_=>no_ (.slice Ao2 t5.length co2) k_) (n:=t4.length) (c:=co1) ?_).2.2;exact iy);exact (rr_ HO1.out).2.1;(refine (rr_ (e:=3) (base:=w.heap.size) (ok:=fun k_=>no_ (.slice Ao1 t4.length co1) k_) (n:=t5.length) (c:=co2) ?_).2.2;exact iw);exact (rr_ HO2.out).2.1;rintro e w4 ⟨rfl,hb⟩;refine ⟨_,rfl,?_⟩;replace HO1:=A0_ (Kd.R_below iy hb);replace HO2:=A0_ (Kd.R_below iw hb);replace BK1:=k1_ BK1 hb;replace BK2:=k2_ (.cells #[.int .i64 t2,.bool t3,.slice Ao1 t4.length co1,.slice Ao2 t5.length co2,.int .i64 t6] 32 (0,0)) BK2 hb;replace HB:=hb_ hb au;(try clear hb);have hcz2:=z5_ BK1))
  refine bodyPost_ret (cU rfl _ _ gb1 32 #[.int .i64 0,.bool false,.slice none 0 0,.slice none 0 0,.int .i64 0] (0,0) _ rfl (u1_ BK1) Tryz.underlying32 rfl aY) rfl ?_
  exact ⟨_,_,aE,dF,dF,au⟩
 subst c1;rw [if_pos rfl] at H;simp only [sj_,pj_] at H;obtain ⟨rfl,rfl,rfl,rfl,rfl,rfl⟩:=H;go_enter Tryz.func19,Tryz.ntmps19
 go_wp2_with (first|((with_reducible refine gd_ (N:=4) rfl ?_);refine bx_ 4 #[.int .i64 0,.bool false,.slice none 0 0,.slice none 0 0,.int .i64 0] 32 ?_;intro gb1 hg w1 BK1 hb;have GW1:=ge_ hg ai;have GE1:=GW1;replace HB:=hb_ hb ai;clear hb hg)|((with_reducible refine gc_ (f:=33) rfl ?_);refine gl_ 11 Tryz.func33 #[.agg #[.int .i64 a0,.bool a1,.slice none 0 0,.slice none 0 0,.int .i64 0]] ?_;(refine (bh.calls a0 a1 _ _ ([]:List Int) _ _ ([]:List Int) 0 t2 t3 t4 t5 t6 _ ?side1 ?side2 ?side3 ?side4 A2.out).mono ?_);(case side1=>exact Kd.C_nil _ _);(case side2=>exact Nat.le_refl _);(case side3=>exact Kd.C_nil _ _);(case side4=>exact Nat.le_refl _);rintro e w2 ⟨v1,v4,rfl,ho0,ho1,hb⟩;refine ⟨_,rfl,?_⟩;have HO1:=A0_ (Kd.R_lower ho0 (bz_ aj));have HO2:=A0_ (Kd.R_lower ho1 (bz_ aj));replace BK1:=k1_ BK1 hb;replace HB:=hb_ hb aj;(try clear hb ho0 ho1))|((with_reducible refine gd_ (N:=6) rfl ?_);refine bx_ 6 #[.int .i64 0,.bool false,.slice none 0 0,.slice none 0 0,.int .i64 0] 32 ?_;intro gb2 hg w3 BK2 hb;replace HO1:=q1_ HO1 hb;replace HO2:=q1_ HO2 hb;have GW2:=ge_ hg aj;have GE2:=GW2;replace HB:=hb_ hb aj;obtain ⟨NB1_2,NB2_1⟩:=nn_ hg BK1;replace BK1:=k1_ BK1 hb;clear hb hg;obtain ⟨hnb1,hnc1⟩:=n2_ NB2_1;have hcz1:=z5_ BK2;obtain ⟨Ao1,co1,eo1⟩:=Kd.R_slice HO1.out;subst eo1;obtain ⟨Ao2,co2,eo2⟩:=Kd.R_slice HO2.out;subst eo2)|((with_reducible refine gc_ (f:=32) rfl ?_);refine gl_ 13 Tryz.func32 #[.agg #[.int .i64 t2,.bool t3,.slice Ao1 t4.length co1,.slice Ao2 t5.length co2,.int .i64 t6]] ?_;(with_reducible refine (ao.calls k t2 t3 _ _ t4 _ _ t5 t6 true _ ?_ ?_ ?_ ?_ A4.out).mono ?_);(refine (rr_ (e:=3) (base:=w.heap.size) (ok:=fun k_=>no_ (.slice Ao2 t5.length co2) k_) (n:=t4.length) (c:=co1) ?_).2.2;exact iy);exact (rr_ HO1.out).2.1;(refine (rr_ (e:=3) (base:=w.heap.size) (ok:=fun k_=>no_ (.slice Ao1 t4.length co1) k_) (n:=t5.length) (c:=co2) ?_).2.2;exact iw);exact (rr_ HO2.out).2.1;rintro e w4 ⟨rfl,hb⟩;refine ⟨_,rfl,?_⟩;replace HO1:=A0_ (Kd.R_below iy hb);replace HO2:=A0_ (Kd.R_below iw hb);replace BK1:=k1_ BK1 hb;replace BK2:=k2_ (.cells #[.int .i64 t2,.bool t3,.slice Ao1 t4.length co1,.slice Ao2 t5.length co2,.int .i64 t6] 32 (0,0)) BK2 hb;replace HB:=hb_ hb au;(try clear hb);have hcz2:=z5_ BK2;have hcz3:=z5_ BK1))
 refine bodyPost_ret (cU rfl _ _ gb1 32 #[.int .i64 t2,.bool t3,.slice Ao1 t4.length co1,.slice Ao2 t5.length co2,.int .i64 t6] (0,0) _ rfl (u1_ BK1) Tryz.underlying32 rfl aY) rfl ?_
 exact ⟨_,_,aE,nk,nh,au⟩

def ch.f (s0_0:List Int) (s0_1:Int) (s0_2:Int) (a1_0:Int) (a1_1:Bool) (l1_2:List Int):Option (Int × Int × Int):=(bp.f s0_0 s0_1 s0_2 30).bind fun bt540=>(if bt540.1=true then ((av.f s0_0 bt540.2.1 bt540.2.2 (([(-1),0,a1_0,4611686018427387904]:List Int))).bind fun bt546=>(some (bt546.1,bt546.2.1,bt546.2.2))) else ((cX.f a1_0 24).bind fun t549=>((cx.f t549 1).bind fun t550=>((aC.f s0_0 bt540.2.1 bt540.2.2 t550).bind fun bt551=>(some (bt551.1,bt551.2.1,bt551.2.2))))))
theorem ch.calls (g:Nat) (s0_0:List Int) (s0_1:Int) (s0_2:Int) (a1_0:Int) (a1_1:Bool) (A1_2:Option Addr) (c1_2:Nat) (l1_2:List Int) (r1:Int) (r2:Int) (r3:Int) (w0 w:World) (hI:aa w0 w g s0_0 s0_1 s0_2) (hB:Below w0.heap.size w0 w) (hr1_2:Kd.C (Kd.int .i64) w A1_2 l1_2.length l1_2) (hc1_2:l1_2.length≤c1_2) (hf1_2:∀ ad,A1_2=some ad→0<l1_2.length→ad.block≠g) (H:ch.f s0_0 s0_1 s0_2 a1_0 a1_1 l1_2=some (r1,r2,r3)) :
  Calls Tryz.prog 73 #[.pointer (some ⟨g,0,none⟩),.agg #[.int .i64 a1_0,.bool a1_1,.slice A1_2 l1_2.length c1_2]] w fun e w'=>e=.returned (.int .i64 r1)∧aa w0 w' g s0_0 r2 r3∧Below w0.heap.size w0 w'∧af w w' g none:=by
 have hu30:=Tryz.underlying30;have HR1_2:=A0_ hr1_2;have HC1_2:=A0_ hc1_2;clear hr1_2 hc1_2;have HI0:=A0_ hI;have HK:=A0_ (af.refl w g none);have HL:=A0_ hB.size;clear hI;have HW0:=A0_ hB.size;have HB:=A0_ hB;clear hB;unfold ch.f at H;obtain ⟨⟨t3,t4,t5⟩,A3,H⟩:=o1_ H
 by_cases c2:t3=true
 case neg =>
  obtain rfl:=bf_.mpr c2;rw [if_neg ft_] at H;obtain ⟨t1,A5,H⟩:=o1_ H;obtain ⟨t2,A7,H⟩:=o1_ H;obtain ⟨⟨t6,t7,t8⟩,A9,H⟩:=o1_ H;replace H:(some (t6,t7,t8))=some (r1,r2,r3):=H;simp only [sj_,pj_] at H;obtain ⟨rfl,rfl,rfl⟩:=H;go_enter Tryz.func73,Tryz.ntmps73
  go_wp2_with (first|((with_reducible refine gd_ (N:=3) rfl ?_);refine bx_ 3 #[.int .i64 a1_0,.bool a1_1,.slice A1_2 l1_2.length c1_2] 30 ?_;intro gb1 hg w1 BK1 hb;replace HB:=hb_ hb di;have GW1:=A0_ ((gc:w.heap.size≤gb1));have GE1:=A0_ ((Nat.le_trans HW0.out (gc:w.heap.size≤gb1):w0.heap.size≤gb1));replace HK:=A0_ (af.trans dg (af.of_below hb g none) (.inl rfl));have NB0_1:=A0_ ((j8:g≠gb1));have NB1_0:=A0_ ((j4:gb1≠g));replace HI0:=A0_ (aa.below dz hb);clear hb hg)|((with_reducible refine gc_ (f:=47) rfl ?_);refine gl_ 6 Tryz.func47 #[.pointer (some ⟨g,0,none⟩),.int .i64 30] ?_;(with_reducible refine (bp.calls g s0_0 s0_1 s0_2 30 false t4 t5 w0 _ ?_ ?_ A3.out).mono ?_);exact cM;exact dw;rintro e w2 ⟨rfl,hi,hb,hk⟩;refine ⟨_,rfl,?_⟩;replace BK1:=bT BK1 hk NB1_0;replace HK:=A0_ (af.trans cF hk (.inl rfl));replace HB:=A0_ (hb);replace HI0:=A0_ (hi);(try clear hb hk hi);obtain ⟨hnb1,hnc1⟩:=n2_ NB1_0;have hcz1:=c3_ BK1)|((with_reducible refine gc_ (f:=97) rfl ?_);refine gl_ 15 Tryz.func97 #[.int .i64 a1_0,.int .i64 24] ?_;(with_reducible refine (cX.calls a1_0 24 t1 _ A5.out).mono ?_);rintro e w' ⟨rfl,⟨nd,rfl⟩⟩;refine ⟨_,rfl,?_⟩)|((with_reducible refine gc_ (f:=96) rfl ?_);refine gl_ 16 Tryz.func96 #[.int .i64 t1,.int .i64 1] ?_;(with_reducible refine (cx.calls t1 1 t2 _ A7.out).mono ?_);rintro e w' ⟨rfl,⟨nd,rfl⟩⟩;refine ⟨_,rfl,?_⟩)|((with_reducible refine gc_ (f:=55) rfl ?_);refine gl_ 17 Tryz.func55 #[.pointer (some ⟨g,0,none⟩),.int .i64 t2] ?_;(with_reducible refine (aC.calls g s0_0 t4 t5 t2 t6 t7 t8 w0 _ ?_ ?_ A9.out).mono ?_);exact cM;exact dw;rintro e w3 ⟨rfl,hi,hb,hk⟩;refine ⟨_,rfl,?_⟩;replace BK1:=bT BK1 hk NB1_0;replace HK:=A0_ (af.trans cF hk (.inl rfl));replace HB:=A0_ (hb);replace HI0:=A0_ (hi);(try clear hb hk hi)))
  go_ret
  exact ⟨aE,cM,dw,cF⟩
 subst c2;rw [if_pos rfl] at H;obtain ⟨y1,hy1⟩:∃ y_:List Int,y_=(([(-1),0,a1_0,4611686018427387904]:List Int)):=⟨_,rfl⟩;replace H:((av.f s0_0 t4 t5 y1).bind fun bt2=>(some (bt2.1,bt2.2.1,bt2.2.2)))=some (r1,r2,r3):=dx;have Ny1:=A0_ hy1;clear hy1;obtain ⟨⟨t6,t7,t8⟩,A5,H⟩:=o1_ H;replace H:(some (t6,t7,t8))=some (r1,r2,r3):=H;simp only [sj_,pj_] at H;obtain ⟨rfl,rfl,rfl⟩:=H;go_enter Tryz.func73,Tryz.ntmps73
 go_wp2_with (first|((with_reducible refine gd_ (N:=3) rfl ?_);refine bx_ 3 #[.int .i64 a1_0,.bool a1_1,.slice A1_2 l1_2.length c1_2] 30 ?_;intro gb1 hg w1 BK1 hb;replace HB:=hb_ hb di;have GW1:=A0_ ((gc:w.heap.size≤gb1));have GE1:=A0_ ((Nat.le_trans HW0.out (gc:w.heap.size≤gb1):w0.heap.size≤gb1));replace HK:=A0_ (af.trans dg (af.of_below hb g none) (.inl rfl));have NB0_1:=A0_ ((j8:g≠gb1));have NB1_0:=A0_ ((j4:gb1≠g));replace HI0:=A0_ (aa.below dz hb);clear hb hg)|((with_reducible refine gc_ (f:=47) rfl ?_);refine gl_ 6 Tryz.func47 #[.pointer (some ⟨g,0,none⟩),.int .i64 30] ?_;(with_reducible refine (bp.calls g s0_0 s0_1 s0_2 30 true t4 t5 w0 _ ?_ ?_ A3.out).mono ?_);exact cM;exact dw;rintro e w2 ⟨rfl,hi,hb,hk⟩;refine ⟨_,rfl,?_⟩;replace BK1:=bT BK1 hk NB1_0;replace HK:=A0_ (af.trans cF hk (.inl rfl));replace HB:=A0_ (hb);replace HI0:=A0_ (hi);(try clear hb hk hi);obtain ⟨hnb1,hnc1⟩:=n2_ NB1_0;have hcz1:=c3_ BK1)|((with_reducible refine gd_ (N:=10) rfl ?_);refine Kd.R_lit (Kd.int .i64) _ 3 ?hg (N:=10) ?hd (xs:=([(-1),0,a1_0,4611686018427387904]:List Int)) (inner:=[.int .i64 (-1),.int .i64 0,.int .i64 a1_0,.int .i64 4611686018427387904]) (ok:=fun _=>True) (okp:=fun _=>True) ?hr ?hp (fun _ hk=>hk) trivial (Below.refl _ _) (Nat.le_refl _) bB ?_;(case hd=>rfl);(case hg=>rfl);(case hr=>go_simp;first|done|rfl);(case hp=>exact (aN.one (show Kd.M (Kd.int .i64) _ _ _ (-1) [.int .i64 (-1)] from rfl) (aN.one (show Kd.M (Kd.int .i64) _ _ _ 0 [.int .i64 0] from rfl) (aN.one (show Kd.M (Kd.int .i64) _ _ _ a1_0 [.int .i64 a1_0] from rfl) (aN.one (show Kd.M (Kd.int .i64) _ _ _ 4611686018427387904 [.int .i64 4611686018427387904] from rfl) (aN.none _ _))))));intro v1 w3 ho11 hb hg_ hnew_;clear hg_ hnew_;(first|rw [← Ny1.out] at ho11|(simp only [Int.reduceToNat] at ho11;rw [← Ny1.out] at ho11));have HO1:=A0_ (Kd.R_lower ho11 (ba (w:=w) (g:=g) (row:=none) cF));replace BK1:=k1_ BK1 hb;replace HK:=A0_ (af.trans cF (af.of_below hb g none) (.inl rfl));replace HB:=hb_ hb dw;replace HI0:=A0_ (aa.below cM hb);clear hb ho11;obtain ⟨Ao1,co1,eo1⟩:=Kd.R_slice HO1.out;subst eo1)|((with_reducible refine gc_ (f:=70) rfl ?_);refine gl_ 11 Tryz.func70 #[.pointer (some ⟨g,0,none⟩),.slice Ao1 y1.length co1] ?_;(with_reducible refine (av.calls g s0_0 t4 t5 _ _ y1 t6 t7 t8 w0 _ ?_ ?_ ?_ ?_ ?_ A5.out).mono ?_);exact cM;exact dw;exact dW;exact (rr_ HO1.out).2.1;exact bW (aa.own_ne HI0.out HO1.out ag);rintro e w4 ⟨rfl,hi,hb,hk⟩;refine ⟨_,rfl,?_⟩;replace BK1:=bT BK1 hk NB1_0;replace HO1:=A0_ (Kd.R_mono (Kd.R_keep (aa.apart (show aa w0 _ g s0_0 t4 t5 from cM) bx ag) hk (fun _ h=>h.2)) (fun _ h=>h.1));replace HK:=A0_ (af.trans cF hk (.inl rfl));replace HB:=A0_ (hb);replace HI0:=A0_ (hi);(try clear hb hk hi)))
 go_ret
 exact ⟨aE,cM,dw,cF⟩

def bi.l0:Nat→List Int→Int→Int→Bool→List Int→Option (List Int)
 | 0,_,_,_,_,_=>none
 | k+1,x3,x4,xa,xb,xc=>if x4<xa then ((cv.f k xa xb xc x4).bind fun t558=>(if t558=true then (bi.l0 k x3 (wrap64 (x4+1)) xa xb xc) else (if x3.length<17592186044416 then (bi.l0 k (x3++[x4]) (wrap64 (x4+1)) xa xb xc) else (none)))) else (some x3)
def bi.f (k:Nat) (a0_0:Int) (a0_1:Bool) (l0_2:List Int):Option (List Int):=bi.l0 k (([]:List Int)) 0 a0_0 a0_1 l0_2
theorem bi.mono_l:∀ k,(∀ y0 y1 y2 y3 y4,LeO (bi.l0 k y0 y1 y2 y3 y4) (bi.l0 (k+1) y0 y1 y2 y3 y4))
 | 0=>fun _ _ _ _ _ r h=>by simp [bi.l0] at h
 | k+1=>by
  have ih0:=bi.mono_l k
  ·intro y0 y1 y2 y3 y4
   unfold bi.l0
   repeat' with_reducible first|exact ih0 ..|exact cv.mono ..|exact LeO.refl ..|exact LeO.none ..|refine LeO.ite ?_ ?_|refine LeO.bind ?_ (fun _=>?_)
theorem bi.mono:∀ a0 a1 a2 k,LeO (bi.f k a0 a1 a2) (bi.f (k+1) a0 a1 a2):=by
 intro a0 a1 a2 k;have ih0:=bi.mono_l k;unfold bi.f
 repeat' with_reducible first|exact ih0 ..|exact cv.mono ..|exact LeO.refl ..|exact LeO.none ..|refine LeO.ite ?_ ?_|refine LeO.bind ?_ (fun _=>?_)
theorem bi.calls (k:Nat) (a0_0:Int) (a0_1:Bool) (A0_2:Option Addr) (c0_2:Nat) (l0_2:List Int) (r:List Int) (w:World) (hr0_2:Kd.C (Kd.int .i64) w A0_2 l0_2.length l0_2) (hc0_2:l0_2.length≤c0_2) (H:bi.f k a0_0 a0_1 l0_2=some r) :
  Calls Tryz.prog 95 #[.agg #[.int .i64 a0_0,.bool a0_1,.slice A0_2 l0_2.length c0_2]] w fun e w'=>∃ v0_:Value,e=.returned (v0_)∧Kd.R (Kd.int .i64) 3 w' w.heap.size (fun _=>True) v0_ r∧Below w.heap.size w w':=by
 have hu30:=Tryz.underlying30;have HR0_2:=A0_ hr0_2;have HC0_2:=A0_ hc0_2;clear hr0_2 hc0_2;have HB:=A0_ (Below.refl w.heap.size w);unfold bi.f at H;obtain ⟨y1,hy1⟩:∃ y_:List Int,y_=(([]:List Int)):=⟨_,rfl⟩;replace H:(bi.l0 k y1 0 a0_0 a0_1 l0_2)=some r:=dx;have Ny1:=A0_ hy1;clear hy1;have H':=A0_ H;clear H;go_enter Tryz.func95,Tryz.ntmps95
 go_wp2_with (first|((with_reducible refine gd_ (N:=1) rfl ?_);refine bx_ 1 #[.int .i64 a0_0,.bool a0_1,.slice A0_2 l0_2.length c0_2] 30 ?_;intro gb1 hg w1 BK1 hb;have GW1:=ge_ hg ai;have GE1:=GW1;replace HB:=hb_ hb ai;clear hb hg)|((with_reducible refine gd_ (N:=5) rfl ?_);refine Kd.R_lit (Kd.int .i64) _ 3 ?hg (N:=5) ?hd (xs:=([]:List Int)) (inner:=[]) (ok:=fun _=>True) (okp:=fun _=>True) ?hr ?hp (fun _ hk=>hk) trivial (Below.refl _ _) (Nat.le_refl _) bB ?_;(case hd=>rfl);(case hg=>rfl);(case hr=>go_simp;first|done|rfl);(case hp=>exact (aN.none _ _));intro v1 w2 ho4 hb hg_ hnew_;clear hg_ hnew_;(first|rw [← Ny1.out] at ho4|(simp only [Int.reduceToNat] at ho4;rw [← Ny1.out] at ho4));have HO1:=A0_ (Kd.R_lower ho4 (bz_ aj));replace BK1:=k1_ BK1 hb;replace HB:=hb_ hb aj;clear hb ho4))
 go_loopg [3,4] k (fun kq v2 v3 w'=>∃ (x3_1:List Int) (x4_1:Int),v3=.int .i64 x4_1∧Aside0 (bi.l0 kq x3_1 x4_1 a0_0 a0_1 l0_2=some r)∧Aside0 (kq≤k)∧Aside0 (Kd.R (Kd.int .i64) 3 w' w.heap.size (fun _=>True) v2 x3_1)∧Aside0 (w'.heap[gb1]?=some (.cells #[.int .i64 a0_0,.bool a0_1,(.slice A0_2 l0_2.length c0_2)] 30 (0,0)))∧Aside0 (Below w.heap.size w w'))
 case atStart=>exact ⟨(y1),(0),aX,H',⟨Nat.le_refl _⟩,⟨bx⟩,⟨u1_ BK1⟩,⟨aj⟩⟩
 clear H';obtain ⟨x3_1,x4_1,rfl,HA,HK1,HO_1,BK1,HB⟩:=hrel
 cases gk with|zero=>exact absurd HA.out (by simp [bi.l0])|succ k1=>?_
 have H:=HA.out;clear HA;simp only [bi.l0] at H
 by_cases c1:x4_1<a0_0
 case neg =>
  rw [if_neg c1] at H;have c1b0:decide (x4_1<a0_0)=false:=decide_eq_false c1;clear c1;obtain rfl:=si_ H;have hcz1:=c3_ BK1
  go_wp2
  go_ret
  exact ⟨_,aE,br,aj⟩
 rw [if_pos c1] at H;have c1b0:decide (x4_1<a0_0)=true:=dt_ c1;clear c1;obtain ⟨t1,A2,H⟩:=o1_ H
 by_cases c2:t1=true
 ·subst c2
  rw [if_pos rfl] at H;have H':=A0_ H;clear H;have hcz1:=c3_ BK1
  go_wp2_with (first|((with_reducible refine gc_ (f:=103) rfl ?_);refine gl_ 14 Tryz.func103 #[.agg #[.int .i64 a0_0,.bool a0_1,.slice A0_2 l0_2.length c0_2],.int .i64 x4_1] ?_;(with_reducible refine (cv.calls k1 a0_0 a0_1 _ _ l0_2 x4_1 true _ ?_ ?_ A2.out).mono ?_);exact bz;exact HC0_2.out;rintro e w3 ⟨rfl,hb⟩;refine ⟨_,rfl,?_⟩;replace HO_1:=q1_ HO_1 hb;replace BK1:=k1_ BK1 hb;replace HB:=hb_ hb aj;(try clear hb)))
  go_roundg k1
  case measure=>have:=HK1.out;omega
  exact ⟨(x3_1),(wrap64 (x4_1+1)),aX,H',⟨dj⟩,⟨br⟩,⟨u1_ BK1⟩,⟨aj⟩⟩
 obtain rfl:=bf_.mpr c2;rw [if_neg ft_] at H;obtain ⟨c3,H⟩:=is_ H;have LMc1:=A0_ c3;clear c3;obtain ⟨y2,hy2⟩:∃ y_:List Int,y_=(x3_1++[x4_1]):=⟨_,rfl⟩;replace H:(bi.l0 k1 y2 (wrap64 (x4_1+1)) a0_0 a0_1 l0_2)=some r:=dH;have Ny2:=A0_ hy2;clear hy2;have H':=A0_ H;clear H;have hcz1:=c3_ BK1
 go_wp2_with (first|((with_reducible refine gc_ (f:=103) rfl ?_);refine gl_ 14 Tryz.func103 #[.agg #[.int .i64 a0_0,.bool a0_1,.slice A0_2 l0_2.length c0_2],.int .i64 x4_1] ?_;(with_reducible refine (cv.calls k1 a0_0 a0_1 _ _ l0_2 x4_1 false _ ?_ ?_ A2.out).mono ?_);exact bz;exact HC0_2.out;rintro e w3 ⟨rfl,hb⟩;refine ⟨_,rfl,?_⟩;replace HO_1:=q1_ HO_1 hb;replace BK1:=k1_ BK1 hb;replace HB:=hb_ hb aj;(try clear hb))|((with_reducible refine bX (b:=.append) (xs:=#[.tmp 16,.tmp 18]) rfl ?_);at_builtin;refine Kd.R_append (Kd.int .i64) (w0:=w) w.heap.size rfl (.tmp 16) (.tmp 18) 22 3 (.int .i64 0) 8 rfl Tryz.underlying22 cW rfl ag bm u3 x3_1 x4_1 [.int .i64 x4_1] (fun _=>True) (fun _=>False) rfl rfl ?aP (fun _ hk=>hk.elim) ?aF ?aO ?aB ?aS ?aL ?_;(case aP=>exact rfl);(case aB=>exact aj);(case aF=>exact (fun _ _=>trivial));(case aO=>exact br);(case aS=>exact (bz_ aj));(case aL=>have:=LMc1.out;omega);intro v4 w4 ho hb hg hat;rw [← Ny2.out] at ho;have n0_:=A0_ (aJ (g:=gb1) (o:=.cells #[.int .i64 a0_0,.bool a0_1,.slice A0_2 l0_2.length c0_2] 30 (0,0)) (u1_ BK1) hg (Kd.R_ne HO_1.out BK1.out ag));have n1_:=A0_ (hb);have n2_:=A0_ (ho);clear BK1 HB HO_1;have BK1:=n0_;have HB:=n1_;have HO2:=n2_;clear n0_ n1_ n2_ ho hb hg hat))
 go_roundg k1
 case measure=>have:=HK1.out;omega
 exact ⟨(y2),(wrap64 (x4_1+1)),aX,H',⟨dj⟩,⟨cd⟩,⟨u1_ BK1⟩,⟨aj⟩⟩

def am.j0:Nat→Bool→List Int→Int→Int→Int→Bool→List Int→Option (Int × Int × Int)
 | 0,_,_,_,_,_,_,_=>none
 | k+1,x12,xa,xb,xc,xd,xe,xf=>if x12=true then ((bi.f k xd xe xf).bind fun t567=>(if (t567.length:Int) > 0 then ((aC.f xa xb xc (t567.length:Int)).bind fun bt570=>(if 0≤bt570.1 then (if bt570.1<(t567.length:Int) then (some (rd t567 bt570.1,bt570.2.1,bt570.2.2)) else (none)) else (none))) else ((ch.f xa xb xc xd xe xf).bind fun bt574=>(some (bt574.1,bt574.2.1,bt574.2.2))))) else ((ch.f xa xb xc xd xe xf).bind fun bt577=>(some (bt577.1,bt577.2.1,bt577.2.2)))
def am.f (k:Nat) (s0_0:List Int) (s0_1:Int) (s0_2:Int) (a1_0:Int) (a1_1:Bool) (l1_2:List Int):Option (Int × Int × Int):=(bF.f k a1_0 a1_1 l1_2).bind fun t563=>(if t563=true then ((bp.f s0_0 s0_1 s0_2 8).bind fun bt564=>(am.j0 k (!bt564.1) s0_0 bt564.2.1 bt564.2.2 a1_0 a1_1 l1_2)) else (am.j0 k false s0_0 s0_1 s0_2 a1_0 a1_1 l1_2))
theorem am.mono_l:∀ k,(∀ y0 y1 y2 y3 y4 y5 y6,LeO (am.j0 k y0 y1 y2 y3 y4 y5 y6) (am.j0 (k+1) y0 y1 y2 y3 y4 y5 y6))
 | 0=>fun _ _ _ _ _ _ _ r h=>by simp [am.j0] at h
 | k+1=>by
  have ih0:=am.mono_l k
  ·intro y0 y1 y2 y3 y4 y5 y6
   unfold am.j0
   repeat' with_reducible first|exact ih0 ..|exact bi.mono ..|exact bF.mono ..|exact LeO.refl ..|exact LeO.none ..|refine LeO.ite ?_ ?_|refine LeO.bind ?_ (fun _=>?_)
theorem am.mono:∀ a0 a1 a2 a3 a4 a5 k,LeO (am.f k a0 a1 a2 a3 a4 a5) (am.f (k+1) a0 a1 a2 a3 a4 a5):=by
 intro a0 a1 a2 a3 a4 a5 k;have ih0:=am.mono_l k;unfold am.f
 repeat' with_reducible first|exact ih0 ..|exact bi.mono ..|exact bF.mono ..|exact LeO.refl ..|exact LeO.none ..|refine LeO.ite ?_ ?_|refine LeO.bind ?_ (fun _=>?_)
theorem am.calls (k:Nat) (g:Nat) (s0_0:List Int) (s0_1:Int) (s0_2:Int) (a1_0:Int) (a1_1:Bool) (A1_2:Option Addr) (c1_2:Nat) (l1_2:List Int) (r1:Int) (r2:Int) (r3:Int) (w0 w:World) (hI:aa w0 w g s0_0 s0_1 s0_2) (hB:Below w0.heap.size w0 w) (hr1_2:Kd.C (Kd.int .i64) w A1_2 l1_2.length l1_2) (hc1_2:l1_2.length≤c1_2) (hf1_2:∀ ad,A1_2=some ad→0<l1_2.length→ad.block≠g) (H:am.f k s0_0 s0_1 s0_2 a1_0 a1_1 l1_2=some (r1,r2,r3)) :
  Calls Tryz.prog 72 #[.pointer (some ⟨g,0,none⟩),.agg #[.int .i64 a1_0,.bool a1_1,.slice A1_2 l1_2.length c1_2]] w fun e w'=>e=.returned (.int .i64 r1)∧aa w0 w' g s0_0 r2 r3∧Below w0.heap.size w0 w'∧af w w' g none:=by
 have hu30:=Tryz.underlying30;have HR1_2:=A0_ hr1_2;have HC1_2:=A0_ hc1_2;clear hr1_2 hc1_2;have HI0:=A0_ hI;have HK:=A0_ (af.refl w g none);have HL:=A0_ hB.size;clear hI;have HW0:=A0_ hB.size;have HB:=A0_ hB;clear hB;unfold am.f at H;have HC3:=A0_ H;clear H;go_enter Tryz.func72,Tryz.ntmps72
 go_upto_region 1 with (first|((with_reducible refine gd_ (N:=3) rfl ?_);refine bx_ 3 #[.int .i64 a1_0,.bool a1_1,.slice A1_2 l1_2.length c1_2] 30 ?_;intro gb1 hg w1 BK1 hb;replace HB:=hb_ hb di;have GW1:=A0_ ((gc:w.heap.size≤gb1));have GE1:=A0_ ((Nat.le_trans HW0.out (gc:w.heap.size≤gb1):w0.heap.size≤gb1));replace HK:=A0_ (af.trans dg (af.of_below hb g none) (.inl rfl));have NB0_1:=A0_ ((j8:g≠gb1));have NB1_0:=A0_ ((j4:gb1≠g));replace HI0:=A0_ (aa.below dz hb);clear hb hg))
 (try simp only [Act.put,sa_,sz_,ss_])
 go_cut [12] (fun v1 wc=>∃ (kq:Nat) (x12_2:Bool) (xa:Int) (xb:Int),v1=.bool x12_2∧Aside0 (am.j0 kq x12_2 s0_0 xa xb a1_0 a1_1 l1_2=some (r1,r2,r3))∧Aside0 (kq≤k)∧Aside0 (wc.heap[gb1]?=some (.cells #[.int .i64 a1_0,.bool a1_1,(.slice A1_2 l1_2.length c1_2)] 30 (0,0)))∧Aside0 (aa w0 wc g s0_0 xa xb)∧Aside0 (af w wc g none)∧Aside0 (Below w0.heap.size w0 wc))
 case first =>
  have H:=HC3.out;clear HC3;obtain ⟨t1,A3,H⟩:=o1_ H
  by_cases c2:t1=true
  case neg =>
   obtain rfl:=bf_.mpr c2;rw [if_neg ft_] at H;have H':=A0_ H;clear H;obtain ⟨hnb1,hnc1⟩:=n2_ NB1_0;have hcz1:=c3_ BK1
   go_wp2_with (first|((with_reducible refine gc_ (f:=64) rfl ?_);refine gl_ 7 Tryz.func64 #[.agg #[.int .i64 a1_0,.bool a1_1,.slice A1_2 l1_2.length c1_2]] ?_;(with_reducible refine (bF.calls k a1_0 a1_1 _ _ l1_2 false _ ?_ ?_ A3.out).mono ?_);exact Kd.C_keep 0 HR1_2.out cF hf1_2;exact HC1_2.out;rintro e w2 ⟨rfl,hb⟩;refine ⟨_,rfl,?_⟩;replace BK1:=k1_ BK1 hb;replace HK:=A0_ (af.trans cF (af.of_below hb g none) (.inl rfl));replace HB:=hb_ hb dw;replace HI0:=A0_ (aa.below cM hb);(try clear hb)))
   go_meet
   exact ⟨_,(false),(s0_1),(s0_2),aX,H',⟨fv⟩,⟨u1_ BK1⟩,⟨cM⟩,⟨cF⟩,⟨dw⟩⟩
  subst c2;rw [if_pos rfl] at H;obtain ⟨⟨t2,t3,t4⟩,A5,H⟩:=o1_ H;have H':=A0_ H;clear H;obtain ⟨hnb1,hnc1⟩:=n2_ NB1_0;have hcz1:=c3_ BK1
  go_wp2_with (first|((with_reducible refine gc_ (f:=64) rfl ?_);refine gl_ 7 Tryz.func64 #[.agg #[.int .i64 a1_0,.bool a1_1,.slice A1_2 l1_2.length c1_2]] ?_;(with_reducible refine (bF.calls k a1_0 a1_1 _ _ l1_2 true _ ?_ ?_ A3.out).mono ?_);exact Kd.C_keep 0 HR1_2.out cF hf1_2;exact HC1_2.out;rintro e w2 ⟨rfl,hb⟩;refine ⟨_,rfl,?_⟩;replace BK1:=k1_ BK1 hb;replace HK:=A0_ (af.trans cF (af.of_below hb g none) (.inl rfl));replace HB:=hb_ hb dw;replace HI0:=A0_ (aa.below cM hb);(try clear hb))|(go_at_call 47;(with_reducible refine (bp.calls g s0_0 s0_1 s0_2 8 t2 t3 t4 w0 _ ?_ ?_ A5.out).mono ?_);exact cM;exact dw;rintro e w3 ⟨rfl,hi,hb,hk⟩;replace BK1:=bT BK1 hk NB1_0;replace HK:=A0_ (af.trans cF hk (.inl rfl));replace HB:=A0_ (hb);replace HI0:=A0_ (hi);(try clear hb hk hi)))
  go_meet
  exact ⟨_,(!t2),(t3),(t4),aX,H',⟨fv⟩,⟨u1_ BK1⟩,⟨cM⟩,⟨cF⟩,⟨dw⟩⟩
 clear HC3
 try clear c1
 obtain ⟨kq,x12_2,xa,xb,rfl,HA,HJ1,BK1,HI0,HK,HB⟩:=hcut
 cases kq with|zero=>exact absurd HA.out (by simp [am.j0])|succ kj1=>?_
 have H:=HA.out;clear HA;simp only [am.j0] at H
 by_cases c2:x12_2=true
 case neg =>
  obtain rfl:=bf_.mpr c2;rw [if_neg ft_] at H;obtain ⟨⟨t2,t3,t4⟩,A3,H⟩:=o1_ H;replace H:(some (t2,t3,t4))=some (r1,r2,r3):=H;simp only [sj_,pj_] at H;obtain ⟨rfl,rfl,rfl⟩:=H;obtain ⟨hnb1,hnc1⟩:=n2_ NB1_0;have hcz1:=c3_ BK1
  go_wp2_with (first|((with_reducible refine gc_ (f:=73) rfl ?_);refine gl_ 27 Tryz.func73 #[.pointer (some ⟨g,0,none⟩),.agg #[.int .i64 a1_0,.bool a1_1,.slice A1_2 l1_2.length c1_2]] ?_;(with_reducible refine (ch.calls g s0_0 xa xb a1_0 a1_1 _ _ l1_2 t2 t3 t4 w0 _ ?_ ?_ ?_ ?_ ?_ A3.out).mono ?_);exact cM;exact dw;exact Kd.C_keep 0 HR1_2.out cF hf1_2;exact HC1_2.out;exact hf1_2;rintro e w2 ⟨rfl,hi,hb,hk⟩;refine ⟨_,rfl,?_⟩;replace BK1:=bT BK1 hk NB1_0;replace HK:=A0_ (af.trans cF hk (.inl rfl));replace HB:=A0_ (hb);replace HI0:=A0_ (hi);(try clear hb hk hi)))
  go_ret
  exact ⟨aE,cM,dw,cF⟩
 subst c2;rw [if_pos rfl] at H;obtain ⟨t2,A3,H⟩:=o1_ H
 by_cases c3:(t2.length:Int) > 0
 case neg =>
  rw [if_neg c3] at H;have c3b0:decide (0<(t2.length:Int))=false:=decide_eq_false c3;have c3b1:decide (0<t2.length)=false:=decide_eq_false bm;clear c3;obtain ⟨⟨t3,t4,t5⟩,A5,H⟩:=o1_ H;replace H:(some (t3,t4,t5))=some (r1,r2,r3):=H;simp only [sj_,pj_] at H;obtain ⟨rfl,rfl,rfl⟩:=H;obtain ⟨hnb1,hnc1⟩:=n2_ NB1_0;have hcz1:=c3_ BK1
  go_wp2_with (first|((with_reducible refine gc_ (f:=95) rfl ?_);refine gl_ 14 Tryz.func95 #[.agg #[.int .i64 a1_0,.bool a1_1,.slice A1_2 l1_2.length c1_2]] ?_;(with_reducible refine (bi.calls kj1 a1_0 a1_1 _ _ l1_2 t2 _ ?_ ?_ A3.out).mono ?_);exact Kd.C_keep 0 HR1_2.out cF hf1_2;exact HC1_2.out;rintro e w2 ⟨v2,rfl,ho0,hb⟩;refine ⟨_,rfl,?_⟩;have HO1:=A0_ (Kd.R_lower ho0 (ba (w:=w) (g:=g) (row:=none) cF));replace BK1:=k1_ BK1 hb;replace HK:=A0_ (af.trans cF (af.of_below hb g none) (.inl rfl));replace HB:=hb_ hb dw;replace HI0:=A0_ (aa.below cM hb);(try clear hb ho0);obtain ⟨Ao1,co1,eo1⟩:=Kd.R_slice HO1.out;subst eo1;have hcz2:=c3_ BK1)|((with_reducible refine gc_ (f:=73) rfl ?_);refine gl_ 27 Tryz.func73 #[.pointer (some ⟨g,0,none⟩),.agg #[.int .i64 a1_0,.bool a1_1,.slice A1_2 l1_2.length c1_2]] ?_;(with_reducible refine (ch.calls g s0_0 xa xb a1_0 a1_1 _ _ l1_2 t3 t4 t5 w0 _ ?_ ?_ ?_ ?_ ?_ A5.out).mono ?_);exact cM;exact dw;exact Kd.C_keep 0 HR1_2.out cF hf1_2;exact HC1_2.out;exact hf1_2;rintro e w3 ⟨rfl,hi,hb,hk⟩;refine ⟨_,rfl,?_⟩;replace BK1:=bT BK1 hk NB1_0;replace HO1:=A0_ (Kd.R_mono (Kd.R_keep (aa.apart (show aa w0 _ g s0_0 xa xb from cM) bx ag) hk (fun _ h=>h.2)) (fun _ h=>h.1));replace HK:=A0_ (af.trans cF hk (.inl rfl));replace HB:=A0_ (hb);replace HI0:=A0_ (hi);(try clear hb hk hi)))
  go_ret
  exact ⟨aE,cM,dw,cF⟩
 rw [if_pos c3] at H;have c3b0:decide (0<(t2.length:Int))=true:=dt_ c3;have c3b1:decide (0<t2.length)=true:=dt_ bm;clear c3;obtain ⟨⟨t3,t4,t5⟩,A5,H⟩:=o1_ H;obtain ⟨c4b0,H⟩:=i1_ H;obtain ⟨c5b0,H⟩:=i1_ H;simp only [sj_,pj_] at H;obtain ⟨rfl,rfl,rfl⟩:=H;obtain ⟨hnb1,hnc1⟩:=n2_ NB1_0;have hcz1:=c3_ BK1
 go_wp2_with (first|((with_reducible refine gc_ (f:=95) rfl ?_);refine gl_ 14 Tryz.func95 #[.agg #[.int .i64 a1_0,.bool a1_1,.slice A1_2 l1_2.length c1_2]] ?_;(with_reducible refine (bi.calls kj1 a1_0 a1_1 _ _ l1_2 t2 _ ?_ ?_ A3.out).mono ?_);exact Kd.C_keep 0 HR1_2.out cF hf1_2;exact HC1_2.out;rintro e w2 ⟨v2,rfl,ho0,hb⟩;refine ⟨_,rfl,?_⟩;have HO1:=A0_ (Kd.R_lower ho0 (ba (w:=w) (g:=g) (row:=none) cF));replace BK1:=k1_ BK1 hb;replace HK:=A0_ (af.trans cF (af.of_below hb g none) (.inl rfl));replace HB:=hb_ hb dw;replace HI0:=A0_ (aa.below cM hb);(try clear hb ho0);obtain ⟨Ao1,co1,eo1⟩:=Kd.R_slice HO1.out;subst eo1)|((with_reducible refine gc_ (f:=55) rfl ?_);refine gl_ 22 Tryz.func55 #[.pointer (some ⟨g,0,none⟩),.int .i64 (t2.length:Int)] ?_;(with_reducible refine (aC.calls g s0_0 xa xb (t2.length:Int) t3 t4 t5 w0 _ ?_ ?_ A5.out).mono ?_);exact cM;exact dw;rintro e w3 ⟨rfl,hi,hb,hk⟩;refine ⟨_,rfl,?_⟩;replace BK1:=bT BK1 hk NB1_0;replace HO1:=A0_ (Kd.R_mono (Kd.R_keep (aa.apart (show aa w0 _ g s0_0 xa xb from cM) bx ag) hk (fun _ h=>h.2)) (fun _ h=>h.1));replace HK:=A0_ (af.trans cF hk (.inl rfl));replace HB:=A0_ (hb);replace HI0:=A0_ (hi);(try clear hb hk hi);have p1:0≤(t3:Int):=od_ ay;have q1:t3<(t2.length:Int):=od_ ay;obtain ⟨ad1,e1,hx1_0⟩:=Kd.at_int (rr_ HO1.out).2.2 t3 p1 q1;cases e1;replace p1:=eq_true p1;replace q1:=eq_true q1))
 go_ret
 exact ⟨aE,cM,dw,cF⟩

mutual
def ab.j2:Nat→List Int→Int→Int→Int→Int→Int→Option (Int × Int × Int × Int × Int)
 | 0,_,_,_,_,_,_=>none
 | k+1,xa,xe,xf,xb,xc,xd=>(aC.f xa xe xf 32).bind fun bt611=>(if bt611.1=0 then ((av.f xa bt611.2.1 bt611.2.2 (([(-1),24,1,4611686018427387904]:List Int))).bind fun bt617=>(some (xb,bt617.1,xd,bt617.2.1,bt617.2.2))) else (if bt611.1=1 then ((av.f xa bt611.2.1 bt611.2.2 (([(-1),24,1]:List Int))).bind fun bt623=>(some (xb,xc,bt623.1,bt623.2.1,bt623.2.2))) else (if bt611.1=2 then ((av.f xa bt611.2.1 bt611.2.2 (([0,6,(-1)]:List Int))).bind fun bt629=>(some (bt629.1,xc,xd,bt629.2.1,bt629.2.2))) else (some (xb,xc,xd,bt611.2.1,bt611.2.2)))))
def ab.j0:Nat→Int→Bool→List Int→Int→Int→Int→Bool→List Int→List Int→Int→Int→Int→Int→Option (Int × Int × Int × Int × Int)
 | 0,_,_,_,_,_,_,_,_,_,_,_,_,_=>none
 | k+1,x11,x19,xa,xd,xe,xf,xg,xh,xi,xk,xc,xj,xb=>if x19=true then ((ch.f xa xd xe xf xg xh).bind fun bt592=>(if (xi.length:Int) > 0 then ((bp.f xa bt592.2.1 bt592.2.2 8).bind fun bt595=>(ab.j1 k (!bt595.1) xa bt595.2.1 bt595.2.2 xf xg xh xi xk xc bt592.1 xb)) else (ab.j1 k false xa bt592.2.1 bt592.2.2 xf xg xh xi xk xc bt592.1 xb))) else (if x11=5 then ((bp.f xa xd xe 4).bind fun bt608=>(if bt608.1=true then (ab.j2 k xa bt608.2.1 bt608.2.2 xc xj xb) else (ab.j2 k xa bt608.2.1 bt608.2.2 1 xj xb))) else (ab.j2 k xa xd xe xc xj xb))
def ab.j1:Nat→Bool→List Int→Int→Int→Int→Bool→List Int→List Int→Int→Int→Int→Int→Option (Int × Int × Int × Int × Int)
 | 0,_,_,_,_,_,_,_,_,_,_,_,_=>none
 | k+1,x35,xa,xd,xe,xf,xg,xh,xc,xk,xb,xi,xj=>if x35=true then ((aC.f xa xd xe (xc.length:Int)).bind fun bt598=>(if 0≤bt598.1 then (if bt598.1<(xc.length:Int) then (if xb=4 then ((am.f k xa bt598.2.1 bt598.2.2 xf xg xh).bind fun bt602=>(ab.j2 k xa bt602.2.1 bt602.2.2 xb (rd xc bt598.1) bt602.1)) else (ab.j2 k xa bt598.2.1 bt598.2.2 xb (rd xc bt598.1) xj)) else (none)) else (none))) else (if xb=4 then ((am.f k xa xd xe xf xg xh).bind fun bt605=>(ab.j2 k xa bt605.2.1 bt605.2.2 xb xi bt605.1)) else (ab.j2 k xa xd xe xb xi xj))
end
def ab.f (k:Nat) (s0_0:List Int) (s0_1:Int) (s0_2:Int) (a1_0:Int) (a1_1:Bool) (l1_2:List Int) (l1_3:List Int) (a1_4:Int):Option (Int × Int × Int × Int × Int):=(av.f s0_0 s0_1 s0_2 (([1,1,1,2,2,3,4,5]:List Int))).bind fun bt585=>(if bt585.1=2 then ((am.f k s0_0 bt585.2.1 bt585.2.2 a1_0 a1_1 l1_2).bind fun bt589=>(ab.j2 k s0_0 bt589.2.1 bt589.2.2 bt585.1 bt589.1 0)) else (if bt585.1=3 then (ab.j0 k bt585.1 (bt585.1 == 3) s0_0 bt585.2.1 bt585.2.2 a1_0 a1_1 l1_2 l1_3 a1_4 bt585.1 0 0) else (ab.j0 k bt585.1 (bt585.1 == 4) s0_0 bt585.2.1 bt585.2.2 a1_0 a1_1 l1_2 l1_3 a1_4 bt585.1 0 0)))
theorem ab.mono_l:∀ k,(∀ y0 y1 y2 y3 y4 y5,LeO (ab.j2 k y0 y1 y2 y3 y4 y5) (ab.j2 (k+1) y0 y1 y2 y3 y4 y5))∧(∀ y0 y1 y2 y3 y4 y5 y6 y7 y8 y9 y10 y11 y12,LeO (ab.j0 k y0 y1 y2 y3 y4 y5 y6 y7 y8 y9 y10 y11 y12) (ab.j0 (k+1) y0 y1 y2 y3 y4 y5 y6 y7 y8 y9 y10 y11 y12))∧(∀ y0 y1 y2 y3 y4 y5 y6 y7 y8 y9 y10 y11,LeO (ab.j1 k y0 y1 y2 y3 y4 y5 y6 y7 y8 y9 y10 y11) (ab.j1 (k+1) y0 y1 y2 y3 y4 y5 y6 y7 y8 y9 y10 y11))
 | 0=>⟨fun _ _ _ _ _ _ r h=>by simp [ab.j2] at h,fun _ _ _ _ _ _ _ _ _ _ _ _ _ r h=>by simp [ab.j0] at h,fun _ _ _ _ _ _ _ _ _ _ _ _ r h=>by simp [ab.j1] at h⟩
 | k+1=>by
  obtain ⟨ih0,ih1,ih2⟩:=ab.mono_l k
  refine ⟨?_,?_,?_⟩
  ·intro y0 y1 y2 y3 y4 y5
   unfold ab.j2
   repeat' with_reducible first|exact ih0 ..|exact ih1 ..|exact ih2 ..|exact am.mono ..|exact LeO.refl ..|exact LeO.none ..|refine LeO.ite ?_ ?_|refine LeO.bind ?_ (fun _=>?_)
  ·intro y0 y1 y2 y3 y4 y5 y6 y7 y8 y9 y10 y11 y12
   unfold ab.j0
   repeat' with_reducible first|exact ih0 ..|exact ih1 ..|exact ih2 ..|exact am.mono ..|exact LeO.refl ..|exact LeO.none ..|refine LeO.ite ?_ ?_|refine LeO.bind ?_ (fun _=>?_)
  ·intro y0 y1 y2 y3 y4 y5 y6 y7 y8 y9 y10 y11
   unfold ab.j1
   repeat' with_reducible first|exact ih0 ..|exact ih1 ..|exact ih2 ..|exact am.mono ..|exact LeO.refl ..|exact LeO.none ..|refine LeO.ite ?_ ?_|refine LeO.bind ?_ (fun _=>?_)
theorem ab.mono:∀ a0 a1 a2 a3 a4 a5 a6 a7 k,LeO (ab.f k a0 a1 a2 a3 a4 a5 a6 a7) (ab.f (k+1) a0 a1 a2 a3 a4 a5 a6 a7):=by
 intro a0 a1 a2 a3 a4 a5 a6 a7 k;obtain ⟨ih0,ih1,ih2⟩:=ab.mono_l k;unfold ab.f
 repeat' with_reducible first|exact ih0 ..|exact ih1 ..|exact ih2 ..|exact am.mono ..|exact LeO.refl ..|exact LeO.none ..|refine LeO.ite ?_ ?_|refine LeO.bind ?_ (fun _=>?_)
def ab.T9:Bool × List (List Nat × List Nat):=(true,[([],[]),([0],[0]),([],[]),([],[]),([3],[3]),([4],[4]),([2,5],[2,5]),([1,6],[1,6]),([7],[7]),([0,1,2,3,4,5,6,7,8],[]),([9,8,6,0,1,2,3,4,5,6,7,8],[8,9])])
def ab.B9:List Nat:=[0,1,0,0,8,24,60,127,255,511,1023]
theorem ab.tab9:df .any (dO Tryz.f51 9)=ab.T9:=by kernel_rfl
theorem ab.bits9:ce ab.T9.2 ab.B9=true:=by kernel_rfl
theorem ab.calls (k:Nat) (g:Nat) (s0_0:List Int) (s0_1:Int) (s0_2:Int) (a1_0:Int) (a1_1:Bool) (A1_2:Option Addr) (c1_2:Nat) (l1_2:List Int) (A1_3:Option Addr) (c1_3:Nat) (l1_3:List Int) (a1_4:Int) (r1:Int) (r2:Int) (r3:Int) (r4:Int) (r5:Int) (w0 w:World) (hI:aa w0 w g s0_0 s0_1 s0_2) (hB:Below w0.heap.size w0 w) (hr1_2:Kd.C (Kd.int .i64) w A1_2 l1_2.length l1_2) (hc1_2:l1_2.length≤c1_2) (hf1_2:∀ ad,A1_2=some ad→0<l1_2.length→ad.block≠g) (hr1_3:Kd.C (Kd.int .i64) w A1_3 l1_3.length l1_3) (hc1_3:l1_3.length≤c1_3) (hf1_3:∀ ad,A1_3=some ad→0<l1_3.length→ad.block≠g) (H:ab.f k s0_0 s0_1 s0_2 a1_0 a1_1 l1_2 l1_3 a1_4=some (r1,r2,r3,r4,r5)) :
  Calls Tryz.prog 51 #[.pointer (some ⟨g,0,none⟩),.agg #[.int .i64 a1_0,.bool a1_1,.slice A1_2 l1_2.length c1_2,.slice A1_3 l1_3.length c1_3,.int .i64 a1_4]] w fun e w'=>e=.returned (.agg #[.int .i64 r1,.int .i64 r2,.int .i64 r3])∧aa w0 w' g s0_0 r4 r5∧Below w0.heap.size w0 w'∧af w w' g none:=by
 have hu32:=Tryz.underlying32;have hu50:=Tryz.underlying50;have hu30:=Tryz.underlying30;have HR1_2:=A0_ hr1_2;have HC1_2:=A0_ hc1_2;clear hr1_2 hc1_2;have HR1_3:=A0_ hr1_3;have HC1_3:=A0_ hc1_3;clear hr1_3 hc1_3;have HI0:=A0_ hI;have HK:=A0_ (af.refl w g none);have HL:=A0_ hB.size;clear hI;have HW0:=A0_ hB.size;have HB:=A0_ hB;clear hB;unfold ab.f at H;obtain ⟨y1,hy1⟩:∃ y_:List Int,y_=(([1,1,1,2,2,3,4,5]:List Int)):=⟨_,rfl⟩;replace H:((av.f s0_0 s0_1 s0_2 y1).bind fun bt1=>(if bt1.1=2 then ((am.f k s0_0 bt1.2.1 bt1.2.2 a1_0 a1_1 l1_2).bind fun bt2=>(ab.j2 k s0_0 bt2.2.1 bt2.2.2 bt1.1 bt2.1 0)) else (if bt1.1=3 then (ab.j0 k bt1.1 (bt1.1 == 3) s0_0 bt1.2.1 bt1.2.2 a1_0 a1_1 l1_2 l1_3 a1_4 bt1.1 0 0) else (ab.j0 k bt1.1 (bt1.1 == 4) s0_0 bt1.2.1 bt1.2.2 a1_0 a1_1 l1_2 l1_3 a1_4 bt1.1 0 0))))=some (r1,r2,r3,r4,r5):=dx;have Ny1:=A0_ hy1;clear hy1;obtain ⟨⟨t1,t2,t3⟩,A3,H⟩:=o1_ H;have HC4:=A0_ H;clear H;go_enter Tryz.func51,Tryz.ntmps51
 go_upto_block 0 with (first|((with_reducible refine gd_ (N:=3) rfl ?_);refine bx_ 3 #[.int .i64 a1_0,.bool a1_1,.slice A1_2 l1_2.length c1_2,.slice A1_3 l1_3.length c1_3,.int .i64 a1_4] 32 ?_;intro gb1 hg w1 BK1 hb;replace HB:=hb_ hb di;have GW1:=A0_ ((gc:w.heap.size≤gb1));have GE1:=A0_ ((Nat.le_trans HW0.out (gc:w.heap.size≤gb1):w0.heap.size≤gb1));replace HK:=A0_ (af.trans dg (af.of_below hb g none) (.inl rfl));have NB0_1:=A0_ ((j8:g≠gb1));have NB1_0:=A0_ ((j4:gb1≠g));replace HI0:=A0_ (aa.below dz hb);clear hb hg)|((with_reducible refine gd_ (N:=4) rfl ?_);refine bx_ 4 #[.int .i64 0,.int .i64 0,.int .i64 0] 50 ?_;intro gb2 hg w2 BK2 hb;replace HB:=hb_ hb dw;have GW2:=A0_ ((kN:w.heap.size≤gb2));have GE2:=A0_ ((Nat.le_trans HW0.out (kN:w.heap.size≤gb2):w0.heap.size≤gb2));replace HK:=A0_ (af.trans cF (af.of_below hb g none) (.inl rfl));obtain ⟨NB1_2,NB2_1⟩:=nn_ hg BK1;replace BK1:=k1_ BK1 hb;have NB0_2:=A0_ ((by rw [hg];exact Nat.ne_of_lt (aa.lt (show aa w0 _ g s0_0 s0_1 s0_2 from cM)):g≠gb2));have NB2_0:=A0_ ((by rw [hg];exact Nat.ne_of_gt (aa.lt (show aa w0 _ g s0_0 s0_1 s0_2 from cM)):gb2≠g));replace HI0:=A0_ (aa.below cM hb);clear hb hg)|((with_reducible refine gd_ (N:=7) rfl ?_);refine Kd.R_lit (Kd.int .i64) _ 3 ?hg (N:=7) ?hd (xs:=([1,1,1,2,2,3,4,5]:List Int)) (inner:=[.int .i64 1,.int .i64 1,.int .i64 1,.int .i64 2,.int .i64 2,.int .i64 3,.int .i64 4,.int .i64 5]) (ok:=fun _=>True) (okp:=fun _=>True) ?hr ?hp (fun _ hk=>hk) trivial (Below.refl _ _) (Nat.le_refl _) bB ?_;(case hd=>rfl);(case hg=>rfl);(case hr=>go_simp;first|done|rfl);(case hp=>exact (aN.one (show Kd.M (Kd.int .i64) _ _ _ 1 [.int .i64 1] from rfl) (aN.one (show Kd.M (Kd.int .i64) _ _ _ 1 [.int .i64 1] from rfl) (aN.one (show Kd.M (Kd.int .i64) _ _ _ 1 [.int .i64 1] from rfl) (aN.one (show Kd.M (Kd.int .i64) _ _ _ 2 [.int .i64 2] from rfl) (aN.one (show Kd.M (Kd.int .i64) _ _ _ 2 [.int .i64 2] from rfl) (aN.one (show Kd.M (Kd.int .i64) _ _ _ 3 [.int .i64 3] from rfl) (aN.one (show Kd.M (Kd.int .i64) _ _ _ 4 [.int .i64 4] from rfl) (aN.one (show Kd.M (Kd.int .i64) _ _ _ 5 [.int .i64 5] from rfl) (aN.none _ _))))))))));intro v1 w3 ho8 hb hg_ hnew_;clear hg_ hnew_;(first|rw [← Ny1.out] at ho8|(simp only [Int.reduceToNat] at ho8;rw [← Ny1.out] at ho8));have HO1:=A0_ (Kd.R_lower ho8 (ba (w:=w) (g:=g) (row:=none) cb));replace BK1:=k1_ BK1 hb;replace BK2:=k1_ BK2 hb;replace HK:=A0_ (af.trans cb (af.of_below hb g none) (.inl rfl));replace HB:=hb_ hb cJ;replace HI0:=A0_ (aa.below bI hb);clear hb ho8;obtain ⟨Ao1,co1,eo1⟩:=Kd.R_slice HO1.out;subst eo1)|((with_reducible refine gc_ (f:=70) rfl ?_);refine gl_ 8 Tryz.func70 #[.pointer (some ⟨g,0,none⟩),.slice Ao1 y1.length co1] ?_;(with_reducible refine (av.calls g s0_0 s0_1 s0_2 _ _ y1 t1 t2 t3 w0 _ ?_ ?_ ?_ ?_ ?_ A3.out).mono ?_);exact bI;exact cJ;exact dW;exact (rr_ HO1.out).2.1;exact bW (aa.own_ne HI0.out HO1.out ag);rintro e w4 ⟨rfl,hi,hb,hk⟩;refine ⟨_,rfl,?_⟩;replace BK1:=bT BK1 hk NB1_0;replace BK2:=bT BK2 hk NB2_0;replace HO1:=A0_ (Kd.R_mono (Kd.R_keep (aa.apart (show aa w0 _ g s0_0 s0_1 s0_2 from bI) bx ag) hk (fun _ h=>h.2)) (fun _ h=>h.1));replace HK:=A0_ (af.trans cb hk (.inl rfl));replace HB:=A0_ (hb);replace HI0:=A0_ (hi);(try clear hb hk hi))|((with_reducible refine gd_ (N:=5) rfl ?_);refine bx_ 5 #[.int .i64 0,.int .i64 0,.int .i64 0] 50 ?_;intro gb3 hg w5 BK3 hb;replace HO1:=q1_ HO1 hb;replace HB:=hb_ hb cJ;have GW3:=A0_ ((eQ:w.heap.size≤gb3));have GE3:=A0_ ((Nat.le_trans HW0.out (eQ:w.heap.size≤gb3):w0.heap.size≤gb3));replace HK:=A0_ (af.trans cb (af.of_below hb g none) (.inl rfl));obtain ⟨NB1_3,NB3_1⟩:=nn_ hg BK1;replace BK1:=k1_ BK1 hb;obtain ⟨NB2_3,NB3_2⟩:=nn_ hg BK2;replace BK2:=k1_ BK2 hb;have NB0_3:=A0_ ((by rw [hg];exact Nat.ne_of_lt (aa.lt (show aa w0 _ g s0_0 t2 t3 from bI)):g≠gb3));have NB3_0:=A0_ ((by rw [hg];exact Nat.ne_of_gt (aa.lt (show aa w0 _ g s0_0 t2 t3 from bI)):gb3≠g));replace HI0:=A0_ (aa.below bI hb);clear hb hg;obtain ⟨hnb1,hnc1⟩:=n2_ NB3_1;obtain ⟨hnb2,hnc2⟩:=n2_ NB3_2;obtain ⟨hnb3,hnc3⟩:=n2_ NB3_0;have hcz1:=z3_ BK3))
 (try simp only [Act.put,sa_,sz_,ss_])
 go_cut [] (fun wc=>∃ (kq:Nat) (xd:Int) (xe:Int) (xa:Int) (xb:Int) (xc:Int),Aside0 (ab.j2 kq s0_0 xd xe xa xb xc=some (r1,r2,r3,r4,r5))∧Aside0 (kq≤k)∧Aside0 (wc.heap[gb2]?=some (.cells #[.int .i64 0,.int .i64 0,.int .i64 0] 50 (0,0)))∧Aside0 (wc.heap[gb3]?=some (.cells #[.int .i64 xa,.int .i64 xb,.int .i64 xc] 50 (0,0)))∧Aside0 (aa w0 wc g s0_0 xd xe)∧Aside0 (af w wc g none)∧Aside0 (Below w0.heap.size w0 wc))
 case first =>
  have H:=HC4.out;clear HC4
  by_cases c2:t1=2
  ·rw [if_pos c2] at H
   obtain ⟨c2b0,c2b1⟩:=et_ c2;clear c2
   (first|rw [c2b0]|(simp only [dD,dM];rw [c2b0])|skip)
   obtain ⟨⟨t4,t5,t6⟩,A5,H⟩:=o1_ H;have H':=A0_ H;clear H;obtain ⟨hnb4,hnc4⟩:=n2_ NB1_2;obtain ⟨hnb5,hnc5⟩:=n2_ NB1_3;obtain ⟨hnb6,hnc6⟩:=n2_ NB1_0;have hcz2:=z5_ BK1
   go_wp2_with (first|((with_reducible refine gc_ (f:=72) rfl ?_);refine gl_ 17 Tryz.func72 #[.pointer (some ⟨g,0,none⟩),.agg #[.int .i64 a1_0,.bool a1_1,.slice A1_2 l1_2.length c1_2]] ?_;(with_reducible refine (am.calls k g s0_0 t2 t3 a1_0 a1_1 _ _ l1_2 t4 t5 t6 w0 _ ?_ ?_ ?_ ?_ ?_ A5.out).mono ?_);exact bN;exact ct;exact Kd.C_keep 0 HR1_2.out bZ hf1_2;exact HC1_2.out;exact hf1_2;rintro e w6 ⟨rfl,hi,hb,hk⟩;refine ⟨_,rfl,?_⟩;replace BK1:=bT BK1 hk NB1_0;replace BK2:=bT BK2 hk NB2_0;replace HO1:=A0_ (Kd.R_mono (Kd.R_keep (aa.apart (show aa w0 _ g s0_0 t2 t3 from bN) l4 ag) hk (fun _ h=>h.2)) (fun _ h=>h.1));replace BK3:=A0_ (af.blk hk (g':=gb3) (o:=.cells #[.int .i64 t1,.int .i64 0,.int .i64 0] 50 (0,0)) (u1_ BK3) NB3_0.out bB);replace HK:=A0_ (af.trans bZ hk (.inl rfl));replace HB:=A0_ (hb);replace HI0:=A0_ (hi);(try clear hb hk hi);obtain ⟨hnb7,hnc7⟩:=n2_ NB3_2;obtain ⟨hnb8,hnc8⟩:=n2_ NB3_0;have hcz3:=z3_ BK3))
   go_meet
   exact ⟨_,(t5),(t6),(t1),(t4),(0),H',⟨fv⟩,⟨u1_ BK2⟩,⟨u1_ BK3⟩,⟨bN⟩,⟨bZ⟩,⟨ct⟩⟩
  rw [if_neg c2] at H;obtain ⟨c2b0,c2b1⟩:=ef_ c2
  (first|rw [c2b0]|(simp only [dD,dM];rw [c2b0])|skip)
  have HC26:=A0_ H;clear H
  go_upto_if 19 with (fail)
  go_cut [19] (fun v2 wc=>∃ (kq:Nat) (x19_25:Bool),v2=.bool x19_25∧Aside0 (ab.j0 kq t1 x19_25 s0_0 t2 t3 a1_0 a1_1 l1_2 l1_3 a1_4 t1 0 0=some (r1,r2,r3,r4,r5))∧Aside0 (kq≤k)∧Aside0 (wc.heap[gb1]?=some (.cells #[.int .i64 a1_0,.bool a1_1,(.slice A1_2 l1_2.length c1_2),(.slice A1_3 l1_3.length c1_3),.int .i64 a1_4] 32 (0,0)))∧Aside0 (wc.heap[gb2]?=some (.cells #[.int .i64 0,.int .i64 0,.int .i64 0] 50 (0,0)))∧Aside0 (wc.heap[gb3]?=some (.cells #[.int .i64 t1,.int .i64 0,.int .i64 0] 50 (0,0)))∧Aside0 (aa w0 wc g s0_0 t2 t3)∧Aside0 (af w wc g none)∧Aside0 (Below w0.heap.size w0 wc))
  case first =>
   have H:=HC26.out;clear HC26
   by_cases c3:t1=3
   case neg =>
    rw [if_neg c3] at H;obtain ⟨c3b0,c3b1⟩:=ef_ c3
    (first|rw [c3b0]|(simp only [dD,dM];rw [c3b0])|skip)
    have H':=A0_ H;clear H
    go_wp2
    go_meet
    exact ⟨_,((t1 == 4)),aX,H',⟨fv⟩,⟨u1_ BK1⟩,⟨u1_ BK2⟩,⟨u1_ BK3⟩,⟨bN⟩,⟨bZ⟩,⟨ct⟩⟩
   rw [if_pos c3] at H;obtain ⟨c3b0,c3b1⟩:=et_ c3;clear c3
   (first|rw [c3b0]|(simp only [dD,dM];rw [c3b0])|skip)
   have H':=A0_ H;clear H
   go_wp2
   go_meet
   exact ⟨_,((t1 == 3)),aX,H',⟨fv⟩,⟨u1_ BK1⟩,⟨u1_ BK2⟩,⟨u1_ BK3⟩,⟨bN⟩,⟨bZ⟩,⟨ct⟩⟩
  clear HC26
  try clear c1
  try clear c2
  try clear c2b0
  try clear c2b1
  (try clear hcz1);(try clear hfz1)
  obtain ⟨kq,x19_25,rfl,HA,HJ1,BK1,BK2,BK3,HI0,HK,HB⟩:=hcut
  cases kq with|zero=>exact absurd HA.out (by simp [ab.j0])|succ kj1=>?_
  have H:=HA.out;clear HA;simp only [ab.j0] at H
  by_cases c3:x19_25=true
  case neg =>
   obtain rfl:=bf_.mpr c3;rw [if_neg ft_] at H
   by_cases c4:t1=5
   case neg =>
    rw [if_neg c4] at H;obtain ⟨c4b0,c4b1⟩:=ef_ c4;have H':=A0_ H;clear H
    go_wp2
    go_meet
    exact ⟨_,(t2),(t3),(t1),(0),(0),H',⟨iv⟩,⟨u1_ BK2⟩,⟨u1_ BK3⟩,⟨bN⟩,⟨bZ⟩,⟨ct⟩⟩
   rw [if_pos c4] at H;obtain ⟨c4b0,c4b1⟩:=et_ c4;clear c4;obtain ⟨⟨t4,t5,t6⟩,A5,H⟩:=o1_ H
   by_cases c5:t4=true
   ·subst c5
    rw [if_pos rfl] at H;have H':=A0_ H;clear H
    go_wp2_with (first|((with_reducible refine gc_ (f:=47) rfl ?_);refine gl_ 57 Tryz.func47 #[.pointer (some ⟨g,0,none⟩),.int .i64 4] ?_;(with_reducible refine (bp.calls g s0_0 t2 t3 4 true t5 t6 w0 _ ?_ ?_ A5.out).mono ?_);exact bN;exact ct;rintro e w6 ⟨rfl,hi,hb,hk⟩;refine ⟨_,rfl,?_⟩;replace BK1:=bT BK1 hk NB1_0;replace BK2:=bT BK2 hk NB2_0;replace BK3:=bT BK3 hk NB3_0;replace HK:=A0_ (af.trans bZ hk (.inl rfl));replace HB:=A0_ (hb);replace HI0:=A0_ (hi);(try clear hb hk hi)))
    go_meet
    exact ⟨_,(t5),(t6),(t1),(0),(0),H',⟨iv⟩,⟨u1_ BK2⟩,⟨u1_ BK3⟩,⟨bN⟩,⟨bZ⟩,⟨ct⟩⟩
   obtain rfl:=bf_.mpr c5;rw [if_neg ft_] at H;have H':=A0_ H;clear H
   go_wp2_with (first|((with_reducible refine gc_ (f:=47) rfl ?_);refine gl_ 57 Tryz.func47 #[.pointer (some ⟨g,0,none⟩),.int .i64 4] ?_;(with_reducible refine (bp.calls g s0_0 t2 t3 4 false t5 t6 w0 _ ?_ ?_ A5.out).mono ?_);exact bN;exact ct;rintro e w6 ⟨rfl,hi,hb,hk⟩;refine ⟨_,rfl,?_⟩;replace BK1:=bT BK1 hk NB1_0;replace BK2:=bT BK2 hk NB2_0;replace BK3:=bT BK3 hk NB3_0;replace HK:=A0_ (af.trans bZ hk (.inl rfl));replace HB:=A0_ (hb);replace HI0:=A0_ (hi);(try clear hb hk hi);obtain ⟨hnb4,hnc4⟩:=n2_ NB3_1;obtain ⟨hnb5,hnc5⟩:=n2_ NB3_2;obtain ⟨hnb6,hnc6⟩:=n2_ NB3_0;have hcz2:=z3_ BK3))
   go_meet
   exact ⟨_,(t5),(t6),(1),(0),(0),H',⟨iv⟩,⟨u1_ BK2⟩,⟨u1_ BK3⟩,⟨bN⟩,⟨bZ⟩,⟨ct⟩⟩
  subst c3;rw [if_pos rfl] at H;obtain ⟨⟨t4,t5,t6⟩,A5,H⟩:=o1_ H;have HC30:=A0_ H;clear H;obtain ⟨hnb4,hnc4⟩:=n2_ NB1_2;obtain ⟨hnb5,hnc5⟩:=n2_ NB1_3;obtain ⟨hnb6,hnc6⟩:=n2_ NB1_0;have hcz2:=z5_ BK1
  go_upto_region 8 with (first|((with_reducible refine gc_ (f:=73) rfl ?_);refine gl_ 25 Tryz.func73 #[.pointer (some ⟨g,0,none⟩),.agg #[.int .i64 a1_0,.bool a1_1,.slice A1_2 l1_2.length c1_2]] ?_;(with_reducible refine (ch.calls g s0_0 t2 t3 a1_0 a1_1 _ _ l1_2 t4 t5 t6 w0 _ ?_ ?_ ?_ ?_ ?_ A5.out).mono ?_);exact bN;exact ct;exact Kd.C_keep 0 HR1_2.out bZ hf1_2;exact HC1_2.out;exact hf1_2;rintro e w6 ⟨rfl,hi,hb,hk⟩;refine ⟨_,rfl,?_⟩;replace BK1:=bT BK1 hk NB1_0;replace BK2:=bT BK2 hk NB2_0;replace BK3:=bT BK3 hk NB3_0;replace HK:=A0_ (af.trans bZ hk (.inl rfl));replace HB:=A0_ (hb);replace HI0:=A0_ (hi);(try clear hb hk hi);obtain ⟨hnb7,hnc7⟩:=n2_ NB3_2;obtain ⟨hnb8,hnc8⟩:=n2_ NB3_0;have hcz3:=z3_ BK3))
  (try simp only [Act.put,sa_,sz_,ss_])
  go_cut [35] (fun v3 wc=>∃ (kq:Nat) (x35_29:Bool) (xf:Int) (xg:Int),v3=.bool x35_29∧Aside0 (ab.j1 kq x35_29 s0_0 xf xg a1_0 a1_1 l1_2 l1_3 a1_4 t1 t4 0=some (r1,r2,r3,r4,r5))∧Aside0 (kq≤kj1)∧Aside0 (wc.heap[gb1]?=some (.cells #[.int .i64 a1_0,.bool a1_1,(.slice A1_2 l1_2.length c1_2),(.slice A1_3 l1_3.length c1_3),.int .i64 a1_4] 32 (0,0)))∧Aside0 (wc.heap[gb2]?=some (.cells #[.int .i64 0,.int .i64 0,.int .i64 0] 50 (0,0)))∧Aside0 (wc.heap[gb3]?=some (.cells #[.int .i64 t1,.int .i64 t4,.int .i64 0] 50 (0,0)))∧Aside0 (aa w0 wc g s0_0 xf xg)∧Aside0 (af w wc g none)∧Aside0 (Below w0.heap.size w0 wc))
  case first =>
   have H:=HC30.out;clear HC30
   by_cases c4:(l1_3.length:Int) > 0
   case neg =>
    rw [if_neg c4] at H;have c4b0:decide (0<(l1_3.length:Int))=false:=decide_eq_false c4;have c4b1:decide (0<l1_3.length)=false:=decide_eq_false bm;clear c4
    (first|rw [c4b0]|(simp only [dD,dM];rw [c4b0])|skip)
    have H':=A0_ H;clear H;obtain ⟨hnb9,hnc9⟩:=n2_ NB1_2;obtain ⟨hnb10,hnc10⟩:=n2_ NB1_3;obtain ⟨hnb11,hnc11⟩:=n2_ NB1_0;have hcz4:=z5_ BK1
    go_wp2
    go_meet
    exact ⟨_,(false),(t5),(t6),aX,H',⟨iv⟩,⟨u1_ BK1⟩,⟨u1_ BK2⟩,⟨u1_ BK3⟩,⟨bN⟩,⟨bZ⟩,⟨ct⟩⟩
   rw [if_pos c4] at H;have c4b0:decide (0<(l1_3.length:Int))=true:=dt_ c4;have c4b1:decide (0<l1_3.length)=true:=dt_ bm;clear c4
   (first|rw [c4b0]|(simp only [dD,dM];rw [c4b0])|skip)
   obtain ⟨⟨t7,t8,t9⟩,A7,H⟩:=o1_ H;have H':=A0_ H;clear H;obtain ⟨hnb9,hnc9⟩:=n2_ NB1_2;obtain ⟨hnb10,hnc10⟩:=n2_ NB1_3;obtain ⟨hnb11,hnc11⟩:=n2_ NB1_0;have hcz4:=z5_ BK1
   go_wp2_with (first|(go_at_call 47;(with_reducible refine (bp.calls g s0_0 t5 t6 8 t7 t8 t9 w0 _ ?_ ?_ A7.out).mono ?_);exact bN;exact ct;rintro e w7 ⟨rfl,hi,hb,hk⟩;replace BK1:=bT BK1 hk NB1_0;replace BK2:=bT BK2 hk NB2_0;replace BK3:=A0_ (af.blk hk (g':=gb3) (o:=.cells #[.int .i64 t1,.int .i64 t4,.int .i64 0] 50 (0,0)) (u1_ BK3) NB3_0.out bB);replace HK:=A0_ (af.trans bZ hk (.inl rfl));replace HB:=A0_ (hb);replace HI0:=A0_ (hi);(try clear hb hk hi)))
   go_meet
   exact ⟨_,(!t7),(t8),(t9),aX,H',⟨iv⟩,⟨u1_ BK1⟩,⟨u1_ BK2⟩,⟨u1_ BK3⟩,⟨bN⟩,⟨bZ⟩,⟨ct⟩⟩
  clear HC30
  try clear c1
  try clear c2
  try clear c2b0
  try clear c2b1
  try clear c3
  (try clear hcz1);(try clear hcz2);(try clear hcz3);(try clear hfz1);(try clear hfz2);(try clear hfz3)
  obtain ⟨kq,x35_29,xf,xg,rfl,HA,HJ2,BK1,BK2,BK3,HI0,HK,HB⟩:=hcut
  cases kq with|zero=>exact absurd HA.out (by simp [ab.j1])|succ kj2=>?_
  have H:=HA.out;clear HA;simp only [ab.j1] at H
  by_cases c4:x35_29=true
  case neg =>
   obtain rfl:=bf_.mpr c4;rw [if_neg ft_] at H
   by_cases c5:t1=4
   case neg =>
    rw [if_neg c5] at H;obtain ⟨c5b0,c5b1⟩:=ef_ c5;have H':=A0_ H;clear H;obtain ⟨hnb9,hnc9⟩:=n2_ NB3_1;obtain ⟨hnb10,hnc10⟩:=n2_ NB3_2;obtain ⟨hnb11,hnc11⟩:=n2_ NB3_0;have hcz4:=z3_ BK3
    go_wp2
    go_meet
    exact ⟨_,(xf),(xg),(t1),(t4),(0),H',⟨iD⟩,⟨u1_ BK2⟩,⟨u1_ BK3⟩,⟨bN⟩,⟨bZ⟩,⟨ct⟩⟩
   rw [if_pos c5] at H;obtain ⟨c5b0,c5b1⟩:=et_ c5;clear c5;obtain ⟨⟨t7,t8,t9⟩,A7,H⟩:=o1_ H;have H':=A0_ H;clear H;obtain ⟨hnb9,hnc9⟩:=n2_ NB3_1;obtain ⟨hnb10,hnc10⟩:=n2_ NB3_2;obtain ⟨hnb11,hnc11⟩:=n2_ NB3_0;have hcz4:=z3_ BK3;obtain ⟨hnb12,hnc12⟩:=n2_ NB1_2;obtain ⟨hnb13,hnc13⟩:=n2_ NB1_0;have hcz5:=z5_ BK1
   go_wp2_with (first|((with_reducible refine gc_ (f:=72) rfl ?_);refine gl_ 52 Tryz.func72 #[.pointer (some ⟨g,0,none⟩),.agg #[.int .i64 a1_0,.bool a1_1,.slice A1_2 l1_2.length c1_2]] ?_;(with_reducible refine (am.calls kj2 g s0_0 xf xg a1_0 a1_1 _ _ l1_2 t7 t8 t9 w0 _ ?_ ?_ ?_ ?_ ?_ A7.out).mono ?_);exact bN;exact ct;exact Kd.C_keep 0 HR1_2.out bZ hf1_2;exact HC1_2.out;exact hf1_2;rintro e w7 ⟨rfl,hi,hb,hk⟩;refine ⟨_,rfl,?_⟩;replace BK1:=bT BK1 hk NB1_0;replace BK2:=bT BK2 hk NB2_0;replace BK3:=bT BK3 hk NB3_0;replace HK:=A0_ (af.trans bZ hk (.inl rfl));replace HB:=A0_ (hb);replace HI0:=A0_ (hi);(try clear hb hk hi);have hcz6:=z3_ BK3))
   go_meet
   exact ⟨_,(t8),(t9),(t1),(t4),(t7),H',⟨iD⟩,⟨u1_ BK2⟩,⟨u1_ BK3⟩,⟨bN⟩,⟨bZ⟩,⟨ct⟩⟩
  subst c4;rw [if_pos rfl] at H;obtain ⟨⟨t7,t8,t9⟩,A7,H⟩:=o1_ H;obtain ⟨c5b0,H⟩:=i1_ H;obtain ⟨c6b0,H⟩:=i1_ H
  by_cases c7:t1=4
  case neg =>
   rw [if_neg c7] at H;obtain ⟨c7b0,c7b1⟩:=ef_ c7;have H':=A0_ H;clear H
   try go_wp2
   replace BK1:=A0_ (kd_ BK1.out);replace BK2:=A0_ (kd_ BK2.out);replace BK3:=A0_ (kd_ BK3.out);replace HI0:=A0_ (aa.drew HI0.out);replace HK:=A0_ (ci HK.out);replace HB:=A0_ (bd_ HB.out);have p1:0≤(t7:Int):=od_ ay;have q1:t7<(l1_3.length:Int):=od_ ay;obtain ⟨ad1,e1,hx1_0⟩:=Kd.at_int HR1_3.out t7 p1 q1;have hw601_0:=hx1_0;cases e1;have hne601_0:=(show ((ad1.add (t7).toNat):Addr).block≠g from nB);replace hx1_0:=dJ HK.out hx1_0 n8;replace p1:=eq_true p1;replace q1:=eq_true q1
   refine dd (n:=11) (S:=fun w'=>w'.cell? ⟨gb1,0,none⟩=some (.int .i64 a1_0)∧w'.cell? ⟨gb1,1,none⟩=some (.bool a1_1)∧w'.cell? ⟨gb1,2,none⟩=some (.slice A1_2 l1_2.length c1_2)∧w'.cell? ⟨gb1,3,none⟩=some (.slice (some ad1) l1_3.length c1_3)∧w'.cell? ⟨gb1,4,none⟩=some (.int .i64 a1_4)∧w'.cell? (ad1.add (t7).toNat)=some (.int .i64 (rd l1_3 t7))) (ds:=[]) #[false,false,false,false,false,false,false,false,false,false,false] aY rfl rfl (a5_ BK1 (dJ HK.out hw601_0 hne601_0)) (fun hHeld=>?_);refine cu ab.tab9 ab.bits9 (fun HT_ HW_=>?_)
   generalize wc.drew=w7 at BK1 BK2 BK3 HI0 HK HB hf1_3 hx1_0 hHeld ⊢
   refine pu_ 0 36 ?_
   refine pu_ 2 38 ?_
   refine pu_ 3 39 ?_
   refine tk_ 1 37 hHeld ?_
   refine tk_ 4 40 hHeld ?_
   refine pu_ 5 41 ?_
   refine on_ 6 (some 42) (fun K hK=>?_)
   refine gs_ Tryz.func55 #[.pointer (some ⟨g,0,none⟩),.int .i64 (l1_3.length:Int)] ?_
   with_reducible refine (aC.calls g s0_0 xf xg (l1_3.length:Int) t7 t8 t9 w0 _ ?_ ?_ A7.out).mono ?_
   exact bN
   exact ct
   rintro e w8 ⟨rfl,hi,hb,hk⟩
   refine ⟨_,rfl,?_⟩
   replace BK1:=bT BK1 hk NB1_0;replace BK2:=bT BK2 hk NB2_0;replace BK3:=bT BK3 hk NB3_0;replace HK:=A0_ (af.trans bZ hk (.inl rfl));replace HB:=A0_ (hb);replace HI0:=A0_ (hi)
   (try clear hb hk hi)
   refine hK.out _ _ (a5_ BK1 (dJ HK.out hw601_0 hne601_0)) (fun hHeld=>?_)
   clear hK K
   refine nm_ 42 ?_
   refine pu_ 7 43 ?_
   refine tk_ 8 44 hHeld ?_
   refine pu_ 9 45 ?_
   refine on_ 10 none (fun K hK=>?_)
   have hs70:=y_ BK3 1;have hfs70:=kf_ BK3.out 1;have hns1_0:=NB1_3.out;have hns1_1:=NB2_3.out;have hms1_0:=NB3_1.out;have hms1_1:=NB3_2.out
   refine ea (w1:=?_) (by rfl) rfl ?_ ?_
   rotate_left
   ·go_simp
    rfl
   refine hK.out _ _ ⟨((ae (p:=⟨gb3,_,none⟩) NB1_3.out _).trans (hHeld.1)),((ae (p:=⟨gb3,_,none⟩) NB1_3.out _).trans (hHeld.2.1)),((ae (p:=⟨gb3,_,none⟩) NB1_3.out _).trans (hHeld.2.2.1)),((ae (p:=⟨gb3,_,none⟩) NB1_3.out _).trans (hHeld.2.2.2.1)),((ae (p:=⟨gb3,_,none⟩) NB1_3.out _).trans (hHeld.2.2.2.2.1)),((ae (p:=⟨gb3,_,none⟩) od _).trans (hHeld.2.2.2.2.2))⟩ (fun hHeld=>?_)
   clear hK K
   refine dn_ ?_
   obtain ⟨hnb9,hnc9⟩:=n2_ NB3_1;obtain ⟨hnb10,hnc10⟩:=n2_ NB3_2;obtain ⟨hnb11,hnc11⟩:=n2_ NB3_0;have hcz4:=z3_ BK3
   try go_wp2
   go_meet
   exact ⟨_,(t8),(t9),(t1),(rd l1_3 t7),(0),H',⟨iD⟩,⟨u1_ BK2⟩,⟨u1_ BK3⟩,⟨bN⟩,⟨bZ⟩,⟨ct⟩⟩
  rw [if_pos c7] at H;obtain ⟨c7b0,c7b1⟩:=et_ c7;clear c7;obtain ⟨⟨t10,t11,t12⟩,A9,H⟩:=o1_ H;have H':=A0_ H;clear H
  try go_wp2
  replace BK1:=A0_ (kd_ BK1.out);replace BK2:=A0_ (kd_ BK2.out);replace BK3:=A0_ (kd_ BK3.out);replace HI0:=A0_ (aa.drew HI0.out);replace HK:=A0_ (ci HK.out);replace HB:=A0_ (bd_ HB.out);have p1:0≤(t7:Int):=od_ ay;have q1:t7<(l1_3.length:Int):=od_ ay;obtain ⟨ad1,e1,hx1_0⟩:=Kd.at_int HR1_3.out t7 p1 q1;have hw601_0:=hx1_0;cases e1;have hne601_0:=(show ((ad1.add (t7).toNat):Addr).block≠g from nB);replace hx1_0:=dJ HK.out hx1_0 n8;replace p1:=eq_true p1;replace q1:=eq_true q1
  refine dd (n:=11) (S:=fun w'=>w'.cell? ⟨gb1,0,none⟩=some (.int .i64 a1_0)∧w'.cell? ⟨gb1,1,none⟩=some (.bool a1_1)∧w'.cell? ⟨gb1,2,none⟩=some (.slice A1_2 l1_2.length c1_2)∧w'.cell? ⟨gb1,3,none⟩=some (.slice (some ad1) l1_3.length c1_3)∧w'.cell? ⟨gb1,4,none⟩=some (.int .i64 a1_4)∧w'.cell? (ad1.add (t7).toNat)=some (.int .i64 (rd l1_3 t7))) (ds:=[]) #[false,false,false,false,false,false,false,false,false,false,false] aY rfl rfl (a5_ BK1 (dJ HK.out hw601_0 hne601_0)) (fun hHeld=>?_);refine cu ab.tab9 ab.bits9 (fun HT_ HW_=>?_)
  generalize wc.drew=w7 at BK1 BK2 BK3 HI0 HK HB hf1_3 hx1_0 hHeld ⊢
  refine pu_ 0 36 ?_
  refine pu_ 2 38 ?_
  refine pu_ 3 39 ?_
  refine tk_ 1 37 hHeld ?_
  refine tk_ 4 40 hHeld ?_
  refine pu_ 5 41 ?_
  refine on_ 6 (some 42) (fun K hK=>?_)
  refine gs_ Tryz.func55 #[.pointer (some ⟨g,0,none⟩),.int .i64 (l1_3.length:Int)] ?_
  with_reducible refine (aC.calls g s0_0 xf xg (l1_3.length:Int) t7 t8 t9 w0 _ ?_ ?_ A7.out).mono ?_
  exact bN
  exact ct
  rintro e w8 ⟨rfl,hi,hb,hk⟩
  refine ⟨_,rfl,?_⟩
  replace BK1:=bT BK1 hk NB1_0;replace BK2:=bT BK2 hk NB2_0;replace BK3:=bT BK3 hk NB3_0;replace HK:=A0_ (af.trans bZ hk (.inl rfl));replace HB:=A0_ (hb);replace HI0:=A0_ (hi)
  (try clear hb hk hi)
  refine hK.out _ _ (a5_ BK1 (dJ HK.out hw601_0 hne601_0)) (fun hHeld=>?_)
  clear hK K
  refine nm_ 42 ?_
  refine pu_ 7 43 ?_
  refine tk_ 8 44 hHeld ?_
  refine pu_ 9 45 ?_
  refine on_ 10 none (fun K hK=>?_)
  have hs58:=y_ BK3 1;have hfs58:=kf_ BK3.out 1;have hns1_0:=NB1_3.out;have hns1_1:=NB2_3.out;have hms1_0:=NB3_1.out;have hms1_1:=NB3_2.out
  refine ea (w1:=?_) (by rfl) rfl ?_ ?_
  rotate_left
  ·go_simp
   rfl
  refine hK.out _ _ ⟨((ae (p:=⟨gb3,_,none⟩) NB1_3.out _).trans (hHeld.1)),((ae (p:=⟨gb3,_,none⟩) NB1_3.out _).trans (hHeld.2.1)),((ae (p:=⟨gb3,_,none⟩) NB1_3.out _).trans (hHeld.2.2.1)),((ae (p:=⟨gb3,_,none⟩) NB1_3.out _).trans (hHeld.2.2.2.1)),((ae (p:=⟨gb3,_,none⟩) NB1_3.out _).trans (hHeld.2.2.2.2.1)),((ae (p:=⟨gb3,_,none⟩) od _).trans (hHeld.2.2.2.2.2))⟩ (fun hHeld=>?_)
  clear hK K
  refine dn_ ?_
  obtain ⟨hnb9,hnc9⟩:=n2_ NB3_1;obtain ⟨hnb10,hnc10⟩:=n2_ NB3_2;obtain ⟨hnb11,hnc11⟩:=n2_ NB3_0;have hcz4:=z3_ BK3;obtain ⟨hnb12,hnc12⟩:=n2_ NB1_2;obtain ⟨hnb13,hnc13⟩:=n2_ NB1_0;have hcz5:=z5_ BK1
  try go_wp2_with (first|((with_reducible refine gc_ (f:=72) rfl ?_);refine gl_ 52 Tryz.func72 #[.pointer (some ⟨g,0,none⟩),.agg #[.int .i64 a1_0,.bool a1_1,.slice A1_2 l1_2.length c1_2]] ?_;(with_reducible refine (am.calls kj2 g s0_0 t8 t9 a1_0 a1_1 _ _ l1_2 t10 t11 t12 w0 _ ?_ ?_ ?_ ?_ ?_ A9.out).mono ?_);exact bN;exact ct;exact Kd.C_keep 0 HR1_2.out bZ hf1_2;exact HC1_2.out;exact hf1_2;rintro e w9 ⟨rfl,hi,hb,hk⟩;refine ⟨_,rfl,?_⟩;replace BK1:=bT BK1 hk NB1_0;replace BK2:=bT BK2 hk NB2_0;replace BK3:=A0_ (af.blk hk (g':=gb3) (o:=.cells #[.int .i64 t1,.int .i64 (rd l1_3 t7),.int .i64 0] 50 (0,0)) (u1_ BK3) NB3_0.out bB);replace HK:=A0_ (af.trans bZ hk (.inl rfl));replace HB:=A0_ (hb);replace HI0:=A0_ (hi);(try clear hb hk hi);have hcz6:=z3_ BK3))
  go_meet
  exact ⟨_,(t11),(t12),(t1),(rd l1_3 t7),(t10),H',⟨iD⟩,⟨u1_ BK2⟩,⟨u1_ BK3⟩,⟨bN⟩,⟨bZ⟩,⟨ct⟩⟩
 clear HC4
 try clear c1
 (try clear hcz1);(try clear hfz1)
 obtain ⟨kq,xd,xe,xa,xb,xc,HA,HJ1,BK2,BK3,HI0,HK,HB⟩:=hcut
 cases kq with|zero=>exact absurd HA.out (by simp [ab.j2])|succ kj1=>?_
 have H:=HA.out;clear HA;simp only [ab.j2] at H;obtain ⟨⟨t4,t5,t6⟩,A5,H⟩:=o1_ H
 by_cases c2:t4=0
 ·rw [if_pos c2] at H
  obtain ⟨c2b0,c2b1⟩:=et_ c2;clear c2;obtain ⟨y2,hy2⟩:∃ y_:List Int,y_=(([(-1),24,1,4611686018427387904]:List Int)):=⟨_,rfl⟩;replace H:((av.f s0_0 t5 t6 y2).bind fun bt3=>(some (xa,bt3.1,xc,bt3.2.1,bt3.2.2)))=some (r1,r2,r3,r4,r5):=dH;have Ny2:=A0_ hy2;clear hy2;obtain ⟨⟨t7,t8,t9⟩,A7,H⟩:=o1_ H;replace H:(some (xa,t7,xc,t8,t9))=some (r1,r2,r3,r4,r5):=H;simp only [sj_,pj_] at H;obtain ⟨rfl,rfl,rfl,rfl,rfl⟩:=H
  go_wp2_with (first|((with_reducible refine gc_ (f:=55) rfl ?_);refine gl_ 61 Tryz.func55 #[.pointer (some ⟨g,0,none⟩),.int .i64 32] ?_;(with_reducible refine (aC.calls g s0_0 xd xe 32 t4 t5 t6 w0 _ ?_ ?_ A5.out).mono ?_);exact ep;exact eT;rintro e w6 ⟨rfl,hi,hb,hk⟩;refine ⟨_,rfl,?_⟩;replace BK2:=bT BK2 hk NB2_0;replace BK3:=bT BK3 hk NB3_0;replace HK:=A0_ (af.trans eq hk (.inl rfl));replace HB:=A0_ (hb);replace HI0:=A0_ (hi);(try clear hb hk hi))|((with_reducible refine gd_ (N:=65) rfl ?_);refine Kd.R_lit (Kd.int .i64) _ 3 ?hg (N:=65) ?hd (xs:=([(-1),24,1,4611686018427387904]:List Int)) (inner:=[.int .i64 (-1),.int .i64 24,.int .i64 1,.int .i64 4611686018427387904]) (ok:=fun _=>True) (okp:=fun _=>True) ?hr ?hp (fun _ hk=>hk) trivial (Below.refl _ _) (Nat.le_refl _) bB ?_;(case hd=>rfl);(case hg=>rfl);(case hr=>go_simp;first|done|rfl);(case hp=>exact (aN.one (show Kd.M (Kd.int .i64) _ _ _ (-1) [.int .i64 (-1)] from rfl) (aN.one (show Kd.M (Kd.int .i64) _ _ _ 24 [.int .i64 24] from rfl) (aN.one (show Kd.M (Kd.int .i64) _ _ _ 1 [.int .i64 1] from rfl) (aN.one (show Kd.M (Kd.int .i64) _ _ _ 4611686018427387904 [.int .i64 4611686018427387904] from rfl) (aN.none _ _))))));intro v2 w7 ho104 hb hg_ hnew_;clear hg_ hnew_;(first|rw [← Ny2.out] at ho104|(simp only [Int.reduceToNat] at ho104;rw [← Ny2.out] at ho104));have HO2:=A0_ (Kd.R_lower ho104 (ba (w:=w) (g:=g) (row:=none) eq));replace BK2:=k1_ BK2 hb;replace BK3:=k1_ BK3 hb;replace HK:=A0_ (af.trans eq (af.of_below hb g none) (.inl rfl));replace HB:=hb_ hb eT;replace HI0:=A0_ (aa.below ep hb);clear hb ho104;obtain ⟨Ao2,co2,eo2⟩:=Kd.R_slice HO2.out;subst eo2)|((with_reducible refine gc_ (f:=70) rfl ?_);refine gl_ 66 Tryz.func70 #[.pointer (some ⟨g,0,none⟩),.slice Ao2 y2.length co2] ?_;(with_reducible refine (av.calls g s0_0 t5 t6 _ _ y2 t7 t8 t9 w0 _ ?_ ?_ ?_ ?_ ?_ A7.out).mono ?_);exact ep;exact eT;exact f6;exact (rr_ HO2.out).2.1;exact bW (aa.own_ne HI0.out HO2.out ag);rintro e w8 ⟨rfl,hi,hb,hk⟩;refine ⟨_,rfl,?_⟩;replace BK2:=bT BK2 hk NB2_0;replace BK3:=bT BK3 hk NB3_0;replace HO2:=A0_ (Kd.R_mono (Kd.R_keep (aa.apart (show aa w0 _ g s0_0 t5 t6 from ep) cd ag) hk (fun _ h=>h.2)) (fun _ h=>h.1));replace HK:=A0_ (af.trans eq hk (.inl rfl));replace HB:=A0_ (hb);replace HI0:=A0_ (hi);(try clear hb hk hi);obtain ⟨hnb4,hnc4⟩:=n2_ NB3_2;obtain ⟨hnb5,hnc5⟩:=n2_ NB3_0;have hcz2:=z3_ BK3;obtain ⟨hnb6,hnc6⟩:=n2_ NB2_0;have hcz3_0:=y_ BK2 0;have hcz3_1:=y_ BK2 1;have hcz3_2:=y_ BK2 2;have hfz3_0:=kf_ BK2.out 0;have hfz3_1:=kf_ BK2.out 1;have hfz3_2:=kf_ BK2.out 2))
  refine bodyPost_ret (results_cell_row rfl _ _ gb2 50 #[.int .i64 xa,.int .i64 t7,.int .i64 xc] (0,0) _ rfl (u1_ BK2) Tryz.underlying50 rfl aY) rfl ?_
  exact ⟨aE,ep,eT,eq⟩
 rw [if_neg c2] at H;obtain ⟨c2b0,c2b1⟩:=ef_ c2
 by_cases c3:t4=1
 ·rw [if_pos c3] at H
  obtain ⟨c3b0,c3b1⟩:=et_ c3;clear c3;obtain ⟨y2,hy2⟩:∃ y_:List Int,y_=(([(-1),24,1]:List Int)):=⟨_,rfl⟩;replace H:((av.f s0_0 t5 t6 y2).bind fun bt3=>(some (xa,xb,bt3.1,bt3.2.1,bt3.2.2)))=some (r1,r2,r3,r4,r5):=dH;have Ny2:=A0_ hy2;clear hy2;obtain ⟨⟨t7,t8,t9⟩,A7,H⟩:=o1_ H;replace H:(some (xa,xb,t7,t8,t9))=some (r1,r2,r3,r4,r5):=H;simp only [sj_,pj_] at H;obtain ⟨rfl,rfl,rfl,rfl,rfl⟩:=H
  go_wp2_with (first|((with_reducible refine gc_ (f:=55) rfl ?_);refine gl_ 61 Tryz.func55 #[.pointer (some ⟨g,0,none⟩),.int .i64 32] ?_;(with_reducible refine (aC.calls g s0_0 xd xe 32 t4 t5 t6 w0 _ ?_ ?_ A5.out).mono ?_);exact ep;exact eT;rintro e w6 ⟨rfl,hi,hb,hk⟩;refine ⟨_,rfl,?_⟩;replace BK2:=bT BK2 hk NB2_0;replace BK3:=bT BK3 hk NB3_0;replace HK:=A0_ (af.trans eq hk (.inl rfl));replace HB:=A0_ (hb);replace HI0:=A0_ (hi);(try clear hb hk hi))|((with_reducible refine gd_ (N:=71) rfl ?_);refine Kd.R_lit (Kd.int .i64) _ 3 ?hg (N:=71) ?hd (xs:=([(-1),24,1]:List Int)) (inner:=[.int .i64 (-1),.int .i64 24,.int .i64 1]) (ok:=fun _=>True) (okp:=fun _=>True) ?hr ?hp (fun _ hk=>hk) trivial (Below.refl _ _) (Nat.le_refl _) bB ?_;(case hd=>rfl);(case hg=>rfl);(case hr=>go_simp;first|done|rfl);(case hp=>exact (aN.one (show Kd.M (Kd.int .i64) _ _ _ (-1) [.int .i64 (-1)] from rfl) (aN.one (show Kd.M (Kd.int .i64) _ _ _ 24 [.int .i64 24] from rfl) (aN.one (show Kd.M (Kd.int .i64) _ _ _ 1 [.int .i64 1] from rfl) (aN.none _ _)))));intro v2 w7 ho116 hb hg_ hnew_;clear hg_ hnew_;(first|rw [← Ny2.out] at ho116|(simp only [Int.reduceToNat] at ho116;rw [← Ny2.out] at ho116));have HO2:=A0_ (Kd.R_lower ho116 (ba (w:=w) (g:=g) (row:=none) eq));replace BK2:=k1_ BK2 hb;replace BK3:=k1_ BK3 hb;replace HK:=A0_ (af.trans eq (af.of_below hb g none) (.inl rfl));replace HB:=hb_ hb eT;replace HI0:=A0_ (aa.below ep hb);clear hb ho116;obtain ⟨Ao2,co2,eo2⟩:=Kd.R_slice HO2.out;subst eo2)|((with_reducible refine gc_ (f:=70) rfl ?_);refine gl_ 72 Tryz.func70 #[.pointer (some ⟨g,0,none⟩),.slice Ao2 y2.length co2] ?_;(with_reducible refine (av.calls g s0_0 t5 t6 _ _ y2 t7 t8 t9 w0 _ ?_ ?_ ?_ ?_ ?_ A7.out).mono ?_);exact ep;exact eT;exact f6;exact (rr_ HO2.out).2.1;exact bW (aa.own_ne HI0.out HO2.out ag);rintro e w8 ⟨rfl,hi,hb,hk⟩;refine ⟨_,rfl,?_⟩;replace BK2:=bT BK2 hk NB2_0;replace BK3:=bT BK3 hk NB3_0;replace HO2:=A0_ (Kd.R_mono (Kd.R_keep (aa.apart (show aa w0 _ g s0_0 t5 t6 from ep) cd ag) hk (fun _ h=>h.2)) (fun _ h=>h.1));replace HK:=A0_ (af.trans eq hk (.inl rfl));replace HB:=A0_ (hb);replace HI0:=A0_ (hi);(try clear hb hk hi);obtain ⟨hnb4,hnc4⟩:=n2_ NB3_2;obtain ⟨hnb5,hnc5⟩:=n2_ NB3_0;have hcz2:=z3_ BK3;obtain ⟨hnb6,hnc6⟩:=n2_ NB2_0;have hcz3_0:=y_ BK2 0;have hcz3_1:=y_ BK2 1;have hcz3_2:=y_ BK2 2;have hfz3_0:=kf_ BK2.out 0;have hfz3_1:=kf_ BK2.out 1;have hfz3_2:=kf_ BK2.out 2))
  refine bodyPost_ret (results_cell_row rfl _ _ gb2 50 #[.int .i64 xa,.int .i64 xb,.int .i64 t7] (0,0) _ rfl (u1_ BK2) Tryz.underlying50 rfl aY) rfl ?_
  exact ⟨aE,ep,eT,eq⟩
 rw [if_neg c3] at H;obtain ⟨c3b0,c3b1⟩:=ef_ c3
 by_cases c4:t4=2
 case neg =>
  rw [if_neg c4] at H;obtain ⟨c4b0,c4b1⟩:=ef_ c4;simp only [sj_,pj_] at H;obtain ⟨rfl,rfl,rfl,rfl,rfl⟩:=H
  go_wp2_with (first|((with_reducible refine gc_ (f:=55) rfl ?_);refine gl_ 61 Tryz.func55 #[.pointer (some ⟨g,0,none⟩),.int .i64 32] ?_;(with_reducible refine (aC.calls g s0_0 xd xe 32 t4 t5 t6 w0 _ ?_ ?_ A5.out).mono ?_);exact ep;exact eT;rintro e w6 ⟨rfl,hi,hb,hk⟩;refine ⟨_,rfl,?_⟩;replace BK2:=bT BK2 hk NB2_0;replace BK3:=bT BK3 hk NB3_0;replace HK:=A0_ (af.trans eq hk (.inl rfl));replace HB:=A0_ (hb);replace HI0:=A0_ (hi);(try clear hb hk hi);obtain ⟨hnb4,hnc4⟩:=n2_ NB3_2;obtain ⟨hnb5,hnc5⟩:=n2_ NB3_0;have hcz2:=z3_ BK3;obtain ⟨hnb6,hnc6⟩:=n2_ NB2_0;have hcz3_0:=y_ BK2 0;have hcz3_1:=y_ BK2 1;have hcz3_2:=y_ BK2 2;have hfz3_0:=kf_ BK2.out 0;have hfz3_1:=kf_ BK2.out 1;have hfz3_2:=kf_ BK2.out 2))
  refine bodyPost_ret (results_cell_row rfl _ _ gb2 50 #[.int .i64 xa,.int .i64 xb,.int .i64 xc] (0,0) _ rfl (u1_ BK2) Tryz.underlying50 rfl aY) rfl ?_
  exact ⟨aE,ep,eT,eq⟩
 rw [if_pos c4] at H;obtain ⟨c4b0,c4b1⟩:=et_ c4;clear c4;obtain ⟨y2,hy2⟩:∃ y_:List Int,y_=(([0,6,(-1)]:List Int)):=⟨_,rfl⟩;replace H:((av.f s0_0 t5 t6 y2).bind fun bt3=>(some (bt3.1,xb,xc,bt3.2.1,bt3.2.2)))=some (r1,r2,r3,r4,r5):=dH;have Ny2:=A0_ hy2;clear hy2;obtain ⟨⟨t7,t8,t9⟩,A7,H⟩:=o1_ H;replace H:(some (t7,xb,xc,t8,t9))=some (r1,r2,r3,r4,r5):=H;simp only [sj_,pj_] at H;obtain ⟨rfl,rfl,rfl,rfl,rfl⟩:=H
 go_wp2_with (first|((with_reducible refine gc_ (f:=55) rfl ?_);refine gl_ 61 Tryz.func55 #[.pointer (some ⟨g,0,none⟩),.int .i64 32] ?_;(with_reducible refine (aC.calls g s0_0 xd xe 32 t4 t5 t6 w0 _ ?_ ?_ A5.out).mono ?_);exact ep;exact eT;rintro e w6 ⟨rfl,hi,hb,hk⟩;refine ⟨_,rfl,?_⟩;replace BK2:=bT BK2 hk NB2_0;replace BK3:=bT BK3 hk NB3_0;replace HK:=A0_ (af.trans eq hk (.inl rfl));replace HB:=A0_ (hb);replace HI0:=A0_ (hi);(try clear hb hk hi))|((with_reducible refine gd_ (N:=77) rfl ?_);refine Kd.R_lit (Kd.int .i64) _ 3 ?hg (N:=77) ?hd (xs:=([0,6,(-1)]:List Int)) (inner:=[.int .i64 0,.int .i64 6,.int .i64 (-1)]) (ok:=fun _=>True) (okp:=fun _=>True) ?hr ?hp (fun _ hk=>hk) trivial (Below.refl _ _) (Nat.le_refl _) bB ?_;(case hd=>rfl);(case hg=>rfl);(case hr=>go_simp;first|done|rfl);(case hp=>exact (aN.one (show Kd.M (Kd.int .i64) _ _ _ 0 [.int .i64 0] from rfl) (aN.one (show Kd.M (Kd.int .i64) _ _ _ 6 [.int .i64 6] from rfl) (aN.one (show Kd.M (Kd.int .i64) _ _ _ (-1) [.int .i64 (-1)] from rfl) (aN.none _ _)))));intro v2 w7 ho128 hb hg_ hnew_;clear hg_ hnew_;(first|rw [← Ny2.out] at ho128|(simp only [Int.reduceToNat] at ho128;rw [← Ny2.out] at ho128));have HO2:=A0_ (Kd.R_lower ho128 (ba (w:=w) (g:=g) (row:=none) eq));replace BK2:=k1_ BK2 hb;replace BK3:=k1_ BK3 hb;replace HK:=A0_ (af.trans eq (af.of_below hb g none) (.inl rfl));replace HB:=hb_ hb eT;replace HI0:=A0_ (aa.below ep hb);clear hb ho128;obtain ⟨Ao2,co2,eo2⟩:=Kd.R_slice HO2.out;subst eo2)|((with_reducible refine gc_ (f:=70) rfl ?_);refine gl_ 78 Tryz.func70 #[.pointer (some ⟨g,0,none⟩),.slice Ao2 y2.length co2] ?_;(with_reducible refine (av.calls g s0_0 t5 t6 _ _ y2 t7 t8 t9 w0 _ ?_ ?_ ?_ ?_ ?_ A7.out).mono ?_);exact ep;exact eT;exact f6;exact (rr_ HO2.out).2.1;exact bW (aa.own_ne HI0.out HO2.out ag);rintro e w8 ⟨rfl,hi,hb,hk⟩;refine ⟨_,rfl,?_⟩;replace BK2:=bT BK2 hk NB2_0;replace BK3:=bT BK3 hk NB3_0;replace HO2:=A0_ (Kd.R_mono (Kd.R_keep (aa.apart (show aa w0 _ g s0_0 t5 t6 from ep) cd ag) hk (fun _ h=>h.2)) (fun _ h=>h.1));replace HK:=A0_ (af.trans eq hk (.inl rfl));replace HB:=A0_ (hb);replace HI0:=A0_ (hi);(try clear hb hk hi);obtain ⟨hnb4,hnc4⟩:=n2_ NB3_2;obtain ⟨hnb5,hnc5⟩:=n2_ NB3_0;have hcz2:=z3_ BK3;obtain ⟨hnb6,hnc6⟩:=n2_ NB2_0;have hcz3_0:=y_ BK2 0;have hcz3_1:=y_ BK2 1;have hcz3_2:=y_ BK2 2;have hfz3_0:=kf_ BK2.out 0;have hfz3_1:=kf_ BK2.out 1;have hfz3_2:=kf_ BK2.out 2))
 refine bodyPost_ret (results_cell_row rfl _ _ gb2 50 #[.int .i64 t7,.int .i64 xb,.int .i64 xc] (0,0) _ rfl (u1_ BK2) Tryz.underlying50 rfl aY) rfl ?_
 exact ⟨aE,ep,eT,eq⟩

end Go.Proofs.YtbohmfnjgjijdaaGreatDoor.QFnHouses
-- packed
-- squeezed
