-- Written by px.py, a program of this session, over the kit's printer: some functions have a definition and a proof of this session's own.
import Derived.Maps.Own
import Derived.Maps.OwnSet
import Derived.Maps.AppendAt
import Derived.Maps.RangeWalk
import Derived.Maps.OwnOps
import Derived.KernelRfl
import Derived.Laws.EntriesVeiled
import Derived.Test.YtgcgmlbjklkkjaaDoorQFnGamex0
import Derived.Test.YtgcgmlbjklkkjaaDoorQFnGamex1
import Derived.Test.YtgcgmlbjklkkjaaDoorQFnGamex2
import Derived.Test.YtgcgmlbjklkkjaaDoorQFnGamex3
import Derived.Test.YtgcgmlbjklkkjaaDoorQFnGamex4
namespace Go.Proofs.YtgcgmlbjklkkjaaDoor.QFnGame
open Go.RowKit Go.Proofs.YtgcgmlbjklkkjaaDoorW.PrintWords Go.Proofs.YtgcgmlbjklkkjaaDoorW.PrintLast Go.Proofs.YtgcgmlbjklkkjaaDoorW.PrintMore
attribute [local go_sem] fq ft gc gf eW eX fu fv   -- for this text's walks alone
set_option linter.unusedVariables false
set_option linter.unusedSimpArgs false
set_option maxHeartbeats 8000000
set_option maxRecDepth 100000

def cq.f (k:Nat) (s0_0:List Int) (s0_1:Int) (s0_2:Int):Option (Int × Bool × List Int × Int × Int × Int):=(ae.f k s0_0 s0_1 s0_2).bind fun bt770=>((cu.f s0_0 bt770.2.2.2.1 bt770.2.2.2.2).bind fun bt778=>(some (bt770.1,bt770.2.1,bt770.2.2.1,bt778.1,bt778.2.1,bt778.2.2)))
theorem cq.mono:∀ a0 a1 a2 k,LeO (cq.f k a0 a1 a2) (cq.f (k+1) a0 a1 a2):=by
 intro a0 a1 a2 k;unfold cq.f
 repeat' with_reducible first|exact ae.mono ..|exact LeO.refl ..|exact LeO.none ..|refine LeO.ite ?_ ?_|refine LeO.bind ?_ (fun _=>?_)
def ct.f (k:Nat) (l0:List Int):Option (Int × Bool × List Int × Int):=(cq.f k l0 0 0).bind fun b=>some (b.1,b.2.1,b.2.2.1,b.2.2.2.1)
theorem ct.mono:∀ a0 k,LeO (ct.f k a0) (ct.f (k+1) a0):=by
 intro a0 k;unfold ct.f
 exact LeO.bind (cq.mono _ _ _ _) (fun _=>LeO.refl _)
theorem ct.calls (k:Nat) (A0:Option Addr) (c0:Nat) (l0:List Int) (r1:Int) (r2:Bool) (r3:List Int) (r4:Int) (w:World) (hr0:Kd.C (Kd.int .u8) w A0 l0.length l0) (hc0:l0.length≤c0) (h:ct.f k l0=some (r1,r2,r3,r4)) :
  Calls Tryd.prog 29 #[.slice A0 l0.length c0] w fun e w'=>∃ v2_:Value,e=.returned (.tuple #[.agg #[.int .i64 r1,.bool r2,v2_],.int .i64 r4])∧Kd.R (Kd.int .i64) 3 w' w.heap.size (fun _=>True) v2_ r3∧Below w.heap.size w w':=by
 have hu26:=Tryd.underlying26;have hu77:=Tryd.underlying77;have HB:=A0_ (Below.refl w.heap.size w);obtain ⟨⟨r1_,r2_,r3_,r4_,r5,r6⟩,h,h_⟩:=ob_.mp (show (cq.f k l0 0 0).bind (fun b=>some (b.1,b.2.1,b.2.2.1,b.2.2.2.1))=some (r1,r2,r3,r4) from h)
 replace h:cq.f k l0 0 0=some (r1,r2,r3,r4,r5,r6):=by rw [h];cases h_;rfl
 clear h_;have H:((ae.f k l0 0 0).bind fun bt1=>((cu.f l0 bt1.2.2.2.1 bt1.2.2.2.2).bind fun bt2=>(some (bt1.1,bt1.2.1,bt1.2.2.1,bt2.1,bt2.2.1,bt2.2.2))))=some (r1,r2,r3,r4,r5,r6):=h;clear h;obtain ⟨⟨t1,t2,t3,t4,t5⟩,A2,H⟩:=o1_ H;obtain ⟨⟨t6,t7,t8⟩,A4,H⟩:=o1_ H;replace H:(some (t1,t2,t3,t6,t7,t8))=some (r1,r2,r3,r4,r5,r6):=H;simp only [sj_,pj_] at H;obtain ⟨rfl,rfl,rfl,rfl,rfl,rfl⟩:=H;go_enter Tryd.func29,Tryd.ntmps29
 try go_wp2_with (first|((with_reducible refine gd_ (N:=2) rfl ?_);refine bx_ 2 #[.int .i64 0,.bool false,.slice none 0 0] 26 ?_;intro gb1 hg w1 hbox hb;have n2_:=A0_ (bt_ am hb);have n3_:=hbox;have n4_:=A0_ ((lp:w.heap.size≤gb1));clear HB;have HB:=n2_;have BK1:=n3_;have GW1:=n4_;have GE1:=n4_;clear n2_ n3_ n4_ hb hbox hg)|((with_reducible refine gd_ (N:=8) rfl ?_);refine be_ ?hg (N:=8) ?hd (cs:=#[.slice A0 l0.length c0,.int .i64 0,.int .u64 0]) (t:=77) ?hr ?_;(case hd=>rfl);(case hg=>rfl);(case hr=>go_simp;first|done|rfl);intro g hg wB hbox hb;have n0_:=A0_ (show al w wB g l0 0 0 from ⟨A0,c0,hbox,lp,hr0⟩);have n1_:=A0_ (ah.refl wB g none);have n2_:=A0_ (bt_ am hb);have HW0:=A0_ (Below.size n2_.out);have m769_:=A0_ (kb_ (g:=gb1) (o:=.cells #[.int .i64 0,.bool false,.slice none 0 0] 26 (0,0)) (u1_ BK1) hb);have NB0_1:=A0_ ((oT:g≠gb1));have NB1_0:=A0_ (Ne.symm NB0_1.out);clear HB BK1;have HI0:=n0_;have HK:=n1_;have HB:=n2_;have BK1:=m769_;clear m769_ n0_ n1_ n2_ hb hbox hg)|((with_reducible refine gc_ (f:=62) rfl ?_);refine gl_ 10 Tryd.func62 #[.pointer (some ⟨g,0,none⟩)] ?_;(with_reducible refine (ae.calls k g l0 0 0 t1 t2 t3 t4 t5 w _ ?_ ?_ A2.out).mono ?_);exact dg;exact dG;rintro e w2 ⟨v1,rfl,ho0,hi,hb,hk⟩;refine ⟨_,rfl,?_⟩;replace BK1:=da BK1 hk NB1_0;have HO1:=A0_ (Kd.R_lower ho0 (cr (w:=wB) (g:=g) (row:=none) cU));replace HK:=A0_ (ah.trans cU hk (.inl rfl));replace HB:=A0_ (hb);replace HI0:=A0_ (hi);(try clear hb hk hi ho0))|((with_reducible refine gd_ (N:=5) rfl ?_);refine bx_ 5 #[.int .i64 0,.bool false,.slice none 0 0] 26 ?_;intro gb2 hg w3 BK2 hb;replace HO1:=q1_ HO1 hb;replace HB:=hb_ hb dG;have GW2:=A0_ ((nP:wB.heap.size≤gb2));have GE2:=A0_ ((Nat.le_trans HW0.out (nP:wB.heap.size≤gb2):w.heap.size≤gb2));replace HK:=A0_ (ah.trans cU (ah.of_below hb g none) (.inl rfl));obtain ⟨NB1_2,NB2_1⟩:=nn_ hg BK1;replace BK1:=k1_ BK1 hb;have NB0_2:=A0_ ((rt:g≠gb2));have NB2_0:=A0_ ((ru:gb2≠g));replace HI0:=A0_ (al.below dg hb);clear hb hg;obtain ⟨hnb1,hnc1⟩:=n2_ NB2_1;obtain ⟨hnb2,hnc2⟩:=n2_ NB2_0;have hcz1:=z3_ BK2;obtain ⟨Ao1,co1,eo1⟩:=Kd.R_slice HO1.out;subst eo1))
 have n0_:Aside0 (Kd.R (Kd.int .i64) 3 (((w3.setCell ⟨gb2,0,none⟩ (.int .i64 t1)).setCell ⟨gb2,1,none⟩ (.bool t2)).setCell ⟨gb2,2,none⟩ (.slice Ao1 t3.length co1)) wB.heap.size (fun _=>True) (.slice Ao1 t3.length co1) t3):=⟨kj⟩;have n1_:Aside0 ((((w3.setCell ⟨gb2,0,none⟩ (.int .i64 t1)).setCell ⟨gb2,1,none⟩ (.bool t2)).setCell ⟨gb2,2,none⟩ (.slice Ao1 t3.length co1)).heap[gb1]?=some (.cells #[.int .i64 0,.bool false,.slice none 0 0] 26 (0,0))):=⟨u1_ BK1⟩;have n2_:Aside0 ((((w3.setCell ⟨gb2,0,none⟩ (.int .i64 t1)).setCell ⟨gb2,1,none⟩ (.bool t2)).setCell ⟨gb2,2,none⟩ (.slice Ao1 t3.length co1)).heap[gb2]?=some (.cells #[.int .i64 t1,.bool t2,.slice Ao1 t3.length co1] 26 (0,0))):=⟨u1_ BK2⟩;have n3_:Aside0 (al w (((w3.setCell ⟨gb2,0,none⟩ (.int .i64 t1)).setCell ⟨gb2,1,none⟩ (.bool t2)).setCell ⟨gb2,2,none⟩ (.slice Ao1 t3.length co1)) g l0 t4 t5):=⟨bQ⟩;have n4_:Aside0 (ah wB (((w3.setCell ⟨gb2,0,none⟩ (.int .i64 t1)).setCell ⟨gb2,1,none⟩ (.bool t2)).setCell ⟨gb2,2,none⟩ (.slice Ao1 t3.length co1)) g none):=⟨bV⟩;have n5_:Aside0 (Below w.heap.size w (((w3.setCell ⟨gb2,0,none⟩ (.int .i64 t1)).setCell ⟨gb2,1,none⟩ (.bool t2)).setCell ⟨gb2,2,none⟩ (.slice Ao1 t3.length co1))):=⟨ce⟩
 (try clear HO1)
 (try clear BK1)
 (try clear BK2)
 (try clear HI0)
 (try clear HK)
 (try clear HB)
 generalize (((w3.setCell ⟨gb2,0,none⟩ (.int .i64 t1)).setCell ⟨gb2,1,none⟩ (.bool t2)).setCell ⟨gb2,2,none⟩ (.slice Ao1 t3.length co1))=w4 at n0_ n1_ n2_ n3_ n4_ n5_ ⊢;have HO1:=n0_;have BK1:=n1_;have BK2:=n2_;have HI0:=n3_;have HK:=n4_;have HB:=n5_;clear n0_ n1_ n2_ n3_ n4_ n5_;replace HO1:=A0_ (rd_ HO1.out);replace BK1:=A0_ (kd_ BK1.out);replace BK2:=A0_ (kd_ BK2.out);replace HI0:=A0_ (al.drew HI0.out);replace HK:=A0_ (dD HK.out);replace HB:=A0_ (bd_ HB.out)
 refine dh (n:=5) (S:=fun w'=>w'.cell? ⟨gb2,0,none⟩=some (.int .i64 t1)∧w'.cell? ⟨gb2,1,none⟩=some (.bool t2)∧w'.cell? ⟨gb2,2,none⟩=some (.slice Ao1 t3.length co1)) (ds:=[]) #[false,false,false,false,false] bS rfl rfl (c3_ BK2) (fun hHeld=>?_)
 generalize w4.drew=w5 at HO1 BK1 BK2 HI0 HK HB hHeld ⊢
 refine pu_ 1 12 ?_
 refine tk_ 0 11 hHeld ?_
 refine on_ 2 (some 13) (fun K hK=>?_)
 refine gs_ Tryd.func63 #[.pointer (some ⟨g,0,none⟩)] ?_
 with_reducible refine (cu.calls g l0 t4 t5 t6 t7 t8 w _ ?_ ?_ A4.out).mono ?_
 exact bQ
 exact ce
 rintro e w6 ⟨rfl,hi,hb,hk⟩
 refine ⟨_,rfl,?_⟩
 replace BK1:=da BK1 hk NB1_0;replace HO1:=A0_ (Kd.R_mono (Kd.R_keep (al.apart (show al w _ g l0 t4 t5 from bQ) bR ao) hk (fun _ h=>h.2)) (fun _ h=>h.1));replace BK2:=da BK2 hk NB2_0;replace HK:=A0_ (ah.trans bV hk (.inl rfl));replace HB:=A0_ (hb);replace HI0:=A0_ (hi)
 (try clear hb hk hi)
 refine hK.out _ _ (c3_ BK2) (fun hHeld=>?_)
 clear hK K
 refine nm_ 13 ?_
 refine on_ 3 none (fun K hK=>?_)
 have hs14:=y_ BK1 0;have hfs14:=kf_ BK1.out 0;obtain ⟨hns1_1,hms1_1⟩:=n2_ NB2_1;have hs15:=y_ BK1 1;have hfs15:=kf_ BK1.out 1;obtain ⟨hns2_1,hms2_1⟩:=n2_ NB2_1;have hs16:=y_ BK1 2;have hfs16:=kf_ BK1.out 2;obtain ⟨hns3_1,hms3_1⟩:=n2_ NB2_1
 refine fF (w1:=?_) (by rfl) rfl ?_ ?_
 rotate_left
 ·go_simp
  rfl
 refine hK.out _ _ ⟨((av (p:=⟨gb1,_,none⟩) NB2_1.out _).trans (((av (p:=⟨gb1,_,none⟩) NB2_1.out _).trans (((av (p:=⟨gb1,_,none⟩) NB2_1.out _).trans (hHeld.1)))))),((av (p:=⟨gb1,_,none⟩) NB2_1.out _).trans (((av (p:=⟨gb1,_,none⟩) NB2_1.out _).trans (((av (p:=⟨gb1,_,none⟩) NB2_1.out _).trans (hHeld.2.1)))))),((av (p:=⟨gb1,_,none⟩) NB2_1.out _).trans (((av (p:=⟨gb1,_,none⟩) NB2_1.out _).trans (((av (p:=⟨gb1,_,none⟩) NB2_1.out _).trans (hHeld.2.2))))))⟩ (fun hHeld=>?_)
 clear hK K
 refine pu_ 4 3 ?_
 refine gU bS ?_
 try go_wp2
 refine bodyPost_ret (cY rfl _ _ gb1 26 #[.int .i64 t1,.bool t2,.slice Ao1 t3.length co1] (0,0) _ rfl (u1_ BK1) Tryd.underlying26 rfl bS) rfl ?_
 exact ⟨_,bc,by (with_reducible repeat (first|apply ra_|apply rn_|apply rd_));exact Kd.R_lower (Kd.R_mono (cf (Kd.R_types HO1.out BK1.out ao)) (fun _ hk=>trivial)) HW0.out,ce⟩


def aa.lo (S:Int→Option Bool) (n:Int) (ring:Bool) (t g:Int) (k:Nat):List Int→Bool→Option Bool
 | [],b=>some b
 | p :: ps,b=>if b=true then aa.lo S n ring t g k ps true else (a8.f k n ring t g p).bind fun q=>if 0≤q∧q<4294967296 then (S q).bind fun m=>aa.lo S n ring t g k ps (!m) else none
def aa.le (k:Nat) (n:Int) (ring:Bool) (g:Int):Nat→Int→Option Bool
 | 0,_=>none
 | d+1,t=>(aG.f k n ring t g).bind fun ps=>if ps.length≤12 then aa.lo (aa.le k n ring g d) n ring t g k ps (decide (ps.length=0)) else none
def aa.f (k:Nat) (a0_0:Int) (a0_1:Bool) (l0_2:List Int) (a1:Int):Option (Bool × Bool):=(bf.f k a0_0 a0_1 l0_2 a1).bind fun b=>if b=true then (if a0_0 > 12 then some (false,false) else (a7.f k a0_0 a0_1 l0_2).bind fun t=>if 0≤t∧t<4294967296 then (aa.le k a0_0 a0_1 a1 13 t).bind fun r=>some (r,true) else none) else some (false,false)
theorem aa.lo_mono {S S':Int→Option Bool} (hS:∀ t,LeO (S t) (S' t)) (n:Int) (ring:Bool) (t g:Int) (k k':Nat) (hk:∀ p,LeO (a8.f k n ring t g p) (a8.f k' n ring t g p)):∀ ps b,LeO (aa.lo S n ring t g k ps b) (aa.lo S' n ring t g k' ps b)
 | [],_=>LeO.refl _
 | p :: ps,b=>by
  simp only [aa.lo]
  exact LeO.ite (aa.lo_mono hS n ring t g k k' hk ps _) (LeO.bind (hk p) fun _=>LeO.ite (LeO.bind (hS _) fun _=>aa.lo_mono hS n ring t g k k' hk ps _) (LeO.refl _))
theorem aa.le_mono (k:Nat) (n:Int) (ring:Bool) (g:Int):∀ d t,LeO (aa.le k n ring g d t) (aa.le (k+1) n ring g d t)
 | 0,_=>LeO.none _
 | d+1,t=>by
  simp only [aa.le]
  exact LeO.bind (aG.mono _ _ _ _ _) fun _=>LeO.ite (aa.lo_mono (aa.le_mono k n ring g d) _ _ _ _ _ _ (fun _=>a8.mono _ _ _ _ _ _) _ _) (LeO.refl _)
theorem aa.le_up (k:Nat) (n:Int) (ring:Bool) (g:Int):∀ d t,LeO (aa.le k n ring g d t) (aa.le k n ring g (d+1) t)
 | 0,_=>LeO.none _
 | d+1,t=>by
  rw [aa.le,aa.le]
  exact LeO.bind (LeO.refl _) fun _=>LeO.ite (aa.lo_mono (aa.le_up k n ring g d) _ _ _ _ _ _ (fun _=>LeO.refl _) _ _) (LeO.refl _)
theorem aa.le_add {k:Nat} {n:Int} {ring:Bool} {g:Int} {d:Nat} {t:Int} {v:Bool} (h:aa.le k n ring g d t=some v):∀ m,aa.le k n ring g (d+m) t=some v
 | 0=>h
 | m+1=>aa.le_up k n ring g (d+m) t v (aa.le_add h m)
theorem aa.le_same {k:Nat} {n:Int} {ring:Bool} {g:Int} {d d':Nat} {t:Int} {v v':Bool} (h:aa.le k n ring g d t=some v) (h':aa.le k n ring g d' t=some v'):v=v':=by
 have h1:=aa.le_add h d';have h2:=aa.le_add h' d;rw [Nat.add_comm] at h2
 exact si_ (h1.symm.trans h2)
theorem aa.mono:∀ a0 a1 a2 a3 k,LeO (aa.f k a0 a1 a2 a3) (aa.f (k+1) a0 a1 a2 a3):=by
 intro a0 a1 a2 a3 k;unfold aa.f
 exact LeO.bind (bf.mono _ _ _ _ _) fun _=>LeO.ite (LeO.ite (LeO.refl _) (LeO.bind (a7.mono _ _ _ _) fun _=>LeO.ite (LeO.bind (aa.le_mono _ _ _ _ _ _) fun _=>LeO.refl _) (LeO.refl _))) (LeO.refl _)
def aa.U:Nat→Nat
 | 0=>0
 | d+1=>12 * aa.U d+1
theorem aa.law:Maps.Keyed Tryd.prog 58:=Maps.int_keyed Tryd.underlying58
theorem aa.zeroE (w:World):(zeroValue 4).run Tryd.prog w=.ok (.bool false) w:=by rfl
theorem aa.grown {w w':World} (h:Below w.heap.size w w') (row:Option Nat):w.grownBy w' row:=⟨h.os,h.tape,h.output,h.size,fun k hk _=>h.block k hk⟩
theorem aa.bool_inv {H:Type} {P:Program} {e:TypeId} (he:P.underlying e=some .bool) {v:Value} {z:DataW H × List MemPlace} (h:plainElem P e v=some z):∃ x,v=.bool x∧z.1=.lit (.bool x):=by
 unfold plainElem at h;rw [he] at h
 cases v <;> simp at h
 subst h
 exact ⟨_,rfl,rfl⟩
theorem aa.look {H:Type} {P:Program} (w:World) {ops:Array Oper} {rest:List Oper} {o:Oper} {a:Act} {Q:Exit→Act→World→Prop}
  (hg:o.guard=none) (m x:Operand) (t:TypeId) (hop:o.op=Op.lookup t m x true)
  (k e:TypeId) (K:Maps.Keyed P k) (ht:P.underlying t=some (.map k e)) (he:P.underlying e=some .bool) (hz:(zeroValue e).run P w=.ok (.bool false) w) (b n:Nat) (D:DataW H)
  (hm:a.eval m=.map (some b)) (hown:w.ownsMap P k (plainElem P e) b n D) (key:Value) (kl:Lit) (hx:a.eval x=key) (hkey:keyOf P k key=some kl)
  (hK:∀ c:Bool,D.atKey kl (.lit (.bool false))=.lit (.bool c)→wpList P ops Q rest (a.put o.dst (.tuple #[.bool c,.bool (Maps.has D kl)])) w) :
  wpList P ops Q (o :: rest) a w :=
 wpList_lookup_own_ok w hg m x t hop k e K ht (plainElem P e) hz (.lit (.bool false)) [] (plainElem_bool he false) b n D hm hown key kl hx hkey (fun v ps hv=>by
  obtain ⟨c,rfl,hc⟩:=aa.bool_inv he hv
  exact hK c hc)
theorem aa.put_ok {D:DataW Unit} (hD:Maps.IsMap D) {t0:Int} {v:Bool} (hkl:WideAt.IsKeyLit (.int .u32 t0)) {Pv:Int→Bool→Prop}
  (h:∀ t c,Maps.has D (.int .u32 t)=true→D.atKey (.int .u32 t) (.lit (.bool false))=.lit (.bool c)→Pv t c) (hv:Pv t0 v) :
  ∀ t c,Maps.has (D.put (.int .u32 t0) (.lit (.bool v))) (.int .u32 t)=true→(D.put (.int .u32 t0) (.lit (.bool v))).atKey (.int .u32 t) (.lit (.bool false))=.lit (.bool c)→Pv t c:=by
 intro t c hh hat
 by_cases e:t=t0
 ·subst e
  rw [Maps.atKey_put_same hD hkl] at hat
  injection hat with hat
  injection hat with hat
  exact hat ▸ hv
 ·have hne:Lit.int .u32 t≠Lit.int .u32 t0:=fun h=>e (by injection h)
  rw [Maps.has_put_other hne] at hh;rw [Maps.atKey_put_other hne] at hat
  exact h t c hh hat
structure aa.Inv (k:Nat) (n:Int) (ring:Bool) (g:Int) (bm bv bb bg bl:Nat) (w0:World) (m:Nat) (w:World):Prop where
 below:Below w0.heap.size w0 w
 hm:w0.heap.size≤bm
 cv:w.heap[bv]?=some (.cells #[.map (some bm)] 82 (0,0))
 cb:w.heap[bb]?=some (.cells #[.int .i64 n,.bool ring] 61 (0,0))
 cg:w.heap[bg]?=some (.cells #[.int .i64 g] 3 (0,0))
 cl:w.heap[bl]?=some (.cells #[(.func (.func 64) #[] #[.pointer (some ⟨bv,0,none⟩),.pointer (some ⟨bb,0,none⟩),.pointer (some ⟨bg,0,none⟩),.pointer (some ⟨bl,0,none⟩)])] 83 (0,0))
 map:∃ D:DataW Unit,w.ownsMap Tryd.prog 58 (plainElem Tryd.prog 4) bm m D∧∀ t c,Maps.has D (.int .u32 t)=true→D.atKey (.int .u32 t) (.lit (.bool false))=.lit (.bool c)→∃ d,aa.le k n ring g d t=some c
section
variable {k:Nat} {n:Int} {ring:Bool} {g:Int} {bm bv bb bg bl:Nat} {w0:World} {m:Nat} {w w':World}
theorem aa.ne_map {H:Type} {P:Program} {q:TypeId} {R:Value→Option (DataW H × List MemPlace)} {D:DataW H} {g:Nat} {cs:Array Value} {t:TypeId} (h:w.ownsMap P q R bm m D) (hc:w.heap[g]?=some (.cells cs t (0,0))):some g≠some bm:=by
 rintro e;obtain rfl:=si_ e;obtain ⟨es,clock,hb,_⟩:=h;rw [hb] at hc;cases hc
theorem aa.Inv.turn (h:aa.Inv k n ring g bm bv bb bg bl w0 m w) (hg:w.grownBy w' (some bm)) {m':Nat} (hmap:∃ D:DataW Unit,w'.ownsMap Tryd.prog 58 (plainElem Tryd.prog 4) bm m' D∧∀ t c,Maps.has D (.int .u32 t)=true→D.atKey (.int .u32 t) (.lit (.bool false))=.lit (.bool c)→∃ d,aa.le k n ring g d t=some c):aa.Inv k n ring g bm bv bb bg bl w0 m' w':=by
 obtain ⟨D,hown,_⟩:=h.map
 exact ⟨h.below.grown hg h.below.size (fun j hj=>by cases hj;exact h.hm),h.hm,a6 h.cv hg (aa.ne_map hown h.cv),a6 h.cb hg (aa.ne_map hown h.cb),a6 h.cg hg (aa.ne_map hown h.cg),a6 h.cl hg (aa.ne_map hown h.cl),hmap⟩
theorem aa.Inv.step (h:aa.Inv k n ring g bm bv bb bg bl w0 m w) (hb:Below w.heap.size w w'):aa.Inv k n ring g bm bv bb bg bl w0 m w':=by
 obtain ⟨D,hown,h2⟩:=h.map
 exact h.turn (aa.grown hb _) ⟨D,hown.kept (aa.grown hb none) bx,h2⟩
theorem aa.Inv.up (h:aa.Inv k n ring g bm bv bb bg bl w0 m w) {m':Nat} (hn:m≤m'):aa.Inv k n ring g bm bv bb bg bl w0 m' w:=by
 obtain ⟨D,hown,h2⟩:=h.map
 exact ⟨h.below,h.hm,h.cv,h.cb,h.cg,h.cl,D,hown.mono hn,h2⟩
end
theorem aa.won (k:Nat) (n:Int) (ring:Bool) (g:Int) (bm bv bb bg bl:Nat) (w0:World) :
  ∀ (d:Nat) (t:Int) (v:Bool) (m:Nat) (w:World),aa.le k n ring g d t=some v→0≤t→t<4294967296→aa.Inv k n ring g bm bv bb bg bl w0 m w→m+aa.U d<maxLen →
   Calls Tryd.prog 64 #[.int .u32 t,.pointer (some ⟨bv,0,none⟩),.pointer (some ⟨bb,0,none⟩),.pointer (some ⟨bg,0,none⟩),.pointer (some ⟨bl,0,none⟩)] w fun e w'=>e=.returned (.bool v)∧aa.Inv k n ring g bm bv bb bg bl w0 (m+aa.U d) w'∧w.grownBy w' (some bm):=by
 intro d
 induction d with
 | zero=>intro t v m w h;exact absurd h (by simp [aa.le])
 | succ d ih =>
  intro t v m w h ht0 ht1 hi hn;obtain ⟨D,hmap,hval⟩:=hi.map
  have hwf:(Lit.int .u32 t).wf=true:=by
   have hmin:IntKind.u32.min=0:=rfl;have hmax:IntKind.u32.max=4294967295:=rfl;simp only [Lit.wf,Bool.and_eq_true,decide_eq_true_eq]
   omega
  have hkey:keyOf Tryd.prog 58 (.int .u32 t)=some (.int .u32 t):=Maps.keyOf_int_mk Tryd.underlying58 hwf;have cv:w.cell? ⟨bv,0,none⟩=some (.map (some bm)):=(kc_ hi.cv 0).trans rfl
  by_cases hh:Maps.has D (.int .u32 t)=true
  ·go_enter Tryd.func64,Tryd.ntmps64
   go_wp2_with (at_lookup;refine aa.look _ rfl _ _ 82 rfl 58 4 aa.law Tryd.underlying82 Tryd.underlying4 (aa.zeroE _) bm m D rfl hmap _ _ rfl hkey ?_;intro c hat)
   go_ret
   obtain ⟨d',hd'⟩:=hval t c hh hat
   exact ⟨by rw [aa.le_same h hd'];rfl,hi.up (Nat.le_add_right _ _),World.grownBy.refl _ _⟩
  ·have hh':Maps.has D (.int .u32 t)=false:=by simpa using hh
   clear hh;have h0:=h;simp only [aa.le] at h;obtain ⟨ps,hps,h⟩:=ob_.mp h
   by_cases hl:ps.length≤12
   ·rw [if_pos hl] at h
    have cb0:w.cell? ⟨bb,0,none⟩=some (.int .i64 n):=(kc_ hi.cb 0).trans rfl;have cb1:w.cell? ⟨bb,1,none⟩=some (.bool ring):=(kc_ hi.cb 1).trans rfl;have cg0:w.cell? ⟨bg,0,none⟩=some (.int .i64 g):=(kc_ hi.cg 0).trans rfl;go_enter Tryd.func64,Tryd.ntmps64
    go_wp2_with (first
     | (at_lookup;refine aa.look _ rfl _ _ 82 rfl 58 4 aa.law Tryd.underlying82 Tryd.underlying4 (aa.zeroE _) bm m D rfl hmap _ _ rfl hkey ?_;intro c hat)
     | ((with_reducible refine gc_ (f:=54) rfl ?_);refine gl_ 24 Tryd.func54 #[.agg #[.int .i64 n,.bool ring],.int .u32 t,.int .i64 g] ?_;refine (aG.calls k n ring t g ps _ hps).mono ?_;rintro e w1 ⟨v1,rfl,ho,hb5⟩;obtain ⟨Ao,co,rfl⟩:=Kd.R_slice ho;have hi5:=hi.step hb5;have hRo:=Kd.R_mono (ok':=fun q=>some q≠some bm) (Kd.R_bound ho) (fun q hq e=>by have h1:=hmap.lt;have h4:=hq.2.1;have h5:=si_ e;omega);refine ⟨_,rfl,?_⟩))
    go_loopw [10,30] (fun v2 v3 wr=>∃ (j:Nat) (b:Bool),v2=.bool b∧v3=.int .i64 (j:Int)∧j≤ps.length∧aa.lo (aa.le k n ring g d) n ring t g k (ps.drop j) b=some v∧aa.Inv k n ring g bm bv bb bg bl w0 (m+j * aa.U d) wr∧Kd.R (Kd.int .i64) 3 wr w.heap.size (fun q=>some q≠some bm) (.slice Ao ps.length co) ps∧w1.grownBy wr (some bm)) (fun _ v3 _=>ps.length - (intOf v3).toNat)
    case atStart=>exact ⟨0,decide (ps.length=0),by (first|rfl|(congr 1;rw [Bool.eq_iff_iff];simp)|simp),rfl,Nat.zero_le _,by rw [List.drop_zero];exact h,by rw [Nat.zero_mul];exact hi5,hRo,World.grownBy.refl _ _⟩
    case round =>
     obtain ⟨j,b,rfl,rfl,hj,hlo,hij,hRj,hgj⟩:=hrel
     by_cases hjl:j<ps.length
     ·have p1:(0:Int)≤(j:Int):=Int.natCast_nonneg _
      have q1:(j:Int)<(ps.length:Int):=by omega
      obtain ⟨ad,e,hx⟩:=Kd.at_int (rr_ hRj).2.2 (j:Int) p1 q1;cases e
      have hrd:rd ps (j:Int)=ps[j]:=by simp [rd,hjl]
      obtain ⟨p,hp⟩:∃ p,rd ps (j:Int)=p:=⟨_,rfl⟩;rw [hp] at hx hrd;rw [List.drop_eq_getElem_cons hjl,← hrd] at hlo;clear hrd hp
      have hx':wr.cell? (ad.add j)=some (.int .i64 p):=by simpa using hx
      simp only [aa.lo] at hlo
      have hU:j * aa.U d+aa.U d≤12 * aa.U d:=by
       rw [← Nat.succ_mul]
       exact Nat.mul_le_mul_right _ bL
      have hUd:aa.U (d+1)=12 * aa.U d+1:=rfl;have p1b:=eq_true p1;have q1b:=eq_true q1;have hi8:=hij.step (Below.drew (Below.refl wr.heap.size wr))
      cases b with
      | true =>
       rw [if_pos rfl] at hlo
       try go_wp2
       refine dh (n:=12) (S:=fun w'=>True) (ds:=[]) #[false,false,false,false,false,false,false,false,false,false,false,false] bS rfl rfl trivial (fun hHeld=>?_)
       refine pu_ 0 34 ?_
       refine pu_ 1 35 ?_
       refine pv_ 2 36 ?_
       refine pv_ 3 37 ?_
       refine pv_ 4 38 ?_
       refine pv_ 5 39 ?_
       refine pv_ 6 40 ?_
       refine pv_ 7 41 ?_
       refine pv_ 8 42 ?_
       refine pv_ 9 43 ?_
       refine pu_ 10 44 ?_
       refine pu_ 11 10 ?_
       refine gU bS ?_
       go_wp2
       go_roundw
       case rel=>exact ⟨j+1,true,rfl,bx,bL,hlo,by rw [Nat.succ_mul,← Nat.add_assoc];exact hi8.up (Nat.le_add_right _ _),rd_ hRj,hgj.trans (aa.grown (Below.drew (Below.refl wr.heap.size wr)) (some bm))⟩
       case measure=>simp [intOf];omega
      | false =>
       rw [if_neg bx] at hlo;obtain ⟨q,hq,hlo1⟩:=ob_.mp hlo
       have hqr:0≤q∧q<4294967296:=by
        by_cases hqr:0≤q∧q<4294967296
        ·exact hqr
        ·rw [if_neg hqr] at hlo1
         cases hlo1
       rw [if_pos hqr] at hlo1;obtain ⟨x,hx1,hlo2⟩:=ob_.mp hlo1;clear hlo hlo1
       try go_wp2
       refine dh (n:=12) (S:=fun w'=>w'.cell? ⟨bl,0,none⟩=some (.func (.func 64) #[] #[.pointer (some ⟨bv,0,none⟩),.pointer (some ⟨bb,0,none⟩),.pointer (some ⟨bg,0,none⟩),.pointer (some ⟨bl,0,none⟩)])∧w'.cell? ⟨bb,0,none⟩=some (.int .i64 n)∧w'.cell? ⟨bb,1,none⟩=some (.bool ring)∧w'.cell? ⟨bg,0,none⟩=some (.int .i64 g)) (ds:=[]) #[false,false,false,false,false,false,false,false,false,false,false,false] bS rfl rfl ⟨(kc_ hi8.cl 0).trans rfl,(kc_ hi8.cb 0).trans rfl,(kc_ hi8.cb 1).trans rfl,(kc_ hi8.cg 0).trans rfl⟩ (fun hHeld=>?_)
       refine pu_ 0 34 ?_
       refine pu_ 1 35 ?_
       refine pu_ 4 38 ?_
       refine pu_ 6 40 ?_
       refine tk_ 2 36 hHeld ?_
       refine tk_ 3 37 hHeld ?_
       refine tk_ 5 39 hHeld ?_
       refine on_ 7 (some 41) (fun K hK=>?_)
       refine gs_ Tryd.func55 #[.agg #[.int .i64 n,.bool ring],.int .u32 t,.int .i64 g,.int .i64 p] ?_
       refine (a8.calls k n ring t g p q _ hq).mono ?_
       rintro e w2 ⟨rfl,hb9⟩
       refine ⟨_,rfl,?_⟩
       have hi9:=hi8.step hb9
       refine hK.out _ _ ⟨(kc_ hi9.cl 0).trans rfl,(kc_ hi9.cb 0).trans rfl,(kc_ hi9.cb 1).trans rfl,(kc_ hi9.cg 0).trans rfl⟩ (fun hHeld=>?_)
       clear hK K
       refine nm_ 41 ?_
       refine on_ 8 (some 42) (fun K hK=>?_)
       refine pj 64 #[.int .u32 q,.pointer (some ⟨bv,0,none⟩),.pointer (some ⟨bb,0,none⟩),.pointer (some ⟨bg,0,none⟩),.pointer (some ⟨bl,0,none⟩)] (by rfl) rfl ?_ ?_
       ·have he:=jX (P:=Tryd.prog) Tryd.func64 bS rfl #[.int .u32 q,.pointer (some ⟨bv,0,none⟩),.pointer (some ⟨bb,0,none⟩),.pointer (some ⟨bg,0,none⟩),.pointer (some ⟨bl,0,none⟩)] w2
        unfold execOp
        simp [resolve,Deferred.ofValue,invoke,Act.eval,he]
       refine (ih q x (m+j * aa.U d) _ hx1 hqr.1 hqr.2 hi9 bL).mono ?_
       rintro e w3 ⟨rfl,hi10,hg10⟩
       refine ⟨_,rfl,?_⟩
       refine hK.out _ _ ⟨(kc_ hi10.cl 0).trans rfl,(kc_ hi10.cb 0).trans rfl,(kc_ hi10.cb 1).trans rfl,(kc_ hi10.cg 0).trans rfl⟩ (fun hHeld=>?_)
       clear hK K
       refine nm_ 42 ?_
       refine pu_ 9 43 ?_
       refine pu_ 10 44 ?_
       refine pu_ 11 10 ?_
       refine gU bS ?_
       go_wp2
       go_roundw
       case rel=>exact ⟨j+1,!x,rfl,bx,bL,hlo2,by rw [Nat.succ_mul,← Nat.add_assoc];exact hi10,Kd.R_grown (Kd.R_below (rd_ hRj) hb9) hg10 (fun _ hq=>hq),(hgj.trans (aa.grown (bt_ (Below.drew (Below.refl wr.heap.size wr)) hb9) (some bm))).trans hg10⟩
       case measure=>simp [intOf];omega
     ·have hje:j=ps.length:=by omega
      subst hje;rw [List.drop_length] at hlo;simp only [aa.lo,sj_] at hlo;subst hlo;obtain ⟨D',hmap',hval'⟩:=hij.map;have cv':wr.cell? ⟨bv,0,none⟩=some (.map (some bm)):=(kc_ hij.cv 0).trans rfl;have hU:ps.length * aa.U d≤12 * aa.U d:=Nat.mul_le_mul_right _ hl;have hUd:aa.U (d+1)=12 * aa.U d+1:=rfl
      go_wp2_with (at_mapUpdate;refine wpList_mapUpdate_own _ rfl _ _ _ 82 rfl 58 4 aa.law Tryd.underlying82 _ bm (m+ps.length * aa.U d) D' rfl hmap' bL _ _ _ rfl rfl hkey _ [] (plainElem_bool Tryd.underlying4 _) ?_;intro w2 hmap6 hg6)
      go_ret
      exact ⟨rfl,hij.turn hg6 ⟨_,hmap6.mono bL,aa.put_ok hmap'.isMap (aa.law.key hkey) hval' ⟨d+1,h0⟩⟩,(aa.grown hb5 (some bm)).trans (hgj.trans hg6)⟩
   ·rw [if_neg hl] at h
    cases h
theorem aa.made (k:Nat) (n:Int) (ring:Bool) (g:Int) (w w4:World) (bg:Nat) (hb:Below w.heap.size w w4) (hg:w4.heap[bg]?=some (.cells #[.int .i64 g] 3 (0,0))) :
  aa.Inv k n ring g w4.heap.size (w4.heap.size+1+1) (w4.heap.size+1) bg (w4.heap.size+1+1+1) w 0 ((((w4.alloc (Obj.map #[] 0)).alloc (Obj.cells #[.int .i64 n,.bool ring] 61)).alloc (Obj.cells #[.map (some w4.heap.size)] 82)).alloc (Obj.cells #[(.func (.func 64) #[] #[.pointer (some ⟨w4.heap.size+1+1,0,none⟩),.pointer (some ⟨w4.heap.size+1,0,none⟩),.pointer (some ⟨bg,0,none⟩),.pointer (some ⟨w4.heap.size+1+1+1,0,none⟩)])] 83)):=by
 refine ⟨ba_ (ba_ (ba_ (ba_ hb _) _) _) _,hb.size,?_,?_,ka_ (ka_ (ka_ (ka_ hg _) _) _) _,?_,.map [],?_,fun t c hh=>by simp [Maps.has] at hh⟩
 ·exact ka_ (by simpa using fK ((w4.alloc (Obj.map #[] 0)).alloc (Obj.cells #[.int .i64 n,.bool ring] 61)) (Obj.cells #[.map (some w4.heap.size)] 82)) _
 ·exact ka_ (ka_ (by simpa using fK (w4.alloc (Obj.map #[] 0)) (Obj.cells #[.int .i64 n,.bool ring] 61)) _) _
 ·simpa using fK (((w4.alloc (Obj.map #[] 0)).alloc (Obj.cells #[.int .i64 n,.bool ring] 61)).alloc (Obj.cells #[.map (some w4.heap.size)] 82)) (Obj.cells #[(.func (.func 64) #[] #[.pointer (some ⟨w4.heap.size+1+1,0,none⟩),.pointer (some ⟨w4.heap.size+1,0,none⟩),.pointer (some ⟨bg,0,none⟩),.pointer (some ⟨w4.heap.size+1+1+1,0,none⟩)])] 83)
 ·exact ((((World.ownsMap_made w4 _ _ _).alloc _).alloc _).alloc _)
theorem aa.calls (k:Nat) (a0_0:Int) (a0_1:Bool) (A0_2:Option Addr) (c0_2:Nat) (l0_2:List Int) (a1:Int) (r1:Bool) (r2:Bool) (w:World) (hr0_2:Kd.C (Kd.int .i64) w A0_2 l0_2.length l0_2) (hc0_2:l0_2.length≤c0_2) (h:aa.f k a0_0 a0_1 l0_2 a1=some (r1,r2)) :
  Calls Tryd.prog 30 #[.agg #[.int .i64 a0_0,.bool a0_1,.slice A0_2 l0_2.length c0_2],.int .i64 a1] w fun e w'=>e=.returned (.tuple #[.bool r1,.bool r2])∧Below w.heap.size w w':=by
 obtain ⟨b,hb,h1⟩:=ob_.mp (show (bf.f k a0_0 a0_1 l0_2 a1).bind _=some (r1,r2) from h);clear h;have hmm:=@run_makeMap Tryd.prog
 by_cases hbt:b=true
 case neg =>
  have hbf:b=false:=by simpa using hbt
  subst hbf;rw [if_neg bx] at h1;simp only [sj_,pj_] at h1;obtain ⟨rfl,rfl⟩:=h1;go_enter Tryd.func30,Tryd.ntmps30
  go_wp2_with (first|((with_reducible refine gc_ (f:=41) rfl ?_);refine gl_ 11 Tryd.func41 #[.agg #[.int .i64 a0_0,.bool a0_1,.slice A0_2 l0_2.length c0_2],.int .i64 a1] ?_;refine (bf.calls k a0_0 a0_1 _ _ l0_2 a1 false _ pd hc0_2 hb).mono ?_;rintro e w1 ⟨rfl,hb3⟩;have hrw3:w1.heap[w.heap.size]?=some (.cells #[.int .i64 a0_0,.bool a0_1,.slice A0_2 l0_2.length c0_2] 26 (0,0)):=kb_ (ka_ (fK w _) _) hb3;have hrg3:w1.heap[w.heap.size+1]?=some (.cells #[.int .i64 a1] 3 (0,0)):=pc;have cq0:w1.cell? ⟨w.heap.size,0,none⟩=some (.int .i64 a0_0):=(kc_ hrw3 0).trans rfl;have cq1:w1.cell? ⟨w.heap.size,1,none⟩=some (.bool a0_1):=(kc_ hrw3 1).trans rfl;have cq2:w1.cell? ⟨w.heap.size,2,none⟩=some (.slice A0_2 l0_2.length c0_2):=(kc_ hrw3 2).trans rfl;have hbw3:Below w.heap.size w w1:=bt_ (ba_ (ba_ (Below.refl _ _) _) _) hb3;refine ⟨_,rfl,?_⟩))
  go_ret2
  exact ⟨rfl,bt_ (ba_ (ba_ (Below.refl _ _) _) _) hb3⟩
 subst hbt;rw [if_pos rfl] at h1
 by_cases c1:a0_0 > 12
 ·rw [if_pos c1] at h1
  simp only [sj_,pj_] at h1;obtain ⟨rfl,rfl⟩:=h1;have c12b:decide (a0_0 > 12)=true:=dt_ c1;go_enter Tryd.func30,Tryd.ntmps30
  go_wp2_with (first|((with_reducible refine gc_ (f:=41) rfl ?_);refine gl_ 11 Tryd.func41 #[.agg #[.int .i64 a0_0,.bool a0_1,.slice A0_2 l0_2.length c0_2],.int .i64 a1] ?_;refine (bf.calls k a0_0 a0_1 _ _ l0_2 a1 true _ pd hc0_2 hb).mono ?_;rintro e w1 ⟨rfl,hb3⟩;have hrw3:w1.heap[w.heap.size]?=some (.cells #[.int .i64 a0_0,.bool a0_1,.slice A0_2 l0_2.length c0_2] 26 (0,0)):=kb_ (ka_ (fK w _) _) hb3;have hrg3:w1.heap[w.heap.size+1]?=some (.cells #[.int .i64 a1] 3 (0,0)):=pc;have cq0:w1.cell? ⟨w.heap.size,0,none⟩=some (.int .i64 a0_0):=(kc_ hrw3 0).trans rfl;have cq1:w1.cell? ⟨w.heap.size,1,none⟩=some (.bool a0_1):=(kc_ hrw3 1).trans rfl;have cq2:w1.cell? ⟨w.heap.size,2,none⟩=some (.slice A0_2 l0_2.length c0_2):=(kc_ hrw3 2).trans rfl;have hbw3:Below w.heap.size w w1:=bt_ (ba_ (ba_ (Below.refl _ _) _) _) hb3;refine ⟨_,rfl,?_⟩))
  go_ret2
  exact ⟨rfl,bt_ (ba_ (ba_ (Below.refl _ _) _) _) hb3⟩
 rw [if_neg c1] at h1;have c12b:decide (a0_0 > 12)=false:=decide_eq_false c1;obtain ⟨T,hT,h2⟩:=ob_.mp h1
 by_cases hTr:0≤T∧T<4294967296
 case neg =>
  rw [if_neg hTr] at h2;cases h2
 rw [if_pos hTr] at h2;obtain ⟨v,hv,h3⟩:=ob_.mp h2;simp only [sj_,pj_] at h3;obtain ⟨rfl,rfl⟩:=h3;clear h1 h2;go_enter Tryd.func30,Tryd.ntmps30
 go_wp2_with (first|((with_reducible refine gc_ (f:=41) rfl ?_);refine gl_ 11 Tryd.func41 #[.agg #[.int .i64 a0_0,.bool a0_1,.slice A0_2 l0_2.length c0_2],.int .i64 a1] ?_;refine (bf.calls k a0_0 a0_1 _ _ l0_2 a1 true _ pd hc0_2 hb).mono ?_;rintro e w1 ⟨rfl,hb3⟩;have hrw3:w1.heap[w.heap.size]?=some (.cells #[.int .i64 a0_0,.bool a0_1,.slice A0_2 l0_2.length c0_2] 26 (0,0)):=kb_ (ka_ (fK w _) _) hb3;have hrg3:w1.heap[w.heap.size+1]?=some (.cells #[.int .i64 a1] 3 (0,0)):=pc;have cq0:w1.cell? ⟨w.heap.size,0,none⟩=some (.int .i64 a0_0):=(kc_ hrw3 0).trans rfl;have cq1:w1.cell? ⟨w.heap.size,1,none⟩=some (.bool a0_1):=(kc_ hrw3 1).trans rfl;have cq2:w1.cell? ⟨w.heap.size,2,none⟩=some (.slice A0_2 l0_2.length c0_2):=(kc_ hrw3 2).trans rfl;have hbw3:Below w.heap.size w w1:=bt_ (ba_ (ba_ (Below.refl _ _) _) _) hb3;refine ⟨_,rfl,?_⟩)|((with_reducible refine gc_ (f:=42) rfl ?_);refine gl_ 19 Tryd.func42 #[.agg #[.int .i64 a0_0,.bool a0_1,.slice A0_2 l0_2.length c0_2]] ?_;refine (bd.calls a0_0 a0_1 _ _ l0_2 a0_0 a0_1 _ (cb_ hr0_2 hbw3) hc0_2 rfl).mono ?_;rintro e w2 ⟨rfl,hb4⟩;have hrw4:=kb_ hrw3 hb4;have hrg4:=kb_ hrg3 hb4;have hbw4:=bt_ hbw3 hb4;refine ⟨_,rfl,?_⟩))
 have hi4:=aa.made k a0_0 a0_1 a1 w w2 (w.heap.size+1) hbw4 hrg4;have hrw5:=ka_ (ka_ (ka_ (ka_ hrw4 (Obj.map #[] 0)) (Obj.cells #[.int .i64 a0_0,.bool a0_1] 61)) (Obj.cells #[.map (some w2.heap.size)] 82)) (Obj.cells #[(.func (.func 64) #[] #[.pointer (some ⟨w2.heap.size+1+1,0,none⟩),.pointer (some ⟨w2.heap.size+1,0,none⟩),.pointer (some ⟨w.heap.size+1,0,none⟩),.pointer (some ⟨w2.heap.size+1+1+1,0,none⟩)])] 83);have hi5:=hi4.step (Below.drew (Below.refl _ _))
 refine dh (n:=6) (S:=fun w'=>w'.cell? ⟨w2.heap.size+1+1+1,0,none⟩=some (.func (.func 64) #[] #[.pointer (some ⟨w2.heap.size+1+1,0,none⟩),.pointer (some ⟨w2.heap.size+1,0,none⟩),.pointer (some ⟨w.heap.size+1,0,none⟩),.pointer (some ⟨w2.heap.size+1+1+1,0,none⟩)])∧w'.cell? ⟨w.heap.size,0,none⟩=some (.int .i64 a0_0)∧w'.cell? ⟨w.heap.size,1,none⟩=some (.bool a0_1)∧w'.cell? ⟨w.heap.size,2,none⟩=some (.slice A0_2 l0_2.length c0_2)) (ds:=[]) #[false,false,false,false,false,false] bS rfl rfl ⟨(kc_ hi5.cl 0).trans rfl,(kc_ (kd_ hrw5) 0).trans rfl,(kc_ (kd_ hrw5) 1).trans rfl,(kc_ (kd_ hrw5) 2).trans rfl⟩ (fun hHeld=>?_)
 refine tk_ 0 22 hHeld ?_
 refine tk_ 1 23 hHeld ?_
 refine on_ 2 (some 24) (fun K hK=>?_)
 refine gs_ Tryd.func44 #[.agg #[.int .i64 a0_0,.bool a0_1,.slice A0_2 l0_2.length c0_2]] ?_
 refine (a7.calls k a0_0 a0_1 _ _ l0_2 T _ (cb_ hr0_2 hi5.below) hc0_2 hT).mono ?_
 rintro e w3 ⟨rfl,hb6⟩
 refine ⟨_,rfl,?_⟩
 have hi6:=hi5.step hb6;have hrw6:=kb_ (kd_ hrw5) hb6
 refine hK.out _ _ ⟨(kc_ hi6.cl 0).trans rfl,(kc_ hrw6 0).trans rfl,(kc_ hrw6 1).trans rfl,(kc_ hrw6 2).trans rfl⟩ (fun hHeld=>?_)
 clear hK K
 refine nm_ 24 ?_
 refine on_ 3 (some 25) (fun K hK=>?_)
 refine pj 64 #[.int .u32 T,.pointer (some ⟨w2.heap.size+1+1,0,none⟩),.pointer (some ⟨w2.heap.size+1,0,none⟩),.pointer (some ⟨w.heap.size+1,0,none⟩),.pointer (some ⟨w2.heap.size+1+1+1,0,none⟩)] (by rfl) rfl ?_ ?_
 ·have he:=jX (P:=Tryd.prog) Tryd.func64 bS rfl #[.int .u32 T,.pointer (some ⟨w2.heap.size+1+1,0,none⟩),.pointer (some ⟨w2.heap.size+1,0,none⟩),.pointer (some ⟨w.heap.size+1,0,none⟩),.pointer (some ⟨w2.heap.size+1+1+1,0,none⟩)] w3
  unfold execOp
  simp [resolve,Deferred.ofValue,invoke,Act.eval,he]
 refine (aa.won k a0_0 a0_1 a1 _ _ _ _ _ w 13 T v 0 _ hv hTr.1 hTr.2 hi6 ao).mono ?_
 rintro e w4 ⟨rfl,hi7,hg7⟩
 refine ⟨_,rfl,?_⟩
 have hrw7:=a6 hrw6 hg7 (by obtain ⟨D,hown,_⟩:=hi6.map;exact aa.ne_map hown hrw6)
 refine hK.out _ _ ⟨(kc_ hi7.cl 0).trans rfl,(kc_ hrw7 0).trans rfl,(kc_ hrw7 1).trans rfl,(kc_ hrw7 2).trans rfl⟩ (fun hHeld=>?_)
 clear hK K
 refine nm_ 25 ?_
 refine pu_ 4 4 ?_
 refine pu_ 5 5 ?_
 refine gU bS ?_
 go_wp2
 go_ret2
 exact ⟨rfl,hi7.below⟩


def db.f (k:Nat) (a0_0:Int) (a0_1:Bool) (l0_2:List Int):Option (Bool):=(aI.f k a0_0 a0_1 l0_2).bind fun t741=>(if t741=true then (some (decide (a0_0≤12))) else (some false))
theorem db.mono:∀ a0 a1 a2 k,LeO (db.f k a0 a1 a2) (db.f (k+1) a0 a1 a2):=by
 intro a0 a1 a2 k;unfold db.f
 repeat' with_reducible first|exact aI.mono ..|exact LeO.refl ..|exact LeO.none ..|refine LeO.ite ?_ ?_|refine LeO.bind ?_ (fun _=>?_)
theorem db.calls (k:Nat) (a0_0:Int) (a0_1:Bool) (A0_2:Option Addr) (c0_2:Nat) (l0_2:List Int) (r:Bool) (w:World) (hr0_2:Kd.C (Kd.int .i64) w A0_2 l0_2.length l0_2) (hc0_2:l0_2.length≤c0_2) (H:db.f k a0_0 a0_1 l0_2=some r) :
  Calls Tryd.prog 65 #[.agg #[.int .i64 a0_0,.bool a0_1,.slice A0_2 l0_2.length c0_2]] w fun e w'=>e=.returned (.bool r)∧Below w.heap.size w w':=by
 have hu26:=Tryd.underlying26;have HR0_2:=A0_ hr0_2;have HC0_2:=A0_ hc0_2;clear hr0_2 hc0_2;have HB:=A0_ (Below.refl w.heap.size w);unfold db.f at H;obtain ⟨t1,A2,H⟩:=o1_ H
 by_cases c1:t1=true
 case neg =>
  obtain rfl:=bf_.mpr c1;rw [if_neg ft_] at H;obtain rfl:=si_ H;go_enter Tryd.func65,Tryd.ntmps65
  go_wp2_with (first|((with_reducible refine gd_ (N:=1) rfl ?_);refine bx_ 1 #[.int .i64 a0_0,.bool a0_1,.slice A0_2 l0_2.length c0_2] 26 ?_;intro gb1 hg w1 BK1 hb;have GW1:=ge_ hg am;have GE1:=GW1;replace HB:=hb_ hb am;clear hb hg;have hcz1:=c3_ BK1)|((with_reducible refine gc_ (f:=35) rfl ?_);refine gl_ 4 Tryd.func35 #[.agg #[.int .i64 a0_0,.bool a0_1,.slice A0_2 l0_2.length c0_2]] ?_;(with_reducible refine (aI.calls k a0_0 a0_1 _ _ l0_2 false _ ?_ ?_ A2.out).mono ?_);exact bn;exact HC0_2.out;rintro e w2 ⟨rfl,hb⟩;refine ⟨_,rfl,?_⟩;replace BK1:=k1_ BK1 hb;replace HB:=hb_ hb ab;(try clear hb)))
  go_ret
  exact ⟨bc,ab⟩
 subst c1;rw [if_pos rfl] at H;obtain rfl:=si_ H;go_enter Tryd.func65,Tryd.ntmps65
 go_wp2_with (first|((with_reducible refine gd_ (N:=1) rfl ?_);refine bx_ 1 #[.int .i64 a0_0,.bool a0_1,.slice A0_2 l0_2.length c0_2] 26 ?_;intro gb1 hg w1 BK1 hb;have GW1:=ge_ hg am;have GE1:=GW1;replace HB:=hb_ hb am;clear hb hg;have hcz1:=c3_ BK1)|((with_reducible refine gc_ (f:=35) rfl ?_);refine gl_ 4 Tryd.func35 #[.agg #[.int .i64 a0_0,.bool a0_1,.slice A0_2 l0_2.length c0_2]] ?_;(with_reducible refine (aI.calls k a0_0 a0_1 _ _ l0_2 true _ ?_ ?_ A2.out).mono ?_);exact bn;exact HC0_2.out;rintro e w2 ⟨rfl,hb⟩;refine ⟨_,rfl,?_⟩;replace BK1:=k1_ BK1 hb;replace HB:=hb_ hb ab;(try clear hb);have hcz2:=c3_ BK1))
 go_ret
 exact ⟨bc,ab⟩

mutual
def ai.l0:Nat→Int→List Int→Int→Int→Bool→List Int→Option (List Int)
 | 0,_,_,_,_,_,_=>none
 | k+1,x1,x5,x6,xa,xb,xc=>if x6 ≥ 0 then ((cA.f xa xb xc (([]:List Int))).bind fun bt749=>(ai.l1 k x1 x5 x6 0 xa xb xc bt749.1 bt749.2.1 bt749.2.2)) else (some x5)
def ai.l1:Nat→Int→List Int→Int→Int→Int→Bool→List Int→Int→Bool→List Int→Option (List Int)
 | 0,_,_,_,_,_,_,_,_,_,_=>none
 | k+1,x1,x5,x6,x8,xa,xb,xc,xe,xf,xd=>if x8<xa then (if 0≤x8 then (if (Go.bits .and .i64 (shr .i64 x6 x8) 1)=1 then (if xd.length<17592186044416 then (ai.l1 k x1 x5 x6 (wrap64 (x8+1)) xa xb xc xe xf (xd++[x8])) else (none)) else (ai.l1 k x1 x5 x6 (wrap64 (x8+1)) xa xb xc xe xf xd)) else (none)) else ((aA.f k xe xf xd x1).bind fun t758=>(if (t758.length:Int)=0 then (if 0≤x6 then (if x6<(x5.length:Int) then (ai.j2 k x1 (x5.set (x6:Int).toNat 1) x6 t758 xa xb xc) else (none)) else (none)) else (ai.j2 k x1 x5 x6 t758 xa xb xc)))
def ai.j2:Nat→Int→List Int→Int→List Int→Int→Bool→List Int→Option (List Int)
 | 0,_,_,_,_,_,_,_=>none
 | k+1,x1,x5,x6,x9,xa,xb,xc=>ai.l2 k x1 x5 x6 x9 0 xa xb xc
def ai.l2:Nat→Int→List Int→Int→List Int→Int→Int→Bool→List Int→Option (List Int)
 | 0,_,_,_,_,_,_,_,_=>none
 | k+1,x1,x5,x6,x9,x10,xa,xb,xc=>if x10<(x9.length:Int) then (if 0≤x10 then (if 0≤(rd x9 x10) then (if x1=2 then (if xa=0 then (none) else (if 0≤(Int.tmod (wrap64 ((rd x9 x10)+1)) xa) then (if 0≤(Go.bits .or .i64 (Go.bits .or .i64 x6 (shl .i64 1 (rd x9 x10))) (shl .i64 1 (Int.tmod (wrap64 ((rd x9 x10)+1)) xa))) then (if (Go.bits .or .i64 (Go.bits .or .i64 x6 (shl .i64 1 (rd x9 x10))) (shl .i64 1 (Int.tmod (wrap64 ((rd x9 x10)+1)) xa)))<(x5.length:Int) then (if (rd x5 (Go.bits .or .i64 (Go.bits .or .i64 x6 (shl .i64 1 (rd x9 x10))) (shl .i64 1 (Int.tmod (wrap64 ((rd x9 x10)+1)) xa))))=0 then (if 0≤x6 then (if x6<(x5.length:Int) then (ai.l2 k x1 (x5.set (x6:Int).toNat 1) x6 x9 (wrap64 (x10+1)) xa xb xc) else (none)) else (none)) else (ai.l2 k x1 x5 x6 x9 (wrap64 (x10+1)) xa xb xc)) else (none)) else (none)) else (none))) else (if 0≤(Go.bits .or .i64 x6 (shl .i64 1 (rd x9 x10))) then (if (Go.bits .or .i64 x6 (shl .i64 1 (rd x9 x10)))<(x5.length:Int) then (if (rd x5 (Go.bits .or .i64 x6 (shl .i64 1 (rd x9 x10))))=0 then (if 0≤x6 then (if x6<(x5.length:Int) then (ai.l2 k x1 (x5.set (x6:Int).toNat 1) x6 x9 (wrap64 (x10+1)) xa xb xc) else (none)) else (none)) else (ai.l2 k x1 x5 x6 x9 (wrap64 (x10+1)) xa xb xc)) else (none)) else (none))) else (none)) else (none)) else (ai.l0 k x1 x5 (wrap64 (x6 - 1)) xa xb xc)
end
def ai.f (k:Nat) (a0_0:Int) (a0_1:Bool) (l0_2:List Int) (a1:Int):Option (List Int):=if 0≤a0_0 then (if 0≤(shl .i64 1 a0_0) then (if (shl .i64 1 a0_0:Int).toNat≤35184372088832 then ((some (List.replicate (shl .i64 1 a0_0:Int).toNat 0:List Int)).bind fun y743=>(ai.l0 k a1 y743 (wrap64 ((y743.length:Int) - 1)) a0_0 a0_1 l0_2)) else (none)) else (none)) else (none)
theorem ai.mono_l:∀ k,(∀ y0 y1 y2 y3 y4 y5,LeO (ai.l0 k y0 y1 y2 y3 y4 y5) (ai.l0 (k+1) y0 y1 y2 y3 y4 y5))∧(∀ y0 y1 y2 y3 y4 y5 y6 y7 y8 y9,LeO (ai.l1 k y0 y1 y2 y3 y4 y5 y6 y7 y8 y9) (ai.l1 (k+1) y0 y1 y2 y3 y4 y5 y6 y7 y8 y9))∧(∀ y0 y1 y2 y3 y4 y5 y6,LeO (ai.j2 k y0 y1 y2 y3 y4 y5 y6) (ai.j2 (k+1) y0 y1 y2 y3 y4 y5 y6))∧(∀ y0 y1 y2 y3 y4 y5 y6 y7,LeO (ai.l2 k y0 y1 y2 y3 y4 y5 y6 y7) (ai.l2 (k+1) y0 y1 y2 y3 y4 y5 y6 y7))
 | 0=>⟨fun _ _ _ _ _ _ r h=>by simp [ai.l0] at h,fun _ _ _ _ _ _ _ _ _ _ r h=>by simp [ai.l1] at h,fun _ _ _ _ _ _ _ r h=>by simp [ai.j2] at h,fun _ _ _ _ _ _ _ _ r h=>by simp [ai.l2] at h⟩
 | k+1=>by
  obtain ⟨ih0,ih1,ih2,ih3⟩:=ai.mono_l k
  refine ⟨?_,?_,?_,?_⟩
  ·intro y0 y1 y2 y3 y4 y5
   unfold ai.l0
   repeat' with_reducible first|exact ih0 ..|exact ih1 ..|exact ih2 ..|exact ih3 ..|exact aA.mono ..|exact LeO.refl ..|exact LeO.none ..|refine LeO.ite ?_ ?_|refine LeO.bind ?_ (fun _=>?_)
  ·intro y0 y1 y2 y3 y4 y5 y6 y7 y8 y9
   unfold ai.l1
   repeat' with_reducible first|exact ih0 ..|exact ih1 ..|exact ih2 ..|exact ih3 ..|exact aA.mono ..|exact LeO.refl ..|exact LeO.none ..|refine LeO.ite ?_ ?_|refine LeO.bind ?_ (fun _=>?_)
  ·intro y0 y1 y2 y3 y4 y5 y6
   unfold ai.j2
   repeat' with_reducible first|exact ih0 ..|exact ih1 ..|exact ih2 ..|exact ih3 ..|exact aA.mono ..|exact LeO.refl ..|exact LeO.none ..|refine LeO.ite ?_ ?_|refine LeO.bind ?_ (fun _=>?_)
  ·intro y0 y1 y2 y3 y4 y5 y6 y7
   unfold ai.l2
   repeat' with_reducible first|exact ih0 ..|exact ih1 ..|exact ih2 ..|exact ih3 ..|exact aA.mono ..|exact LeO.refl ..|exact LeO.none ..|refine LeO.ite ?_ ?_|refine LeO.bind ?_ (fun _=>?_)
theorem ai.mono:∀ a0 a1 a2 a3 k,LeO (ai.f k a0 a1 a2 a3) (ai.f (k+1) a0 a1 a2 a3):=by
 intro a0 a1 a2 a3 k;obtain ⟨ih0,ih1,ih2,ih3⟩:=ai.mono_l k;unfold ai.f
 repeat' with_reducible first|exact ih0 ..|exact ih1 ..|exact ih2 ..|exact ih3 ..|exact aA.mono ..|exact LeO.refl ..|exact LeO.none ..|refine LeO.ite ?_ ?_|refine LeO.bind ?_ (fun _=>?_)
theorem ai.calls (k:Nat) (a0_0:Int) (a0_1:Bool) (A0_2:Option Addr) (c0_2:Nat) (l0_2:List Int) (a1:Int) (r:List Int) (w:World) (hr0_2:Kd.C (Kd.int .i64) w A0_2 l0_2.length l0_2) (hc0_2:l0_2.length≤c0_2) (H:ai.f k a0_0 a0_1 l0_2 a1=some r) :
  Calls Tryd.prog 66 #[.agg #[.int .i64 a0_0,.bool a0_1,.slice A0_2 l0_2.length c0_2],.int .i64 a1] w fun e w'=>∃ v0_:Value,e=.returned (v0_)∧Kd.R (Kd.int .i64) 3 w' w.heap.size (fun _=>True) v0_ r∧Below w.heap.size w w':=by
 have hu26:=Tryd.underlying26;have HR0_2:=A0_ hr0_2;have HC0_2:=A0_ hc0_2;clear hr0_2 hc0_2;have HB:=A0_ (Below.refl w.heap.size w);unfold ai.f at H;obtain ⟨c1b0,c1b1,H⟩:=i2_ H;obtain ⟨ji1,hji1⟩:∃ j_:Int,(shl .i64 1 a0_0)=j_:=⟨_,rfl⟩;replace H:(if 0≤(ji1) then (if (ji1:Int).toNat≤35184372088832 then ((some (List.replicate (ji1:Int).toNat 0:List Int)).bind fun y1=>(ai.l0 k a1 y1 (wrap64 ((y1.length:Int) - 1)) a0_0 a0_1 l0_2)) else (none)) else (none))=some r:=eY;have hji1_:(IntKind.i64.wrap (1 * 2 ^ min a0_0.toNat 64))=ji1:=hji1;have hji4z:a0_0≤64→(IntKind.i64.wrap (1 * 2 ^ a0_0.toNat))=ji1:=dB hji1
 have hji4u:(IntKind.i64.wrap (2 ^ min a0_0.toNat 64))=ji1:=by have h_:=hji1_;rw [Int.one_mul] at h_;exact h_
 have hji4v:a0_0≤64→(IntKind.i64.wrap (2 ^ a0_0.toNat))=ji1:=fun hle_=>by have h_:=hji4z hle_;rw [Int.one_mul] at h_;exact h_
 have hji4y:(wrap64 (1 * 2 ^ min a0_0.toNat 64))=ji1:=(cH _).symm.trans hji1_
 have hji4x:a0_0≤64→(wrap64 (1 * 2 ^ a0_0.toNat))=ji1:=fun h_=>(cH _).symm.trans (hji4z h_)
 obtain ⟨c2b0,c2b1,H⟩:=i2_ H;obtain ⟨c3b0,c3b1,H⟩:=i2_ H;obtain ⟨y1,hy1⟩:∃ y_:List Int,y_=(List.replicate (ji1:Int).toNat 0):=⟨_,rfl⟩;replace H:(ai.l0 k a1 y1 (wrap64 ((y1.length:Int) - 1)) a0_0 a0_1 l0_2)=some r:=dp;have Ny1:=A0_ hy1;clear hy1;have H':=A0_ H;clear H;go_enter Tryd.func66,Tryd.ntmps66
 go_wp2_with (first|((with_reducible refine gd_ (N:=2) rfl ?_);refine bx_ 2 #[.int .i64 a0_0,.bool a0_1,.slice A0_2 l0_2.length c0_2] 26 ?_;intro gb1 hg w1 BK1 hb;have GW1:=ge_ hg am;have GE1:=GW1;replace HB:=hb_ hb am;clear hb hg;have hcz1:=z3_ BK1)|((with_reducible refine gd_ (N:=15) rfl ?_);refine Kd.R_make (Kd.int .i64) _ 3 rfl (N:=15) rfl 22 _ _ rfl ji1 rfl rfl Tryd.underlying22 (.int .i64 0) 8 cP rfl ao bL 0 (ok:=fun _=>True) (okp:=fun _=>True) rfl (fun _ hk=>hk) trivial (od_ aE) (Nat.le_trans (Nat.mul_le_mul_right _ (od_ aE:ji1.toNat≤35184372088832)) bL) (Below.refl _ _) (Nat.le_refl _) ?_;intro v1 w2 ho10 hb hg_ hnew_;clear hg_ hnew_;(first|rw [← Ny1.out] at ho10|(simp only [Int.reduceToNat] at ho10;rw [← Ny1.out] at ho10));have HO1:=A0_ (Kd.R_lower ho10 (bz_ ab));replace BK1:=k1_ BK1 hb;replace HB:=hb_ hb ab;clear hb ho10;obtain ⟨Ao1,co1,eo1⟩:=Kd.R_slice HO1.out;subst eo1))
 repeat (go_quiet (first|((with_reducible refine gd_ (N:=2) rfl ?_);refine bx_ 2 #[.int .i64 a0_0,.bool a0_1,.slice A0_2 l0_2.length c0_2] 26 ?_;intro gb1 hg w1 BK1 hb;have GW1:=ge_ hg am;have GE1:=GW1;replace HB:=hb_ hb am;clear hb hg;have hcz1:=z3_ BK1)|((with_reducible refine gd_ (N:=15) rfl ?_);refine Kd.R_make (Kd.int .i64) _ 3 rfl (N:=15) rfl 22 _ _ rfl ji1 rfl rfl Tryd.underlying22 (.int .i64 0) 8 cP rfl ao bL 0 (ok:=fun _=>True) (okp:=fun _=>True) rfl (fun _ hk=>hk) trivial (od_ aE) (Nat.le_trans (Nat.mul_le_mul_right _ (od_ aE:ji1.toNat≤35184372088832)) bL) (Below.refl _ _) (Nat.le_refl _) ?_;intro v1 w2 ho10 hb hg_ hnew_;clear hg_ hnew_;(first|rw [← Ny1.out] at ho10|(simp only [Int.reduceToNat] at ho10;rw [← Ny1.out] at ho10));have HO1:=A0_ (Kd.R_lower ho10 (bz_ ab));replace BK1:=k1_ BK1 hb;replace HB:=hb_ hb ab;clear hb ho10;obtain ⟨Ao1,co1,eo1⟩:=Kd.R_slice HO1.out;subst eo1));try go_wp2_with (first|((with_reducible refine gd_ (N:=2) rfl ?_);refine bx_ 2 #[.int .i64 a0_0,.bool a0_1,.slice A0_2 l0_2.length c0_2] 26 ?_;intro gb1 hg w1 BK1 hb;have GW1:=ge_ hg am;have GE1:=GW1;replace HB:=hb_ hb am;clear hb hg;have hcz1:=z3_ BK1)|((with_reducible refine gd_ (N:=15) rfl ?_);refine Kd.R_make (Kd.int .i64) _ 3 rfl (N:=15) rfl 22 _ _ rfl ji1 rfl rfl Tryd.underlying22 (.int .i64 0) 8 cP rfl ao bL 0 (ok:=fun _=>True) (okp:=fun _=>True) rfl (fun _ hk=>hk) trivial (od_ aE) (Nat.le_trans (Nat.mul_le_mul_right _ (od_ aE:ji1.toNat≤35184372088832)) bL) (Below.refl _ _) (Nat.le_refl _) ?_;intro v1 w2 ho10 hb hg_ hnew_;clear hg_ hnew_;(first|rw [← Ny1.out] at ho10|(simp only [Int.reduceToNat] at ho10;rw [← Ny1.out] at ho10));have HO1:=A0_ (Kd.R_lower ho10 (bz_ ab));replace BK1:=k1_ BK1 hb;replace HB:=hb_ hb ab;clear hb ho10;obtain ⟨Ao1,co1,eo1⟩:=Kd.R_slice HO1.out;subst eo1)))
 go_loopg [6] k (fun kq v2 w'=>∃ (x5_1:List Int) (x6_1:Int),v2=.int .i64 x6_1∧Aside0 (ai.l0 kq a1 x5_1 x6_1 a0_0 a0_1 l0_2=some r)∧Aside0 (kq≤k)∧Aside0 (Kd.R (Kd.int .i64) 3 w' w.heap.size (fun _=>True) (.slice Ao1 y1.length co1) x5_1)∧Aside0 (w'.heap[gb1]?=some (.cells #[.int .i64 a0_0,.bool a0_1,(.slice A0_2 l0_2.length c0_2)] 26 (0,0)))∧Aside0 (Below w.heap.size w w'))
 case atStart=>exact ⟨(y1),(wrap64 ((y1.length:Int) - 1)),aC,H',⟨Nat.le_refl _⟩,⟨bR⟩,⟨u1_ BK1⟩,⟨ab⟩⟩
 clear H'
 try clear c1
 try clear c1b0
 try clear c1b1
 try clear c2
 try clear c2b0
 try clear c2b1
 try clear c3
 try clear c3b0
 try clear c3b1
 (try clear hcz1);(try clear hfz1)
 obtain ⟨x5_1,x6_1,rfl,HA,HK1,HO_1,BK1,HB⟩:=hrel;have hl5_1:=(rr_ HO_1.out).1;rw [hl5_1] at HO_1
 (try simp only [hl5_1])
 (try simp only [hl5_1] at BK1)
 cases gk with|zero=>exact absurd HA.out (by simp [ai.l0])|succ k1=>?_
 have H:=HA.out;clear HA;simp only [ai.l0] at H
 by_cases c4:x6_1 ≥ 0
 case neg =>
  rw [if_neg c4] at H;have c4b0:decide (0≤x6_1)=false:=decide_eq_false c4;clear c4;obtain rfl:=si_ H
  go_wp2
  repeat (go_quiet (fail);try go_wp2)
  go_ret
  exact ⟨_,iX,aD,ab⟩
 rw [if_pos c4] at H;have c4b0:decide (0≤x6_1)=true:=dt_ c4;clear c4;obtain ⟨y2,hy2⟩:∃ y_:List Int,y_=(([]:List Int)):=⟨_,rfl⟩;replace H:((cA.f a0_0 a0_1 l0_2 y2).bind fun bt1=>(ai.l1 k1 a1 x5_1 x6_1 0 a0_0 a0_1 l0_2 bt1.1 bt1.2.1 bt1.2.2))=some r:=dO;have Ny2:=A0_ hy2;clear hy2;obtain ⟨⟨t1,t2,t3⟩,A2,H⟩:=o1_ H;have H':=A0_ H;clear H;have hcz2:=z3_ BK1
 go_wp2_with (first|((with_reducible refine gd_ (N:=24) rfl ?_);refine Kd.R_lit (Kd.int .i64) _ 3 ?hg (N:=24) ?hd (xs:=([]:List Int)) (inner:=[]) (ok:=fun _=>True) (okp:=fun _=>True) ?hr ?hp (fun _ hk=>hk) trivial (Below.refl _ _) (Nat.le_refl _) bx ?_;(case hd=>rfl);(case hg=>rfl);(case hr=>go_simp;first|done|rfl);(case hp=>exact (bu.none _ _));intro v3 w3 ho16 hb hg_ hnew_;clear hg_ hnew_;(first|rw [← Ny2.out] at ho16|(simp only [Int.reduceToNat] at ho16;rw [← Ny2.out] at ho16));have HO2:=A0_ (Kd.R_lower (Kd.R_new' ho16 (Kd.R_lt aD)) (bz_ ab));replace HO_1:=A0_ (Kd.R_elder' aD (Kd.R_base ho16) hb);replace BK1:=k1_ BK1 hb;replace HB:=hb_ hb ab;clear hb ho16;obtain ⟨Ao2,co2,eo2⟩:=Kd.R_slice HO2.out;subst eo2)|(go_at_call 88;(with_reducible refine (cA.calls a0_0 a0_1 _ _ l0_2 (fun k_=>some k_=(.slice Ao2 y2.length co2:Value).ownBlock) (.slice Ao2 y2.length co2) y2 t1 t2 t3 w _ ?_ ?_ ?_ ?_ A2.out).mono ?_);exact ab;exact Kd.C_kept_came (Kd.heap_int .i64) HR0_2.out ab (fun k_ hs_=>(fun e_=>Kd.R_base HO2.out k_ e_.symm) hs_);exact HC0_2.out;exact Kd.R_tight rfl HO2.out;rintro e w4 ⟨v4,rfl,ho0,hb,hkp⟩;have n0_:=A0_ (Kd.R_mono (ok':=fun k_=>no_ v4 k_) (Kd.R_keptB (HO_1.out) hkp (fun k_ hk_ hs_=>(hk_.2) hs_)) (fun k_ hk_=>fun e_=>Or.elim (ho0.1 k_ e_.symm) (fun hs_=>hk_.2.1 hs_) (fun hn_=>Nat.not_le.2 hk_.2.2 hn_)));have n1_:=A0_ (e6 (u1_ BK1) hkp (fun hs_=>(fun e_=>(Kd.R_ne HO2.out BK1.out ao) e_) hs_));have n2_:=A0_ (Kd.R_mono (ok':=fun k_=>no_ (.slice Ao1 x5_1.length co1) k_) ho0 (fun k_ hk_=>Or.elim hk_ (fun hs_=>fun e_=>(((HO_1.out).1 k_ e_.symm).2) hs_) (fun hn_=>(Kd.fresh' (Kd.R_lt aD) k_ hn_))));have n3_:=A0_ (hb);clear HO_1 BK1 HB HO2;have HO_1:=n0_;have BK1:=n1_;have HO3:=n2_;have HB:=n3_;clear n0_ n1_ n2_ n3_;(try clear hb);(try clear hkp);(try clear ho0))|((with_reducible refine gd_ (N:=7) rfl ?_);refine bx_ 7 #[.int .i64 0,.bool false,.slice none 0 0] 26 ?_;intro gb2 hg w5 BK2 hb;replace HO_1:=q1_ HO_1 hb;replace HO3:=q1_ HO3 hb;have GW2:=ge_ hg ab;have GE2:=GW2;replace HB:=hb_ hb ab;obtain ⟨NB1_2,NB2_1⟩:=nn_ hg BK1;replace BK1:=k1_ BK1 hb;clear hb hg;obtain ⟨hnb1,hnc1⟩:=n2_ NB2_1;have hcz3:=z3_ BK2;obtain ⟨Ao3,co3,eo3⟩:=Kd.R_slice HO3.out;subst eo3))
 repeat (go_quiet (first|((with_reducible refine gd_ (N:=24) rfl ?_);refine Kd.R_lit (Kd.int .i64) _ 3 ?hg (N:=24) ?hd (xs:=([]:List Int)) (inner:=[]) (ok:=fun _=>True) (okp:=fun _=>True) ?hr ?hp (fun _ hk=>hk) trivial (Below.refl _ _) (Nat.le_refl _) bx ?_;(case hd=>rfl);(case hg=>rfl);(case hr=>go_simp;first|done|rfl);(case hp=>exact (bu.none _ _));intro v3 w3 ho16 hb hg_ hnew_;clear hg_ hnew_;(first|rw [← Ny2.out] at ho16|(simp only [Int.reduceToNat] at ho16;rw [← Ny2.out] at ho16));have HO2:=A0_ (Kd.R_lower (Kd.R_new' ho16 (Kd.R_lt aD)) (bz_ ab));replace HO_1:=A0_ (Kd.R_elder' aD (Kd.R_base ho16) hb);replace BK1:=k1_ BK1 hb;replace HB:=hb_ hb ab;clear hb ho16;obtain ⟨Ao2,co2,eo2⟩:=Kd.R_slice HO2.out;subst eo2)|(go_at_call 88;(with_reducible refine (cA.calls a0_0 a0_1 _ _ l0_2 (fun k_=>some k_=(.slice Ao2 y2.length co2:Value).ownBlock) (.slice Ao2 y2.length co2) y2 t1 t2 t3 w _ ?_ ?_ ?_ ?_ A2.out).mono ?_);exact ab;exact Kd.C_kept_came (Kd.heap_int .i64) HR0_2.out ab (fun k_ hs_=>(fun e_=>Kd.R_base HO2.out k_ e_.symm) hs_);exact HC0_2.out;exact Kd.R_tight rfl HO2.out;rintro e w4 ⟨v4,rfl,ho0,hb,hkp⟩;have n0_:=A0_ (Kd.R_mono (ok':=fun k_=>no_ v4 k_) (Kd.R_keptB (HO_1.out) hkp (fun k_ hk_ hs_=>(hk_.2) hs_)) (fun k_ hk_=>fun e_=>Or.elim (ho0.1 k_ e_.symm) (fun hs_=>hk_.2.1 hs_) (fun hn_=>Nat.not_le.2 hk_.2.2 hn_)));have n1_:=A0_ (e6 (u1_ BK1) hkp (fun hs_=>(fun e_=>(Kd.R_ne HO2.out BK1.out ao) e_) hs_));have n2_:=A0_ (Kd.R_mono (ok':=fun k_=>no_ (.slice Ao1 x5_1.length co1) k_) ho0 (fun k_ hk_=>Or.elim hk_ (fun hs_=>fun e_=>(((HO_1.out).1 k_ e_.symm).2) hs_) (fun hn_=>(Kd.fresh' (Kd.R_lt aD) k_ hn_))));have n3_:=A0_ (hb);clear HO_1 BK1 HB HO2;have HO_1:=n0_;have BK1:=n1_;have HO3:=n2_;have HB:=n3_;clear n0_ n1_ n2_ n3_;(try clear hb);(try clear hkp);(try clear ho0))|((with_reducible refine gd_ (N:=7) rfl ?_);refine bx_ 7 #[.int .i64 0,.bool false,.slice none 0 0] 26 ?_;intro gb2 hg w5 BK2 hb;replace HO_1:=q1_ HO_1 hb;replace HO3:=q1_ HO3 hb;have GW2:=ge_ hg ab;have GE2:=GW2;replace HB:=hb_ hb ab;obtain ⟨NB1_2,NB2_1⟩:=nn_ hg BK1;replace BK1:=k1_ BK1 hb;clear hb hg;obtain ⟨hnb1,hnc1⟩:=n2_ NB2_1;have hcz3:=z3_ BK2;obtain ⟨Ao3,co3,eo3⟩:=Kd.R_slice HO3.out;subst eo3));try go_wp2_with (first|((with_reducible refine gd_ (N:=24) rfl ?_);refine Kd.R_lit (Kd.int .i64) _ 3 ?hg (N:=24) ?hd (xs:=([]:List Int)) (inner:=[]) (ok:=fun _=>True) (okp:=fun _=>True) ?hr ?hp (fun _ hk=>hk) trivial (Below.refl _ _) (Nat.le_refl _) bx ?_;(case hd=>rfl);(case hg=>rfl);(case hr=>go_simp;first|done|rfl);(case hp=>exact (bu.none _ _));intro v3 w3 ho16 hb hg_ hnew_;clear hg_ hnew_;(first|rw [← Ny2.out] at ho16|(simp only [Int.reduceToNat] at ho16;rw [← Ny2.out] at ho16));have HO2:=A0_ (Kd.R_lower (Kd.R_new' ho16 (Kd.R_lt aD)) (bz_ ab));replace HO_1:=A0_ (Kd.R_elder' aD (Kd.R_base ho16) hb);replace BK1:=k1_ BK1 hb;replace HB:=hb_ hb ab;clear hb ho16;obtain ⟨Ao2,co2,eo2⟩:=Kd.R_slice HO2.out;subst eo2)|(go_at_call 88;(with_reducible refine (cA.calls a0_0 a0_1 _ _ l0_2 (fun k_=>some k_=(.slice Ao2 y2.length co2:Value).ownBlock) (.slice Ao2 y2.length co2) y2 t1 t2 t3 w _ ?_ ?_ ?_ ?_ A2.out).mono ?_);exact ab;exact Kd.C_kept_came (Kd.heap_int .i64) HR0_2.out ab (fun k_ hs_=>(fun e_=>Kd.R_base HO2.out k_ e_.symm) hs_);exact HC0_2.out;exact Kd.R_tight rfl HO2.out;rintro e w4 ⟨v4,rfl,ho0,hb,hkp⟩;have n0_:=A0_ (Kd.R_mono (ok':=fun k_=>no_ v4 k_) (Kd.R_keptB (HO_1.out) hkp (fun k_ hk_ hs_=>(hk_.2) hs_)) (fun k_ hk_=>fun e_=>Or.elim (ho0.1 k_ e_.symm) (fun hs_=>hk_.2.1 hs_) (fun hn_=>Nat.not_le.2 hk_.2.2 hn_)));have n1_:=A0_ (e6 (u1_ BK1) hkp (fun hs_=>(fun e_=>(Kd.R_ne HO2.out BK1.out ao) e_) hs_));have n2_:=A0_ (Kd.R_mono (ok':=fun k_=>no_ (.slice Ao1 x5_1.length co1) k_) ho0 (fun k_ hk_=>Or.elim hk_ (fun hs_=>fun e_=>(((HO_1.out).1 k_ e_.symm).2) hs_) (fun hn_=>(Kd.fresh' (Kd.R_lt aD) k_ hn_))));have n3_:=A0_ (hb);clear HO_1 BK1 HB HO2;have HO_1:=n0_;have BK1:=n1_;have HO3:=n2_;have HB:=n3_;clear n0_ n1_ n2_ n3_;(try clear hb);(try clear hkp);(try clear ho0))|((with_reducible refine gd_ (N:=7) rfl ?_);refine bx_ 7 #[.int .i64 0,.bool false,.slice none 0 0] 26 ?_;intro gb2 hg w5 BK2 hb;replace HO_1:=q1_ HO_1 hb;replace HO3:=q1_ HO3 hb;have GW2:=ge_ hg ab;have GE2:=GW2;replace HB:=hb_ hb ab;obtain ⟨NB1_2,NB2_1⟩:=nn_ hg BK1;replace BK1:=k1_ BK1 hb;clear hb hg;obtain ⟨hnb1,hnc1⟩:=n2_ NB2_1;have hcz3:=z3_ BK2;obtain ⟨Ao3,co3,eo3⟩:=Kd.R_slice HO3.out;subst eo3)))
 go_loopg [8] k1 (fun kq v5 w'=>∃ (x8_2:Int) (xa:List Int) (ub:Value),v5=.int .i64 x8_2∧Aside0 (ai.l1 kq a1 x5_1 x6_1 x8_2 a0_0 a0_1 l0_2 t1 t2 xa=some r)∧Aside0 (kq≤k1)∧Aside0 (Kd.R (Kd.int .i64) 3 w' w.heap.size (fun k_=>no_ ub k_) (.slice Ao1 x5_1.length co1) x5_1)∧Aside0 (Kd.R (Kd.int .i64) 3 w' w.heap.size (fun k_=>no_ (.slice Ao1 x5_1.length co1) k_) ub xa)∧Aside0 (w'.heap[gb1]?=some (.cells #[.int .i64 a0_0,.bool a0_1,(.slice A0_2 l0_2.length c0_2)] 26 (0,0)))∧Aside0 (w'.heap[gb2]?=some (.cells #[.int .i64 t1,.bool t2,ub] 26 (0,0)))∧Aside0 (Below w.heap.size w w'))
 case atStart=>exact ⟨(0),(t3),(.slice Ao3 t3.length co3),aC,H',⟨Nat.le_refl _⟩,⟨by (try simp only [hl5_1]);(with_reducible repeat (first|apply ra_|apply rn_|apply rd_));exact Kd.R_mono (cf (Kd.R_types HO_1.out BK2.out ao)) (fun _ hk=>hk.1)⟩,⟨by (try simp only [hl5_1]);(with_reducible repeat (first|apply ra_|apply rn_|apply rd_));exact Kd.R_mono (cf (Kd.R_types HO3.out BK2.out ao)) (fun _ hk=>hk.1)⟩,⟨by (try simp only [hl5_1]);(with_reducible repeat (first|apply kn_|apply kd_|apply ka_));refine ec ?_ NB1_2.out _;(with_reducible repeat (first|apply kn_|apply kd_|apply ka_));refine ec ?_ NB1_2.out _;(with_reducible repeat (first|apply kn_|apply kd_|apply ka_));refine ec ?_ NB1_2.out _;(with_reducible repeat (first|apply kn_|apply kd_|apply ka_));exact BK1.out⟩,⟨by (try simp only [hl5_1]);(with_reducible repeat (first|apply kn_|apply kd_|apply ka_));refine fJ (cs:=#[.int .i64 t1,.bool t2,.slice none 0 0]) ?_ 2 _ rfl;(with_reducible repeat (first|apply kn_|apply kd_|apply ka_));refine fJ (cs:=#[.int .i64 t1,.bool false,.slice none 0 0]) ?_ 1 _ rfl;(with_reducible repeat (first|apply kn_|apply kd_|apply ka_));refine fJ (cs:=#[.int .i64 0,.bool false,.slice none 0 0]) ?_ 0 _ rfl;(with_reducible repeat (first|apply kn_|apply kd_|apply ka_));exact BK2.out⟩,⟨aY⟩⟩
 clear H'
 try clear c1
 try clear c1b0
 try clear c1b1
 try clear c2
 try clear c2b0
 try clear c2b1
 try clear c3
 try clear c3b0
 try clear c3b1
 try clear c4
 try clear c4b0
 (try clear hcz2);(try clear hcz3);(try clear hcz1);(try clear hfz2);(try clear hfz3);(try clear hfz1)
 obtain ⟨x8_2,xa,ub,rfl,HA,HK2,HO_1,HO_2,BK1,BK2,HB⟩:=hrel
 cases gk with|zero=>exact absurd HA.out (by simp [ai.l1])|succ k2=>?_
 have H:=HA.out;clear HA;simp only [ai.l1] at H
 by_cases c5:x8_2<a0_0
 ·rw [if_pos c5] at H
  have c5b0:decide (x8_2<a0_0)=true:=dt_ c5;clear c5;obtain ⟨c6b0,c6b1,H⟩:=i2_ H;obtain ⟨ji2,hji2⟩:∃ j_:Int,(shr .i64 x6_1 x8_2)=j_:=⟨_,rfl⟩;replace H:(if (Go.bits .and .i64 (ji2) 1)=1 then (if xa.length<17592186044416 then (ai.l1 k2 a1 x5_1 x6_1 (wrap64 (x8_2+1)) a0_0 a0_1 l0_2 t1 t2 (xa++[x8_2])) else (none)) else (ai.l1 k2 a1 x5_1 x6_1 (wrap64 (x8_2+1)) a0_0 a0_1 l0_2 t1 t2 xa))=some r:=lu;have hji2_:(x6_1 / 2 ^ min x8_2.toNat 64)=ji2:=hji2;have hji25z:x8_2≤64→(x6_1 / 2 ^ x8_2.toNat)=ji2:=ls hji2
  by_cases c7:(Go.bits .and .i64 (ji2) 1)=1
  case neg =>
   rw [if_neg c7] at H;obtain ⟨c7b0,c7b1⟩:=ef_ c7;have H':=A0_ H;clear H;obtain ⟨hnb2,hnc2⟩:=n2_ NB1_2;have hcz4:=z3_ BK1
   go_wp2
   repeat (go_quiet (fail);try go_wp2)
   go_roundg k2
   case measure=>have:=HK1.out;have:=HK2.out;omega
   exact ⟨(wrap64 (x8_2+1)),(xa),(ub),aC,H',⟨gg⟩,⟨by (try simp only [hl5_1]);(with_reducible repeat (first|apply ra_|apply rn_|apply rd_));exact HO_1.out⟩,⟨by (try simp only [hl5_1]);(with_reducible repeat (first|apply ra_|apply rn_|apply rd_));exact HO_2.out⟩,⟨pf⟩,⟨ph⟩,⟨aY⟩⟩
  rw [if_pos c7] at H;obtain ⟨c7b0,c7b1⟩:=et_ c7;clear c7;obtain ⟨c8,H⟩:=is_ H;have LMc1:=A0_ c8;clear c8;obtain ⟨y3,hy3⟩:∃ y_:List Int,y_=(xa++[x8_2]):=⟨_,rfl⟩;replace H:(ai.l1 k2 a1 x5_1 x6_1 (wrap64 (x8_2+1)) a0_0 a0_1 l0_2 t1 t2 y3)=some r:=ir;have Ny3:=A0_ hy3;clear hy3;have H':=A0_ H;clear H;obtain ⟨hnb2,hnc2⟩:=n2_ NB1_2;have hcz4:=z3_ BK1;have hcz5:=z3_ BK2
  go_wp2_with (first|((with_reducible refine bO (b:=.append) (xs:=#[.tmp 38,.tmp 40]) rfl ?_);at_builtin;refine Kd.R_append (Kd.int .i64) (w0:=w) w.heap.size rfl (.tmp 38) (.tmp 40) 22 3 (.int .i64 0) 8 rfl Tryd.underlying22 cP rfl ao bL ub xa x8_2 [.int .i64 x8_2] (fun k_=>no_ (.slice Ao1 x5_1.length co1) k_) (fun _=>False) rfl rfl ?aP (fun _ hk=>hk.elim) ?aF ?aO ?aB ?aS ?aL ?_;(case aP=>exact rfl);(case aB=>exact aY);(case aF=>exact (fun k_ hk=>Kd.fresh' (Kd.R_lt aD) k_ hk));(case aO=>exact bW);(case aS=>exact (bz_ aY));(case aL=>have:=LMc1.out;omega);intro v6 w6 ho hb hg hat;rw [← Ny3.out] at ho;have n0_:=A0_ (Kd.R_after (ok:=(fun _=>True)) mD hg hat);have n1_:=A0_ (a6 (g:=gb1) (o:=.cells #[.int .i64 a0_0,.bool a0_1,.slice A0_2 l0_2.length c0_2] 26 (0,0)) (u1_ BK1) hg (Kd.R_ne HO_2.out BK1.out ao));have n2_:=A0_ (a6 (g:=gb2) (o:=.cells #[.int .i64 t1,.bool t2,ub] 26 (0,0)) (u1_ BK2) hg (Kd.R_ne HO_2.out BK2.out ao));have n3_:=A0_ (hb);have n4_:=A0_ (ho);clear HO_1 BK1 BK2 HB HO_2;have HO_1:=n0_;have BK1:=n1_;have BK2:=n2_;have HB:=n3_;have HO4:=n4_;clear n0_ n1_ n2_ n3_ n4_ ho hb hg hat;obtain ⟨Ao4,co4,eo4⟩:=Kd.R_slice HO4.out;subst eo4;have hcz6:=z3_ BK2))
  repeat (go_quiet (first|((with_reducible refine bO (b:=.append) (xs:=#[.tmp 38,.tmp 40]) rfl ?_);at_builtin;refine Kd.R_append (Kd.int .i64) (w0:=w) w.heap.size rfl (.tmp 38) (.tmp 40) 22 3 (.int .i64 0) 8 rfl Tryd.underlying22 cP rfl ao bL ub xa x8_2 [.int .i64 x8_2] (fun k_=>no_ (.slice Ao1 x5_1.length co1) k_) (fun _=>False) rfl rfl ?aP (fun _ hk=>hk.elim) ?aF ?aO ?aB ?aS ?aL ?_;(case aP=>exact rfl);(case aB=>exact aY);(case aF=>exact (fun k_ hk=>Kd.fresh' (Kd.R_lt aD) k_ hk));(case aO=>exact bW);(case aS=>exact (bz_ aY));(case aL=>have:=LMc1.out;omega);intro v6 w6 ho hb hg hat;rw [← Ny3.out] at ho;have n0_:=A0_ (Kd.R_after (ok:=(fun _=>True)) mD hg hat);have n1_:=A0_ (a6 (g:=gb1) (o:=.cells #[.int .i64 a0_0,.bool a0_1,.slice A0_2 l0_2.length c0_2] 26 (0,0)) (u1_ BK1) hg (Kd.R_ne HO_2.out BK1.out ao));have n2_:=A0_ (a6 (g:=gb2) (o:=.cells #[.int .i64 t1,.bool t2,ub] 26 (0,0)) (u1_ BK2) hg (Kd.R_ne HO_2.out BK2.out ao));have n3_:=A0_ (hb);have n4_:=A0_ (ho);clear HO_1 BK1 BK2 HB HO_2;have HO_1:=n0_;have BK1:=n1_;have BK2:=n2_;have HB:=n3_;have HO4:=n4_;clear n0_ n1_ n2_ n3_ n4_ ho hb hg hat;obtain ⟨Ao4,co4,eo4⟩:=Kd.R_slice HO4.out;subst eo4;have hcz6:=z3_ BK2));try go_wp2_with (first|((with_reducible refine bO (b:=.append) (xs:=#[.tmp 38,.tmp 40]) rfl ?_);at_builtin;refine Kd.R_append (Kd.int .i64) (w0:=w) w.heap.size rfl (.tmp 38) (.tmp 40) 22 3 (.int .i64 0) 8 rfl Tryd.underlying22 cP rfl ao bL ub xa x8_2 [.int .i64 x8_2] (fun k_=>no_ (.slice Ao1 x5_1.length co1) k_) (fun _=>False) rfl rfl ?aP (fun _ hk=>hk.elim) ?aF ?aO ?aB ?aS ?aL ?_;(case aP=>exact rfl);(case aB=>exact aY);(case aF=>exact (fun k_ hk=>Kd.fresh' (Kd.R_lt aD) k_ hk));(case aO=>exact bW);(case aS=>exact (bz_ aY));(case aL=>have:=LMc1.out;omega);intro v6 w6 ho hb hg hat;rw [← Ny3.out] at ho;have n0_:=A0_ (Kd.R_after (ok:=(fun _=>True)) mD hg hat);have n1_:=A0_ (a6 (g:=gb1) (o:=.cells #[.int .i64 a0_0,.bool a0_1,.slice A0_2 l0_2.length c0_2] 26 (0,0)) (u1_ BK1) hg (Kd.R_ne HO_2.out BK1.out ao));have n2_:=A0_ (a6 (g:=gb2) (o:=.cells #[.int .i64 t1,.bool t2,ub] 26 (0,0)) (u1_ BK2) hg (Kd.R_ne HO_2.out BK2.out ao));have n3_:=A0_ (hb);have n4_:=A0_ (ho);clear HO_1 BK1 BK2 HB HO_2;have HO_1:=n0_;have BK1:=n1_;have BK2:=n2_;have HB:=n3_;have HO4:=n4_;clear n0_ n1_ n2_ n3_ n4_ ho hb hg hat;obtain ⟨Ao4,co4,eo4⟩:=Kd.R_slice HO4.out;subst eo4;have hcz6:=z3_ BK2)))
  go_roundg k2
  case measure=>have:=HK1.out;have:=HK2.out;omega
  exact ⟨(wrap64 (x8_2+1)),(y3),(.slice Ao4 y3.length co4),aC,H',⟨gg⟩,⟨by (try simp only [hl5_1]);(with_reducible repeat (first|apply ra_|apply rn_|apply rd_));exact Kd.R_mono (rf_ (Kd.R_types HO_1.out BK2.out ao) kR _) (fun _ hk=>hk.1.2)⟩,⟨by (try simp only [hl5_1]);(with_reducible repeat (first|apply ra_|apply rn_|apply rd_));exact Kd.R_mono (rf_ (Kd.R_types HO4.out BK2.out ao) kR _) (fun _ hk=>hk.1)⟩,⟨by (try simp only [hl5_1]);(with_reducible repeat (first|apply kn_|apply kd_|apply ka_));refine ec ?_ NB1_2.out _;(with_reducible repeat (first|apply kn_|apply kd_|apply ka_));exact BK1.out⟩,⟨by (try simp only [hl5_1]);(with_reducible repeat (first|apply kn_|apply kd_|apply ka_));refine fJ (cs:=#[.int .i64 t1,.bool t2,ub]) ?_ 2 _ rfl;(with_reducible repeat (first|apply kn_|apply kd_|apply ka_));exact BK2.out⟩,⟨aY⟩⟩
 rw [if_neg c5] at H;have c5b0:decide (x8_2<a0_0)=false:=decide_eq_false c5;clear c5;obtain ⟨t4,A4,H⟩:=o1_ H;have HC37:=A0_ H;clear H;obtain ⟨hnb2,hnc2⟩:=n2_ NB1_2;have hcz4:=z3_ BK1;have hcz5:=z3_ BK2;obtain ⟨Ao4,co4,eo4⟩:=Kd.R_slice HO_2.out;subst eo4
 go_upto_if 48 with (first|(go_at_call 38;(with_reducible refine (aA.calls k2 t1 t2 _ _ xa a1 t4 _ ?_ ?_ A4.out).mono ?_);exact e7;exact (rr_ HO_2.out).2.1;rintro e w6 ⟨v6,rfl,ho0,hb⟩;have HO4:=A0_ (Kd.R_lower (Kd.R_new' (Kd.R_new' ho0 (Kd.R_lt aD)) (Kd.R_lt bW)) (bz_ aY));replace HO_1:=A0_ (Kd.R_elder' aD (Kd.R_base ho0) hb);replace HO_2:=A0_ (Kd.R_elder' bW (Kd.R_base ho0) hb);replace BK1:=k1_ BK1 hb;replace BK2:=k1_ BK2 hb;replace HB:=hb_ hb aY;(try clear hb ho0);obtain ⟨Ao5,co5,eo5⟩:=Kd.R_slice HO4.out;subst eo5))
 repeat (go_quiet (first|(go_at_call 38;(with_reducible refine (aA.calls k2 t1 t2 _ _ xa a1 t4 _ ?_ ?_ A4.out).mono ?_);exact e7;exact (rr_ HO_2.out).2.1;rintro e w6 ⟨v6,rfl,ho0,hb⟩;have HO4:=A0_ (Kd.R_lower (Kd.R_new' (Kd.R_new' ho0 (Kd.R_lt aD)) (Kd.R_lt bW)) (bz_ aY));replace HO_1:=A0_ (Kd.R_elder' aD (Kd.R_base ho0) hb);replace HO_2:=A0_ (Kd.R_elder' bW (Kd.R_base ho0) hb);replace BK1:=k1_ BK1 hb;replace BK2:=k1_ BK2 hb;replace HB:=hb_ hb aY;(try clear hb ho0);obtain ⟨Ao5,co5,eo5⟩:=Kd.R_slice HO4.out;subst eo5));go_upto_if 48 with (first|(go_at_call 38;(with_reducible refine (aA.calls k2 t1 t2 _ _ xa a1 t4 _ ?_ ?_ A4.out).mono ?_);exact e7;exact (rr_ HO_2.out).2.1;rintro e w6 ⟨v6,rfl,ho0,hb⟩;have HO4:=A0_ (Kd.R_lower (Kd.R_new' (Kd.R_new' ho0 (Kd.R_lt aD)) (Kd.R_lt bW)) (bz_ aY));replace HO_1:=A0_ (Kd.R_elder' aD (Kd.R_base ho0) hb);replace HO_2:=A0_ (Kd.R_elder' bW (Kd.R_base ho0) hb);replace BK1:=k1_ BK1 hb;replace BK2:=k1_ BK2 hb;replace HB:=hb_ hb aY;(try clear hb ho0);obtain ⟨Ao5,co5,eo5⟩:=Kd.R_slice HO4.out;subst eo5)))
 (try simp only [Act.put,sa_,sz_,ss_])
 go_cut [] (fun wc=>∃ (kq:Nat) (x5_36:List Int),Aside0 (ai.j2 kq a1 x5_36 x6_1 t4 a0_0 a0_1 l0_2=some r)∧Aside0 (kq≤k2)∧Aside0 (Kd.R (Kd.int .i64) 3 wc w.heap.size (fun k_=>no_ (.slice Ao5 t4.length co5) k_∧no_ (.slice Ao4 xa.length co4) k_) (.slice Ao1 x5_1.length co1) x5_36)∧Aside0 (Kd.R (Kd.int .i64) 3 wc w.heap.size (fun k_=>no_ (.slice Ao1 x5_1.length co1) k_∧no_ (.slice Ao4 xa.length co4) k_) (.slice Ao5 t4.length co5) t4)∧Aside0 (Kd.R (Kd.int .i64) 3 wc w.heap.size (fun k_=>no_ (.slice Ao1 x5_1.length co1) k_∧no_ (.slice Ao5 t4.length co5) k_) (.slice Ao4 xa.length co4) xa)∧Aside0 (wc.heap[gb1]?=some (.cells #[.int .i64 a0_0,.bool a0_1,(.slice A0_2 l0_2.length c0_2)] 26 (0,0)))∧Aside0 (wc.heap[gb2]?=some (.cells #[.int .i64 t1,.bool t2,(.slice Ao4 xa.length co4)] 26 (0,0)))∧Aside0 (Below w.heap.size w wc))
 case first =>
  have H:=HC37.out;clear HC37
  by_cases c6:(t4.length:Int)=0
  case neg =>
   rw [if_neg c6] at H;obtain ⟨c6b0,c6b1⟩:=ef_ c6
   have c6b2:¬ (t4=[]):=fun h_=>c6 (by rw [h_];rfl)
   (first|rw [c6b0]|(simp only [cH,dC];rw [c6b0])|skip)
   have H':=A0_ H;clear H
   go_wp2
   repeat (go_quiet (fail);try go_wp2)
   go_meet
   exact ⟨_,(x5_1),H',⟨by have:=HK1.out;have:=HK2.out;first|omega|exact Nat.le_refl _⟩,⟨rx⟩,⟨by (try simp only [hl5_1]);(with_reducible repeat (first|apply ra_|apply rn_|apply rd_));exact Kd.R_mono HO4.out (fun _ hk=>⟨hk.1.2,hk.2⟩)⟩,⟨by (try simp only [hl5_1]);(with_reducible repeat (first|apply ra_|apply rn_|apply rd_));exact HO_2.out⟩,⟨pf⟩,⟨ph⟩,⟨aY⟩⟩
  rw [if_pos c6] at H;obtain ⟨c6b0,c6b1⟩:=et_ c6;clear c6
  (first|rw [c6b0]|(simp only [cH,dC];rw [c6b0])|skip)
  obtain ⟨c7b0,H⟩:=i1_ H;obtain ⟨c8b0,H⟩:=i1_ H;obtain ⟨y3,hy3⟩:∃ y_:List Int,y_=(x5_1.set (x6_1:Int).toNat 1):=⟨_,rfl⟩;replace H:(ai.j2 k2 a1 y3 x6_1 t4 a0_0 a0_1 l0_2)=some r:=ir;have Ny3:=A0_ hy3;clear hy3;have H':=A0_ H;clear H;have p1:0≤(x6_1:Int):=od_ aE;have q1:(x6_1:Int)<((x5_1.length:Int):Int):=od_ aE;obtain ⟨go47,co6,eo6,gb3,gl47,cl47,HG47⟩:=Kd.R_form HO_1.out bL
  (first|cases eo6|(injection eo6 with ea_ en_ ec_;(first|subst ea_|(injection ea_ with ea_;subst ea_));subst ec_;clear en_))
  have GB47:=A0_ gb3;have GG47:=A0_ HG47;clear gb3 gl47 HG47;obtain ⟨hx1_0,hf1_0⟩:=Kd.R_celln 0 HO_1.out (x6_1:Int) p1 q1;replace p1:=eq_true p1;replace q1:=eq_true q1;have HP1:=Kd.R_putg HO_1.out (x6_1:Int) 1
  go_wp2_with (first|((with_reducible refine ed (t:=3) (p:=51) rfl ?_);(try ((first|generalize hq_:World.drewN w6 nq=w6|(rw [cZ w6];generalize hq_:World.drewN w6 _=w6));have n0_:=A0_ (Kd.R_at hq_ HO_1.out);have n1_:=A0_ (Kd.R_at hq_ HO_2.out);have n2_:=A0_ (Kd.R_at hq_ HO4.out);have n3_:=A0_ (eo hq_ BK1.out);have n4_:=A0_ (eo hq_ BK2.out);have n5_:=A0_ (e9 hq_ HB.out);clear hq_ HO_1 HO_2 HO4 BK1 BK2 HB;have HO_1:=n0_;have HO_2:=n1_;have HO4:=n2_;have BK1:=n3_;have BK2:=n4_;have HB:=n5_;clear n0_ n1_ n2_ n3_ n4_ n5_;(try (have HP1:=Kd.R_putg HO_1.out (x6_1:Int) 1));(try (obtain ⟨hx1_0,hf1_0⟩:=Kd.R_celln 0 HO_1.out (x6_1:Int) (of_eq_true p1) (of_eq_true q1)))));refine dZ (t:=3) (p:=51) (v:=?vo_w49) (w1:=(w6.setCell ⟨go47,(x6_1:Int).toNat,none⟩ (.int .i64 1))) ?hg ?ho ?hn ?hr ?_;(case ho=>rfl);(case hg=>rfl);(case hn=>rfl);(case hr=>go_simp;first|done|rfl);intro w7 hw;have hg:w6.grownBy w7 (some go47):=i4;have hp_:Kd.R (Kd.int .i64) 3 w7 w.heap.size (fun k_=>no_ (.slice Ao4 xa.length co4) k_∧no_ (.slice Ao5 t4.length co5) k_) (.slice (some ⟨go47,0,none⟩) x5_1.length co1) y3:=i3;clear HP1;replace HO_2:=A0_ (Kd.R_after (v:=(.slice (some ⟨go47,0,none⟩) x5_1.length co1)) (v1:=(.slice (some ⟨go47,0,none⟩) x5_1.length co1)) (ok:=(fun k_=>no_ (.slice Ao5 t4.length co5) k_)) gR hg (.inl rfl));replace BK1:=A0_ (a6 (g:=gb1) (o:=.cells #[.int .i64 a0_0,.bool a0_1,.slice A0_2 l0_2.length c0_2] 26 (0,0)) (u1_ BK1) hg (Kd.R_ne HO_1.out BK1.out ao));replace BK2:=A0_ (a6 (g:=gb2) (o:=.cells #[.int .i64 t1,.bool t2,.slice Ao4 xa.length co4] 26 (0,0)) (u1_ BK2) hg (Kd.R_ne HO_1.out BK2.out ao));replace HO_1:=A0_ (hp_);replace HO4:=A0_ (Kd.R_after (v:=(.slice (some ⟨go47,0,none⟩) x5_1.length co1)) (v1:=(.slice (some ⟨go47,0,none⟩) x5_1.length co1)) (ok:=(fun k_=>no_ (.slice Ao4 xa.length co4) k_)) pe hg (.inl rfl));replace HB:=A0_ ((by rw [hw];exact bs_ (HB.out) GB47.out:Below w.heap.size w w7));clear hg hw hp_))
  repeat (go_quiet (first|((with_reducible refine ed (t:=3) (p:=51) rfl ?_);(try ((first|generalize hq_:World.drewN w6 nq=w6|(rw [cZ w6];generalize hq_:World.drewN w6 _=w6));have n0_:=A0_ (Kd.R_at hq_ HO_1.out);have n1_:=A0_ (Kd.R_at hq_ HO_2.out);have n2_:=A0_ (Kd.R_at hq_ HO4.out);have n3_:=A0_ (eo hq_ BK1.out);have n4_:=A0_ (eo hq_ BK2.out);have n5_:=A0_ (e9 hq_ HB.out);clear hq_ HO_1 HO_2 HO4 BK1 BK2 HB;have HO_1:=n0_;have HO_2:=n1_;have HO4:=n2_;have BK1:=n3_;have BK2:=n4_;have HB:=n5_;clear n0_ n1_ n2_ n3_ n4_ n5_;(try (have HP1:=Kd.R_putg HO_1.out (x6_1:Int) 1));(try (obtain ⟨hx1_0,hf1_0⟩:=Kd.R_celln 0 HO_1.out (x6_1:Int) (of_eq_true p1) (of_eq_true q1)))));refine dZ (t:=3) (p:=51) (v:=?vo_w49) (w1:=(w6.setCell ⟨go47,(x6_1:Int).toNat,none⟩ (.int .i64 1))) ?hg ?ho ?hn ?hr ?_;(case ho=>rfl);(case hg=>rfl);(case hn=>rfl);(case hr=>go_simp;first|done|rfl);intro w7 hw;have hg:w6.grownBy w7 (some go47):=i4;have hp_:Kd.R (Kd.int .i64) 3 w7 w.heap.size (fun k_=>no_ (.slice Ao4 xa.length co4) k_∧no_ (.slice Ao5 t4.length co5) k_) (.slice (some ⟨go47,0,none⟩) x5_1.length co1) y3:=i3;clear HP1;replace HO_2:=A0_ (Kd.R_after (v:=(.slice (some ⟨go47,0,none⟩) x5_1.length co1)) (v1:=(.slice (some ⟨go47,0,none⟩) x5_1.length co1)) (ok:=(fun k_=>no_ (.slice Ao5 t4.length co5) k_)) gR hg (.inl rfl));replace BK1:=A0_ (a6 (g:=gb1) (o:=.cells #[.int .i64 a0_0,.bool a0_1,.slice A0_2 l0_2.length c0_2] 26 (0,0)) (u1_ BK1) hg (Kd.R_ne HO_1.out BK1.out ao));replace BK2:=A0_ (a6 (g:=gb2) (o:=.cells #[.int .i64 t1,.bool t2,.slice Ao4 xa.length co4] 26 (0,0)) (u1_ BK2) hg (Kd.R_ne HO_1.out BK2.out ao));replace HO_1:=A0_ (hp_);replace HO4:=A0_ (Kd.R_after (v:=(.slice (some ⟨go47,0,none⟩) x5_1.length co1)) (v1:=(.slice (some ⟨go47,0,none⟩) x5_1.length co1)) (ok:=(fun k_=>no_ (.slice Ao4 xa.length co4) k_)) pe hg (.inl rfl));replace HB:=A0_ ((by rw [hw];exact bs_ (HB.out) GB47.out:Below w.heap.size w w7));clear hg hw hp_));try go_wp2_with (first|((with_reducible refine ed (t:=3) (p:=51) rfl ?_);(try ((first|generalize hq_:World.drewN w6 nq=w6|(rw [cZ w6];generalize hq_:World.drewN w6 _=w6));have n0_:=A0_ (Kd.R_at hq_ HO_1.out);have n1_:=A0_ (Kd.R_at hq_ HO_2.out);have n2_:=A0_ (Kd.R_at hq_ HO4.out);have n3_:=A0_ (eo hq_ BK1.out);have n4_:=A0_ (eo hq_ BK2.out);have n5_:=A0_ (e9 hq_ HB.out);clear hq_ HO_1 HO_2 HO4 BK1 BK2 HB;have HO_1:=n0_;have HO_2:=n1_;have HO4:=n2_;have BK1:=n3_;have BK2:=n4_;have HB:=n5_;clear n0_ n1_ n2_ n3_ n4_ n5_;(try (have HP1:=Kd.R_putg HO_1.out (x6_1:Int) 1));(try (obtain ⟨hx1_0,hf1_0⟩:=Kd.R_celln 0 HO_1.out (x6_1:Int) (of_eq_true p1) (of_eq_true q1)))));refine dZ (t:=3) (p:=51) (v:=?vo_w49) (w1:=(w6.setCell ⟨go47,(x6_1:Int).toNat,none⟩ (.int .i64 1))) ?hg ?ho ?hn ?hr ?_;(case ho=>rfl);(case hg=>rfl);(case hn=>rfl);(case hr=>go_simp;first|done|rfl);intro w7 hw;have hg:w6.grownBy w7 (some go47):=i4;have hp_:Kd.R (Kd.int .i64) 3 w7 w.heap.size (fun k_=>no_ (.slice Ao4 xa.length co4) k_∧no_ (.slice Ao5 t4.length co5) k_) (.slice (some ⟨go47,0,none⟩) x5_1.length co1) y3:=i3;clear HP1;replace HO_2:=A0_ (Kd.R_after (v:=(.slice (some ⟨go47,0,none⟩) x5_1.length co1)) (v1:=(.slice (some ⟨go47,0,none⟩) x5_1.length co1)) (ok:=(fun k_=>no_ (.slice Ao5 t4.length co5) k_)) gR hg (.inl rfl));replace BK1:=A0_ (a6 (g:=gb1) (o:=.cells #[.int .i64 a0_0,.bool a0_1,.slice A0_2 l0_2.length c0_2] 26 (0,0)) (u1_ BK1) hg (Kd.R_ne HO_1.out BK1.out ao));replace BK2:=A0_ (a6 (g:=gb2) (o:=.cells #[.int .i64 t1,.bool t2,.slice Ao4 xa.length co4] 26 (0,0)) (u1_ BK2) hg (Kd.R_ne HO_1.out BK2.out ao));replace HO_1:=A0_ (hp_);replace HO4:=A0_ (Kd.R_after (v:=(.slice (some ⟨go47,0,none⟩) x5_1.length co1)) (v1:=(.slice (some ⟨go47,0,none⟩) x5_1.length co1)) (ok:=(fun k_=>no_ (.slice Ao4 xa.length co4) k_)) pe hg (.inl rfl));replace HB:=A0_ ((by rw [hw];exact bs_ (HB.out) GB47.out:Below w.heap.size w w7));clear hg hw hp_)))
  go_meet
  exact ⟨_,(y3),H',⟨by have:=HK1.out;have:=HK2.out;first|omega|exact Nat.le_refl _⟩,⟨rx⟩,⟨by (try simp only [hl5_1]);(with_reducible repeat (first|apply ra_|apply rn_|apply rd_));exact Kd.R_mono HO4.out (fun _ hk=>⟨hk.2,hk.1⟩)⟩,⟨by (try simp only [hl5_1]);(with_reducible repeat (first|apply ra_|apply rn_|apply rd_));exact Kd.R_mono HO_2.out (fun _ hk=>⟨hk.2,hk.1⟩)⟩,⟨pf⟩,⟨ph⟩,⟨aY⟩⟩
 clear HC37
 try clear c1
 try clear c1b0
 try clear c1b1
 try clear c2
 try clear c2b0
 try clear c2b1
 try clear c3
 try clear c3b0
 try clear c3b1
 try clear c4
 try clear c4b0
 try clear c5
 try clear c5b0
 (try clear hcz2);(try clear hcz3);(try clear hcz4);(try clear hcz5);(try clear hcz1);(try clear hfz2);(try clear hfz3);(try clear hfz4);(try clear hfz5);(try clear hfz1)
 obtain ⟨kq,x5_36,HA,HJ1,HO_1,HO_3,HO_2,BK1,BK2,HB⟩:=hcut;have hl5_36:=(rr_ HO_1.out).1;rw [hl5_36] at HO_1
 (try simp only [hl5_36])
 (try simp only [hl5_36] at BK1)
 (try simp only [hl5_36] at BK2)
 (try simp only [hl5_36] at HO_3)
 (try simp only [hl5_36] at HO_2)
 cases kq with|zero=>exact absurd HA.out (by simp [ai.j2])|succ kj1=>?_
 have H:=HA.out;clear HA;simp only [ai.j2] at H;have H':=A0_ H;clear H
 go_wp2
 repeat (go_quiet (fail);try go_wp2)
 go_loopg [10] kj1 (fun kq v7 w'=>∃ (x5_4:List Int) (x10_4:Int),v7=.int .i64 x10_4∧Aside0 (ai.l2 kq a1 x5_4 x6_1 t4 x10_4 a0_0 a0_1 l0_2=some r)∧Aside0 (kq≤kj1)∧Aside0 (Kd.R (Kd.int .i64) 3 w' w.heap.size (fun k_=>no_ (.slice Ao5 t4.length co5) k_∧no_ (.slice Ao4 xa.length co4) k_) (.slice Ao1 x5_36.length co1) x5_4)∧Aside0 (Kd.R (Kd.int .i64) 3 w' w.heap.size (fun k_=>no_ (.slice Ao1 x5_36.length co1) k_∧no_ (.slice Ao4 xa.length co4) k_) (.slice Ao5 t4.length co5) t4)∧Aside0 (Kd.R (Kd.int .i64) 3 w' w.heap.size (fun k_=>no_ (.slice Ao1 x5_36.length co1) k_∧no_ (.slice Ao5 t4.length co5) k_) (.slice Ao4 xa.length co4) xa)∧Aside0 (w'.heap[gb1]?=some (.cells #[.int .i64 a0_0,.bool a0_1,(.slice A0_2 l0_2.length c0_2)] 26 (0,0)))∧Aside0 (w'.heap[gb2]?=some (.cells #[.int .i64 t1,.bool t2,(.slice Ao4 xa.length co4)] 26 (0,0)))∧Aside0 (Below w.heap.size w w'))
 case atStart=>exact ⟨(x5_36),(0),aC,H',⟨Nat.le_refl _⟩,⟨by (try simp only [hl5_1]);(try simp only [hl5_36]);(with_reducible repeat (first|apply ra_|apply rn_|apply rd_));exact HO_1.out⟩,⟨by (try simp only [hl5_1]);(try simp only [hl5_36]);(with_reducible repeat (first|apply ra_|apply rn_|apply rd_));exact HO_3.out⟩,⟨by (try simp only [hl5_1]);(try simp only [hl5_36]);(with_reducible repeat (first|apply ra_|apply rn_|apply rd_));exact HO_2.out⟩,⟨by (try simp only [hl5_1]);(try simp only [hl5_36]);(with_reducible repeat (first|apply kn_|apply kd_|apply ka_));exact BK1.out⟩,⟨by (try simp only [hl5_1]);(try simp only [hl5_36]);(with_reducible repeat (first|apply kn_|apply kd_|apply ka_));exact BK2.out⟩,⟨aY⟩⟩
 clear H'
 try clear c1
 try clear c1b0
 try clear c1b1
 try clear c2
 try clear c2b0
 try clear c2b1
 try clear c3
 try clear c3b0
 try clear c3b1
 try clear c4
 try clear c4b0
 try clear c5
 try clear c5b0
 (try clear hcz2);(try clear hcz3);(try clear hcz4);(try clear hcz5);(try clear hcz1);(try clear hfz2);(try clear hfz3);(try clear hfz4);(try clear hfz5);(try clear hfz1)
 obtain ⟨x5_4,x10_4,rfl,HA,HK3,HO_1,HO_3,HO_2,BK1,BK2,HB⟩:=hrel;have hl5_4:=(rr_ HO_1.out).1;rw [hl5_4] at HO_1
 (try simp only [hl5_4])
 (try simp only [hl5_4] at BK1)
 (try simp only [hl5_4] at BK2)
 (try simp only [hl5_4] at HO_3)
 (try simp only [hl5_4] at HO_2)
 cases gk with|zero=>exact absurd HA.out (by simp [ai.l2])|succ k4=>?_
 have H:=HA.out;clear HA;simp only [ai.l2] at H
 by_cases c6:x10_4<(t4.length:Int)
 case neg =>
  rw [if_neg c6] at H;have c6b0:decide (x10_4<(t4.length:Int))=false:=decide_eq_false c6;clear c6;have H':=A0_ H;clear H
  go_wp2
  repeat (go_quiet (fail);try go_wp2)
  (try simp only [← hl5_1,← hl5_36,← hl5_4])
  go_roundg k4
  case measure=>have:=HK1.out;have:=HK2.out;have:=HJ1.out;have:=HK3.out;omega
  exact ⟨(x5_4),(wrap64 (x6_1 - 1)),aC,H',⟨mE⟩,⟨by (try simp only [hl5_1]);(try simp only [hl5_36]);(try simp only [hl5_4]);(with_reducible repeat (first|apply ra_|apply rn_|apply rd_));exact Kd.R_mono HO_1.out (fun _ hk=>trivial)⟩,⟨mC⟩,⟨aY⟩⟩
 rw [if_pos c6] at H;have c6b0:decide (x10_4<(t4.length:Int))=true:=dt_ c6;clear c6;obtain ⟨c7b0,H⟩:=i1_ H;obtain ⟨c8b0,c8b1,H⟩:=i2_ H;obtain ⟨ji2,hji2⟩:∃ j_:Int,(shl .i64 1 (rd t4 x10_4))=j_:=⟨_,rfl⟩;replace H:(if a1=2 then (if a0_0=0 then (none) else (if 0≤(Int.tmod (wrap64 ((rd t4 x10_4)+1)) a0_0) then (if 0≤(Go.bits .or .i64 (Go.bits .or .i64 x6_1 (ji2)) (shl .i64 1 (Int.tmod (wrap64 ((rd t4 x10_4)+1)) a0_0))) then (if (Go.bits .or .i64 (Go.bits .or .i64 x6_1 (ji2)) (shl .i64 1 (Int.tmod (wrap64 ((rd t4 x10_4)+1)) a0_0)))<(x5_4.length:Int) then (if (rd x5_4 (Go.bits .or .i64 (Go.bits .or .i64 x6_1 (ji2)) (shl .i64 1 (Int.tmod (wrap64 ((rd t4 x10_4)+1)) a0_0))))=0 then (if 0≤x6_1 then (if x6_1<(x5_4.length:Int) then (ai.l2 k4 a1 (x5_4.set (x6_1:Int).toNat 1) x6_1 t4 (wrap64 (x10_4+1)) a0_0 a0_1 l0_2) else (none)) else (none)) else (ai.l2 k4 a1 x5_4 x6_1 t4 (wrap64 (x10_4+1)) a0_0 a0_1 l0_2)) else (none)) else (none)) else (none))) else (if 0≤(Go.bits .or .i64 x6_1 (ji2)) then (if (Go.bits .or .i64 x6_1 (ji2))<(x5_4.length:Int) then (if (rd x5_4 (Go.bits .or .i64 x6_1 (ji2)))=0 then (if 0≤x6_1 then (if x6_1<(x5_4.length:Int) then (ai.l2 k4 a1 (x5_4.set (x6_1:Int).toNat 1) x6_1 t4 (wrap64 (x10_4+1)) a0_0 a0_1 l0_2) else (none)) else (none)) else (ai.l2 k4 a1 x5_4 x6_1 t4 (wrap64 (x10_4+1)) a0_0 a0_1 l0_2)) else (none)) else (none)))=some r:=lu;have hji2_:(IntKind.i64.wrap (1 * 2 ^ min (rd t4 x10_4).toNat 64))=ji2:=hji2;have hji53z:(rd t4 x10_4)≤64→(IntKind.i64.wrap (1 * 2 ^ (rd t4 x10_4).toNat))=ji2:=dB hji2
 have hji53u:(IntKind.i64.wrap (2 ^ min (rd t4 x10_4).toNat 64))=ji2:=by have h_:=hji2_;rw [Int.one_mul] at h_;exact h_
 have hji53v:(rd t4 x10_4)≤64→(IntKind.i64.wrap (2 ^ (rd t4 x10_4).toNat))=ji2:=fun hle_=>by have h_:=hji53z hle_;rw [Int.one_mul] at h_;exact h_
 have hji53y:(wrap64 (1 * 2 ^ min (rd t4 x10_4).toNat 64))=ji2:=(cH _).symm.trans hji2_
 have hji53x:(rd t4 x10_4)≤64→(wrap64 (1 * 2 ^ (rd t4 x10_4).toNat))=ji2:=fun h_=>(cH _).symm.trans (hji53z h_)
 by_cases c9:a1=2
 case neg =>
  rw [if_neg c9] at H;obtain ⟨c9b0,c9b1⟩:=ef_ c9;obtain ⟨c10b0,H⟩:=i1_ H;obtain ⟨c11b0,H⟩:=i1_ H
  by_cases c12:(rd x5_4 (Go.bits .or .i64 x6_1 (ji2)))=0
  case neg =>
   rw [if_neg c12] at H;obtain ⟨c12b0,c12b1⟩:=ef_ c12;have H':=A0_ H;clear H;have p1:0≤(x10_4:Int):=od_ aE;have q1:x10_4<(t4.length:Int):=od_ aE;obtain ⟨ad1,e1,hx1_0⟩:=Kd.at_int (rr_ HO_3.out).2.2 x10_4 p1 q1;cases e1;replace p1:=eq_true p1;replace q1:=eq_true q1;have p2:0≤((Go.bits .or .i64 x6_1 (ji2)):Int):=od_ aE;have q2:(Go.bits .or .i64 x6_1 (ji2))<(x5_4.length:Int):=od_ aE;obtain ⟨ad2,e2,hx2_0⟩:=Kd.at_int (rr_ HO_1.out).2.2 (Go.bits .or .i64 x6_1 (ji2)) p2 q2;cases e2;replace p2:=eq_true p2;replace q2:=eq_true q2
   go_wp2
   repeat (go_quiet (fail);try go_wp2)
   (try simp only [← hl5_4])
   go_roundg k4
   case measure=>have:=HK1.out;have:=HK2.out;have:=HJ1.out;have:=HK3.out;omega
   exact ⟨(x5_4),(wrap64 (x10_4+1)),aC,H',⟨mE⟩,⟨nU⟩,⟨rC⟩,⟨ry⟩,⟨mC⟩,⟨nT⟩,⟨aY⟩⟩
  rw [if_pos c12] at H;obtain ⟨c12b0,c12b1⟩:=et_ c12;clear c12;obtain ⟨c13b0,H⟩:=i1_ H;obtain ⟨c14b0,H⟩:=i1_ H;obtain ⟨y3,hy3⟩:∃ y_:List Int,y_=(x5_4.set (x6_1:Int).toNat 1):=⟨_,rfl⟩;replace H:(ai.l2 k4 a1 y3 x6_1 t4 (wrap64 (x10_4+1)) a0_0 a0_1 l0_2)=some r:=ir;have Ny3:=A0_ hy3;clear hy3;have H':=A0_ H;clear H;have p1:0≤(x10_4:Int):=od_ aE;have q1:x10_4<(t4.length:Int):=od_ aE;obtain ⟨ad1,e1,hx1_0⟩:=Kd.at_int (rr_ HO_3.out).2.2 x10_4 p1 q1;cases e1;replace p1:=eq_true p1;replace q1:=eq_true q1;have p2:0≤((Go.bits .or .i64 x6_1 (ji2)):Int):=od_ aE;have q2:(Go.bits .or .i64 x6_1 (ji2))<(x5_4.length:Int):=od_ aE;obtain ⟨ad2,e2,hx2_0⟩:=Kd.at_int (rr_ HO_1.out).2.2 (Go.bits .or .i64 x6_1 (ji2)) p2 q2;cases e2;replace p2:=eq_true p2;replace q2:=eq_true q2;have p3:0≤(x6_1:Int):=od_ aE;have q3:(x6_1:Int)<((x5_4.length:Int):Int):=od_ aE;obtain ⟨go76,co6,eo6,gb3,gl76,cl76,HG76⟩:=Kd.R_form HO_1.out bL
  (first|cases eo6|(injection eo6 with ea_ en_ ec_;(first|subst ea_|(injection ea_ with ea_;subst ea_));subst ec_;clear en_))
  have GB76:=A0_ gb3;have GG76:=A0_ HG76;clear gb3 gl76 HG76
  (first|simp only [jm] at hx2_0|skip)
  obtain ⟨hx3_0,hf1_0⟩:=Kd.R_celln 0 HO_1.out (x6_1:Int) p3 q3;replace p3:=eq_true p3;replace q3:=eq_true q3;have HP1:=Kd.R_putg HO_1.out (x6_1:Int) 1
  go_wp2_with (first|((with_reducible refine ed (t:=3) (p:=85) rfl ?_);(try ((first|generalize hq_:World.drewN wr nq=wr|(rw [cZ wr];generalize hq_:World.drewN wr _=wr));have n0_:=A0_ (Kd.R_at hq_ HO_1.out);have n1_:=A0_ (Kd.R_at hq_ HO_3.out);have n2_:=A0_ (Kd.R_at hq_ HO_2.out);have n3_:=A0_ (eo hq_ BK1.out);have n4_:=A0_ (eo hq_ BK2.out);have n5_:=A0_ (e9 hq_ HB.out);clear hq_ HO_1 HO_3 HO_2 BK1 BK2 HB;have HO_1:=n0_;have HO_3:=n1_;have HO_2:=n2_;have BK1:=n3_;have BK2:=n4_;have HB:=n5_;clear n0_ n1_ n2_ n3_ n4_ n5_;(try (have HP1:=Kd.R_putg HO_1.out (x6_1:Int) 1));(try (obtain ⟨hx3_0,hf1_0⟩:=Kd.R_celln 0 HO_1.out (x6_1:Int) (of_eq_true p3) (of_eq_true q3)))));refine dZ (t:=3) (p:=85) (v:=?vo_w78) (w1:=(wr.setCell ⟨go76,(x6_1:Int).toNat,none⟩ (.int .i64 1))) ?hg ?ho ?hn ?hr ?_;(case ho=>rfl);(case hg=>rfl);(case hn=>rfl);(case hr=>go_simp;first|done|rfl);intro w7 hw;have hg:wr.grownBy w7 (some go76):=i4;have hp_:Kd.R (Kd.int .i64) 3 w7 w.heap.size (fun k_=>no_ (.slice (some ad1) t4.length co5) k_∧no_ (.slice Ao4 xa.length co4) k_) (.slice (some ⟨go76,0,none⟩) x5_4.length co1) y3:=i3;clear HP1;replace HO_3:=A0_ (Kd.R_after (v:=(.slice (some ⟨go76,0,none⟩) x5_4.length co1)) (v1:=(.slice (some ⟨go76,0,none⟩) x5_4.length co1)) (ok:=(fun k_=>no_ (.slice Ao4 xa.length co4) k_)) ke hg (.inl rfl));replace HO_2:=A0_ (Kd.R_after (v:=(.slice (some ⟨go76,0,none⟩) x5_4.length co1)) (v1:=(.slice (some ⟨go76,0,none⟩) x5_4.length co1)) (ok:=(fun k_=>no_ (.slice (some ad1) t4.length co5) k_)) gR hg (.inl rfl));replace BK1:=A0_ (a6 (g:=gb1) (o:=.cells #[.int .i64 a0_0,.bool a0_1,.slice A0_2 l0_2.length c0_2] 26 (0,0)) (u1_ BK1) hg (Kd.R_ne HO_1.out BK1.out ao));replace BK2:=A0_ (a6 (g:=gb2) (o:=.cells #[.int .i64 t1,.bool t2,.slice Ao4 xa.length co4] 26 (0,0)) (u1_ BK2) hg (Kd.R_ne HO_1.out BK2.out ao));replace HO_1:=A0_ (hp_);replace HB:=A0_ ((by rw [hw];exact bs_ (HB.out) GB76.out:Below w.heap.size w w7));clear hg hw hp_))
  repeat (go_quiet (first|((with_reducible refine ed (t:=3) (p:=85) rfl ?_);(try ((first|generalize hq_:World.drewN wr nq=wr|(rw [cZ wr];generalize hq_:World.drewN wr _=wr));have n0_:=A0_ (Kd.R_at hq_ HO_1.out);have n1_:=A0_ (Kd.R_at hq_ HO_3.out);have n2_:=A0_ (Kd.R_at hq_ HO_2.out);have n3_:=A0_ (eo hq_ BK1.out);have n4_:=A0_ (eo hq_ BK2.out);have n5_:=A0_ (e9 hq_ HB.out);clear hq_ HO_1 HO_3 HO_2 BK1 BK2 HB;have HO_1:=n0_;have HO_3:=n1_;have HO_2:=n2_;have BK1:=n3_;have BK2:=n4_;have HB:=n5_;clear n0_ n1_ n2_ n3_ n4_ n5_;(try (have HP1:=Kd.R_putg HO_1.out (x6_1:Int) 1));(try (obtain ⟨hx3_0,hf1_0⟩:=Kd.R_celln 0 HO_1.out (x6_1:Int) (of_eq_true p3) (of_eq_true q3)))));refine dZ (t:=3) (p:=85) (v:=?vo_w78) (w1:=(wr.setCell ⟨go76,(x6_1:Int).toNat,none⟩ (.int .i64 1))) ?hg ?ho ?hn ?hr ?_;(case ho=>rfl);(case hg=>rfl);(case hn=>rfl);(case hr=>go_simp;first|done|rfl);intro w7 hw;have hg:wr.grownBy w7 (some go76):=i4;have hp_:Kd.R (Kd.int .i64) 3 w7 w.heap.size (fun k_=>no_ (.slice (some ad1) t4.length co5) k_∧no_ (.slice Ao4 xa.length co4) k_) (.slice (some ⟨go76,0,none⟩) x5_4.length co1) y3:=i3;clear HP1;replace HO_3:=A0_ (Kd.R_after (v:=(.slice (some ⟨go76,0,none⟩) x5_4.length co1)) (v1:=(.slice (some ⟨go76,0,none⟩) x5_4.length co1)) (ok:=(fun k_=>no_ (.slice Ao4 xa.length co4) k_)) ke hg (.inl rfl));replace HO_2:=A0_ (Kd.R_after (v:=(.slice (some ⟨go76,0,none⟩) x5_4.length co1)) (v1:=(.slice (some ⟨go76,0,none⟩) x5_4.length co1)) (ok:=(fun k_=>no_ (.slice (some ad1) t4.length co5) k_)) gR hg (.inl rfl));replace BK1:=A0_ (a6 (g:=gb1) (o:=.cells #[.int .i64 a0_0,.bool a0_1,.slice A0_2 l0_2.length c0_2] 26 (0,0)) (u1_ BK1) hg (Kd.R_ne HO_1.out BK1.out ao));replace BK2:=A0_ (a6 (g:=gb2) (o:=.cells #[.int .i64 t1,.bool t2,.slice Ao4 xa.length co4] 26 (0,0)) (u1_ BK2) hg (Kd.R_ne HO_1.out BK2.out ao));replace HO_1:=A0_ (hp_);replace HB:=A0_ ((by rw [hw];exact bs_ (HB.out) GB76.out:Below w.heap.size w w7));clear hg hw hp_));try go_wp2_with (first|((with_reducible refine ed (t:=3) (p:=85) rfl ?_);(try ((first|generalize hq_:World.drewN wr nq=wr|(rw [cZ wr];generalize hq_:World.drewN wr _=wr));have n0_:=A0_ (Kd.R_at hq_ HO_1.out);have n1_:=A0_ (Kd.R_at hq_ HO_3.out);have n2_:=A0_ (Kd.R_at hq_ HO_2.out);have n3_:=A0_ (eo hq_ BK1.out);have n4_:=A0_ (eo hq_ BK2.out);have n5_:=A0_ (e9 hq_ HB.out);clear hq_ HO_1 HO_3 HO_2 BK1 BK2 HB;have HO_1:=n0_;have HO_3:=n1_;have HO_2:=n2_;have BK1:=n3_;have BK2:=n4_;have HB:=n5_;clear n0_ n1_ n2_ n3_ n4_ n5_;(try (have HP1:=Kd.R_putg HO_1.out (x6_1:Int) 1));(try (obtain ⟨hx3_0,hf1_0⟩:=Kd.R_celln 0 HO_1.out (x6_1:Int) (of_eq_true p3) (of_eq_true q3)))));refine dZ (t:=3) (p:=85) (v:=?vo_w78) (w1:=(wr.setCell ⟨go76,(x6_1:Int).toNat,none⟩ (.int .i64 1))) ?hg ?ho ?hn ?hr ?_;(case ho=>rfl);(case hg=>rfl);(case hn=>rfl);(case hr=>go_simp;first|done|rfl);intro w7 hw;have hg:wr.grownBy w7 (some go76):=i4;have hp_:Kd.R (Kd.int .i64) 3 w7 w.heap.size (fun k_=>no_ (.slice (some ad1) t4.length co5) k_∧no_ (.slice Ao4 xa.length co4) k_) (.slice (some ⟨go76,0,none⟩) x5_4.length co1) y3:=i3;clear HP1;replace HO_3:=A0_ (Kd.R_after (v:=(.slice (some ⟨go76,0,none⟩) x5_4.length co1)) (v1:=(.slice (some ⟨go76,0,none⟩) x5_4.length co1)) (ok:=(fun k_=>no_ (.slice Ao4 xa.length co4) k_)) ke hg (.inl rfl));replace HO_2:=A0_ (Kd.R_after (v:=(.slice (some ⟨go76,0,none⟩) x5_4.length co1)) (v1:=(.slice (some ⟨go76,0,none⟩) x5_4.length co1)) (ok:=(fun k_=>no_ (.slice (some ad1) t4.length co5) k_)) gR hg (.inl rfl));replace BK1:=A0_ (a6 (g:=gb1) (o:=.cells #[.int .i64 a0_0,.bool a0_1,.slice A0_2 l0_2.length c0_2] 26 (0,0)) (u1_ BK1) hg (Kd.R_ne HO_1.out BK1.out ao));replace BK2:=A0_ (a6 (g:=gb2) (o:=.cells #[.int .i64 t1,.bool t2,.slice Ao4 xa.length co4] 26 (0,0)) (u1_ BK2) hg (Kd.R_ne HO_1.out BK2.out ao));replace HO_1:=A0_ (hp_);replace HB:=A0_ ((by rw [hw];exact bs_ (HB.out) GB76.out:Below w.heap.size w w7));clear hg hw hp_)))
  (try simp only [← hl5_4])
  go_roundg k4
  case measure=>have:=HK1.out;have:=HK2.out;have:=HJ1.out;have:=HK3.out;omega
  exact ⟨(y3),(wrap64 (x10_4+1)),aC,H',⟨mE⟩,⟨nU⟩,⟨rB⟩,⟨rz⟩,⟨mC⟩,⟨nT⟩,⟨aY⟩⟩
 rw [if_pos c9] at H;obtain ⟨c9b0,c9b1⟩:=et_ c9;clear c9
 by_cases c10:a0_0=0
 ·rw [if_pos c10] at H
  exact absurd H bx
 rw [if_neg c10] at H;obtain ⟨c10b0,c10b1⟩:=ef_ c10;obtain ⟨ji3,hji3⟩:∃ j_:Int,(Int.tmod (wrap64 ((rd t4 x10_4)+1)) a0_0)=j_:=⟨_,rfl⟩
 replace H:(if 0≤(ji3) then (if 0≤(Go.bits .or .i64 (Go.bits .or .i64 x6_1 (ji2)) (shl .i64 1 (ji3))) then (if (Go.bits .or .i64 (Go.bits .or .i64 x6_1 (ji2)) (shl .i64 1 (ji3)))<(x5_4.length:Int) then (if (rd x5_4 (Go.bits .or .i64 (Go.bits .or .i64 x6_1 (ji2)) (shl .i64 1 (ji3))))=0 then (if 0≤x6_1 then (if x6_1<(x5_4.length:Int) then (ai.l2 k4 a1 (x5_4.set (x6_1:Int).toNat 1) x6_1 t4 (wrap64 (x10_4+1)) a0_0 a0_1 l0_2) else (none)) else (none)) else (ai.l2 k4 a1 x5_4 x6_1 t4 (wrap64 (x10_4+1)) a0_0 a0_1 l0_2)) else (none)) else (none)) else (none))=some r:=by first|(rw [hji3] at H;exact H)|(simp only [hji3] at H ⊢;exact H)
 obtain ⟨c11b0,c11b1,H⟩:=i2_ H;obtain ⟨ji4,hji4⟩:∃ j_:Int,(shl .i64 1 (ji3))=j_:=⟨_,rfl⟩
 replace H:(if 0≤(Go.bits .or .i64 (Go.bits .or .i64 x6_1 (ji2)) (ji4)) then (if (Go.bits .or .i64 (Go.bits .or .i64 x6_1 (ji2)) (ji4))<(x5_4.length:Int) then (if (rd x5_4 (Go.bits .or .i64 (Go.bits .or .i64 x6_1 (ji2)) (ji4)))=0 then (if 0≤x6_1 then (if x6_1<(x5_4.length:Int) then (ai.l2 k4 a1 (x5_4.set (x6_1:Int).toNat 1) x6_1 t4 (wrap64 (x10_4+1)) a0_0 a0_1 l0_2) else (none)) else (none)) else (ai.l2 k4 a1 x5_4 x6_1 t4 (wrap64 (x10_4+1)) a0_0 a0_1 l0_2)) else (none)) else (none))=some r:=by first|(rw [hji4] at H;exact H)|(simp only [hji4] at H ⊢;exact H)
 have hji4_:(IntKind.i64.wrap (1 * 2 ^ min (ji3).toNat 64))=ji4:=hji4;have hji58z:(ji3)≤64→(IntKind.i64.wrap (1 * 2 ^ (ji3).toNat))=ji4:=dB hji4
 have hji58u:(IntKind.i64.wrap (2 ^ min (ji3).toNat 64))=ji4:=by have h_:=hji4_;rw [Int.one_mul] at h_;exact h_
 have hji58v:(ji3)≤64→(IntKind.i64.wrap (2 ^ (ji3).toNat))=ji4:=fun hle_=>by have h_:=hji58z hle_;rw [Int.one_mul] at h_;exact h_
 have hji58y:(wrap64 (1 * 2 ^ min (ji3).toNat 64))=ji4:=(cH _).symm.trans hji4_
 have hji58x:(ji3)≤64→(wrap64 (1 * 2 ^ (ji3).toNat))=ji4:=fun h_=>(cH _).symm.trans (hji58z h_)
 obtain ⟨c12b0,H⟩:=i1_ H;obtain ⟨c13b0,H⟩:=i1_ H
 by_cases c14:(rd x5_4 (Go.bits .or .i64 (Go.bits .or .i64 x6_1 (ji2)) (ji4)))=0
 case neg =>
  rw [if_neg c14] at H;obtain ⟨c14b0,c14b1⟩:=ef_ c14;have H':=A0_ H;clear H;have p1:0≤(x10_4:Int):=od_ aE;have q1:x10_4<(t4.length:Int):=od_ aE;obtain ⟨ad1,e1,hx1_0⟩:=Kd.at_int (rr_ HO_3.out).2.2 x10_4 p1 q1;cases e1;replace p1:=eq_true p1;replace q1:=eq_true q1;have p2:0≤(x10_4:Int):=od_ aE;have q2:x10_4<(t4.length:Int):=od_ aE;obtain ⟨ad2,e2,hx2_0⟩:=Kd.at_int (rr_ HO_3.out).2.2 x10_4 p2 q2;obtain rfl:ad1=ad2:=e5;replace p2:=eq_true p2;replace q2:=eq_true q2;obtain ⟨hnb3,hnc3⟩:=n2_ NB1_2;have hcz6:=z3_ BK1;have p3:0≤((Go.bits .or .i64 (Go.bits .or .i64 x6_1 (ji2)) (ji4)):Int):=od_ aE;have q3:(Go.bits .or .i64 (Go.bits .or .i64 x6_1 (ji2)) (ji4))<(x5_4.length:Int):=od_ aE;obtain ⟨ad3,e3,hx3_0⟩:=Kd.at_int (rr_ HO_1.out).2.2 (Go.bits .or .i64 (Go.bits .or .i64 x6_1 (ji2)) (ji4)) p3 q3;cases e3;replace p3:=eq_true p3;replace q3:=eq_true q3
  go_wp2
  repeat (go_quiet (fail);try go_wp2)
  (try simp only [← hl5_4])
  go_roundg k4
  case measure=>have:=HK1.out;have:=HK2.out;have:=HJ1.out;have:=HK3.out;omega
  exact ⟨(x5_4),(wrap64 (x10_4+1)),aC,H',⟨mE⟩,⟨nU⟩,⟨rC⟩,⟨ry⟩,⟨mC⟩,⟨nT⟩,⟨aY⟩⟩
 rw [if_pos c14] at H;obtain ⟨c14b0,c14b1⟩:=et_ c14;clear c14;obtain ⟨c15b0,H⟩:=i1_ H;obtain ⟨c16b0,H⟩:=i1_ H;obtain ⟨y3,hy3⟩:∃ y_:List Int,y_=(x5_4.set (x6_1:Int).toNat 1):=⟨_,rfl⟩;replace H:(ai.l2 k4 a1 y3 x6_1 t4 (wrap64 (x10_4+1)) a0_0 a0_1 l0_2)=some r:=ir;have Ny3:=A0_ hy3;clear hy3;have H':=A0_ H;clear H;have p1:0≤(x10_4:Int):=od_ aE;have q1:x10_4<(t4.length:Int):=od_ aE;obtain ⟨ad1,e1,hx1_0⟩:=Kd.at_int (rr_ HO_3.out).2.2 x10_4 p1 q1;cases e1;replace p1:=eq_true p1;replace q1:=eq_true q1;have p2:0≤(x10_4:Int):=od_ aE;have q2:x10_4<(t4.length:Int):=od_ aE;obtain ⟨ad2,e2,hx2_0⟩:=Kd.at_int (rr_ HO_3.out).2.2 x10_4 p2 q2;obtain rfl:ad1=ad2:=e5;replace p2:=eq_true p2;replace q2:=eq_true q2;obtain ⟨hnb3,hnc3⟩:=n2_ NB1_2;have hcz6:=z3_ BK1;have p3:0≤((Go.bits .or .i64 (Go.bits .or .i64 x6_1 (ji2)) (ji4)):Int):=od_ aE;have q3:(Go.bits .or .i64 (Go.bits .or .i64 x6_1 (ji2)) (ji4))<(x5_4.length:Int):=od_ aE;obtain ⟨ad3,e3,hx3_0⟩:=Kd.at_int (rr_ HO_1.out).2.2 (Go.bits .or .i64 (Go.bits .or .i64 x6_1 (ji2)) (ji4)) p3 q3;cases e3;replace p3:=eq_true p3;replace q3:=eq_true q3;have p4:0≤(x6_1:Int):=od_ aE;have q4:(x6_1:Int)<((x5_4.length:Int):Int):=od_ aE;obtain ⟨go64,co6,eo6,gb3,gl64,cl64,HG64⟩:=Kd.R_form HO_1.out bL
 (first|cases eo6|(injection eo6 with ea_ en_ ec_;(first|subst ea_|(injection ea_ with ea_;subst ea_));subst ec_;clear en_))
 have GB64:=A0_ gb3;have GG64:=A0_ HG64;clear gb3 gl64 HG64
 (first|simp only [jm] at hx3_0|skip)
 obtain ⟨hx4_0,hf1_0⟩:=Kd.R_celln 0 HO_1.out (x6_1:Int) p4 q4;replace p4:=eq_true p4;replace q4:=eq_true q4;have HP1:=Kd.R_putg HO_1.out (x6_1:Int) 1
 go_wp2_with (first|((with_reducible refine ed (t:=3) (p:=85) rfl ?_);(try ((first|generalize hq_:World.drewN wr nq=wr|(rw [cZ wr];generalize hq_:World.drewN wr _=wr));have n0_:=A0_ (Kd.R_at hq_ HO_1.out);have n1_:=A0_ (Kd.R_at hq_ HO_3.out);have n2_:=A0_ (Kd.R_at hq_ HO_2.out);have n3_:=A0_ (eo hq_ BK1.out);have n4_:=A0_ (eo hq_ BK2.out);have n5_:=A0_ (e9 hq_ HB.out);clear hq_ HO_1 HO_3 HO_2 BK1 BK2 HB;have HO_1:=n0_;have HO_3:=n1_;have HO_2:=n2_;have BK1:=n3_;have BK2:=n4_;have HB:=n5_;clear n0_ n1_ n2_ n3_ n4_ n5_;(try (have HP1:=Kd.R_putg HO_1.out (x6_1:Int) 1));(try (obtain ⟨hx4_0,hf1_0⟩:=Kd.R_celln 0 HO_1.out (x6_1:Int) (of_eq_true p4) (of_eq_true q4)))));refine dZ (t:=3) (p:=85) (v:=?vo_w68) (w1:=(wr.setCell ⟨go64,(x6_1:Int).toNat,none⟩ (.int .i64 1))) ?hg ?ho ?hn ?hr ?_;(case ho=>rfl);(case hg=>rfl);(case hn=>rfl);(case hr=>go_simp;first|done|rfl);intro w7 hw;have hg:wr.grownBy w7 (some go64):=i4;have hp_:Kd.R (Kd.int .i64) 3 w7 w.heap.size (fun k_=>no_ (.slice (some ad1) t4.length co5) k_∧no_ (.slice Ao4 xa.length co4) k_) (.slice (some ⟨go64,0,none⟩) x5_4.length co1) y3:=i3;clear HP1;replace HO_3:=A0_ (Kd.R_after (v:=(.slice (some ⟨go64,0,none⟩) x5_4.length co1)) (v1:=(.slice (some ⟨go64,0,none⟩) x5_4.length co1)) (ok:=(fun k_=>no_ (.slice Ao4 xa.length co4) k_)) ke hg (.inl rfl));replace HO_2:=A0_ (Kd.R_after (v:=(.slice (some ⟨go64,0,none⟩) x5_4.length co1)) (v1:=(.slice (some ⟨go64,0,none⟩) x5_4.length co1)) (ok:=(fun k_=>no_ (.slice (some ad1) t4.length co5) k_)) gR hg (.inl rfl));replace BK1:=A0_ (a6 (g:=gb1) (o:=.cells #[.int .i64 a0_0,.bool a0_1,.slice A0_2 l0_2.length c0_2] 26 (0,0)) (u1_ BK1) hg (Kd.R_ne HO_1.out BK1.out ao));replace BK2:=A0_ (a6 (g:=gb2) (o:=.cells #[.int .i64 t1,.bool t2,.slice Ao4 xa.length co4] 26 (0,0)) (u1_ BK2) hg (Kd.R_ne HO_1.out BK2.out ao));replace HO_1:=A0_ (hp_);replace HB:=A0_ ((by rw [hw];exact bs_ (HB.out) GB64.out:Below w.heap.size w w7));clear hg hw hp_))
 repeat (go_quiet (first|((with_reducible refine ed (t:=3) (p:=85) rfl ?_);(try ((first|generalize hq_:World.drewN wr nq=wr|(rw [cZ wr];generalize hq_:World.drewN wr _=wr));have n0_:=A0_ (Kd.R_at hq_ HO_1.out);have n1_:=A0_ (Kd.R_at hq_ HO_3.out);have n2_:=A0_ (Kd.R_at hq_ HO_2.out);have n3_:=A0_ (eo hq_ BK1.out);have n4_:=A0_ (eo hq_ BK2.out);have n5_:=A0_ (e9 hq_ HB.out);clear hq_ HO_1 HO_3 HO_2 BK1 BK2 HB;have HO_1:=n0_;have HO_3:=n1_;have HO_2:=n2_;have BK1:=n3_;have BK2:=n4_;have HB:=n5_;clear n0_ n1_ n2_ n3_ n4_ n5_;(try (have HP1:=Kd.R_putg HO_1.out (x6_1:Int) 1));(try (obtain ⟨hx4_0,hf1_0⟩:=Kd.R_celln 0 HO_1.out (x6_1:Int) (of_eq_true p4) (of_eq_true q4)))));refine dZ (t:=3) (p:=85) (v:=?vo_w68) (w1:=(wr.setCell ⟨go64,(x6_1:Int).toNat,none⟩ (.int .i64 1))) ?hg ?ho ?hn ?hr ?_;(case ho=>rfl);(case hg=>rfl);(case hn=>rfl);(case hr=>go_simp;first|done|rfl);intro w7 hw;have hg:wr.grownBy w7 (some go64):=i4;have hp_:Kd.R (Kd.int .i64) 3 w7 w.heap.size (fun k_=>no_ (.slice (some ad1) t4.length co5) k_∧no_ (.slice Ao4 xa.length co4) k_) (.slice (some ⟨go64,0,none⟩) x5_4.length co1) y3:=i3;clear HP1;replace HO_3:=A0_ (Kd.R_after (v:=(.slice (some ⟨go64,0,none⟩) x5_4.length co1)) (v1:=(.slice (some ⟨go64,0,none⟩) x5_4.length co1)) (ok:=(fun k_=>no_ (.slice Ao4 xa.length co4) k_)) ke hg (.inl rfl));replace HO_2:=A0_ (Kd.R_after (v:=(.slice (some ⟨go64,0,none⟩) x5_4.length co1)) (v1:=(.slice (some ⟨go64,0,none⟩) x5_4.length co1)) (ok:=(fun k_=>no_ (.slice (some ad1) t4.length co5) k_)) gR hg (.inl rfl));replace BK1:=A0_ (a6 (g:=gb1) (o:=.cells #[.int .i64 a0_0,.bool a0_1,.slice A0_2 l0_2.length c0_2] 26 (0,0)) (u1_ BK1) hg (Kd.R_ne HO_1.out BK1.out ao));replace BK2:=A0_ (a6 (g:=gb2) (o:=.cells #[.int .i64 t1,.bool t2,.slice Ao4 xa.length co4] 26 (0,0)) (u1_ BK2) hg (Kd.R_ne HO_1.out BK2.out ao));replace HO_1:=A0_ (hp_);replace HB:=A0_ ((by rw [hw];exact bs_ (HB.out) GB64.out:Below w.heap.size w w7));clear hg hw hp_));try go_wp2_with (first|((with_reducible refine ed (t:=3) (p:=85) rfl ?_);(try ((first|generalize hq_:World.drewN wr nq=wr|(rw [cZ wr];generalize hq_:World.drewN wr _=wr));have n0_:=A0_ (Kd.R_at hq_ HO_1.out);have n1_:=A0_ (Kd.R_at hq_ HO_3.out);have n2_:=A0_ (Kd.R_at hq_ HO_2.out);have n3_:=A0_ (eo hq_ BK1.out);have n4_:=A0_ (eo hq_ BK2.out);have n5_:=A0_ (e9 hq_ HB.out);clear hq_ HO_1 HO_3 HO_2 BK1 BK2 HB;have HO_1:=n0_;have HO_3:=n1_;have HO_2:=n2_;have BK1:=n3_;have BK2:=n4_;have HB:=n5_;clear n0_ n1_ n2_ n3_ n4_ n5_;(try (have HP1:=Kd.R_putg HO_1.out (x6_1:Int) 1));(try (obtain ⟨hx4_0,hf1_0⟩:=Kd.R_celln 0 HO_1.out (x6_1:Int) (of_eq_true p4) (of_eq_true q4)))));refine dZ (t:=3) (p:=85) (v:=?vo_w68) (w1:=(wr.setCell ⟨go64,(x6_1:Int).toNat,none⟩ (.int .i64 1))) ?hg ?ho ?hn ?hr ?_;(case ho=>rfl);(case hg=>rfl);(case hn=>rfl);(case hr=>go_simp;first|done|rfl);intro w7 hw;have hg:wr.grownBy w7 (some go64):=i4;have hp_:Kd.R (Kd.int .i64) 3 w7 w.heap.size (fun k_=>no_ (.slice (some ad1) t4.length co5) k_∧no_ (.slice Ao4 xa.length co4) k_) (.slice (some ⟨go64,0,none⟩) x5_4.length co1) y3:=i3;clear HP1;replace HO_3:=A0_ (Kd.R_after (v:=(.slice (some ⟨go64,0,none⟩) x5_4.length co1)) (v1:=(.slice (some ⟨go64,0,none⟩) x5_4.length co1)) (ok:=(fun k_=>no_ (.slice Ao4 xa.length co4) k_)) ke hg (.inl rfl));replace HO_2:=A0_ (Kd.R_after (v:=(.slice (some ⟨go64,0,none⟩) x5_4.length co1)) (v1:=(.slice (some ⟨go64,0,none⟩) x5_4.length co1)) (ok:=(fun k_=>no_ (.slice (some ad1) t4.length co5) k_)) gR hg (.inl rfl));replace BK1:=A0_ (a6 (g:=gb1) (o:=.cells #[.int .i64 a0_0,.bool a0_1,.slice A0_2 l0_2.length c0_2] 26 (0,0)) (u1_ BK1) hg (Kd.R_ne HO_1.out BK1.out ao));replace BK2:=A0_ (a6 (g:=gb2) (o:=.cells #[.int .i64 t1,.bool t2,.slice Ao4 xa.length co4] 26 (0,0)) (u1_ BK2) hg (Kd.R_ne HO_1.out BK2.out ao));replace HO_1:=A0_ (hp_);replace HB:=A0_ ((by rw [hw];exact bs_ (HB.out) GB64.out:Below w.heap.size w w7));clear hg hw hp_)))
 (try simp only [← hl5_4])
 go_roundg k4
 case measure=>have:=HK1.out;have:=HK2.out;have:=HJ1.out;have:=HK3.out;omega
 exact ⟨(y3),(wrap64 (x10_4+1)),aC,H',⟨mE⟩,⟨nU⟩,⟨rB⟩,⟨rz⟩,⟨mC⟩,⟨nT⟩,⟨aY⟩⟩

mutual
def aT.j0:Nat→Int→Bool→Int→Bool→List Int→Option (Bool × Bool)
 | 0,_,_,_,_,_=>none
 | k+1,x1,x15,xa,xb,xc=>if x15=true then (some (false,false)) else (aT.l0 k x1 0 0 xa xb xc)
def aT.l0:Nat→Int→Int→Int→Int→Bool→List Int→Option (Bool × Bool)
 | 0,_,_,_,_,_,_=>none
 | k+1,x1,x6,x7,xb,xc,xa=>if x7<(xa.length:Int) then (if 0≤x7 then (if 0≤(rd xa x7) then (aT.l0 k x1 (Go.bits .or .i64 x6 (shl .i64 1 (rd xa x7))) (wrap64 (x7+1)) xb xc xa) else (none)) else (none)) else ((ai.f k xb xc xa x1).bind fun t772=>(if 0≤x6 then (if x6<(t772.length:Int) then (some (((rd t772 x6) == 1),true)) else (none)) else (none)))
end
def aT.f (k:Nat) (a0_0:Int) (a0_1:Bool) (l0_2:List Int) (a1:Int):Option (Bool × Bool):=(db.f k a0_0 a0_1 l0_2).bind fun t769=>(if t769=true then ((bG.f a1).bind fun t770=>(aT.j0 k a1 (!t770) a0_0 a0_1 l0_2)) else (aT.j0 k a1 true a0_0 a0_1 l0_2))
theorem aT.mono_l:∀ k,(∀ y0 y1 y2 y3 y4,LeO (aT.j0 k y0 y1 y2 y3 y4) (aT.j0 (k+1) y0 y1 y2 y3 y4))∧(∀ y0 y1 y2 y3 y4 y5,LeO (aT.l0 k y0 y1 y2 y3 y4 y5) (aT.l0 (k+1) y0 y1 y2 y3 y4 y5))
 | 0=>⟨fun _ _ _ _ _ r h=>by simp [aT.j0] at h,fun _ _ _ _ _ _ r h=>by simp [aT.l0] at h⟩
 | k+1=>by
  obtain ⟨ih0,ih1⟩:=aT.mono_l k
  refine ⟨?_,?_⟩
  ·intro y0 y1 y2 y3 y4
   unfold aT.j0
   repeat' with_reducible first|exact ih0 ..|exact ih1 ..|exact ai.mono ..|exact db.mono ..|exact LeO.refl ..|exact LeO.none ..|refine LeO.ite ?_ ?_|refine LeO.bind ?_ (fun _=>?_)
  ·intro y0 y1 y2 y3 y4 y5
   unfold aT.l0
   repeat' with_reducible first|exact ih0 ..|exact ih1 ..|exact ai.mono ..|exact db.mono ..|exact LeO.refl ..|exact LeO.none ..|refine LeO.ite ?_ ?_|refine LeO.bind ?_ (fun _=>?_)
theorem aT.mono:∀ a0 a1 a2 a3 k,LeO (aT.f k a0 a1 a2 a3) (aT.f (k+1) a0 a1 a2 a3):=by
 intro a0 a1 a2 a3 k;obtain ⟨ih0,ih1⟩:=aT.mono_l k;unfold aT.f
 repeat' with_reducible first|exact ih0 ..|exact ih1 ..|exact ai.mono ..|exact db.mono ..|exact LeO.refl ..|exact LeO.none ..|refine LeO.ite ?_ ?_|refine LeO.bind ?_ (fun _=>?_)
theorem aT.calls (k:Nat) (a0_0:Int) (a0_1:Bool) (A0_2:Option Addr) (c0_2:Nat) (l0_2:List Int) (a1:Int) (r1:Bool) (r2:Bool) (w:World) (hr0_2:Kd.C (Kd.int .i64) w A0_2 l0_2.length l0_2) (hc0_2:l0_2.length≤c0_2) (H:aT.f k a0_0 a0_1 l0_2 a1=some (r1,r2)) :
  Calls Tryd.prog 31 #[.agg #[.int .i64 a0_0,.bool a0_1,.slice A0_2 l0_2.length c0_2],.int .i64 a1] w fun e w'=>e=.returned (.tuple #[.bool r1,.bool r2])∧Below w.heap.size w w':=by
 have hu26:=Tryd.underlying26;have HR0_2:=A0_ hr0_2;have HC0_2:=A0_ hc0_2;clear hr0_2 hc0_2;have HB:=A0_ (Below.refl w.heap.size w);unfold aT.f at H;have HC3:=A0_ H;clear H;go_enter Tryd.func31,Tryd.ntmps31
 go_upto_region 1 with (first|((with_reducible refine gd_ (N:=2) rfl ?_);refine bx_ 2 #[.int .i64 a0_0,.bool a0_1,.slice A0_2 l0_2.length c0_2] 26 ?_;intro gb1 hg w1 BK1 hb;have GW1:=ge_ hg am;have GE1:=GW1;replace HB:=hb_ hb am;clear hb hg))
 (try simp only [Act.put,sa_,sz_,ss_])
 go_cut [15] (fun v1 wc=>∃ (kq:Nat) (x15_2:Bool),v1=.bool x15_2∧Aside0 (aT.j0 kq a1 x15_2 a0_0 a0_1 l0_2=some (r1,r2))∧Aside0 (kq≤k)∧Aside0 (wc.heap[gb1]?=some (.cells #[.int .i64 a0_0,.bool a0_1,(.slice A0_2 l0_2.length c0_2)] 26 (0,0)))∧Aside0 (Below w.heap.size w wc))
 case first =>
  have H:=HC3.out;clear HC3;obtain ⟨t1,A2,H⟩:=o1_ H
  by_cases c1:t1=true
  case neg =>
   obtain rfl:=bf_.mpr c1;rw [if_neg ft_] at H;have H':=A0_ H;clear H;have hcz1:=c3_ BK1
   go_wp2_with (first|((with_reducible refine gc_ (f:=65) rfl ?_);refine gl_ 9 Tryd.func65 #[.agg #[.int .i64 a0_0,.bool a0_1,.slice A0_2 l0_2.length c0_2]] ?_;(with_reducible refine (db.calls k a0_0 a0_1 _ _ l0_2 false _ ?_ ?_ A2.out).mono ?_);exact bn;exact HC0_2.out;rintro e w2 ⟨rfl,hb⟩;refine ⟨_,rfl,?_⟩;replace BK1:=k1_ BK1 hb;replace HB:=hb_ hb ab;(try clear hb)))
   go_meet
   exact ⟨_,(true),aC,H',⟨eH⟩,⟨u1_ BK1⟩,⟨ab⟩⟩
  subst c1;rw [if_pos rfl] at H;obtain ⟨t2,A4,H⟩:=o1_ H;have H':=A0_ H;clear H;have hcz1:=c3_ BK1
  go_wp2_with (first|((with_reducible refine gc_ (f:=65) rfl ?_);refine gl_ 9 Tryd.func65 #[.agg #[.int .i64 a0_0,.bool a0_1,.slice A0_2 l0_2.length c0_2]] ?_;(with_reducible refine (db.calls k a0_0 a0_1 _ _ l0_2 true _ ?_ ?_ A2.out).mono ?_);exact bn;exact HC0_2.out;rintro e w2 ⟨rfl,hb⟩;refine ⟨_,rfl,?_⟩;replace BK1:=k1_ BK1 hb;replace HB:=hb_ hb ab;(try clear hb))|(go_at_call 36;(with_reducible refine (bG.calls a1 t2 _ A4.out).mono ?_);rintro e w' ⟨rfl,⟨nd,rfl⟩⟩))
  go_meet
  exact ⟨_,(!t2),aC,H',⟨eH⟩,⟨u1_ BK1⟩,⟨ab⟩⟩
 clear HC3;obtain ⟨kq,x15_2,rfl,HA,HJ1,BK1,HB⟩:=hcut
 cases kq with|zero=>exact absurd HA.out (by simp [aT.j0])|succ kj1=>?_
 have H:=HA.out;clear HA;simp only [aT.j0] at H
 by_cases c1:x15_2=true
 ·subst c1
  rw [if_pos rfl] at H;simp only [sj_,pj_] at H;obtain ⟨rfl,rfl⟩:=H
  go_wp2
  go_ret2
  exact ⟨bc,ab⟩
 obtain rfl:=bf_.mpr c1;rw [if_neg ft_] at H;have H':=A0_ H;clear H
 go_wp2
 go_loopg [6,7] kj1 (fun kq v2 v3 w'=>∃ (x6_2:Int) (x7_2:Int),v2=.int .i64 x6_2∧v3=.int .i64 x7_2∧Aside0 (aT.l0 kq a1 x6_2 x7_2 a0_0 a0_1 l0_2=some (r1,r2))∧Aside0 (kq≤kj1)∧Aside0 (w'.heap[gb1]?=some (.cells #[.int .i64 a0_0,.bool a0_1,(.slice A0_2 l0_2.length c0_2)] 26 (0,0)))∧Aside0 (Below w.heap.size w w'))
 case atStart=>exact ⟨(0),(0),aC,aC,H',⟨Nat.le_refl _⟩,⟨u1_ BK1⟩,⟨ab⟩⟩
 clear H'
 try clear c1
 obtain ⟨x6_2,x7_2,rfl,rfl,HA,HK1,BK1,HB⟩:=hrel
 cases gk with|zero=>exact absurd HA.out (by simp [aT.l0])|succ k2=>?_
 have H:=HA.out;clear HA;simp only [aT.l0] at H
 by_cases c2:x7_2<(l0_2.length:Int)
 case neg =>
  rw [if_neg c2] at H;have c2b0:decide (x7_2<(l0_2.length:Int))=false:=decide_eq_false c2;clear c2;obtain ⟨t3,A2,H⟩:=o1_ H;obtain ⟨c3b0,H⟩:=i1_ H;obtain ⟨c4b0,H⟩:=i1_ H;simp only [sj_,pj_] at H;obtain ⟨rfl,rfl⟩:=H;have hcz1:=c3_ BK1
  go_wp2_with (first|((with_reducible refine gc_ (f:=66) rfl ?_);refine gl_ 33 Tryd.func66 #[.agg #[.int .i64 a0_0,.bool a0_1,.slice A0_2 l0_2.length c0_2],.int .i64 a1] ?_;(with_reducible refine (ai.calls k2 a0_0 a0_1 _ _ l0_2 a1 t3 _ ?_ ?_ A2.out).mono ?_);exact bn;exact HC0_2.out;rintro e w2 ⟨v4,rfl,ho0,hb⟩;refine ⟨_,rfl,?_⟩;have HO1:=A0_ (Kd.R_lower ho0 (bz_ ab));replace BK1:=k1_ BK1 hb;replace HB:=hb_ hb ab;(try clear hb ho0);obtain ⟨Ao1,co1,eo1⟩:=Kd.R_slice HO1.out;subst eo1;have p1:0≤(x6_2:Int):=od_ aE;have q1:x6_2<(t3.length:Int):=od_ aE;obtain ⟨ad1,e1,hx1_0⟩:=Kd.at_int (rr_ HO1.out).2.2 x6_2 p1 q1;cases e1;replace p1:=eq_true p1;replace q1:=eq_true q1))
  go_ret2
  exact ⟨bc,ab⟩
 rw [if_pos c2] at H;have c2b0:decide (x7_2<(l0_2.length:Int))=true:=dt_ c2;clear c2;obtain ⟨c3b0,H⟩:=i1_ H;obtain ⟨c4b0,c4b1,H⟩:=i2_ H;obtain ⟨ji1,hji1⟩:∃ j_:Int,(shl .i64 1 (rd l0_2 x7_2))=j_:=⟨_,rfl⟩;replace H:(aT.l0 k2 a1 (Go.bits .or .i64 x6_2 (ji1)) (wrap64 (x7_2+1)) a0_0 a0_1 l0_2)=some (r1,r2):=eY;have hji1_:(IntKind.i64.wrap (1 * 2 ^ min (rd l0_2 x7_2).toNat 64))=ji1:=hji1;have hji16z:(rd l0_2 x7_2)≤64→(IntKind.i64.wrap (1 * 2 ^ (rd l0_2 x7_2).toNat))=ji1:=dB hji1
 have hji16u:(IntKind.i64.wrap (2 ^ min (rd l0_2 x7_2).toNat 64))=ji1:=by have h_:=hji1_;rw [Int.one_mul] at h_;exact h_
 have hji16v:(rd l0_2 x7_2)≤64→(IntKind.i64.wrap (2 ^ (rd l0_2 x7_2).toNat))=ji1:=fun hle_=>by have h_:=hji16z hle_;rw [Int.one_mul] at h_;exact h_
 have hji16y:(wrap64 (1 * 2 ^ min (rd l0_2 x7_2).toNat 64))=ji1:=(cH _).symm.trans hji1_
 have hji16x:(rd l0_2 x7_2)≤64→(wrap64 (1 * 2 ^ (rd l0_2 x7_2).toNat))=ji1:=fun h_=>(cH _).symm.trans (hji16z h_)
 have H':=A0_ H;clear H;have hcz1:=c3_ BK1;have p1:0≤(x7_2:Int):=od_ aE;have q1:x7_2<(l0_2.length:Int):=od_ aE;obtain ⟨ad1,e1,hx1_0⟩:=Kd.at_int HR0_2.out x7_2 p1 q1;cases e1;replace hx1_0:=(HB.out.cell (World.block_lt_of_cell? w _ hx1_0)).trans hx1_0;replace p1:=eq_true p1;replace q1:=eq_true q1
 go_wp2
 go_roundg k2
 case measure=>have:=HJ1.out;have:=HK1.out;omega
 exact ⟨(Go.bits .or .i64 x6_2 (ji1)),(wrap64 (x7_2+1)),kd,aC,H',⟨by have:=HJ1.out;have:=HK1.out;omega⟩,⟨u1_ BK1⟩,⟨ab⟩⟩

theorem cj.clo (br:Nat) (s_:Int) (b_:Bool) (A_:Option Addr) (n_ c_:Nat) (p_ t_:Int) (w:World) (hBR:w.heap[br]?=some (.cells #[.int .i64 s_,.bool b_,.slice A_ n_ c_] 26 (0,0))) (h:some (wrap64 (wrap64 (s_ - 1) - p_))=some t_) :
  Calls Tryd.prog 69 #[.int .i64 p_,.pointer (some ⟨br,0,none⟩)] w fun e w'=>e=.returned (.int .i64 t_)∧∃ nd,w'=w.drewN nd:=by
 have hu26:=Tryd.underlying26;obtain rfl:=si_ h;have hc0:w.cell? ⟨br,0,none⟩=some (.int .i64 s_):=(kc_ hBR 0).trans rfl;clear hBR;go_enter Tryd.func69,Tryd.ntmps69
 go_wp2
 go_ret
 exact ⟨by first|rfl|simp,_,by first|rfl|exact (World.drewN_zero _).symm⟩
def aM.l0:Nat→Int→Int→List Int→Int→Int→Int→Bool→List Int→Option (Int × Bool × List Int)
 | 0,_,_,_,_,_,_,_,_=>none
 | k+1,x1,x5,x9,x10,x11,xa,xb,xc=>if x11<x10 then (if 0≤x11 then (if x11<(x9.length:Int) then ((some (wrap64 (wrap64 (x1 - 1) - (rd x9 x11)))).bind fun t779=>(if 0≤t779 then (aM.l0 k x1 (Go.bits .or .u32 x5 (shl .u32 1 t779)) x9 x10 (wrap64 (x11+1)) xa xb xc) else (none))) else (none)) else (none)) else ((bd.f xa xb xc).bind fun bt780=>((bE.f k bt780.1 bt780.2 x5).bind fun bt782=>(some (bt782.1,bt782.2.1,bt782.2.2))))
def aM.f (k:Nat) (a0_0:Int) (a0_1:Bool) (l0_2:List Int) (a1:Int):Option (Int × Bool × List Int):=aM.l0 k a1 0 l0_2 (l0_2.length:Int) 0 a0_0 a0_1 l0_2
theorem aM.mono_l:∀ k,(∀ y0 y1 y2 y3 y4 y5 y6 y7,LeO (aM.l0 k y0 y1 y2 y3 y4 y5 y6 y7) (aM.l0 (k+1) y0 y1 y2 y3 y4 y5 y6 y7))
 | 0=>fun _ _ _ _ _ _ _ _ r h=>by simp [aM.l0] at h
 | k+1=>by
  have ih0:=aM.mono_l k
  ·intro y0 y1 y2 y3 y4 y5 y6 y7
   unfold aM.l0
   repeat' with_reducible first|exact ih0 ..|exact bE.mono ..|exact LeO.refl ..|exact LeO.none ..|refine LeO.ite ?_ ?_|refine LeO.bind ?_ (fun _=>?_)
theorem aM.mono:∀ a0 a1 a2 a3 k,LeO (aM.f k a0 a1 a2 a3) (aM.f (k+1) a0 a1 a2 a3):=by
 intro a0 a1 a2 a3 k;have ih0:=aM.mono_l k;unfold aM.f
 repeat' with_reducible first|exact ih0 ..|exact bE.mono ..|exact LeO.refl ..|exact LeO.none ..|refine LeO.ite ?_ ?_|refine LeO.bind ?_ (fun _=>?_)
theorem aM.calls (k:Nat) (a0_0:Int) (a0_1:Bool) (A0_2:Option Addr) (c0_2:Nat) (l0_2:List Int) (a1:Int) (r1:Int) (r2:Bool) (r3:List Int) (w:World) (hr0_2:Kd.C (Kd.int .i64) w A0_2 l0_2.length l0_2) (hc0_2:l0_2.length≤c0_2) (br:Nat) (b_:Bool) (A_:Option Addr) (n_ c_:Nat) (hBR:w.heap[br]?=some (.cells #[.int .i64 a1,.bool b_,.slice A_ n_ c_] 26 (0,0))) (hG:TabOK w) (H:aM.f k a0_0 a0_1 l0_2 a1=some (r1,r2,r3)) :
  Calls Tryd.prog 68 #[.agg #[.int .i64 a0_0,.bool a0_1,.slice A0_2 l0_2.length c0_2],.func (.func 69) #[] #[.pointer (some ⟨br,0,none⟩)]] w fun e w'=>∃ v2_:Value,e=.returned (.agg #[.int .i64 r1,.bool r2,v2_])∧Kd.R (Kd.int .i64) 3 w' w.heap.size (fun _=>True) v2_ r3∧Below w.heap.size w w':=by
 have HG0:=A0_ hG;clear hG;have HBR:=A0_ hBR;clear hBR;have hu26:=Tryd.underlying26;have HR0_2:=A0_ hr0_2;have HC0_2:=A0_ hc0_2;clear hr0_2 hc0_2;have HB:=A0_ (Below.refl w.heap.size w);unfold aM.f at H;have H':=A0_ H;clear H;go_enter Tryd.func68,Tryd.ntmps68
 go_wp2_with (first|((with_reducible refine gd_ (N:=2) rfl ?_);refine bx_ 2 #[.int .i64 a0_0,.bool a0_1,.slice A0_2 l0_2.length c0_2] 26 ?_;intro gb1 hg w1 BK1 hb;have GW1:=ge_ hg am;have GE1:=GW1;replace HB:=hb_ hb am;clear hb hg)|((with_reducible refine gd_ (N:=4) rfl ?_);refine bx_ 4 #[.int .i64 0,.bool false,.slice none 0 0] 26 ?_;intro gb2 hg w2 BK2 hb;have GW2:=ge_ hg ab;have GE2:=GW2;replace HB:=hb_ hb ab;obtain ⟨NB1_2,NB2_1⟩:=nn_ hg BK1;replace BK1:=k1_ BK1 hb;clear hb hg;obtain ⟨hnb1,hnc1⟩:=n2_ NB1_2;have hcz1:=z3_ BK1))
 go_loopg [5,11] k (fun kq v1 v3 w'=>∃ (x5_1:Int) (x11_1:Int),v1=.int .u32 x5_1∧v3=.int .i64 x11_1∧Aside0 (aM.l0 kq a1 x5_1 l0_2 (l0_2.length:Int) x11_1 a0_0 a0_1 l0_2=some (r1,r2,r3))∧Aside0 (kq≤k)∧Aside0 (w'.heap[gb1]?=some (.cells #[.int .i64 a0_0,.bool a0_1,(.slice A0_2 l0_2.length c0_2)] 26 (0,0)))∧Aside0 (w'.heap[gb2]?=some (.cells #[.int .i64 0,.bool false,(.slice none 0 0)] 26 (0,0)))∧Aside0 (Below w.heap.size w w'))
 case atStart=>exact ⟨(0),(0),aC,aC,H',⟨Nat.le_refl _⟩,⟨u1_ BK1⟩,⟨u1_ BK2⟩,⟨aY⟩⟩
 clear H'
 (try clear hcz1);(try clear hfz1)
 obtain ⟨x5_1,x11_1,rfl,rfl,HA,HK1,BK1,BK2,HB⟩:=hrel
 cases gk with|zero=>exact absurd HA.out (by simp [aM.l0])|succ k1=>?_
 have H:=HA.out;clear HA;simp only [aM.l0] at H
 by_cases c1:x11_1<(l0_2.length:Int)
 ·rw [if_pos c1] at H
  have c1b0:decide (x11_1<(l0_2.length:Int))=true:=dt_ c1;clear c1;obtain ⟨c2b0,H⟩:=i1_ H;obtain ⟨c3b0,H⟩:=i1_ H;obtain ⟨t1,A2,H⟩:=o1_ H;obtain ⟨c4b0,c4b1,H⟩:=i2_ H;obtain ⟨ji1,hji1⟩:∃ j_:Int,(shl .u32 1 t1)=j_:=⟨_,rfl⟩;replace H:(aM.l0 k1 a1 (Go.bits .or .u32 x5_1 (ji1)) l0_2 (l0_2.length:Int) (wrap64 (x11_1+1)) a0_0 a0_1 l0_2)=some (r1,r2,r3):=eY
  (try rw [hji1] at A2)
  have hji1_:(IntKind.u32.wrap (1 * 2 ^ min t1.toNat 32))=ji1:=hji1;have hji12z:t1≤32→(IntKind.u32.wrap (1 * 2 ^ t1.toNat))=ji1:=dB hji1
  have hji12u:(IntKind.u32.wrap (2 ^ min t1.toNat 32))=ji1:=by have h_:=hji1_;rw [Int.one_mul] at h_;exact h_
  have hji12v:t1≤32→(IntKind.u32.wrap (2 ^ t1.toNat))=ji1:=fun hle_=>by have h_:=hji12z hle_;rw [Int.one_mul] at h_;exact h_
  have H':=A0_ H;clear H;have p1:0≤(x11_1:Int):=od_ aE;have q1:x11_1<(l0_2.length:Int):=od_ aE;obtain ⟨ad1,e1,hx1_0⟩:=Kd.at_int HR0_2.out x11_1 p1 q1;cases e1;replace hx1_0:=(HB.out.cell (World.block_lt_of_cell? w _ hx1_0)).trans hx1_0;replace p1:=eq_true p1;replace q1:=eq_true q1
  go_wp2_with (first|(go_at_call 69;refine (cj.clo br a1 b_ A_ n_ c_ (rd l0_2 x11_1) t1 _ (by (with_reducible repeat (first|apply kn_|apply kd_|apply ka_));exact kb_ HBR.out HB.out) A2.out).mono ?_;rintro e w' ⟨rfl,⟨nd,rfl⟩⟩))
  go_roundg k1
  case measure=>have:=HK1.out;omega
  exact ⟨(Go.bits .or .u32 x5_1 (ji1)),(wrap64 (x11_1+1)),kd,aC,H',⟨de⟩,⟨u1_ BK1⟩,⟨u1_ BK2⟩,⟨aY⟩⟩
 rw [if_neg c1] at H;have c1b0:decide (x11_1<(l0_2.length:Int))=false:=decide_eq_false c1;clear c1;obtain ⟨⟨t1,t2⟩,A2,H⟩:=o1_ H;obtain ⟨⟨t3,t4,t5⟩,A4,H⟩:=o1_ H;replace H:(some (t3,t4,t5))=some (r1,r2,r3):=H;simp only [sj_,pj_] at H;obtain ⟨rfl,rfl,rfl⟩:=H;obtain ⟨hnb2,hnc2⟩:=n2_ NB1_2;have hcz2:=z3_ BK1
 go_wp2_with (first|((with_reducible refine gc_ (f:=42) rfl ?_);refine gl_ 23 Tryd.func42 #[.agg #[.int .i64 a0_0,.bool a0_1,.slice A0_2 l0_2.length c0_2]] ?_;(with_reducible refine (bd.calls a0_0 a0_1 _ _ l0_2 t1 t2 _ ?_ ?_ A2.out).mono ?_);exact bn;exact HC0_2.out;rintro e w3 ⟨rfl,hb⟩;refine ⟨_,rfl,?_⟩;replace BK1:=k1_ BK1 hb;replace BK2:=k1_ BK2 hb;replace HB:=hb_ hb aY;(try clear hb))|((with_reducible refine gc_ (f:=45) rfl ?_);refine gl_ 25 Tryd.func45 #[.agg #[.int .i64 t1,.bool t2],.int .u32 x5_1] ?_;(with_reducible refine (bE.calls k1 t1 t2 x5_1 t3 t4 t5 _ nK A4.out).mono ?_);rintro e w4 ⟨v4,rfl,ho0,hb⟩;refine ⟨_,rfl,?_⟩;have HO1:=A0_ (Kd.R_lower ho0 (bz_ aY));replace BK1:=k1_ BK1 hb;replace BK2:=k1_ BK2 hb;replace HB:=hb_ hb aY;(try clear hb ho0);have hcz3:=z3_ BK2;obtain ⟨Ao1,co1,eo1⟩:=Kd.R_slice HO1.out;subst eo1))
 refine bodyPost_ret (results_cell_row rfl _ _ gb2 26 #[.int .i64 t3,.bool t4,.slice Ao1 t5.length co1] (0,0) _ rfl (u1_ BK2) Tryd.underlying26 rfl bS) rfl ?_
 exact ⟨_,bc,kj,aY⟩
def cj.f (k:Nat) (a0_0:Int) (a0_1:Bool) (l0_2:List Int):Option (Int × Bool × List Int × Bool):=(bH.f k a0_0 a0_1 l0_2).bind fun t789=>(if t789=true then ((aM.f k a0_0 a0_1 l0_2 a0_0).bind fun bt790=>(some (bt790.1,bt790.2.1,bt790.2.2,true))) else (some (0,false,([]:List Int),false)))
theorem cj.mono:∀ a0 a1 a2 k,LeO (cj.f k a0 a1 a2) (cj.f (k+1) a0 a1 a2):=by
 intro a0 a1 a2 k;unfold cj.f
 repeat' with_reducible first|exact bH.mono ..|exact aM.mono ..|exact LeO.refl ..|exact LeO.none ..|refine LeO.ite ?_ ?_|refine LeO.bind ?_ (fun _=>?_)
theorem cj.calls (k:Nat) (a0_0:Int) (a0_1:Bool) (A0_2:Option Addr) (c0_2:Nat) (l0_2:List Int) (r1:Int) (r2:Bool) (r3:List Int) (r4:Bool) (w:World) (hr0_2:Kd.C (Kd.int .i64) w A0_2 l0_2.length l0_2) (hc0_2:l0_2.length≤c0_2) (hG:TabOK w) (H:cj.f k a0_0 a0_1 l0_2=some (r1,r2,r3,r4)) :
  Calls Tryd.prog 32 #[.agg #[.int .i64 a0_0,.bool a0_1,.slice A0_2 l0_2.length c0_2]] w fun e w'=>∃ v2_:Value,e=.returned (.tuple #[.agg #[.int .i64 r1,.bool r2,v2_],.bool r4])∧Kd.R (Kd.int .i64) 3 w' w.heap.size (fun _=>True) v2_ r3∧Below w.heap.size w w':=by
 have HG0:=A0_ hG;clear hG;have hu26:=Tryd.underlying26;have HR0_2:=A0_ hr0_2;have HC0_2:=A0_ hc0_2;clear hr0_2 hc0_2;have HB:=A0_ (Below.refl w.heap.size w);unfold cj.f at H;obtain ⟨t1,A2,H⟩:=o1_ H
 by_cases c1:t1=true
 case neg =>
  obtain rfl:=bf_.mpr c1;rw [if_neg ft_] at H;simp only [sj_,pj_] at H;obtain ⟨rfl,rfl,rfl,rfl⟩:=H;go_enter Tryd.func32,Tryd.ntmps32
  go_wp2_with (first|((with_reducible refine gd_ (N:=1) rfl ?_);refine bx_ 1 #[.int .i64 a0_0,.bool a0_1,.slice A0_2 l0_2.length c0_2] 26 ?_;intro gb1 hg w1 BK1 hb;have GW1:=ge_ hg am;have GE1:=GW1;replace HB:=hb_ hb am;clear hb hg)|((with_reducible refine gd_ (N:=2) rfl ?_);refine bx_ 2 #[.int .i64 0,.bool false,.slice none 0 0] 26 ?_;intro gb2 hg w2 BK2 hb;have GW2:=ge_ hg ab;have GE2:=GW2;replace HB:=hb_ hb ab;obtain ⟨NB1_2,NB2_1⟩:=nn_ hg BK1;replace BK1:=k1_ BK1 hb;clear hb hg;obtain ⟨hnb1,hnc1⟩:=n2_ NB1_2;have hcz1:=z3_ BK1)|((with_reducible refine gc_ (f:=67) rfl ?_);refine gl_ 5 Tryd.func67 #[.agg #[.int .i64 a0_0,.bool a0_1,.slice A0_2 l0_2.length c0_2]] ?_;(with_reducible refine (bH.calls k a0_0 a0_1 _ _ l0_2 false _ ?_ ?_ A2.out).mono ?_);exact bn;exact HC0_2.out;rintro e w3 ⟨rfl,hb⟩;refine ⟨_,rfl,?_⟩;replace BK1:=k1_ BK1 hb;replace BK2:=k1_ BK2 hb;replace HB:=hb_ hb aY;(try clear hb);have hcz2:=z3_ BK2))
  refine bodyPost_ret (cY rfl _ _ gb2 26 #[.int .i64 0,.bool false,.slice none 0 0] (0,0) _ rfl (u1_ BK2) Tryd.underlying26 rfl bS) rfl ?_
  exact ⟨_,bc,iu,aY⟩
 subst c1;rw [if_pos rfl] at H;obtain ⟨⟨t2,t3,t4⟩,A4,H⟩:=o1_ H;replace H:(some (t2,t3,t4,true))=some (r1,r2,r3,r4):=H;simp only [sj_,pj_] at H;obtain ⟨rfl,rfl,rfl,rfl⟩:=H;go_enter Tryd.func32,Tryd.ntmps32
 go_wp2_with (first|((with_reducible refine gd_ (N:=1) rfl ?_);refine bx_ 1 #[.int .i64 a0_0,.bool a0_1,.slice A0_2 l0_2.length c0_2] 26 ?_;intro gb1 hg w1 BK1 hb;have GW1:=ge_ hg am;have GE1:=GW1;replace HB:=hb_ hb am;clear hb hg)|((with_reducible refine gd_ (N:=2) rfl ?_);refine bx_ 2 #[.int .i64 0,.bool false,.slice none 0 0] 26 ?_;intro gb2 hg w2 BK2 hb;have GW2:=ge_ hg ab;have GE2:=GW2;replace HB:=hb_ hb ab;obtain ⟨NB1_2,NB2_1⟩:=nn_ hg BK1;replace BK1:=k1_ BK1 hb;clear hb hg;obtain ⟨hnb1,hnc1⟩:=n2_ NB1_2;have hcz1:=z3_ BK1)|((with_reducible refine gc_ (f:=67) rfl ?_);refine gl_ 5 Tryd.func67 #[.agg #[.int .i64 a0_0,.bool a0_1,.slice A0_2 l0_2.length c0_2]] ?_;(with_reducible refine (bH.calls k a0_0 a0_1 _ _ l0_2 true _ ?_ ?_ A2.out).mono ?_);exact bn;exact HC0_2.out;rintro e w3 ⟨rfl,hb⟩;refine ⟨_,rfl,?_⟩;replace BK1:=k1_ BK1 hb;replace BK2:=k1_ BK2 hb;replace HB:=hb_ hb aY;(try clear hb);have hcz2:=z3_ BK1)|((with_reducible refine gc_ (f:=68) rfl ?_);refine gl_ 10 Tryd.func68 #[.agg #[.int .i64 a0_0,.bool a0_1,.slice A0_2 l0_2.length c0_2],.func (.func 69) #[] #[.pointer (some ⟨gb1,0,none⟩)]] ?_;(with_reducible refine (aM.calls k a0_0 a0_1 _ _ l0_2 a0_0 t2 t3 t4 _ ?side1 ?side2 gb1 a0_1 A0_2 l0_2.length c0_2 ?side3 nK A4.out).mono ?_);(case side3=>(with_reducible repeat (first|apply kn_|apply kd_|apply ka_));exact BK1.out);(case side1=>exact bn);(case side2=>exact HC0_2.out);rintro e w4 ⟨v1,rfl,ho0,hb⟩;refine ⟨_,rfl,?_⟩;have HO1:=A0_ (Kd.R_lower ho0 (bz_ aY));replace BK1:=k1_ BK1 hb;replace BK2:=k1_ BK2 hb;replace HB:=hb_ hb aY;(try clear hb ho0);have hcz3:=z3_ BK2;obtain ⟨Ao1,co1,eo1⟩:=Kd.R_slice HO1.out;subst eo1))
 refine bodyPost_ret (cY rfl _ _ gb2 26 #[.int .i64 t2,.bool t3,.slice Ao1 t4.length co1] (0,0) _ rfl (u1_ BK2) Tryd.underlying26 rfl bS) rfl ?_
 exact ⟨_,bc,kj,aY⟩


def b7.l0:Nat→List Int→Int→Int→Option (Bool)
 | 0,_,_,_=>none
 | k+1,x0,x1,x5=>if x5<(x0.length:Int) then (if 0≤x5 then (if (rd x0 x5)=x1 then (some true) else (b7.l0 k x0 x1 (wrap64 (x5+1)))) else (none)) else (some false)
def b7.f (k:Nat) (l0:List Int) (a1:Int):Option (Bool):=b7.l0 k l0 a1 0
theorem b7.mono_l:∀ k,(∀ y0 y1 y2,LeO (b7.l0 k y0 y1 y2) (b7.l0 (k+1) y0 y1 y2))
 | 0=>fun _ _ _ r h=>by simp [b7.l0] at h
 | k+1=>by
  have ih0:=b7.mono_l k
  ·intro y0 y1 y2
   unfold b7.l0
   repeat' with_reducible first|exact ih0 ..|exact LeO.refl ..|exact LeO.none ..|refine LeO.ite ?_ ?_|refine LeO.bind ?_ (fun _=>?_)
theorem b7.mono:∀ a0 a1 k,LeO (b7.f k a0 a1) (b7.f (k+1) a0 a1):=by
 intro a0 a1 k;have ih0:=b7.mono_l k;unfold b7.f
 repeat' with_reducible first|exact ih0 ..|exact LeO.refl ..|exact LeO.none ..|refine LeO.ite ?_ ?_|refine LeO.bind ?_ (fun _=>?_)
theorem b7.calls (k:Nat) (A0:Option Addr) (c0:Nat) (l0:List Int) (a1:Int) (r:Bool) (w:World) (hr0:Kd.C (Kd.int .i64) w A0 l0.length l0) (hc0:l0.length≤c0) (H:b7.f k l0 a1=some r) :
  Calls Tryd.prog 33 #[.slice A0 l0.length c0,.int .i64 a1] w fun e w'=>e=.returned (.bool r)∧Drawn0 w w':=by
 have HR0:=A0_ hr0;have HC0:=A0_ hc0;clear hr0 hc0;unfold b7.f at H;have H':=A0_ H;clear H;go_enter Tryd.func33,Tryd.ntmps33
 go_wp2
 go_loopg [5] k (fun kq v1 w'=>∃ (x5_1:Int),v1=.int .i64 x5_1∧Aside0 (b7.l0 kq l0 a1 x5_1=some r)∧Aside0 (kq≤k)∧Drawn0 w w')
 case atStart=>exact ⟨(0),aC,H',⟨Nat.le_refl _⟩,cT⟩
 clear H';obtain ⟨x5_1,rfl,HA,HK1,⟨m1,rfl⟩⟩:=hrel
 cases gk with|zero=>exact absurd HA.out (by simp [b7.l0])|succ k1=>?_
 have H:=HA.out;clear HA;simp only [b7.l0] at H
 by_cases c1:x5_1<(l0.length:Int)
 case neg =>
  rw [if_neg c1] at H;have c1b0:decide (x5_1<(l0.length:Int))=false:=decide_eq_false c1;clear c1;obtain rfl:=si_ H
  go_wp2
  go_ret
  exact ⟨eq,cT⟩
 rw [if_pos c1] at H;have c1b0:decide (x5_1<(l0.length:Int))=true:=dt_ c1;clear c1;obtain ⟨c2b0,H⟩:=i1_ H
 by_cases c3:(rd l0 x5_1)=a1
 ·rw [if_pos c3] at H
  obtain ⟨c3b0,c3b1⟩:=et_ c3;clear c3;obtain rfl:=si_ H;have p1:0≤(x5_1:Int):=od_ aE;have q1:x5_1<(l0.length:Int):=od_ aE;obtain ⟨ad1,e1,hx1_0⟩:=Kd.at_int HR0.out x5_1 p1 q1;cases e1;replace p1:=eq_true p1;replace q1:=eq_true q1
  go_wp2
  go_ret
  exact ⟨eq,cT⟩
 rw [if_neg c3] at H;obtain ⟨c3b0,c3b1⟩:=ef_ c3;have H':=A0_ H;clear H;have p1:0≤(x5_1:Int):=od_ aE;have q1:x5_1<(l0.length:Int):=od_ aE;obtain ⟨ad1,e1,hx1_0⟩:=Kd.at_int HR0.out x5_1 p1 q1;cases e1;replace p1:=eq_true p1;replace q1:=eq_true q1
 go_wp2
 go_roundg k1
 case measure=>have:=HK1.out;omega
 exact ⟨(wrap64 (x5_1+1)),aC,H',⟨de⟩,cT⟩

end Go.Proofs.YtgcgmlbjklkkjaaDoor.QFnGame
-- packed
-- squeezed
