-- Written by px.py, a program of this session, over the kit's printer: some functions have a definition and a proof of this session's own.
import Derived.Test.YtgcgmlbjklkkjaaDoorQFnGamex0
namespace Go.Proofs.YtgcgmlbjklkkjaaDoor.QFnGame
open Go.RowKit Go.Proofs.YtgcgmlbjklkkjaaDoorW.PrintWords Go.Proofs.YtgcgmlbjklkkjaaDoorW.PrintLast Go.Proofs.YtgcgmlbjklkkjaaDoorW.PrintMore
attribute [local go_sem] fq ft gc gf eW eX fu fv   -- for this text's walks alone
set_option linter.unusedVariables false
set_option linter.unusedSimpArgs false
set_option maxHeartbeats 8000000
set_option maxRecDepth 100000

def cB.f (a0:Int) (a1:Int) (a2:Int):Option (Bool):=if a0 ≥ a1 then (some (decide (a0≤a2))) else (some false)
theorem cB.calls (a0:Int) (a1:Int) (a2:Int) (r:Bool) (w:World) (H:cB.f a0 a1 a2=some r) :
  Calls Tryd.prog 70 #[.int .i64 a0,.int .i64 a1,.int .i64 a2] w fun e w'=>e=.returned (.bool r)∧Drawn0 w w':=by
 unfold cB.f at H
 by_cases c1:a0 ≥ a1
 ·rw [if_pos c1] at H
  have c1b0:decide (a1≤a0)=true:=dt_ c1;clear c1;obtain rfl:=si_ H;go_enter Tryd.func70,Tryd.ntmps70
  go_wp2
  go_ret
  exact ⟨eq,cT⟩
 rw [if_neg c1] at H;have c1b0:decide (a1≤a0)=false:=decide_eq_false c1;clear c1;obtain rfl:=si_ H;go_enter Tryd.func70,Tryd.ntmps70
 go_wp2
 go_ret
 exact ⟨eq,cT⟩

def bt.l0:Nat→List Int→Int→Int→Int→Option (Bool)
 | 0,_,_,_,_=>none
 | k+1,x0,x1,x2,x7=>if x7<(x0.length:Int) then (if 0≤x7 then ((cB.f (rd x0 x7) x1 x2).bind fun t102=>(if t102=true then (if x7 > 0 then (if 0≤(wrap64 (x7 - 1)) then (if (wrap64 (x7 - 1))<(x0.length:Int) then (if (rd x0 (wrap64 (x7 - 1))) ≥ (rd x0 x7) then (some false) else (bt.l0 k x0 x1 x2 (wrap64 (x7+1)))) else (none)) else (none)) else (bt.l0 k x0 x1 x2 (wrap64 (x7+1)))) else (some false))) else (none)) else (some true)
def bt.f (k:Nat) (l0:List Int) (a1:Int) (a2:Int):Option (Bool):=bt.l0 k l0 a1 a2 0
theorem bt.mono_l:∀ k,(∀ y0 y1 y2 y3,LeO (bt.l0 k y0 y1 y2 y3) (bt.l0 (k+1) y0 y1 y2 y3))
 | 0=>fun _ _ _ _ r h=>by simp [bt.l0] at h
 | k+1=>by
  have ih0:=bt.mono_l k
  ·intro y0 y1 y2 y3
   unfold bt.l0
   repeat' with_reducible first|exact ih0 ..|exact LeO.refl ..|exact LeO.none ..|refine LeO.ite ?_ ?_|refine LeO.bind ?_ (fun _=>?_)
theorem bt.mono:∀ a0 a1 a2 k,LeO (bt.f k a0 a1 a2) (bt.f (k+1) a0 a1 a2):=by
 intro a0 a1 a2 k;have ih0:=bt.mono_l k;unfold bt.f
 repeat' with_reducible first|exact ih0 ..|exact LeO.refl ..|exact LeO.none ..|refine LeO.ite ?_ ?_|refine LeO.bind ?_ (fun _=>?_)
theorem bt.calls (k:Nat) (A0:Option Addr) (c0:Nat) (l0:List Int) (a1:Int) (a2:Int) (r:Bool) (w:World) (hr0:Kd.C (Kd.int .i64) w A0 l0.length l0) (hc0:l0.length≤c0) (H:bt.f k l0 a1 a2=some r) :
  Calls Tryd.prog 71 #[.slice A0 l0.length c0,.int .i64 a1,.int .i64 a2] w fun e w'=>e=.returned (.bool r)∧Drawn0 w w':=by
 have HR0:=A0_ hr0;have HC0:=A0_ hc0;clear hr0 hc0;unfold bt.f at H;have H':=A0_ H;clear H;go_enter Tryd.func71,Tryd.ntmps71
 go_wp2
 repeat (go_quiet (fail);try go_wp2)
 go_loopg [7] k (fun kq v1 w'=>∃ (x7_1:Int),v1=.int .i64 x7_1∧Aside0 (bt.l0 kq l0 a1 a2 x7_1=some r)∧Aside0 (kq≤k)∧Drawn0 w w')
 case atStart=>exact ⟨(0),aC,H',⟨Nat.le_refl _⟩,cT⟩
 clear H';obtain ⟨x7_1,rfl,HA,HK1,⟨m1,rfl⟩⟩:=hrel
 cases gk with|zero=>exact absurd HA.out (by simp [bt.l0])|succ k1=>?_
 have H:=HA.out;clear HA;simp only [bt.l0] at H
 by_cases c1:x7_1<(l0.length:Int)
 case neg =>
  rw [if_neg c1] at H;have c1b0:decide (x7_1<(l0.length:Int))=false:=decide_eq_false c1;clear c1;obtain rfl:=si_ H
  go_wp2
  repeat (go_quiet (fail);try go_wp2)
  go_ret
  exact ⟨eq,cT⟩
 rw [if_pos c1] at H;have c1b0:decide (x7_1<(l0.length:Int))=true:=dt_ c1;clear c1;obtain ⟨c2b0,H⟩:=i1_ H;obtain ⟨t1,A2,H⟩:=o1_ H
 by_cases c3:t1=true
 case neg =>
  obtain rfl:=bf_.mpr c3;rw [if_neg ft_] at H;obtain rfl:=si_ H;have p1:0≤(x7_1:Int):=od_ aE;have q1:x7_1<(l0.length:Int):=od_ aE;obtain ⟨ad1,e1,hx1_0⟩:=Kd.at_int HR0.out x7_1 p1 q1;cases e1;replace p1:=eq_true p1;replace q1:=eq_true q1
  go_wp2_with (first|(go_at_call 70;(with_reducible refine (cB.calls (rd l0 x7_1) a1 a2 false _ A2.out).mono ?_);rintro e w' ⟨rfl,⟨nd,rfl⟩⟩;(try first|exact ⟨rfl,_,World.drewN_drewN _ _ _⟩|exact ⟨rfl,_,Eq.trans (World.drewN_drewN _ _ _) (congrArg (World.drewN _) (Nat.add_assoc _ _ _))⟩)))
  repeat (go_quiet (first|(go_at_call 70;(with_reducible refine (cB.calls (rd l0 x7_1) a1 a2 false _ A2.out).mono ?_);rintro e w' ⟨rfl,⟨nd,rfl⟩⟩;(try first|exact ⟨rfl,_,World.drewN_drewN _ _ _⟩|exact ⟨rfl,_,Eq.trans (World.drewN_drewN _ _ _) (congrArg (World.drewN _) (Nat.add_assoc _ _ _))⟩)));try go_wp2_with (first|(go_at_call 70;(with_reducible refine (cB.calls (rd l0 x7_1) a1 a2 false _ A2.out).mono ?_);rintro e w' ⟨rfl,⟨nd,rfl⟩⟩;(try first|exact ⟨rfl,_,World.drewN_drewN _ _ _⟩|exact ⟨rfl,_,Eq.trans (World.drewN_drewN _ _ _) (congrArg (World.drewN _) (Nat.add_assoc _ _ _))⟩))))
  go_ret
  exact ⟨eq,cT⟩
 subst c3;rw [if_pos rfl] at H
 by_cases c4:x7_1 > 0
 case neg =>
  rw [if_neg c4] at H;have c4b0:decide (0<x7_1)=false:=decide_eq_false c4;clear c4;have H':=A0_ H;clear H;have p1:0≤(x7_1:Int):=od_ aE;have q1:x7_1<(l0.length:Int):=od_ aE;obtain ⟨ad1,e1,hx1_0⟩:=Kd.at_int HR0.out x7_1 p1 q1;cases e1;replace p1:=eq_true p1;replace q1:=eq_true q1
  go_wp2_with (first|(go_at_call 70;(with_reducible refine (cB.calls (rd l0 x7_1) a1 a2 true _ A2.out).mono ?_);rintro e w' ⟨rfl,⟨nd,rfl⟩⟩;(try first|exact ⟨rfl,_,World.drewN_drewN _ _ _⟩|exact ⟨rfl,_,Eq.trans (World.drewN_drewN _ _ _) (congrArg (World.drewN _) (Nat.add_assoc _ _ _))⟩)))
  repeat (go_quiet (first|(go_at_call 70;(with_reducible refine (cB.calls (rd l0 x7_1) a1 a2 true _ A2.out).mono ?_);rintro e w' ⟨rfl,⟨nd,rfl⟩⟩;(try first|exact ⟨rfl,_,World.drewN_drewN _ _ _⟩|exact ⟨rfl,_,Eq.trans (World.drewN_drewN _ _ _) (congrArg (World.drewN _) (Nat.add_assoc _ _ _))⟩)));try go_wp2_with (first|(go_at_call 70;(with_reducible refine (cB.calls (rd l0 x7_1) a1 a2 true _ A2.out).mono ?_);rintro e w' ⟨rfl,⟨nd,rfl⟩⟩;(try first|exact ⟨rfl,_,World.drewN_drewN _ _ _⟩|exact ⟨rfl,_,Eq.trans (World.drewN_drewN _ _ _) (congrArg (World.drewN _) (Nat.add_assoc _ _ _))⟩))))
  go_roundg k1
  case measure=>have:=HK1.out;omega
  exact ⟨(wrap64 (x7_1+1)),aC,H',⟨de⟩,cT⟩
 rw [if_pos c4] at H;have c4b0:decide (0<x7_1)=true:=dt_ c4;clear c4;obtain ⟨ji1,hji1⟩:∃ j_:Int,(wrap64 (x7_1 - 1))=j_:=⟨_,rfl⟩;replace H:(if 0≤(ji1) then (if (ji1)<(l0.length:Int) then (if (rd l0 (ji1)) ≥ (rd l0 x7_1) then (some false) else (bt.l0 k1 l0 a1 a2 (wrap64 (x7_1+1)))) else (none)) else (none))=some r:=eY
 (try rw [hji1] at A2)
 have hji9w:(IntKind.i64.wrap (x7_1 - 1))=ji1:=(cH _).trans hji1;obtain ⟨c5b0,H⟩:=i1_ H;obtain ⟨c6b0,H⟩:=i1_ H
 by_cases c7:(rd l0 (ji1)) ≥ (rd l0 x7_1)
 ·rw [if_pos c7] at H
  have c7b0:decide ((rd l0 x7_1)≤(rd l0 (ji1)))=true:=dt_ c7;clear c7;obtain rfl:=si_ H;have p1:0≤(x7_1:Int):=od_ aE;have q1:x7_1<(l0.length:Int):=od_ aE;obtain ⟨ad1,e1,hx1_0⟩:=Kd.at_int HR0.out x7_1 p1 q1;cases e1;replace p1:=eq_true p1;replace q1:=eq_true q1
  go_wp2_with (first|(go_at_call 70;(with_reducible refine (cB.calls (rd l0 x7_1) a1 a2 true _ A2.out).mono ?_);rintro e w' ⟨rfl,⟨nd,rfl⟩⟩;(try first|exact ⟨rfl,_,World.drewN_drewN _ _ _⟩|exact ⟨rfl,_,Eq.trans (World.drewN_drewN _ _ _) (congrArg (World.drewN _) (Nat.add_assoc _ _ _))⟩);have p2:0≤((ji1):Int):=od_ aE;have q2:(ji1)<(l0.length:Int):=od_ aE;obtain ⟨ad2,e2,hx2_0⟩:=Kd.at_int HR0.out (ji1) p2 q2;obtain rfl:ad1=ad2:=e5;replace p2:=eq_true p2;replace q2:=eq_true q2;have p3:0≤(x7_1:Int):=od_ aE;have q3:x7_1<(l0.length:Int):=od_ aE;obtain ⟨ad3,e3,hx3_0⟩:=Kd.at_int HR0.out x7_1 p3 q3;obtain rfl:ad1=ad3:=(by injection e3);replace p3:=eq_true p3;replace q3:=eq_true q3))
  repeat (go_quiet (first|(go_at_call 70;(with_reducible refine (cB.calls (rd l0 x7_1) a1 a2 true _ A2.out).mono ?_);rintro e w' ⟨rfl,⟨nd,rfl⟩⟩;(try first|exact ⟨rfl,_,World.drewN_drewN _ _ _⟩|exact ⟨rfl,_,Eq.trans (World.drewN_drewN _ _ _) (congrArg (World.drewN _) (Nat.add_assoc _ _ _))⟩);have p2:0≤((ji1):Int):=od_ aE;have q2:(ji1)<(l0.length:Int):=od_ aE;obtain ⟨ad2,e2,hx2_0⟩:=Kd.at_int HR0.out (ji1) p2 q2;obtain rfl:ad1=ad2:=e5;replace p2:=eq_true p2;replace q2:=eq_true q2;have p3:0≤(x7_1:Int):=od_ aE;have q3:x7_1<(l0.length:Int):=od_ aE;obtain ⟨ad3,e3,hx3_0⟩:=Kd.at_int HR0.out x7_1 p3 q3;obtain rfl:ad1=ad3:=(by injection e3);replace p3:=eq_true p3;replace q3:=eq_true q3));try go_wp2_with (first|(go_at_call 70;(with_reducible refine (cB.calls (rd l0 x7_1) a1 a2 true _ A2.out).mono ?_);rintro e w' ⟨rfl,⟨nd,rfl⟩⟩;(try first|exact ⟨rfl,_,World.drewN_drewN _ _ _⟩|exact ⟨rfl,_,Eq.trans (World.drewN_drewN _ _ _) (congrArg (World.drewN _) (Nat.add_assoc _ _ _))⟩);have p2:0≤((ji1):Int):=od_ aE;have q2:(ji1)<(l0.length:Int):=od_ aE;obtain ⟨ad2,e2,hx2_0⟩:=Kd.at_int HR0.out (ji1) p2 q2;obtain rfl:ad1=ad2:=e5;replace p2:=eq_true p2;replace q2:=eq_true q2;have p3:0≤(x7_1:Int):=od_ aE;have q3:x7_1<(l0.length:Int):=od_ aE;obtain ⟨ad3,e3,hx3_0⟩:=Kd.at_int HR0.out x7_1 p3 q3;obtain rfl:ad1=ad3:=(by injection e3);replace p3:=eq_true p3;replace q3:=eq_true q3)))
  go_ret
  exact ⟨kd,cT⟩
 rw [if_neg c7] at H;have c7b0:decide ((rd l0 x7_1)≤(rd l0 (ji1)))=false:=decide_eq_false c7;clear c7;have H':=A0_ H;clear H;have p1:0≤(x7_1:Int):=od_ aE;have q1:x7_1<(l0.length:Int):=od_ aE;obtain ⟨ad1,e1,hx1_0⟩:=Kd.at_int HR0.out x7_1 p1 q1;cases e1;replace p1:=eq_true p1;replace q1:=eq_true q1
 go_wp2_with (first|(go_at_call 70;(with_reducible refine (cB.calls (rd l0 x7_1) a1 a2 true _ A2.out).mono ?_);rintro e w' ⟨rfl,⟨nd,rfl⟩⟩;(try first|exact ⟨rfl,_,World.drewN_drewN _ _ _⟩|exact ⟨rfl,_,Eq.trans (World.drewN_drewN _ _ _) (congrArg (World.drewN _) (Nat.add_assoc _ _ _))⟩);have p2:0≤((ji1):Int):=od_ aE;have q2:(ji1)<(l0.length:Int):=od_ aE;obtain ⟨ad2,e2,hx2_0⟩:=Kd.at_int HR0.out (ji1) p2 q2;obtain rfl:ad1=ad2:=e5;replace p2:=eq_true p2;replace q2:=eq_true q2;have p3:0≤(x7_1:Int):=od_ aE;have q3:x7_1<(l0.length:Int):=od_ aE;obtain ⟨ad3,e3,hx3_0⟩:=Kd.at_int HR0.out x7_1 p3 q3;obtain rfl:ad1=ad3:=(by injection e3);replace p3:=eq_true p3;replace q3:=eq_true q3))
 repeat (go_quiet (first|(go_at_call 70;(with_reducible refine (cB.calls (rd l0 x7_1) a1 a2 true _ A2.out).mono ?_);rintro e w' ⟨rfl,⟨nd,rfl⟩⟩;(try first|exact ⟨rfl,_,World.drewN_drewN _ _ _⟩|exact ⟨rfl,_,Eq.trans (World.drewN_drewN _ _ _) (congrArg (World.drewN _) (Nat.add_assoc _ _ _))⟩);have p2:0≤((ji1):Int):=od_ aE;have q2:(ji1)<(l0.length:Int):=od_ aE;obtain ⟨ad2,e2,hx2_0⟩:=Kd.at_int HR0.out (ji1) p2 q2;obtain rfl:ad1=ad2:=e5;replace p2:=eq_true p2;replace q2:=eq_true q2;have p3:0≤(x7_1:Int):=od_ aE;have q3:x7_1<(l0.length:Int):=od_ aE;obtain ⟨ad3,e3,hx3_0⟩:=Kd.at_int HR0.out x7_1 p3 q3;obtain rfl:ad1=ad3:=(by injection e3);replace p3:=eq_true p3;replace q3:=eq_true q3));try go_wp2_with (first|(go_at_call 70;(with_reducible refine (cB.calls (rd l0 x7_1) a1 a2 true _ A2.out).mono ?_);rintro e w' ⟨rfl,⟨nd,rfl⟩⟩;(try first|exact ⟨rfl,_,World.drewN_drewN _ _ _⟩|exact ⟨rfl,_,Eq.trans (World.drewN_drewN _ _ _) (congrArg (World.drewN _) (Nat.add_assoc _ _ _))⟩);have p2:0≤((ji1):Int):=od_ aE;have q2:(ji1)<(l0.length:Int):=od_ aE;obtain ⟨ad2,e2,hx2_0⟩:=Kd.at_int HR0.out (ji1) p2 q2;obtain rfl:ad1=ad2:=e5;replace p2:=eq_true p2;replace q2:=eq_true q2;have p3:0≤(x7_1:Int):=od_ aE;have q3:x7_1<(l0.length:Int):=od_ aE;obtain ⟨ad3,e3,hx3_0⟩:=Kd.at_int HR0.out x7_1 p3 q3;obtain rfl:ad1=ad3:=(by injection e3);replace p3:=eq_true p3;replace q3:=eq_true q3)))
 go_roundg k1
 case measure=>have:=HK1.out;omega
 exact ⟨(wrap64 (x7_1+1)),aC,H',⟨de⟩,cT⟩

def aI.f (k:Nat) (a0_0:Int) (a0_1:Bool) (l0_2:List Int):Option (Bool):=(cB.f a0_0 2 24).bind fun t106=>(if t106=true then (if a0_1=true then (if a0_0 > 2 then ((bt.f k l0_2 0 (wrap64 (a0_0 - 1))).bind fun t107=>(some t107)) else (some false)) else ((bt.f k l0_2 0 (wrap64 (a0_0 - 1))).bind fun t108=>(some t108))) else (some false))
theorem aI.mono:∀ a0 a1 a2 k,LeO (aI.f k a0 a1 a2) (aI.f (k+1) a0 a1 a2):=by
 intro a0 a1 a2 k;unfold aI.f
 repeat' with_reducible first|exact bt.mono ..|exact LeO.refl ..|exact LeO.none ..|refine LeO.ite ?_ ?_|refine LeO.bind ?_ (fun _=>?_)
theorem aI.calls (k:Nat) (a0_0:Int) (a0_1:Bool) (A0_2:Option Addr) (c0_2:Nat) (l0_2:List Int) (r:Bool) (w:World) (hr0_2:Kd.C (Kd.int .i64) w A0_2 l0_2.length l0_2) (hc0_2:l0_2.length≤c0_2) (H:aI.f k a0_0 a0_1 l0_2=some r) :
  Calls Tryd.prog 35 #[.agg #[.int .i64 a0_0,.bool a0_1,.slice A0_2 l0_2.length c0_2]] w fun e w'=>e=.returned (.bool r)∧Below w.heap.size w w':=by
 have hu26:=Tryd.underlying26;have HR0_2:=A0_ hr0_2;have HC0_2:=A0_ hc0_2;clear hr0_2 hc0_2;have HB:=A0_ (Below.refl w.heap.size w);unfold aI.f at H;obtain ⟨t1,A2,H⟩:=o1_ H
 by_cases c1:t1=true
 case neg =>
  obtain rfl:=bf_.mpr c1;rw [if_neg ft_] at H;obtain rfl:=si_ H;go_enter Tryd.func35,Tryd.ntmps35
  go_wp2_with (first|((with_reducible refine gd_ (N:=1) rfl ?_);refine bx_ 1 #[.int .i64 a0_0,.bool a0_1,.slice A0_2 l0_2.length c0_2] 26 ?_;intro gb1 hg w1 BK1 hb;have GW1:=ge_ hg am;have GE1:=GW1;replace HB:=hb_ hb am;clear hb hg;have hcz1:=c3_ BK1)|((with_reducible refine gc_ (f:=70) rfl ?_);refine gl_ 5 Tryd.func70 #[.int .i64 a0_0,.int .i64 2,.int .i64 24] ?_;(with_reducible refine (cB.calls a0_0 2 24 false _ A2.out).mono ?_);rintro e w' ⟨rfl,⟨nd,rfl⟩⟩;refine ⟨_,rfl,?_⟩))
  go_ret
  exact ⟨bc,ab⟩
 subst c1;rw [if_pos rfl] at H
 by_cases c2:a0_1=true
 case neg =>
  obtain rfl:=bf_.mpr c2;rw [if_neg ft_] at H;obtain ⟨t3,A4,H⟩:=o1_ H;replace H:(some t3)=some r:=H;obtain rfl:=si_ H;go_enter Tryd.func35,Tryd.ntmps35
  go_wp2_with (first|((with_reducible refine gd_ (N:=1) rfl ?_);refine bx_ 1 #[.int .i64 a0_0,.bool false,.slice A0_2 l0_2.length c0_2] 26 ?_;intro gb1 hg w1 BK1 hb;have GW1:=ge_ hg am;have GE1:=GW1;replace HB:=hb_ hb am;clear hb hg;have hcz1:=c3_ BK1)|((with_reducible refine gc_ (f:=70) rfl ?_);refine gl_ 5 Tryd.func70 #[.int .i64 a0_0,.int .i64 2,.int .i64 24] ?_;(with_reducible refine (cB.calls a0_0 2 24 true _ A2.out).mono ?_);rintro e w' ⟨rfl,⟨nd,rfl⟩⟩;refine ⟨_,rfl,?_⟩)|(go_at_call 71;(with_reducible refine (bt.calls k _ _ l0_2 0 (wrap64 (a0_0 - 1)) t3 _ ?_ ?_ A4.out).mono ?_);exact lm;exact HC0_2.out;rintro e w' ⟨rfl,⟨nd,rfl⟩⟩))
  go_ret
  exact ⟨bc,ab⟩
 subst c2;rw [if_pos rfl] at H
 by_cases c3:a0_0 > 2
 case neg =>
  rw [if_neg c3] at H;have c3b0:decide (2<a0_0)=false:=decide_eq_false c3;clear c3;obtain rfl:=si_ H;go_enter Tryd.func35,Tryd.ntmps35
  go_wp2_with (first|((with_reducible refine gd_ (N:=1) rfl ?_);refine bx_ 1 #[.int .i64 a0_0,.bool true,.slice A0_2 l0_2.length c0_2] 26 ?_;intro gb1 hg w1 BK1 hb;have GW1:=ge_ hg am;have GE1:=GW1;replace HB:=hb_ hb am;clear hb hg;have hcz1:=c3_ BK1)|((with_reducible refine gc_ (f:=70) rfl ?_);refine gl_ 5 Tryd.func70 #[.int .i64 a0_0,.int .i64 2,.int .i64 24] ?_;(with_reducible refine (cB.calls a0_0 2 24 true _ A2.out).mono ?_);rintro e w' ⟨rfl,⟨nd,rfl⟩⟩;refine ⟨_,rfl,?_⟩))
  go_ret
  exact ⟨bc,ab⟩
 rw [if_pos c3] at H;have c3b0:decide (2<a0_0)=true:=dt_ c3;clear c3;obtain ⟨t2,A4,H⟩:=o1_ H;replace H:(some t2)=some r:=H;obtain rfl:=si_ H;go_enter Tryd.func35,Tryd.ntmps35
 go_wp2_with (first|((with_reducible refine gd_ (N:=1) rfl ?_);refine bx_ 1 #[.int .i64 a0_0,.bool true,.slice A0_2 l0_2.length c0_2] 26 ?_;intro gb1 hg w1 BK1 hb;have GW1:=ge_ hg am;have GE1:=GW1;replace HB:=hb_ hb am;clear hb hg;have hcz1:=c3_ BK1)|((with_reducible refine gc_ (f:=70) rfl ?_);refine gl_ 5 Tryd.func70 #[.int .i64 a0_0,.int .i64 2,.int .i64 24] ?_;(with_reducible refine (cB.calls a0_0 2 24 true _ A2.out).mono ?_);rintro e w' ⟨rfl,⟨nd,rfl⟩⟩;refine ⟨_,rfl,?_⟩)|(go_at_call 71;(with_reducible refine (bt.calls k _ _ l0_2 0 (wrap64 (a0_0 - 1)) t2 _ ?_ ?_ A4.out).mono ?_);exact lm;exact HC0_2.out;rintro e w' ⟨rfl,⟨nd,rfl⟩⟩))
 go_ret
 exact ⟨bc,ab⟩

def bG.f (a0:Int):Option (Bool):=if a0=1 then (some true) else (some (a0 == 2))
theorem bG.calls (a0:Int) (r:Bool) (w:World) (H:bG.f a0=some r) :
  Calls Tryd.prog 36 #[.int .i64 a0] w fun e w'=>e=.returned (.bool r)∧Drawn0 w w':=by
 unfold bG.f at H
 by_cases c1:a0=1
 case neg =>
  rw [if_neg c1] at H;obtain ⟨c1b0,c1b1⟩:=ef_ c1;obtain rfl:=si_ H;go_enter Tryd.func36,Tryd.ntmps36
  go_wp2
  go_ret
  exact ⟨eq,cT⟩
 rw [if_pos c1] at H;obtain ⟨c1b0,c1b1⟩:=et_ c1;clear c1;obtain rfl:=si_ H;go_enter Tryd.func36,Tryd.ntmps36
 go_wp2
 go_ret
 exact ⟨eq,cT⟩

def bo.l0:Nat→List Int→Int→Int→Option (Bool)
 | 0,_,_,_=>none
 | k+1,x0,x1,x5=>if x5<(x0.length:Int) then (if 0≤x5 then (if (rd x0 x5)=x1 then (some true) else (bo.l0 k x0 x1 (wrap64 (x5+1)))) else (none)) else (some false)
def bo.f (k:Nat) (l0:List Int) (a1:Int):Option (Bool):=bo.l0 k l0 a1 0
theorem bo.mono_l:∀ k,(∀ y0 y1 y2,LeO (bo.l0 k y0 y1 y2) (bo.l0 (k+1) y0 y1 y2))
 | 0=>fun _ _ _ r h=>by simp [bo.l0] at h
 | k+1=>by
  have ih0:=bo.mono_l k
  ·intro y0 y1 y2
   unfold bo.l0
   repeat' with_reducible first|exact ih0 ..|exact LeO.refl ..|exact LeO.none ..|refine LeO.ite ?_ ?_|refine LeO.bind ?_ (fun _=>?_)
theorem bo.mono:∀ a0 a1 k,LeO (bo.f k a0 a1) (bo.f (k+1) a0 a1):=by
 intro a0 a1 k;have ih0:=bo.mono_l k;unfold bo.f
 repeat' with_reducible first|exact ih0 ..|exact LeO.refl ..|exact LeO.none ..|refine LeO.ite ?_ ?_|refine LeO.bind ?_ (fun _=>?_)
theorem bo.calls (k:Nat) (A0:Option Addr) (c0:Nat) (l0:List Int) (a1:Int) (r:Bool) (w:World) (hr0:Kd.C (Kd.int .i64) w A0 l0.length l0) (hc0:l0.length≤c0) (H:bo.f k l0 a1=some r) :
  Calls Tryd.prog 37 #[.slice A0 l0.length c0,.int .i64 a1] w fun e w'=>e=.returned (.bool r)∧Drawn0 w w':=by
 have HR0:=A0_ hr0;have HC0:=A0_ hc0;clear hr0 hc0;unfold bo.f at H;have H':=A0_ H;clear H;go_enter Tryd.func37,Tryd.ntmps37
 go_wp2
 go_loopg [5] k (fun kq v1 w'=>∃ (x5_1:Int),v1=.int .i64 x5_1∧Aside0 (bo.l0 kq l0 a1 x5_1=some r)∧Aside0 (kq≤k)∧Drawn0 w w')
 case atStart=>exact ⟨(0),aC,H',⟨Nat.le_refl _⟩,cT⟩
 clear H';obtain ⟨x5_1,rfl,HA,HK1,⟨m1,rfl⟩⟩:=hrel
 cases gk with|zero=>exact absurd HA.out (by simp [bo.l0])|succ k1=>?_
 have H:=HA.out;clear HA;simp only [bo.l0] at H
 by_cases c1:x5_1<(l0.length:Int)
 case neg =>
  rw [if_neg c1] at H;have c1b0:decide (x5_1<(l0.length:Int))=false:=decide_eq_false c1;clear c1;obtain rfl:=si_ H
  go_wp2
  go_ret
  exact ⟨eq,cT⟩
 rw [if_pos c1] at H;have c1b0:decide (x5_1<(l0.length:Int))=true:=dt_ c1;clear c1;obtain ⟨c2b0,H⟩:=i1_ H
 by_cases c3:(rd l0 x5_1)=a1
 ·rw [if_pos c3] at H
  obtain ⟨c3b0,c3b1⟩:=et_ c3;clear c3;obtain rfl:=si_ H;have p1:0≤(x5_1:Int):=od_ aE;have q1:x5_1<(l0.length:Int):=od_ aE;obtain ⟨ad1,e1,hx1_0⟩:=Kd.at_int HR0.out x5_1 p1 q1;cases e1;replace p1:=eq_true p1;replace q1:=eq_true q1
  go_wp2
  go_ret
  exact ⟨eq,cT⟩
 rw [if_neg c3] at H;obtain ⟨c3b0,c3b1⟩:=ef_ c3;have H':=A0_ H;clear H;have p1:0≤(x5_1:Int):=od_ aE;have q1:x5_1<(l0.length:Int):=od_ aE;obtain ⟨ad1,e1,hx1_0⟩:=Kd.at_int HR0.out x5_1 p1 q1;cases e1;replace p1:=eq_true p1;replace q1:=eq_true q1
 go_wp2
 go_roundg k1
 case measure=>have:=HK1.out;omega
 exact ⟨(wrap64 (x5_1+1)),aC,H',⟨de⟩,cT⟩

def bp.f (k:Nat) (a0_0:Int) (a0_1:Bool) (l0_2:List Int) (a1:Int):Option (Bool):=(bo.f k l0_2 a1).bind fun t111=>(some t111)
theorem bp.mono:∀ a0 a1 a2 a3 k,LeO (bp.f k a0 a1 a2 a3) (bp.f (k+1) a0 a1 a2 a3):=by
 intro a0 a1 a2 a3 k;unfold bp.f
 repeat' with_reducible first|exact bo.mono ..|exact LeO.refl ..|exact LeO.none ..|refine LeO.ite ?_ ?_|refine LeO.bind ?_ (fun _=>?_)
theorem bp.calls (k:Nat) (a0_0:Int) (a0_1:Bool) (A0_2:Option Addr) (c0_2:Nat) (l0_2:List Int) (a1:Int) (r:Bool) (w:World) (hr0_2:Kd.C (Kd.int .i64) w A0_2 l0_2.length l0_2) (hc0_2:l0_2.length≤c0_2) (H:bp.f k a0_0 a0_1 l0_2 a1=some r) :
  Calls Tryd.prog 73 #[.agg #[.int .i64 a0_0,.bool a0_1,.slice A0_2 l0_2.length c0_2],.int .i64 a1] w fun e w'=>e=.returned (.bool r)∧Below w.heap.size w w':=by
 have hu26:=Tryd.underlying26;have HR0_2:=A0_ hr0_2;have HC0_2:=A0_ hc0_2;clear hr0_2 hc0_2;have HB:=A0_ (Below.refl w.heap.size w);unfold bp.f at H;obtain ⟨t1,A2,H⟩:=o1_ H;replace H:(some t1)=some r:=H;obtain rfl:=si_ H;go_enter Tryd.func73,Tryd.ntmps73
 go_wp2_with (first|((with_reducible refine gd_ (N:=2) rfl ?_);refine bx_ 2 #[.int .i64 a0_0,.bool a0_1,.slice A0_2 l0_2.length c0_2] 26 ?_;intro gb1 hg w1 BK1 hb;have GW1:=ge_ hg am;have GE1:=GW1;replace HB:=hb_ hb am;clear hb hg;have hcz1:=c3_ BK1)|((with_reducible refine gc_ (f:=37) rfl ?_);refine gl_ 8 Tryd.func37 #[.slice A0_2 l0_2.length c0_2,.int .i64 a1] ?_;(with_reducible refine (bo.calls k _ _ l0_2 a1 t1 _ ?_ ?_ A2.out).mono ?_);exact bn;exact HC0_2.out;rintro e w' ⟨rfl,⟨nd,rfl⟩⟩;refine ⟨_,rfl,?_⟩))
 go_ret
 exact ⟨bc,ab⟩

def bi.l0:Nat→List Int→Int→Int→Bool→List Int→Option (List Int)
 | 0,_,_,_,_,_=>none
 | k+1,x3,x4,xa,xb,xc=>if x4<xa then ((bp.f k xa xb xc x4).bind fun t116=>(if t116=true then (bi.l0 k x3 (wrap64 (x4+1)) xa xb xc) else (if x3.length<17592186044416 then (bi.l0 k (x3++[x4]) (wrap64 (x4+1)) xa xb xc) else (none)))) else (some x3)
def bi.f (k:Nat) (a0_0:Int) (a0_1:Bool) (l0_2:List Int):Option (List Int):=bi.l0 k (([]:List Int)) 0 a0_0 a0_1 l0_2
theorem bi.mono_l:∀ k,(∀ y0 y1 y2 y3 y4,LeO (bi.l0 k y0 y1 y2 y3 y4) (bi.l0 (k+1) y0 y1 y2 y3 y4))
 | 0=>fun _ _ _ _ _ r h=>by simp [bi.l0] at h
 | k+1=>by
  have ih0:=bi.mono_l k
  ·intro y0 y1 y2 y3 y4
   unfold bi.l0
   repeat' with_reducible first|exact ih0 ..|exact bp.mono ..|exact LeO.refl ..|exact LeO.none ..|refine LeO.ite ?_ ?_|refine LeO.bind ?_ (fun _=>?_)
theorem bi.mono:∀ a0 a1 a2 k,LeO (bi.f k a0 a1 a2) (bi.f (k+1) a0 a1 a2):=by
 intro a0 a1 a2 k;have ih0:=bi.mono_l k;unfold bi.f
 repeat' with_reducible first|exact ih0 ..|exact bp.mono ..|exact LeO.refl ..|exact LeO.none ..|refine LeO.ite ?_ ?_|refine LeO.bind ?_ (fun _=>?_)
theorem bi.calls (k:Nat) (a0_0:Int) (a0_1:Bool) (A0_2:Option Addr) (c0_2:Nat) (l0_2:List Int) (r:List Int) (w:World) (hr0_2:Kd.C (Kd.int .i64) w A0_2 l0_2.length l0_2) (hc0_2:l0_2.length≤c0_2) (H:bi.f k a0_0 a0_1 l0_2=some r) :
  Calls Tryd.prog 94 #[.agg #[.int .i64 a0_0,.bool a0_1,.slice A0_2 l0_2.length c0_2]] w fun e w'=>∃ v0_:Value,e=.returned (v0_)∧Kd.R (Kd.int .i64) 3 w' w.heap.size (fun _=>True) v0_ r∧Below w.heap.size w w':=by
 have hu26:=Tryd.underlying26;have HR0_2:=A0_ hr0_2;have HC0_2:=A0_ hc0_2;clear hr0_2 hc0_2;have HB:=A0_ (Below.refl w.heap.size w);unfold bi.f at H;obtain ⟨y1,hy1⟩:∃ y_:List Int,y_=(([]:List Int)):=⟨_,rfl⟩;replace H:(bi.l0 k y1 0 a0_0 a0_1 l0_2)=some r:=dp;have Ny1:=A0_ hy1;clear hy1;have H':=A0_ H;clear H;go_enter Tryd.func94,Tryd.ntmps94
 go_wp2_with (first|((with_reducible refine gd_ (N:=1) rfl ?_);refine bx_ 1 #[.int .i64 a0_0,.bool a0_1,.slice A0_2 l0_2.length c0_2] 26 ?_;intro gb1 hg w1 BK1 hb;have GW1:=ge_ hg am;have GE1:=GW1;replace HB:=hb_ hb am;clear hb hg)|((with_reducible refine gd_ (N:=5) rfl ?_);refine Kd.R_lit (Kd.int .i64) _ 3 ?hg (N:=5) ?hd (xs:=([]:List Int)) (inner:=[]) (ok:=fun _=>True) (okp:=fun _=>True) ?hr ?hp (fun _ hk=>hk) trivial (Below.refl _ _) (Nat.le_refl _) bx ?_;(case hd=>rfl);(case hg=>rfl);(case hr=>go_simp;first|done|rfl);(case hp=>exact (bu.none _ _));intro v1 w2 ho4 hb hg_ hnew_;clear hg_ hnew_;(first|rw [← Ny1.out] at ho4|(simp only [Int.reduceToNat] at ho4;rw [← Ny1.out] at ho4));have HO1:=A0_ (Kd.R_lower ho4 (bz_ ab));replace BK1:=k1_ BK1 hb;replace HB:=hb_ hb ab;clear hb ho4))
 go_loopg [3,4] k (fun kq v2 v3 w'=>∃ (x3_1:List Int) (x4_1:Int),v3=.int .i64 x4_1∧Aside0 (bi.l0 kq x3_1 x4_1 a0_0 a0_1 l0_2=some r)∧Aside0 (kq≤k)∧Aside0 (Kd.R (Kd.int .i64) 3 w' w.heap.size (fun _=>True) v2 x3_1)∧Aside0 (w'.heap[gb1]?=some (.cells #[.int .i64 a0_0,.bool a0_1,(.slice A0_2 l0_2.length c0_2)] 26 (0,0)))∧Aside0 (Below w.heap.size w w'))
 case atStart=>exact ⟨(y1),(0),aC,H',⟨Nat.le_refl _⟩,⟨bR⟩,⟨u1_ BK1⟩,⟨ab⟩⟩
 clear H';obtain ⟨x3_1,x4_1,rfl,HA,HK1,HO_1,BK1,HB⟩:=hrel
 cases gk with|zero=>exact absurd HA.out (by simp [bi.l0])|succ k1=>?_
 have H:=HA.out;clear HA;simp only [bi.l0] at H
 by_cases c1:x4_1<a0_0
 case neg =>
  rw [if_neg c1] at H;have c1b0:decide (x4_1<a0_0)=false:=decide_eq_false c1;clear c1;obtain rfl:=si_ H;have hcz1:=c3_ BK1
  go_wp2
  go_ret
  exact ⟨_,bc,aD,ab⟩
 rw [if_pos c1] at H;have c1b0:decide (x4_1<a0_0)=true:=dt_ c1;clear c1;obtain ⟨t1,A2,H⟩:=o1_ H
 by_cases c2:t1=true
 ·subst c2
  rw [if_pos rfl] at H;have H':=A0_ H;clear H;have hcz1:=c3_ BK1
  go_wp2_with (first|((with_reducible refine gc_ (f:=73) rfl ?_);refine gl_ 14 Tryd.func73 #[.agg #[.int .i64 a0_0,.bool a0_1,.slice A0_2 l0_2.length c0_2],.int .i64 x4_1] ?_;(with_reducible refine (bp.calls k1 a0_0 a0_1 _ _ l0_2 x4_1 true _ ?_ ?_ A2.out).mono ?_);exact bn;exact HC0_2.out;rintro e w3 ⟨rfl,hb⟩;refine ⟨_,rfl,?_⟩;replace HO_1:=q1_ HO_1 hb;replace BK1:=k1_ BK1 hb;replace HB:=hb_ hb ab;(try clear hb)))
  go_roundg k1
  case measure=>have:=HK1.out;omega
  exact ⟨(x3_1),(wrap64 (x4_1+1)),aC,H',⟨de⟩,⟨aD⟩,⟨u1_ BK1⟩,⟨ab⟩⟩
 obtain rfl:=bf_.mpr c2;rw [if_neg ft_] at H;obtain ⟨c3,H⟩:=is_ H;have LMc1:=A0_ c3;clear c3;obtain ⟨y2,hy2⟩:∃ y_:List Int,y_=(x3_1++[x4_1]):=⟨_,rfl⟩;replace H:(bi.l0 k1 y2 (wrap64 (x4_1+1)) a0_0 a0_1 l0_2)=some r:=dO;have Ny2:=A0_ hy2;clear hy2;have H':=A0_ H;clear H;have hcz1:=c3_ BK1
 go_wp2_with (first|((with_reducible refine gc_ (f:=73) rfl ?_);refine gl_ 14 Tryd.func73 #[.agg #[.int .i64 a0_0,.bool a0_1,.slice A0_2 l0_2.length c0_2],.int .i64 x4_1] ?_;(with_reducible refine (bp.calls k1 a0_0 a0_1 _ _ l0_2 x4_1 false _ ?_ ?_ A2.out).mono ?_);exact bn;exact HC0_2.out;rintro e w3 ⟨rfl,hb⟩;refine ⟨_,rfl,?_⟩;replace HO_1:=q1_ HO_1 hb;replace BK1:=k1_ BK1 hb;replace HB:=hb_ hb ab;(try clear hb))|((with_reducible refine bO (b:=.append) (xs:=#[.tmp 16,.tmp 18]) rfl ?_);at_builtin;refine Kd.R_append (Kd.int .i64) (w0:=w) w.heap.size rfl (.tmp 16) (.tmp 18) 22 3 (.int .i64 0) 8 rfl Tryd.underlying22 cP rfl ao bL u3 x3_1 x4_1 [.int .i64 x4_1] (fun _=>True) (fun _=>False) rfl rfl ?aP (fun _ hk=>hk.elim) ?aF ?aO ?aB ?aS ?aL ?_;(case aP=>exact rfl);(case aB=>exact ab);(case aF=>exact (fun _ _=>trivial));(case aO=>exact aD);(case aS=>exact (bz_ ab));(case aL=>have:=LMc1.out;omega);intro v4 w4 ho hb hg hat;rw [← Ny2.out] at ho;have n0_:=A0_ (a6 (g:=gb1) (o:=.cells #[.int .i64 a0_0,.bool a0_1,.slice A0_2 l0_2.length c0_2] 26 (0,0)) (u1_ BK1) hg (Kd.R_ne HO_1.out BK1.out ao));have n1_:=A0_ (hb);have n2_:=A0_ (ho);clear BK1 HB HO_1;have BK1:=n0_;have HB:=n1_;have HO2:=n2_;clear n0_ n1_ n2_ ho hb hg hat))
 go_roundg k1
 case measure=>have:=HK1.out;omega
 exact ⟨(y2),(wrap64 (x4_1+1)),aC,H',⟨de⟩,⟨cQ⟩,⟨u1_ BK1⟩,⟨ab⟩⟩

def cI.f (a0:Int) (a1:Int):Option (Int):=if a0 > a1 then (some a0) else (some a1)
theorem cI.calls (a0:Int) (a1:Int) (r:Int) (w:World) (H:cI.f a0 a1=some r) :
  Calls Tryd.prog 91 #[.int .i64 a0,.int .i64 a1] w fun e w'=>e=.returned (.int .i64 r)∧Drawn0 w w':=by
 unfold cI.f at H
 by_cases c1:a0 > a1
 ·rw [if_pos c1] at H
  have c1b0:decide (a1<a0)=true:=dt_ c1;clear c1;obtain rfl:=si_ H;go_enter Tryd.func91,Tryd.ntmps91
  go_wp2
  go_ret
  exact ⟨eq,cT⟩
 rw [if_neg c1] at H;have c1b0:decide (a1<a0)=false:=decide_eq_false c1;clear c1;obtain rfl:=si_ H;go_enter Tryd.func91,Tryd.ntmps91
 go_wp2
 go_ret
 exact ⟨eq,cT⟩

def dw.f (a0:Int) (a1:Int):Option (Int):=if a0<a1 then (some a0) else (some a1)
theorem dw.calls (a0:Int) (a1:Int) (r:Int) (w:World) (H:dw.f a0 a1=some r) :
  Calls Tryd.prog 92 #[.int .i64 a0,.int .i64 a1] w fun e w'=>e=.returned (.int .i64 r)∧Drawn0 w w':=by
 unfold dw.f at H
 by_cases c1:a0<a1
 ·rw [if_pos c1] at H
  have c1b0:decide (a0<a1)=true:=dt_ c1;clear c1;obtain rfl:=si_ H;go_enter Tryd.func92,Tryd.ntmps92
  go_wp2
  go_ret
  exact ⟨eq,cT⟩
 rw [if_neg c1] at H;have c1b0:decide (a0<a1)=false:=decide_eq_false c1;clear c1;obtain rfl:=si_ H;go_enter Tryd.func92,Tryd.ntmps92
 go_wp2
 go_ret
 exact ⟨eq,cT⟩

def ev.f (a0_0:Int) (a0_1:Bool) (l0_2:List Int) (a1:Int) (a2:Int):Option (Int):=(cI.f (wrap64 (a1 - a2)) (wrap64 (a2 - a1))).bind fun t121=>(if a0_1=true then ((dw.f t121 (wrap64 (a0_0 - t121))).bind fun t122=>(some t122)) else (some t121))
theorem ev.calls (a0_0:Int) (a0_1:Bool) (A0_2:Option Addr) (c0_2:Nat) (l0_2:List Int) (a1:Int) (a2:Int) (r:Int) (w:World) (hr0_2:Kd.C (Kd.int .i64) w A0_2 l0_2.length l0_2) (hc0_2:l0_2.length≤c0_2) (H:ev.f a0_0 a0_1 l0_2 a1 a2=some r) :
  Calls Tryd.prog 103 #[.agg #[.int .i64 a0_0,.bool a0_1,.slice A0_2 l0_2.length c0_2],.int .i64 a1,.int .i64 a2] w fun e w'=>e=.returned (.int .i64 r)∧Below w.heap.size w w':=by
 have hu26:=Tryd.underlying26;have HR0_2:=A0_ hr0_2;have HC0_2:=A0_ hc0_2;clear hr0_2 hc0_2;have HB:=A0_ (Below.refl w.heap.size w);unfold ev.f at H;obtain ⟨t1,A2,H⟩:=o1_ H
 by_cases c1:a0_1=true
 case neg =>
  obtain rfl:=bf_.mpr c1;rw [if_neg ft_] at H;obtain rfl:=si_ H;go_enter Tryd.func103,Tryd.ntmps103
  go_wp2_with (first|((with_reducible refine gd_ (N:=3) rfl ?_);refine bx_ 3 #[.int .i64 a0_0,.bool false,.slice A0_2 l0_2.length c0_2] 26 ?_;intro gb1 hg w1 BK1 hb;have GW1:=ge_ hg am;have GE1:=GW1;replace HB:=hb_ hb am;clear hb hg)|((with_reducible refine gc_ (f:=91) rfl ?_);refine gl_ 14 Tryd.func91 #[.int .i64 (wrap64 (a1 - a2)),.int .i64 (wrap64 (a2 - a1))] ?_;(with_reducible refine (cI.calls (wrap64 (a1 - a2)) (wrap64 (a2 - a1)) t1 _ A2.out).mono ?_);rintro e w' ⟨rfl,⟨nd,rfl⟩⟩;refine ⟨_,rfl,?_⟩;have hcz1:=c3_ BK1))
  go_ret
  exact ⟨bc,ab⟩
 subst c1;rw [if_pos rfl] at H;obtain ⟨t2,A4,H⟩:=o1_ H;replace H:(some t2)=some r:=H;obtain rfl:=si_ H;go_enter Tryd.func103,Tryd.ntmps103
 go_wp2_with (first|((with_reducible refine gd_ (N:=3) rfl ?_);refine bx_ 3 #[.int .i64 a0_0,.bool true,.slice A0_2 l0_2.length c0_2] 26 ?_;intro gb1 hg w1 BK1 hb;have GW1:=ge_ hg am;have GE1:=GW1;replace HB:=hb_ hb am;clear hb hg)|((with_reducible refine gc_ (f:=91) rfl ?_);refine gl_ 14 Tryd.func91 #[.int .i64 (wrap64 (a1 - a2)),.int .i64 (wrap64 (a2 - a1))] ?_;(with_reducible refine (cI.calls (wrap64 (a1 - a2)) (wrap64 (a2 - a1)) t1 _ A2.out).mono ?_);rintro e w' ⟨rfl,⟨nd,rfl⟩⟩;refine ⟨_,rfl,?_⟩;have hcz1:=c3_ BK1)|((with_reducible refine gc_ (f:=92) rfl ?_);refine gl_ 22 Tryd.func92 #[.int .i64 t1,.int .i64 (wrap64 (a0_0 - t1))] ?_;(with_reducible refine (dw.calls t1 (wrap64 (a0_0 - t1)) t2 _ A4.out).mono ?_);rintro e w' ⟨rfl,⟨nd,rfl⟩⟩;refine ⟨_,rfl,?_⟩))
 go_ret
 exact ⟨bc,ab⟩

def bJ.l0:Nat→Int→List Int→Int→Int→Bool→List Int→Option (List Int)
 | 0,_,_,_,_,_,_=>none
 | k+1,x1,x5,x6,xa,xb,xc=>if x6<xa then ((ev.f xa xb xc x1 x6).bind fun t127=>(if t127=1 then (if x5.length<17592186044416 then (bJ.l0 k x1 (x5++[x6]) (wrap64 (x6+1)) xa xb xc) else (none)) else (bJ.l0 k x1 x5 (wrap64 (x6+1)) xa xb xc))) else (some x5)
def bJ.f (k:Nat) (a0_0:Int) (a0_1:Bool) (l0_2:List Int) (a1:Int):Option (List Int):=bJ.l0 k a1 (([]:List Int)) 0 a0_0 a0_1 l0_2
theorem bJ.mono_l:∀ k,(∀ y0 y1 y2 y3 y4 y5,LeO (bJ.l0 k y0 y1 y2 y3 y4 y5) (bJ.l0 (k+1) y0 y1 y2 y3 y4 y5))
 | 0=>fun _ _ _ _ _ _ r h=>by simp [bJ.l0] at h
 | k+1=>by
  have ih0:=bJ.mono_l k
  ·intro y0 y1 y2 y3 y4 y5
   unfold bJ.l0
   repeat' with_reducible first|exact ih0 ..|exact LeO.refl ..|exact LeO.none ..|refine LeO.ite ?_ ?_|refine LeO.bind ?_ (fun _=>?_)
theorem bJ.mono:∀ a0 a1 a2 a3 k,LeO (bJ.f k a0 a1 a2 a3) (bJ.f (k+1) a0 a1 a2 a3):=by
 intro a0 a1 a2 a3 k;have ih0:=bJ.mono_l k;unfold bJ.f
 repeat' with_reducible first|exact ih0 ..|exact LeO.refl ..|exact LeO.none ..|refine LeO.ite ?_ ?_|refine LeO.bind ?_ (fun _=>?_)
theorem bJ.calls (k:Nat) (a0_0:Int) (a0_1:Bool) (A0_2:Option Addr) (c0_2:Nat) (l0_2:List Int) (a1:Int) (r:List Int) (w:World) (hr0_2:Kd.C (Kd.int .i64) w A0_2 l0_2.length l0_2) (hc0_2:l0_2.length≤c0_2) (H:bJ.f k a0_0 a0_1 l0_2 a1=some r) :
  Calls Tryd.prog 95 #[.agg #[.int .i64 a0_0,.bool a0_1,.slice A0_2 l0_2.length c0_2],.int .i64 a1] w fun e w'=>∃ v0_:Value,e=.returned (v0_)∧Kd.R (Kd.int .i64) 3 w' w.heap.size (fun _=>True) v0_ r∧Below w.heap.size w w':=by
 have hu26:=Tryd.underlying26;have HR0_2:=A0_ hr0_2;have HC0_2:=A0_ hc0_2;clear hr0_2 hc0_2;have HB:=A0_ (Below.refl w.heap.size w);unfold bJ.f at H;obtain ⟨y1,hy1⟩:∃ y_:List Int,y_=(([]:List Int)):=⟨_,rfl⟩;replace H:(bJ.l0 k a1 y1 0 a0_0 a0_1 l0_2)=some r:=dp;have Ny1:=A0_ hy1;clear hy1;have H':=A0_ H;clear H;go_enter Tryd.func95,Tryd.ntmps95
 go_wp2_with (first|((with_reducible refine gd_ (N:=2) rfl ?_);refine bx_ 2 #[.int .i64 a0_0,.bool a0_1,.slice A0_2 l0_2.length c0_2] 26 ?_;intro gb1 hg w1 BK1 hb;have GW1:=ge_ hg am;have GE1:=GW1;replace HB:=hb_ hb am;clear hb hg)|((with_reducible refine gd_ (N:=7) rfl ?_);refine Kd.R_lit (Kd.int .i64) _ 3 ?hg (N:=7) ?hd (xs:=([]:List Int)) (inner:=[]) (ok:=fun _=>True) (okp:=fun _=>True) ?hr ?hp (fun _ hk=>hk) trivial (Below.refl _ _) (Nat.le_refl _) bx ?_;(case hd=>rfl);(case hg=>rfl);(case hr=>go_simp;first|done|rfl);(case hp=>exact (bu.none _ _));intro v1 w2 ho5 hb hg_ hnew_;clear hg_ hnew_;(first|rw [← Ny1.out] at ho5|(simp only [Int.reduceToNat] at ho5;rw [← Ny1.out] at ho5));have HO1:=A0_ (Kd.R_lower ho5 (bz_ ab));replace BK1:=k1_ BK1 hb;replace HB:=hb_ hb ab;clear hb ho5))
 go_loopg [5,6] k (fun kq v2 v3 w'=>∃ (x5_1:List Int) (x6_1:Int),v3=.int .i64 x6_1∧Aside0 (bJ.l0 kq a1 x5_1 x6_1 a0_0 a0_1 l0_2=some r)∧Aside0 (kq≤k)∧Aside0 (Kd.R (Kd.int .i64) 3 w' w.heap.size (fun _=>True) v2 x5_1)∧Aside0 (w'.heap[gb1]?=some (.cells #[.int .i64 a0_0,.bool a0_1,(.slice A0_2 l0_2.length c0_2)] 26 (0,0)))∧Aside0 (Below w.heap.size w w'))
 case atStart=>exact ⟨(y1),(0),aC,H',⟨Nat.le_refl _⟩,⟨bR⟩,⟨u1_ BK1⟩,⟨ab⟩⟩
 clear H';obtain ⟨x5_1,x6_1,rfl,HA,HK1,HO_1,BK1,HB⟩:=hrel
 cases gk with|zero=>exact absurd HA.out (by simp [bJ.l0])|succ k1=>?_
 have H:=HA.out;clear HA;simp only [bJ.l0] at H
 by_cases c1:x6_1<a0_0
 case neg =>
  rw [if_neg c1] at H;have c1b0:decide (x6_1<a0_0)=false:=decide_eq_false c1;clear c1;obtain rfl:=si_ H;have hcz1:=c3_ BK1
  go_wp2
  go_ret
  exact ⟨_,bc,aD,ab⟩
 rw [if_pos c1] at H;have c1b0:decide (x6_1<a0_0)=true:=dt_ c1;clear c1;obtain ⟨t1,A2,H⟩:=o1_ H
 by_cases c2:t1=1
 case neg =>
  rw [if_neg c2] at H;obtain ⟨c2b0,c2b1⟩:=ef_ c2;have H':=A0_ H;clear H;have hcz1:=c3_ BK1
  go_wp2_with (first|((with_reducible refine gc_ (f:=103) rfl ?_);refine gl_ 17 Tryd.func103 #[.agg #[.int .i64 a0_0,.bool a0_1,.slice A0_2 l0_2.length c0_2],.int .i64 a1,.int .i64 x6_1] ?_;(with_reducible refine (ev.calls a0_0 a0_1 _ _ l0_2 a1 x6_1 t1 _ ?_ ?_ A2.out).mono ?_);exact bn;exact HC0_2.out;rintro e w3 ⟨rfl,hb⟩;refine ⟨_,rfl,?_⟩;replace HO_1:=q1_ HO_1 hb;replace BK1:=k1_ BK1 hb;replace HB:=hb_ hb ab;(try clear hb)))
  go_roundg k1
  case measure=>have:=HK1.out;omega
  exact ⟨(x5_1),(wrap64 (x6_1+1)),aC,H',⟨de⟩,⟨aD⟩,⟨u1_ BK1⟩,⟨ab⟩⟩
 rw [if_pos c2] at H;obtain ⟨c2b0,c2b1⟩:=et_ c2;clear c2;obtain ⟨c3,H⟩:=is_ H;have LMc1:=A0_ c3;clear c3;obtain ⟨y2,hy2⟩:∃ y_:List Int,y_=(x5_1++[x6_1]):=⟨_,rfl⟩;replace H:(bJ.l0 k1 a1 y2 (wrap64 (x6_1+1)) a0_0 a0_1 l0_2)=some r:=dO;have Ny2:=A0_ hy2;clear hy2;have H':=A0_ H;clear H;have hcz1:=c3_ BK1
 go_wp2_with (first|((with_reducible refine gc_ (f:=103) rfl ?_);refine gl_ 17 Tryd.func103 #[.agg #[.int .i64 a0_0,.bool a0_1,.slice A0_2 l0_2.length c0_2],.int .i64 a1,.int .i64 x6_1] ?_;(with_reducible refine (ev.calls a0_0 a0_1 _ _ l0_2 a1 x6_1 t1 _ ?_ ?_ A2.out).mono ?_);exact bn;exact HC0_2.out;rintro e w3 ⟨rfl,hb⟩;refine ⟨_,rfl,?_⟩;replace HO_1:=q1_ HO_1 hb;replace BK1:=k1_ BK1 hb;replace HB:=hb_ hb ab;(try clear hb))|((with_reducible refine bO (b:=.append) (xs:=#[.tmp 19,.tmp 21]) rfl ?_);at_builtin;refine Kd.R_append (Kd.int .i64) (w0:=w) w.heap.size rfl (.tmp 19) (.tmp 21) 22 3 (.int .i64 0) 8 rfl Tryd.underlying22 cP rfl ao bL u5 x5_1 x6_1 [.int .i64 x6_1] (fun _=>True) (fun _=>False) rfl rfl ?aP (fun _ hk=>hk.elim) ?aF ?aO ?aB ?aS ?aL ?_;(case aP=>exact rfl);(case aB=>exact ab);(case aF=>exact (fun _ _=>trivial));(case aO=>exact aD);(case aS=>exact (bz_ ab));(case aL=>have:=LMc1.out;omega);intro v4 w4 ho hb hg hat;rw [← Ny2.out] at ho;have n0_:=A0_ (a6 (g:=gb1) (o:=.cells #[.int .i64 a0_0,.bool a0_1,.slice A0_2 l0_2.length c0_2] 26 (0,0)) (u1_ BK1) hg (Kd.R_ne HO_1.out BK1.out ao));have n1_:=A0_ (hb);have n2_:=A0_ (ho);clear BK1 HB HO_1;have BK1:=n0_;have HB:=n1_;have HO2:=n2_;clear n0_ n1_ n2_ ho hb hg hat))
 go_roundg k1
 case measure=>have:=HK1.out;omega
 exact ⟨(y2),(wrap64 (x6_1+1)),aC,H',⟨de⟩,⟨cQ⟩,⟨u1_ BK1⟩,⟨ab⟩⟩

mutual
def au.l0:Nat→List Int→List Int→Int→Int→Bool→List Int→Option (List Int)
 | 0,_,_,_,_,_,_=>none
 | k+1,x3,x4,x5,xa,xb,xc=>if x5<(x4.length:Int) then (if 0≤x5 then ((bJ.f k xa xb xc (rd x4 x5)).bind fun t139=>(au.l1 k x3 x4 x5 t139 true 0 xa xb xc)) else (none)) else (some x3)
def au.l1:Nat→List Int→List Int→Int→List Int→Bool→Int→Int→Bool→List Int→Option (List Int)
 | 0,_,_,_,_,_,_,_,_,_=>none
 | k+1,x3,x4,x5,x6,x7,x8,xa,xb,xc=>if x8<(x6.length:Int) then (if x7=true then (if 0≤x8 then ((bp.f k xa xb xc (rd x6 x8)).bind fun t143=>(au.l1 k x3 x4 x5 x6 (!t143) (wrap64 (x8+1)) xa xb xc)) else (none)) else (au.l1 k x3 x4 x5 x6 false (wrap64 (x8+1)) xa xb xc)) else (if x7=true then (if 0≤x5 then (if x5<(x4.length:Int) then (if x3.length<17592186044416 then (au.l0 k (x3++[rd x4 x5]) x4 (wrap64 (x5+1)) xa xb xc) else (none)) else (none)) else (none)) else (au.l0 k x3 x4 (wrap64 (x5+1)) xa xb xc))
end
def au.f (k:Nat) (a0_0:Int) (a0_1:Bool) (l0_2:List Int):Option (List Int):=(bi.f k a0_0 a0_1 l0_2).bind fun t135=>(au.l0 k (([]:List Int)) t135 0 a0_0 a0_1 l0_2)
theorem au.mono_l:∀ k,(∀ y0 y1 y2 y3 y4 y5,LeO (au.l0 k y0 y1 y2 y3 y4 y5) (au.l0 (k+1) y0 y1 y2 y3 y4 y5))∧(∀ y0 y1 y2 y3 y4 y5 y6 y7 y8,LeO (au.l1 k y0 y1 y2 y3 y4 y5 y6 y7 y8) (au.l1 (k+1) y0 y1 y2 y3 y4 y5 y6 y7 y8))
 | 0=>⟨fun _ _ _ _ _ _ r h=>by simp [au.l0] at h,fun _ _ _ _ _ _ _ _ _ r h=>by simp [au.l1] at h⟩
 | k+1=>by
  obtain ⟨ih0,ih1⟩:=au.mono_l k
  refine ⟨?_,?_⟩
  ·intro y0 y1 y2 y3 y4 y5
   unfold au.l0
   repeat' with_reducible first|exact ih0 ..|exact ih1 ..|exact bi.mono ..|exact bp.mono ..|exact bJ.mono ..|exact LeO.refl ..|exact LeO.none ..|refine LeO.ite ?_ ?_|refine LeO.bind ?_ (fun _=>?_)
  ·intro y0 y1 y2 y3 y4 y5 y6 y7 y8
   unfold au.l1
   repeat' with_reducible first|exact ih0 ..|exact ih1 ..|exact bi.mono ..|exact bp.mono ..|exact bJ.mono ..|exact LeO.refl ..|exact LeO.none ..|refine LeO.ite ?_ ?_|refine LeO.bind ?_ (fun _=>?_)
theorem au.mono:∀ a0 a1 a2 k,LeO (au.f k a0 a1 a2) (au.f (k+1) a0 a1 a2):=by
 intro a0 a1 a2 k;obtain ⟨ih0,ih1⟩:=au.mono_l k;unfold au.f
 repeat' with_reducible first|exact ih0 ..|exact ih1 ..|exact bi.mono ..|exact bp.mono ..|exact bJ.mono ..|exact LeO.refl ..|exact LeO.none ..|refine LeO.ite ?_ ?_|refine LeO.bind ?_ (fun _=>?_)
def au.T5:Bool × List (List Nat × List Nat):=(true,[([],[]),([],[]),([],[]),([1,2],[1,2]),([3],[3]),([0,4],[0,4]),([5,5,0,1,2,3,4,5],[5]),([6,0,1,2,3,4,5,6],[])])
def au.B5:List Nat:=[0,0,0,6,14,31,63,127]
theorem au.tab5:dx .any (dX Tryd.f72 5)=au.T5:=by kernel_rfl
theorem au.bits5:cp au.T5.2 au.B5=true:=by kernel_rfl
def au.T9:Bool × List (List Nat × List Nat):=(true,[([],[]),([0],[0]),([1],[1]),([1],[1]),([1],[1]),([3,4,1],[1,3,4]),([5,1],[1,5]),([2,6,1,1],[1,2,6]),([7,1],[1,7]),([1,8],[1,8]),([9,7,0,1,2,3,4,5,6,7,8,9],[0,9])])
def au.B9:List Nat:=[0,1,3,3,3,27,59,127,255,511,1023]
theorem au.tab9:dx .any (dX Tryd.f72 9)=au.T9:=by kernel_rfl
theorem au.bits9:cp au.T9.2 au.B9=true:=by kernel_rfl
theorem au.calls (k:Nat) (a0_0:Int) (a0_1:Bool) (A0_2:Option Addr) (c0_2:Nat) (l0_2:List Int) (r:List Int) (w:World) (hr0_2:Kd.C (Kd.int .i64) w A0_2 l0_2.length l0_2) (hc0_2:l0_2.length≤c0_2) (H:au.f k a0_0 a0_1 l0_2=some r) :
  Calls Tryd.prog 72 #[.agg #[.int .i64 a0_0,.bool a0_1,.slice A0_2 l0_2.length c0_2]] w fun e w'=>∃ v0_:Value,e=.returned (v0_)∧Kd.R (Kd.int .i64) 3 w' w.heap.size (fun _=>True) v0_ r∧Below w.heap.size w w':=by
 have hu26:=Tryd.underlying26;have HR0_2:=A0_ hr0_2;have HC0_2:=A0_ hc0_2;clear hr0_2 hc0_2;have HB:=A0_ (Below.refl w.heap.size w);unfold au.f at H;obtain ⟨y1,hy1⟩:∃ y_:List Int,y_=(([]:List Int)):=⟨_,rfl⟩;replace H:((bi.f k a0_0 a0_1 l0_2).bind fun t1=>(au.l0 k y1 t1 0 a0_0 a0_1 l0_2))=some r:=dp;have Ny1:=A0_ hy1;clear hy1;obtain ⟨t1,A2,H⟩:=o1_ H;have H':=A0_ H;clear H;go_enter Tryd.func72,Tryd.ntmps72
 go_wp2_with (first|((with_reducible refine gd_ (N:=1) rfl ?_);refine bx_ 1 #[.int .i64 a0_0,.bool a0_1,.slice A0_2 l0_2.length c0_2] 26 ?_;intro gb1 hg w1 BK1 hb;have GW1:=ge_ hg am;have GE1:=GW1;replace HB:=hb_ hb am;clear hb hg)|((with_reducible refine gd_ (N:=9) rfl ?_);refine Kd.R_lit (Kd.int .i64) _ 3 ?hg (N:=9) ?hd (xs:=([]:List Int)) (inner:=[]) (ok:=fun _=>True) (okp:=fun _=>True) ?hr ?hp (fun _ hk=>hk) trivial (Below.refl _ _) (Nat.le_refl _) bx ?_;(case hd=>rfl);(case hg=>rfl);(case hr=>go_simp;first|done|rfl);(case hp=>exact (bu.none _ _));intro v1 w2 ho5 hb hg_ hnew_;clear hg_ hnew_;(first|rw [← Ny1.out] at ho5|(simp only [Int.reduceToNat] at ho5;rw [← Ny1.out] at ho5));have HO1:=A0_ (Kd.R_lower ho5 (bz_ ab));replace BK1:=k1_ BK1 hb;replace HB:=hb_ hb ab;clear hb ho5;have hcz1:=c3_ BK1)|((with_reducible refine gc_ (f:=94) rfl ?_);refine gl_ 11 Tryd.func94 #[.agg #[.int .i64 a0_0,.bool a0_1,.slice A0_2 l0_2.length c0_2]] ?_;(with_reducible refine (bi.calls k a0_0 a0_1 _ _ l0_2 t1 _ ?_ ?_ A2.out).mono ?_);exact bn;exact HC0_2.out;rintro e w3 ⟨v2,rfl,ho0,hb⟩;refine ⟨_,rfl,?_⟩;have HO2:=A0_ (Kd.R_lower (Kd.R_new' ho0 (Kd.R_lt bR)) (bz_ ab));replace HO1:=A0_ (Kd.R_elder' bR (Kd.R_base ho0) hb);replace BK1:=k1_ BK1 hb;replace HB:=hb_ hb ab;(try clear hb ho0)))
 go_loopg [3,5] k (fun kq v3 v4 w'=>∃ (x3_1:List Int) (x5_1:Int),v4=.int .i64 x5_1∧Aside0 (au.l0 kq x3_1 t1 x5_1 a0_0 a0_1 l0_2=some r)∧Aside0 (kq≤k)∧Aside0 (Kd.R (Kd.int .i64) 3 w' w.heap.size (fun k_=>no_ v2 k_) v3 x3_1)∧Aside0 (Kd.R (Kd.int .i64) 3 w' w.heap.size (fun k_=>no_ v3 k_) v2 t1)∧Aside0 (w'.heap[gb1]?=some (.cells #[.int .i64 a0_0,.bool a0_1,(.slice A0_2 l0_2.length c0_2)] 26 (0,0)))∧Aside0 (Below w.heap.size w w'))
 case atStart=>exact ⟨(y1),(0),aC,H',⟨Nat.le_refl _⟩,⟨gQ⟩,⟨fT⟩,⟨u1_ BK1⟩,⟨ab⟩⟩
 clear H'
 (try clear hcz1)
 obtain ⟨x3_1,x5_1,rfl,HA,HK1,HO_1,HO_2,BK1,HB⟩:=hrel
 cases gk with|zero=>exact absurd HA.out (by simp [au.l0])|succ k1=>?_
 have H:=HA.out;clear HA;simp only [au.l0] at H
 by_cases c1:x5_1<(t1.length:Int)
 case neg =>
  rw [if_neg c1] at H;have c1b0:decide (x5_1<(t1.length:Int))=false:=decide_eq_false c1;clear c1;obtain rfl:=si_ H;obtain ⟨Ao1,co1,eo1⟩:=Kd.R_slice HO_2.out;subst eo1
  go_wp2
  go_ret
  exact ⟨_,bc,ln,ab⟩
 rw [if_pos c1] at H;have c1b0:decide (x5_1<(t1.length:Int))=true:=dt_ c1;clear c1;obtain ⟨c2b0,H⟩:=i1_ H;obtain ⟨t2,A4,H⟩:=o1_ H;have H':=A0_ H;clear H;obtain ⟨Ao1,co1,eo1⟩:=Kd.R_slice HO_2.out;subst eo1
 try go_wp2
 replace HO_1:=A0_ (rd_ HO_1.out);replace HO_2:=A0_ (rd_ HO_2.out);replace BK1:=A0_ (kd_ BK1.out);replace HB:=A0_ (bd_ HB.out);have p1:0≤(x5_1:Int):=od_ aE;have q1:x5_1<(t1.length:Int):=od_ aE;obtain ⟨ad1,e1,hx1_0⟩:=Kd.at_int (rr_ HO_2.out).2.2 x5_1 p1 q1;cases e1;replace p1:=eq_true p1;replace q1:=eq_true q1
 refine dh (n:=8) (S:=fun w'=>w'.cell? ⟨gb1,0,none⟩=some (.int .i64 a0_0)∧w'.cell? ⟨gb1,1,none⟩=some (.bool a0_1)∧w'.cell? ⟨gb1,2,none⟩=some (.slice A0_2 l0_2.length c0_2)∧w'.cell? (ad1.add (x5_1).toNat)=some (.int .i64 (rd t1 x5_1))) (ds:=[]) #[false,false,false,false,false,false,false,false] bS rfl rfl (a3_ BK1 hx1_0) (fun hHeld=>?_);refine dc au.tab5 au.bits5 (fun HT_ HW_=>?_)
 generalize wr.drew=w4 at HO_1 HO_2 BK1 HB hx1_0 hHeld ⊢
 refine pu_ 1 19 ?_
 refine pu_ 2 20 ?_
 refine pu_ 3 21 ?_
 refine tk_ 0 18 hHeld ?_
 refine tk_ 4 22 hHeld ?_
 refine on_ 5 (some 23) (fun K hK=>?_)
 refine gs_ Tryd.func95 #[.agg #[.int .i64 a0_0,.bool a0_1,.slice A0_2 l0_2.length c0_2],.int .i64 (rd t1 x5_1)] ?_
 with_reducible refine (bJ.calls k1 a0_0 a0_1 _ _ l0_2 (rd t1 x5_1) t2 _ ?_ ?_ A4.out).mono ?_
 exact bn
 exact HC0_2.out
 rintro e w5 ⟨v5,rfl,ho0,hb⟩;have HS3_:=(hb.cell (World.block_lt_of_cell? _ _ (hHeld.2.2.2))).trans (hHeld.2.2.2)
 refine ⟨_,rfl,?_⟩
 have HO3:=A0_ (Kd.R_lower (Kd.R_new' (Kd.R_new' ho0 (Kd.R_lt aD)) (Kd.R_lt bW)) (bz_ ab));replace HO_1:=A0_ (Kd.R_elder' aD (Kd.R_base ho0) hb);replace HO_2:=A0_ (Kd.R_elder' bW (Kd.R_base ho0) hb);replace BK1:=k1_ BK1 hb;replace HB:=hb_ hb ab
 (try clear hb ho0)
 refine hK.out _ _ (a3_ BK1 HS3_) (fun hHeld=>?_)
 clear hK K
 refine nm_ 23 ?_
 refine pu_ 6 6 ?_
 refine pu_ 7 7 ?_
 refine dn_ ?_
 try go_wp2
 go_loopg [7,8] k1 (fun kq v6 v7 w'=>∃ (x7_2:Bool) (x8_2:Int),v6=.bool x7_2∧v7=.int .i64 x8_2∧Aside0 (au.l1 kq x3_1 t1 x5_1 t2 x7_2 x8_2 a0_0 a0_1 l0_2=some r)∧Aside0 (kq≤k1)∧Aside0 (Kd.R (Kd.int .i64) 3 w' w.heap.size (fun k_=>no_ (.slice (some ad1) t1.length co1) k_∧no_ v5 k_) u3 x3_1)∧Aside0 (Kd.R (Kd.int .i64) 3 w' w.heap.size (fun k_=>no_ u3 k_∧no_ v5 k_) (.slice (some ad1) t1.length co1) t1)∧Aside0 (Kd.R (Kd.int .i64) 3 w' w.heap.size (fun k_=>no_ u3 k_∧no_ (.slice (some ad1) t1.length co1) k_) v5 t2)∧Aside0 (w'.heap[gb1]?=some (.cells #[.int .i64 a0_0,.bool a0_1,(.slice A0_2 l0_2.length c0_2)] 26 (0,0)))∧Aside0 (Below w.heap.size w w'))
 case atStart=>exact ⟨(true),(0),aC,aC,H',⟨Nat.le_refl _⟩,⟨aD⟩,⟨bW⟩,⟨by (with_reducible repeat (first|apply ra_|apply rn_|apply rd_));exact Kd.R_mono HO3.out (fun _ hk=>⟨hk.1.2,hk.2⟩)⟩,⟨u1_ BK1⟩,⟨ab⟩⟩
 clear H'
 try clear c1
 try clear c1b0
 try clear c2
 try clear c2b0
 (try clear hcz1)
 try clear hx1_0
 try clear p1
 try clear q1
 obtain ⟨x7_2,x8_2,rfl,rfl,HA,HK2,HO_1,HO_2,HO_3,BK1,HB⟩:=hrel
 cases gk with|zero=>exact absurd HA.out (by simp [au.l1])|succ k2=>?_
 have H:=HA.out;clear HA;simp only [au.l1] at H
 by_cases c3:x8_2<(t2.length:Int)
 case neg =>
  rw [if_neg c3] at H;have c3b0:decide (x8_2<(t2.length:Int))=false:=decide_eq_false c3;clear c3
  by_cases c4:x7_2=true
  case neg =>
   obtain rfl:=bf_.mpr c4;rw [if_neg ft_] at H;have H':=A0_ H;clear H;obtain ⟨Ao2,co2,eo2⟩:=Kd.R_slice HO_3.out;subst eo2
   go_wp2
   go_roundg k2
   case measure=>have:=HK1.out;have:=HK2.out;omega
   exact ⟨(x3_1),(wrap64 (x5_1+1)),aC,H',⟨gg⟩,⟨oQ⟩,⟨by (with_reducible repeat (first|apply ra_|apply rn_|apply rd_));exact Kd.R_mono HO_2.out (fun _ hk=>hk.1)⟩,⟨u1_ BK1⟩,⟨ab⟩⟩
  subst c4;rw [if_pos rfl] at H;obtain ⟨c5b0,H⟩:=i1_ H;obtain ⟨c6b0,H⟩:=i1_ H;obtain ⟨c7,H⟩:=is_ H;have LMc1:=A0_ c7;clear c7;obtain ⟨y2,hy2⟩:∃ y_:List Int,y_=(x3_1++[rd t1 x5_1]):=⟨_,rfl⟩;replace H:(au.l0 k2 y2 t1 (wrap64 (x5_1+1)) a0_0 a0_1 l0_2)=some r:=dO;have Ny2:=A0_ hy2;clear hy2;have H':=A0_ H;clear H;obtain ⟨Ao2,co2,eo2⟩:=Kd.R_slice HO_3.out;subst eo2;have p2:0≤(x5_1:Int):=od_ aE;have q2:x5_1<(t1.length:Int):=od_ aE;obtain ⟨ad2,e2,hx2_0⟩:=Kd.at_int (rr_ HO_2.out).2.2 x5_1 p2 q2;obtain rfl:ad1=ad2:=e5;replace p2:=eq_true p2;replace q2:=eq_true q2
  go_wp2_with (first|((with_reducible refine bO (b:=.append) (xs:=#[.tmp 41,.tmp 46]) rfl ?_);at_builtin;refine Kd.R_append (Kd.int .i64) (w0:=w) w.heap.size rfl (.tmp 41) (.tmp 46) 22 3 (.int .i64 0) 8 rfl Tryd.underlying22 cP rfl ao bL u3 x3_1 (rd t1 x5_1) [.int .i64 (rd t1 x5_1)] (fun k_=>no_ (.slice (some ad1) t1.length co1) k_∧no_ (.slice Ao2 t2.length co2) k_) (fun _=>False) rfl rfl ?aP (fun _ hk=>hk.elim) ?aF ?aO ?aB ?aS ?aL ?_;(case aP=>exact rfl);(case aB=>exact ab);(case aF=>exact (fun k_ hk=>⟨Kd.fresh' (Kd.R_lt bW) k_ hk,Kd.fresh' (Kd.R_lt di) k_ hk⟩));(case aO=>exact aD);(case aS=>exact (bz_ ab));(case aL=>have:=LMc1.out;omega);intro v8 w6 ho hb hg hat;rw [← Ny2.out] at ho;have n0_:=A0_ (Kd.R_after (ok:=(fun k_=>no_ (.slice Ao2 t2.length co2) k_)) gR hg hat);have n1_:=A0_ (Kd.R_after (ok:=(fun k_=>no_ (.slice (some ad1) t1.length co1) k_)) ke hg hat);have n2_:=A0_ (a6 (g:=gb1) (o:=.cells #[.int .i64 a0_0,.bool a0_1,.slice A0_2 l0_2.length c0_2] 26 (0,0)) (u1_ BK1) hg (Kd.R_ne HO_1.out BK1.out ao));have n3_:=A0_ (hb);have n4_:=A0_ (ho);clear HO_2 HO_3 BK1 HB HO_1;have HO_2:=n0_;have HO_3:=n1_;have BK1:=n2_;have HB:=n3_;have HO4:=n4_;clear n0_ n1_ n2_ n3_ n4_ ho hb hg hat))
  go_roundg k2
  case measure=>have:=HK1.out;have:=HK2.out;omega
  exact ⟨(y2),(wrap64 (x5_1+1)),aC,H',⟨gg⟩,⟨by (with_reducible repeat (first|apply ra_|apply rn_|apply rd_));exact Kd.R_mono HO4.out (fun _ hk=>hk.1)⟩,⟨nC⟩,⟨u1_ BK1⟩,⟨ab⟩⟩
 rw [if_pos c3] at H;have c3b0:decide (x8_2<(t2.length:Int))=true:=dt_ c3;clear c3
 by_cases c4:x7_2=true
 case neg =>
  obtain rfl:=bf_.mpr c4;rw [if_neg ft_] at H;have H':=A0_ H;clear H;obtain ⟨Ao2,co2,eo2⟩:=Kd.R_slice HO_3.out;subst eo2
  try go_wp2
  replace HO_1:=A0_ (rd_ HO_1.out);replace HO_2:=A0_ (rd_ HO_2.out);replace HO_3:=A0_ (rd_ HO_3.out);replace BK1:=A0_ (kd_ BK1.out);replace HB:=A0_ (bd_ HB.out)
  refine dh (n:=11) (S:=fun w'=>True) (ds:=[]) #[false,false,false,false,false,false,false,false,false,false,false] bS rfl rfl trivial (fun hHeld=>?_);refine dc au.tab9 au.bits9 (fun HT_ HW_=>?_)
  generalize wr.drew=w6 at HO_1 HO_2 HO_3 BK1 HB hHeld ⊢
  refine pu_ 0 30 ?_
  refine pu_ 1 31 ?_
  refine pv_ 2 32 ?_
  refine pv_ 3 33 ?_
  refine pv_ 4 34 ?_
  refine pv_ 5 35 ?_
  refine pv_ 6 36 ?_
  refine pv_ 7 37 ?_
  refine pv_ 8 38 ?_
  refine pu_ 9 39 ?_
  refine pu_ 10 7 ?_
  refine dn_ ?_
  try go_wp2
  go_roundg k2
  case measure=>have:=HK1.out;have:=HK2.out;omega
  exact ⟨(false),(wrap64 (x8_2+1)),aC,aC,H',⟨gg⟩,⟨aD⟩,⟨bW⟩,⟨di⟩,⟨u1_ BK1⟩,⟨ab⟩⟩
 subst c4;rw [if_pos rfl] at H;obtain ⟨c5b0,H⟩:=i1_ H;obtain ⟨t3,A6,H⟩:=o1_ H;have H':=A0_ H;clear H;obtain ⟨Ao2,co2,eo2⟩:=Kd.R_slice HO_3.out;subst eo2
 try go_wp2
 replace HO_1:=A0_ (rd_ HO_1.out);replace HO_2:=A0_ (rd_ HO_2.out);replace HO_3:=A0_ (rd_ HO_3.out);replace BK1:=A0_ (kd_ BK1.out);replace HB:=A0_ (bd_ HB.out);have p2:0≤(x8_2:Int):=od_ aE;have q2:x8_2<(t2.length:Int):=od_ aE;obtain ⟨ad2,e2,hx2_0⟩:=Kd.at_int (rr_ HO_3.out).2.2 x8_2 p2 q2;cases e2;replace p2:=eq_true p2;replace q2:=eq_true q2
 refine dh (n:=11) (S:=fun w'=>w'.cell? ⟨gb1,0,none⟩=some (.int .i64 a0_0)∧w'.cell? ⟨gb1,1,none⟩=some (.bool a0_1)∧w'.cell? ⟨gb1,2,none⟩=some (.slice A0_2 l0_2.length c0_2)∧w'.cell? (ad2.add (x8_2).toNat)=some (.int .i64 (rd t2 x8_2))) (ds:=[]) #[false,false,false,false,false,false,false,false,false,false,false] bS rfl rfl (a3_ BK1 hx2_0) (fun hHeld=>?_);refine dc au.tab9 au.bits9 (fun HT_ HW_=>?_)
 generalize wr.drew=w6 at HO_1 HO_2 HO_3 BK1 HB hx2_0 hHeld ⊢
 refine pu_ 0 30 ?_
 refine pu_ 1 31 ?_
 refine pu_ 3 33 ?_
 refine pu_ 4 34 ?_
 refine pu_ 5 35 ?_
 refine tk_ 2 32 hHeld ?_
 refine tk_ 6 36 hHeld ?_
 refine on_ 7 (some 37) (fun K hK=>?_)
 refine gs_ Tryd.func73 #[.agg #[.int .i64 a0_0,.bool a0_1,.slice A0_2 l0_2.length c0_2],.int .i64 (rd t2 x8_2)] ?_
 with_reducible refine (bp.calls k2 a0_0 a0_1 _ _ l0_2 (rd t2 x8_2) t3 _ ?_ ?_ A6.out).mono ?_
 exact bn
 exact HC0_2.out
 rintro e w7 ⟨rfl,hb⟩;have HS3_:=(hb.cell (World.block_lt_of_cell? _ _ (hHeld.2.2.2))).trans (hHeld.2.2.2)
 refine ⟨_,rfl,?_⟩
 replace HO_1:=q1_ HO_1 hb;replace HO_2:=q1_ HO_2 hb;replace HO_3:=q1_ HO_3 hb;replace BK1:=k1_ BK1 hb;replace HB:=hb_ hb ab
 (try clear hb)
 refine hK.out _ _ (a3_ BK1 HS3_) (fun hHeld=>?_)
 clear hK K
 refine nm_ 37 ?_
 refine pu_ 8 38 ?_
 refine pu_ 9 39 ?_
 refine pu_ 10 7 ?_
 refine dn_ ?_
 try go_wp2
 go_roundg k2
 case measure=>have:=HK1.out;have:=HK2.out;omega
 exact ⟨(!t3),(wrap64 (x8_2+1)),aC,aC,H',⟨gg⟩,⟨aD⟩,⟨bW⟩,⟨di⟩,⟨u1_ BK1⟩,⟨ab⟩⟩

def aA.l0:Nat→List Int→Int→Int→Bool→List Int→Option (List Int)
 | 0,_,_,_,_,_=>none
 | k+1,x5,x6,xa,xb,xc=>if x6<xa then (if xa=0 then (none) else ((bp.f k xa xb xc x6).bind fun t155=>(if t155=true then (aA.l0 k x5 (wrap64 (x6+1)) xa xb xc) else ((bp.f k xa xb xc (Int.tmod (wrap64 (x6+1)) xa)).bind fun t156=>(if t156=true then (aA.l0 k x5 (wrap64 (x6+1)) xa xb xc) else (if xb=true then (if x5.length<17592186044416 then (aA.l0 k (x5++[x6]) (wrap64 (x6+1)) xa xb xc) else (none)) else (if (Int.tmod (wrap64 (x6+1)) xa) > x6 then (if x5.length<17592186044416 then (aA.l0 k (x5++[x6]) (wrap64 (x6+1)) xa xb xc) else (none)) else (aA.l0 k x5 (wrap64 (x6+1)) xa xb xc)))))))) else (some x5)
def aA.f (k:Nat) (a0_0:Int) (a0_1:Bool) (l0_2:List Int) (a1:Int):Option (List Int):=if a1=1 then ((au.f k a0_0 a0_1 l0_2).bind fun t149=>(some t149)) else (aA.l0 k (([]:List Int)) 0 a0_0 a0_1 l0_2)
theorem aA.mono_l:∀ k,(∀ y0 y1 y2 y3 y4,LeO (aA.l0 k y0 y1 y2 y3 y4) (aA.l0 (k+1) y0 y1 y2 y3 y4))
 | 0=>fun _ _ _ _ _ r h=>by simp [aA.l0] at h
 | k+1=>by
  have ih0:=aA.mono_l k
  ·intro y0 y1 y2 y3 y4
   unfold aA.l0
   repeat' with_reducible first|exact ih0 ..|exact bp.mono ..|exact au.mono ..|exact LeO.refl ..|exact LeO.none ..|refine LeO.ite ?_ ?_|refine LeO.bind ?_ (fun _=>?_)
theorem aA.mono:∀ a0 a1 a2 a3 k,LeO (aA.f k a0 a1 a2 a3) (aA.f (k+1) a0 a1 a2 a3):=by
 intro a0 a1 a2 a3 k;have ih0:=aA.mono_l k;unfold aA.f
 repeat' with_reducible first|exact ih0 ..|exact bp.mono ..|exact au.mono ..|exact LeO.refl ..|exact LeO.none ..|refine LeO.ite ?_ ?_|refine LeO.bind ?_ (fun _=>?_)
theorem aA.calls (k:Nat) (a0_0:Int) (a0_1:Bool) (A0_2:Option Addr) (c0_2:Nat) (l0_2:List Int) (a1:Int) (r:List Int) (w:World) (hr0_2:Kd.C (Kd.int .i64) w A0_2 l0_2.length l0_2) (hc0_2:l0_2.length≤c0_2) (H:aA.f k a0_0 a0_1 l0_2 a1=some r) :
  Calls Tryd.prog 38 #[.agg #[.int .i64 a0_0,.bool a0_1,.slice A0_2 l0_2.length c0_2],.int .i64 a1] w fun e w'=>∃ v0_:Value,e=.returned (v0_)∧Kd.R (Kd.int .i64) 3 w' w.heap.size (fun _=>True) v0_ r∧Below w.heap.size w w':=by
 have hu26:=Tryd.underlying26;have HR0_2:=A0_ hr0_2;have HC0_2:=A0_ hc0_2;clear hr0_2 hc0_2;have HB:=A0_ (Below.refl w.heap.size w);unfold aA.f at H
 by_cases c1:a1=1
 ·rw [if_pos c1] at H
  obtain ⟨c1b0,c1b1⟩:=et_ c1;clear c1;obtain ⟨t1,A2,H⟩:=o1_ H;replace H:(some t1)=some r:=H;obtain rfl:=si_ H;go_enter Tryd.func38,Tryd.ntmps38
  go_wp2_with (first|((with_reducible refine gd_ (N:=2) rfl ?_);refine bx_ 2 #[.int .i64 a0_0,.bool a0_1,.slice A0_2 l0_2.length c0_2] 26 ?_;intro gb1 hg w1 BK1 hb;have GW1:=ge_ hg am;have GE1:=GW1;replace HB:=hb_ hb am;clear hb hg;have hcz1:=c3_ BK1)|((with_reducible refine gc_ (f:=72) rfl ?_);refine gl_ 11 Tryd.func72 #[.agg #[.int .i64 a0_0,.bool a0_1,.slice A0_2 l0_2.length c0_2]] ?_;(with_reducible refine (au.calls k a0_0 a0_1 _ _ l0_2 t1 _ ?_ ?_ A2.out).mono ?_);exact bn;exact HC0_2.out;rintro e w2 ⟨v1,rfl,ho0,hb⟩;refine ⟨_,rfl,?_⟩;have HO1:=A0_ (Kd.R_lower ho0 (bz_ ab));replace BK1:=k1_ BK1 hb;replace HB:=hb_ hb ab;(try clear hb ho0)))
  go_ret
  exact ⟨_,bc,bR,ab⟩
 rw [if_neg c1] at H;obtain ⟨c1b0,c1b1⟩:=ef_ c1;obtain ⟨y1,hy1⟩:∃ y_:List Int,y_=(([]:List Int)):=⟨_,rfl⟩;replace H:(aA.l0 k y1 0 a0_0 a0_1 l0_2)=some r:=dp;have Ny1:=A0_ hy1;clear hy1;have H':=A0_ H;clear H;go_enter Tryd.func38,Tryd.ntmps38
 go_wp2_with (first|((with_reducible refine gd_ (N:=2) rfl ?_);refine bx_ 2 #[.int .i64 a0_0,.bool a0_1,.slice A0_2 l0_2.length c0_2] 26 ?_;intro gb1 hg w1 BK1 hb;have GW1:=ge_ hg am;have GE1:=GW1;replace HB:=hb_ hb am;clear hb hg)|((with_reducible refine gd_ (N:=12) rfl ?_);refine Kd.R_lit (Kd.int .i64) _ 3 ?hg (N:=12) ?hd (xs:=([]:List Int)) (inner:=[]) (ok:=fun _=>True) (okp:=fun _=>True) ?hr ?hp (fun _ hk=>hk) trivial (Below.refl _ _) (Nat.le_refl _) bx ?_;(case hd=>rfl);(case hg=>rfl);(case hr=>go_simp;first|done|rfl);(case hp=>exact (bu.none _ _));intro v1 w2 ho10 hb hg_ hnew_;clear hg_ hnew_;(first|rw [← Ny1.out] at ho10|(simp only [Int.reduceToNat] at ho10;rw [← Ny1.out] at ho10));have HO1:=A0_ (Kd.R_lower ho10 (bz_ ab));replace BK1:=k1_ BK1 hb;replace HB:=hb_ hb ab;clear hb ho10))
 go_loopg [5,6] k (fun kq v2 v3 w'=>∃ (x5_1:List Int) (x6_1:Int),v3=.int .i64 x6_1∧Aside0 (aA.l0 kq x5_1 x6_1 a0_0 a0_1 l0_2=some r)∧Aside0 (kq≤k)∧Aside0 (Kd.R (Kd.int .i64) 3 w' w.heap.size (fun _=>True) v2 x5_1)∧Aside0 (w'.heap[gb1]?=some (.cells #[.int .i64 a0_0,.bool a0_1,(.slice A0_2 l0_2.length c0_2)] 26 (0,0)))∧Aside0 (Below w.heap.size w w'))
 case atStart=>exact ⟨(y1),(0),aC,H',⟨Nat.le_refl _⟩,⟨bR⟩,⟨u1_ BK1⟩,⟨ab⟩⟩
 clear H'
 try clear c1
 try clear c1b0
 try clear c1b1
 obtain ⟨x5_1,x6_1,rfl,HA,HK1,HO_1,BK1,HB⟩:=hrel
 cases gk with|zero=>exact absurd HA.out (by simp [aA.l0])|succ k1=>?_
 have H:=HA.out;clear HA;simp only [aA.l0] at H
 by_cases c2:x6_1<a0_0
 case neg =>
  rw [if_neg c2] at H;have c2b0:decide (x6_1<a0_0)=false:=decide_eq_false c2;clear c2;obtain rfl:=si_ H;have hcz1:=c3_ BK1
  go_wp2
  go_ret
  exact ⟨_,bc,aD,ab⟩
 rw [if_pos c2] at H;have c2b0:decide (x6_1<a0_0)=true:=dt_ c2;clear c2
 by_cases c3:a0_0=0
 ·rw [if_pos c3] at H
  exact absurd H bx
 rw [if_neg c3] at H;obtain ⟨c3b0,c3b1⟩:=ef_ c3;obtain ⟨t2,A2,H⟩:=o1_ H
 by_cases c4:t2=true
 ·subst c4
  rw [if_pos rfl] at H;have H':=A0_ H;clear H;have hcz1:=c3_ BK1
  go_wp2_with (first|((with_reducible refine gc_ (f:=73) rfl ?_);refine gl_ 26 Tryd.func73 #[.agg #[.int .i64 a0_0,.bool a0_1,.slice A0_2 l0_2.length c0_2],.int .i64 x6_1] ?_;(with_reducible refine (bp.calls k1 a0_0 a0_1 _ _ l0_2 x6_1 true _ ?_ ?_ A2.out).mono ?_);exact bn;exact HC0_2.out;rintro e w3 ⟨rfl,hb⟩;refine ⟨_,rfl,?_⟩;replace HO_1:=q1_ HO_1 hb;replace BK1:=k1_ BK1 hb;replace HB:=hb_ hb ab;(try clear hb)))
  go_roundg k1
  case measure=>have:=HK1.out;omega
  exact ⟨(x5_1),(wrap64 (x6_1+1)),aC,H',⟨de⟩,⟨aD⟩,⟨u1_ BK1⟩,⟨ab⟩⟩
 obtain rfl:=bf_.mpr c4;rw [if_neg ft_] at H;obtain ⟨t3,A4,H⟩:=o1_ H
 by_cases c5:t3=true
 ·subst c5
  rw [if_pos rfl] at H;have H':=A0_ H;clear H;have hcz1:=c3_ BK1
  go_wp2_with (first|((with_reducible refine gc_ (f:=73) rfl ?_);refine gl_ 26 Tryd.func73 #[.agg #[.int .i64 a0_0,.bool a0_1,.slice A0_2 l0_2.length c0_2],.int .i64 x6_1] ?_;(with_reducible refine (bp.calls k1 a0_0 a0_1 _ _ l0_2 x6_1 false _ ?_ ?_ A2.out).mono ?_);exact bn;exact HC0_2.out;rintro e w3 ⟨rfl,hb⟩;refine ⟨_,rfl,?_⟩;replace HO_1:=q1_ HO_1 hb;replace BK1:=k1_ BK1 hb;replace HB:=hb_ hb ab;(try clear hb);have hcz2:=c3_ BK1)|(go_at_call 73;(with_reducible refine (bp.calls k1 a0_0 a0_1 _ _ l0_2 (Int.tmod (wrap64 (x6_1+1)) a0_0) true _ ?_ ?_ A4.out).mono ?_);exact bn;exact HC0_2.out;rintro e w4 ⟨rfl,hb⟩;replace HO_1:=q1_ HO_1 hb;replace BK1:=k1_ BK1 hb;replace HB:=hb_ hb ab;(try clear hb)))
  go_roundg k1
  case measure=>have:=HK1.out;omega
  exact ⟨(x5_1),(wrap64 (x6_1+1)),aC,H',⟨de⟩,⟨aD⟩,⟨u1_ BK1⟩,⟨ab⟩⟩
 obtain rfl:=bf_.mpr c5;rw [if_neg ft_] at H
 by_cases c6:a0_1=true
 ·subst c6
  rw [if_pos rfl] at H;obtain ⟨c7,H⟩:=is_ H;have LMc1:=A0_ c7;clear c7;obtain ⟨y2,hy2⟩:∃ y_:List Int,y_=(x5_1++[x6_1]):=⟨_,rfl⟩;replace H:(aA.l0 k1 y2 (wrap64 (x6_1+1)) a0_0 true l0_2)=some r:=dO;have Ny2:=A0_ hy2;clear hy2;have H':=A0_ H;clear H;have hcz1:=c3_ BK1
  go_wp2_with (first|((with_reducible refine gc_ (f:=73) rfl ?_);refine gl_ 26 Tryd.func73 #[.agg #[.int .i64 a0_0,.bool true,.slice A0_2 l0_2.length c0_2],.int .i64 x6_1] ?_;(with_reducible refine (bp.calls k1 a0_0 true _ _ l0_2 x6_1 false _ ?_ ?_ A2.out).mono ?_);exact bn;exact HC0_2.out;rintro e w3 ⟨rfl,hb⟩;refine ⟨_,rfl,?_⟩;replace HO_1:=q1_ HO_1 hb;replace BK1:=k1_ BK1 hb;replace HB:=hb_ hb ab;(try clear hb);have hcz2:=c3_ BK1)|(go_at_call 73;(with_reducible refine (bp.calls k1 a0_0 true _ _ l0_2 (Int.tmod (wrap64 (x6_1+1)) a0_0) false _ ?_ ?_ A4.out).mono ?_);exact bn;exact HC0_2.out;rintro e w4 ⟨rfl,hb⟩;replace HO_1:=q1_ HO_1 hb;replace BK1:=k1_ BK1 hb;replace HB:=hb_ hb ab;(try clear hb);have hcz3:=c3_ BK1)|((with_reducible refine bO (b:=.append) (xs:=#[.tmp 43,.tmp 45]) rfl ?_);at_builtin;refine Kd.R_append (Kd.int .i64) (w0:=w) w.heap.size rfl (.tmp 43) (.tmp 45) 22 3 (.int .i64 0) 8 rfl Tryd.underlying22 cP rfl ao bL u5 x5_1 x6_1 [.int .i64 x6_1] (fun _=>True) (fun _=>False) rfl rfl ?aP (fun _ hk=>hk.elim) ?aF ?aO ?aB ?aS ?aL ?_;(case aP=>exact rfl);(case aB=>exact ab);(case aF=>exact (fun _ _=>trivial));(case aO=>exact aD);(case aS=>exact (bz_ ab));(case aL=>have:=LMc1.out;omega);intro v4 w5 ho hb hg hat;rw [← Ny2.out] at ho;have n0_:=A0_ (a6 (g:=gb1) (o:=.cells #[.int .i64 a0_0,.bool true,.slice A0_2 l0_2.length c0_2] 26 (0,0)) (u1_ BK1) hg (Kd.R_ne HO_1.out BK1.out ao));have n1_:=A0_ (hb);have n2_:=A0_ (ho);clear BK1 HB HO_1;have BK1:=n0_;have HB:=n1_;have HO2:=n2_;clear n0_ n1_ n2_ ho hb hg hat))
  go_roundg k1
  case measure=>have:=HK1.out;omega
  exact ⟨(y2),(wrap64 (x6_1+1)),aC,H',⟨de⟩,⟨cQ⟩,⟨u1_ BK1⟩,⟨ab⟩⟩
 obtain rfl:=bf_.mpr c6;rw [if_neg ft_] at H
 by_cases c7:(Int.tmod (wrap64 (x6_1+1)) a0_0) > x6_1
 case neg =>
  rw [if_neg c7] at H;have c7b0:decide (x6_1<(Int.tmod (wrap64 (x6_1+1)) a0_0))=false:=decide_eq_false c7;clear c7;have H':=A0_ H;clear H;have hcz1:=c3_ BK1
  go_wp2_with (first|((with_reducible refine gc_ (f:=73) rfl ?_);refine gl_ 26 Tryd.func73 #[.agg #[.int .i64 a0_0,.bool false,.slice A0_2 l0_2.length c0_2],.int .i64 x6_1] ?_;(with_reducible refine (bp.calls k1 a0_0 false _ _ l0_2 x6_1 false _ ?_ ?_ A2.out).mono ?_);exact bn;exact HC0_2.out;rintro e w3 ⟨rfl,hb⟩;refine ⟨_,rfl,?_⟩;replace HO_1:=q1_ HO_1 hb;replace BK1:=k1_ BK1 hb;replace HB:=hb_ hb ab;(try clear hb);have hcz2:=c3_ BK1)|(go_at_call 73;(with_reducible refine (bp.calls k1 a0_0 false _ _ l0_2 (Int.tmod (wrap64 (x6_1+1)) a0_0) false _ ?_ ?_ A4.out).mono ?_);exact bn;exact HC0_2.out;rintro e w4 ⟨rfl,hb⟩;replace HO_1:=q1_ HO_1 hb;replace BK1:=k1_ BK1 hb;replace HB:=hb_ hb ab;(try clear hb);have hcz3:=c3_ BK1))
  go_roundg k1
  case measure=>have:=HK1.out;omega
  exact ⟨(x5_1),(wrap64 (x6_1+1)),aC,H',⟨de⟩,⟨aD⟩,⟨u1_ BK1⟩,⟨ab⟩⟩
 rw [if_pos c7] at H;have c7b0:decide (x6_1<(Int.tmod (wrap64 (x6_1+1)) a0_0))=true:=dt_ c7;clear c7;obtain ⟨c8,H⟩:=is_ H;have LMc1:=A0_ c8;clear c8;obtain ⟨y2,hy2⟩:∃ y_:List Int,y_=(x5_1++[x6_1]):=⟨_,rfl⟩;replace H:(aA.l0 k1 y2 (wrap64 (x6_1+1)) a0_0 false l0_2)=some r:=dO;have Ny2:=A0_ hy2;clear hy2;have H':=A0_ H;clear H;have hcz1:=c3_ BK1
 go_wp2_with (first|((with_reducible refine gc_ (f:=73) rfl ?_);refine gl_ 26 Tryd.func73 #[.agg #[.int .i64 a0_0,.bool false,.slice A0_2 l0_2.length c0_2],.int .i64 x6_1] ?_;(with_reducible refine (bp.calls k1 a0_0 false _ _ l0_2 x6_1 false _ ?_ ?_ A2.out).mono ?_);exact bn;exact HC0_2.out;rintro e w3 ⟨rfl,hb⟩;refine ⟨_,rfl,?_⟩;replace HO_1:=q1_ HO_1 hb;replace BK1:=k1_ BK1 hb;replace HB:=hb_ hb ab;(try clear hb);have hcz2:=c3_ BK1)|(go_at_call 73;(with_reducible refine (bp.calls k1 a0_0 false _ _ l0_2 (Int.tmod (wrap64 (x6_1+1)) a0_0) false _ ?_ ?_ A4.out).mono ?_);exact bn;exact HC0_2.out;rintro e w4 ⟨rfl,hb⟩;replace HO_1:=q1_ HO_1 hb;replace BK1:=k1_ BK1 hb;replace HB:=hb_ hb ab;(try clear hb);have hcz3:=c3_ BK1)|((with_reducible refine bO (b:=.append) (xs:=#[.tmp 43,.tmp 45]) rfl ?_);at_builtin;refine Kd.R_append (Kd.int .i64) (w0:=w) w.heap.size rfl (.tmp 43) (.tmp 45) 22 3 (.int .i64 0) 8 rfl Tryd.underlying22 cP rfl ao bL u5 x5_1 x6_1 [.int .i64 x6_1] (fun _=>True) (fun _=>False) rfl rfl ?aP (fun _ hk=>hk.elim) ?aF ?aO ?aB ?aS ?aL ?_;(case aP=>exact rfl);(case aB=>exact ab);(case aF=>exact (fun _ _=>trivial));(case aO=>exact aD);(case aS=>exact (bz_ ab));(case aL=>have:=LMc1.out;omega);intro v4 w5 ho hb hg hat;rw [← Ny2.out] at ho;have n0_:=A0_ (a6 (g:=gb1) (o:=.cells #[.int .i64 a0_0,.bool false,.slice A0_2 l0_2.length c0_2] 26 (0,0)) (u1_ BK1) hg (Kd.R_ne HO_1.out BK1.out ao));have n1_:=A0_ (hb);have n2_:=A0_ (ho);clear BK1 HB HO_1;have BK1:=n0_;have HB:=n1_;have HO2:=n2_;clear n0_ n1_ n2_ ho hb hg hat))
 go_roundg k1
 case measure=>have:=HK1.out;omega
 exact ⟨(y2),(wrap64 (x6_1+1)),aC,H',⟨de⟩,⟨cQ⟩,⟨u1_ BK1⟩,⟨ab⟩⟩

def cA.f (a0_0:Int) (a0_1:Bool) (l0_2:List Int) (l1:List Int):Option (Int × Bool × List Int):=some (a0_0,a0_1,l1)
theorem cA.calls (a0_0:Int) (a0_1:Bool) (A0_2:Option Addr) (c0_2:Nat) (l0_2:List Int) (P1_:Nat→Prop) (u9000_:Value) (l1:List Int) (r1:Int) (r2:Bool) (r3:List Int) (w0 w:World) (hB:Below w0.heap.size w0 w) (hr0_2:∀ W_,dn w W_ (fun k_=>P1_ k_)→Kd.C (Kd.int .i64) W_ A0_2 l0_2.length l0_2) (hc0_2:l0_2.length≤c0_2) (ho1:Kd.R (Kd.int .i64) 3 w w0.heap.size P1_ u9000_ l1) (H:cA.f a0_0 a0_1 l0_2 l1=some (r1,r2,r3)) :
  Calls Tryd.prog 88 #[.agg #[.int .i64 a0_0,.bool a0_1,.slice A0_2 l0_2.length c0_2],u9000_] w fun e w'=>∃ v2_:Value,e=.returned (.agg #[.int .i64 r1,.bool r2,v2_])∧Kd.R (Kd.int .i64) 3 w' w0.heap.size (fun k_=>(P1_ k_ ∨ w.heap.size≤k_)) v2_ r3∧Below w0.heap.size w0 w'∧dn w w' (fun k_=>P1_ k_):=by
 have hu26:=Tryd.underlying26;have HR0_2:=A0_ hr0_2;have HC0_2:=A0_ hc0_2;clear hr0_2 hc0_2;have HO1:=A0_ (show Kd.R (Kd.int .i64) 3 w w0.heap.size (fun k_=>(P1_ k_ ∨ w.heap.size≤k_)) u9000_ l1 from Kd.R_mono ho1 (fun k_ hk=>(.inl hk)));have HK:=A0_ (dn.refl w (fun k_=>P1_ k_));have HW0:=A0_ hB.size;have HB:=A0_ hB;clear hB;unfold cA.f at H;simp only [sj_,pj_] at H;obtain ⟨rfl,rfl,rfl⟩:=H;go_enter Tryd.func88,Tryd.ntmps88
 go_wp2_with (first|((with_reducible refine gd_ (N:=2) rfl ?_);refine bx_ 2 #[.int .i64 a0_0,.bool a0_1,.slice A0_2 l0_2.length c0_2] 26 ?_;intro gb1 hg w1 BK1 hb;replace HO1:=q1_ HO1 hb;have GW1:=A0_ ((by rw [hg];exact (by first|exact HK.out.1|exact (show dn w _ (fun k_=>P1_ k_) from by repeat (with_reducible first|exact HK.out|apply dn.alloc|apply dn.drewN|apply dn.drew)).1):w.heap.size≤gb1));replace HK:=A0_ (dn.below (S:=(fun k_=>P1_ k_)) (by repeat (with_reducible first|exact HK.out|apply dn.alloc|apply dn.drewN|apply dn.drew)) hb);have GE1:=A0_ ((lp:w0.heap.size≤gb1));replace HB:=hb_ hb am;clear hb hg)|((with_reducible refine gd_ (N:=4) rfl ?_);refine bx_ 4 #[.int .i64 0,.bool false,.slice none 0 0] 26 ?_;intro gb2 hg w2 BK2 hb;replace HO1:=q1_ HO1 hb;have GW2:=A0_ ((by rw [hg];exact (by first|exact HK.out.1|exact (show dn w _ (fun k_=>P1_ k_) from qt).1):w.heap.size≤gb2));replace HK:=A0_ (dn.below (S:=(fun k_=>P1_ k_)) qt hb);have GE2:=A0_ ((qu:w0.heap.size≤gb2));replace HB:=hb_ hb ab;obtain ⟨NB1_2,NB2_1⟩:=nn_ hg BK1;replace BK1:=k1_ BK1 hb;clear hb hg;obtain ⟨hnb1,hnc1⟩:=n2_ NB1_2;have hcz1:=z3_ BK1;obtain ⟨Ao1,co1,eo1⟩:=Kd.R_slice HO1.out;subst eo1;have hcz2_0:=y_ BK2 0;have hcz2_1:=y_ BK2 1;have hcz2_2:=y_ BK2 2;have hfz2_0:=kf_ BK2.out 0;have hfz2_1:=kf_ BK2.out 1;have hfz2_2:=kf_ BK2.out 2))
 refine bodyPost_ret (results_cell_row rfl _ _ gb2 26 #[.int .i64 a0_0,.bool a0_1,.slice Ao1 l1.length co1] (0,0) _ rfl (u1_ BK2) Tryd.underlying26 rfl bS) rfl ?_
 exact ⟨_,bc,by (with_reducible repeat (first|apply ra_|apply rn_|apply rd_));exact Kd.R_mono (cf (Kd.R_types HO1.out BK2.out ao)) (fun _ hk=>hk.1),aY,by repeat (with_reducible first|exact HK.out|apply dn.alloc|apply dn.drewN|apply dn.drew|refine dn.setCell ?_ (.inr GW1.out) _|refine dn.setCell ?_ (.inr GW2.out) _)⟩

def bF.l0:Nat→List Int→Int→Int→Option (List Int)
 | 0,_,_,_=>none
 | k+1,x0,x1,x5=>if x5<(x0.length:Int) then (if 0≤x5 then (if (rd x0 x5)<x1 then (bF.l0 k x0 x1 (wrap64 (x5+1))) else (if (rd x0 x5)=x1 then none else ((some (([]:List Int):List Int)).bind fun y163=>(if x5≤(x0.length:Int) then (if y163.length+(x0.take (x5:Int).toNat).length<17592186044416 then ((some (y163++(x0.take (x5:Int).toNat):List Int)).bind fun y167=>((some (([x1]:List Int):List Int)).bind fun y170=>(if y167.length+y170.length<17592186044416 then ((some (y167++y170:List Int)).bind fun y173=>(if y173.length+(x0.drop (x5:Int).toNat).length<17592186044416 then (some (y173++(x0.drop (x5:Int).toNat))) else (none))) else (none)))) else (none)) else (none))))) else (none)) else ((some (([]:List Int):List Int)).bind fun y180=>(if 0≤x5 then (if x5≤(x0.length:Int) then (if y180.length+(x0.take (x5:Int).toNat).length<17592186044416 then ((some (y180++(x0.take (x5:Int).toNat):List Int)).bind fun y184=>((some (([x1]:List Int):List Int)).bind fun y187=>(if y184.length+y187.length<17592186044416 then ((some (y184++y187:List Int)).bind fun y190=>(if y190.length+(x0.drop (x5:Int).toNat).length<17592186044416 then (some (y190++(x0.drop (x5:Int).toNat))) else (none))) else (none)))) else (none)) else (none)) else (none)))
def bF.f (k:Nat) (l0:List Int) (a1:Int):Option (List Int):=bF.l0 k l0 a1 0
theorem bF.mono_l:∀ k,(∀ y0 y1 y2,LeO (bF.l0 k y0 y1 y2) (bF.l0 (k+1) y0 y1 y2))
 | 0=>fun _ _ _ r h=>by simp [bF.l0] at h
 | k+1=>by
  have ih0:=bF.mono_l k
  ·intro y0 y1 y2
   unfold bF.l0
   repeat' with_reducible first|exact ih0 ..|exact LeO.refl ..|exact LeO.none ..|refine LeO.ite ?_ ?_|refine LeO.bind ?_ (fun _=>?_)
theorem bF.mono:∀ a0 a1 k,LeO (bF.f k a0 a1) (bF.f (k+1) a0 a1):=by
 intro a0 a1 k;have ih0:=bF.mono_l k;unfold bF.f
 repeat' with_reducible first|exact ih0 ..|exact LeO.refl ..|exact LeO.none ..|refine LeO.ite ?_ ?_|refine LeO.bind ?_ (fun _=>?_)
def bF.T6:Bool × List (List Nat × List Nat):=(true,[([],[]),([],[]),([],[]),([1,2],[1,2]),([0,3],[0,3]),([],[]),([5],[5]),([4,6,4],[4,6]),([],[]),([],[]),([8,9],[8,9]),([7,10,7],[7,10]),([11,11,0,1,2,3,4,5,6,7,8,9,10,11],[11])])
def bF.B6:List Nat:=[0,0,0,6,15,0,32,127,0,0,768,2047,4095]
theorem bF.tab6:dx .any (dX Tryd.f96 6)=bF.T6:=by kernel_rfl
theorem bF.bits6:cp bF.T6.2 bF.B6=true:=by kernel_rfl
theorem bF.calls (k:Nat) (A0:Option Addr) (c0:Nat) (l0:List Int) (a1:Int) (r:List Int) (w:World) (hr0:Kd.C (Kd.int .i64) w A0 l0.length l0) (hc0:l0.length≤c0) (H:bF.f k l0 a1=some r) :
  Calls Tryd.prog 96 #[.slice A0 l0.length c0,.int .i64 a1] w fun e w'=>∃ v0_:Value,e=.returned (v0_)∧Kd.R (Kd.int .i64) 3 w' w.heap.size (fun _=>True) v0_ r∧Below w.heap.size w w':=by
 have HR0:=A0_ hr0;have HC0:=A0_ hc0;clear hr0 hc0;have HB:=A0_ (Below.refl w.heap.size w);unfold bF.f at H;have H':=A0_ H;clear H;go_enter Tryd.func96,Tryd.ntmps96
 go_wp2
 go_loopg [5] k (fun kq v1 w'=>∃ (x5_1:Int),v1=.int .i64 x5_1∧Aside0 (bF.l0 kq l0 a1 x5_1=some r)∧Aside0 (kq≤k)∧Aside0 (Below w.heap.size w w'))
 case atStart=>exact ⟨(0),aC,H',⟨Nat.le_refl _⟩,⟨am⟩⟩
 clear H';obtain ⟨x5_1,rfl,HA,HK1,HB⟩:=hrel
 cases gk with|zero=>exact absurd HA.out (by simp [bF.l0])|succ k1=>?_
 have H:=HA.out;clear HA;simp only [bF.l0] at H
 by_cases c1:x5_1<(l0.length:Int)
 case neg =>
  rw [if_neg c1] at H;have c1b0:decide (x5_1<(l0.length:Int))=false:=decide_eq_false c1;clear c1;obtain ⟨y1,hy1⟩:∃ y_:List Int,y_=(([]:List Int)):=⟨_,rfl⟩;replace H:(if 0≤x5_1 then (if x5_1≤(l0.length:Int) then (if y1.length+(l0.take (x5_1:Int).toNat).length<17592186044416 then ((some (y1++(l0.take (x5_1:Int).toNat):List Int)).bind fun y2=>((some (([a1]:List Int):List Int)).bind fun y3=>(if y2.length+y3.length<17592186044416 then ((some (y2++y3:List Int)).bind fun y4=>(if y4.length+(l0.drop (x5_1:Int).toNat).length<17592186044416 then (some (y4++(l0.drop (x5_1:Int).toNat))) else (none))) else (none)))) else (none)) else (none)) else (none))=some r:=dp;have Ny1:=A0_ hy1;clear hy1;obtain ⟨c2b0,c2b1,H⟩:=i2_ H;obtain ⟨c3b0,c3b1,H⟩:=i2_ H;obtain ⟨c4,H⟩:=is_ H;have LMc1:=A0_ c4;clear c4;obtain ⟨y2,hy2⟩:∃ y_:List Int,y_=(y1++(l0.take (x5_1:Int).toNat)):=⟨_,rfl⟩;replace H:((some (([a1]:List Int):List Int)).bind fun y3=>(if y2.length+y3.length<17592186044416 then ((some (y2++y3:List Int)).bind fun y4=>(if y4.length+(l0.drop (x5_1:Int).toNat).length<17592186044416 then (some (y4++(l0.drop (x5_1:Int).toNat))) else (none))) else (none)))=some r:=dO;have Ny2:=A0_ hy2;clear hy2;obtain ⟨y3,hy3⟩:∃ y_:List Int,y_=(([a1]:List Int)):=⟨_,rfl⟩;replace H:(if y2.length+y3.length<17592186044416 then ((some (y2++y3:List Int)).bind fun y4=>(if y4.length+(l0.drop (x5_1:Int).toNat).length<17592186044416 then (some (y4++(l0.drop (x5_1:Int).toNat))) else (none))) else (none))=some r:=ir;have Ny3:=A0_ hy3;clear hy3;obtain ⟨c5,H⟩:=is_ H;have LMc2:=A0_ c5;clear c5;obtain ⟨y4,hy4⟩:∃ y_:List Int,y_=(y2++y3):=⟨_,rfl⟩;replace H:(if y4.length+(l0.drop (x5_1:Int).toNat).length<17592186044416 then (some (y4++(l0.drop (x5_1:Int).toNat))) else (none))=some r:=qv;have Ny4:=A0_ hy4;clear hy4;have c6b0:=eq_true (od_ aE:0≤x5_1);have c7b0:=eq_true (od_ aE:x5_1≤(l0.length:Int));obtain ⟨c8,H⟩:=is_ H;have LMc3:=A0_ c8;clear c8;obtain ⟨y5,hy5⟩:∃ y_:List Int,y_=(y4++(l0.drop (x5_1:Int).toNat)):=⟨_,rfl⟩;replace H:(some y5)=some r:=qw;have Ny5:=A0_ hy5;clear hy5;obtain rfl:=si_ H
  try go_wp2
  replace HB:=A0_ (bd_ HB.out);obtain ⟨i034,hi034,_,hsz34,_⟩:=info_parts cP;obtain ⟨hcut34,hA34,hC34⟩:=is (P:=Tryd.prog) (Value.int .i64) 0 22 3 .i64 Tryd.underlying22 hi034 hsz34 A0 c0 l0 x5_1 (od_ aE) (od_ aE) HC0.out;have HR183:=A0_ (Kd.C_of_reads (h1:=fun _=>rfl) (hA34 _ (Kd.reads_of_C HR0.out)));have HC183:=A0_ hC34;clear hA34 hC34 hi034 hsz34;obtain ⟨i035,hi035,_,hsz35,_⟩:=info_parts cP;obtain ⟨A1,hcut35,hA35,hC35⟩:=it (P:=Tryd.prog) (Value.int .i64) 0 22 3 .i64 Tryd.underlying22 hi035 hsz35 A0 c0 l0 x5_1 (od_ aE) (od_ aE) HC0.out;have HR193:=A0_ (Kd.C_of_reads (h1:=fun _=>rfl) (hA35 _ (Kd.reads_of_C HR0.out)));have HC193:=A0_ hC35;clear hA35 hC35 hi035 hsz35
  refine dh (n:=13) (S:=fun w'=>True) (ds:=[]) #[false,false,false,false,false,false,false,false,false,false,false,false,false] bS rfl rfl trivial (fun hHeld=>?_);refine dc bF.tab6 bF.bits6 (fun HT_ HW_=>?_)
  generalize wr.drew=w1 at HB HR183 HR193 hHeld ⊢
  refine pu_ 1 34 ?_
  refine pu_ 2 35 ?_
  refine pu_ 3 36 ?_
  refine pu_ 5 38 ?_
  refine pu_ 8 41 ?_
  refine pu_ 9 42 ?_
  refine pu_ 10 43 ?_
  refine lq (σ:=Value × Value × Value) 3 #[true,true,true,true,true,true,true,false,true,true,true,false,false] (fun s_=>[(33,s_.1),(37,s_.2.1),(39,s_.2.2)]) (fun s_ w'=>(Kd.R (Kd.int .i64) 3 w' w.heap.size (fun k_=>some k_≠(s_.2.2:Value).ownBlock) s_.2.1 y2)∧(Kd.R (Kd.int .i64) 3 w' w.heap.size (fun k_=>some k_≠(s_.2.1:Value).ownBlock) s_.2.2 y3)∧(Below w.heap.size w w')) ?_ ?_
  rotate_left
  ·intro hCont
   refine ml (i:=0) (j:=6) (Ni:=some 33) (Nj:=some 39) #[true,true,true,true,false,true,false,false,true,true,true,false,false] #[false,true,true,true,false,true,true,false,true,true,true,false,false] rfl rfl rfl rfl (gS HT_.out bS) ao ao (fun K hK=>?_) (fun K hK=>?_)
   ·refine Kd.R_lit_step (Kd.int .i64) _ 3 ?hg (N:=33) ?hd (xs:=([]:List Int)) (inner:=[]) (ok:=fun _=>True) (okp:=fun _=>True) ?hr ?hp (fun _ hk=>hk) trivial (Below.refl _ _) (Nat.le_refl _) bx ?_;(case hd=>rfl);(case hg=>rfl);(case hr=>go_simp;first|done|rfl);(case hp=>exact (bu.none _ _))
    intro v2 w2 ho37 hb hg_ hnew_;clear hg_ hnew_
    (first|rw [← Ny1.out] at ho37|(simp only [Int.reduceToNat] at ho37;rw [← Ny1.out] at ho37))
    have HO1:=A0_ (Kd.R_lower ho37 (bz_ am));replace HB:=hb_ hb am;clear hb ho37
    refine hK.out _ _ trivial (fun hHeld=>?_)
    clear hK K
    refine nm_ 33 ?_
    refine ml (i:=4) (j:=6) (Ni:=some 37) (Nj:=some 39) #[true,true,true,true,true,true,false,false,true,true,true,false,false] #[true,true,true,true,false,true,true,false,true,true,true,false,false] rfl rfl rfl rfl (gS HT_.out bS) ao ao (fun K hK=>?_) (fun K hK=>?_)
    ·refine Kd.R_append_rows_step (Kd.int .i64) (w0:=w) w.heap.size (by rfl) (.tmp 33) (.tmp 36) 22 3 (.int .i64 0) 8 rfl Tryd.underlying22 cP rfl ao bL v2 y1 (l0.take (x5_1:Int).toNat) _ _ _ (fun _=>True) (fun _=>False) rfl rfl ?aO ?aR (fun _ _ h=>h) (fun _ h=>h.elim) ?aF ?aB ?aS ?aL ?_
     (case aR=>first|(have e_:(l0.take (x5_1:Int).toNat).length=x5_1.toNat:=gJ;have hx_:=cb_ HR183.out HB.out;rw [e_] at hx_;repeat (first|exact hx_|(with_reducible refine ca_ ?_ _)|(with_reducible refine cn_ ?_ _)|(with_reducible refine cd_ ?_)))|(repeat (first|exact (cb_ HR183.out HB.out)|(with_reducible refine ca_ ?_ _)|(with_reducible refine cn_ ?_ _)|(with_reducible refine cd_ ?_))))
     (case aB=>exact am)
     (case aF=>exact (fun _ _=>trivial))
     (case aO=>exact bR)
     (case aS=>exact (bz_ am))
     (case aL=>have:=LMc1.out;have hlx_:=(show (l0.take (x5_1:Int).toNat).length=x5_1.toNat from gJ);omega)
     intro v3 w3 ho hb hg hat;rw [← Ny2.out] at ho;have n0_:=A0_ (hb);have n1_:=A0_ (ho);clear HB HO1;have HB:=n0_;have HO2:=n1_;clear n0_ n1_ ho hb hg hat
     refine hK.out _ _ trivial (fun hHeld=>?_)
     clear hK K
     refine nm_ 37 ?_
     refine on_ 6 (some 39) (fun K hK=>?_)
     refine Kd.R_lit_step (Kd.int .i64) _ 3 ?hg (N:=39) ?hd (xs:=([a1]:List Int)) (inner:=[.int .i64 a1]) (ok:=fun _=>True) (okp:=fun _=>True) ?hr ?hp (fun _ hk=>hk) trivial (Below.refl _ _) (Nat.le_refl _) bx ?_;(case hd=>rfl);(case hg=>rfl);(case hr=>go_simp;first|done|rfl);(case hp=>exact (bu.one (show Kd.M (Kd.int .i64) _ _ _ a1 [.int .i64 a1] from rfl) (bu.none _ _)))
     intro v4 w4 ho40 hb hg_ hnew_;clear hg_ hnew_
     (first|rw [← Ny3.out] at ho40|(simp only [Int.reduceToNat] at ho40;rw [← Ny3.out] at ho40))
     have HO3:=A0_ (Kd.R_lower (Kd.R_new' ho40 (Kd.R_lt cQ)) (bz_ am));replace HO2:=A0_ (Kd.R_elder' cQ (Kd.R_base ho40) hb);replace HB:=hb_ hb am;clear hb ho40
     refine hK.out _ _ trivial (fun hHeld=>?_)
     clear hK K
     refine nm_ 39 ?_
     exact fD gh (hCont (v2,v3,v4) _ ⟨fT,(by (with_reducible repeat (first|apply ra_|apply rn_|apply rd_));exact Kd.R_mono HO3.out (fun _ hk=>hk.2)),am⟩)
    refine Kd.R_lit_step (Kd.int .i64) _ 3 ?hg (N:=39) ?hd (xs:=([a1]:List Int)) (inner:=[.int .i64 a1]) (ok:=fun _=>True) (okp:=fun _=>True) ?hr ?hp (fun _ hk=>hk) trivial (Below.refl _ _) (Nat.le_refl _) bx ?_;(case hd=>rfl);(case hg=>rfl);(case hr=>go_simp;first|done|rfl);(case hp=>exact (bu.one (show Kd.M (Kd.int .i64) _ _ _ a1 [.int .i64 a1] from rfl) (bu.none _ _)))
    intro v3 w3 ho39 hb hg_ hnew_;clear hg_ hnew_
    (first|rw [← Ny3.out] at ho39|(simp only [Int.reduceToNat] at ho39;rw [← Ny3.out] at ho39))
    have HO2:=A0_ (Kd.R_lower (Kd.R_new' ho39 (Kd.R_lt bR)) (bz_ am));replace HO1:=A0_ (Kd.R_elder' bR (Kd.R_base ho39) hb);replace HB:=hb_ hb am;clear hb ho39
    refine hK.out _ _ trivial (fun hHeld=>?_)
    clear hK K
    refine nm_ 39 ?_
    refine on_ 4 (some 37) (fun K hK=>?_)
    refine Kd.R_append_rows_step (Kd.int .i64) (w0:=w) w.heap.size (by rfl) (.tmp 33) (.tmp 36) 22 3 (.int .i64 0) 8 rfl Tryd.underlying22 cP rfl ao bL v2 y1 (l0.take (x5_1:Int).toNat) _ _ _ (fun k_=>no_ v3 k_) (fun _=>False) rfl rfl ?aO ?aR (fun _ _ h=>h) (fun _ h=>h.elim) ?aF ?aB ?aS ?aL ?_
    (case aR=>first|(have e_:(l0.take (x5_1:Int).toNat).length=x5_1.toNat:=gJ;have hx_:=cb_ HR183.out HB.out;rw [e_] at hx_;repeat (first|exact hx_|(with_reducible refine ca_ ?_ _)|(with_reducible refine cn_ ?_ _)|(with_reducible refine cd_ ?_)))|(repeat (first|exact (cb_ HR183.out HB.out)|(with_reducible refine ca_ ?_ _)|(with_reducible refine cn_ ?_ _)|(with_reducible refine cd_ ?_))))
    (case aB=>exact am)
    (case aF=>exact (fun k_ hk=>Kd.fresh' (Kd.R_lt cQ) k_ hk))
    (case aO=>exact gQ)
    (case aS=>exact (bz_ am))
    (case aL=>have:=LMc1.out;have hlx_:=(show (l0.take (x5_1:Int).toNat).length=x5_1.toNat from gJ);omega)
    intro v4 w4 ho hb hg hat;rw [← Ny2.out] at ho;have n0_:=A0_ (Kd.R_after (ok:=(fun _=>True)) cQ hg hat);have n1_:=A0_ (hb);have n2_:=A0_ (ho);clear HO2 HB HO1;have HO2:=n0_;have HB:=n1_;have HO3:=n2_;clear n0_ n1_ n2_ ho hb hg hat
    refine hK.out _ _ trivial (fun hHeld=>?_)
    clear hK K
    refine nm_ 37 ?_
    exact fD gh (hCont (v2,v4,v3) _ ⟨d9,fT,am⟩)
   refine Kd.R_lit_step (Kd.int .i64) _ 3 ?hg (N:=39) ?hd (xs:=([a1]:List Int)) (inner:=[.int .i64 a1]) (ok:=fun _=>True) (okp:=fun _=>True) ?hr ?hp (fun _ hk=>hk) trivial (Below.refl _ _) (Nat.le_refl _) bx ?_;(case hd=>rfl);(case hg=>rfl);(case hr=>go_simp;first|done|rfl);(case hp=>exact (bu.one (show Kd.M (Kd.int .i64) _ _ _ a1 [.int .i64 a1] from rfl) (bu.none _ _)))
   intro v2 w2 ho37 hb hg_ hnew_;clear hg_ hnew_
   (first|rw [← Ny3.out] at ho37|(simp only [Int.reduceToNat] at ho37;rw [← Ny3.out] at ho37))
   have HO1:=A0_ (Kd.R_lower ho37 (bz_ am));replace HB:=hb_ hb am;clear hb ho37
   refine hK.out _ _ trivial (fun hHeld=>?_)
   clear hK K
   refine nm_ 39 ?_
   refine on_ 0 (some 33) (fun K hK=>?_)
   refine Kd.R_lit_step (Kd.int .i64) _ 3 ?hg (N:=33) ?hd (xs:=([]:List Int)) (inner:=[]) (ok:=fun _=>True) (okp:=fun _=>True) ?hr ?hp (fun _ hk=>hk) trivial (Below.refl _ _) (Nat.le_refl _) bx ?_;(case hd=>rfl);(case hg=>rfl);(case hr=>go_simp;first|done|rfl);(case hp=>exact (bu.none _ _))
   intro v3 w3 ho39 hb hg_ hnew_;clear hg_ hnew_
   (first|rw [← Ny1.out] at ho39|(simp only [Int.reduceToNat] at ho39;rw [← Ny1.out] at ho39))
   have HO2:=A0_ (Kd.R_lower (Kd.R_new' ho39 (Kd.R_lt bR)) (bz_ am));replace HO1:=A0_ (Kd.R_elder' bR (Kd.R_base ho39) hb);replace HB:=hb_ hb am;clear hb ho39
   refine hK.out _ _ trivial (fun hHeld=>?_)
   clear hK K
   refine nm_ 33 ?_
   refine on_ 4 (some 37) (fun K hK=>?_)
   refine Kd.R_append_rows_step (Kd.int .i64) (w0:=w) w.heap.size (by rfl) (.tmp 33) (.tmp 36) 22 3 (.int .i64 0) 8 rfl Tryd.underlying22 cP rfl ao bL v3 y1 (l0.take (x5_1:Int).toNat) _ _ _ (fun k_=>no_ v2 k_) (fun _=>False) rfl rfl ?aO ?aR (fun _ _ h=>h) (fun _ h=>h.elim) ?aF ?aB ?aS ?aL ?_
   (case aR=>first|(have e_:(l0.take (x5_1:Int).toNat).length=x5_1.toNat:=gJ;have hx_:=cb_ HR183.out HB.out;rw [e_] at hx_;repeat (first|exact hx_|(with_reducible refine ca_ ?_ _)|(with_reducible refine cn_ ?_ _)|(with_reducible refine cd_ ?_)))|(repeat (first|exact (cb_ HR183.out HB.out)|(with_reducible refine ca_ ?_ _)|(with_reducible refine cn_ ?_ _)|(with_reducible refine cd_ ?_))))
   (case aB=>exact am)
   (case aF=>exact (fun k_ hk=>Kd.fresh' (Kd.R_lt bR) k_ hk))
   (case aO=>exact fT)
   (case aS=>exact (bz_ am))
   (case aL=>have:=LMc1.out;have hlx_:=(show (l0.take (x5_1:Int).toNat).length=x5_1.toNat from gJ);omega)
   intro v4 w4 ho hb hg hat;rw [← Ny2.out] at ho;have n0_:=A0_ (Kd.R_after (ok:=(fun _=>True)) bR hg hat);have n1_:=A0_ (hb);have n2_:=A0_ (ho);clear HO1 HB HO2;have HO1:=n0_;have HB:=n1_;have HO3:=n2_;clear n0_ n1_ n2_ ho hb hg hat
   refine hK.out _ _ trivial (fun hHeld=>?_)
   clear hK K
   refine nm_ 37 ?_
   exact fD gh (hCont (v3,v4,v2) _ ⟨d9,gQ,am⟩)
  rintro ⟨v2,v3,v4⟩ w2 ⟨h0_,h1_,h2_⟩
  try dsimp only at h0_ h1_ h2_
  have HO1:=A0_ h0_;have HO2:=A0_ h1_;replace HB:=A0_ h2_;clear h0_ h1_ h2_;have hHeld:=trivial;obtain ⟨Ao1,co1,eo1⟩:=Kd.R_slice HO2.out
  (first|subst eo1|(injection eo1 with f1_ f2_ f3_;have f4_:=f1_.symm;have f5_:=f3_.symm;clear f1_ f2_ f3_;subst f4_;subst f5_))
  refine nq_ ?_
  refine on_ 7 (some 40) (fun K hK=>?_)
  refine Kd.R_append_rows_step (Kd.int .i64) (w0:=w) w.heap.size (by rfl) (.tmp 37) (.tmp 39) 22 3 (.int .i64 0) 8 rfl Tryd.underlying22 cP rfl ao bL v3 y2 y3 _ _ _ (fun k_=>no_ (.slice Ao1 y3.length co1) k_) (fun _=>False) rfl rfl ?aO ?aR (fun _ _ h=>h) (fun _ h=>h.elim) ?aF ?aB ?aS ?aL ?_
  (case aR=>exact nD)
  (case aB=>exact am)
  (case aF=>exact (fun k_ hk=>Kd.fresh' (Kd.R_lt cQ) k_ hk))
  (case aO=>exact bR)
  (case aS=>exact (bz_ am))
  (case aL=>have:=LMc2.out;omega)
  intro v5 w3 ho hb hg hat;rw [← Ny4.out] at ho;have n0_:=A0_ (Kd.R_after (ok:=(fun _=>True)) qx hg hat);have n1_:=A0_ (hb);have n2_:=A0_ (ho);clear HO2 HB HO1;have HO2:=n0_;have HB:=n1_;have HO3:=n2_;clear n0_ n1_ n2_ ho hb hg hat
  refine hK.out _ _ trivial (fun hHeld=>?_)
  clear hK K
  refine nm_ 40 ?_
  refine on_ 11 (some 44) (fun K hK=>?_)
  refine Kd.R_append_rows_step (Kd.int .i64) (w0:=w) w.heap.size (by rfl) (.tmp 40) (.tmp 43) 22 3 (.int .i64 0) 8 rfl Tryd.underlying22 cP rfl ao bL v5 y4 (l0.drop (x5_1:Int).toNat) _ _ _ (fun k_=>no_ (.slice Ao1 y3.length co1) k_) (fun _=>False) rfl rfl ?aO ?aR (fun _ _ h=>h) (fun _ h=>h.elim) ?aF ?aB ?aS ?aL ?_
  (case aR=>first|(rw [← show (l0.drop (x5_1:Int).toNat).length=(l0.length - x5_1.toNat) from ld_];repeat (first|exact (cb_ HR193.out HB.out)|(with_reducible refine ca_ ?_ _)|(with_reducible refine cn_ ?_ _)|(with_reducible refine cd_ ?_)))|(repeat (first|exact (cb_ HR193.out HB.out)|(with_reducible refine ca_ ?_ _)|(with_reducible refine cn_ ?_ _)|(with_reducible refine cd_ ?_))))
  (case aB=>exact am)
  (case aF=>exact (fun k_ hk=>Kd.fresh' (Kd.R_lt cQ) k_ hk))
  (case aO=>exact d9)
  (case aS=>exact (bz_ am))
  (case aL=>have:=LMc3.out;have hlx_:=(show (l0.drop (x5_1:Int).toNat).length=(l0.length - x5_1.toNat) from ld_);omega)
  intro v6 w4 ho hb hg hat;rw [← Ny5.out] at ho;have n0_:=A0_ (Kd.R_after (ok:=(fun _=>True)) cQ hg hat);have n1_:=A0_ (hb);have n2_:=A0_ (ho);clear HO2 HB HO3;have HO2:=n0_;have HB:=n1_;have HO4:=n2_;clear n0_ n1_ n2_ ho hb hg hat
  refine hK.out _ _ trivial (fun hHeld=>?_)
  clear hK K
  refine nm_ 44 ?_
  refine pu_ 12 4 ?_
  refine dn_ ?_
  try go_wp2
  go_ret
  exact ⟨_,bc,nE,am⟩
 rw [if_pos c1] at H;have c1b0:decide (x5_1<(l0.length:Int))=true:=dt_ c1;clear c1;obtain ⟨c2b0,H⟩:=i1_ H
 by_cases c3:(rd l0 x5_1)<a1
 ·rw [if_pos c3] at H
  have c3b0:decide ((rd l0 x5_1)<a1)=true:=dt_ c3;clear c3;have H':=A0_ H;clear H;have p1:0≤(x5_1:Int):=od_ aE;have q1:x5_1<(l0.length:Int):=od_ aE;obtain ⟨ad1,e1,hx1_0⟩:=Kd.at_int HR0.out x5_1 p1 q1;cases e1;replace hx1_0:=(HB.out.cell (World.block_lt_of_cell? w _ hx1_0)).trans hx1_0;replace p1:=eq_true p1;replace q1:=eq_true q1
  go_wp2
  go_roundg k1
  case measure=>have:=HK1.out;omega
  exact ⟨(wrap64 (x5_1+1)),aC,H',⟨de⟩,⟨am⟩⟩
 rw [if_neg c3] at H;have c3b0:decide ((rd l0 x5_1)<a1)=false:=decide_eq_false c3;clear c3
 by_cases c4:(rd l0 x5_1)=a1
 ·rw [if_pos c4] at H
  exact absurd H bx
 rw [if_neg c4] at H;obtain ⟨c4b0,c4b1⟩:=ef_ c4;obtain ⟨y1,hy1⟩:∃ y_:List Int,y_=(([]:List Int)):=⟨_,rfl⟩;replace H:(if x5_1≤(l0.length:Int) then (if y1.length+(l0.take (x5_1:Int).toNat).length<17592186044416 then ((some (y1++(l0.take (x5_1:Int).toNat):List Int)).bind fun y2=>((some (([a1]:List Int):List Int)).bind fun y3=>(if y2.length+y3.length<17592186044416 then ((some (y2++y3:List Int)).bind fun y4=>(if y4.length+(l0.drop (x5_1:Int).toNat).length<17592186044416 then (some (y4++(l0.drop (x5_1:Int).toNat))) else (none))) else (none)))) else (none)) else (none))=some r:=dp;have Ny1:=A0_ hy1;clear hy1;have c5b0:=eq_true (od_ aE:0≤x5_1);obtain ⟨c6b0,c6b1,H⟩:=i2_ H;obtain ⟨c7,H⟩:=is_ H;have LMc1:=A0_ c7;clear c7;obtain ⟨y2,hy2⟩:∃ y_:List Int,y_=(y1++(l0.take (x5_1:Int).toNat)):=⟨_,rfl⟩;replace H:((some (([a1]:List Int):List Int)).bind fun y3=>(if y2.length+y3.length<17592186044416 then ((some (y2++y3:List Int)).bind fun y4=>(if y4.length+(l0.drop (x5_1:Int).toNat).length<17592186044416 then (some (y4++(l0.drop (x5_1:Int).toNat))) else (none))) else (none)))=some r:=dO;have Ny2:=A0_ hy2;clear hy2;obtain ⟨y3,hy3⟩:∃ y_:List Int,y_=(([a1]:List Int)):=⟨_,rfl⟩;replace H:(if y2.length+y3.length<17592186044416 then ((some (y2++y3:List Int)).bind fun y4=>(if y4.length+(l0.drop (x5_1:Int).toNat).length<17592186044416 then (some (y4++(l0.drop (x5_1:Int).toNat))) else (none))) else (none))=some r:=ir;have Ny3:=A0_ hy3;clear hy3;obtain ⟨c8,H⟩:=is_ H;have LMc2:=A0_ c8;clear c8;obtain ⟨y4,hy4⟩:∃ y_:List Int,y_=(y2++y3):=⟨_,rfl⟩;replace H:(if y4.length+(l0.drop (x5_1:Int).toNat).length<17592186044416 then (some (y4++(l0.drop (x5_1:Int).toNat))) else (none))=some r:=qv;have Ny4:=A0_ hy4;clear hy4;have c9b0:=eq_true (od_ aE:0≤x5_1);have c10b0:=eq_true (od_ aE:x5_1≤(l0.length:Int));obtain ⟨c11,H⟩:=is_ H;have LMc3:=A0_ c11;clear c11;obtain ⟨y5,hy5⟩:∃ y_:List Int,y_=(y4++(l0.drop (x5_1:Int).toNat)):=⟨_,rfl⟩;replace H:(some y5)=some r:=qw;have Ny5:=A0_ hy5;clear hy5;obtain rfl:=si_ H;have p1:0≤(x5_1:Int):=od_ aE;have q1:x5_1<(l0.length:Int):=od_ aE;obtain ⟨ad1,e1,hx1_0⟩:=Kd.at_int HR0.out x5_1 p1 q1;cases e1;replace hx1_0:=(HB.out.cell (World.block_lt_of_cell? w _ hx1_0)).trans hx1_0;replace p1:=eq_true p1;replace q1:=eq_true q1;have p2:0≤(x5_1:Int):=od_ aE;have q2:x5_1<(l0.length:Int):=od_ aE;obtain ⟨ad2,e2,hx2_0⟩:=Kd.at_int HR0.out x5_1 p2 q2;obtain rfl:ad1=ad2:=e5;replace hx2_0:=(HB.out.cell (World.block_lt_of_cell? w _ hx2_0)).trans hx2_0;replace p2:=eq_true p2;replace q2:=eq_true q2
 try go_wp2
 replace HB:=A0_ (bd_ HB.out);obtain ⟨i015,hi015,_,hsz15,_⟩:=info_parts cP;obtain ⟨hcut15,hA15,hC15⟩:=is (P:=Tryd.prog) (Value.int .i64) 0 22 3 .i64 Tryd.underlying22 hi015 hsz15 (some ad1) c0 l0 x5_1 (od_ aE) (od_ aE) HC0.out;have HR166:=A0_ (Kd.C_of_reads (h1:=fun _=>rfl) (hA15 _ (Kd.reads_of_C HR0.out)));have HC166:=A0_ hC15;clear hA15 hC15 hi015 hsz15;obtain ⟨i016,hi016,_,hsz16,_⟩:=info_parts cP;obtain ⟨A1,hcut16,hA16,hC16⟩:=it (P:=Tryd.prog) (Value.int .i64) 0 22 3 .i64 Tryd.underlying22 hi016 hsz16 (some ad1) c0 l0 x5_1 (od_ aE) (od_ aE) HC0.out;have HR176:=A0_ (Kd.C_of_reads (h1:=fun _=>rfl) (hA16 _ (Kd.reads_of_C HR0.out)));have HC176:=A0_ hC16;clear hA16 hC16 hi016 hsz16
 refine dh (n:=13) (S:=fun w'=>True) (ds:=[]) #[false,false,false,false,false,false,false,false,false,false,false,false,false] bS rfl rfl trivial (fun hHeld=>?_);refine dc bF.tab6 bF.bits6 (fun HT_ HW_=>?_)
 generalize wr.drew=w1 at HB HR166 HR176 hHeld ⊢
 refine pu_ 1 34 ?_
 refine pu_ 2 35 ?_
 refine pu_ 3 36 ?_
 refine pu_ 5 38 ?_
 refine pu_ 8 41 ?_
 refine pu_ 9 42 ?_
 refine pu_ 10 43 ?_
 refine lq (σ:=Value × Value × Value) 3 #[true,true,true,true,true,true,true,false,true,true,true,false,false] (fun s_=>[(33,s_.1),(37,s_.2.1),(39,s_.2.2)]) (fun s_ w'=>(Kd.R (Kd.int .i64) 3 w' w.heap.size (fun k_=>some k_≠(s_.2.2:Value).ownBlock) s_.2.1 y2)∧(Kd.R (Kd.int .i64) 3 w' w.heap.size (fun k_=>some k_≠(s_.2.1:Value).ownBlock) s_.2.2 y3)∧(Below w.heap.size w w')) ?_ ?_
 rotate_left
 ·intro hCont
  refine ml (i:=0) (j:=6) (Ni:=some 33) (Nj:=some 39) #[true,true,true,true,false,true,false,false,true,true,true,false,false] #[false,true,true,true,false,true,true,false,true,true,true,false,false] rfl rfl rfl rfl (gS HT_.out bS) ao ao (fun K hK=>?_) (fun K hK=>?_)
  ·refine Kd.R_lit_step (Kd.int .i64) _ 3 ?hg (N:=33) ?hd (xs:=([]:List Int)) (inner:=[]) (ok:=fun _=>True) (okp:=fun _=>True) ?hr ?hp (fun _ hk=>hk) trivial (Below.refl _ _) (Nat.le_refl _) bx ?_;(case hd=>rfl);(case hg=>rfl);(case hr=>go_simp;first|done|rfl);(case hp=>exact (bu.none _ _))
   intro v2 w2 ho18 hb hg_ hnew_;clear hg_ hnew_
   (first|rw [← Ny1.out] at ho18|(simp only [Int.reduceToNat] at ho18;rw [← Ny1.out] at ho18))
   have HO1:=A0_ (Kd.R_lower ho18 (bz_ am));replace HB:=hb_ hb am;clear hb ho18
   refine hK.out _ _ trivial (fun hHeld=>?_)
   clear hK K
   refine nm_ 33 ?_
   refine ml (i:=4) (j:=6) (Ni:=some 37) (Nj:=some 39) #[true,true,true,true,true,true,false,false,true,true,true,false,false] #[true,true,true,true,false,true,true,false,true,true,true,false,false] rfl rfl rfl rfl (gS HT_.out bS) ao ao (fun K hK=>?_) (fun K hK=>?_)
   ·refine Kd.R_append_rows_step (Kd.int .i64) (w0:=w) w.heap.size (by rfl) (.tmp 33) (.tmp 36) 22 3 (.int .i64 0) 8 rfl Tryd.underlying22 cP rfl ao bL v2 y1 (l0.take (x5_1:Int).toNat) _ _ _ (fun _=>True) (fun _=>False) rfl rfl ?aO ?aR (fun _ _ h=>h) (fun _ h=>h.elim) ?aF ?aB ?aS ?aL ?_
    (case aR=>first|(have e_:(l0.take (x5_1:Int).toNat).length=x5_1.toNat:=gJ;have hx_:=cb_ HR166.out HB.out;rw [e_] at hx_;repeat (first|exact hx_|(with_reducible refine ca_ ?_ _)|(with_reducible refine cn_ ?_ _)|(with_reducible refine cd_ ?_)))|(repeat (first|exact (cb_ HR166.out HB.out)|(with_reducible refine ca_ ?_ _)|(with_reducible refine cn_ ?_ _)|(with_reducible refine cd_ ?_))))
    (case aB=>exact am)
    (case aF=>exact (fun _ _=>trivial))
    (case aO=>exact bR)
    (case aS=>exact (bz_ am))
    (case aL=>have:=LMc1.out;have hlx_:=(show (l0.take (x5_1:Int).toNat).length=x5_1.toNat from gJ);omega)
    intro v3 w3 ho hb hg hat;rw [← Ny2.out] at ho;have n0_:=A0_ (hb);have n1_:=A0_ (ho);clear HB HO1;have HB:=n0_;have HO2:=n1_;clear n0_ n1_ ho hb hg hat
    refine hK.out _ _ trivial (fun hHeld=>?_)
    clear hK K
    refine nm_ 37 ?_
    refine on_ 6 (some 39) (fun K hK=>?_)
    refine Kd.R_lit_step (Kd.int .i64) _ 3 ?hg (N:=39) ?hd (xs:=([a1]:List Int)) (inner:=[.int .i64 a1]) (ok:=fun _=>True) (okp:=fun _=>True) ?hr ?hp (fun _ hk=>hk) trivial (Below.refl _ _) (Nat.le_refl _) bx ?_;(case hd=>rfl);(case hg=>rfl);(case hr=>go_simp;first|done|rfl);(case hp=>exact (bu.one (show Kd.M (Kd.int .i64) _ _ _ a1 [.int .i64 a1] from rfl) (bu.none _ _)))
    intro v4 w4 ho21 hb hg_ hnew_;clear hg_ hnew_
    (first|rw [← Ny3.out] at ho21|(simp only [Int.reduceToNat] at ho21;rw [← Ny3.out] at ho21))
    have HO3:=A0_ (Kd.R_lower (Kd.R_new' ho21 (Kd.R_lt cQ)) (bz_ am));replace HO2:=A0_ (Kd.R_elder' cQ (Kd.R_base ho21) hb);replace HB:=hb_ hb am;clear hb ho21
    refine hK.out _ _ trivial (fun hHeld=>?_)
    clear hK K
    refine nm_ 39 ?_
    exact fD gh (hCont (v2,v3,v4) _ ⟨fT,(by (with_reducible repeat (first|apply ra_|apply rn_|apply rd_));exact Kd.R_mono HO3.out (fun _ hk=>hk.2)),am⟩)
   refine Kd.R_lit_step (Kd.int .i64) _ 3 ?hg (N:=39) ?hd (xs:=([a1]:List Int)) (inner:=[.int .i64 a1]) (ok:=fun _=>True) (okp:=fun _=>True) ?hr ?hp (fun _ hk=>hk) trivial (Below.refl _ _) (Nat.le_refl _) bx ?_;(case hd=>rfl);(case hg=>rfl);(case hr=>go_simp;first|done|rfl);(case hp=>exact (bu.one (show Kd.M (Kd.int .i64) _ _ _ a1 [.int .i64 a1] from rfl) (bu.none _ _)))
   intro v3 w3 ho20 hb hg_ hnew_;clear hg_ hnew_
   (first|rw [← Ny3.out] at ho20|(simp only [Int.reduceToNat] at ho20;rw [← Ny3.out] at ho20))
   have HO2:=A0_ (Kd.R_lower (Kd.R_new' ho20 (Kd.R_lt bR)) (bz_ am));replace HO1:=A0_ (Kd.R_elder' bR (Kd.R_base ho20) hb);replace HB:=hb_ hb am;clear hb ho20
   refine hK.out _ _ trivial (fun hHeld=>?_)
   clear hK K
   refine nm_ 39 ?_
   refine on_ 4 (some 37) (fun K hK=>?_)
   refine Kd.R_append_rows_step (Kd.int .i64) (w0:=w) w.heap.size (by rfl) (.tmp 33) (.tmp 36) 22 3 (.int .i64 0) 8 rfl Tryd.underlying22 cP rfl ao bL v2 y1 (l0.take (x5_1:Int).toNat) _ _ _ (fun k_=>no_ v3 k_) (fun _=>False) rfl rfl ?aO ?aR (fun _ _ h=>h) (fun _ h=>h.elim) ?aF ?aB ?aS ?aL ?_
   (case aR=>first|(have e_:(l0.take (x5_1:Int).toNat).length=x5_1.toNat:=gJ;have hx_:=cb_ HR166.out HB.out;rw [e_] at hx_;repeat (first|exact hx_|(with_reducible refine ca_ ?_ _)|(with_reducible refine cn_ ?_ _)|(with_reducible refine cd_ ?_)))|(repeat (first|exact (cb_ HR166.out HB.out)|(with_reducible refine ca_ ?_ _)|(with_reducible refine cn_ ?_ _)|(with_reducible refine cd_ ?_))))
   (case aB=>exact am)
   (case aF=>exact (fun k_ hk=>Kd.fresh' (Kd.R_lt cQ) k_ hk))
   (case aO=>exact gQ)
   (case aS=>exact (bz_ am))
   (case aL=>have:=LMc1.out;have hlx_:=(show (l0.take (x5_1:Int).toNat).length=x5_1.toNat from gJ);omega)
   intro v4 w4 ho hb hg hat;rw [← Ny2.out] at ho;have n0_:=A0_ (Kd.R_after (ok:=(fun _=>True)) cQ hg hat);have n1_:=A0_ (hb);have n2_:=A0_ (ho);clear HO2 HB HO1;have HO2:=n0_;have HB:=n1_;have HO3:=n2_;clear n0_ n1_ n2_ ho hb hg hat
   refine hK.out _ _ trivial (fun hHeld=>?_)
   clear hK K
   refine nm_ 37 ?_
   exact fD gh (hCont (v2,v4,v3) _ ⟨d9,fT,am⟩)
  refine Kd.R_lit_step (Kd.int .i64) _ 3 ?hg (N:=39) ?hd (xs:=([a1]:List Int)) (inner:=[.int .i64 a1]) (ok:=fun _=>True) (okp:=fun _=>True) ?hr ?hp (fun _ hk=>hk) trivial (Below.refl _ _) (Nat.le_refl _) bx ?_;(case hd=>rfl);(case hg=>rfl);(case hr=>go_simp;first|done|rfl);(case hp=>exact (bu.one (show Kd.M (Kd.int .i64) _ _ _ a1 [.int .i64 a1] from rfl) (bu.none _ _)))
  intro v2 w2 ho18 hb hg_ hnew_;clear hg_ hnew_
  (first|rw [← Ny3.out] at ho18|(simp only [Int.reduceToNat] at ho18;rw [← Ny3.out] at ho18))
  have HO1:=A0_ (Kd.R_lower ho18 (bz_ am));replace HB:=hb_ hb am;clear hb ho18
  refine hK.out _ _ trivial (fun hHeld=>?_)
  clear hK K
  refine nm_ 39 ?_
  refine on_ 0 (some 33) (fun K hK=>?_)
  refine Kd.R_lit_step (Kd.int .i64) _ 3 ?hg (N:=33) ?hd (xs:=([]:List Int)) (inner:=[]) (ok:=fun _=>True) (okp:=fun _=>True) ?hr ?hp (fun _ hk=>hk) trivial (Below.refl _ _) (Nat.le_refl _) bx ?_;(case hd=>rfl);(case hg=>rfl);(case hr=>go_simp;first|done|rfl);(case hp=>exact (bu.none _ _))
  intro v3 w3 ho20 hb hg_ hnew_;clear hg_ hnew_
  (first|rw [← Ny1.out] at ho20|(simp only [Int.reduceToNat] at ho20;rw [← Ny1.out] at ho20))
  have HO2:=A0_ (Kd.R_lower (Kd.R_new' ho20 (Kd.R_lt bR)) (bz_ am));replace HO1:=A0_ (Kd.R_elder' bR (Kd.R_base ho20) hb);replace HB:=hb_ hb am;clear hb ho20
  refine hK.out _ _ trivial (fun hHeld=>?_)
  clear hK K
  refine nm_ 33 ?_
  refine on_ 4 (some 37) (fun K hK=>?_)
  refine Kd.R_append_rows_step (Kd.int .i64) (w0:=w) w.heap.size (by rfl) (.tmp 33) (.tmp 36) 22 3 (.int .i64 0) 8 rfl Tryd.underlying22 cP rfl ao bL v3 y1 (l0.take (x5_1:Int).toNat) _ _ _ (fun k_=>no_ v2 k_) (fun _=>False) rfl rfl ?aO ?aR (fun _ _ h=>h) (fun _ h=>h.elim) ?aF ?aB ?aS ?aL ?_
  (case aR=>first|(have e_:(l0.take (x5_1:Int).toNat).length=x5_1.toNat:=gJ;have hx_:=cb_ HR166.out HB.out;rw [e_] at hx_;repeat (first|exact hx_|(with_reducible refine ca_ ?_ _)|(with_reducible refine cn_ ?_ _)|(with_reducible refine cd_ ?_)))|(repeat (first|exact (cb_ HR166.out HB.out)|(with_reducible refine ca_ ?_ _)|(with_reducible refine cn_ ?_ _)|(with_reducible refine cd_ ?_))))
  (case aB=>exact am)
  (case aF=>exact (fun k_ hk=>Kd.fresh' (Kd.R_lt bR) k_ hk))
  (case aO=>exact fT)
  (case aS=>exact (bz_ am))
  (case aL=>have:=LMc1.out;have hlx_:=(show (l0.take (x5_1:Int).toNat).length=x5_1.toNat from gJ);omega)
  intro v4 w4 ho hb hg hat;rw [← Ny2.out] at ho;have n0_:=A0_ (Kd.R_after (ok:=(fun _=>True)) bR hg hat);have n1_:=A0_ (hb);have n2_:=A0_ (ho);clear HO1 HB HO2;have HO1:=n0_;have HB:=n1_;have HO3:=n2_;clear n0_ n1_ n2_ ho hb hg hat
  refine hK.out _ _ trivial (fun hHeld=>?_)
  clear hK K
  refine nm_ 37 ?_
  exact fD gh (hCont (v3,v4,v2) _ ⟨d9,gQ,am⟩)
 rintro ⟨v2,v3,v4⟩ w2 ⟨h0_,h1_,h2_⟩
 try dsimp only at h0_ h1_ h2_
 have HO1:=A0_ h0_;have HO2:=A0_ h1_;replace HB:=A0_ h2_;clear h0_ h1_ h2_;have hHeld:=trivial;obtain ⟨Ao1,co1,eo1⟩:=Kd.R_slice HO2.out
 (first|subst eo1|(injection eo1 with f1_ f2_ f3_;have f4_:=f1_.symm;have f5_:=f3_.symm;clear f1_ f2_ f3_;subst f4_;subst f5_))
 refine nq_ ?_
 refine on_ 7 (some 40) (fun K hK=>?_)
 refine Kd.R_append_rows_step (Kd.int .i64) (w0:=w) w.heap.size (by rfl) (.tmp 37) (.tmp 39) 22 3 (.int .i64 0) 8 rfl Tryd.underlying22 cP rfl ao bL v3 y2 y3 _ _ _ (fun k_=>no_ (.slice Ao1 y3.length co1) k_) (fun _=>False) rfl rfl ?aO ?aR (fun _ _ h=>h) (fun _ h=>h.elim) ?aF ?aB ?aS ?aL ?_
 (case aR=>exact nD)
 (case aB=>exact am)
 (case aF=>exact (fun k_ hk=>Kd.fresh' (Kd.R_lt cQ) k_ hk))
 (case aO=>exact bR)
 (case aS=>exact (bz_ am))
 (case aL=>have:=LMc2.out;omega)
 intro v5 w3 ho hb hg hat;rw [← Ny4.out] at ho;have n0_:=A0_ (Kd.R_after (ok:=(fun _=>True)) qx hg hat);have n1_:=A0_ (hb);have n2_:=A0_ (ho);clear HO2 HB HO1;have HO2:=n0_;have HB:=n1_;have HO3:=n2_;clear n0_ n1_ n2_ ho hb hg hat
 refine hK.out _ _ trivial (fun hHeld=>?_)
 clear hK K
 refine nm_ 40 ?_
 refine on_ 11 (some 44) (fun K hK=>?_)
 refine Kd.R_append_rows_step (Kd.int .i64) (w0:=w) w.heap.size (by rfl) (.tmp 40) (.tmp 43) 22 3 (.int .i64 0) 8 rfl Tryd.underlying22 cP rfl ao bL v5 y4 (l0.drop (x5_1:Int).toNat) _ _ _ (fun k_=>no_ (.slice Ao1 y3.length co1) k_) (fun _=>False) rfl rfl ?aO ?aR (fun _ _ h=>h) (fun _ h=>h.elim) ?aF ?aB ?aS ?aL ?_
 (case aR=>first|(rw [← show (l0.drop (x5_1:Int).toNat).length=(l0.length - x5_1.toNat) from ld_];repeat (first|exact (cb_ HR176.out HB.out)|(with_reducible refine ca_ ?_ _)|(with_reducible refine cn_ ?_ _)|(with_reducible refine cd_ ?_)))|(repeat (first|exact (cb_ HR176.out HB.out)|(with_reducible refine ca_ ?_ _)|(with_reducible refine cn_ ?_ _)|(with_reducible refine cd_ ?_))))
 (case aB=>exact am)
 (case aF=>exact (fun k_ hk=>Kd.fresh' (Kd.R_lt cQ) k_ hk))
 (case aO=>exact d9)
 (case aS=>exact (bz_ am))
 (case aL=>have:=LMc3.out;have hlx_:=(show (l0.drop (x5_1:Int).toNat).length=(l0.length - x5_1.toNat) from ld_);omega)
 intro v6 w4 ho hb hg hat;rw [← Ny5.out] at ho;have n0_:=A0_ (Kd.R_after (ok:=(fun _=>True)) cQ hg hat);have n1_:=A0_ (hb);have n2_:=A0_ (ho);clear HO2 HB HO3;have HO2:=n0_;have HB:=n1_;have HO4:=n2_;clear n0_ n1_ n2_ ho hb hg hat
 refine hK.out _ _ trivial (fun hHeld=>?_)
 clear hK K
 refine nm_ 44 ?_
 refine pu_ 12 4 ?_
 refine dn_ ?_
 try go_wp2
 go_ret
 exact ⟨_,bc,nE,am⟩

def eT.f (l0:List Int):Option (List Int):=(some (([]:List Int):List Int)).bind fun y165=>(if y165.length+l0.length<17592186044416 then (some (y165++l0)) else (none))
theorem eT.calls (A0:Option Addr) (c0:Nat) (l0:List Int) (r:List Int) (w:World) (hr0:Kd.C (Kd.int .i64) w A0 l0.length l0) (hc0:l0.length≤c0) (H:eT.f l0=some r) :
  Calls Tryd.prog 97 #[.slice A0 l0.length c0] w fun e w'=>∃ v0_:Value,e=.returned (v0_)∧Kd.R (Kd.int .i64) 3 w' w.heap.size (fun _=>True) v0_ r∧Below w.heap.size w w':=by
 have HR0:=A0_ hr0;have HC0:=A0_ hc0;clear hr0 hc0;have HB:=A0_ (Below.refl w.heap.size w);unfold eT.f at H;obtain ⟨y1,hy1⟩:∃ y_:List Int,y_=(([]:List Int)):=⟨_,rfl⟩;replace H:(if y1.length+l0.length<17592186044416 then (some (y1++l0)) else (none))=some r:=dp;have Ny1:=A0_ hy1;clear hy1;obtain ⟨c1,H⟩:=is_ H;have LMc1:=A0_ c1;clear c1;obtain ⟨y2,hy2⟩:∃ y_:List Int,y_=(y1++l0):=⟨_,rfl⟩;replace H:(some y2)=some r:=dO;have Ny2:=A0_ hy2;clear hy2;obtain rfl:=si_ H;go_enter Tryd.func97,Tryd.ntmps97
 go_wp2_with (first|((with_reducible refine gd_ (N:=3) rfl ?_);refine Kd.R_lit (Kd.int .i64) _ 3 ?hg (N:=3) ?hd (xs:=([]:List Int)) (inner:=[]) (ok:=fun _=>True) (okp:=fun _=>True) ?hr ?hp (fun _ hk=>hk) trivial (Below.refl _ _) (Nat.le_refl _) bx ?_;(case hd=>rfl);(case hg=>rfl);(case hr=>go_simp;first|done|rfl);(case hp=>exact (bu.none _ _));intro v1 w1 ho4 hb hg_ hnew_;clear hg_ hnew_;(first|rw [← Ny1.out] at ho4|(simp only [Int.reduceToNat] at ho4;rw [← Ny1.out] at ho4));have HO1:=A0_ (Kd.R_lower ho4 (bz_ am));replace HB:=hb_ hb am;clear hb ho4)|((with_reducible refine bO (b:=.append) (xs:=#[.tmp 3,.tmp 4]) rfl ?_);at_builtin;refine Kd.R_append_rows (Kd.int .i64) (w0:=w) w.heap.size rfl (.tmp 3) (.tmp 4) 22 3 (.int .i64 0) 8 rfl Tryd.underlying22 cP rfl ao bL v1 y1 l0 _ _ _ (fun _=>True) (fun _=>False) rfl rfl ?aO ?aR (fun _ _ h=>h) (fun _ h=>h.elim) ?aF ?aB ?aS ?aL ?_;(case aR=>exact mm);(case aB=>exact am);(case aF=>exact (fun _ _=>trivial));(case aO=>exact bR);(case aS=>exact (bz_ am));(case aL=>have:=LMc1.out;omega);intro v2 w2 ho hb hg hat;rw [← Ny2.out] at ho;have n0_:=A0_ (hb);have n1_:=A0_ (ho);clear HB HO1;have HB:=n0_;have HO2:=n1_;clear n0_ n1_ ho hb hg hat))
 go_ret
 exact ⟨_,bc,cQ,am⟩

def b5.f (k:Nat) (a0_0:Int) (a0_1:Bool) (l0_2:List Int) (a1:Int):Option (Int × Bool × List Int):=(eT.f l0_2).bind fun t173=>((bF.f k t173 a1).bind fun t176=>((cA.f a0_0 a0_1 l0_2 t176).bind fun bt179=>(some (bt179.1,bt179.2.1,bt179.2.2))))
theorem b5.mono:∀ a0 a1 a2 a3 k,LeO (b5.f k a0 a1 a2 a3) (b5.f (k+1) a0 a1 a2 a3):=by
 intro a0 a1 a2 a3 k;unfold b5.f
 repeat' with_reducible first|exact bF.mono ..|exact LeO.refl ..|exact LeO.none ..|refine LeO.ite ?_ ?_|refine LeO.bind ?_ (fun _=>?_)
def b5.T1:Bool × List (List Nat × List Nat):=(true,[([],[]),([],[]),([1],[1]),([2],[2]),([],[]),([3,4,3],[3,4]),([0,5,5],[0,5]),([6,6,0,1,2,3,4,5,6],[6])])
def b5.B1:List Nat:=[0,0,2,6,0,30,63,127]
theorem b5.tab1:dx .any (dX Tryd.f74 1)=b5.T1:=by kernel_rfl
theorem b5.bits1:cp b5.T1.2 b5.B1=true:=by kernel_rfl
theorem b5.calls (k:Nat) (a0_0:Int) (a0_1:Bool) (A0_2:Option Addr) (c0_2:Nat) (l0_2:List Int) (a1:Int) (r1:Int) (r2:Bool) (r3:List Int) (w:World) (hr0_2:Kd.C (Kd.int .i64) w A0_2 l0_2.length l0_2) (hc0_2:l0_2.length≤c0_2) (H:b5.f k a0_0 a0_1 l0_2 a1=some (r1,r2,r3)) :
  Calls Tryd.prog 74 #[.agg #[.int .i64 a0_0,.bool a0_1,.slice A0_2 l0_2.length c0_2],.int .i64 a1] w fun e w'=>∃ v2_:Value,e=.returned (.agg #[.int .i64 r1,.bool r2,v2_])∧Kd.R (Kd.int .i64) 3 w' w.heap.size (fun _=>True) v2_ r3∧Below w.heap.size w w':=by
 have hu26:=Tryd.underlying26;have HR0_2:=A0_ hr0_2;have HC0_2:=A0_ hc0_2;clear hr0_2 hc0_2;have HB:=A0_ (Below.refl w.heap.size w);unfold b5.f at H;obtain ⟨t1,A2,H⟩:=o1_ H;obtain ⟨t2,A4,H⟩:=o1_ H;obtain ⟨⟨t3,t4,t5⟩,A6,H⟩:=o1_ H;replace H:(some (t3,t4,t5))=some (r1,r2,r3):=H;simp only [sj_,pj_] at H;obtain ⟨rfl,rfl,rfl⟩:=H;go_enter Tryd.func74,Tryd.ntmps74
 try go_wp2_with (first|((with_reducible refine gd_ (N:=2) rfl ?_);refine bx_ 2 #[.int .i64 a0_0,.bool a0_1,.slice A0_2 l0_2.length c0_2] 26 ?_;intro gb1 hg w1 BK1 hb;have GW1:=ge_ hg am;have GE1:=GW1;replace HB:=hb_ hb am;clear hb hg)|((with_reducible refine gd_ (N:=4) rfl ?_);refine bx_ 4 #[.int .i64 0,.bool false,.slice none 0 0] 26 ?_;intro gb2 hg w2 BK2 hb;have GW2:=ge_ hg ab;have GE2:=GW2;replace HB:=hb_ hb ab;obtain ⟨NB1_2,NB2_1⟩:=nn_ hg BK1;replace BK1:=k1_ BK1 hb;clear hb hg))
 replace BK1:=A0_ (kd_ BK1.out);replace BK2:=A0_ (kd_ BK2.out);replace HB:=A0_ (bd_ HB.out)
 refine s3_ 8 [] BK1 b5.tab1 b5.bits1 (fun hHeld HT_ HW_=>?_)
 generalize w2.drew=w3 at BK1 BK2 HB hHeld ⊢
 refine pu_ 1 6 ?_
 refine pu_ 4 9 ?_
 refine tk_ 0 5 hHeld ?_
 refine tk_ 2 7 hHeld ?_
 refine on_ 3 (some 8) (fun K hK=>?_)
 refine gs_ Tryd.func97 #[.slice A0_2 l0_2.length c0_2] ?_
 with_reducible refine (eT.calls _ _ l0_2 t1 _ ?_ ?_ A2.out).mono ?_
 exact bn
 exact HC0_2.out
 rintro e w4 ⟨v1,rfl,ho0,hb⟩
 refine ⟨_,rfl,?_⟩
 have HO1:=A0_ (Kd.R_lower ho0 (bz_ aY));replace BK1:=k1_ BK1 hb;replace BK2:=k1_ BK2 hb;replace HB:=hb_ hb aY
 (try clear hb ho0)
 obtain ⟨Ao1,co1,eo1⟩:=Kd.R_slice HO1.out
 (first|subst eo1|(injection eo1 with f1_ f2_ f3_;have f4_:=f1_.symm;have f5_:=f3_.symm;clear f1_ f2_ f3_;subst f4_;subst f5_))
 refine hK.out _ _ (c3_ BK1) (fun hHeld=>?_)
 clear hK K
 refine nm_ 8 ?_
 refine on_ 5 (some 10) (fun K hK=>?_)
 refine gs_ Tryd.func96 #[.slice Ao1 t1.length co1,.int .i64 a1] ?_
 with_reducible refine (bF.calls k _ _ t1 a1 t2 _ ?_ ?_ A4.out).mono ?_
 exact fE
 exact (rr_ HO1.out).2.1
 rintro e w5 ⟨v3,rfl,ho0,hb⟩
 refine ⟨_,rfl,?_⟩
 have HO2:=A0_ (Kd.R_lower (Kd.R_new' ho0 (Kd.R_lt bR)) (bz_ aY));replace HO1:=A0_ (Kd.R_elder' bR (Kd.R_base ho0) hb);replace BK1:=k1_ BK1 hb;replace BK2:=k1_ BK2 hb;replace HB:=hb_ hb aY
 (try clear hb ho0)
 obtain ⟨Ao2,co2,eo2⟩:=Kd.R_slice HO2.out
 (first|subst eo2|(injection eo2 with f1_ f2_ f3_;have f4_:=f1_.symm;have f5_:=f3_.symm;clear f1_ f2_ f3_;subst f4_;subst f5_))
 refine hK.out _ _ (c3_ BK1) (fun hHeld=>?_)
 clear hK K
 refine nm_ 10 ?_
 refine on_ 6 (some 11) (fun K hK=>?_)
 refine gs_ Tryd.func88 #[.agg #[.int .i64 a0_0,.bool a0_1,.slice A0_2 l0_2.length c0_2],.slice Ao2 t2.length co2] ?_
 with_reducible refine (cA.calls a0_0 a0_1 _ _ l0_2 (fun k_=>some k_=(.slice Ao2 t2.length co2:Value).ownBlock) (.slice Ao2 t2.length co2) t2 t3 t4 t5 w _ ?_ ?_ ?_ ?_ A6.out).mono ?_
 exact aY
 exact Kd.C_kept_came (Kd.heap_int .i64) HR0_2.out aY (fun k_ hs_=>(fun e_=>Kd.R_base HO2.out k_ e_.symm) hs_)
 exact HC0_2.out
 exact Kd.R_tight rfl HO2.out
 rintro e w6 ⟨v4,rfl,ho0,hb,hkp⟩
 refine ⟨_,rfl,?_⟩
 have n0_:=A0_ (e6 (u1_ BK1) hkp (fun hs_=>(fun e_=>(Kd.R_ne HO2.out BK1.out ao) e_) hs_));have n1_:=A0_ (e6 (u1_ BK2) hkp (fun hs_=>(fun e_=>(Kd.R_ne HO2.out BK2.out ao) e_) hs_));have n2_:=A0_ (Kd.R_mono (ok':=fun k_=>no_ v4 k_) (Kd.R_keptB (HO1.out) hkp (fun k_ hk_ hs_=>(hk_.2) hs_)) (fun k_ hk_=>fun e_=>Or.elim (ho0.1 k_ e_.symm) (fun hs_=>hk_.2.1 hs_) (fun hn_=>Nat.not_le.2 hk_.2.2 hn_)));have n3_:=A0_ (Kd.R_mono (ok':=fun k_=>no_ (.slice Ao1 t1.length co1) k_) ho0 (fun k_ hk_=>Or.elim hk_ (fun hs_=>fun e_=>(((HO1.out).1 k_ e_.symm).2) hs_) (fun hn_=>(Kd.fresh' (Kd.R_lt bR) k_ hn_))));have n4_:=A0_ (hb);clear BK1 BK2 HO1 HB HO2;have BK1:=n0_;have BK2:=n1_;have HO1:=n2_;have HO3:=n3_;have HB:=n4_;clear n0_ n1_ n2_ n3_ n4_
 (try clear hb)
 (try clear hkp)
 (try clear ho0)
 obtain ⟨Ao3,co3,eo3⟩:=Kd.R_slice HO3.out
 (first|subst eo3|(injection eo3 with f1_ f2_ f3_;have f4_:=f1_.symm;have f5_:=f3_.symm;clear f1_ f2_ f3_;subst f4_;subst f5_))
 refine hK.out _ _ (c3_ BK1) (fun hHeld=>?_)
 clear hK K
 refine nm_ 11 ?_
 refine on_ 7 none (fun K hK=>?_)
 have hs14:=y_ BK2 0;have hfs14:=kf_ BK2.out 0;obtain ⟨hns1_0,hms1_0⟩:=n2_ NB1_2;have hs15:=y_ BK2 1;have hfs15:=kf_ BK2.out 1;obtain ⟨hns2_0,hms2_0⟩:=n2_ NB1_2;have hs17:=y_ BK2 2;have hfs17:=kf_ BK2.out 2;obtain ⟨hns3_0,hms3_0⟩:=n2_ NB1_2
 refine fF (w1:=?_) (by rfl) rfl ?_ ?_
 rotate_left
 ·go_simp
  rfl
 refine hK.out _ _ ⟨((av (p:=⟨gb2,_,none⟩) NB1_2.out _).trans (((av (p:=⟨gb2,_,none⟩) NB1_2.out _).trans (((av (p:=⟨gb2,_,none⟩) NB1_2.out _).trans (hHeld.1)))))),((av (p:=⟨gb2,_,none⟩) NB1_2.out _).trans (((av (p:=⟨gb2,_,none⟩) NB1_2.out _).trans (((av (p:=⟨gb2,_,none⟩) NB1_2.out _).trans (hHeld.2.1)))))),((av (p:=⟨gb2,_,none⟩) NB1_2.out _).trans (((av (p:=⟨gb2,_,none⟩) NB1_2.out _).trans (((av (p:=⟨gb2,_,none⟩) NB1_2.out _).trans (hHeld.2.2))))))⟩ (fun hHeld=>?_)
 clear hK K
 refine dn_ ?_
 try go_wp2
 refine bodyPost_ret (results_cell_row rfl _ _ gb2 26 #[.int .i64 t3,.bool t4,.slice Ao3 t5.length co3] (0,0) _ rfl (u1_ BK2) Tryd.underlying26 rfl bS) rfl ?_
 exact ⟨_,bc,qy,aY⟩

def bw.f (k:Nat) (a0_0:Int) (a0_1:Bool) (l0_2:List Int) (a1:Int) (a2:Int):Option (Int × Bool × List Int):=(b5.f k a0_0 a0_1 l0_2 a2).bind fun bt186=>(if a1=2 then (if a0_0=0 then (none) else ((b5.f k bt186.1 bt186.2.1 bt186.2.2 (Int.tmod (wrap64 (a2+1)) a0_0)).bind fun bt192=>(some (bt192.1,bt192.2.1,bt192.2.2)))) else (some (bt186.1,bt186.2.1,bt186.2.2)))
theorem bw.mono:∀ a0 a1 a2 a3 a4 k,LeO (bw.f k a0 a1 a2 a3 a4) (bw.f (k+1) a0 a1 a2 a3 a4):=by
 intro a0 a1 a2 a3 a4 k;unfold bw.f
 repeat' with_reducible first|exact b5.mono ..|exact LeO.refl ..|exact LeO.none ..|refine LeO.ite ?_ ?_|refine LeO.bind ?_ (fun _=>?_)
def bw.T3:Bool × List (List Nat × List Nat):=(true,[([],[]),([],[]),([1],[1]),([],[]),([3],[3]),([2,4],[2,4]),([0,5],[0,5]),([6,6,0,1,2,3,4,5,6],[6])])
def bw.B3:List Nat:=[0,0,2,0,8,30,63,127]
theorem bw.tab3:dx .any (dX Tryd.f39 3)=bw.T3:=by kernel_rfl
theorem bw.bits3:cp bw.T3.2 bw.B3=true:=by kernel_rfl
theorem bw.calls (k:Nat) (a0_0:Int) (a0_1:Bool) (A0_2:Option Addr) (c0_2:Nat) (l0_2:List Int) (a1:Int) (a2:Int) (r1:Int) (r2:Bool) (r3:List Int) (w:World) (hr0_2:Kd.C (Kd.int .i64) w A0_2 l0_2.length l0_2) (hc0_2:l0_2.length≤c0_2) (H:bw.f k a0_0 a0_1 l0_2 a1 a2=some (r1,r2,r3)) :
  Calls Tryd.prog 39 #[.agg #[.int .i64 a0_0,.bool a0_1,.slice A0_2 l0_2.length c0_2],.int .i64 a1,.int .i64 a2] w fun e w'=>∃ v2_:Value,e=.returned (.agg #[.int .i64 r1,.bool r2,v2_])∧Kd.R (Kd.int .i64) 3 w' w.heap.size (fun _=>True) v2_ r3∧Below w.heap.size w w':=by
 have hu26:=Tryd.underlying26;have HR0_2:=A0_ hr0_2;have HC0_2:=A0_ hc0_2;clear hr0_2 hc0_2;have HB:=A0_ (Below.refl w.heap.size w);unfold bw.f at H;obtain ⟨⟨t1,t2,t3⟩,A2,H⟩:=o1_ H
 by_cases c1:a1=2
 case neg =>
  rw [if_neg c1] at H;obtain ⟨c1b0,c1b1⟩:=ef_ c1;simp only [sj_,pj_] at H;obtain ⟨rfl,rfl,rfl⟩:=H;go_enter Tryd.func39,Tryd.ntmps39
  go_wp2_with (first|((with_reducible refine gd_ (N:=3) rfl ?_);refine bx_ 3 #[.int .i64 a0_0,.bool a0_1,.slice A0_2 l0_2.length c0_2] 26 ?_;intro gb1 hg w1 BK1 hb;have GW1:=ge_ hg am;have GE1:=GW1;replace HB:=hb_ hb am;clear hb hg)|((with_reducible refine gd_ (N:=6) rfl ?_);refine bx_ 6 #[.int .i64 0,.bool false,.slice none 0 0] 26 ?_;intro gb2 hg w2 BK2 hb;have GW2:=ge_ hg ab;have GE2:=GW2;replace HB:=hb_ hb ab;obtain ⟨NB1_2,NB2_1⟩:=nn_ hg BK1;replace BK1:=k1_ BK1 hb;clear hb hg;obtain ⟨hnb1,hnc1⟩:=n2_ NB1_2;have hcz1:=z3_ BK1)|((with_reducible refine gc_ (f:=74) rfl ?_);refine gl_ 10 Tryd.func74 #[.agg #[.int .i64 a0_0,.bool a0_1,.slice A0_2 l0_2.length c0_2],.int .i64 a2] ?_;(with_reducible refine (b5.calls k a0_0 a0_1 _ _ l0_2 a2 t1 t2 t3 _ ?_ ?_ A2.out).mono ?_);exact bn;exact HC0_2.out;rintro e w3 ⟨v1,rfl,ho0,hb⟩;refine ⟨_,rfl,?_⟩;have HO1:=A0_ (Kd.R_lower ho0 (bz_ aY));replace BK1:=k1_ BK1 hb;replace BK2:=k1_ BK2 hb;replace HB:=hb_ hb aY;(try clear hb ho0))|((with_reducible refine gd_ (N:=7) rfl ?_);refine bx_ 7 #[.int .i64 0,.bool false,.slice none 0 0] 26 ?_;intro gb3 hg w4 BK3 hb;replace HO1:=q1_ HO1 hb;have GW3:=ge_ hg aY;have GE3:=GW3;replace HB:=hb_ hb aY;obtain ⟨NB1_3,NB3_1⟩:=nn_ hg BK1;replace BK1:=k1_ BK1 hb;obtain ⟨NB2_3,NB3_2⟩:=nn_ hg BK2;replace BK2:=k1_ BK2 hb;clear hb hg;obtain ⟨hnb2,hnc2⟩:=n2_ NB3_1;obtain ⟨hnb3,hnc3⟩:=n2_ NB3_2;have hcz2:=z3_ BK3;obtain ⟨Ao1,co1,eo1⟩:=Kd.R_slice HO1.out;subst eo1;have hcz3_0:=y_ BK2 0;have hcz3_1:=y_ BK2 1;have hcz3_2:=y_ BK2 2;have hfz3_0:=kf_ BK2.out 0;have hfz3_1:=kf_ BK2.out 1;have hfz3_2:=kf_ BK2.out 2))
  refine bodyPost_ret (results_cell_row rfl _ _ gb2 26 #[.int .i64 t1,.bool t2,.slice Ao1 t3.length co1] (0,0) _ rfl (u1_ BK2) Tryd.underlying26 rfl bS) rfl ?_
  exact ⟨_,bc,by (with_reducible repeat (first|apply ra_|apply rn_|apply rd_));exact Kd.R_mono (cf (rf_ (rf_ (rf_ (Kd.R_types (Kd.R_types HO1.out BK3.out ao) BK2.out ao) (fun _ hk=>hk.1.2) (.int .i64 t1)) (fun _ hk=>hk.1.2) (.bool t2)) (fun _ hk=>hk.1.2) (.slice Ao1 t3.length co1))) (fun _ hk=>trivial),iV⟩
 rw [if_pos c1] at H;obtain ⟨c1b0,c1b1⟩:=et_ c1;clear c1
 by_cases c2:a0_0=0
 ·rw [if_pos c2] at H
  exact absurd H bx
 rw [if_neg c2] at H;obtain ⟨c2b0,c2b1⟩:=ef_ c2;obtain ⟨⟨t4,t5,t6⟩,A4,H⟩:=o1_ H;replace H:(some (t4,t5,t6))=some (r1,r2,r3):=H;simp only [sj_,pj_] at H;obtain ⟨rfl,rfl,rfl⟩:=H;go_enter Tryd.func39,Tryd.ntmps39
 try go_wp2_with (first|((with_reducible refine gd_ (N:=3) rfl ?_);refine bx_ 3 #[.int .i64 a0_0,.bool a0_1,.slice A0_2 l0_2.length c0_2] 26 ?_;intro gb1 hg w1 BK1 hb;have GW1:=ge_ hg am;have GE1:=GW1;replace HB:=hb_ hb am;clear hb hg)|((with_reducible refine gd_ (N:=6) rfl ?_);refine bx_ 6 #[.int .i64 0,.bool false,.slice none 0 0] 26 ?_;intro gb2 hg w2 BK2 hb;have GW2:=ge_ hg ab;have GE2:=GW2;replace HB:=hb_ hb ab;obtain ⟨NB1_2,NB2_1⟩:=nn_ hg BK1;replace BK1:=k1_ BK1 hb;clear hb hg;obtain ⟨hnb1,hnc1⟩:=n2_ NB1_2;have hcz1:=z3_ BK1)|((with_reducible refine gc_ (f:=74) rfl ?_);refine gl_ 10 Tryd.func74 #[.agg #[.int .i64 a0_0,.bool a0_1,.slice A0_2 l0_2.length c0_2],.int .i64 a2] ?_;(with_reducible refine (b5.calls k a0_0 a0_1 _ _ l0_2 a2 t1 t2 t3 _ ?_ ?_ A2.out).mono ?_);exact bn;exact HC0_2.out;rintro e w3 ⟨v1,rfl,ho0,hb⟩;refine ⟨_,rfl,?_⟩;have HO1:=A0_ (Kd.R_lower ho0 (bz_ aY));replace BK1:=k1_ BK1 hb;replace BK2:=k1_ BK2 hb;replace HB:=hb_ hb aY;(try clear hb ho0))|((with_reducible refine gd_ (N:=7) rfl ?_);refine bx_ 7 #[.int .i64 0,.bool false,.slice none 0 0] 26 ?_;intro gb3 hg w4 BK3 hb;replace HO1:=q1_ HO1 hb;have GW3:=ge_ hg aY;have GE3:=GW3;replace HB:=hb_ hb aY;obtain ⟨NB1_3,NB3_1⟩:=nn_ hg BK1;replace BK1:=k1_ BK1 hb;obtain ⟨NB2_3,NB3_2⟩:=nn_ hg BK2;replace BK2:=k1_ BK2 hb;clear hb hg;obtain ⟨hnb2,hnc2⟩:=n2_ NB3_1;obtain ⟨hnb3,hnc3⟩:=n2_ NB3_2;have hcz2:=z3_ BK3;obtain ⟨Ao1,co1,eo1⟩:=Kd.R_slice HO1.out;subst eo1))
 generalize hW_:(((w4.setCell ⟨gb3,0,none⟩ (.int .i64 t1)).setCell ⟨gb3,1,none⟩ (.bool t2)).setCell ⟨gb3,2,none⟩ (.slice Ao1 t3.length co1))=w5;replace HO1:=t3_ hW_ HO1 BK3;replace BK1:=v_ hW_ BK1;replace BK2:=v_ hW_ BK2;replace HB:=vb_ HB hW_ iV;replace BK3:=v2_ (.cells #[.int .i64 t1,.bool t2,.slice Ao1 t3.length co1] 26 (0,0)) hW_ BK3;clear hW_;replace HO1:=A0_ (rd_ HO1.out);replace BK1:=A0_ (kd_ BK1.out);replace BK2:=A0_ (kd_ BK2.out);replace BK3:=A0_ (kd_ BK3.out);replace HB:=A0_ (bd_ HB.out)
 refine dh (n:=8) (S:=fun w'=>w'.cell? ⟨gb3,0,none⟩=some (.int .i64 t1)∧w'.cell? ⟨gb3,1,none⟩=some (.bool t2)∧w'.cell? ⟨gb3,2,none⟩=some (.slice Ao1 t3.length co1)∧w'.cell? ⟨gb1,0,none⟩=some (.int .i64 a0_0)∧w'.cell? ⟨gb1,1,none⟩=some (.bool a0_1)∧w'.cell? ⟨gb1,2,none⟩=some (.slice A0_2 l0_2.length c0_2)) (ds:=[7]) #[false,false,false,false,false,false,false,false] bS rfl rfl (a3_ BK3 (c3_ BK1)) (fun hHeld=>?_);refine dc bw.tab3 bw.bits3 (fun HT_ HW_=>?_)
 generalize w5.drew=w6 at HO1 BK1 BK2 BK3 HB hHeld ⊢
 refine pu_ 1 14 ?_
 refine pu_ 2 15 ?_
 refine pu_ 3 16 ?_
 refine tk_ 0 13 hHeld ?_
 refine tk_ 4 17 hHeld ?_
 refine pu_ 5 18 ?_
 refine on_ 6 (some 19) (fun K hK=>?_)
 refine gs_ Tryd.func74 #[.agg #[.int .i64 t1,.bool t2,.slice Ao1 t3.length co1],.int .i64 (Int.tmod (wrap64 (a2+1)) a0_0)] ?_
 with_reducible refine (b5.calls k t1 t2 _ _ t3 (Int.tmod (wrap64 (a2+1)) a0_0) t4 t5 t6 _ ?_ ?_ A4.out).mono ?_
 exact fE
 exact (rr_ HO1.out).2.1
 rintro e w7 ⟨v3,rfl,ho0,hb⟩
 refine ⟨_,rfl,?_⟩
 have HO2:=A0_ (Kd.R_lower (Kd.R_new' ho0 (Kd.R_lt bR)) (bz_ iV));replace HO1:=A0_ (Kd.R_elder' bR (Kd.R_base ho0) hb);replace BK1:=k1_ BK1 hb;replace BK2:=k1_ BK2 hb;replace BK3:=k1_ BK3 hb;replace HB:=hb_ hb iV
 (try clear hb ho0)
 obtain ⟨Ao2,co2,eo2⟩:=Kd.R_slice HO2.out
 (first|subst eo2|(injection eo2 with f1_ f2_ f3_;have f4_:=f1_.symm;have f5_:=f3_.symm;clear f1_ f2_ f3_;subst f4_;subst f5_))
 refine hK.out _ _ (a3_ BK3 (c3_ BK1)) (fun hHeld=>?_)
 clear hK K
 refine nm_ 19 ?_
 refine iW (i:=7) (N:=none) #[true,true,true,true,true,true,true,true] rfl rfl (gD HT_.out bS) ao (fun K hK=>?_)
 have hs21:=y_ BK3 0;have hfs21:=kf_ BK3.out 0;have hns1_0:=NB1_3.out;have hns1_1:=NB2_3.out;have hms1_0:=NB3_1.out;have hms1_1:=NB3_2.out;have hs22:=y_ BK3 1;have hfs22:=kf_ BK3.out 1;have hns2_0:=NB1_3.out;have hns2_1:=NB2_3.out;have hms2_0:=NB3_1.out;have hms2_1:=NB3_2.out;have hs24:=y_ BK3 2;have hfs24:=kf_ BK3.out 2;have hns3_0:=NB1_3.out;have hns3_1:=NB2_3.out;have hms3_0:=NB3_1.out;have hms3_1:=NB3_2.out
 refine fF (w1:=?_) (by rfl) rfl ?_ ?_
 rotate_left
 ·go_simp
  rfl
 refine hK.out _ _ ?_
 clear hK K
 refine dn_ ?_
 have hcz3:=z3_ BK3;have hcz4:=z3_ BK2
 try go_wp2
 refine bodyPost_ret (results_cell_row rfl _ _ gb2 26 #[.int .i64 t4,.bool t5,.slice Ao2 t6.length co2] (0,0) _ rfl (u1_ BK2) Tryd.underlying26 rfl bS) rfl ?_
 exact ⟨_,bc,by (with_reducible repeat (first|apply ra_|apply rn_|apply rd_));exact Kd.R_mono (cf (rf_ (rf_ (rf_ (Kd.R_types (Kd.R_types HO2.out BK3.out ao) BK2.out ao) (fun _ hk=>hk.1.2) (.int .i64 t4)) (fun _ hk=>hk.1.2) (.bool t5)) (fun _ hk=>hk.1.2) (.slice Ao2 t6.length co2))) (fun _ hk=>trivial),iV⟩

def ch.f (k:Nat) (a0_0:Int) (a0_1:Bool) (l0_2:List Int) (a1:Int) (a2:Int):Option (Int × Bool × List Int × Bool):=(aI.f k a0_0 a0_1 l0_2).bind fun t199=>(if t199=true then ((bG.f a1).bind fun t200=>(if t200=true then ((aA.f k a0_0 a0_1 l0_2 a1).bind fun t201=>((bo.f k t201 a2).bind fun t204=>(if t204=true then ((bw.f k a0_0 a0_1 l0_2 a1 a2).bind fun bt205=>(some (bt205.1,bt205.2.1,bt205.2.2,true))) else (some (0,false,([]:List Int),false))))) else (some (0,false,([]:List Int),false)))) else (some (0,false,([]:List Int),false)))
theorem ch.mono:∀ a0 a1 a2 a3 a4 k,LeO (ch.f k a0 a1 a2 a3 a4) (ch.f (k+1) a0 a1 a2 a3 a4):=by
 intro a0 a1 a2 a3 a4 k;unfold ch.f
 repeat' with_reducible first|exact bw.mono ..|exact aA.mono ..|exact bo.mono ..|exact aI.mono ..|exact LeO.refl ..|exact LeO.none ..|refine LeO.ite ?_ ?_|refine LeO.bind ?_ (fun _=>?_)
theorem ch.calls (k:Nat) (a0_0:Int) (a0_1:Bool) (A0_2:Option Addr) (c0_2:Nat) (l0_2:List Int) (a1:Int) (a2:Int) (r1:Int) (r2:Bool) (r3:List Int) (r4:Bool) (w:World) (hr0_2:Kd.C (Kd.int .i64) w A0_2 l0_2.length l0_2) (hc0_2:l0_2.length≤c0_2) (H:ch.f k a0_0 a0_1 l0_2 a1 a2=some (r1,r2,r3,r4)) :
  Calls Tryd.prog 6 #[.agg #[.int .i64 a0_0,.bool a0_1,.slice A0_2 l0_2.length c0_2],.int .i64 a1,.int .i64 a2] w fun e w'=>∃ v2_:Value,e=.returned (.tuple #[.agg #[.int .i64 r1,.bool r2,v2_],.bool r4])∧Kd.R (Kd.int .i64) 3 w' w.heap.size (fun _=>True) v2_ r3∧Below w.heap.size w w':=by
 have hu26:=Tryd.underlying26;have HR0_2:=A0_ hr0_2;have HC0_2:=A0_ hc0_2;clear hr0_2 hc0_2;have HB:=A0_ (Below.refl w.heap.size w);unfold ch.f at H;obtain ⟨t1,A2,H⟩:=o1_ H
 by_cases c1:t1=true
 case neg =>
  obtain rfl:=bf_.mpr c1;rw [if_neg ft_] at H;simp only [sj_,pj_] at H;obtain ⟨rfl,rfl,rfl,rfl⟩:=H;go_enter Tryd.func6,Tryd.ntmps6
  go_wp2_with (first|((with_reducible refine gd_ (N:=3) rfl ?_);refine bx_ 3 #[.int .i64 a0_0,.bool a0_1,.slice A0_2 l0_2.length c0_2] 26 ?_;intro gb1 hg w1 BK1 hb;have GW1:=ge_ hg am;have GE1:=GW1;replace HB:=hb_ hb am;clear hb hg)|((with_reducible refine gd_ (N:=6) rfl ?_);refine bx_ 6 #[.int .i64 0,.bool false,.slice none 0 0] 26 ?_;intro gb2 hg w2 BK2 hb;have GW2:=ge_ hg ab;have GE2:=GW2;replace HB:=hb_ hb ab;obtain ⟨NB1_2,NB2_1⟩:=nn_ hg BK1;replace BK1:=k1_ BK1 hb;clear hb hg;obtain ⟨hnb1,hnc1⟩:=n2_ NB1_2;have hcz1:=z3_ BK1)|((with_reducible refine gc_ (f:=35) rfl ?_);refine gl_ 9 Tryd.func35 #[.agg #[.int .i64 a0_0,.bool a0_1,.slice A0_2 l0_2.length c0_2]] ?_;(with_reducible refine (aI.calls k a0_0 a0_1 _ _ l0_2 false _ ?_ ?_ A2.out).mono ?_);exact bn;exact HC0_2.out;rintro e w3 ⟨rfl,hb⟩;refine ⟨_,rfl,?_⟩;replace BK1:=k1_ BK1 hb;replace BK2:=k1_ BK2 hb;replace HB:=hb_ hb aY;(try clear hb);have hcz2:=z3_ BK2))
  refine bodyPost_ret (cY rfl _ _ gb2 26 #[.int .i64 0,.bool false,.slice none 0 0] (0,0) _ rfl (u1_ BK2) Tryd.underlying26 rfl bS) rfl ?_
  exact ⟨_,bc,iu,aY⟩
 subst c1;rw [if_pos rfl] at H;obtain ⟨t2,A4,H⟩:=o1_ H
 by_cases c2:t2=true
 case neg =>
  obtain rfl:=bf_.mpr c2;rw [if_neg ft_] at H;simp only [sj_,pj_] at H;obtain ⟨rfl,rfl,rfl,rfl⟩:=H;go_enter Tryd.func6,Tryd.ntmps6
  go_wp2_with (first|((with_reducible refine gd_ (N:=3) rfl ?_);refine bx_ 3 #[.int .i64 a0_0,.bool a0_1,.slice A0_2 l0_2.length c0_2] 26 ?_;intro gb1 hg w1 BK1 hb;have GW1:=ge_ hg am;have GE1:=GW1;replace HB:=hb_ hb am;clear hb hg)|((with_reducible refine gd_ (N:=6) rfl ?_);refine bx_ 6 #[.int .i64 0,.bool false,.slice none 0 0] 26 ?_;intro gb2 hg w2 BK2 hb;have GW2:=ge_ hg ab;have GE2:=GW2;replace HB:=hb_ hb ab;obtain ⟨NB1_2,NB2_1⟩:=nn_ hg BK1;replace BK1:=k1_ BK1 hb;clear hb hg;obtain ⟨hnb1,hnc1⟩:=n2_ NB1_2;have hcz1:=z3_ BK1)|((with_reducible refine gc_ (f:=35) rfl ?_);refine gl_ 9 Tryd.func35 #[.agg #[.int .i64 a0_0,.bool a0_1,.slice A0_2 l0_2.length c0_2]] ?_;(with_reducible refine (aI.calls k a0_0 a0_1 _ _ l0_2 true _ ?_ ?_ A2.out).mono ?_);exact bn;exact HC0_2.out;rintro e w3 ⟨rfl,hb⟩;refine ⟨_,rfl,?_⟩;replace BK1:=k1_ BK1 hb;replace BK2:=k1_ BK2 hb;replace HB:=hb_ hb aY;(try clear hb))|(go_at_call 36;(with_reducible refine (bG.calls a1 false _ A4.out).mono ?_);rintro e w' ⟨rfl,⟨nd,rfl⟩⟩;(try (rw [cZ w3];generalize hq_:World.drewN w3 _=w3;have n0_:Aside0 (w3.heap[gb1]?=some (.cells #[.int .i64 a0_0,.bool a0_1,.slice A0_2 l0_2.length c0_2] 26 (0,0))):=⟨lr⟩;have n1_:Aside0 (w3.heap[gb2]?=some (.cells #[.int .i64 0,.bool false,.slice none 0 0] 26 (0,0))):=⟨by rw [← hq_];exact (u1_ BK2)⟩;have n2_:Aside0 (Below w.heap.size w w3):=⟨mq⟩;clear BK1 BK2 HB hq_;have BK1:=n0_;have BK2:=n1_;have HB:=n2_;clear n0_ n1_ n2_));have hcz2:=z3_ BK2))
  refine bodyPost_ret (cY rfl _ _ gb2 26 #[.int .i64 0,.bool false,.slice none 0 0] (0,0) _ rfl (u1_ BK2) Tryd.underlying26 rfl bS) rfl ?_
  exact ⟨_,bc,iu,aY⟩
 subst c2;rw [if_pos rfl] at H;obtain ⟨t3,A6,H⟩:=o1_ H;obtain ⟨t4,A8,H⟩:=o1_ H
 by_cases c3:t4=true
 case neg =>
  obtain rfl:=bf_.mpr c3;rw [if_neg ft_] at H;simp only [sj_,pj_] at H;obtain ⟨rfl,rfl,rfl,rfl⟩:=H;go_enter Tryd.func6,Tryd.ntmps6
  go_wp2_with (first|((with_reducible refine gd_ (N:=3) rfl ?_);refine bx_ 3 #[.int .i64 a0_0,.bool a0_1,.slice A0_2 l0_2.length c0_2] 26 ?_;intro gb1 hg w1 BK1 hb;have GW1:=ge_ hg am;have GE1:=GW1;replace HB:=hb_ hb am;clear hb hg)|((with_reducible refine gd_ (N:=6) rfl ?_);refine bx_ 6 #[.int .i64 0,.bool false,.slice none 0 0] 26 ?_;intro gb2 hg w2 BK2 hb;have GW2:=ge_ hg ab;have GE2:=GW2;replace HB:=hb_ hb ab;obtain ⟨NB1_2,NB2_1⟩:=nn_ hg BK1;replace BK1:=k1_ BK1 hb;clear hb hg;obtain ⟨hnb1,hnc1⟩:=n2_ NB1_2;have hcz1:=z3_ BK1)|((with_reducible refine gc_ (f:=35) rfl ?_);refine gl_ 9 Tryd.func35 #[.agg #[.int .i64 a0_0,.bool a0_1,.slice A0_2 l0_2.length c0_2]] ?_;(with_reducible refine (aI.calls k a0_0 a0_1 _ _ l0_2 true _ ?_ ?_ A2.out).mono ?_);exact bn;exact HC0_2.out;rintro e w3 ⟨rfl,hb⟩;refine ⟨_,rfl,?_⟩;replace BK1:=k1_ BK1 hb;replace BK2:=k1_ BK2 hb;replace HB:=hb_ hb aY;(try clear hb))|(go_at_call 36;(with_reducible refine (bG.calls a1 true _ A4.out).mono ?_);rintro e w' ⟨rfl,⟨nd,rfl⟩⟩;(try (rw [cZ w3];generalize hq_:World.drewN w3 _=w3;have n0_:Aside0 (w3.heap[gb1]?=some (.cells #[.int .i64 a0_0,.bool a0_1,.slice A0_2 l0_2.length c0_2] 26 (0,0))):=⟨lr⟩;have n1_:Aside0 (w3.heap[gb2]?=some (.cells #[.int .i64 0,.bool false,.slice none 0 0] 26 (0,0))):=⟨by rw [← hq_];exact (u1_ BK2)⟩;have n2_:Aside0 (Below w.heap.size w w3):=⟨mq⟩;clear BK1 BK2 HB hq_;have BK1:=n0_;have BK2:=n1_;have HB:=n2_;clear n0_ n1_ n2_));have hcz2:=z3_ BK1)|(go_at_call 38;(with_reducible refine (aA.calls k a0_0 a0_1 _ _ l0_2 a1 t3 _ ?_ ?_ A6.out).mono ?_);exact bn;exact HC0_2.out;rintro e w4 ⟨v1,rfl,ho0,hb⟩;have HO1:=A0_ (Kd.R_lower ho0 (bz_ aY));replace BK1:=k1_ BK1 hb;replace BK2:=k1_ BK2 hb;replace HB:=hb_ hb aY;(try clear hb ho0);obtain ⟨Ao1,co1,eo1⟩:=Kd.R_slice HO1.out;subst eo1)|(go_at_call 37;(with_reducible refine (bo.calls k _ _ t3 a2 false _ ?_ ?_ A8.out).mono ?_);exact fE;exact (rr_ HO1.out).2.1;rintro e w' ⟨rfl,⟨nd,rfl⟩⟩;(try (rw [cZ w4];generalize hq_:World.drewN w4 _=w4;have n0_:Aside0 (Kd.R (Kd.int .i64) 3 w4 w.heap.size (fun _=>True) (.slice Ao1 t3.length co1) t3):=⟨by rw [← hq_];exact bR⟩;have n1_:Aside0 (w4.heap[gb1]?=some (.cells #[.int .i64 a0_0,.bool a0_1,.slice A0_2 l0_2.length c0_2] 26 (0,0))):=⟨lr⟩;have n2_:Aside0 (w4.heap[gb2]?=some (.cells #[.int .i64 0,.bool false,.slice none 0 0] 26 (0,0))):=⟨by rw [← hq_];exact (u1_ BK2)⟩;have n3_:Aside0 (Below w.heap.size w w4):=⟨mq⟩;clear HO1 BK1 BK2 HB hq_;have HO1:=n0_;have BK1:=n1_;have BK2:=n2_;have HB:=n3_;clear n0_ n1_ n2_ n3_));have hcz3:=z3_ BK2))
  refine bodyPost_ret (cY rfl _ _ gb2 26 #[.int .i64 0,.bool false,.slice none 0 0] (0,0) _ rfl (u1_ BK2) Tryd.underlying26 rfl bS) rfl ?_
  exact ⟨_,bc,iu,aY⟩
 subst c3;rw [if_pos rfl] at H;obtain ⟨⟨t5,t6,t7⟩,A10,H⟩:=o1_ H;replace H:(some (t5,t6,t7,true))=some (r1,r2,r3,r4):=H;simp only [sj_,pj_] at H;obtain ⟨rfl,rfl,rfl,rfl⟩:=H;go_enter Tryd.func6,Tryd.ntmps6
 go_wp2_with (first|((with_reducible refine gd_ (N:=3) rfl ?_);refine bx_ 3 #[.int .i64 a0_0,.bool a0_1,.slice A0_2 l0_2.length c0_2] 26 ?_;intro gb1 hg w1 BK1 hb;have GW1:=ge_ hg am;have GE1:=GW1;replace HB:=hb_ hb am;clear hb hg)|((with_reducible refine gd_ (N:=6) rfl ?_);refine bx_ 6 #[.int .i64 0,.bool false,.slice none 0 0] 26 ?_;intro gb2 hg w2 BK2 hb;have GW2:=ge_ hg ab;have GE2:=GW2;replace HB:=hb_ hb ab;obtain ⟨NB1_2,NB2_1⟩:=nn_ hg BK1;replace BK1:=k1_ BK1 hb;clear hb hg;obtain ⟨hnb1,hnc1⟩:=n2_ NB1_2;have hcz1:=z3_ BK1)|((with_reducible refine gc_ (f:=35) rfl ?_);refine gl_ 9 Tryd.func35 #[.agg #[.int .i64 a0_0,.bool a0_1,.slice A0_2 l0_2.length c0_2]] ?_;(with_reducible refine (aI.calls k a0_0 a0_1 _ _ l0_2 true _ ?_ ?_ A2.out).mono ?_);exact bn;exact HC0_2.out;rintro e w3 ⟨rfl,hb⟩;refine ⟨_,rfl,?_⟩;replace BK1:=k1_ BK1 hb;replace BK2:=k1_ BK2 hb;replace HB:=hb_ hb aY;(try clear hb))|(go_at_call 36;(with_reducible refine (bG.calls a1 true _ A4.out).mono ?_);rintro e w' ⟨rfl,⟨nd,rfl⟩⟩;(try (rw [cZ w3];generalize hq_:World.drewN w3 _=w3;have n0_:Aside0 (w3.heap[gb1]?=some (.cells #[.int .i64 a0_0,.bool a0_1,.slice A0_2 l0_2.length c0_2] 26 (0,0))):=⟨lr⟩;have n1_:Aside0 (w3.heap[gb2]?=some (.cells #[.int .i64 0,.bool false,.slice none 0 0] 26 (0,0))):=⟨by rw [← hq_];exact (u1_ BK2)⟩;have n2_:Aside0 (Below w.heap.size w w3):=⟨mq⟩;clear BK1 BK2 HB hq_;have BK1:=n0_;have BK2:=n1_;have HB:=n2_;clear n0_ n1_ n2_));have hcz2:=z3_ BK1)|(go_at_call 38;(with_reducible refine (aA.calls k a0_0 a0_1 _ _ l0_2 a1 t3 _ ?_ ?_ A6.out).mono ?_);exact bn;exact HC0_2.out;rintro e w4 ⟨v1,rfl,ho0,hb⟩;have HO1:=A0_ (Kd.R_lower ho0 (bz_ aY));replace BK1:=k1_ BK1 hb;replace BK2:=k1_ BK2 hb;replace HB:=hb_ hb aY;(try clear hb ho0);obtain ⟨Ao1,co1,eo1⟩:=Kd.R_slice HO1.out;subst eo1)|(go_at_call 37;(with_reducible refine (bo.calls k _ _ t3 a2 true _ ?_ ?_ A8.out).mono ?_);exact fE;exact (rr_ HO1.out).2.1;rintro e w' ⟨rfl,⟨nd,rfl⟩⟩;(try (rw [cZ w4];generalize hq_:World.drewN w4 _=w4;have n0_:Aside0 (Kd.R (Kd.int .i64) 3 w4 w.heap.size (fun _=>True) (.slice Ao1 t3.length co1) t3):=⟨by rw [← hq_];exact bR⟩;have n1_:Aside0 (w4.heap[gb1]?=some (.cells #[.int .i64 a0_0,.bool a0_1,.slice A0_2 l0_2.length c0_2] 26 (0,0))):=⟨lr⟩;have n2_:Aside0 (w4.heap[gb2]?=some (.cells #[.int .i64 0,.bool false,.slice none 0 0] 26 (0,0))):=⟨by rw [← hq_];exact (u1_ BK2)⟩;have n3_:Aside0 (Below w.heap.size w w4):=⟨mq⟩;clear HO1 BK1 BK2 HB hq_;have HO1:=n0_;have BK1:=n1_;have BK2:=n2_;have HB:=n3_;clear n0_ n1_ n2_ n3_));have hcz3:=z3_ BK1)|((with_reducible refine gc_ (f:=39) rfl ?_);refine gl_ 28 Tryd.func39 #[.agg #[.int .i64 a0_0,.bool a0_1,.slice A0_2 l0_2.length c0_2],.int .i64 a1,.int .i64 a2] ?_;(with_reducible refine (bw.calls k a0_0 a0_1 _ _ l0_2 a1 a2 t5 t6 t7 _ ?_ ?_ A10.out).mono ?_);exact bn;exact HC0_2.out;rintro e w5 ⟨v3,rfl,ho0,hb⟩;refine ⟨_,rfl,?_⟩;have HO2:=A0_ (Kd.R_lower (Kd.R_new' ho0 (Kd.R_lt bR)) (bz_ aY));replace HO1:=A0_ (Kd.R_elder' bR (Kd.R_base ho0) hb);replace BK1:=k1_ BK1 hb;replace BK2:=k1_ BK2 hb;replace HB:=hb_ hb aY;(try clear hb ho0);have hcz4:=z3_ BK2;obtain ⟨Ao2,co2,eo2⟩:=Kd.R_slice HO2.out;subst eo2))
 refine bodyPost_ret (cY rfl _ _ gb2 26 #[.int .i64 t5,.bool t6,.slice Ao2 t7.length co2] (0,0) _ rfl (u1_ BK2) Tryd.underlying26 rfl bS) rfl ?_
 exact ⟨_,bc,oR,aY⟩

def bd.f (a0_0:Int) (a0_1:Bool) (l0_2:List Int):Option (Int × Bool):=some (a0_0,a0_1)
theorem bd.calls (a0_0:Int) (a0_1:Bool) (A0_2:Option Addr) (c0_2:Nat) (l0_2:List Int) (r1:Int) (r2:Bool) (w:World) (hr0_2:Kd.C (Kd.int .i64) w A0_2 l0_2.length l0_2) (hc0_2:l0_2.length≤c0_2) (H:bd.f a0_0 a0_1 l0_2=some (r1,r2)) :
  Calls Tryd.prog 42 #[.agg #[.int .i64 a0_0,.bool a0_1,.slice A0_2 l0_2.length c0_2]] w fun e w'=>e=.returned (.agg #[.int .i64 r1,.bool r2])∧Below w.heap.size w w':=by
 have hu26:=Tryd.underlying26;have hu61:=Tryd.underlying61;have HR0_2:=A0_ hr0_2;have HC0_2:=A0_ hc0_2;clear hr0_2 hc0_2;have HB:=A0_ (Below.refl w.heap.size w);unfold bd.f at H;simp only [sj_,pj_] at H;obtain ⟨rfl,rfl⟩:=H;go_enter Tryd.func42,Tryd.ntmps42
 go_wp2_with (first|((with_reducible refine gd_ (N:=1) rfl ?_);refine bx_ 1 #[.int .i64 a0_0,.bool a0_1,.slice A0_2 l0_2.length c0_2] 26 ?_;intro gb1 hg w1 BK1 hb;have GW1:=ge_ hg am;have GE1:=GW1;replace HB:=hb_ hb am;clear hb hg)|((with_reducible refine gd_ (N:=2) rfl ?_);refine bx_ 2 #[.int .i64 0,.bool false] 61 ?_;intro gb2 hg w2 BK2 hb;have GW2:=ge_ hg ab;have GE2:=GW2;replace HB:=hb_ hb ab;obtain ⟨NB1_2,NB2_1⟩:=nn_ hg BK1;replace BK1:=k1_ BK1 hb;clear hb hg;obtain ⟨hnb1,hnc1⟩:=n2_ NB1_2;have hcz1:=z3_ BK1;have hcz2:=z2_ BK2))
 refine bodyPost_ret (results_cell_row rfl _ _ gb2 61 #[.int .i64 a0_0,.bool a0_1] (0,0) _ rfl (u1_ BK2) Tryd.underlying61 rfl bS) rfl ?_
 exact ⟨bc,aY⟩

def cS.f (a0:Int) (a1:Int) (a2:Int):Option (Bool):=if a0 ≥ a1 then (some (decide (a0≤a2))) else (some false)
theorem cS.calls (a0:Int) (a1:Int) (a2:Int) (r:Bool) (w:World) (H:cS.f a0 a1 a2=some r) :
  Calls Tryd.prog 75 #[.int .i64 a0,.int .i64 a1,.int .i64 a2] w fun e w'=>e=.returned (.bool r)∧Drawn0 w w':=by
 unfold cS.f at H
 by_cases c1:a0 ≥ a1
 ·rw [if_pos c1] at H
  have c1b0:decide (a1≤a0)=true:=dt_ c1;clear c1;obtain rfl:=si_ H;go_enter Tryd.func75,Tryd.ntmps75
  go_wp2
  go_ret
  exact ⟨eq,cT⟩
 rw [if_neg c1] at H;have c1b0:decide (a1≤a0)=false:=decide_eq_false c1;clear c1;obtain rfl:=si_ H;go_enter Tryd.func75,Tryd.ntmps75
 go_wp2
 go_ret
 exact ⟨eq,cT⟩

def bA.l0:Nat→Int→Int→List Int→Int→Int→Option (Bool)
 | 0,_,_,_,_,_=>none
 | k+1,x1,x2,x9,x10,x11=>if x11<x10 then (if 0≤x11 then (if x11<(x9.length:Int) then ((cS.f (rd x9 x11) x1 x2).bind fun t213=>(if t213=true then (bA.l0 k x1 x2 x9 x10 (wrap64 (x11+1))) else (some false))) else (none)) else (none)) else (some true)
def bA.f (k:Nat) (l0:List Int) (a1:Int) (a2:Int):Option (Bool):=bA.l0 k a1 a2 l0 (l0.length:Int) 0
theorem bA.mono_l:∀ k,(∀ y0 y1 y2 y3 y4,LeO (bA.l0 k y0 y1 y2 y3 y4) (bA.l0 (k+1) y0 y1 y2 y3 y4))
 | 0=>fun _ _ _ _ _ r h=>by simp [bA.l0] at h
 | k+1=>by
  have ih0:=bA.mono_l k
  ·intro y0 y1 y2 y3 y4
   unfold bA.l0
   repeat' with_reducible first|exact ih0 ..|exact LeO.refl ..|exact LeO.none ..|refine LeO.ite ?_ ?_|refine LeO.bind ?_ (fun _=>?_)
theorem bA.mono:∀ a0 a1 a2 k,LeO (bA.f k a0 a1 a2) (bA.f (k+1) a0 a1 a2):=by
 intro a0 a1 a2 k;have ih0:=bA.mono_l k;unfold bA.f
 repeat' with_reducible first|exact ih0 ..|exact LeO.refl ..|exact LeO.none ..|refine LeO.ite ?_ ?_|refine LeO.bind ?_ (fun _=>?_)
theorem bA.calls (k:Nat) (A0:Option Addr) (c0:Nat) (l0:List Int) (a1:Int) (a2:Int) (r:Bool) (w:World) (hr0:Kd.C (Kd.int .i64) w A0 l0.length l0) (hc0:l0.length≤c0) (H:bA.f k l0 a1 a2=some r) :
  Calls Tryd.prog 98 #[.slice A0 l0.length c0,.int .i64 a1,.int .i64 a2] w fun e w'=>e=.returned (.bool r)∧Drawn0 w w':=by
 have HR0:=A0_ hr0;have HC0:=A0_ hc0;clear hr0 hc0;unfold bA.f at H;have H':=A0_ H;clear H;go_enter Tryd.func98,Tryd.ntmps98
 go_wp2
 go_loopg [11] k (fun kq v1 w'=>∃ (x11_1:Int),v1=.int .i64 x11_1∧Aside0 (bA.l0 kq a1 a2 l0 (l0.length:Int) x11_1=some r)∧Aside0 (kq≤k)∧Drawn0 w w')
 case atStart=>exact ⟨(0),aC,H',⟨Nat.le_refl _⟩,cT⟩
 clear H';obtain ⟨x11_1,rfl,HA,HK1,⟨m1,rfl⟩⟩:=hrel
 cases gk with|zero=>exact absurd HA.out (by simp [bA.l0])|succ k1=>?_
 have H:=HA.out;clear HA;simp only [bA.l0] at H
 by_cases c1:x11_1<(l0.length:Int)
 case neg =>
  rw [if_neg c1] at H;have c1b0:decide (x11_1<(l0.length:Int))=false:=decide_eq_false c1;clear c1;obtain rfl:=si_ H
  go_wp2
  go_ret
  exact ⟨eq,cT⟩
 rw [if_pos c1] at H;have c1b0:decide (x11_1<(l0.length:Int))=true:=dt_ c1;clear c1;obtain ⟨c2b0,H⟩:=i1_ H;obtain ⟨c3b0,H⟩:=i1_ H;obtain ⟨t1,A2,H⟩:=o1_ H
 by_cases c4:t1=true
 case neg =>
  obtain rfl:=bf_.mpr c4;rw [if_neg ft_] at H;obtain rfl:=si_ H;have p1:0≤(x11_1:Int):=od_ aE;have q1:x11_1<(l0.length:Int):=od_ aE;obtain ⟨ad1,e1,hx1_0⟩:=Kd.at_int HR0.out x11_1 p1 q1;cases e1;replace p1:=eq_true p1;replace q1:=eq_true q1
  go_wp2_with (first|((with_reducible refine gc_ (f:=75) rfl ?_);refine gl_ 18 Tryd.func75 #[.int .i64 (rd l0 x11_1),.int .i64 a1,.int .i64 a2] ?_;(with_reducible refine (cS.calls (rd l0 x11_1) a1 a2 false _ A2.out).mono ?_);rintro e w' ⟨rfl,⟨nd,rfl⟩⟩;refine ⟨_,rfl,?_⟩))
  go_ret
  exact ⟨eq,cT⟩
 subst c4;rw [if_pos rfl] at H;have H':=A0_ H;clear H;have p1:0≤(x11_1:Int):=od_ aE;have q1:x11_1<(l0.length:Int):=od_ aE;obtain ⟨ad1,e1,hx1_0⟩:=Kd.at_int HR0.out x11_1 p1 q1;cases e1;replace p1:=eq_true p1;replace q1:=eq_true q1
 go_wp2_with (first|((with_reducible refine gc_ (f:=75) rfl ?_);refine gl_ 18 Tryd.func75 #[.int .i64 (rd l0 x11_1),.int .i64 a1,.int .i64 a2] ?_;(with_reducible refine (cS.calls (rd l0 x11_1) a1 a2 true _ A2.out).mono ?_);rintro e w' ⟨rfl,⟨nd,rfl⟩⟩;refine ⟨_,rfl,?_⟩))
 go_roundg k1
 case measure=>have:=HK1.out;omega
 exact ⟨(wrap64 (x11_1+1)),aC,H',⟨de⟩,cT⟩

def bD.f (k:Nat) (a0_0:Int) (a0_1:Bool) (l1:List Int):Option (Bool):=(bA.f k l1 0 (wrap64 (a0_0 - 1))).bind fun t215=>(some t215)
theorem bD.mono:∀ a0 a1 a2 k,LeO (bD.f k a0 a1 a2) (bD.f (k+1) a0 a1 a2):=by
 intro a0 a1 a2 k;unfold bD.f
 repeat' with_reducible first|exact bA.mono ..|exact LeO.refl ..|exact LeO.none ..|refine LeO.ite ?_ ?_|refine LeO.bind ?_ (fun _=>?_)
theorem bD.calls (k:Nat) (a0_0:Int) (a0_1:Bool) (A1:Option Addr) (c1:Nat) (l1:List Int) (r:Bool) (w:World) (hr1:Kd.C (Kd.int .i64) w A1 l1.length l1) (hc1:l1.length≤c1) (H:bD.f k a0_0 a0_1 l1=some r) :
  Calls Tryd.prog 76 #[.agg #[.int .i64 a0_0,.bool a0_1],.slice A1 l1.length c1] w fun e w'=>e=.returned (.bool r)∧Below w.heap.size w w':=by
 have hu61:=Tryd.underlying61;have HR1:=A0_ hr1;have HC1:=A0_ hc1;clear hr1 hc1;have HB:=A0_ (Below.refl w.heap.size w);unfold bD.f at H;obtain ⟨t1,A3,H⟩:=o1_ H;replace H:(some t1)=some r:=H;obtain rfl:=si_ H;go_enter Tryd.func76,Tryd.ntmps76
 go_wp2_with (first|((with_reducible refine gd_ (N:=2) rfl ?_);refine bx_ 2 #[.int .i64 a0_0,.bool a0_1] 61 ?_;intro gb1 hg w1 BK1 hb;have GW1:=ge_ hg am;have GE1:=GW1;replace HB:=hb_ hb am;clear hb hg;have hcz1:=c2_ BK1)|((with_reducible refine gc_ (f:=98) rfl ?_);refine gl_ 9 Tryd.func98 #[.slice A1 l1.length c1,.int .i64 0,.int .i64 (wrap64 (a0_0 - 1))] ?_;(with_reducible refine (bA.calls k _ _ l1 0 (wrap64 (a0_0 - 1)) t1 _ ?_ ?_ A3.out).mono ?_);exact (by repeat (first|exact (cb_ HR1.out HB.out)|(with_reducible refine ca_ ?_ _)|(with_reducible refine cn_ ?_ _)|(with_reducible refine cd_ ?_)));exact HC1.out;rintro e w' ⟨rfl,⟨nd,rfl⟩⟩;refine ⟨_,rfl,?_⟩))
 go_ret
 exact ⟨bc,ab⟩

def dr.f (a0_0:Int) (a0_1:Bool):Option (Bool):=(cS.f a0_0 2 24).bind fun t217=>(if t217=true then (if a0_1=true then (some (decide (a0_0 ≥ 3))) else (some true)) else (some false))
theorem dr.calls (a0_0:Int) (a0_1:Bool) (r:Bool) (w:World) (H:dr.f a0_0 a0_1=some r) :
  Calls Tryd.prog 93 #[.agg #[.int .i64 a0_0,.bool a0_1]] w fun e w'=>e=.returned (.bool r)∧Below w.heap.size w w':=by
 have hu61:=Tryd.underlying61;have HB:=A0_ (Below.refl w.heap.size w);unfold dr.f at H;obtain ⟨t1,A2,H⟩:=o1_ H
 by_cases c1:t1=true
 case neg =>
  obtain rfl:=bf_.mpr c1;rw [if_neg ft_] at H;obtain rfl:=si_ H;go_enter Tryd.func93,Tryd.ntmps93
  go_wp2_with (first|((with_reducible refine gd_ (N:=1) rfl ?_);refine bx_ 1 #[.int .i64 a0_0,.bool a0_1] 61 ?_;intro gb1 hg w1 BK1 hb;have GW1:=ge_ hg am;have GE1:=GW1;replace HB:=hb_ hb am;clear hb hg;have hcz1:=c2_ BK1)|((with_reducible refine gc_ (f:=75) rfl ?_);refine gl_ 5 Tryd.func75 #[.int .i64 a0_0,.int .i64 2,.int .i64 24] ?_;(with_reducible refine (cS.calls a0_0 2 24 false _ A2.out).mono ?_);rintro e w' ⟨rfl,⟨nd,rfl⟩⟩;refine ⟨_,rfl,?_⟩))
  go_ret
  exact ⟨bc,ab⟩
 subst c1;rw [if_pos rfl] at H
 by_cases c2:a0_1=true
 ·subst c2
  rw [if_pos rfl] at H;obtain rfl:=si_ H;go_enter Tryd.func93,Tryd.ntmps93
  go_wp2_with (first|((with_reducible refine gd_ (N:=1) rfl ?_);refine bx_ 1 #[.int .i64 a0_0,.bool true] 61 ?_;intro gb1 hg w1 BK1 hb;have GW1:=ge_ hg am;have GE1:=GW1;replace HB:=hb_ hb am;clear hb hg;have hcz1:=c2_ BK1)|((with_reducible refine gc_ (f:=75) rfl ?_);refine gl_ 5 Tryd.func75 #[.int .i64 a0_0,.int .i64 2,.int .i64 24] ?_;(with_reducible refine (cS.calls a0_0 2 24 true _ A2.out).mono ?_);rintro e w' ⟨rfl,⟨nd,rfl⟩⟩;refine ⟨_,rfl,?_⟩))
  go_ret
  exact ⟨bc,ab⟩
 obtain rfl:=bf_.mpr c2;rw [if_neg ft_] at H;obtain rfl:=si_ H;go_enter Tryd.func93,Tryd.ntmps93
 go_wp2_with (first|((with_reducible refine gd_ (N:=1) rfl ?_);refine bx_ 1 #[.int .i64 a0_0,.bool false] 61 ?_;intro gb1 hg w1 BK1 hb;have GW1:=ge_ hg am;have GE1:=GW1;replace HB:=hb_ hb am;clear hb hg;have hcz1:=c2_ BK1)|((with_reducible refine gc_ (f:=75) rfl ?_);refine gl_ 5 Tryd.func75 #[.int .i64 a0_0,.int .i64 2,.int .i64 24] ?_;(with_reducible refine (cS.calls a0_0 2 24 true _ A2.out).mono ?_);rintro e w' ⟨rfl,⟨nd,rfl⟩⟩;refine ⟨_,rfl,?_⟩))
 go_ret
 exact ⟨bc,ab⟩

def bH.l0:Nat→List Int→Int→Int→Int→Bool→List Int→Option (Bool)
 | 0,_,_,_,_,_,_=>none
 | k+1,x6,x7,x8,xb,xc,xa=>if x8<x7 then (if 0≤x8 then (if x8<(x6.length:Int) then ((bd.f xb xc xa).bind fun bt223=>((bD.f k bt223.1 bt223.2 (([rd x6 x8]:List Int))).bind fun t228=>(if t228=true then (if x8 > 0 then (if 0≤(wrap64 (x8 - 1)) then (if (wrap64 (x8 - 1))<(xa.length:Int) then (if (rd xa (wrap64 (x8 - 1))) ≥ (rd x6 x8) then (some false) else (bH.l0 k x6 x7 (wrap64 (x8+1)) xb xc xa)) else (none)) else (none)) else (bH.l0 k x6 x7 (wrap64 (x8+1)) xb xc xa)) else (some false)))) else (none)) else (none)) else ((bd.f xb xc xa).bind fun bt219=>((dr.f bt219.1 bt219.2).bind fun t221=>(some t221)))
def bH.f (k:Nat) (a0_0:Int) (a0_1:Bool) (l0_2:List Int):Option (Bool):=bH.l0 k l0_2 (l0_2.length:Int) 0 a0_0 a0_1 l0_2
theorem bH.mono_l:∀ k,(∀ y0 y1 y2 y3 y4 y5,LeO (bH.l0 k y0 y1 y2 y3 y4 y5) (bH.l0 (k+1) y0 y1 y2 y3 y4 y5))
 | 0=>fun _ _ _ _ _ _ r h=>by simp [bH.l0] at h
 | k+1=>by
  have ih0:=bH.mono_l k
  ·intro y0 y1 y2 y3 y4 y5
   unfold bH.l0
   repeat' with_reducible first|exact ih0 ..|exact bD.mono ..|exact LeO.refl ..|exact LeO.none ..|refine LeO.ite ?_ ?_|refine LeO.bind ?_ (fun _=>?_)
theorem bH.mono:∀ a0 a1 a2 k,LeO (bH.f k a0 a1 a2) (bH.f (k+1) a0 a1 a2):=by
 intro a0 a1 a2 k;have ih0:=bH.mono_l k;unfold bH.f
 repeat' with_reducible first|exact ih0 ..|exact bD.mono ..|exact LeO.refl ..|exact LeO.none ..|refine LeO.ite ?_ ?_|refine LeO.bind ?_ (fun _=>?_)
theorem bH.calls (k:Nat) (a0_0:Int) (a0_1:Bool) (A0_2:Option Addr) (c0_2:Nat) (l0_2:List Int) (r:Bool) (w:World) (hr0_2:Kd.C (Kd.int .i64) w A0_2 l0_2.length l0_2) (hc0_2:l0_2.length≤c0_2) (H:bH.f k a0_0 a0_1 l0_2=some r) :
  Calls Tryd.prog 67 #[.agg #[.int .i64 a0_0,.bool a0_1,.slice A0_2 l0_2.length c0_2]] w fun e w'=>e=.returned (.bool r)∧Below w.heap.size w w':=by
 have hu26:=Tryd.underlying26;have HR0_2:=A0_ hr0_2;have HC0_2:=A0_ hc0_2;clear hr0_2 hc0_2;have HB:=A0_ (Below.refl w.heap.size w);unfold bH.f at H;have H':=A0_ H;clear H;go_enter Tryd.func67,Tryd.ntmps67
 go_wp2_with (first|((with_reducible refine gd_ (N:=1) rfl ?_);refine bx_ 1 #[.int .i64 a0_0,.bool a0_1,.slice A0_2 l0_2.length c0_2] 26 ?_;intro gb1 hg w1 BK1 hb;have GW1:=ge_ hg am;have GE1:=GW1;replace HB:=hb_ hb am;clear hb hg;have hcz1:=c3_ BK1))
 go_loopg [8] k (fun kq v1 w'=>∃ (x8_1:Int),v1=.int .i64 x8_1∧Aside0 (bH.l0 kq l0_2 (l0_2.length:Int) x8_1 a0_0 a0_1 l0_2=some r)∧Aside0 (kq≤k)∧Aside0 (w'.heap[gb1]?=some (.cells #[.int .i64 a0_0,.bool a0_1,(.slice A0_2 l0_2.length c0_2)] 26 (0,0)))∧Aside0 (Below w.heap.size w w'))
 case atStart=>exact ⟨(0),aC,H',⟨Nat.le_refl _⟩,⟨u1_ BK1⟩,⟨ab⟩⟩
 clear H'
 (try clear hcz1)
 obtain ⟨x8_1,rfl,HA,HK1,BK1,HB⟩:=hrel
 cases gk with|zero=>exact absurd HA.out (by simp [bH.l0])|succ k1=>?_
 have H:=HA.out;clear HA;simp only [bH.l0] at H
 by_cases c1:x8_1<(l0_2.length:Int)
 case neg =>
  rw [if_neg c1] at H;have c1b0:decide (x8_1<(l0_2.length:Int))=false:=decide_eq_false c1;clear c1;obtain ⟨⟨t1,t2⟩,A2,H⟩:=o1_ H;obtain ⟨t3,A4,H⟩:=o1_ H;replace H:(some t3)=some r:=H;obtain rfl:=si_ H;have hcz2:=c3_ BK1
  go_wp2_with (first|((with_reducible refine gc_ (f:=42) rfl ?_);refine gl_ 35 Tryd.func42 #[.agg #[.int .i64 a0_0,.bool a0_1,.slice A0_2 l0_2.length c0_2]] ?_;(with_reducible refine (bd.calls a0_0 a0_1 _ _ l0_2 t1 t2 _ ?_ ?_ A2.out).mono ?_);exact bn;exact HC0_2.out;rintro e w2 ⟨rfl,hb⟩;refine ⟨_,rfl,?_⟩;replace BK1:=k1_ BK1 hb;replace HB:=hb_ hb ab;(try clear hb))|((with_reducible refine gc_ (f:=93) rfl ?_);refine gl_ 36 Tryd.func93 #[.agg #[.int .i64 t1,.bool t2]] ?_;(with_reducible refine (dr.calls t1 t2 t3 _ A4.out).mono ?_);rintro e w3 ⟨rfl,hb⟩;refine ⟨_,rfl,?_⟩;replace BK1:=k1_ BK1 hb;replace HB:=hb_ hb ab;(try clear hb)))
  go_ret
  exact ⟨bc,ab⟩
 rw [if_pos c1] at H;have c1b0:decide (x8_1<(l0_2.length:Int))=true:=dt_ c1;clear c1;obtain ⟨c2b0,H⟩:=i1_ H;obtain ⟨c3b0,H⟩:=i1_ H;obtain ⟨⟨t1,t2⟩,A2,H⟩:=o1_ H;obtain ⟨y1,hy1⟩:∃ y_:List Int,y_=(([rd l0_2 x8_1]:List Int)):=⟨_,rfl⟩;replace H:((bD.f k1 t1 t2 y1).bind fun t3=>(if t3=true then (if x8_1 > 0 then (if 0≤(wrap64 (x8_1 - 1)) then (if (wrap64 (x8_1 - 1))<(l0_2.length:Int) then (if (rd l0_2 (wrap64 (x8_1 - 1))) ≥ (rd l0_2 x8_1) then (some false) else (bH.l0 k1 l0_2 (l0_2.length:Int) (wrap64 (x8_1+1)) a0_0 a0_1 l0_2)) else (none)) else (none)) else (bH.l0 k1 l0_2 (l0_2.length:Int) (wrap64 (x8_1+1)) a0_0 a0_1 l0_2)) else (some false)))=some r:=dp;have Ny1:=A0_ hy1;clear hy1;obtain ⟨t3,A4,H⟩:=o1_ H
 by_cases c4:t3=true
 case neg =>
  obtain rfl:=bf_.mpr c4;rw [if_neg ft_] at H;obtain rfl:=si_ H;have p1:0≤(x8_1:Int):=od_ aE;have q1:x8_1<(l0_2.length:Int):=od_ aE;obtain ⟨ad1,e1,hx1_0⟩:=Kd.at_int HR0_2.out x8_1 p1 q1;cases e1;replace hx1_0:=(HB.out.cell (World.block_lt_of_cell? w _ hx1_0)).trans hx1_0;replace p1:=eq_true p1;replace q1:=eq_true q1;have hcz2:=c3_ BK1
  go_wp2_with (first|((with_reducible refine gc_ (f:=42) rfl ?_);refine gl_ 14 Tryd.func42 #[.agg #[.int .i64 a0_0,.bool a0_1,.slice (some ad1) l0_2.length c0_2]] ?_;(with_reducible refine (bd.calls a0_0 a0_1 _ _ l0_2 t1 t2 _ ?_ ?_ A2.out).mono ?_);exact bn;exact HC0_2.out;rintro e w2 ⟨rfl,hb⟩;refine ⟨_,rfl,?_⟩;replace BK1:=k1_ BK1 hb;replace HB:=hb_ hb ab;(try clear hb))|((with_reducible refine gd_ (N:=16) rfl ?_);refine Kd.R_lit (Kd.int .i64) _ 3 ?hg (N:=16) ?hd (xs:=([rd l0_2 x8_1]:List Int)) (inner:=[.int .i64 (rd l0_2 x8_1)]) (ok:=fun _=>True) (okp:=fun _=>True) ?hr ?hp (fun _ hk=>hk) trivial (Below.refl _ _) (Nat.le_refl _) bx ?_;(case hd=>rfl);(case hg=>rfl);(case hr=>go_simp;first|done|rfl);(case hp=>exact (bu.one (show Kd.M (Kd.int .i64) _ _ _ (rd l0_2 x8_1) [.int .i64 (rd l0_2 x8_1)] from rfl) (bu.none _ _)));intro v2 w3 ho38 hb hg_ hnew_;clear hg_ hnew_;(first|rw [← Ny1.out] at ho38|(simp only [Int.reduceToNat] at ho38;rw [← Ny1.out] at ho38));have HO1:=A0_ (Kd.R_lower ho38 (bz_ ab));replace BK1:=k1_ BK1 hb;replace HB:=hb_ hb ab;clear hb ho38;obtain ⟨Ao1,co1,eo1⟩:=Kd.R_slice HO1.out;subst eo1)|((with_reducible refine gc_ (f:=76) rfl ?_);refine gl_ 17 Tryd.func76 #[.agg #[.int .i64 t1,.bool t2],.slice Ao1 y1.length co1] ?_;(with_reducible refine (bD.calls k1 t1 t2 _ _ y1 false _ ?_ ?_ A4.out).mono ?_);exact fE;exact (rr_ HO1.out).2.1;rintro e w4 ⟨rfl,hb⟩;refine ⟨_,rfl,?_⟩;replace HO1:=q1_ HO1 hb;replace BK1:=k1_ BK1 hb;replace HB:=hb_ hb ab;(try clear hb)))
  go_ret
  exact ⟨bc,ab⟩
 subst c4;rw [if_pos rfl] at H
 by_cases c5:x8_1 > 0
 case neg =>
  rw [if_neg c5] at H;have c5b0:decide (0<x8_1)=false:=decide_eq_false c5;clear c5;have H':=A0_ H;clear H;have p1:0≤(x8_1:Int):=od_ aE;have q1:x8_1<(l0_2.length:Int):=od_ aE;obtain ⟨ad1,e1,hx1_0⟩:=Kd.at_int HR0_2.out x8_1 p1 q1;cases e1;replace hx1_0:=(HB.out.cell (World.block_lt_of_cell? w _ hx1_0)).trans hx1_0;replace p1:=eq_true p1;replace q1:=eq_true q1;have hcz2:=c3_ BK1
  go_wp2_with (first|((with_reducible refine gc_ (f:=42) rfl ?_);refine gl_ 14 Tryd.func42 #[.agg #[.int .i64 a0_0,.bool a0_1,.slice (some ad1) l0_2.length c0_2]] ?_;(with_reducible refine (bd.calls a0_0 a0_1 _ _ l0_2 t1 t2 _ ?_ ?_ A2.out).mono ?_);exact bn;exact HC0_2.out;rintro e w2 ⟨rfl,hb⟩;refine ⟨_,rfl,?_⟩;replace BK1:=k1_ BK1 hb;replace HB:=hb_ hb ab;(try clear hb))|((with_reducible refine gd_ (N:=16) rfl ?_);refine Kd.R_lit (Kd.int .i64) _ 3 ?hg (N:=16) ?hd (xs:=([rd l0_2 x8_1]:List Int)) (inner:=[.int .i64 (rd l0_2 x8_1)]) (ok:=fun _=>True) (okp:=fun _=>True) ?hr ?hp (fun _ hk=>hk) trivial (Below.refl _ _) (Nat.le_refl _) bx ?_;(case hd=>rfl);(case hg=>rfl);(case hr=>go_simp;first|done|rfl);(case hp=>exact (bu.one (show Kd.M (Kd.int .i64) _ _ _ (rd l0_2 x8_1) [.int .i64 (rd l0_2 x8_1)] from rfl) (bu.none _ _)));intro v2 w3 ho32 hb hg_ hnew_;clear hg_ hnew_;(first|rw [← Ny1.out] at ho32|(simp only [Int.reduceToNat] at ho32;rw [← Ny1.out] at ho32));have HO1:=A0_ (Kd.R_lower ho32 (bz_ ab));replace BK1:=k1_ BK1 hb;replace HB:=hb_ hb ab;clear hb ho32;obtain ⟨Ao1,co1,eo1⟩:=Kd.R_slice HO1.out;subst eo1)|((with_reducible refine gc_ (f:=76) rfl ?_);refine gl_ 17 Tryd.func76 #[.agg #[.int .i64 t1,.bool t2],.slice Ao1 y1.length co1] ?_;(with_reducible refine (bD.calls k1 t1 t2 _ _ y1 true _ ?_ ?_ A4.out).mono ?_);exact fE;exact (rr_ HO1.out).2.1;rintro e w4 ⟨rfl,hb⟩;refine ⟨_,rfl,?_⟩;replace HO1:=q1_ HO1 hb;replace BK1:=k1_ BK1 hb;replace HB:=hb_ hb ab;(try clear hb)))
  go_roundg k1
  case measure=>have:=HK1.out;omega
  exact ⟨(wrap64 (x8_1+1)),aC,H',⟨de⟩,⟨u1_ BK1⟩,⟨ab⟩⟩
 rw [if_pos c5] at H;have c5b0:decide (0<x8_1)=true:=dt_ c5;clear c5;obtain ⟨ji1,hji1⟩:∃ j_:Int,(wrap64 (x8_1 - 1))=j_:=⟨_,rfl⟩;replace H:(if 0≤(ji1) then (if (ji1)<(l0_2.length:Int) then (if (rd l0_2 (ji1)) ≥ (rd l0_2 x8_1) then (some false) else (bH.l0 k1 l0_2 (l0_2.length:Int) (wrap64 (x8_1+1)) a0_0 a0_1 l0_2)) else (none)) else (none))=some r:=eY
 (try rw [hji1] at A2)
 (try rw [hji1] at A4)
 have hji11w:(IntKind.i64.wrap (x8_1 - 1))=ji1:=(cH _).trans hji1;obtain ⟨c6b0,H⟩:=i1_ H;obtain ⟨c7b0,H⟩:=i1_ H
 by_cases c8:(rd l0_2 (ji1)) ≥ (rd l0_2 x8_1)
 case neg =>
  rw [if_neg c8] at H;have c8b0:decide ((rd l0_2 x8_1)≤(rd l0_2 (ji1)))=false:=decide_eq_false c8;clear c8;have H':=A0_ H;clear H;have p1:0≤(x8_1:Int):=od_ aE;have q1:x8_1<(l0_2.length:Int):=od_ aE;obtain ⟨ad1,e1,hx1_0⟩:=Kd.at_int HR0_2.out x8_1 p1 q1;cases e1;replace hx1_0:=(HB.out.cell (World.block_lt_of_cell? w _ hx1_0)).trans hx1_0;replace p1:=eq_true p1;replace q1:=eq_true q1;have hcz2:=c3_ BK1
  go_wp2_with (first|((with_reducible refine gc_ (f:=42) rfl ?_);refine gl_ 14 Tryd.func42 #[.agg #[.int .i64 a0_0,.bool a0_1,.slice (some ad1) l0_2.length c0_2]] ?_;(with_reducible refine (bd.calls a0_0 a0_1 _ _ l0_2 t1 t2 _ ?_ ?_ A2.out).mono ?_);exact bn;exact HC0_2.out;rintro e w2 ⟨rfl,hb⟩;refine ⟨_,rfl,?_⟩;replace BK1:=k1_ BK1 hb;replace HB:=hb_ hb ab;(try clear hb))|((with_reducible refine gd_ (N:=16) rfl ?_);refine Kd.R_lit (Kd.int .i64) _ 3 ?hg (N:=16) ?hd (xs:=([rd l0_2 x8_1]:List Int)) (inner:=[.int .i64 (rd l0_2 x8_1)]) (ok:=fun _=>True) (okp:=fun _=>True) ?hr ?hp (fun _ hk=>hk) trivial (Below.refl _ _) (Nat.le_refl _) bx ?_;(case hd=>rfl);(case hg=>rfl);(case hr=>go_simp;first|done|rfl);(case hp=>exact (bu.one (show Kd.M (Kd.int .i64) _ _ _ (rd l0_2 x8_1) [.int .i64 (rd l0_2 x8_1)] from rfl) (bu.none _ _)));intro v2 w3 ho25 hb hg_ hnew_;clear hg_ hnew_;(first|rw [← Ny1.out] at ho25|(simp only [Int.reduceToNat] at ho25;rw [← Ny1.out] at ho25));have HO1:=A0_ (Kd.R_lower ho25 (bz_ ab));replace BK1:=k1_ BK1 hb;replace HB:=hb_ hb ab;clear hb ho25;obtain ⟨Ao1,co1,eo1⟩:=Kd.R_slice HO1.out;subst eo1)|((with_reducible refine gc_ (f:=76) rfl ?_);refine gl_ 17 Tryd.func76 #[.agg #[.int .i64 t1,.bool t2],.slice Ao1 y1.length co1] ?_;(with_reducible refine (bD.calls k1 t1 t2 _ _ y1 true _ ?_ ?_ A4.out).mono ?_);exact fE;exact (rr_ HO1.out).2.1;rintro e w4 ⟨rfl,hb⟩;refine ⟨_,rfl,?_⟩;replace HO1:=q1_ HO1 hb;replace BK1:=k1_ BK1 hb;replace HB:=hb_ hb ab;(try clear hb);have hcz3:=c3_ BK1;have p2:0≤((ji1):Int):=od_ aE;have q2:(ji1)<(l0_2.length:Int):=od_ aE;obtain ⟨ad2,e2,hx2_0⟩:=Kd.at_int HR0_2.out (ji1) p2 q2;obtain rfl:ad1=ad2:=e5;replace hx2_0:=(HB.out.cell (World.block_lt_of_cell? w _ hx2_0)).trans hx2_0;replace p2:=eq_true p2;replace q2:=eq_true q2))
  go_roundg k1
  case measure=>have:=HK1.out;omega
  exact ⟨(wrap64 (x8_1+1)),aC,H',⟨de⟩,⟨u1_ BK1⟩,⟨ab⟩⟩
 rw [if_pos c8] at H;have c8b0:decide ((rd l0_2 x8_1)≤(rd l0_2 (ji1)))=true:=dt_ c8;clear c8;obtain rfl:=si_ H;have p1:0≤(x8_1:Int):=od_ aE;have q1:x8_1<(l0_2.length:Int):=od_ aE;obtain ⟨ad1,e1,hx1_0⟩:=Kd.at_int HR0_2.out x8_1 p1 q1;cases e1;replace hx1_0:=(HB.out.cell (World.block_lt_of_cell? w _ hx1_0)).trans hx1_0;replace p1:=eq_true p1;replace q1:=eq_true q1;have hcz2:=c3_ BK1
 go_wp2_with (first|((with_reducible refine gc_ (f:=42) rfl ?_);refine gl_ 14 Tryd.func42 #[.agg #[.int .i64 a0_0,.bool a0_1,.slice (some ad1) l0_2.length c0_2]] ?_;(with_reducible refine (bd.calls a0_0 a0_1 _ _ l0_2 t1 t2 _ ?_ ?_ A2.out).mono ?_);exact bn;exact HC0_2.out;rintro e w2 ⟨rfl,hb⟩;refine ⟨_,rfl,?_⟩;replace BK1:=k1_ BK1 hb;replace HB:=hb_ hb ab;(try clear hb))|((with_reducible refine gd_ (N:=16) rfl ?_);refine Kd.R_lit (Kd.int .i64) _ 3 ?hg (N:=16) ?hd (xs:=([rd l0_2 x8_1]:List Int)) (inner:=[.int .i64 (rd l0_2 x8_1)]) (ok:=fun _=>True) (okp:=fun _=>True) ?hr ?hp (fun _ hk=>hk) trivial (Below.refl _ _) (Nat.le_refl _) bx ?_;(case hd=>rfl);(case hg=>rfl);(case hr=>go_simp;first|done|rfl);(case hp=>exact (bu.one (show Kd.M (Kd.int .i64) _ _ _ (rd l0_2 x8_1) [.int .i64 (rd l0_2 x8_1)] from rfl) (bu.none _ _)));intro v2 w3 ho18 hb hg_ hnew_;clear hg_ hnew_;(first|rw [← Ny1.out] at ho18|(simp only [Int.reduceToNat] at ho18;rw [← Ny1.out] at ho18));have HO1:=A0_ (Kd.R_lower ho18 (bz_ ab));replace BK1:=k1_ BK1 hb;replace HB:=hb_ hb ab;clear hb ho18;obtain ⟨Ao1,co1,eo1⟩:=Kd.R_slice HO1.out;subst eo1)|((with_reducible refine gc_ (f:=76) rfl ?_);refine gl_ 17 Tryd.func76 #[.agg #[.int .i64 t1,.bool t2],.slice Ao1 y1.length co1] ?_;(with_reducible refine (bD.calls k1 t1 t2 _ _ y1 true _ ?_ ?_ A4.out).mono ?_);exact fE;exact (rr_ HO1.out).2.1;rintro e w4 ⟨rfl,hb⟩;refine ⟨_,rfl,?_⟩;replace HO1:=q1_ HO1 hb;replace BK1:=k1_ BK1 hb;replace HB:=hb_ hb ab;(try clear hb);have hcz3:=c3_ BK1;have p2:0≤((ji1):Int):=od_ aE;have q2:(ji1)<(l0_2.length:Int):=od_ aE;obtain ⟨ad2,e2,hx2_0⟩:=Kd.at_int HR0_2.out (ji1) p2 q2;obtain rfl:ad1=ad2:=e5;replace hx2_0:=(HB.out.cell (World.block_lt_of_cell? w _ hx2_0)).trans hx2_0;replace p2:=eq_true p2;replace q2:=eq_true q2))
 go_ret
 exact ⟨iX,ab⟩

def bf.f (k:Nat) (a0_0:Int) (a0_1:Bool) (l0_2:List Int) (a1:Int):Option (Bool):=(bH.f k a0_0 a0_1 l0_2).bind fun t231=>(if t231=true then ((cS.f a1 1 2).bind fun t232=>(some t232)) else (some false))
theorem bf.mono:∀ a0 a1 a2 a3 k,LeO (bf.f k a0 a1 a2 a3) (bf.f (k+1) a0 a1 a2 a3):=by
 intro a0 a1 a2 a3 k;unfold bf.f
 repeat' with_reducible first|exact bH.mono ..|exact LeO.refl ..|exact LeO.none ..|refine LeO.ite ?_ ?_|refine LeO.bind ?_ (fun _=>?_)
theorem bf.calls (k:Nat) (a0_0:Int) (a0_1:Bool) (A0_2:Option Addr) (c0_2:Nat) (l0_2:List Int) (a1:Int) (r:Bool) (w:World) (hr0_2:Kd.C (Kd.int .i64) w A0_2 l0_2.length l0_2) (hc0_2:l0_2.length≤c0_2) (H:bf.f k a0_0 a0_1 l0_2 a1=some r) :
  Calls Tryd.prog 41 #[.agg #[.int .i64 a0_0,.bool a0_1,.slice A0_2 l0_2.length c0_2],.int .i64 a1] w fun e w'=>e=.returned (.bool r)∧Below w.heap.size w w':=by
 have hu26:=Tryd.underlying26;have HR0_2:=A0_ hr0_2;have HC0_2:=A0_ hc0_2;clear hr0_2 hc0_2;have HB:=A0_ (Below.refl w.heap.size w);unfold bf.f at H;obtain ⟨t1,A2,H⟩:=o1_ H
 by_cases c1:t1=true
 case neg =>
  obtain rfl:=bf_.mpr c1;rw [if_neg ft_] at H;obtain rfl:=si_ H;go_enter Tryd.func41,Tryd.ntmps41
  go_wp2_with (first|((with_reducible refine gd_ (N:=2) rfl ?_);refine bx_ 2 #[.int .i64 a0_0,.bool a0_1,.slice A0_2 l0_2.length c0_2] 26 ?_;intro gb1 hg w1 BK1 hb;have GW1:=ge_ hg am;have GE1:=GW1;replace HB:=hb_ hb am;clear hb hg;have hcz1:=c3_ BK1)|((with_reducible refine gc_ (f:=67) rfl ?_);refine gl_ 6 Tryd.func67 #[.agg #[.int .i64 a0_0,.bool a0_1,.slice A0_2 l0_2.length c0_2]] ?_;(with_reducible refine (bH.calls k a0_0 a0_1 _ _ l0_2 false _ ?_ ?_ A2.out).mono ?_);exact bn;exact HC0_2.out;rintro e w2 ⟨rfl,hb⟩;refine ⟨_,rfl,?_⟩;replace BK1:=k1_ BK1 hb;replace HB:=hb_ hb ab;(try clear hb)))
  go_ret
  exact ⟨bc,ab⟩
 subst c1;rw [if_pos rfl] at H;obtain ⟨t2,A4,H⟩:=o1_ H;replace H:(some t2)=some r:=H;obtain rfl:=si_ H;go_enter Tryd.func41,Tryd.ntmps41
 go_wp2_with (first|((with_reducible refine gd_ (N:=2) rfl ?_);refine bx_ 2 #[.int .i64 a0_0,.bool a0_1,.slice A0_2 l0_2.length c0_2] 26 ?_;intro gb1 hg w1 BK1 hb;have GW1:=ge_ hg am;have GE1:=GW1;replace HB:=hb_ hb am;clear hb hg;have hcz1:=c3_ BK1)|((with_reducible refine gc_ (f:=67) rfl ?_);refine gl_ 6 Tryd.func67 #[.agg #[.int .i64 a0_0,.bool a0_1,.slice A0_2 l0_2.length c0_2]] ?_;(with_reducible refine (bH.calls k a0_0 a0_1 _ _ l0_2 true _ ?_ ?_ A2.out).mono ?_);exact bn;exact HC0_2.out;rintro e w2 ⟨rfl,hb⟩;refine ⟨_,rfl,?_⟩;replace BK1:=k1_ BK1 hb;replace HB:=hb_ hb ab;(try clear hb))|(go_at_call 75;(with_reducible refine (cS.calls a1 1 2 t2 _ A4.out).mono ?_);rintro e w' ⟨rfl,⟨nd,rfl⟩⟩))
 go_ret
 exact ⟨bc,ab⟩

def bh.f (a0:Int) (a1:Int):Option (Bool):=if 0≤a1 then (some ((Go.bits .and .u32 (shr .u32 a0 a1) 1) == 1)) else (none)
theorem bh.calls (a0:Int) (a1:Int) (r:Bool) (w:World) (H:bh.f a0 a1=some r) :
  Calls Tryd.prog 78 #[.int .u32 a0,.int .i64 a1] w fun e w'=>e=.returned (.bool r)∧Drawn0 w w':=by
 unfold bh.f at H;obtain ⟨c1b0,c1b1,H⟩:=i2_ H;obtain ⟨ji1,hji1⟩:∃ j_:Int,(shr .u32 a0 a1)=j_:=⟨_,rfl⟩;replace H:(some ((Go.bits .and .u32 (ji1) 1) == 1))=some r:=eY;have hji1_:(a0 / 2 ^ min a1.toNat 32)=ji1:=hji1;have hji4z:a1≤32→(a0 / 2 ^ a1.toNat)=ji1:=ls hji1;obtain rfl:=si_ H;go_enter Tryd.func78,Tryd.ntmps78
 go_wp2
 go_ret
 exact ⟨kd,cT⟩

def dy.f (a0_0:Int) (a0_1:Bool) (a1:Int) (a2:Int):Option (Int):=if a0_1=true then (some (mn (mx (wrap64 (a1 - a2)) (wrap64 (a2 - a1))) (wrap64 (a0_0 - (mx (wrap64 (a1 - a2)) (wrap64 (a2 - a1))))))) else (some (mx (wrap64 (a1 - a2)) (wrap64 (a2 - a1))))
theorem dy.calls (a0_0:Int) (a0_1:Bool) (a1:Int) (a2:Int) (r:Int) (w:World) (H:dy.f a0_0 a0_1 a1 a2=some r) :
  Calls Tryd.prog 104 #[.agg #[.int .i64 a0_0,.bool a0_1],.int .i64 a1,.int .i64 a2] w fun e w'=>e=.returned (.int .i64 r)∧Below w.heap.size w w':=by
 have hu61:=Tryd.underlying61;have HB:=A0_ (Below.refl w.heap.size w);unfold dy.f at H;obtain ⟨ji1,hji1⟩:∃ j_:Int,(mx (wrap64 (a1 - a2)) (wrap64 (a2 - a1)))=j_:=⟨_,rfl⟩;replace H:(if a0_1=true then (some (mn (ji1) (wrap64 (a0_0 - (ji1))))) else (some ji1))=some r:=eY;have hji1_:(if (wrap64 (a1 - a2))<(wrap64 (a2 - a1)) then (wrap64 (a2 - a1)) else (wrap64 (a1 - a2)))=ji1:=hji1
 by_cases c1:a0_1=true
 case neg =>
  obtain rfl:=bf_.mpr c1;rw [if_neg ft_] at H;obtain rfl:=si_ H;go_enter Tryd.func104,Tryd.ntmps104
  go_wp2_with (first|((with_reducible refine gd_ (N:=3) rfl ?_);refine bx_ 3 #[.int .i64 a0_0,.bool false] 61 ?_;intro gb1 hg w1 BK1 hb;have GW1:=ge_ hg am;have GE1:=GW1;replace HB:=hb_ hb am;clear hb hg;have hcz1:=c2_ BK1))
  go_ret
  exact ⟨iX,ab⟩
 subst c1;rw [if_pos rfl] at H;obtain ⟨ji2,hji2⟩:∃ j_:Int,(mn (ji1) (wrap64 (a0_0 - (ji1))))=j_:=⟨_,rfl⟩;replace H:(some ji2)=some r:=lu;have hji2_:(if (wrap64 (a0_0 - (ji1)))<(ji1) then (wrap64 (a0_0 - (ji1))) else (ji1))=ji2:=hji2;obtain rfl:=si_ H;go_enter Tryd.func104,Tryd.ntmps104
 go_wp2_with (first|((with_reducible refine gd_ (N:=3) rfl ?_);refine bx_ 3 #[.int .i64 a0_0,.bool true] 61 ?_;intro gb1 hg w1 BK1 hb;have GW1:=ge_ hg am;have GE1:=GW1;replace HB:=hb_ hb am;clear hb hg;have hcz1:=c2_ BK1))
 go_ret
 exact ⟨qz,ab⟩

def ba.l0:Nat→Int→Int→Int→Int→Int→Bool→Option (Int)
 | 0,_,_,_,_,_,_=>none
 | k+1,x1,x5,x8,x9,xa,xb=>if x9<x8 then ((dy.f xa xb x1 x9).bind fun t235=>(if t235=1 then (if 0≤x9 then (ba.l0 k x1 (Go.bits .or .u32 x5 (shl .u32 1 x9)) x8 (wrap64 (x9+1)) xa xb) else (none)) else (ba.l0 k x1 x5 x8 (wrap64 (x9+1)) xa xb))) else (some x5)
def ba.f (k:Nat) (a0_0:Int) (a0_1:Bool) (a1:Int):Option (Int):=ba.l0 k a1 0 a0_0 0 a0_0 a0_1
theorem ba.mono_l:∀ k,(∀ y0 y1 y2 y3 y4 y5,LeO (ba.l0 k y0 y1 y2 y3 y4 y5) (ba.l0 (k+1) y0 y1 y2 y3 y4 y5))
 | 0=>fun _ _ _ _ _ _ r h=>by simp [ba.l0] at h
 | k+1=>by
  have ih0:=ba.mono_l k
  ·intro y0 y1 y2 y3 y4 y5
   unfold ba.l0
   repeat' with_reducible first|exact ih0 ..|exact LeO.refl ..|exact LeO.none ..|refine LeO.ite ?_ ?_|refine LeO.bind ?_ (fun _=>?_)
theorem ba.mono:∀ a0 a1 a2 k,LeO (ba.f k a0 a1 a2) (ba.f (k+1) a0 a1 a2):=by
 intro a0 a1 a2 k;have ih0:=ba.mono_l k;unfold ba.f
 repeat' with_reducible first|exact ih0 ..|exact LeO.refl ..|exact LeO.none ..|refine LeO.ite ?_ ?_|refine LeO.bind ?_ (fun _=>?_)
theorem ba.calls (k:Nat) (a0_0:Int) (a0_1:Bool) (a1:Int) (r:Int) (w:World) (H:ba.f k a0_0 a0_1 a1=some r) :
  Calls Tryd.prog 99 #[.agg #[.int .i64 a0_0,.bool a0_1],.int .i64 a1] w fun e w'=>e=.returned (.int .u32 r)∧Below w.heap.size w w':=by
 have hu61:=Tryd.underlying61;have HB:=A0_ (Below.refl w.heap.size w);unfold ba.f at H;have H':=A0_ H;clear H;go_enter Tryd.func99,Tryd.ntmps99
 go_wp2_with (first|((with_reducible refine gd_ (N:=2) rfl ?_);refine bx_ 2 #[.int .i64 a0_0,.bool a0_1] 61 ?_;intro gb1 hg w1 BK1 hb;have GW1:=ge_ hg am;have GE1:=GW1;replace HB:=hb_ hb am;clear hb hg;have hcz1:=c2_ BK1))
 go_loopg [5,9] k (fun kq v1 v2 w'=>∃ (x5_1:Int) (x9_1:Int),v1=.int .u32 x5_1∧v2=.int .i64 x9_1∧Aside0 (ba.l0 kq a1 x5_1 a0_0 x9_1 a0_0 a0_1=some r)∧Aside0 (kq≤k)∧Aside0 (w'.heap[gb1]?=some (.cells #[.int .i64 a0_0,.bool a0_1] 61 (0,0)))∧Aside0 (Below w.heap.size w w'))
 case atStart=>exact ⟨(0),(0),aC,aC,H',⟨Nat.le_refl _⟩,⟨u1_ BK1⟩,⟨ab⟩⟩
 clear H'
 (try clear hcz1)
 obtain ⟨x5_1,x9_1,rfl,rfl,HA,HK1,BK1,HB⟩:=hrel
 cases gk with|zero=>exact absurd HA.out (by simp [ba.l0])|succ k1=>?_
 have H:=HA.out;clear HA;simp only [ba.l0] at H
 by_cases c1:x9_1<a0_0
 case neg =>
  rw [if_neg c1] at H;have c1b0:decide (x9_1<a0_0)=false:=decide_eq_false c1;clear c1;obtain rfl:=si_ H
  go_wp2
  go_ret
  exact ⟨bc,ab⟩
 rw [if_pos c1] at H;have c1b0:decide (x9_1<a0_0)=true:=dt_ c1;clear c1;obtain ⟨t1,A2,H⟩:=o1_ H
 by_cases c2:t1=1
 case neg =>
  rw [if_neg c2] at H;obtain ⟨c2b0,c2b1⟩:=ef_ c2;have H':=A0_ H;clear H;have hcz2:=c2_ BK1
  go_wp2_with (first|((with_reducible refine gc_ (f:=104) rfl ?_);refine gl_ 15 Tryd.func104 #[.agg #[.int .i64 a0_0,.bool a0_1],.int .i64 a1,.int .i64 x9_1] ?_;(with_reducible refine (dy.calls a0_0 a0_1 a1 x9_1 t1 _ A2.out).mono ?_);rintro e w2 ⟨rfl,hb⟩;refine ⟨_,rfl,?_⟩;replace BK1:=k1_ BK1 hb;replace HB:=hb_ hb ab;(try clear hb)))
  go_roundg k1
  case measure=>have:=HK1.out;omega
  exact ⟨(x5_1),(wrap64 (x9_1+1)),aC,aC,H',⟨de⟩,⟨u1_ BK1⟩,⟨ab⟩⟩
 rw [if_pos c2] at H;obtain ⟨c2b0,c2b1⟩:=et_ c2;clear c2;obtain ⟨c3b0,c3b1,H⟩:=i2_ H;obtain ⟨ji1,hji1⟩:∃ j_:Int,(shl .u32 1 x9_1)=j_:=⟨_,rfl⟩;replace H:(ba.l0 k1 a1 (Go.bits .or .u32 x5_1 (ji1)) a0_0 (wrap64 (x9_1+1)) a0_0 a0_1)=some r:=eY
 (try rw [hji1] at A2)
 have hji1_:(IntKind.u32.wrap (1 * 2 ^ min x9_1.toNat 32))=ji1:=hji1;have hji9z:x9_1≤32→(IntKind.u32.wrap (1 * 2 ^ x9_1.toNat))=ji1:=dB hji1
 have hji9u:(IntKind.u32.wrap (2 ^ min x9_1.toNat 32))=ji1:=by have h_:=hji1_;rw [Int.one_mul] at h_;exact h_
 have hji9v:x9_1≤32→(IntKind.u32.wrap (2 ^ x9_1.toNat))=ji1:=fun hle_=>by have h_:=hji9z hle_;rw [Int.one_mul] at h_;exact h_
 have H':=A0_ H;clear H;have hcz2:=c2_ BK1
 go_wp2_with (first|((with_reducible refine gc_ (f:=104) rfl ?_);refine gl_ 15 Tryd.func104 #[.agg #[.int .i64 a0_0,.bool a0_1],.int .i64 a1,.int .i64 x9_1] ?_;(with_reducible refine (dy.calls a0_0 a0_1 a1 x9_1 t1 _ A2.out).mono ?_);rintro e w2 ⟨rfl,hb⟩;refine ⟨_,rfl,?_⟩;replace BK1:=k1_ BK1 hb;replace HB:=hb_ hb ab;(try clear hb)))
 go_roundg k1
 case measure=>have:=HK1.out;omega
 exact ⟨(Go.bits .or .u32 x5_1 (ji1)),(wrap64 (x9_1+1)),kd,aC,H',⟨de⟩,⟨u1_ BK1⟩,⟨ab⟩⟩

def aN.l0:Nat→Int→Int→Int→Int→Int→Bool→Option (Int)
 | 0,_,_,_,_,_,_=>none
 | k+1,x1,x5,x8,x9,xa,xb=>if x9<x8 then ((bh.f x1 x9).bind fun t237=>(if t237=true then (aN.l0 k x1 x5 x8 (wrap64 (x9+1)) xa xb) else ((ba.f k xa xb x9).bind fun t238=>(if (Go.bits .and .u32 t238 x1)=0 then (if 0≤x9 then (aN.l0 k x1 (Go.bits .or .u32 x5 (shl .u32 1 x9)) x8 (wrap64 (x9+1)) xa xb) else (none)) else (aN.l0 k x1 x5 x8 (wrap64 (x9+1)) xa xb))))) else (some x5)
def aN.f (k:Nat) (a0_0:Int) (a0_1:Bool) (a1:Int):Option (Int):=aN.l0 k a1 0 a0_0 0 a0_0 a0_1
theorem aN.mono_l:∀ k,(∀ y0 y1 y2 y3 y4 y5,LeO (aN.l0 k y0 y1 y2 y3 y4 y5) (aN.l0 (k+1) y0 y1 y2 y3 y4 y5))
 | 0=>fun _ _ _ _ _ _ r h=>by simp [aN.l0] at h
 | k+1=>by
  have ih0:=aN.mono_l k
  ·intro y0 y1 y2 y3 y4 y5
   unfold aN.l0
   repeat' with_reducible first|exact ih0 ..|exact ba.mono ..|exact LeO.refl ..|exact LeO.none ..|refine LeO.ite ?_ ?_|refine LeO.bind ?_ (fun _=>?_)
theorem aN.mono:∀ a0 a1 a2 k,LeO (aN.f k a0 a1 a2) (aN.f (k+1) a0 a1 a2):=by
 intro a0 a1 a2 k;have ih0:=aN.mono_l k;unfold aN.f
 repeat' with_reducible first|exact ih0 ..|exact ba.mono ..|exact LeO.refl ..|exact LeO.none ..|refine LeO.ite ?_ ?_|refine LeO.bind ?_ (fun _=>?_)
theorem aN.calls (k:Nat) (a0_0:Int) (a0_1:Bool) (a1:Int) (r:Int) (w:World) (H:aN.f k a0_0 a0_1 a1=some r) :
  Calls Tryd.prog 77 #[.agg #[.int .i64 a0_0,.bool a0_1],.int .u32 a1] w fun e w'=>e=.returned (.int .u32 r)∧Below w.heap.size w w':=by
 have hu61:=Tryd.underlying61;have HB:=A0_ (Below.refl w.heap.size w);unfold aN.f at H;have H':=A0_ H;clear H;go_enter Tryd.func77,Tryd.ntmps77
 go_wp2_with (first|((with_reducible refine gd_ (N:=2) rfl ?_);refine bx_ 2 #[.int .i64 a0_0,.bool a0_1] 61 ?_;intro gb1 hg w1 BK1 hb;have GW1:=ge_ hg am;have GE1:=GW1;replace HB:=hb_ hb am;clear hb hg;have hcz1:=c2_ BK1))
 go_loopg [5,9] k (fun kq v1 v2 w'=>∃ (x5_1:Int) (x9_1:Int),v1=.int .u32 x5_1∧v2=.int .i64 x9_1∧Aside0 (aN.l0 kq a1 x5_1 a0_0 x9_1 a0_0 a0_1=some r)∧Aside0 (kq≤k)∧Aside0 (w'.heap[gb1]?=some (.cells #[.int .i64 a0_0,.bool a0_1] 61 (0,0)))∧Aside0 (Below w.heap.size w w'))
 case atStart=>exact ⟨(0),(0),aC,aC,H',⟨Nat.le_refl _⟩,⟨u1_ BK1⟩,⟨ab⟩⟩
 clear H'
 (try clear hcz1)
 obtain ⟨x5_1,x9_1,rfl,rfl,HA,HK1,BK1,HB⟩:=hrel
 cases gk with|zero=>exact absurd HA.out (by simp [aN.l0])|succ k1=>?_
 have H:=HA.out;clear HA;simp only [aN.l0] at H
 by_cases c1:x9_1<a0_0
 case neg =>
  rw [if_neg c1] at H;have c1b0:decide (x9_1<a0_0)=false:=decide_eq_false c1;clear c1;obtain rfl:=si_ H
  go_wp2
  go_ret
  exact ⟨bc,ab⟩
 rw [if_pos c1] at H;have c1b0:decide (x9_1<a0_0)=true:=dt_ c1;clear c1;obtain ⟨t1,A2,H⟩:=o1_ H
 by_cases c2:t1=true
 ·subst c2
  rw [if_pos rfl] at H;have H':=A0_ H;clear H
  go_wp2_with (first|((with_reducible refine gc_ (f:=78) rfl ?_);refine gl_ 14 Tryd.func78 #[.int .u32 a1,.int .i64 x9_1] ?_;(with_reducible refine (bh.calls a1 x9_1 true _ A2.out).mono ?_);rintro e w' ⟨rfl,⟨nd,rfl⟩⟩;refine ⟨_,rfl,?_⟩))
  go_roundg k1
  case measure=>have:=HK1.out;omega
  exact ⟨(x5_1),(wrap64 (x9_1+1)),aC,aC,H',⟨de⟩,⟨u1_ BK1⟩,⟨ab⟩⟩
 obtain rfl:=bf_.mpr c2;rw [if_neg ft_] at H;obtain ⟨t2,A4,H⟩:=o1_ H
 by_cases c3:(Go.bits .and .u32 t2 a1)=0
 case neg =>
  rw [if_neg c3] at H;obtain ⟨c3b0,c3b1⟩:=ef_ c3;have H':=A0_ H;clear H
  go_wp2_with (first|((with_reducible refine gc_ (f:=78) rfl ?_);refine gl_ 14 Tryd.func78 #[.int .u32 a1,.int .i64 x9_1] ?_;(with_reducible refine (bh.calls a1 x9_1 false _ A2.out).mono ?_);rintro e w' ⟨rfl,⟨nd,rfl⟩⟩;refine ⟨_,rfl,?_⟩;have hcz2:=c2_ BK1)|(go_at_call 99;(with_reducible refine (ba.calls k1 a0_0 a0_1 x9_1 t2 _ A4.out).mono ?_);rintro e w2 ⟨rfl,hb⟩;replace BK1:=k1_ BK1 hb;replace HB:=hb_ hb ab;(try clear hb)))
  go_roundg k1
  case measure=>have:=HK1.out;omega
  exact ⟨(x5_1),(wrap64 (x9_1+1)),aC,aC,H',⟨de⟩,⟨u1_ BK1⟩,⟨ab⟩⟩
 rw [if_pos c3] at H;obtain ⟨c3b0,c3b1⟩:=et_ c3;clear c3;obtain ⟨c4b0,c4b1,H⟩:=i2_ H;obtain ⟨ji1,hji1⟩:∃ j_:Int,(shl .u32 1 x9_1)=j_:=⟨_,rfl⟩;replace H:(aN.l0 k1 a1 (Go.bits .or .u32 x5_1 (ji1)) a0_0 (wrap64 (x9_1+1)) a0_0 a0_1)=some r:=eY
 (try rw [hji1] at A2)
 (try rw [hji1] at A4)
 have hji1_:(IntKind.u32.wrap (1 * 2 ^ min x9_1.toNat 32))=ji1:=hji1;have hji11z:x9_1≤32→(IntKind.u32.wrap (1 * 2 ^ x9_1.toNat))=ji1:=dB hji1
 have hji11u:(IntKind.u32.wrap (2 ^ min x9_1.toNat 32))=ji1:=by have h_:=hji1_;rw [Int.one_mul] at h_;exact h_
 have hji11v:x9_1≤32→(IntKind.u32.wrap (2 ^ x9_1.toNat))=ji1:=fun hle_=>by have h_:=hji11z hle_;rw [Int.one_mul] at h_;exact h_
 have H':=A0_ H;clear H
 go_wp2_with (first|((with_reducible refine gc_ (f:=78) rfl ?_);refine gl_ 14 Tryd.func78 #[.int .u32 a1,.int .i64 x9_1] ?_;(with_reducible refine (bh.calls a1 x9_1 false _ A2.out).mono ?_);rintro e w' ⟨rfl,⟨nd,rfl⟩⟩;refine ⟨_,rfl,?_⟩;have hcz2:=c2_ BK1)|(go_at_call 99;(with_reducible refine (ba.calls k1 a0_0 a0_1 x9_1 t2 _ A4.out).mono ?_);rintro e w2 ⟨rfl,hb⟩;replace BK1:=k1_ BK1 hb;replace HB:=hb_ hb ab;(try clear hb)))
 go_roundg k1
 case measure=>have:=HK1.out;omega
 exact ⟨(Go.bits .or .u32 x5_1 (ji1)),(wrap64 (x9_1+1)),kd,aC,H',⟨de⟩,⟨u1_ BK1⟩,⟨ab⟩⟩

end Go.Proofs.YtgcgmlbjklkkjaaDoor.QFnGame
-- packed
-- squeezed
