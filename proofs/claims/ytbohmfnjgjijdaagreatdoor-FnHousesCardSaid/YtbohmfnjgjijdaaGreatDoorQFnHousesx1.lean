-- Written by px.py, a program of this session, over the kit's printer: some functions have a definition and a proof of this session's own.
import Derived.Test.YtbohmfnjgjijdaaGreatDoorQFnHousesx0
namespace Go.Proofs.YtbohmfnjgjijdaaGreatDoor.QFnHouses
open Go.RowKit Go.Proofs.YtbohmfnjgjijdaaGreatDoorW.PrintWords Go.Proofs.YtbohmfnjgjijdaaGreatDoorW.PrintLast Go.Proofs.YtbohmfnjgjijdaaGreatDoorW.PrintMore
attribute [local go_sem] ek el eM eN dU dV en eo   -- for this text's walks alone
set_option linter.unusedVariables false
set_option linter.unusedSimpArgs false
set_option maxHeartbeats 8000000
set_option maxRecDepth 100000

def bA.f (a0:Int) (a1:Int) (a2:Int):Option (Bool):=if a0 ≥ a1 then (some (decide (a0≤a2))) else (some false)
theorem bA.calls (a0:Int) (a1:Int) (a2:Int) (r:Bool) (w:World) (H:bA.f a0 a1 a2=some r) :
  Calls Tryz.prog 65 #[.int .i64 a0,.int .i64 a1,.int .i64 a2] w fun e w'=>e=.returned (.bool r)∧Drawn0 w w':=by
 unfold bA.f at H
 by_cases c1:a0 ≥ a1
 ·rw [if_pos c1] at H
  have c1b0:decide (a1≤a0)=true:=dt_ c1;clear c1;obtain rfl:=si_ H;go_enter Tryz.func65,Tryz.ntmps65
  go_wp2
  go_ret
  exact ⟨dv,ck⟩
 rw [if_neg c1] at H;have c1b0:decide (a1≤a0)=false:=decide_eq_false c1;clear c1;obtain rfl:=si_ H;go_enter Tryz.func65,Tryz.ntmps65
 go_wp2
 go_ret
 exact ⟨dv,ck⟩

def aU.l0:Nat→List Int→Int→Int→Int→Option (Bool)
 | 0,_,_,_,_=>none
 | k+1,x0,x1,x2,x7=>if x7<(x0.length:Int) then (if 0≤x7 then ((bA.f (rd x0 x7) x1 x2).bind fun t102=>(if t102=true then (if x7 > 0 then (if 0≤(wrap64 (x7 - 1)) then (if (wrap64 (x7 - 1))<(x0.length:Int) then (if (rd x0 (wrap64 (x7 - 1))) ≥ (rd x0 x7) then (some false) else (aU.l0 k x0 x1 x2 (wrap64 (x7+1)))) else (none)) else (none)) else (aU.l0 k x0 x1 x2 (wrap64 (x7+1)))) else (some false))) else (none)) else (some true)
def aU.f (k:Nat) (l0:List Int) (a1:Int) (a2:Int):Option (Bool):=aU.l0 k l0 a1 a2 0
theorem aU.mono_l:∀ k,(∀ y0 y1 y2 y3,LeO (aU.l0 k y0 y1 y2 y3) (aU.l0 (k+1) y0 y1 y2 y3))
 | 0=>fun _ _ _ _ r h=>by simp [aU.l0] at h
 | k+1=>by
  have ih0:=aU.mono_l k
  ·intro y0 y1 y2 y3
   unfold aU.l0
   repeat' with_reducible first|exact ih0 ..|exact LeO.refl ..|exact LeO.none ..|refine LeO.ite ?_ ?_|refine LeO.bind ?_ (fun _=>?_)
theorem aU.mono:∀ a0 a1 a2 k,LeO (aU.f k a0 a1 a2) (aU.f (k+1) a0 a1 a2):=by
 intro a0 a1 a2 k;have ih0:=aU.mono_l k;unfold aU.f
 repeat' with_reducible first|exact ih0 ..|exact LeO.refl ..|exact LeO.none ..|refine LeO.ite ?_ ?_|refine LeO.bind ?_ (fun _=>?_)
theorem aU.calls (k:Nat) (A0:Option Addr) (c0:Nat) (l0:List Int) (a1:Int) (a2:Int) (r:Bool) (w:World) (hr0:Kd.C (Kd.int .i64) w A0 l0.length l0) (hc0:l0.length≤c0) (H:aU.f k l0 a1 a2=some r) :
  Calls Tryz.prog 86 #[.slice A0 l0.length c0,.int .i64 a1,.int .i64 a2] w fun e w'=>e=.returned (.bool r)∧Drawn0 w w':=by
 have HR0:=A0_ hr0;have HC0:=A0_ hc0;clear hr0 hc0;unfold aU.f at H;have H':=A0_ H;clear H;go_enter Tryz.func86,Tryz.ntmps86
 go_wp2
 repeat (go_quiet (fail);try go_wp2)
 go_loopg [7] k (fun kq v1 w'=>∃ (x7_1:Int),v1=.int .i64 x7_1∧Aside0 (aU.l0 kq l0 a1 a2 x7_1=some r)∧Aside0 (kq≤k)∧Drawn0 w w')
 case atStart=>exact ⟨(0),aX,H',⟨Nat.le_refl _⟩,ck⟩
 clear H';obtain ⟨x7_1,rfl,HA,HK1,⟨m1,rfl⟩⟩:=hrel
 cases gk with|zero=>exact absurd HA.out (by simp [aU.l0])|succ k1=>?_
 have H:=HA.out;clear HA;simp only [aU.l0] at H
 by_cases c1:x7_1<(l0.length:Int)
 case neg =>
  rw [if_neg c1] at H;have c1b0:decide (x7_1<(l0.length:Int))=false:=decide_eq_false c1;clear c1;obtain rfl:=si_ H
  go_wp2
  repeat (go_quiet (fail);try go_wp2)
  go_ret
  exact ⟨dv,ck⟩
 rw [if_pos c1] at H;have c1b0:decide (x7_1<(l0.length:Int))=true:=dt_ c1;clear c1;obtain ⟨c2b0,H⟩:=i1_ H;obtain ⟨t1,A2,H⟩:=o1_ H
 by_cases c3:t1=true
 case neg =>
  obtain rfl:=bf_.mpr c3;rw [if_neg ft_] at H;obtain rfl:=si_ H;have p1:0≤(x7_1:Int):=od_ ay;have q1:x7_1<(l0.length:Int):=od_ ay;obtain ⟨ad1,e1,hx1_0⟩:=Kd.at_int HR0.out x7_1 p1 q1;cases e1;replace p1:=eq_true p1;replace q1:=eq_true q1
  go_wp2_with (first|(go_at_call 65;(with_reducible refine (bA.calls (rd l0 x7_1) a1 a2 false _ A2.out).mono ?_);rintro e w' ⟨rfl,⟨nd,rfl⟩⟩;(try first|exact ⟨rfl,_,World.drewN_drewN _ _ _⟩|exact ⟨rfl,_,Eq.trans (World.drewN_drewN _ _ _) (congrArg (World.drewN _) (Nat.add_assoc _ _ _))⟩)))
  repeat (go_quiet (first|(go_at_call 65;(with_reducible refine (bA.calls (rd l0 x7_1) a1 a2 false _ A2.out).mono ?_);rintro e w' ⟨rfl,⟨nd,rfl⟩⟩;(try first|exact ⟨rfl,_,World.drewN_drewN _ _ _⟩|exact ⟨rfl,_,Eq.trans (World.drewN_drewN _ _ _) (congrArg (World.drewN _) (Nat.add_assoc _ _ _))⟩)));try go_wp2_with (first|(go_at_call 65;(with_reducible refine (bA.calls (rd l0 x7_1) a1 a2 false _ A2.out).mono ?_);rintro e w' ⟨rfl,⟨nd,rfl⟩⟩;(try first|exact ⟨rfl,_,World.drewN_drewN _ _ _⟩|exact ⟨rfl,_,Eq.trans (World.drewN_drewN _ _ _) (congrArg (World.drewN _) (Nat.add_assoc _ _ _))⟩))))
  go_ret
  exact ⟨dv,ck⟩
 subst c3;rw [if_pos rfl] at H
 by_cases c4:x7_1 > 0
 case neg =>
  rw [if_neg c4] at H;have c4b0:decide (0<x7_1)=false:=decide_eq_false c4;clear c4;have H':=A0_ H;clear H;have p1:0≤(x7_1:Int):=od_ ay;have q1:x7_1<(l0.length:Int):=od_ ay;obtain ⟨ad1,e1,hx1_0⟩:=Kd.at_int HR0.out x7_1 p1 q1;cases e1;replace p1:=eq_true p1;replace q1:=eq_true q1
  go_wp2_with (first|(go_at_call 65;(with_reducible refine (bA.calls (rd l0 x7_1) a1 a2 true _ A2.out).mono ?_);rintro e w' ⟨rfl,⟨nd,rfl⟩⟩;(try first|exact ⟨rfl,_,World.drewN_drewN _ _ _⟩|exact ⟨rfl,_,Eq.trans (World.drewN_drewN _ _ _) (congrArg (World.drewN _) (Nat.add_assoc _ _ _))⟩)))
  repeat (go_quiet (first|(go_at_call 65;(with_reducible refine (bA.calls (rd l0 x7_1) a1 a2 true _ A2.out).mono ?_);rintro e w' ⟨rfl,⟨nd,rfl⟩⟩;(try first|exact ⟨rfl,_,World.drewN_drewN _ _ _⟩|exact ⟨rfl,_,Eq.trans (World.drewN_drewN _ _ _) (congrArg (World.drewN _) (Nat.add_assoc _ _ _))⟩)));try go_wp2_with (first|(go_at_call 65;(with_reducible refine (bA.calls (rd l0 x7_1) a1 a2 true _ A2.out).mono ?_);rintro e w' ⟨rfl,⟨nd,rfl⟩⟩;(try first|exact ⟨rfl,_,World.drewN_drewN _ _ _⟩|exact ⟨rfl,_,Eq.trans (World.drewN_drewN _ _ _) (congrArg (World.drewN _) (Nat.add_assoc _ _ _))⟩))))
  go_roundg k1
  case measure=>have:=HK1.out;omega
  exact ⟨(wrap64 (x7_1+1)),aX,H',⟨dj⟩,ck⟩
 rw [if_pos c4] at H;have c4b0:decide (0<x7_1)=true:=dt_ c4;clear c4;obtain ⟨ji1,hji1⟩:∃ j_:Int,(wrap64 (x7_1 - 1))=j_:=⟨_,rfl⟩;replace H:(if 0≤(ji1) then (if (ji1)<(l0.length:Int) then (if (rd l0 (ji1)) ≥ (rd l0 x7_1) then (some false) else (aU.l0 k1 l0 a1 a2 (wrap64 (x7_1+1)))) else (none)) else (none))=some r:=gG
 (try rw [hji1] at A2)
 have hji9w:(IntKind.i64.wrap (x7_1 - 1))=ji1:=(dD _).trans hji1;obtain ⟨c5b0,H⟩:=i1_ H;obtain ⟨c6b0,H⟩:=i1_ H
 by_cases c7:(rd l0 (ji1)) ≥ (rd l0 x7_1)
 ·rw [if_pos c7] at H
  have c7b0:decide ((rd l0 x7_1)≤(rd l0 (ji1)))=true:=dt_ c7;clear c7;obtain rfl:=si_ H;have p1:0≤(x7_1:Int):=od_ ay;have q1:x7_1<(l0.length:Int):=od_ ay;obtain ⟨ad1,e1,hx1_0⟩:=Kd.at_int HR0.out x7_1 p1 q1;cases e1;replace p1:=eq_true p1;replace q1:=eq_true q1
  go_wp2_with (first|(go_at_call 65;(with_reducible refine (bA.calls (rd l0 x7_1) a1 a2 true _ A2.out).mono ?_);rintro e w' ⟨rfl,⟨nd,rfl⟩⟩;(try first|exact ⟨rfl,_,World.drewN_drewN _ _ _⟩|exact ⟨rfl,_,Eq.trans (World.drewN_drewN _ _ _) (congrArg (World.drewN _) (Nat.add_assoc _ _ _))⟩);have p2:0≤((ji1):Int):=od_ ay;have q2:(ji1)<(l0.length:Int):=od_ ay;obtain ⟨ad2,e2,hx2_0⟩:=Kd.at_int HR0.out (ji1) p2 q2;obtain rfl:ad1=ad2:=fm;replace p2:=eq_true p2;replace q2:=eq_true q2;have p3:0≤(x7_1:Int):=od_ ay;have q3:x7_1<(l0.length:Int):=od_ ay;obtain ⟨ad3,e3,hx3_0⟩:=Kd.at_int HR0.out x7_1 p3 q3;obtain rfl:ad1=ad3:=(by injection e3);replace p3:=eq_true p3;replace q3:=eq_true q3))
  repeat (go_quiet (first|(go_at_call 65;(with_reducible refine (bA.calls (rd l0 x7_1) a1 a2 true _ A2.out).mono ?_);rintro e w' ⟨rfl,⟨nd,rfl⟩⟩;(try first|exact ⟨rfl,_,World.drewN_drewN _ _ _⟩|exact ⟨rfl,_,Eq.trans (World.drewN_drewN _ _ _) (congrArg (World.drewN _) (Nat.add_assoc _ _ _))⟩);have p2:0≤((ji1):Int):=od_ ay;have q2:(ji1)<(l0.length:Int):=od_ ay;obtain ⟨ad2,e2,hx2_0⟩:=Kd.at_int HR0.out (ji1) p2 q2;obtain rfl:ad1=ad2:=fm;replace p2:=eq_true p2;replace q2:=eq_true q2;have p3:0≤(x7_1:Int):=od_ ay;have q3:x7_1<(l0.length:Int):=od_ ay;obtain ⟨ad3,e3,hx3_0⟩:=Kd.at_int HR0.out x7_1 p3 q3;obtain rfl:ad1=ad3:=(by injection e3);replace p3:=eq_true p3;replace q3:=eq_true q3));try go_wp2_with (first|(go_at_call 65;(with_reducible refine (bA.calls (rd l0 x7_1) a1 a2 true _ A2.out).mono ?_);rintro e w' ⟨rfl,⟨nd,rfl⟩⟩;(try first|exact ⟨rfl,_,World.drewN_drewN _ _ _⟩|exact ⟨rfl,_,Eq.trans (World.drewN_drewN _ _ _) (congrArg (World.drewN _) (Nat.add_assoc _ _ _))⟩);have p2:0≤((ji1):Int):=od_ ay;have q2:(ji1)<(l0.length:Int):=od_ ay;obtain ⟨ad2,e2,hx2_0⟩:=Kd.at_int HR0.out (ji1) p2 q2;obtain rfl:ad1=ad2:=fm;replace p2:=eq_true p2;replace q2:=eq_true q2;have p3:0≤(x7_1:Int):=od_ ay;have q3:x7_1<(l0.length:Int):=od_ ay;obtain ⟨ad3,e3,hx3_0⟩:=Kd.at_int HR0.out x7_1 p3 q3;obtain rfl:ad1=ad3:=(by injection e3);replace p3:=eq_true p3;replace q3:=eq_true q3)))
  go_ret
  exact ⟨jZ,ck⟩
 rw [if_neg c7] at H;have c7b0:decide ((rd l0 x7_1)≤(rd l0 (ji1)))=false:=decide_eq_false c7;clear c7;have H':=A0_ H;clear H;have p1:0≤(x7_1:Int):=od_ ay;have q1:x7_1<(l0.length:Int):=od_ ay;obtain ⟨ad1,e1,hx1_0⟩:=Kd.at_int HR0.out x7_1 p1 q1;cases e1;replace p1:=eq_true p1;replace q1:=eq_true q1
 go_wp2_with (first|(go_at_call 65;(with_reducible refine (bA.calls (rd l0 x7_1) a1 a2 true _ A2.out).mono ?_);rintro e w' ⟨rfl,⟨nd,rfl⟩⟩;(try first|exact ⟨rfl,_,World.drewN_drewN _ _ _⟩|exact ⟨rfl,_,Eq.trans (World.drewN_drewN _ _ _) (congrArg (World.drewN _) (Nat.add_assoc _ _ _))⟩);have p2:0≤((ji1):Int):=od_ ay;have q2:(ji1)<(l0.length:Int):=od_ ay;obtain ⟨ad2,e2,hx2_0⟩:=Kd.at_int HR0.out (ji1) p2 q2;obtain rfl:ad1=ad2:=fm;replace p2:=eq_true p2;replace q2:=eq_true q2;have p3:0≤(x7_1:Int):=od_ ay;have q3:x7_1<(l0.length:Int):=od_ ay;obtain ⟨ad3,e3,hx3_0⟩:=Kd.at_int HR0.out x7_1 p3 q3;obtain rfl:ad1=ad3:=(by injection e3);replace p3:=eq_true p3;replace q3:=eq_true q3))
 repeat (go_quiet (first|(go_at_call 65;(with_reducible refine (bA.calls (rd l0 x7_1) a1 a2 true _ A2.out).mono ?_);rintro e w' ⟨rfl,⟨nd,rfl⟩⟩;(try first|exact ⟨rfl,_,World.drewN_drewN _ _ _⟩|exact ⟨rfl,_,Eq.trans (World.drewN_drewN _ _ _) (congrArg (World.drewN _) (Nat.add_assoc _ _ _))⟩);have p2:0≤((ji1):Int):=od_ ay;have q2:(ji1)<(l0.length:Int):=od_ ay;obtain ⟨ad2,e2,hx2_0⟩:=Kd.at_int HR0.out (ji1) p2 q2;obtain rfl:ad1=ad2:=fm;replace p2:=eq_true p2;replace q2:=eq_true q2;have p3:0≤(x7_1:Int):=od_ ay;have q3:x7_1<(l0.length:Int):=od_ ay;obtain ⟨ad3,e3,hx3_0⟩:=Kd.at_int HR0.out x7_1 p3 q3;obtain rfl:ad1=ad3:=(by injection e3);replace p3:=eq_true p3;replace q3:=eq_true q3));try go_wp2_with (first|(go_at_call 65;(with_reducible refine (bA.calls (rd l0 x7_1) a1 a2 true _ A2.out).mono ?_);rintro e w' ⟨rfl,⟨nd,rfl⟩⟩;(try first|exact ⟨rfl,_,World.drewN_drewN _ _ _⟩|exact ⟨rfl,_,Eq.trans (World.drewN_drewN _ _ _) (congrArg (World.drewN _) (Nat.add_assoc _ _ _))⟩);have p2:0≤((ji1):Int):=od_ ay;have q2:(ji1)<(l0.length:Int):=od_ ay;obtain ⟨ad2,e2,hx2_0⟩:=Kd.at_int HR0.out (ji1) p2 q2;obtain rfl:ad1=ad2:=fm;replace p2:=eq_true p2;replace q2:=eq_true q2;have p3:0≤(x7_1:Int):=od_ ay;have q3:x7_1<(l0.length:Int):=od_ ay;obtain ⟨ad3,e3,hx3_0⟩:=Kd.at_int HR0.out x7_1 p3 q3;obtain rfl:ad1=ad3:=(by injection e3);replace p3:=eq_true p3;replace q3:=eq_true q3)))
 go_roundg k1
 case measure=>have:=HK1.out;omega
 exact ⟨(wrap64 (x7_1+1)),aX,H',⟨dj⟩,ck⟩

def bF.f (k:Nat) (a0_0:Int) (a0_1:Bool) (l0_2:List Int):Option (Bool):=(bA.f a0_0 2 24).bind fun t106=>(if t106=true then (if a0_1=true then (if a0_0 > 2 then ((aU.f k l0_2 0 (wrap64 (a0_0 - 1))).bind fun t107=>(some t107)) else (some false)) else ((aU.f k l0_2 0 (wrap64 (a0_0 - 1))).bind fun t108=>(some t108))) else (some false))
theorem bF.mono:∀ a0 a1 a2 k,LeO (bF.f k a0 a1 a2) (bF.f (k+1) a0 a1 a2):=by
 intro a0 a1 a2 k;unfold bF.f
 repeat' with_reducible first|exact aU.mono ..|exact LeO.refl ..|exact LeO.none ..|refine LeO.ite ?_ ?_|refine LeO.bind ?_ (fun _=>?_)
theorem bF.calls (k:Nat) (a0_0:Int) (a0_1:Bool) (A0_2:Option Addr) (c0_2:Nat) (l0_2:List Int) (r:Bool) (w:World) (hr0_2:Kd.C (Kd.int .i64) w A0_2 l0_2.length l0_2) (hc0_2:l0_2.length≤c0_2) (H:bF.f k a0_0 a0_1 l0_2=some r) :
  Calls Tryz.prog 64 #[.agg #[.int .i64 a0_0,.bool a0_1,.slice A0_2 l0_2.length c0_2]] w fun e w'=>e=.returned (.bool r)∧Below w.heap.size w w':=by
 have hu30:=Tryz.underlying30;have HR0_2:=A0_ hr0_2;have HC0_2:=A0_ hc0_2;clear hr0_2 hc0_2;have HB:=A0_ (Below.refl w.heap.size w);unfold bF.f at H;obtain ⟨t1,A2,H⟩:=o1_ H
 by_cases c1:t1=true
 case neg =>
  obtain rfl:=bf_.mpr c1;rw [if_neg ft_] at H;obtain rfl:=si_ H;go_enter Tryz.func64,Tryz.ntmps64
  go_wp2_with (first|((with_reducible refine gd_ (N:=1) rfl ?_);refine bx_ 1 #[.int .i64 a0_0,.bool a0_1,.slice A0_2 l0_2.length c0_2] 30 ?_;intro gb1 hg w1 BK1 hb;have GW1:=ge_ hg ai;have GE1:=GW1;replace HB:=hb_ hb ai;clear hb hg;have hcz1:=c3_ BK1)|((with_reducible refine gc_ (f:=65) rfl ?_);refine gl_ 5 Tryz.func65 #[.int .i64 a0_0,.int .i64 2,.int .i64 24] ?_;(with_reducible refine (bA.calls a0_0 2 24 false _ A2.out).mono ?_);rintro e w' ⟨rfl,⟨nd,rfl⟩⟩;refine ⟨_,rfl,?_⟩))
  go_ret
  exact ⟨aE,aj⟩
 subst c1;rw [if_pos rfl] at H
 by_cases c2:a0_1=true
 case neg =>
  obtain rfl:=bf_.mpr c2;rw [if_neg ft_] at H;obtain ⟨t3,A4,H⟩:=o1_ H;replace H:(some t3)=some r:=H;obtain rfl:=si_ H;go_enter Tryz.func64,Tryz.ntmps64
  go_wp2_with (first|((with_reducible refine gd_ (N:=1) rfl ?_);refine bx_ 1 #[.int .i64 a0_0,.bool false,.slice A0_2 l0_2.length c0_2] 30 ?_;intro gb1 hg w1 BK1 hb;have GW1:=ge_ hg ai;have GE1:=GW1;replace HB:=hb_ hb ai;clear hb hg;have hcz1:=c3_ BK1)|((with_reducible refine gc_ (f:=65) rfl ?_);refine gl_ 5 Tryz.func65 #[.int .i64 a0_0,.int .i64 2,.int .i64 24] ?_;(with_reducible refine (bA.calls a0_0 2 24 true _ A2.out).mono ?_);rintro e w' ⟨rfl,⟨nd,rfl⟩⟩;refine ⟨_,rfl,?_⟩)|(go_at_call 86;(with_reducible refine (aU.calls k _ _ l0_2 0 (wrap64 (a0_0 - 1)) t3 _ ?_ ?_ A4.out).mono ?_);exact kM;exact HC0_2.out;rintro e w' ⟨rfl,⟨nd,rfl⟩⟩))
  go_ret
  exact ⟨aE,aj⟩
 subst c2;rw [if_pos rfl] at H
 by_cases c3:a0_0 > 2
 case neg =>
  rw [if_neg c3] at H;have c3b0:decide (2<a0_0)=false:=decide_eq_false c3;clear c3;obtain rfl:=si_ H;go_enter Tryz.func64,Tryz.ntmps64
  go_wp2_with (first|((with_reducible refine gd_ (N:=1) rfl ?_);refine bx_ 1 #[.int .i64 a0_0,.bool true,.slice A0_2 l0_2.length c0_2] 30 ?_;intro gb1 hg w1 BK1 hb;have GW1:=ge_ hg ai;have GE1:=GW1;replace HB:=hb_ hb ai;clear hb hg;have hcz1:=c3_ BK1)|((with_reducible refine gc_ (f:=65) rfl ?_);refine gl_ 5 Tryz.func65 #[.int .i64 a0_0,.int .i64 2,.int .i64 24] ?_;(with_reducible refine (bA.calls a0_0 2 24 true _ A2.out).mono ?_);rintro e w' ⟨rfl,⟨nd,rfl⟩⟩;refine ⟨_,rfl,?_⟩))
  go_ret
  exact ⟨aE,aj⟩
 rw [if_pos c3] at H;have c3b0:decide (2<a0_0)=true:=dt_ c3;clear c3;obtain ⟨t2,A4,H⟩:=o1_ H;replace H:(some t2)=some r:=H;obtain rfl:=si_ H;go_enter Tryz.func64,Tryz.ntmps64
 go_wp2_with (first|((with_reducible refine gd_ (N:=1) rfl ?_);refine bx_ 1 #[.int .i64 a0_0,.bool true,.slice A0_2 l0_2.length c0_2] 30 ?_;intro gb1 hg w1 BK1 hb;have GW1:=ge_ hg ai;have GE1:=GW1;replace HB:=hb_ hb ai;clear hb hg;have hcz1:=c3_ BK1)|((with_reducible refine gc_ (f:=65) rfl ?_);refine gl_ 5 Tryz.func65 #[.int .i64 a0_0,.int .i64 2,.int .i64 24] ?_;(with_reducible refine (bA.calls a0_0 2 24 true _ A2.out).mono ?_);rintro e w' ⟨rfl,⟨nd,rfl⟩⟩;refine ⟨_,rfl,?_⟩)|(go_at_call 86;(with_reducible refine (aU.calls k _ _ l0_2 0 (wrap64 (a0_0 - 1)) t2 _ ?_ ?_ A4.out).mono ?_);exact kM;exact HC0_2.out;rintro e w' ⟨rfl,⟨nd,rfl⟩⟩))
 go_ret
 exact ⟨aE,aj⟩

def bk.l0:Nat→List Int→Int→Int→Option (Bool)
 | 0,_,_,_=>none
 | k+1,x0,x1,x5=>if x5<(x0.length:Int) then (if 0≤x5 then (if (rd x0 x5)=x1 then (some true) else (bk.l0 k x0 x1 (wrap64 (x5+1)))) else (none)) else (some false)
def bk.f (k:Nat) (l0:List Int) (a1:Int):Option (Bool):=bk.l0 k l0 a1 0
theorem bk.mono_l:∀ k,(∀ y0 y1 y2,LeO (bk.l0 k y0 y1 y2) (bk.l0 (k+1) y0 y1 y2))
 | 0=>fun _ _ _ r h=>by simp [bk.l0] at h
 | k+1=>by
  have ih0:=bk.mono_l k
  ·intro y0 y1 y2
   unfold bk.l0
   repeat' with_reducible first|exact ih0 ..|exact LeO.refl ..|exact LeO.none ..|refine LeO.ite ?_ ?_|refine LeO.bind ?_ (fun _=>?_)
theorem bk.mono:∀ a0 a1 k,LeO (bk.f k a0 a1) (bk.f (k+1) a0 a1):=by
 intro a0 a1 k;have ih0:=bk.mono_l k;unfold bk.f
 repeat' with_reducible first|exact ih0 ..|exact LeO.refl ..|exact LeO.none ..|refine LeO.ite ?_ ?_|refine LeO.bind ?_ (fun _=>?_)
theorem bk.calls (k:Nat) (A0:Option Addr) (c0:Nat) (l0:List Int) (a1:Int) (r:Bool) (w:World) (hr0:Kd.C (Kd.int .i64) w A0 l0.length l0) (hc0:l0.length≤c0) (H:bk.f k l0 a1=some r) :
  Calls Tryz.prog 66 #[.slice A0 l0.length c0,.int .i64 a1] w fun e w'=>e=.returned (.bool r)∧Drawn0 w w':=by
 have HR0:=A0_ hr0;have HC0:=A0_ hc0;clear hr0 hc0;unfold bk.f at H;have H':=A0_ H;clear H;go_enter Tryz.func66,Tryz.ntmps66
 go_wp2
 go_loopg [5] k (fun kq v1 w'=>∃ (x5_1:Int),v1=.int .i64 x5_1∧Aside0 (bk.l0 kq l0 a1 x5_1=some r)∧Aside0 (kq≤k)∧Drawn0 w w')
 case atStart=>exact ⟨(0),aX,H',⟨Nat.le_refl _⟩,ck⟩
 clear H';obtain ⟨x5_1,rfl,HA,HK1,⟨m1,rfl⟩⟩:=hrel
 cases gk with|zero=>exact absurd HA.out (by simp [bk.l0])|succ k1=>?_
 have H:=HA.out;clear HA;simp only [bk.l0] at H
 by_cases c1:x5_1<(l0.length:Int)
 case neg =>
  rw [if_neg c1] at H;have c1b0:decide (x5_1<(l0.length:Int))=false:=decide_eq_false c1;clear c1;obtain rfl:=si_ H
  go_wp2
  go_ret
  exact ⟨dv,ck⟩
 rw [if_pos c1] at H;have c1b0:decide (x5_1<(l0.length:Int))=true:=dt_ c1;clear c1;obtain ⟨c2b0,H⟩:=i1_ H
 by_cases c3:(rd l0 x5_1)=a1
 ·rw [if_pos c3] at H
  obtain ⟨c3b0,c3b1⟩:=et_ c3;clear c3;obtain rfl:=si_ H;have p1:0≤(x5_1:Int):=od_ ay;have q1:x5_1<(l0.length:Int):=od_ ay;obtain ⟨ad1,e1,hx1_0⟩:=Kd.at_int HR0.out x5_1 p1 q1;cases e1;replace p1:=eq_true p1;replace q1:=eq_true q1
  go_wp2
  go_ret
  exact ⟨dv,ck⟩
 rw [if_neg c3] at H;obtain ⟨c3b0,c3b1⟩:=ef_ c3;have H':=A0_ H;clear H;have p1:0≤(x5_1:Int):=od_ ay;have q1:x5_1<(l0.length:Int):=od_ ay;obtain ⟨ad1,e1,hx1_0⟩:=Kd.at_int HR0.out x5_1 p1 q1;cases e1;replace p1:=eq_true p1;replace q1:=eq_true q1
 go_wp2
 go_roundg k1
 case measure=>have:=HK1.out;omega
 exact ⟨(wrap64 (x5_1+1)),aX,H',⟨dj⟩,ck⟩

mutual
def ao.j0:Nat→Bool→Int→Bool→List Int→List Int→Int→Option (Bool)
 | 0,_,_,_,_,_,_=>none
 | k+1,x23,xa,xb,xc,xd,xe=>if x23=true then (some false) else (ao.l0 k 0 xa xb xc xd xe)
def ao.l0:Nat→Int→Int→Bool→List Int→List Int→Int→Option (Bool)
 | 0,_,_,_,_,_,_=>none
 | k+1,x3,xc,xd,xa,xb,xe=>if x3<(xa.length:Int) then (if 0≤x3 then ((bk.f k xb (rd xa x3)).bind fun t114=>(if t114=true then (ao.l0 k (wrap64 (x3+1)) xc xd xa xb xe) else (some false))) else (none)) else (some true)
end
def ao.f (k:Nat) (a0_0:Int) (a0_1:Bool) (l0_2:List Int) (l0_3:List Int) (a0_4:Int):Option (Bool):=(bF.f k a0_0 a0_1 l0_2).bind fun t111=>(if t111=true then (if (l0_3.length:Int)=(l0_2.length:Int) then ((bA.f a0_4 0 1000).bind fun t112=>(ao.j0 k (!t112) a0_0 a0_1 l0_2 l0_3 a0_4)) else (ao.j0 k true a0_0 a0_1 l0_2 l0_3 a0_4)) else (ao.j0 k true a0_0 a0_1 l0_2 l0_3 a0_4))
theorem ao.mono_l:∀ k,(∀ y0 y1 y2 y3 y4 y5,LeO (ao.j0 k y0 y1 y2 y3 y4 y5) (ao.j0 (k+1) y0 y1 y2 y3 y4 y5))∧(∀ y0 y1 y2 y3 y4 y5,LeO (ao.l0 k y0 y1 y2 y3 y4 y5) (ao.l0 (k+1) y0 y1 y2 y3 y4 y5))
 | 0=>⟨fun _ _ _ _ _ _ r h=>by simp [ao.j0] at h,fun _ _ _ _ _ _ r h=>by simp [ao.l0] at h⟩
 | k+1=>by
  obtain ⟨ih0,ih1⟩:=ao.mono_l k
  refine ⟨?_,?_⟩
  ·intro y0 y1 y2 y3 y4 y5
   unfold ao.j0
   repeat' with_reducible first|exact ih0 ..|exact ih1 ..|exact bk.mono ..|exact bF.mono ..|exact LeO.refl ..|exact LeO.none ..|refine LeO.ite ?_ ?_|refine LeO.bind ?_ (fun _=>?_)
  ·intro y0 y1 y2 y3 y4 y5
   unfold ao.l0
   repeat' with_reducible first|exact ih0 ..|exact ih1 ..|exact bk.mono ..|exact bF.mono ..|exact LeO.refl ..|exact LeO.none ..|refine LeO.ite ?_ ?_|refine LeO.bind ?_ (fun _=>?_)
theorem ao.mono:∀ a0 a1 a2 a3 a4 k,LeO (ao.f k a0 a1 a2 a3 a4) (ao.f (k+1) a0 a1 a2 a3 a4):=by
 intro a0 a1 a2 a3 a4 k;obtain ⟨ih0,ih1⟩:=ao.mono_l k;unfold ao.f
 repeat' with_reducible first|exact ih0 ..|exact ih1 ..|exact bk.mono ..|exact bF.mono ..|exact LeO.refl ..|exact LeO.none ..|refine LeO.ite ?_ ?_|refine LeO.bind ?_ (fun _=>?_)
theorem ao.calls (k:Nat) (a0_0:Int) (a0_1:Bool) (A0_2:Option Addr) (c0_2:Nat) (l0_2:List Int) (A0_3:Option Addr) (c0_3:Nat) (l0_3:List Int) (a0_4:Int) (r:Bool) (w:World) (hr0_2:Kd.C (Kd.int .i64) w A0_2 l0_2.length l0_2) (hc0_2:l0_2.length≤c0_2) (hr0_3:Kd.C (Kd.int .i64) w A0_3 l0_3.length l0_3) (hc0_3:l0_3.length≤c0_3) (H:ao.f k a0_0 a0_1 l0_2 l0_3 a0_4=some r) :
  Calls Tryz.prog 32 #[.agg #[.int .i64 a0_0,.bool a0_1,.slice A0_2 l0_2.length c0_2,.slice A0_3 l0_3.length c0_3,.int .i64 a0_4]] w fun e w'=>e=.returned (.bool r)∧Below w.heap.size w w':=by
 have hu32:=Tryz.underlying32;have hu30:=Tryz.underlying30;have HR0_2:=A0_ hr0_2;have HC0_2:=A0_ hc0_2;clear hr0_2 hc0_2;have HR0_3:=A0_ hr0_3;have HC0_3:=A0_ hc0_3;clear hr0_3 hc0_3;have HB:=A0_ (Below.refl w.heap.size w);unfold ao.f at H;have HC2:=A0_ H;clear H;go_enter Tryz.func32,Tryz.ntmps32
 go_upto_region 1 with (first|((with_reducible refine gd_ (N:=1) rfl ?_);(try (refine ed (by rfl) ?_;dsimp only));refine bx_ 1 #[.int .i64 a0_0,.bool a0_1,.slice A0_2 l0_2.length c0_2,.slice A0_3 l0_3.length c0_3,.int .i64 a0_4] 32 ?_;intro gb1 hg w1 BK1 hb;have GW1:=ge_ hg ai;have GE1:=GW1;replace HB:=hb_ hb ai;clear hb hg))
 repeat (go_quiet (first|((with_reducible refine gd_ (N:=1) rfl ?_);(try (refine ed (by rfl) ?_;dsimp only));refine bx_ 1 #[.int .i64 a0_0,.bool a0_1,.slice A0_2 l0_2.length c0_2,.slice A0_3 l0_3.length c0_3,.int .i64 a0_4] 32 ?_;intro gb1 hg w1 BK1 hb;have GW1:=ge_ hg ai;have GE1:=GW1;replace HB:=hb_ hb ai;clear hb hg));go_upto_region 1 with (first|((with_reducible refine gd_ (N:=1) rfl ?_);(try (refine ed (by rfl) ?_;dsimp only));refine bx_ 1 #[.int .i64 a0_0,.bool a0_1,.slice A0_2 l0_2.length c0_2,.slice A0_3 l0_3.length c0_3,.int .i64 a0_4] 32 ?_;intro gb1 hg w1 BK1 hb;have GW1:=ge_ hg ai;have GE1:=GW1;replace HB:=hb_ hb ai;clear hb hg)))
 (try simp only [Act.put,sa_,sz_,ss_])
 go_cut [23] (fun v1 wc=>∃ (kq:Nat) (x23_1:Bool),v1=.bool x23_1∧Aside0 (ao.j0 kq x23_1 a0_0 a0_1 l0_2 l0_3 a0_4=some r)∧Aside0 (kq≤k)∧Aside0 (wc.heap[gb1]?=some (.cells #[.int .i64 a0_0,.bool a0_1,(.slice A0_2 l0_2.length c0_2),(.slice A0_3 l0_3.length c0_3),.int .i64 a0_4] 32 (0,0)))∧Aside0 (Below w.heap.size w wc))
 case first =>
  have H:=HC2.out;clear HC2;obtain ⟨t1,A2,H⟩:=o1_ H
  by_cases c1:t1=true
  case neg =>
   obtain rfl:=bf_.mpr c1;rw [if_neg ft_] at H;have H':=A0_ H;clear H;have hcz1:=c5_ BK1
   go_wp2_with (first|(go_at_call 64;(with_reducible refine (bF.calls k a0_0 a0_1 _ _ l0_2 false _ ?_ ?_ A2.out).mono ?_);exact bz;exact HC0_2.out;rintro e w2 ⟨rfl,hb⟩;replace BK1:=k1_ BK1 hb;replace HB:=hb_ hb aj;(try clear hb)))
   repeat (go_quiet (first|(go_at_call 64;(with_reducible refine (bF.calls k a0_0 a0_1 _ _ l0_2 false _ ?_ ?_ A2.out).mono ?_);exact bz;exact HC0_2.out;rintro e w2 ⟨rfl,hb⟩;replace BK1:=k1_ BK1 hb;replace HB:=hb_ hb aj;(try clear hb)));try go_wp2_with (first|(go_at_call 64;(with_reducible refine (bF.calls k a0_0 a0_1 _ _ l0_2 false _ ?_ ?_ A2.out).mono ?_);exact bz;exact HC0_2.out;rintro e w2 ⟨rfl,hb⟩;replace BK1:=k1_ BK1 hb;replace HB:=hb_ hb aj;(try clear hb))))
   go_meet
   exact ⟨_,(true),aX,H',⟨fv⟩,⟨u1_ BK1⟩,⟨aj⟩⟩
  subst c1;rw [if_pos rfl] at H
  by_cases c2:(l0_3.length:Int)=(l0_2.length:Int)
  case neg =>
   rw [if_neg c2] at H;obtain ⟨c2b0,c2b1⟩:=ef_ c2;have c2b2:(l0_3.length == l0_2.length)=false:=jl
   (first|rw [c2b0]|(simp only [dD,dM];rw [c2b0])|skip)
   have H':=A0_ H;clear H;have hcz1:=c5_ BK1
   go_wp2_with (first|(go_at_call 64;(with_reducible refine (bF.calls k a0_0 a0_1 _ _ l0_2 true _ ?_ ?_ A2.out).mono ?_);exact bz;exact HC0_2.out;rintro e w2 ⟨rfl,hb⟩;replace BK1:=k1_ BK1 hb;replace HB:=hb_ hb aj;(try clear hb);have hcz2:=c5_ BK1))
   repeat (go_quiet (first|(go_at_call 64;(with_reducible refine (bF.calls k a0_0 a0_1 _ _ l0_2 true _ ?_ ?_ A2.out).mono ?_);exact bz;exact HC0_2.out;rintro e w2 ⟨rfl,hb⟩;replace BK1:=k1_ BK1 hb;replace HB:=hb_ hb aj;(try clear hb);have hcz2:=c5_ BK1));try go_wp2_with (first|(go_at_call 64;(with_reducible refine (bF.calls k a0_0 a0_1 _ _ l0_2 true _ ?_ ?_ A2.out).mono ?_);exact bz;exact HC0_2.out;rintro e w2 ⟨rfl,hb⟩;replace BK1:=k1_ BK1 hb;replace HB:=hb_ hb aj;(try clear hb);have hcz2:=c5_ BK1)))
   go_meet
   exact ⟨_,(true),aX,H',⟨fv⟩,⟨u1_ BK1⟩,⟨aj⟩⟩
  rw [if_pos c2] at H;obtain ⟨c2b0,c2b1⟩:=et_ c2;have c2b2:(l0_3.length == l0_2.length)=true:=jl;clear c2
  (first|rw [c2b0]|(simp only [dD,dM];rw [c2b0])|skip)
  obtain ⟨t2,A4,H⟩:=o1_ H;have H':=A0_ H;clear H;have hcz1:=c5_ BK1
  go_wp2_with (first|(go_at_call 64;(with_reducible refine (bF.calls k a0_0 a0_1 _ _ l0_2 true _ ?_ ?_ A2.out).mono ?_);exact bz;exact HC0_2.out;rintro e w2 ⟨rfl,hb⟩;replace BK1:=k1_ BK1 hb;replace HB:=hb_ hb aj;(try clear hb);have hcz2:=c5_ BK1)|(go_at_call 65;(with_reducible refine (bA.calls a0_4 0 1000 t2 _ A4.out).mono ?_);rintro e w' ⟨rfl,⟨nd,rfl⟩⟩;(try first|exact ⟨rfl,_,World.drewN_drewN _ _ _⟩|exact ⟨rfl,_,Eq.trans (World.drewN_drewN _ _ _) (congrArg (World.drewN _) (Nat.add_assoc _ _ _))⟩)))
  repeat (go_quiet (first|(go_at_call 64;(with_reducible refine (bF.calls k a0_0 a0_1 _ _ l0_2 true _ ?_ ?_ A2.out).mono ?_);exact bz;exact HC0_2.out;rintro e w2 ⟨rfl,hb⟩;replace BK1:=k1_ BK1 hb;replace HB:=hb_ hb aj;(try clear hb);have hcz2:=c5_ BK1)|(go_at_call 65;(with_reducible refine (bA.calls a0_4 0 1000 t2 _ A4.out).mono ?_);rintro e w' ⟨rfl,⟨nd,rfl⟩⟩;(try first|exact ⟨rfl,_,World.drewN_drewN _ _ _⟩|exact ⟨rfl,_,Eq.trans (World.drewN_drewN _ _ _) (congrArg (World.drewN _) (Nat.add_assoc _ _ _))⟩)));try go_wp2_with (first|(go_at_call 64;(with_reducible refine (bF.calls k a0_0 a0_1 _ _ l0_2 true _ ?_ ?_ A2.out).mono ?_);exact bz;exact HC0_2.out;rintro e w2 ⟨rfl,hb⟩;replace BK1:=k1_ BK1 hb;replace HB:=hb_ hb aj;(try clear hb);have hcz2:=c5_ BK1)|(go_at_call 65;(with_reducible refine (bA.calls a0_4 0 1000 t2 _ A4.out).mono ?_);rintro e w' ⟨rfl,⟨nd,rfl⟩⟩;(try first|exact ⟨rfl,_,World.drewN_drewN _ _ _⟩|exact ⟨rfl,_,Eq.trans (World.drewN_drewN _ _ _) (congrArg (World.drewN _) (Nat.add_assoc _ _ _))⟩))))
  go_meet
  exact ⟨_,(!t2),aX,H',⟨fv⟩,⟨u1_ BK1⟩,⟨aj⟩⟩
 clear HC2;obtain ⟨kq,x23_1,rfl,HA,HJ1,BK1,HB⟩:=hcut
 cases kq with|zero=>exact absurd HA.out (by simp [ao.j0])|succ kj1=>?_
 have H:=HA.out;clear HA;simp only [ao.j0] at H
 by_cases c1:x23_1=true
 ·subst c1
  rw [if_pos rfl] at H;obtain rfl:=si_ H
  go_wp2
  repeat (go_quiet (fail);try go_wp2)
  go_ret
  exact ⟨aE,aj⟩
 obtain rfl:=bf_.mpr c1;rw [if_neg ft_] at H;have H':=A0_ H;clear H
 go_wp2
 repeat (go_quiet (fail);try go_wp2)
 go_loopg [3] kj1 (fun kq v2 w'=>∃ (x3_2:Int),v2=.int .i64 x3_2∧Aside0 (ao.l0 kq x3_2 a0_0 a0_1 l0_2 l0_3 a0_4=some r)∧Aside0 (kq≤kj1)∧Aside0 (w'.heap[gb1]?=some (.cells #[.int .i64 a0_0,.bool a0_1,(.slice A0_2 l0_2.length c0_2),(.slice A0_3 l0_3.length c0_3),.int .i64 a0_4] 32 (0,0)))∧Aside0 (Below w.heap.size w w'))
 case atStart=>exact ⟨(0),aX,H',⟨Nat.le_refl _⟩,⟨u1_ BK1⟩,⟨aj⟩⟩
 clear H'
 try clear c1
 obtain ⟨x3_2,rfl,HA,HK1,BK1,HB⟩:=hrel
 cases gk with|zero=>exact absurd HA.out (by simp [ao.l0])|succ k2=>?_
 have H:=HA.out;clear HA;simp only [ao.l0] at H
 by_cases c2:x3_2<(l0_2.length:Int)
 case neg =>
  rw [if_neg c2] at H;have c2b0:decide (x3_2<(l0_2.length:Int))=false:=decide_eq_false c2;clear c2;obtain rfl:=si_ H;have hcz1:=c5_ BK1
  go_wp2
  repeat (go_quiet (fail);try go_wp2)
  go_ret
  exact ⟨aE,aj⟩
 rw [if_pos c2] at H;have c2b0:decide (x3_2<(l0_2.length:Int))=true:=dt_ c2;clear c2;obtain ⟨c3b0,H⟩:=i1_ H;obtain ⟨t3,A2,H⟩:=o1_ H
 by_cases c4:t3=true
 case neg =>
  obtain rfl:=bf_.mpr c4;rw [if_neg ft_] at H;obtain rfl:=si_ H;have hcz1:=c5_ BK1;have p1:0≤(x3_2:Int):=od_ ay;have q1:x3_2<(l0_2.length:Int):=od_ ay;obtain ⟨ad1,e1,hx1_0⟩:=Kd.at_int HR0_2.out x3_2 p1 q1;cases e1;replace hx1_0:=(HB.out.cell (World.block_lt_of_cell? w _ hx1_0)).trans hx1_0;replace p1:=eq_true p1;replace q1:=eq_true q1
  go_wp2_with (first|(go_at_call 66;(with_reducible refine (bk.calls k2 _ _ l0_3 (rd l0_2 x3_2) false _ ?_ ?_ A2.out).mono ?_);exact b6;exact HC0_3.out;rintro e w' ⟨rfl,⟨nd,rfl⟩⟩;(try first|exact ⟨rfl,_,World.drewN_drewN _ _ _⟩|exact ⟨rfl,_,Eq.trans (World.drewN_drewN _ _ _) (congrArg (World.drewN _) (Nat.add_assoc _ _ _))⟩)))
  repeat (go_quiet (first|(go_at_call 66;(with_reducible refine (bk.calls k2 _ _ l0_3 (rd l0_2 x3_2) false _ ?_ ?_ A2.out).mono ?_);exact b6;exact HC0_3.out;rintro e w' ⟨rfl,⟨nd,rfl⟩⟩;(try first|exact ⟨rfl,_,World.drewN_drewN _ _ _⟩|exact ⟨rfl,_,Eq.trans (World.drewN_drewN _ _ _) (congrArg (World.drewN _) (Nat.add_assoc _ _ _))⟩)));try go_wp2_with (first|(go_at_call 66;(with_reducible refine (bk.calls k2 _ _ l0_3 (rd l0_2 x3_2) false _ ?_ ?_ A2.out).mono ?_);exact b6;exact HC0_3.out;rintro e w' ⟨rfl,⟨nd,rfl⟩⟩;(try first|exact ⟨rfl,_,World.drewN_drewN _ _ _⟩|exact ⟨rfl,_,Eq.trans (World.drewN_drewN _ _ _) (congrArg (World.drewN _) (Nat.add_assoc _ _ _))⟩))))
  go_ret
  exact ⟨aE,aj⟩
 subst c4;rw [if_pos rfl] at H;have H':=A0_ H;clear H;have hcz1:=c5_ BK1;have p1:0≤(x3_2:Int):=od_ ay;have q1:x3_2<(l0_2.length:Int):=od_ ay;obtain ⟨ad1,e1,hx1_0⟩:=Kd.at_int HR0_2.out x3_2 p1 q1;cases e1;replace hx1_0:=(HB.out.cell (World.block_lt_of_cell? w _ hx1_0)).trans hx1_0;replace p1:=eq_true p1;replace q1:=eq_true q1
 go_wp2_with (first|(go_at_call 66;(with_reducible refine (bk.calls k2 _ _ l0_3 (rd l0_2 x3_2) true _ ?_ ?_ A2.out).mono ?_);exact b6;exact HC0_3.out;rintro e w' ⟨rfl,⟨nd,rfl⟩⟩;(try first|exact ⟨rfl,_,World.drewN_drewN _ _ _⟩|exact ⟨rfl,_,Eq.trans (World.drewN_drewN _ _ _) (congrArg (World.drewN _) (Nat.add_assoc _ _ _))⟩)))
 repeat (go_quiet (first|(go_at_call 66;(with_reducible refine (bk.calls k2 _ _ l0_3 (rd l0_2 x3_2) true _ ?_ ?_ A2.out).mono ?_);exact b6;exact HC0_3.out;rintro e w' ⟨rfl,⟨nd,rfl⟩⟩;(try first|exact ⟨rfl,_,World.drewN_drewN _ _ _⟩|exact ⟨rfl,_,Eq.trans (World.drewN_drewN _ _ _) (congrArg (World.drewN _) (Nat.add_assoc _ _ _))⟩)));try go_wp2_with (first|(go_at_call 66;(with_reducible refine (bk.calls k2 _ _ l0_3 (rd l0_2 x3_2) true _ ?_ ?_ A2.out).mono ?_);exact b6;exact HC0_3.out;rintro e w' ⟨rfl,⟨nd,rfl⟩⟩;(try first|exact ⟨rfl,_,World.drewN_drewN _ _ _⟩|exact ⟨rfl,_,Eq.trans (World.drewN_drewN _ _ _) (congrArg (World.drewN _) (Nat.add_assoc _ _ _))⟩))))
 go_roundg k2
 case measure=>have:=HJ1.out;have:=HK1.out;omega
 exact ⟨(wrap64 (x3_2+1)),aX,H',⟨by have:=HJ1.out;have:=HK1.out;omega⟩,⟨u1_ BK1⟩,⟨aj⟩⟩

def cI.f (l0:List Int):Option (List Int):=(some (([]:List Int):List Int)).bind fun y115=>(if y115.length+l0.length<17592186044416 then (some (y115++l0)) else (none))
theorem cI.calls (A0:Option Addr) (c0:Nat) (l0:List Int) (r:List Int) (w:World) (hr0:Kd.C (Kd.int .i64) w A0 l0.length l0) (hc0:l0.length≤c0) (H:cI.f l0=some r) :
  Calls Tryz.prog 67 #[.slice A0 l0.length c0] w fun e w'=>∃ v0_:Value,e=.returned (v0_)∧Kd.R (Kd.int .i64) 3 w' w.heap.size (fun _=>True) v0_ r∧Below w.heap.size w w':=by
 have HR0:=A0_ hr0;have HC0:=A0_ hc0;clear hr0 hc0;have HB:=A0_ (Below.refl w.heap.size w);unfold cI.f at H;obtain ⟨y1,hy1⟩:∃ y_:List Int,y_=(([]:List Int)):=⟨_,rfl⟩;replace H:(if y1.length+l0.length<17592186044416 then (some (y1++l0)) else (none))=some r:=dx;have Ny1:=A0_ hy1;clear hy1;obtain ⟨c1,H⟩:=is_ H;have LMc1:=A0_ c1;clear c1;obtain ⟨y2,hy2⟩:∃ y_:List Int,y_=(y1++l0):=⟨_,rfl⟩;replace H:(some y2)=some r:=dH;have Ny2:=A0_ hy2;clear hy2;obtain rfl:=si_ H;go_enter Tryz.func67,Tryz.ntmps67
 go_wp2_with (first|((with_reducible refine gd_ (N:=3) rfl ?_);refine Kd.R_lit (Kd.int .i64) _ 3 ?hg (N:=3) ?hd (xs:=([]:List Int)) (inner:=[]) (ok:=fun _=>True) (okp:=fun _=>True) ?hr ?hp (fun _ hk=>hk) trivial (Below.refl _ _) (Nat.le_refl _) bB ?_;(case hd=>rfl);(case hg=>rfl);(case hr=>go_simp;first|done|rfl);(case hp=>exact (aN.none _ _));intro v1 w1 ho4 hb hg_ hnew_;clear hg_ hnew_;(first|rw [← Ny1.out] at ho4|(simp only [Int.reduceToNat] at ho4;rw [← Ny1.out] at ho4));have HO1:=A0_ (Kd.R_lower ho4 (bz_ ai));replace HB:=hb_ hb ai;clear hb ho4)|((with_reducible refine bX (b:=.append) (xs:=#[.tmp 3,.tmp 4]) rfl ?_);at_builtin;refine Kd.R_append_rows (Kd.int .i64) (w0:=w) w.heap.size rfl (.tmp 3) (.tmp 4) 22 3 (.int .i64 0) 8 rfl Tryz.underlying22 cW rfl ag bm v1 y1 l0 _ _ _ (fun _=>True) (fun _=>False) rfl rfl ?aO ?aR (fun _ _ h=>h) (fun _ h=>h.elim) ?aF ?aB ?aS ?aL ?_;(case aR=>exact oc);(case aB=>exact ai);(case aF=>exact (fun _ _=>trivial));(case aO=>exact bx);(case aS=>exact (bz_ ai));(case aL=>have:=LMc1.out;omega);intro v2 w2 ho hb hg hat;rw [← Ny2.out] at ho;have n0_:=A0_ (hb);have n1_:=A0_ (ho);clear HB HO1;have HB:=n0_;have HO2:=n1_;clear n0_ n1_ ho hb hg hat))
 go_ret
 exact ⟨_,aE,cd,ai⟩

def bh.f (a0_0:Int) (a0_1:Bool) (l0_2:List Int) (l0_3:List Int) (a0_4:Int):Option (Int × Bool × List Int × List Int × Int):=(cI.f l0_2).bind fun t124=>((cI.f l0_3).bind fun t127=>(some (a0_0,a0_1,t124,t127,a0_4)))
theorem bh.calls (a0_0:Int) (a0_1:Bool) (A0_2:Option Addr) (c0_2:Nat) (l0_2:List Int) (A0_3:Option Addr) (c0_3:Nat) (l0_3:List Int) (a0_4:Int) (r1:Int) (r2:Bool) (r3:List Int) (r4:List Int) (r5:Int) (w:World) (hr0_2:Kd.C (Kd.int .i64) w A0_2 l0_2.length l0_2) (hc0_2:l0_2.length≤c0_2) (hr0_3:Kd.C (Kd.int .i64) w A0_3 l0_3.length l0_3) (hc0_3:l0_3.length≤c0_3) (H:bh.f a0_0 a0_1 l0_2 l0_3 a0_4=some (r1,r2,r3,r4,r5)) :
  Calls Tryz.prog 33 #[.agg #[.int .i64 a0_0,.bool a0_1,.slice A0_2 l0_2.length c0_2,.slice A0_3 l0_3.length c0_3,.int .i64 a0_4]] w fun e w'=>∃ v2_ v3_:Value,e=.returned (.agg #[.int .i64 r1,.bool r2,v2_,v3_,.int .i64 r5])∧Kd.R (Kd.int .i64) 3 w' w.heap.size (fun k_=>no_ v3_ k_) v2_ r3∧Kd.R (Kd.int .i64) 3 w' w.heap.size (fun k_=>no_ v2_ k_) v3_ r4∧Below w.heap.size w w':=by
 have hu32:=Tryz.underlying32;have HR0_2:=A0_ hr0_2;have HC0_2:=A0_ hc0_2;clear hr0_2 hc0_2;have HR0_3:=A0_ hr0_3;have HC0_3:=A0_ hc0_3;clear hr0_3 hc0_3;have HB:=A0_ (Below.refl w.heap.size w);unfold bh.f at H;obtain ⟨t1,A2,H⟩:=o1_ H;obtain ⟨t2,A4,H⟩:=o1_ H;replace H:(some (a0_0,a0_1,t1,t2,a0_4))=some (r1,r2,r3,r4,r5):=H;simp only [sj_,pj_] at H;obtain ⟨rfl,rfl,rfl,rfl,rfl⟩:=H;go_enter Tryz.func33,Tryz.ntmps33
 go_wp2_with (first|((with_reducible refine gd_ (N:=1) rfl ?_);refine bx_ 1 #[.int .i64 a0_0,.bool a0_1,.slice A0_2 l0_2.length c0_2,.slice A0_3 l0_3.length c0_3,.int .i64 a0_4] 32 ?_;intro gb1 hg w1 BK1 hb;have GW1:=ge_ hg ai;have GE1:=GW1;replace HB:=hb_ hb ai;clear hb hg)|((with_reducible refine gd_ (N:=2) rfl ?_);refine bx_ 2 #[.int .i64 0,.bool false,.slice none 0 0,.slice none 0 0,.int .i64 0] 32 ?_;intro gb2 hg w2 BK2 hb;have GW2:=ge_ hg aj;have GE2:=GW2;replace HB:=hb_ hb aj;obtain ⟨NB1_2,NB2_1⟩:=nn_ hg BK1;replace BK1:=k1_ BK1 hb;clear hb hg;obtain ⟨hnb1,hnc1⟩:=n2_ NB1_2;have hcz1:=z5_ BK1)|((with_reducible refine gd_ (N:=3) rfl ?_);refine bx_ 3 #[.int .i64 0,.bool false,.slice none 0 0,.slice none 0 0,.int .i64 0] 32 ?_;intro gb3 hg w3 BK3 hb;have GW3:=ge_ hg au;have GE3:=GW3;replace HB:=hb_ hb au;obtain ⟨NB1_3,NB3_1⟩:=nn_ hg BK1;replace BK1:=k1_ BK1 hb;obtain ⟨NB2_3,NB3_2⟩:=nn_ hg BK2;replace BK2:=k1_ BK2 hb;clear hb hg;obtain ⟨hnb2,hnc2⟩:=n2_ NB3_1;obtain ⟨hnb3,hnc3⟩:=n2_ NB3_2;have hcz2:=z5_ BK3;have hcz3:=z5_ BK1)|((with_reducible refine gc_ (f:=67) rfl ?_);refine gl_ 8 Tryz.func67 #[.slice A0_2 l0_2.length c0_2] ?_;(with_reducible refine (cI.calls _ _ l0_2 t1 _ ?_ ?_ A2.out).mono ?_);exact cb_ HR0_2.out aD;exact HC0_2.out;rintro e w4 ⟨v1,rfl,ho0,hb⟩;refine ⟨_,rfl,?_⟩;have HO1:=A0_ (Kd.R_lower ho0 (bz_ aD));replace BK1:=k1_ BK1 hb;replace BK2:=k1_ BK2 hb;replace BK3:=k2_ (.cells #[.int .i64 a0_0,.bool a0_1,.slice A0_2 l0_2.length c0_2,.slice A0_3 l0_3.length c0_3,.int .i64 a0_4] 32 (0,0)) BK3 hb;replace HB:=hb_ hb aD;(try clear hb ho0);obtain ⟨Ao1,co1,eo1⟩:=Kd.R_slice HO1.out;subst eo1;have hcz4:=z5_ BK3;have hcz5:=z5_ BK1)|((with_reducible refine gc_ (f:=67) rfl ?_);refine gl_ 13 Tryz.func67 #[.slice A0_3 l0_3.length c0_3] ?_;(with_reducible refine (cI.calls _ _ l0_3 t2 _ ?_ ?_ A4.out).mono ?_);exact cb_ HR0_3.out aD;exact HC0_3.out;rintro e w5 ⟨v4,rfl,ho0,hb⟩;refine ⟨_,rfl,?_⟩;have HO2:=A0_ (Kd.R_lower (Kd.R_new' ho0 (Kd.R_lt dL)) (bz_ aD));replace HO1:=A0_ (Kd.R_elder' dL (Kd.R_base ho0) hb);replace BK1:=k1_ BK1 hb;replace BK2:=k1_ BK2 hb;replace BK3:=k2_ (.cells #[.int .i64 a0_0,.bool a0_1,.slice Ao1 t1.length co1,.slice A0_3 l0_3.length c0_3,.int .i64 a0_4] 32 (0,0)) BK3 hb;replace HB:=hb_ hb aD;(try clear hb ho0);obtain ⟨Ao2,co2,eo2⟩:=Kd.R_slice HO2.out;subst eo2;have hcz6:=z5_ BK3;have hcz7:=z5_ BK2))
 refine bodyPost_ret (results_cell_row rfl _ _ gb2 32 #[.int .i64 a0_0,.bool a0_1,.slice Ao1 t1.length co1,.slice Ao2 t2.length co2,.int .i64 a0_4] (0,0) _ rfl (u1_ BK2) Tryz.underlying32 rfl aY) rfl ?_
 exact ⟨_,_,aE,by (with_reducible repeat (first|apply ra_|apply rn_|apply rd_));exact Kd.R_mono (bw (rf_ (Kd.R_types (Kd.R_types HO1.out BK3.out ag) BK2.out ag) (fun _ hk=>hk.1.2) (.slice Ao2 t2.length co2))) (fun _ hk=>hk.1.1.2),by (with_reducible repeat (first|apply ra_|apply rn_|apply rd_));exact Kd.R_mono (bw (rf_ (Kd.R_types (Kd.R_types HO2.out BK3.out ag) BK2.out ag) (fun _ hk=>hk.1.2) (.slice Ao2 t2.length co2))) (fun _ hk=>hk.1.1.2),aD⟩

def cv.f (k:Nat) (a0_0:Int) (a0_1:Bool) (l0_2:List Int) (a1:Int):Option (Bool):=(bk.f k l0_2 a1).bind fun t131=>(some t131)
theorem cv.mono:∀ a0 a1 a2 a3 k,LeO (cv.f k a0 a1 a2 a3) (cv.f (k+1) a0 a1 a2 a3):=by
 intro a0 a1 a2 a3 k;unfold cv.f
 repeat' with_reducible first|exact bk.mono ..|exact LeO.refl ..|exact LeO.none ..|refine LeO.ite ?_ ?_|refine LeO.bind ?_ (fun _=>?_)
theorem cv.calls (k:Nat) (a0_0:Int) (a0_1:Bool) (A0_2:Option Addr) (c0_2:Nat) (l0_2:List Int) (a1:Int) (r:Bool) (w:World) (hr0_2:Kd.C (Kd.int .i64) w A0_2 l0_2.length l0_2) (hc0_2:l0_2.length≤c0_2) (H:cv.f k a0_0 a0_1 l0_2 a1=some r) :
  Calls Tryz.prog 103 #[.agg #[.int .i64 a0_0,.bool a0_1,.slice A0_2 l0_2.length c0_2],.int .i64 a1] w fun e w'=>e=.returned (.bool r)∧Below w.heap.size w w':=by
 have hu30:=Tryz.underlying30;have HR0_2:=A0_ hr0_2;have HC0_2:=A0_ hc0_2;clear hr0_2 hc0_2;have HB:=A0_ (Below.refl w.heap.size w);unfold cv.f at H;obtain ⟨t1,A2,H⟩:=o1_ H;replace H:(some t1)=some r:=H;obtain rfl:=si_ H;go_enter Tryz.func103,Tryz.ntmps103
 go_wp2_with (first|((with_reducible refine gd_ (N:=2) rfl ?_);refine bx_ 2 #[.int .i64 a0_0,.bool a0_1,.slice A0_2 l0_2.length c0_2] 30 ?_;intro gb1 hg w1 BK1 hb;have GW1:=ge_ hg ai;have GE1:=GW1;replace HB:=hb_ hb ai;clear hb hg;have hcz1:=c3_ BK1)|((with_reducible refine gc_ (f:=66) rfl ?_);refine gl_ 8 Tryz.func66 #[.slice A0_2 l0_2.length c0_2,.int .i64 a1] ?_;(with_reducible refine (bk.calls k _ _ l0_2 a1 t1 _ ?_ ?_ A2.out).mono ?_);exact bz;exact HC0_2.out;rintro e w' ⟨rfl,⟨nd,rfl⟩⟩;refine ⟨_,rfl,?_⟩))
 go_ret
 exact ⟨aE,aj⟩

def bY.f (k:Nat) (a0_0:Int) (a0_1:Bool) (l0_2:List Int) (l0_3:List Int) (a0_4:Int) (a1:Int):Option (Bool):=(bA.f a1 0 (wrap64 (a0_0 - 1))).bind fun t133=>(if t133=true then ((cv.f k a0_0 a0_1 l0_2 a1).bind fun t134=>(some (!t134))) else (some false))
theorem bY.mono:∀ a0 a1 a2 a3 a4 a5 k,LeO (bY.f k a0 a1 a2 a3 a4 a5) (bY.f (k+1) a0 a1 a2 a3 a4 a5):=by
 intro a0 a1 a2 a3 a4 a5 k;unfold bY.f
 repeat' with_reducible first|exact cv.mono ..|exact LeO.refl ..|exact LeO.none ..|refine LeO.ite ?_ ?_|refine LeO.bind ?_ (fun _=>?_)
theorem bY.calls (k:Nat) (a0_0:Int) (a0_1:Bool) (A0_2:Option Addr) (c0_2:Nat) (l0_2:List Int) (A0_3:Option Addr) (c0_3:Nat) (l0_3:List Int) (a0_4:Int) (a1:Int) (r:Bool) (w:World) (hr0_2:Kd.C (Kd.int .i64) w A0_2 l0_2.length l0_2) (hc0_2:l0_2.length≤c0_2) (hr0_3:Kd.C (Kd.int .i64) w A0_3 l0_3.length l0_3) (hc0_3:l0_3.length≤c0_3) (H:bY.f k a0_0 a0_1 l0_2 l0_3 a0_4 a1=some r) :
  Calls Tryz.prog 87 #[.agg #[.int .i64 a0_0,.bool a0_1,.slice A0_2 l0_2.length c0_2,.slice A0_3 l0_3.length c0_3,.int .i64 a0_4],.int .i64 a1] w fun e w'=>e=.returned (.bool r)∧Below w.heap.size w w':=by
 have hu32:=Tryz.underlying32;have hu30:=Tryz.underlying30;have HR0_2:=A0_ hr0_2;have HC0_2:=A0_ hc0_2;clear hr0_2 hc0_2;have HR0_3:=A0_ hr0_3;have HC0_3:=A0_ hc0_3;clear hr0_3 hc0_3;have HB:=A0_ (Below.refl w.heap.size w);unfold bY.f at H;obtain ⟨t1,A2,H⟩:=o1_ H
 by_cases c1:t1=true
 case neg =>
  obtain rfl:=bf_.mpr c1;rw [if_neg ft_] at H;obtain rfl:=si_ H;go_enter Tryz.func87,Tryz.ntmps87
  go_wp2_with (first|((with_reducible refine gd_ (N:=2) rfl ?_);refine bx_ 2 #[.int .i64 a0_0,.bool a0_1,.slice A0_2 l0_2.length c0_2,.slice A0_3 l0_3.length c0_3,.int .i64 a0_4] 32 ?_;intro gb1 hg w1 BK1 hb;have GW1:=ge_ hg ai;have GE1:=GW1;replace HB:=hb_ hb ai;clear hb hg;have hcz1:=c5_ BK1)|((with_reducible refine gc_ (f:=65) rfl ?_);refine gl_ 10 Tryz.func65 #[.int .i64 a1,.int .i64 0,.int .i64 (wrap64 (a0_0 - 1))] ?_;(with_reducible refine (bA.calls a1 0 (wrap64 (a0_0 - 1)) false _ A2.out).mono ?_);rintro e w' ⟨rfl,⟨nd,rfl⟩⟩;refine ⟨_,rfl,?_⟩))
  go_ret
  exact ⟨aE,aj⟩
 subst c1;rw [if_pos rfl] at H;obtain ⟨t2,A4,H⟩:=o1_ H;replace H:(some (!t2))=some r:=H;obtain rfl:=si_ H;go_enter Tryz.func87,Tryz.ntmps87
 go_wp2_with (first|((with_reducible refine gd_ (N:=2) rfl ?_);refine bx_ 2 #[.int .i64 a0_0,.bool a0_1,.slice A0_2 l0_2.length c0_2,.slice A0_3 l0_3.length c0_3,.int .i64 a0_4] 32 ?_;intro gb1 hg w1 BK1 hb;have GW1:=ge_ hg ai;have GE1:=GW1;replace HB:=hb_ hb ai;clear hb hg;have hcz1:=c5_ BK1)|((with_reducible refine gc_ (f:=65) rfl ?_);refine gl_ 10 Tryz.func65 #[.int .i64 a1,.int .i64 0,.int .i64 (wrap64 (a0_0 - 1))] ?_;(with_reducible refine (bA.calls a1 0 (wrap64 (a0_0 - 1)) true _ A2.out).mono ?_);rintro e w' ⟨rfl,⟨nd,rfl⟩⟩;refine ⟨_,rfl,?_⟩)|(go_at_call 103;(with_reducible refine (cv.calls k a0_0 a0_1 _ _ l0_2 a1 t2 _ ?_ ?_ A4.out).mono ?_);exact kM;exact HC0_2.out;rintro e w2 ⟨rfl,hb⟩;replace BK1:=k1_ BK1 hb;replace HB:=hb_ hb aj;(try clear hb)))
 go_ret
 exact ⟨aE,aj⟩

def bU.f (k:Nat) (a0_0:Int) (a0_1:Bool) (l0_2:List Int) (l0_3:List Int) (a0_4:Int) (a1:Int):Option (Bool):=(bA.f a1 0 (wrap64 (a0_0 - 1))).bind fun t136=>(if t136=true then ((cv.f k a0_0 a0_1 l0_2 a1).bind fun t137=>(some t137)) else (some false))
theorem bU.mono:∀ a0 a1 a2 a3 a4 a5 k,LeO (bU.f k a0 a1 a2 a3 a4 a5) (bU.f (k+1) a0 a1 a2 a3 a4 a5):=by
 intro a0 a1 a2 a3 a4 a5 k;unfold bU.f
 repeat' with_reducible first|exact cv.mono ..|exact LeO.refl ..|exact LeO.none ..|refine LeO.ite ?_ ?_|refine LeO.bind ?_ (fun _=>?_)
theorem bU.calls (k:Nat) (a0_0:Int) (a0_1:Bool) (A0_2:Option Addr) (c0_2:Nat) (l0_2:List Int) (A0_3:Option Addr) (c0_3:Nat) (l0_3:List Int) (a0_4:Int) (a1:Int) (r:Bool) (w:World) (hr0_2:Kd.C (Kd.int .i64) w A0_2 l0_2.length l0_2) (hc0_2:l0_2.length≤c0_2) (hr0_3:Kd.C (Kd.int .i64) w A0_3 l0_3.length l0_3) (hc0_3:l0_3.length≤c0_3) (H:bU.f k a0_0 a0_1 l0_2 l0_3 a0_4 a1=some r) :
  Calls Tryz.prog 88 #[.agg #[.int .i64 a0_0,.bool a0_1,.slice A0_2 l0_2.length c0_2,.slice A0_3 l0_3.length c0_3,.int .i64 a0_4],.int .i64 a1] w fun e w'=>e=.returned (.bool r)∧Below w.heap.size w w':=by
 have hu32:=Tryz.underlying32;have hu30:=Tryz.underlying30;have HR0_2:=A0_ hr0_2;have HC0_2:=A0_ hc0_2;clear hr0_2 hc0_2;have HR0_3:=A0_ hr0_3;have HC0_3:=A0_ hc0_3;clear hr0_3 hc0_3;have HB:=A0_ (Below.refl w.heap.size w);unfold bU.f at H;obtain ⟨t1,A2,H⟩:=o1_ H
 by_cases c1:t1=true
 case neg =>
  obtain rfl:=bf_.mpr c1;rw [if_neg ft_] at H;obtain rfl:=si_ H;go_enter Tryz.func88,Tryz.ntmps88
  go_wp2_with (first|((with_reducible refine gd_ (N:=2) rfl ?_);refine bx_ 2 #[.int .i64 a0_0,.bool a0_1,.slice A0_2 l0_2.length c0_2,.slice A0_3 l0_3.length c0_3,.int .i64 a0_4] 32 ?_;intro gb1 hg w1 BK1 hb;have GW1:=ge_ hg ai;have GE1:=GW1;replace HB:=hb_ hb ai;clear hb hg;have hcz1:=c5_ BK1)|((with_reducible refine gc_ (f:=65) rfl ?_);refine gl_ 10 Tryz.func65 #[.int .i64 a1,.int .i64 0,.int .i64 (wrap64 (a0_0 - 1))] ?_;(with_reducible refine (bA.calls a1 0 (wrap64 (a0_0 - 1)) false _ A2.out).mono ?_);rintro e w' ⟨rfl,⟨nd,rfl⟩⟩;refine ⟨_,rfl,?_⟩))
  go_ret
  exact ⟨aE,aj⟩
 subst c1;rw [if_pos rfl] at H;obtain ⟨t2,A4,H⟩:=o1_ H;replace H:(some t2)=some r:=H;obtain rfl:=si_ H;go_enter Tryz.func88,Tryz.ntmps88
 go_wp2_with (first|((with_reducible refine gd_ (N:=2) rfl ?_);refine bx_ 2 #[.int .i64 a0_0,.bool a0_1,.slice A0_2 l0_2.length c0_2,.slice A0_3 l0_3.length c0_3,.int .i64 a0_4] 32 ?_;intro gb1 hg w1 BK1 hb;have GW1:=ge_ hg ai;have GE1:=GW1;replace HB:=hb_ hb ai;clear hb hg;have hcz1:=c5_ BK1)|((with_reducible refine gc_ (f:=65) rfl ?_);refine gl_ 10 Tryz.func65 #[.int .i64 a1,.int .i64 0,.int .i64 (wrap64 (a0_0 - 1))] ?_;(with_reducible refine (bA.calls a1 0 (wrap64 (a0_0 - 1)) true _ A2.out).mono ?_);rintro e w' ⟨rfl,⟨nd,rfl⟩⟩;refine ⟨_,rfl,?_⟩)|(go_at_call 103;(with_reducible refine (cv.calls k a0_0 a0_1 _ _ l0_2 a1 t2 _ ?_ ?_ A4.out).mono ?_);exact kM;exact HC0_2.out;rintro e w2 ⟨rfl,hb⟩;replace BK1:=k1_ BK1 hb;replace HB:=hb_ hb aj;(try clear hb)))
 go_ret
 exact ⟨aE,aj⟩

def aQ.f (k:Nat) (a0_0:Int) (a0_1:Bool) (l0_2:List Int) (l0_3:List Int) (a0_4:Int) (a1_0:Int) (a1_1:Int) (a1_2:Int):Option (Bool):=if a1_0=1 then (if (l0_3.length:Int)<a0_0 then (if a1_1=0 then (some (a1_2 == 0)) else (some false)) else (some false)) else (if a1_0=2 then ((bY.f k a0_0 a0_1 l0_2 l0_3 a0_4 a1_1).bind fun t140=>(if t140=true then (some (a1_2 == 0)) else (some false))) else (if a1_0=3 then ((bU.f k a0_0 a0_1 l0_2 l0_3 a0_4 a1_1).bind fun t141=>(if t141=true then (some (a1_2 == 0)) else (some false))) else (if a1_0=4 then ((bU.f k a0_0 a0_1 l0_2 l0_3 a0_4 a1_1).bind fun t142=>(if t142=true then ((bY.f k a0_0 a0_1 l0_2 l0_3 a0_4 a1_2).bind fun t143=>(some t143)) else (some false))) else (if a1_0=5 then (if a1_1=0 then (some (a1_2 == 0)) else (some false)) else (some false)))))
theorem aQ.mono:∀ a0 a1 a2 a3 a4 a5 a6 a7 k,LeO (aQ.f k a0 a1 a2 a3 a4 a5 a6 a7) (aQ.f (k+1) a0 a1 a2 a3 a4 a5 a6 a7):=by
 intro a0 a1 a2 a3 a4 a5 a6 a7 k;unfold aQ.f
 repeat' with_reducible first|exact bY.mono ..|exact bU.mono ..|exact LeO.refl ..|exact LeO.none ..|refine LeO.ite ?_ ?_|refine LeO.bind ?_ (fun _=>?_)
theorem aQ.calls (k:Nat) (a0_0:Int) (a0_1:Bool) (A0_2:Option Addr) (c0_2:Nat) (l0_2:List Int) (A0_3:Option Addr) (c0_3:Nat) (l0_3:List Int) (a0_4:Int) (a1_0:Int) (a1_1:Int) (a1_2:Int) (r:Bool) (w:World) (hr0_2:Kd.C (Kd.int .i64) w A0_2 l0_2.length l0_2) (hc0_2:l0_2.length≤c0_2) (hr0_3:Kd.C (Kd.int .i64) w A0_3 l0_3.length l0_3) (hc0_3:l0_3.length≤c0_3) (H:aQ.f k a0_0 a0_1 l0_2 l0_3 a0_4 a1_0 a1_1 a1_2=some r) :
  Calls Tryz.prog 68 #[.agg #[.int .i64 a0_0,.bool a0_1,.slice A0_2 l0_2.length c0_2,.slice A0_3 l0_3.length c0_3,.int .i64 a0_4],.agg #[.int .i64 a1_0,.int .i64 a1_1,.int .i64 a1_2]] w fun e w'=>e=.returned (.bool r)∧Below w.heap.size w w':=by
 have hu32:=Tryz.underlying32;have hu50:=Tryz.underlying50;have HR0_2:=A0_ hr0_2;have HC0_2:=A0_ hc0_2;clear hr0_2 hc0_2;have HR0_3:=A0_ hr0_3;have HC0_3:=A0_ hc0_3;clear hr0_3 hc0_3;have HB:=A0_ (Below.refl w.heap.size w);unfold aQ.f at H
 by_cases c1:a1_0=1
 ·rw [if_pos c1] at H
  obtain ⟨c1b0,c1b1⟩:=et_ c1;clear c1
  by_cases c2:(l0_3.length:Int)<a0_0
  case neg =>
   rw [if_neg c2] at H;have c2b0:decide ((l0_3.length:Int)<a0_0)=false:=decide_eq_false c2;clear c2;obtain rfl:=si_ H;go_enter Tryz.func68,Tryz.ntmps68
   go_wp2_with (first|((with_reducible refine gd_ (N:=2) rfl ?_);refine bx_ 2 #[.int .i64 a0_0,.bool a0_1,.slice A0_2 l0_2.length c0_2,.slice A0_3 l0_3.length c0_3,.int .i64 a0_4] 32 ?_;intro gb1 hg w1 BK1 hb;have GW1:=ge_ hg ai;have GE1:=GW1;replace HB:=hb_ hb ai;clear hb hg)|((with_reducible refine gd_ (N:=3) rfl ?_);refine bx_ 3 #[.int .i64 a1_0,.int .i64 a1_1,.int .i64 a1_2] 50 ?_;intro gb2 hg w2 BK2 hb;have GW2:=ge_ hg aj;have GE2:=GW2;replace HB:=hb_ hb aj;obtain ⟨NB1_2,NB2_1⟩:=nn_ hg BK1;replace BK1:=k1_ BK1 hb;clear hb hg;obtain ⟨hnb1,hnc1⟩:=n2_ NB2_1;have hcz1:=c3_ BK2;have hcz2:=c5_ BK1))
   go_ret
   exact ⟨aE,au⟩
  rw [if_pos c2] at H;have c2b0:decide ((l0_3.length:Int)<a0_0)=true:=dt_ c2;clear c2
  by_cases c3:a1_1=0
  case neg =>
   rw [if_neg c3] at H;obtain ⟨c3b0,c3b1⟩:=ef_ c3;obtain rfl:=si_ H;go_enter Tryz.func68,Tryz.ntmps68
   go_wp2_with (first|((with_reducible refine gd_ (N:=2) rfl ?_);refine bx_ 2 #[.int .i64 a0_0,.bool a0_1,.slice A0_2 l0_2.length c0_2,.slice A0_3 l0_3.length c0_3,.int .i64 a0_4] 32 ?_;intro gb1 hg w1 BK1 hb;have GW1:=ge_ hg ai;have GE1:=GW1;replace HB:=hb_ hb ai;clear hb hg)|((with_reducible refine gd_ (N:=3) rfl ?_);refine bx_ 3 #[.int .i64 a1_0,.int .i64 a1_1,.int .i64 a1_2] 50 ?_;intro gb2 hg w2 BK2 hb;have GW2:=ge_ hg aj;have GE2:=GW2;replace HB:=hb_ hb aj;obtain ⟨NB1_2,NB2_1⟩:=nn_ hg BK1;replace BK1:=k1_ BK1 hb;clear hb hg;obtain ⟨hnb1,hnc1⟩:=n2_ NB2_1;have hcz1:=c3_ BK2;have hcz2:=c5_ BK1))
   go_ret
   exact ⟨aE,au⟩
  rw [if_pos c3] at H;obtain ⟨c3b0,c3b1⟩:=et_ c3;clear c3;obtain rfl:=si_ H;go_enter Tryz.func68,Tryz.ntmps68
  go_wp2_with (first|((with_reducible refine gd_ (N:=2) rfl ?_);refine bx_ 2 #[.int .i64 a0_0,.bool a0_1,.slice A0_2 l0_2.length c0_2,.slice A0_3 l0_3.length c0_3,.int .i64 a0_4] 32 ?_;intro gb1 hg w1 BK1 hb;have GW1:=ge_ hg ai;have GE1:=GW1;replace HB:=hb_ hb ai;clear hb hg)|((with_reducible refine gd_ (N:=3) rfl ?_);refine bx_ 3 #[.int .i64 a1_0,.int .i64 a1_1,.int .i64 a1_2] 50 ?_;intro gb2 hg w2 BK2 hb;have GW2:=ge_ hg aj;have GE2:=GW2;replace HB:=hb_ hb aj;obtain ⟨NB1_2,NB2_1⟩:=nn_ hg BK1;replace BK1:=k1_ BK1 hb;clear hb hg;obtain ⟨hnb1,hnc1⟩:=n2_ NB2_1;have hcz1:=c3_ BK2;have hcz2:=c5_ BK1))
  go_ret
  exact ⟨aE,au⟩
 rw [if_neg c1] at H;obtain ⟨c1b0,c1b1⟩:=ef_ c1
 by_cases c2:a1_0=2
 ·rw [if_pos c2] at H
  obtain ⟨c2b0,c2b1⟩:=et_ c2;clear c2;obtain ⟨t1,A2,H⟩:=o1_ H
  by_cases c3:t1=true
  case neg =>
   obtain rfl:=bf_.mpr c3;rw [if_neg ft_] at H;obtain rfl:=si_ H;go_enter Tryz.func68,Tryz.ntmps68
   go_wp2_with (first|((with_reducible refine gd_ (N:=2) rfl ?_);refine bx_ 2 #[.int .i64 a0_0,.bool a0_1,.slice A0_2 l0_2.length c0_2,.slice A0_3 l0_3.length c0_3,.int .i64 a0_4] 32 ?_;intro gb1 hg w1 BK1 hb;have GW1:=ge_ hg ai;have GE1:=GW1;replace HB:=hb_ hb ai;clear hb hg)|((with_reducible refine gd_ (N:=3) rfl ?_);refine bx_ 3 #[.int .i64 a1_0,.int .i64 a1_1,.int .i64 a1_2] 50 ?_;intro gb2 hg w2 BK2 hb;have GW2:=ge_ hg aj;have GE2:=GW2;replace HB:=hb_ hb aj;obtain ⟨NB1_2,NB2_1⟩:=nn_ hg BK1;replace BK1:=k1_ BK1 hb;clear hb hg;obtain ⟨hnb1,hnc1⟩:=n2_ NB2_1;have hcz1:=c3_ BK2;have hcz2:=c5_ BK1)|((with_reducible refine gc_ (f:=87) rfl ?_);refine gl_ 31 Tryz.func87 #[.agg #[.int .i64 a0_0,.bool a0_1,.slice A0_2 l0_2.length c0_2,.slice A0_3 l0_3.length c0_3,.int .i64 a0_4],.int .i64 a1_1] ?_;(with_reducible refine (bY.calls k a0_0 a0_1 _ _ l0_2 _ _ l0_3 a0_4 a1_1 false _ ?_ ?_ ?_ ?_ A2.out).mono ?_);exact bz;exact HC0_2.out;exact b6;exact HC0_3.out;rintro e w3 ⟨rfl,hb⟩;refine ⟨_,rfl,?_⟩;replace BK1:=k1_ BK1 hb;replace BK2:=k1_ BK2 hb;replace HB:=hb_ hb au;(try clear hb)))
   go_ret
   exact ⟨aE,au⟩
  subst c3;rw [if_pos rfl] at H;obtain rfl:=si_ H;go_enter Tryz.func68,Tryz.ntmps68
  go_wp2_with (first|((with_reducible refine gd_ (N:=2) rfl ?_);refine bx_ 2 #[.int .i64 a0_0,.bool a0_1,.slice A0_2 l0_2.length c0_2,.slice A0_3 l0_3.length c0_3,.int .i64 a0_4] 32 ?_;intro gb1 hg w1 BK1 hb;have GW1:=ge_ hg ai;have GE1:=GW1;replace HB:=hb_ hb ai;clear hb hg)|((with_reducible refine gd_ (N:=3) rfl ?_);refine bx_ 3 #[.int .i64 a1_0,.int .i64 a1_1,.int .i64 a1_2] 50 ?_;intro gb2 hg w2 BK2 hb;have GW2:=ge_ hg aj;have GE2:=GW2;replace HB:=hb_ hb aj;obtain ⟨NB1_2,NB2_1⟩:=nn_ hg BK1;replace BK1:=k1_ BK1 hb;clear hb hg;obtain ⟨hnb1,hnc1⟩:=n2_ NB2_1;have hcz1:=c3_ BK2;have hcz2:=c5_ BK1)|((with_reducible refine gc_ (f:=87) rfl ?_);refine gl_ 31 Tryz.func87 #[.agg #[.int .i64 a0_0,.bool a0_1,.slice A0_2 l0_2.length c0_2,.slice A0_3 l0_3.length c0_3,.int .i64 a0_4],.int .i64 a1_1] ?_;(with_reducible refine (bY.calls k a0_0 a0_1 _ _ l0_2 _ _ l0_3 a0_4 a1_1 true _ ?_ ?_ ?_ ?_ A2.out).mono ?_);exact bz;exact HC0_2.out;exact b6;exact HC0_3.out;rintro e w3 ⟨rfl,hb⟩;refine ⟨_,rfl,?_⟩;replace BK1:=k1_ BK1 hb;replace BK2:=k1_ BK2 hb;replace HB:=hb_ hb au;(try clear hb);have hcz3:=c3_ BK2))
  go_ret
  exact ⟨aE,au⟩
 rw [if_neg c2] at H;obtain ⟨c2b0,c2b1⟩:=ef_ c2
 by_cases c3:a1_0=3
 ·rw [if_pos c3] at H
  obtain ⟨c3b0,c3b1⟩:=et_ c3;clear c3;obtain ⟨t2,A2,H⟩:=o1_ H
  by_cases c4:t2=true
  case neg =>
   obtain rfl:=bf_.mpr c4;rw [if_neg ft_] at H;obtain rfl:=si_ H;go_enter Tryz.func68,Tryz.ntmps68
   go_wp2_with (first|((with_reducible refine gd_ (N:=2) rfl ?_);refine bx_ 2 #[.int .i64 a0_0,.bool a0_1,.slice A0_2 l0_2.length c0_2,.slice A0_3 l0_3.length c0_3,.int .i64 a0_4] 32 ?_;intro gb1 hg w1 BK1 hb;have GW1:=ge_ hg ai;have GE1:=GW1;replace HB:=hb_ hb ai;clear hb hg)|((with_reducible refine gd_ (N:=3) rfl ?_);refine bx_ 3 #[.int .i64 a1_0,.int .i64 a1_1,.int .i64 a1_2] 50 ?_;intro gb2 hg w2 BK2 hb;have GW2:=ge_ hg aj;have GE2:=GW2;replace HB:=hb_ hb aj;obtain ⟨NB1_2,NB2_1⟩:=nn_ hg BK1;replace BK1:=k1_ BK1 hb;clear hb hg;obtain ⟨hnb1,hnc1⟩:=n2_ NB2_1;have hcz1:=c3_ BK2;have hcz2:=c5_ BK1)|((with_reducible refine gc_ (f:=88) rfl ?_);refine gl_ 42 Tryz.func88 #[.agg #[.int .i64 a0_0,.bool a0_1,.slice A0_2 l0_2.length c0_2,.slice A0_3 l0_3.length c0_3,.int .i64 a0_4],.int .i64 a1_1] ?_;(with_reducible refine (bU.calls k a0_0 a0_1 _ _ l0_2 _ _ l0_3 a0_4 a1_1 false _ ?_ ?_ ?_ ?_ A2.out).mono ?_);exact bz;exact HC0_2.out;exact b6;exact HC0_3.out;rintro e w3 ⟨rfl,hb⟩;refine ⟨_,rfl,?_⟩;replace BK1:=k1_ BK1 hb;replace BK2:=k1_ BK2 hb;replace HB:=hb_ hb au;(try clear hb)))
   go_ret
   exact ⟨aE,au⟩
  subst c4;rw [if_pos rfl] at H;obtain rfl:=si_ H;go_enter Tryz.func68,Tryz.ntmps68
  go_wp2_with (first|((with_reducible refine gd_ (N:=2) rfl ?_);refine bx_ 2 #[.int .i64 a0_0,.bool a0_1,.slice A0_2 l0_2.length c0_2,.slice A0_3 l0_3.length c0_3,.int .i64 a0_4] 32 ?_;intro gb1 hg w1 BK1 hb;have GW1:=ge_ hg ai;have GE1:=GW1;replace HB:=hb_ hb ai;clear hb hg)|((with_reducible refine gd_ (N:=3) rfl ?_);refine bx_ 3 #[.int .i64 a1_0,.int .i64 a1_1,.int .i64 a1_2] 50 ?_;intro gb2 hg w2 BK2 hb;have GW2:=ge_ hg aj;have GE2:=GW2;replace HB:=hb_ hb aj;obtain ⟨NB1_2,NB2_1⟩:=nn_ hg BK1;replace BK1:=k1_ BK1 hb;clear hb hg;obtain ⟨hnb1,hnc1⟩:=n2_ NB2_1;have hcz1:=c3_ BK2;have hcz2:=c5_ BK1)|((with_reducible refine gc_ (f:=88) rfl ?_);refine gl_ 42 Tryz.func88 #[.agg #[.int .i64 a0_0,.bool a0_1,.slice A0_2 l0_2.length c0_2,.slice A0_3 l0_3.length c0_3,.int .i64 a0_4],.int .i64 a1_1] ?_;(with_reducible refine (bU.calls k a0_0 a0_1 _ _ l0_2 _ _ l0_3 a0_4 a1_1 true _ ?_ ?_ ?_ ?_ A2.out).mono ?_);exact bz;exact HC0_2.out;exact b6;exact HC0_3.out;rintro e w3 ⟨rfl,hb⟩;refine ⟨_,rfl,?_⟩;replace BK1:=k1_ BK1 hb;replace BK2:=k1_ BK2 hb;replace HB:=hb_ hb au;(try clear hb);have hcz3:=c3_ BK2))
  go_ret
  exact ⟨aE,au⟩
 rw [if_neg c3] at H;obtain ⟨c3b0,c3b1⟩:=ef_ c3
 by_cases c4:a1_0=4
 case neg =>
  rw [if_neg c4] at H;obtain ⟨c4b0,c4b1⟩:=ef_ c4
  by_cases c5:a1_0=5
  case neg =>
   rw [if_neg c5] at H;obtain ⟨c5b0,c5b1⟩:=ef_ c5;obtain rfl:=si_ H;go_enter Tryz.func68,Tryz.ntmps68
   go_wp2_with (first|((with_reducible refine gd_ (N:=2) rfl ?_);refine bx_ 2 #[.int .i64 a0_0,.bool a0_1,.slice A0_2 l0_2.length c0_2,.slice A0_3 l0_3.length c0_3,.int .i64 a0_4] 32 ?_;intro gb1 hg w1 BK1 hb;have GW1:=ge_ hg ai;have GE1:=GW1;replace HB:=hb_ hb ai;clear hb hg)|((with_reducible refine gd_ (N:=3) rfl ?_);refine bx_ 3 #[.int .i64 a1_0,.int .i64 a1_1,.int .i64 a1_2] 50 ?_;intro gb2 hg w2 BK2 hb;have GW2:=ge_ hg aj;have GE2:=GW2;replace HB:=hb_ hb aj;obtain ⟨NB1_2,NB2_1⟩:=nn_ hg BK1;replace BK1:=k1_ BK1 hb;clear hb hg;obtain ⟨hnb1,hnc1⟩:=n2_ NB2_1;have hcz1:=c3_ BK2))
   go_ret
   exact ⟨aE,au⟩
  rw [if_pos c5] at H;obtain ⟨c5b0,c5b1⟩:=et_ c5;clear c5
  by_cases c6:a1_1=0
  case neg =>
   rw [if_neg c6] at H;obtain ⟨c6b0,c6b1⟩:=ef_ c6;obtain rfl:=si_ H;go_enter Tryz.func68,Tryz.ntmps68
   go_wp2_with (first|((with_reducible refine gd_ (N:=2) rfl ?_);refine bx_ 2 #[.int .i64 a0_0,.bool a0_1,.slice A0_2 l0_2.length c0_2,.slice A0_3 l0_3.length c0_3,.int .i64 a0_4] 32 ?_;intro gb1 hg w1 BK1 hb;have GW1:=ge_ hg ai;have GE1:=GW1;replace HB:=hb_ hb ai;clear hb hg)|((with_reducible refine gd_ (N:=3) rfl ?_);refine bx_ 3 #[.int .i64 a1_0,.int .i64 a1_1,.int .i64 a1_2] 50 ?_;intro gb2 hg w2 BK2 hb;have GW2:=ge_ hg aj;have GE2:=GW2;replace HB:=hb_ hb aj;obtain ⟨NB1_2,NB2_1⟩:=nn_ hg BK1;replace BK1:=k1_ BK1 hb;clear hb hg;obtain ⟨hnb1,hnc1⟩:=n2_ NB2_1;have hcz1:=c3_ BK2))
   go_ret
   exact ⟨aE,au⟩
  rw [if_pos c6] at H;obtain ⟨c6b0,c6b1⟩:=et_ c6;clear c6;obtain rfl:=si_ H;go_enter Tryz.func68,Tryz.ntmps68
  go_wp2_with (first|((with_reducible refine gd_ (N:=2) rfl ?_);refine bx_ 2 #[.int .i64 a0_0,.bool a0_1,.slice A0_2 l0_2.length c0_2,.slice A0_3 l0_3.length c0_3,.int .i64 a0_4] 32 ?_;intro gb1 hg w1 BK1 hb;have GW1:=ge_ hg ai;have GE1:=GW1;replace HB:=hb_ hb ai;clear hb hg)|((with_reducible refine gd_ (N:=3) rfl ?_);refine bx_ 3 #[.int .i64 a1_0,.int .i64 a1_1,.int .i64 a1_2] 50 ?_;intro gb2 hg w2 BK2 hb;have GW2:=ge_ hg aj;have GE2:=GW2;replace HB:=hb_ hb aj;obtain ⟨NB1_2,NB2_1⟩:=nn_ hg BK1;replace BK1:=k1_ BK1 hb;clear hb hg;obtain ⟨hnb1,hnc1⟩:=n2_ NB2_1;have hcz1:=c3_ BK2))
  go_ret
  exact ⟨aE,au⟩
 rw [if_pos c4] at H;obtain ⟨c4b0,c4b1⟩:=et_ c4;clear c4;obtain ⟨t3,A2,H⟩:=o1_ H
 by_cases c5:t3=true
 case neg =>
  obtain rfl:=bf_.mpr c5;rw [if_neg ft_] at H;obtain rfl:=si_ H;go_enter Tryz.func68,Tryz.ntmps68
  go_wp2_with (first|((with_reducible refine gd_ (N:=2) rfl ?_);refine bx_ 2 #[.int .i64 a0_0,.bool a0_1,.slice A0_2 l0_2.length c0_2,.slice A0_3 l0_3.length c0_3,.int .i64 a0_4] 32 ?_;intro gb1 hg w1 BK1 hb;have GW1:=ge_ hg ai;have GE1:=GW1;replace HB:=hb_ hb ai;clear hb hg)|((with_reducible refine gd_ (N:=3) rfl ?_);refine bx_ 3 #[.int .i64 a1_0,.int .i64 a1_1,.int .i64 a1_2] 50 ?_;intro gb2 hg w2 BK2 hb;have GW2:=ge_ hg aj;have GE2:=GW2;replace HB:=hb_ hb aj;obtain ⟨NB1_2,NB2_1⟩:=nn_ hg BK1;replace BK1:=k1_ BK1 hb;clear hb hg;obtain ⟨hnb1,hnc1⟩:=n2_ NB2_1;have hcz1:=c3_ BK2;have hcz2:=c5_ BK1)|((with_reducible refine gc_ (f:=88) rfl ?_);refine gl_ 53 Tryz.func88 #[.agg #[.int .i64 a0_0,.bool a0_1,.slice A0_2 l0_2.length c0_2,.slice A0_3 l0_3.length c0_3,.int .i64 a0_4],.int .i64 a1_1] ?_;(with_reducible refine (bU.calls k a0_0 a0_1 _ _ l0_2 _ _ l0_3 a0_4 a1_1 false _ ?_ ?_ ?_ ?_ A2.out).mono ?_);exact bz;exact HC0_2.out;exact b6;exact HC0_3.out;rintro e w3 ⟨rfl,hb⟩;refine ⟨_,rfl,?_⟩;replace BK1:=k1_ BK1 hb;replace BK2:=k1_ BK2 hb;replace HB:=hb_ hb au;(try clear hb)))
  go_ret
  exact ⟨aE,au⟩
 subst c5;rw [if_pos rfl] at H;obtain ⟨t4,A4,H⟩:=o1_ H;replace H:(some t4)=some r:=H;obtain rfl:=si_ H;go_enter Tryz.func68,Tryz.ntmps68
 go_wp2_with (first|((with_reducible refine gd_ (N:=2) rfl ?_);refine bx_ 2 #[.int .i64 a0_0,.bool a0_1,.slice A0_2 l0_2.length c0_2,.slice A0_3 l0_3.length c0_3,.int .i64 a0_4] 32 ?_;intro gb1 hg w1 BK1 hb;have GW1:=ge_ hg ai;have GE1:=GW1;replace HB:=hb_ hb ai;clear hb hg)|((with_reducible refine gd_ (N:=3) rfl ?_);refine bx_ 3 #[.int .i64 a1_0,.int .i64 a1_1,.int .i64 a1_2] 50 ?_;intro gb2 hg w2 BK2 hb;have GW2:=ge_ hg aj;have GE2:=GW2;replace HB:=hb_ hb aj;obtain ⟨NB1_2,NB2_1⟩:=nn_ hg BK1;replace BK1:=k1_ BK1 hb;clear hb hg;obtain ⟨hnb1,hnc1⟩:=n2_ NB2_1;have hcz1:=c3_ BK2;have hcz2:=c5_ BK1)|((with_reducible refine gc_ (f:=88) rfl ?_);refine gl_ 53 Tryz.func88 #[.agg #[.int .i64 a0_0,.bool a0_1,.slice A0_2 l0_2.length c0_2,.slice A0_3 l0_3.length c0_3,.int .i64 a0_4],.int .i64 a1_1] ?_;(with_reducible refine (bU.calls k a0_0 a0_1 _ _ l0_2 _ _ l0_3 a0_4 a1_1 true _ ?_ ?_ ?_ ?_ A2.out).mono ?_);exact bz;exact HC0_2.out;exact b6;exact HC0_3.out;rintro e w3 ⟨rfl,hb⟩;refine ⟨_,rfl,?_⟩;replace BK1:=k1_ BK1 hb;replace BK2:=k1_ BK2 hb;replace HB:=hb_ hb au;(try clear hb);have hcz3:=c5_ BK1;have hcz4:=c3_ BK2)|(go_at_call 87;(with_reducible refine (bY.calls k a0_0 a0_1 _ _ l0_2 _ _ l0_3 a0_4 a1_2 t4 _ ?_ ?_ ?_ ?_ A4.out).mono ?_);exact bz;exact HC0_2.out;exact b6;exact HC0_3.out;rintro e w4 ⟨rfl,hb⟩;replace BK1:=k1_ BK1 hb;replace BK2:=k1_ BK2 hb;replace HB:=hb_ hb au;(try clear hb)))
 go_ret
 exact ⟨aE,au⟩

def dn.f (a0_0:Int) (a0_1:Bool) (l0_2:List Int) (l1:List Int):Option (Int × Bool × List Int):=some (a0_0,a0_1,l1)
theorem dn.calls (a0_0:Int) (a0_1:Bool) (A0_2:Option Addr) (c0_2:Nat) (l0_2:List Int) (P1_:Nat→Prop) (u9000_:Value) (l1:List Int) (r1:Int) (r2:Bool) (r3:List Int) (w0 w:World) (hB:Below w0.heap.size w0 w) (hr0_2:∀ W_,cN w W_ (fun k_=>P1_ k_)→Kd.C (Kd.int .i64) W_ A0_2 l0_2.length l0_2) (hc0_2:l0_2.length≤c0_2) (ho1:Kd.R (Kd.int .i64) 3 w w0.heap.size P1_ u9000_ l1) (H:dn.f a0_0 a0_1 l0_2 l1=some (r1,r2,r3)) :
  Calls Tryz.prog 105 #[.agg #[.int .i64 a0_0,.bool a0_1,.slice A0_2 l0_2.length c0_2],u9000_] w fun e w'=>∃ v2_:Value,e=.returned (.agg #[.int .i64 r1,.bool r2,v2_])∧Kd.R (Kd.int .i64) 3 w' w0.heap.size (fun k_=>(P1_ k_ ∨ w.heap.size≤k_)) v2_ r3∧Below w0.heap.size w0 w'∧cN w w' (fun k_=>P1_ k_):=by
 have hu30:=Tryz.underlying30;have HR0_2:=A0_ hr0_2;have HC0_2:=A0_ hc0_2;clear hr0_2 hc0_2;have HO1:=A0_ (show Kd.R (Kd.int .i64) 3 w w0.heap.size (fun k_=>(P1_ k_ ∨ w.heap.size≤k_)) u9000_ l1 from Kd.R_mono ho1 (fun k_ hk=>(.inl hk)));have HK:=A0_ (cN.refl w (fun k_=>P1_ k_));have HW0:=A0_ hB.size;have HB:=A0_ hB;clear hB;unfold dn.f at H;simp only [sj_,pj_] at H;obtain ⟨rfl,rfl,rfl⟩:=H;go_enter Tryz.func105,Tryz.ntmps105
 go_wp2_with (first|((with_reducible refine gd_ (N:=2) rfl ?_);refine bx_ 2 #[.int .i64 a0_0,.bool a0_1,.slice A0_2 l0_2.length c0_2] 30 ?_;intro gb1 hg w1 BK1 hb;replace HO1:=q1_ HO1 hb;have GW1:=A0_ ((by rw [hg];exact (by first|exact HK.out.1|exact (show cN w _ (fun k_=>P1_ k_) from by repeat (with_reducible first|exact HK.out|apply cN.alloc|apply cN.drewN|apply cN.drew)).1):w.heap.size≤gb1));replace HK:=A0_ (cN.below (S:=(fun k_=>P1_ k_)) (by repeat (with_reducible first|exact HK.out|apply cN.alloc|apply cN.drewN|apply cN.drew)) hb);have GE1:=A0_ ((iz:w0.heap.size≤gb1));replace HB:=hb_ hb ai;clear hb hg)|((with_reducible refine gd_ (N:=4) rfl ?_);refine bx_ 4 #[.int .i64 0,.bool false,.slice none 0 0] 30 ?_;intro gb2 hg w2 BK2 hb;replace HO1:=q1_ HO1 hb;have GW2:=A0_ ((by rw [hg];exact (by first|exact HK.out.1|exact (show cN w _ (fun k_=>P1_ k_) from ot).1):w.heap.size≤gb2));replace HK:=A0_ (cN.below (S:=(fun k_=>P1_ k_)) ot hb);have GE2:=A0_ ((by rw [hg];exact (bz_ aj):w0.heap.size≤gb2));replace HB:=hb_ hb aj;obtain ⟨NB1_2,NB2_1⟩:=nn_ hg BK1;replace BK1:=k1_ BK1 hb;clear hb hg;obtain ⟨hnb1,hnc1⟩:=n2_ NB1_2;have hcz1:=z3_ BK1;obtain ⟨Ao1,co1,eo1⟩:=Kd.R_slice HO1.out;subst eo1;have hcz2_0:=y_ BK2 0;have hcz2_1:=y_ BK2 1;have hcz2_2:=y_ BK2 2;have hfz2_0:=kf_ BK2.out 0;have hfz2_1:=kf_ BK2.out 1;have hfz2_2:=kf_ BK2.out 2))
 refine bodyPost_ret (results_cell_row rfl _ _ gb2 30 #[.int .i64 a0_0,.bool a0_1,.slice Ao1 l1.length co1] (0,0) _ rfl (u1_ BK2) Tryz.underlying30 rfl aY) rfl ?_
 exact ⟨_,aE,by (with_reducible repeat (first|apply ra_|apply rn_|apply rd_));exact Kd.R_mono (d8 (Kd.R_types HO1.out BK2.out ag)) (fun _ hk=>hk.1),au,by repeat (with_reducible first|exact HK.out|apply cN.alloc|apply cN.drewN|apply cN.drew|refine cN.setCell ?_ (.inr GW1.out) _|refine cN.setCell ?_ (.inr GW2.out) _)⟩

def bg.l0:Nat→List Int→Int→Int→Option (List Int)
 | 0,_,_,_=>none
 | k+1,x0,x1,x5=>if x5<(x0.length:Int) then (if 0≤x5 then (if (rd x0 x5)<x1 then (bg.l0 k x0 x1 (wrap64 (x5+1))) else (if (rd x0 x5)=x1 then none else ((some (([]:List Int):List Int)).bind fun y163=>(if x5≤(x0.length:Int) then (if y163.length+(x0.take (x5:Int).toNat).length<17592186044416 then ((some (y163++(x0.take (x5:Int).toNat):List Int)).bind fun y167=>((some (([x1]:List Int):List Int)).bind fun y170=>(if y167.length+y170.length<17592186044416 then ((some (y167++y170:List Int)).bind fun y173=>(if y173.length+(x0.drop (x5:Int).toNat).length<17592186044416 then (some (y173++(x0.drop (x5:Int).toNat))) else (none))) else (none)))) else (none)) else (none))))) else (none)) else ((some (([]:List Int):List Int)).bind fun y180=>(if 0≤x5 then (if x5≤(x0.length:Int) then (if y180.length+(x0.take (x5:Int).toNat).length<17592186044416 then ((some (y180++(x0.take (x5:Int).toNat):List Int)).bind fun y184=>((some (([x1]:List Int):List Int)).bind fun y187=>(if y184.length+y187.length<17592186044416 then ((some (y184++y187:List Int)).bind fun y190=>(if y190.length+(x0.drop (x5:Int).toNat).length<17592186044416 then (some (y190++(x0.drop (x5:Int).toNat))) else (none))) else (none)))) else (none)) else (none)) else (none)))
def bg.f (k:Nat) (l0:List Int) (a1:Int):Option (List Int):=bg.l0 k l0 a1 0
theorem bg.mono_l:∀ k,(∀ y0 y1 y2,LeO (bg.l0 k y0 y1 y2) (bg.l0 (k+1) y0 y1 y2))
 | 0=>fun _ _ _ r h=>by simp [bg.l0] at h
 | k+1=>by
  have ih0:=bg.mono_l k
  ·intro y0 y1 y2
   unfold bg.l0
   repeat' with_reducible first|exact ih0 ..|exact LeO.refl ..|exact LeO.none ..|refine LeO.ite ?_ ?_|refine LeO.bind ?_ (fun _=>?_)
theorem bg.mono:∀ a0 a1 k,LeO (bg.f k a0 a1) (bg.f (k+1) a0 a1):=by
 intro a0 a1 k;have ih0:=bg.mono_l k;unfold bg.f
 repeat' with_reducible first|exact ih0 ..|exact LeO.refl ..|exact LeO.none ..|refine LeO.ite ?_ ?_|refine LeO.bind ?_ (fun _=>?_)
def bg.T6:Bool × List (List Nat × List Nat):=(true,[([],[]),([],[]),([],[]),([1,2],[1,2]),([0,3],[0,3]),([],[]),([5],[5]),([4,6,4],[4,6]),([],[]),([],[]),([8,9],[8,9]),([7,10,7],[7,10]),([11,11,0,1,2,3,4,5,6,7,8,9,10,11],[11])])
def bg.B6:List Nat:=[0,0,0,6,15,0,32,127,0,0,768,2047,4095]
theorem bg.tab6:df .any (dO Tryz.f106 6)=bg.T6:=by kernel_rfl
theorem bg.bits6:ce bg.T6.2 bg.B6=true:=by kernel_rfl
theorem bg.calls (k:Nat) (A0:Option Addr) (c0:Nat) (l0:List Int) (a1:Int) (r:List Int) (w:World) (hr0:Kd.C (Kd.int .i64) w A0 l0.length l0) (hc0:l0.length≤c0) (H:bg.f k l0 a1=some r) :
  Calls Tryz.prog 106 #[.slice A0 l0.length c0,.int .i64 a1] w fun e w'=>∃ v0_:Value,e=.returned (v0_)∧Kd.R (Kd.int .i64) 3 w' w.heap.size (fun _=>True) v0_ r∧Below w.heap.size w w':=by
 have HR0:=A0_ hr0;have HC0:=A0_ hc0;clear hr0 hc0;have HB:=A0_ (Below.refl w.heap.size w);unfold bg.f at H;have H':=A0_ H;clear H;go_enter Tryz.func106,Tryz.ntmps106
 go_wp2
 go_loopg [5] k (fun kq v1 w'=>∃ (x5_1:Int),v1=.int .i64 x5_1∧Aside0 (bg.l0 kq l0 a1 x5_1=some r)∧Aside0 (kq≤k)∧Aside0 (Below w.heap.size w w'))
 case atStart=>exact ⟨(0),aX,H',⟨Nat.le_refl _⟩,⟨ai⟩⟩
 clear H';obtain ⟨x5_1,rfl,HA,HK1,HB⟩:=hrel
 cases gk with|zero=>exact absurd HA.out (by simp [bg.l0])|succ k1=>?_
 have H:=HA.out;clear HA;simp only [bg.l0] at H
 by_cases c1:x5_1<(l0.length:Int)
 case neg =>
  rw [if_neg c1] at H;have c1b0:decide (x5_1<(l0.length:Int))=false:=decide_eq_false c1;clear c1;obtain ⟨y1,hy1⟩:∃ y_:List Int,y_=(([]:List Int)):=⟨_,rfl⟩;replace H:(if 0≤x5_1 then (if x5_1≤(l0.length:Int) then (if y1.length+(l0.take (x5_1:Int).toNat).length<17592186044416 then ((some (y1++(l0.take (x5_1:Int).toNat):List Int)).bind fun y2=>((some (([a1]:List Int):List Int)).bind fun y3=>(if y2.length+y3.length<17592186044416 then ((some (y2++y3:List Int)).bind fun y4=>(if y4.length+(l0.drop (x5_1:Int).toNat).length<17592186044416 then (some (y4++(l0.drop (x5_1:Int).toNat))) else (none))) else (none)))) else (none)) else (none)) else (none))=some r:=dx;have Ny1:=A0_ hy1;clear hy1;obtain ⟨c2b0,c2b1,H⟩:=i2_ H;obtain ⟨c3b0,c3b1,H⟩:=i2_ H;obtain ⟨c4,H⟩:=is_ H;have LMc1:=A0_ c4;clear c4;obtain ⟨y2,hy2⟩:∃ y_:List Int,y_=(y1++(l0.take (x5_1:Int).toNat)):=⟨_,rfl⟩;replace H:((some (([a1]:List Int):List Int)).bind fun y3=>(if y2.length+y3.length<17592186044416 then ((some (y2++y3:List Int)).bind fun y4=>(if y4.length+(l0.drop (x5_1:Int).toNat).length<17592186044416 then (some (y4++(l0.drop (x5_1:Int).toNat))) else (none))) else (none)))=some r:=dH;have Ny2:=A0_ hy2;clear hy2;obtain ⟨y3,hy3⟩:∃ y_:List Int,y_=(([a1]:List Int)):=⟨_,rfl⟩;replace H:(if y2.length+y3.length<17592186044416 then ((some (y2++y3:List Int)).bind fun y4=>(if y4.length+(l0.drop (x5_1:Int).toNat).length<17592186044416 then (some (y4++(l0.drop (x5_1:Int).toNat))) else (none))) else (none))=some r:=it;have Ny3:=A0_ hy3;clear hy3;obtain ⟨c5,H⟩:=is_ H;have LMc2:=A0_ c5;clear c5;obtain ⟨y4,hy4⟩:∃ y_:List Int,y_=(y2++y3):=⟨_,rfl⟩;replace H:(if y4.length+(l0.drop (x5_1:Int).toNat).length<17592186044416 then (some (y4++(l0.drop (x5_1:Int).toNat))) else (none))=some r:=lU;have Ny4:=A0_ hy4;clear hy4;have c6b0:=eq_true (od_ ay:0≤x5_1);have c7b0:=eq_true (od_ ay:x5_1≤(l0.length:Int));obtain ⟨c8,H⟩:=is_ H;have LMc3:=A0_ c8;clear c8;obtain ⟨y5,hy5⟩:∃ y_:List Int,y_=(y4++(l0.drop (x5_1:Int).toNat)):=⟨_,rfl⟩;replace H:(some y5)=some r:=nN;have Ny5:=A0_ hy5;clear hy5;obtain rfl:=si_ H
  try go_wp2
  replace HB:=A0_ (bd_ HB.out);obtain ⟨i034,hi034,_,hsz34,_⟩:=info_parts cW;obtain ⟨hcut34,hA34,hC34⟩:=gm (P:=Tryz.prog) (Value.int .i64) 0 22 3 .i64 Tryz.underlying22 hi034 hsz34 A0 c0 l0 x5_1 (od_ ay) (od_ ay) HC0.out;have HR183:=A0_ (Kd.C_of_reads (h1:=fun _=>rfl) (hA34 _ (Kd.reads_of_C HR0.out)));have HC183:=A0_ hC34;clear hA34 hC34 hi034 hsz34;obtain ⟨i035,hi035,_,hsz35,_⟩:=info_parts cW;obtain ⟨A1,hcut35,hA35,hC35⟩:=eg (P:=Tryz.prog) (Value.int .i64) 0 22 3 .i64 Tryz.underlying22 hi035 hsz35 A0 c0 l0 x5_1 (od_ ay) (od_ ay) HC0.out;have HR193:=A0_ (Kd.C_of_reads (h1:=fun _=>rfl) (hA35 _ (Kd.reads_of_C HR0.out)));have HC193:=A0_ hC35;clear hA35 hC35 hi035 hsz35
  refine dd (n:=13) (S:=fun w'=>True) (ds:=[]) #[false,false,false,false,false,false,false,false,false,false,false,false,false] aY rfl rfl trivial (fun hHeld=>?_);refine cu bg.tab6 bg.bits6 (fun HT_ HW_=>?_)
  generalize wr.drew=w1 at HB HR183 HR193 hHeld ⊢
  refine pu_ 1 34 ?_
  refine pu_ 2 35 ?_
  refine pu_ 3 36 ?_
  refine pu_ 5 38 ?_
  refine pu_ 8 41 ?_
  refine pu_ 9 42 ?_
  refine pu_ 10 43 ?_
  refine iF (σ:=Value × Value × Value) 3 #[true,true,true,true,true,true,true,false,true,true,true,false,false] (fun s_=>[(33,s_.1),(37,s_.2.1),(39,s_.2.2)]) (fun s_ w'=>(Kd.R (Kd.int .i64) 3 w' w.heap.size (fun k_=>some k_≠(s_.2.2:Value).ownBlock) s_.2.1 y2)∧(Kd.R (Kd.int .i64) 3 w' w.heap.size (fun k_=>some k_≠(s_.2.1:Value).ownBlock) s_.2.2 y3)∧(Below w.heap.size w w')) ?_ ?_
  rotate_left
  ·intro hCont
   refine ig (i:=0) (j:=6) (Ni:=some 33) (Nj:=some 39) #[true,true,true,true,false,true,false,false,true,true,true,false,false] #[false,true,true,true,false,true,true,false,true,true,true,false,false] rfl rfl rfl rfl (ew HT_.out aY) ag ag (fun K hK=>?_) (fun K hK=>?_)
   ·refine Kd.R_lit_step (Kd.int .i64) _ 3 ?hg (N:=33) ?hd (xs:=([]:List Int)) (inner:=[]) (ok:=fun _=>True) (okp:=fun _=>True) ?hr ?hp (fun _ hk=>hk) trivial (Below.refl _ _) (Nat.le_refl _) bB ?_;(case hd=>rfl);(case hg=>rfl);(case hr=>go_simp;first|done|rfl);(case hp=>exact (aN.none _ _))
    intro v2 w2 ho37 hb hg_ hnew_;clear hg_ hnew_
    (first|rw [← Ny1.out] at ho37|(simp only [Int.reduceToNat] at ho37;rw [← Ny1.out] at ho37))
    have HO1:=A0_ (Kd.R_lower ho37 (bz_ ai));replace HB:=hb_ hb ai;clear hb ho37
    refine hK.out _ _ trivial (fun hHeld=>?_)
    clear hK K
    refine nm_ 33 ?_
    refine ig (i:=4) (j:=6) (Ni:=some 37) (Nj:=some 39) #[true,true,true,true,true,true,false,false,true,true,true,false,false] #[true,true,true,true,false,true,true,false,true,true,true,false,false] rfl rfl rfl rfl (ew HT_.out aY) ag ag (fun K hK=>?_) (fun K hK=>?_)
    ·refine Kd.R_append_rows_step (Kd.int .i64) (w0:=w) w.heap.size (by rfl) (.tmp 33) (.tmp 36) 22 3 (.int .i64 0) 8 rfl Tryz.underlying22 cW rfl ag bm v2 y1 (l0.take (x5_1:Int).toNat) _ _ _ (fun _=>True) (fun _=>False) rfl rfl ?aO ?aR (fun _ _ h=>h) (fun _ h=>h.elim) ?aF ?aB ?aS ?aL ?_
     (case aR=>first|(have e_:(l0.take (x5_1:Int).toNat).length=x5_1.toNat:=fo;have hx_:=cb_ HR183.out HB.out;rw [e_] at hx_;repeat (first|exact hx_|(with_reducible refine ca_ ?_ _)|(with_reducible refine cn_ ?_ _)|(with_reducible refine cd_ ?_)))|(repeat (first|exact (cb_ HR183.out HB.out)|(with_reducible refine ca_ ?_ _)|(with_reducible refine cn_ ?_ _)|(with_reducible refine cd_ ?_))))
     (case aB=>exact ai)
     (case aF=>exact (fun _ _=>trivial))
     (case aO=>exact bx)
     (case aS=>exact (bz_ ai))
     (case aL=>have:=LMc1.out;have hlx_:=(show (l0.take (x5_1:Int).toNat).length=x5_1.toNat from fo);omega)
     intro v3 w3 ho hb hg hat;rw [← Ny2.out] at ho;have n0_:=A0_ (hb);have n1_:=A0_ (ho);clear HB HO1;have HB:=n0_;have HO2:=n1_;clear n0_ n1_ ho hb hg hat
     refine hK.out _ _ trivial (fun hHeld=>?_)
     clear hK K
     refine nm_ 37 ?_
     refine on_ 6 (some 39) (fun K hK=>?_)
     refine Kd.R_lit_step (Kd.int .i64) _ 3 ?hg (N:=39) ?hd (xs:=([a1]:List Int)) (inner:=[.int .i64 a1]) (ok:=fun _=>True) (okp:=fun _=>True) ?hr ?hp (fun _ hk=>hk) trivial (Below.refl _ _) (Nat.le_refl _) bB ?_;(case hd=>rfl);(case hg=>rfl);(case hr=>go_simp;first|done|rfl);(case hp=>exact (aN.one (show Kd.M (Kd.int .i64) _ _ _ a1 [.int .i64 a1] from rfl) (aN.none _ _)))
     intro v4 w4 ho40 hb hg_ hnew_;clear hg_ hnew_
     (first|rw [← Ny3.out] at ho40|(simp only [Int.reduceToNat] at ho40;rw [← Ny3.out] at ho40))
     have HO3:=A0_ (Kd.R_lower (Kd.R_new' ho40 (Kd.R_lt cd)) (bz_ ai));replace HO2:=A0_ (Kd.R_elder' cd (Kd.R_base ho40) hb);replace HB:=hb_ hb ai;clear hb ho40
     refine hK.out _ _ trivial (fun hHeld=>?_)
     clear hK K
     refine nm_ 39 ?_
     exact dN dZ (hCont (v2,v3,v4) _ ⟨fu,lW,ai⟩)
    refine Kd.R_lit_step (Kd.int .i64) _ 3 ?hg (N:=39) ?hd (xs:=([a1]:List Int)) (inner:=[.int .i64 a1]) (ok:=fun _=>True) (okp:=fun _=>True) ?hr ?hp (fun _ hk=>hk) trivial (Below.refl _ _) (Nat.le_refl _) bB ?_;(case hd=>rfl);(case hg=>rfl);(case hr=>go_simp;first|done|rfl);(case hp=>exact (aN.one (show Kd.M (Kd.int .i64) _ _ _ a1 [.int .i64 a1] from rfl) (aN.none _ _)))
    intro v3 w3 ho39 hb hg_ hnew_;clear hg_ hnew_
    (first|rw [← Ny3.out] at ho39|(simp only [Int.reduceToNat] at ho39;rw [← Ny3.out] at ho39))
    have HO2:=A0_ (Kd.R_lower (Kd.R_new' ho39 (Kd.R_lt bx)) (bz_ ai));replace HO1:=A0_ (Kd.R_elder' bx (Kd.R_base ho39) hb);replace HB:=hb_ hb ai;clear hb ho39
    refine hK.out _ _ trivial (fun hHeld=>?_)
    clear hK K
    refine nm_ 39 ?_
    refine on_ 4 (some 37) (fun K hK=>?_)
    refine Kd.R_append_rows_step (Kd.int .i64) (w0:=w) w.heap.size (by rfl) (.tmp 33) (.tmp 36) 22 3 (.int .i64 0) 8 rfl Tryz.underlying22 cW rfl ag bm v2 y1 (l0.take (x5_1:Int).toNat) _ _ _ (fun k_=>no_ v3 k_) (fun _=>False) rfl rfl ?aO ?aR (fun _ _ h=>h) (fun _ h=>h.elim) ?aF ?aB ?aS ?aL ?_
    (case aR=>first|(have e_:(l0.take (x5_1:Int).toNat).length=x5_1.toNat:=fo;have hx_:=cb_ HR183.out HB.out;rw [e_] at hx_;repeat (first|exact hx_|(with_reducible refine ca_ ?_ _)|(with_reducible refine cn_ ?_ _)|(with_reducible refine cd_ ?_)))|(repeat (first|exact (cb_ HR183.out HB.out)|(with_reducible refine ca_ ?_ _)|(with_reducible refine cn_ ?_ _)|(with_reducible refine cd_ ?_))))
    (case aB=>exact ai)
    (case aF=>exact (fun k_ hk=>Kd.fresh' (Kd.R_lt cd) k_ hk))
    (case aO=>exact iu)
    (case aS=>exact (bz_ ai))
    (case aL=>have:=LMc1.out;have hlx_:=(show (l0.take (x5_1:Int).toNat).length=x5_1.toNat from fo);omega)
    intro v4 w4 ho hb hg hat;rw [← Ny2.out] at ho;have n0_:=A0_ (Kd.R_after (ok:=(fun _=>True)) cd hg hat);have n1_:=A0_ (hb);have n2_:=A0_ (ho);clear HO2 HB HO1;have HO2:=n0_;have HB:=n1_;have HO3:=n2_;clear n0_ n1_ n2_ ho hb hg hat
    refine hK.out _ _ trivial (fun hHeld=>?_)
    clear hK K
    refine nm_ 37 ?_
    exact dN dZ (hCont (v2,v4,v3) _ ⟨d9,fu,ai⟩)
   refine Kd.R_lit_step (Kd.int .i64) _ 3 ?hg (N:=39) ?hd (xs:=([a1]:List Int)) (inner:=[.int .i64 a1]) (ok:=fun _=>True) (okp:=fun _=>True) ?hr ?hp (fun _ hk=>hk) trivial (Below.refl _ _) (Nat.le_refl _) bB ?_;(case hd=>rfl);(case hg=>rfl);(case hr=>go_simp;first|done|rfl);(case hp=>exact (aN.one (show Kd.M (Kd.int .i64) _ _ _ a1 [.int .i64 a1] from rfl) (aN.none _ _)))
   intro v2 w2 ho37 hb hg_ hnew_;clear hg_ hnew_
   (first|rw [← Ny3.out] at ho37|(simp only [Int.reduceToNat] at ho37;rw [← Ny3.out] at ho37))
   have HO1:=A0_ (Kd.R_lower ho37 (bz_ ai));replace HB:=hb_ hb ai;clear hb ho37
   refine hK.out _ _ trivial (fun hHeld=>?_)
   clear hK K
   refine nm_ 39 ?_
   refine on_ 0 (some 33) (fun K hK=>?_)
   refine Kd.R_lit_step (Kd.int .i64) _ 3 ?hg (N:=33) ?hd (xs:=([]:List Int)) (inner:=[]) (ok:=fun _=>True) (okp:=fun _=>True) ?hr ?hp (fun _ hk=>hk) trivial (Below.refl _ _) (Nat.le_refl _) bB ?_;(case hd=>rfl);(case hg=>rfl);(case hr=>go_simp;first|done|rfl);(case hp=>exact (aN.none _ _))
   intro v3 w3 ho39 hb hg_ hnew_;clear hg_ hnew_
   (first|rw [← Ny1.out] at ho39|(simp only [Int.reduceToNat] at ho39;rw [← Ny1.out] at ho39))
   have HO2:=A0_ (Kd.R_lower (Kd.R_new' ho39 (Kd.R_lt bx)) (bz_ ai));replace HO1:=A0_ (Kd.R_elder' bx (Kd.R_base ho39) hb);replace HB:=hb_ hb ai;clear hb ho39
   refine hK.out _ _ trivial (fun hHeld=>?_)
   clear hK K
   refine nm_ 33 ?_
   refine on_ 4 (some 37) (fun K hK=>?_)
   refine Kd.R_append_rows_step (Kd.int .i64) (w0:=w) w.heap.size (by rfl) (.tmp 33) (.tmp 36) 22 3 (.int .i64 0) 8 rfl Tryz.underlying22 cW rfl ag bm v3 y1 (l0.take (x5_1:Int).toNat) _ _ _ (fun k_=>no_ v2 k_) (fun _=>False) rfl rfl ?aO ?aR (fun _ _ h=>h) (fun _ h=>h.elim) ?aF ?aB ?aS ?aL ?_
   (case aR=>first|(have e_:(l0.take (x5_1:Int).toNat).length=x5_1.toNat:=fo;have hx_:=cb_ HR183.out HB.out;rw [e_] at hx_;repeat (first|exact hx_|(with_reducible refine ca_ ?_ _)|(with_reducible refine cn_ ?_ _)|(with_reducible refine cd_ ?_)))|(repeat (first|exact (cb_ HR183.out HB.out)|(with_reducible refine ca_ ?_ _)|(with_reducible refine cn_ ?_ _)|(with_reducible refine cd_ ?_))))
   (case aB=>exact ai)
   (case aF=>exact (fun k_ hk=>Kd.fresh' (Kd.R_lt bx) k_ hk))
   (case aO=>exact fu)
   (case aS=>exact (bz_ ai))
   (case aL=>have:=LMc1.out;have hlx_:=(show (l0.take (x5_1:Int).toNat).length=x5_1.toNat from fo);omega)
   intro v4 w4 ho hb hg hat;rw [← Ny2.out] at ho;have n0_:=A0_ (Kd.R_after (ok:=(fun _=>True)) bx hg hat);have n1_:=A0_ (hb);have n2_:=A0_ (ho);clear HO1 HB HO2;have HO1:=n0_;have HB:=n1_;have HO3:=n2_;clear n0_ n1_ n2_ ho hb hg hat
   refine hK.out _ _ trivial (fun hHeld=>?_)
   clear hK K
   refine nm_ 37 ?_
   exact dN dZ (hCont (v3,v4,v2) _ ⟨d9,iu,ai⟩)
  rintro ⟨v2,v3,v4⟩ w2 ⟨h0_,h1_,h2_⟩
  try dsimp only at h0_ h1_ h2_
  have HO1:=A0_ h0_;have HO2:=A0_ h1_;replace HB:=A0_ h2_;clear h0_ h1_ h2_;have hHeld:=trivial;obtain ⟨Ao1,co1,eo1⟩:=Kd.R_slice HO2.out
  (first|subst eo1|(injection eo1 with f1_ f2_ f3_;have f4_:=f1_.symm;have f5_:=f3_.symm;clear f1_ f2_ f3_;subst f4_;subst f5_))
  refine nq_ ?_
  refine on_ 7 (some 40) (fun K hK=>?_)
  refine Kd.R_append_rows_step (Kd.int .i64) (w0:=w) w.heap.size (by rfl) (.tmp 37) (.tmp 39) 22 3 (.int .i64 0) 8 rfl Tryz.underlying22 cW rfl ag bm v3 y2 y3 _ _ _ (fun k_=>no_ (.slice Ao1 y3.length co1) k_) (fun _=>False) rfl rfl ?aO ?aR (fun _ _ h=>h) (fun _ h=>h.elim) ?aF ?aB ?aS ?aL ?_
  (case aR=>exact f6)
  (case aB=>exact ai)
  (case aF=>exact (fun k_ hk=>Kd.fresh' (Kd.R_lt cd) k_ hk))
  (case aO=>exact bx)
  (case aS=>exact (bz_ ai))
  (case aL=>have:=LMc2.out;omega)
  intro v5 w3 ho hb hg hat;rw [← Ny4.out] at ho;have n0_:=A0_ (Kd.R_after (ok:=(fun _=>True)) nU hg hat);have n1_:=A0_ (hb);have n2_:=A0_ (ho);clear HO2 HB HO1;have HO2:=n0_;have HB:=n1_;have HO3:=n2_;clear n0_ n1_ n2_ ho hb hg hat
  refine hK.out _ _ trivial (fun hHeld=>?_)
  clear hK K
  refine nm_ 40 ?_
  refine on_ 11 (some 44) (fun K hK=>?_)
  refine Kd.R_append_rows_step (Kd.int .i64) (w0:=w) w.heap.size (by rfl) (.tmp 40) (.tmp 43) 22 3 (.int .i64 0) 8 rfl Tryz.underlying22 cW rfl ag bm v5 y4 (l0.drop (x5_1:Int).toNat) _ _ _ (fun k_=>no_ (.slice Ao1 y3.length co1) k_) (fun _=>False) rfl rfl ?aO ?aR (fun _ _ h=>h) (fun _ h=>h.elim) ?aF ?aB ?aS ?aL ?_
  (case aR=>first|(rw [← show (l0.drop (x5_1:Int).toNat).length=(l0.length - x5_1.toNat) from ld_];repeat (first|exact (cb_ HR193.out HB.out)|(with_reducible refine ca_ ?_ _)|(with_reducible refine cn_ ?_ _)|(with_reducible refine cd_ ?_)))|(repeat (first|exact (cb_ HR193.out HB.out)|(with_reducible refine ca_ ?_ _)|(with_reducible refine cn_ ?_ _)|(with_reducible refine cd_ ?_))))
  (case aB=>exact ai)
  (case aF=>exact (fun k_ hk=>Kd.fresh' (Kd.R_lt cd) k_ hk))
  (case aO=>exact d9)
  (case aS=>exact (bz_ ai))
  (case aL=>have:=LMc3.out;have hlx_:=(show (l0.drop (x5_1:Int).toNat).length=(l0.length - x5_1.toNat) from ld_);omega)
  intro v6 w4 ho hb hg hat;rw [← Ny5.out] at ho;have n0_:=A0_ (Kd.R_after (ok:=(fun _=>True)) cd hg hat);have n1_:=A0_ (hb);have n2_:=A0_ (ho);clear HO2 HB HO3;have HO2:=n0_;have HB:=n1_;have HO4:=n2_;clear n0_ n1_ n2_ ho hb hg hat
  refine hK.out _ _ trivial (fun hHeld=>?_)
  clear hK K
  refine nm_ 44 ?_
  refine pu_ 12 4 ?_
  refine dn_ ?_
  try go_wp2
  go_ret
  exact ⟨_,aE,mY,ai⟩
 rw [if_pos c1] at H;have c1b0:decide (x5_1<(l0.length:Int))=true:=dt_ c1;clear c1;obtain ⟨c2b0,H⟩:=i1_ H
 by_cases c3:(rd l0 x5_1)<a1
 ·rw [if_pos c3] at H
  have c3b0:decide ((rd l0 x5_1)<a1)=true:=dt_ c3;clear c3;have H':=A0_ H;clear H;have p1:0≤(x5_1:Int):=od_ ay;have q1:x5_1<(l0.length:Int):=od_ ay;obtain ⟨ad1,e1,hx1_0⟩:=Kd.at_int HR0.out x5_1 p1 q1;cases e1;replace hx1_0:=(HB.out.cell (World.block_lt_of_cell? w _ hx1_0)).trans hx1_0;replace p1:=eq_true p1;replace q1:=eq_true q1
  go_wp2
  go_roundg k1
  case measure=>have:=HK1.out;omega
  exact ⟨(wrap64 (x5_1+1)),aX,H',⟨dj⟩,⟨ai⟩⟩
 rw [if_neg c3] at H;have c3b0:decide ((rd l0 x5_1)<a1)=false:=decide_eq_false c3;clear c3
 by_cases c4:(rd l0 x5_1)=a1
 ·rw [if_pos c4] at H
  exact absurd H bB
 rw [if_neg c4] at H;obtain ⟨c4b0,c4b1⟩:=ef_ c4;obtain ⟨y1,hy1⟩:∃ y_:List Int,y_=(([]:List Int)):=⟨_,rfl⟩;replace H:(if x5_1≤(l0.length:Int) then (if y1.length+(l0.take (x5_1:Int).toNat).length<17592186044416 then ((some (y1++(l0.take (x5_1:Int).toNat):List Int)).bind fun y2=>((some (([a1]:List Int):List Int)).bind fun y3=>(if y2.length+y3.length<17592186044416 then ((some (y2++y3:List Int)).bind fun y4=>(if y4.length+(l0.drop (x5_1:Int).toNat).length<17592186044416 then (some (y4++(l0.drop (x5_1:Int).toNat))) else (none))) else (none)))) else (none)) else (none))=some r:=dx;have Ny1:=A0_ hy1;clear hy1;have c5b0:=eq_true (od_ ay:0≤x5_1);obtain ⟨c6b0,c6b1,H⟩:=i2_ H;obtain ⟨c7,H⟩:=is_ H;have LMc1:=A0_ c7;clear c7;obtain ⟨y2,hy2⟩:∃ y_:List Int,y_=(y1++(l0.take (x5_1:Int).toNat)):=⟨_,rfl⟩;replace H:((some (([a1]:List Int):List Int)).bind fun y3=>(if y2.length+y3.length<17592186044416 then ((some (y2++y3:List Int)).bind fun y4=>(if y4.length+(l0.drop (x5_1:Int).toNat).length<17592186044416 then (some (y4++(l0.drop (x5_1:Int).toNat))) else (none))) else (none)))=some r:=dH;have Ny2:=A0_ hy2;clear hy2;obtain ⟨y3,hy3⟩:∃ y_:List Int,y_=(([a1]:List Int)):=⟨_,rfl⟩;replace H:(if y2.length+y3.length<17592186044416 then ((some (y2++y3:List Int)).bind fun y4=>(if y4.length+(l0.drop (x5_1:Int).toNat).length<17592186044416 then (some (y4++(l0.drop (x5_1:Int).toNat))) else (none))) else (none))=some r:=it;have Ny3:=A0_ hy3;clear hy3;obtain ⟨c8,H⟩:=is_ H;have LMc2:=A0_ c8;clear c8;obtain ⟨y4,hy4⟩:∃ y_:List Int,y_=(y2++y3):=⟨_,rfl⟩;replace H:(if y4.length+(l0.drop (x5_1:Int).toNat).length<17592186044416 then (some (y4++(l0.drop (x5_1:Int).toNat))) else (none))=some r:=lU;have Ny4:=A0_ hy4;clear hy4;have c9b0:=eq_true (od_ ay:0≤x5_1);have c10b0:=eq_true (od_ ay:x5_1≤(l0.length:Int));obtain ⟨c11,H⟩:=is_ H;have LMc3:=A0_ c11;clear c11;obtain ⟨y5,hy5⟩:∃ y_:List Int,y_=(y4++(l0.drop (x5_1:Int).toNat)):=⟨_,rfl⟩;replace H:(some y5)=some r:=nN;have Ny5:=A0_ hy5;clear hy5;obtain rfl:=si_ H;have p1:0≤(x5_1:Int):=od_ ay;have q1:x5_1<(l0.length:Int):=od_ ay;obtain ⟨ad1,e1,hx1_0⟩:=Kd.at_int HR0.out x5_1 p1 q1;cases e1;replace hx1_0:=(HB.out.cell (World.block_lt_of_cell? w _ hx1_0)).trans hx1_0;replace p1:=eq_true p1;replace q1:=eq_true q1;have p2:0≤(x5_1:Int):=od_ ay;have q2:x5_1<(l0.length:Int):=od_ ay;obtain ⟨ad2,e2,hx2_0⟩:=Kd.at_int HR0.out x5_1 p2 q2;obtain rfl:ad1=ad2:=fm;replace hx2_0:=(HB.out.cell (World.block_lt_of_cell? w _ hx2_0)).trans hx2_0;replace p2:=eq_true p2;replace q2:=eq_true q2
 try go_wp2
 replace HB:=A0_ (bd_ HB.out);obtain ⟨i015,hi015,_,hsz15,_⟩:=info_parts cW;obtain ⟨hcut15,hA15,hC15⟩:=gm (P:=Tryz.prog) (Value.int .i64) 0 22 3 .i64 Tryz.underlying22 hi015 hsz15 (some ad1) c0 l0 x5_1 (od_ ay) (od_ ay) HC0.out;have HR166:=A0_ (Kd.C_of_reads (h1:=fun _=>rfl) (hA15 _ (Kd.reads_of_C HR0.out)));have HC166:=A0_ hC15;clear hA15 hC15 hi015 hsz15;obtain ⟨i016,hi016,_,hsz16,_⟩:=info_parts cW;obtain ⟨A1,hcut16,hA16,hC16⟩:=eg (P:=Tryz.prog) (Value.int .i64) 0 22 3 .i64 Tryz.underlying22 hi016 hsz16 (some ad1) c0 l0 x5_1 (od_ ay) (od_ ay) HC0.out;have HR176:=A0_ (Kd.C_of_reads (h1:=fun _=>rfl) (hA16 _ (Kd.reads_of_C HR0.out)));have HC176:=A0_ hC16;clear hA16 hC16 hi016 hsz16
 refine dd (n:=13) (S:=fun w'=>True) (ds:=[]) #[false,false,false,false,false,false,false,false,false,false,false,false,false] aY rfl rfl trivial (fun hHeld=>?_);refine cu bg.tab6 bg.bits6 (fun HT_ HW_=>?_)
 generalize wr.drew=w1 at HB HR166 HR176 hHeld ⊢
 refine pu_ 1 34 ?_
 refine pu_ 2 35 ?_
 refine pu_ 3 36 ?_
 refine pu_ 5 38 ?_
 refine pu_ 8 41 ?_
 refine pu_ 9 42 ?_
 refine pu_ 10 43 ?_
 refine iF (σ:=Value × Value × Value) 3 #[true,true,true,true,true,true,true,false,true,true,true,false,false] (fun s_=>[(33,s_.1),(37,s_.2.1),(39,s_.2.2)]) (fun s_ w'=>(Kd.R (Kd.int .i64) 3 w' w.heap.size (fun k_=>some k_≠(s_.2.2:Value).ownBlock) s_.2.1 y2)∧(Kd.R (Kd.int .i64) 3 w' w.heap.size (fun k_=>some k_≠(s_.2.1:Value).ownBlock) s_.2.2 y3)∧(Below w.heap.size w w')) ?_ ?_
 rotate_left
 ·intro hCont
  refine ig (i:=0) (j:=6) (Ni:=some 33) (Nj:=some 39) #[true,true,true,true,false,true,false,false,true,true,true,false,false] #[false,true,true,true,false,true,true,false,true,true,true,false,false] rfl rfl rfl rfl (ew HT_.out aY) ag ag (fun K hK=>?_) (fun K hK=>?_)
  ·refine Kd.R_lit_step (Kd.int .i64) _ 3 ?hg (N:=33) ?hd (xs:=([]:List Int)) (inner:=[]) (ok:=fun _=>True) (okp:=fun _=>True) ?hr ?hp (fun _ hk=>hk) trivial (Below.refl _ _) (Nat.le_refl _) bB ?_;(case hd=>rfl);(case hg=>rfl);(case hr=>go_simp;first|done|rfl);(case hp=>exact (aN.none _ _))
   intro v2 w2 ho18 hb hg_ hnew_;clear hg_ hnew_
   (first|rw [← Ny1.out] at ho18|(simp only [Int.reduceToNat] at ho18;rw [← Ny1.out] at ho18))
   have HO1:=A0_ (Kd.R_lower ho18 (bz_ ai));replace HB:=hb_ hb ai;clear hb ho18
   refine hK.out _ _ trivial (fun hHeld=>?_)
   clear hK K
   refine nm_ 33 ?_
   refine ig (i:=4) (j:=6) (Ni:=some 37) (Nj:=some 39) #[true,true,true,true,true,true,false,false,true,true,true,false,false] #[true,true,true,true,false,true,true,false,true,true,true,false,false] rfl rfl rfl rfl (ew HT_.out aY) ag ag (fun K hK=>?_) (fun K hK=>?_)
   ·refine Kd.R_append_rows_step (Kd.int .i64) (w0:=w) w.heap.size (by rfl) (.tmp 33) (.tmp 36) 22 3 (.int .i64 0) 8 rfl Tryz.underlying22 cW rfl ag bm v2 y1 (l0.take (x5_1:Int).toNat) _ _ _ (fun _=>True) (fun _=>False) rfl rfl ?aO ?aR (fun _ _ h=>h) (fun _ h=>h.elim) ?aF ?aB ?aS ?aL ?_
    (case aR=>first|(have e_:(l0.take (x5_1:Int).toNat).length=x5_1.toNat:=fo;have hx_:=cb_ HR166.out HB.out;rw [e_] at hx_;repeat (first|exact hx_|(with_reducible refine ca_ ?_ _)|(with_reducible refine cn_ ?_ _)|(with_reducible refine cd_ ?_)))|(repeat (first|exact (cb_ HR166.out HB.out)|(with_reducible refine ca_ ?_ _)|(with_reducible refine cn_ ?_ _)|(with_reducible refine cd_ ?_))))
    (case aB=>exact ai)
    (case aF=>exact (fun _ _=>trivial))
    (case aO=>exact bx)
    (case aS=>exact (bz_ ai))
    (case aL=>have:=LMc1.out;have hlx_:=(show (l0.take (x5_1:Int).toNat).length=x5_1.toNat from fo);omega)
    intro v3 w3 ho hb hg hat;rw [← Ny2.out] at ho;have n0_:=A0_ (hb);have n1_:=A0_ (ho);clear HB HO1;have HB:=n0_;have HO2:=n1_;clear n0_ n1_ ho hb hg hat
    refine hK.out _ _ trivial (fun hHeld=>?_)
    clear hK K
    refine nm_ 37 ?_
    refine on_ 6 (some 39) (fun K hK=>?_)
    refine Kd.R_lit_step (Kd.int .i64) _ 3 ?hg (N:=39) ?hd (xs:=([a1]:List Int)) (inner:=[.int .i64 a1]) (ok:=fun _=>True) (okp:=fun _=>True) ?hr ?hp (fun _ hk=>hk) trivial (Below.refl _ _) (Nat.le_refl _) bB ?_;(case hd=>rfl);(case hg=>rfl);(case hr=>go_simp;first|done|rfl);(case hp=>exact (aN.one (show Kd.M (Kd.int .i64) _ _ _ a1 [.int .i64 a1] from rfl) (aN.none _ _)))
    intro v4 w4 ho21 hb hg_ hnew_;clear hg_ hnew_
    (first|rw [← Ny3.out] at ho21|(simp only [Int.reduceToNat] at ho21;rw [← Ny3.out] at ho21))
    have HO3:=A0_ (Kd.R_lower (Kd.R_new' ho21 (Kd.R_lt cd)) (bz_ ai));replace HO2:=A0_ (Kd.R_elder' cd (Kd.R_base ho21) hb);replace HB:=hb_ hb ai;clear hb ho21
    refine hK.out _ _ trivial (fun hHeld=>?_)
    clear hK K
    refine nm_ 39 ?_
    exact dN dZ (hCont (v2,v3,v4) _ ⟨fu,lW,ai⟩)
   refine Kd.R_lit_step (Kd.int .i64) _ 3 ?hg (N:=39) ?hd (xs:=([a1]:List Int)) (inner:=[.int .i64 a1]) (ok:=fun _=>True) (okp:=fun _=>True) ?hr ?hp (fun _ hk=>hk) trivial (Below.refl _ _) (Nat.le_refl _) bB ?_;(case hd=>rfl);(case hg=>rfl);(case hr=>go_simp;first|done|rfl);(case hp=>exact (aN.one (show Kd.M (Kd.int .i64) _ _ _ a1 [.int .i64 a1] from rfl) (aN.none _ _)))
   intro v3 w3 ho20 hb hg_ hnew_;clear hg_ hnew_
   (first|rw [← Ny3.out] at ho20|(simp only [Int.reduceToNat] at ho20;rw [← Ny3.out] at ho20))
   have HO2:=A0_ (Kd.R_lower (Kd.R_new' ho20 (Kd.R_lt bx)) (bz_ ai));replace HO1:=A0_ (Kd.R_elder' bx (Kd.R_base ho20) hb);replace HB:=hb_ hb ai;clear hb ho20
   refine hK.out _ _ trivial (fun hHeld=>?_)
   clear hK K
   refine nm_ 39 ?_
   refine on_ 4 (some 37) (fun K hK=>?_)
   refine Kd.R_append_rows_step (Kd.int .i64) (w0:=w) w.heap.size (by rfl) (.tmp 33) (.tmp 36) 22 3 (.int .i64 0) 8 rfl Tryz.underlying22 cW rfl ag bm v2 y1 (l0.take (x5_1:Int).toNat) _ _ _ (fun k_=>no_ v3 k_) (fun _=>False) rfl rfl ?aO ?aR (fun _ _ h=>h) (fun _ h=>h.elim) ?aF ?aB ?aS ?aL ?_
   (case aR=>first|(have e_:(l0.take (x5_1:Int).toNat).length=x5_1.toNat:=fo;have hx_:=cb_ HR166.out HB.out;rw [e_] at hx_;repeat (first|exact hx_|(with_reducible refine ca_ ?_ _)|(with_reducible refine cn_ ?_ _)|(with_reducible refine cd_ ?_)))|(repeat (first|exact (cb_ HR166.out HB.out)|(with_reducible refine ca_ ?_ _)|(with_reducible refine cn_ ?_ _)|(with_reducible refine cd_ ?_))))
   (case aB=>exact ai)
   (case aF=>exact (fun k_ hk=>Kd.fresh' (Kd.R_lt cd) k_ hk))
   (case aO=>exact iu)
   (case aS=>exact (bz_ ai))
   (case aL=>have:=LMc1.out;have hlx_:=(show (l0.take (x5_1:Int).toNat).length=x5_1.toNat from fo);omega)
   intro v4 w4 ho hb hg hat;rw [← Ny2.out] at ho;have n0_:=A0_ (Kd.R_after (ok:=(fun _=>True)) cd hg hat);have n1_:=A0_ (hb);have n2_:=A0_ (ho);clear HO2 HB HO1;have HO2:=n0_;have HB:=n1_;have HO3:=n2_;clear n0_ n1_ n2_ ho hb hg hat
   refine hK.out _ _ trivial (fun hHeld=>?_)
   clear hK K
   refine nm_ 37 ?_
   exact dN dZ (hCont (v2,v4,v3) _ ⟨d9,fu,ai⟩)
  refine Kd.R_lit_step (Kd.int .i64) _ 3 ?hg (N:=39) ?hd (xs:=([a1]:List Int)) (inner:=[.int .i64 a1]) (ok:=fun _=>True) (okp:=fun _=>True) ?hr ?hp (fun _ hk=>hk) trivial (Below.refl _ _) (Nat.le_refl _) bB ?_;(case hd=>rfl);(case hg=>rfl);(case hr=>go_simp;first|done|rfl);(case hp=>exact (aN.one (show Kd.M (Kd.int .i64) _ _ _ a1 [.int .i64 a1] from rfl) (aN.none _ _)))
  intro v2 w2 ho18 hb hg_ hnew_;clear hg_ hnew_
  (first|rw [← Ny3.out] at ho18|(simp only [Int.reduceToNat] at ho18;rw [← Ny3.out] at ho18))
  have HO1:=A0_ (Kd.R_lower ho18 (bz_ ai));replace HB:=hb_ hb ai;clear hb ho18
  refine hK.out _ _ trivial (fun hHeld=>?_)
  clear hK K
  refine nm_ 39 ?_
  refine on_ 0 (some 33) (fun K hK=>?_)
  refine Kd.R_lit_step (Kd.int .i64) _ 3 ?hg (N:=33) ?hd (xs:=([]:List Int)) (inner:=[]) (ok:=fun _=>True) (okp:=fun _=>True) ?hr ?hp (fun _ hk=>hk) trivial (Below.refl _ _) (Nat.le_refl _) bB ?_;(case hd=>rfl);(case hg=>rfl);(case hr=>go_simp;first|done|rfl);(case hp=>exact (aN.none _ _))
  intro v3 w3 ho20 hb hg_ hnew_;clear hg_ hnew_
  (first|rw [← Ny1.out] at ho20|(simp only [Int.reduceToNat] at ho20;rw [← Ny1.out] at ho20))
  have HO2:=A0_ (Kd.R_lower (Kd.R_new' ho20 (Kd.R_lt bx)) (bz_ ai));replace HO1:=A0_ (Kd.R_elder' bx (Kd.R_base ho20) hb);replace HB:=hb_ hb ai;clear hb ho20
  refine hK.out _ _ trivial (fun hHeld=>?_)
  clear hK K
  refine nm_ 33 ?_
  refine on_ 4 (some 37) (fun K hK=>?_)
  refine Kd.R_append_rows_step (Kd.int .i64) (w0:=w) w.heap.size (by rfl) (.tmp 33) (.tmp 36) 22 3 (.int .i64 0) 8 rfl Tryz.underlying22 cW rfl ag bm v3 y1 (l0.take (x5_1:Int).toNat) _ _ _ (fun k_=>no_ v2 k_) (fun _=>False) rfl rfl ?aO ?aR (fun _ _ h=>h) (fun _ h=>h.elim) ?aF ?aB ?aS ?aL ?_
  (case aR=>first|(have e_:(l0.take (x5_1:Int).toNat).length=x5_1.toNat:=fo;have hx_:=cb_ HR166.out HB.out;rw [e_] at hx_;repeat (first|exact hx_|(with_reducible refine ca_ ?_ _)|(with_reducible refine cn_ ?_ _)|(with_reducible refine cd_ ?_)))|(repeat (first|exact (cb_ HR166.out HB.out)|(with_reducible refine ca_ ?_ _)|(with_reducible refine cn_ ?_ _)|(with_reducible refine cd_ ?_))))
  (case aB=>exact ai)
  (case aF=>exact (fun k_ hk=>Kd.fresh' (Kd.R_lt bx) k_ hk))
  (case aO=>exact fu)
  (case aS=>exact (bz_ ai))
  (case aL=>have:=LMc1.out;have hlx_:=(show (l0.take (x5_1:Int).toNat).length=x5_1.toNat from fo);omega)
  intro v4 w4 ho hb hg hat;rw [← Ny2.out] at ho;have n0_:=A0_ (Kd.R_after (ok:=(fun _=>True)) bx hg hat);have n1_:=A0_ (hb);have n2_:=A0_ (ho);clear HO1 HB HO2;have HO1:=n0_;have HB:=n1_;have HO3:=n2_;clear n0_ n1_ n2_ ho hb hg hat
  refine hK.out _ _ trivial (fun hHeld=>?_)
  clear hK K
  refine nm_ 37 ?_
  exact dN dZ (hCont (v3,v4,v2) _ ⟨d9,iu,ai⟩)
 rintro ⟨v2,v3,v4⟩ w2 ⟨h0_,h1_,h2_⟩
 try dsimp only at h0_ h1_ h2_
 have HO1:=A0_ h0_;have HO2:=A0_ h1_;replace HB:=A0_ h2_;clear h0_ h1_ h2_;have hHeld:=trivial;obtain ⟨Ao1,co1,eo1⟩:=Kd.R_slice HO2.out
 (first|subst eo1|(injection eo1 with f1_ f2_ f3_;have f4_:=f1_.symm;have f5_:=f3_.symm;clear f1_ f2_ f3_;subst f4_;subst f5_))
 refine nq_ ?_
 refine on_ 7 (some 40) (fun K hK=>?_)
 refine Kd.R_append_rows_step (Kd.int .i64) (w0:=w) w.heap.size (by rfl) (.tmp 37) (.tmp 39) 22 3 (.int .i64 0) 8 rfl Tryz.underlying22 cW rfl ag bm v3 y2 y3 _ _ _ (fun k_=>no_ (.slice Ao1 y3.length co1) k_) (fun _=>False) rfl rfl ?aO ?aR (fun _ _ h=>h) (fun _ h=>h.elim) ?aF ?aB ?aS ?aL ?_
 (case aR=>exact f6)
 (case aB=>exact ai)
 (case aF=>exact (fun k_ hk=>Kd.fresh' (Kd.R_lt cd) k_ hk))
 (case aO=>exact bx)
 (case aS=>exact (bz_ ai))
 (case aL=>have:=LMc2.out;omega)
 intro v5 w3 ho hb hg hat;rw [← Ny4.out] at ho;have n0_:=A0_ (Kd.R_after (ok:=(fun _=>True)) nU hg hat);have n1_:=A0_ (hb);have n2_:=A0_ (ho);clear HO2 HB HO1;have HO2:=n0_;have HB:=n1_;have HO3:=n2_;clear n0_ n1_ n2_ ho hb hg hat
 refine hK.out _ _ trivial (fun hHeld=>?_)
 clear hK K
 refine nm_ 40 ?_
 refine on_ 11 (some 44) (fun K hK=>?_)
 refine Kd.R_append_rows_step (Kd.int .i64) (w0:=w) w.heap.size (by rfl) (.tmp 40) (.tmp 43) 22 3 (.int .i64 0) 8 rfl Tryz.underlying22 cW rfl ag bm v5 y4 (l0.drop (x5_1:Int).toNat) _ _ _ (fun k_=>no_ (.slice Ao1 y3.length co1) k_) (fun _=>False) rfl rfl ?aO ?aR (fun _ _ h=>h) (fun _ h=>h.elim) ?aF ?aB ?aS ?aL ?_
 (case aR=>first|(rw [← show (l0.drop (x5_1:Int).toNat).length=(l0.length - x5_1.toNat) from ld_];repeat (first|exact (cb_ HR176.out HB.out)|(with_reducible refine ca_ ?_ _)|(with_reducible refine cn_ ?_ _)|(with_reducible refine cd_ ?_)))|(repeat (first|exact (cb_ HR176.out HB.out)|(with_reducible refine ca_ ?_ _)|(with_reducible refine cn_ ?_ _)|(with_reducible refine cd_ ?_))))
 (case aB=>exact ai)
 (case aF=>exact (fun k_ hk=>Kd.fresh' (Kd.R_lt cd) k_ hk))
 (case aO=>exact d9)
 (case aS=>exact (bz_ ai))
 (case aL=>have:=LMc3.out;have hlx_:=(show (l0.drop (x5_1:Int).toNat).length=(l0.length - x5_1.toNat) from ld_);omega)
 intro v6 w4 ho hb hg hat;rw [← Ny5.out] at ho;have n0_:=A0_ (Kd.R_after (ok:=(fun _=>True)) cd hg hat);have n1_:=A0_ (hb);have n2_:=A0_ (ho);clear HO2 HB HO3;have HO2:=n0_;have HB:=n1_;have HO4:=n2_;clear n0_ n1_ n2_ ho hb hg hat
 refine hK.out _ _ trivial (fun hHeld=>?_)
 clear hK K
 refine nm_ 44 ?_
 refine pu_ 12 4 ?_
 refine dn_ ?_
 try go_wp2
 go_ret
 exact ⟨_,aE,mY,ai⟩

def bH.f (k:Nat) (a0_0:Int) (a0_1:Bool) (l0_2:List Int) (a1:Int):Option (Int × Bool × List Int):=(cI.f l0_2).bind fun t148=>((bg.f k t148 a1).bind fun t151=>((dn.f a0_0 a0_1 l0_2 t151).bind fun bt154=>(some (bt154.1,bt154.2.1,bt154.2.2))))
theorem bH.mono:∀ a0 a1 a2 a3 k,LeO (bH.f k a0 a1 a2 a3) (bH.f (k+1) a0 a1 a2 a3):=by
 intro a0 a1 a2 a3 k;unfold bH.f
 repeat' with_reducible first|exact bg.mono ..|exact LeO.refl ..|exact LeO.none ..|refine LeO.ite ?_ ?_|refine LeO.bind ?_ (fun _=>?_)
def bH.T1:Bool × List (List Nat × List Nat):=(true,[([],[]),([],[]),([1],[1]),([2],[2]),([],[]),([3,4,3],[3,4]),([0,5,5],[0,5]),([6,6,0,1,2,3,4,5,6],[6])])
def bH.B1:List Nat:=[0,0,2,6,0,30,63,127]
theorem bH.tab1:df .any (dO Tryz.f93 1)=bH.T1:=by kernel_rfl
theorem bH.bits1:ce bH.T1.2 bH.B1=true:=by kernel_rfl
theorem bH.calls (k:Nat) (a0_0:Int) (a0_1:Bool) (A0_2:Option Addr) (c0_2:Nat) (l0_2:List Int) (a1:Int) (r1:Int) (r2:Bool) (r3:List Int) (w:World) (hr0_2:Kd.C (Kd.int .i64) w A0_2 l0_2.length l0_2) (hc0_2:l0_2.length≤c0_2) (H:bH.f k a0_0 a0_1 l0_2 a1=some (r1,r2,r3)) :
  Calls Tryz.prog 93 #[.agg #[.int .i64 a0_0,.bool a0_1,.slice A0_2 l0_2.length c0_2],.int .i64 a1] w fun e w'=>∃ v2_:Value,e=.returned (.agg #[.int .i64 r1,.bool r2,v2_])∧Kd.R (Kd.int .i64) 3 w' w.heap.size (fun _=>True) v2_ r3∧Below w.heap.size w w':=by
 have hu30:=Tryz.underlying30;have HR0_2:=A0_ hr0_2;have HC0_2:=A0_ hc0_2;clear hr0_2 hc0_2;have HB:=A0_ (Below.refl w.heap.size w);unfold bH.f at H;obtain ⟨t1,A2,H⟩:=o1_ H;obtain ⟨t2,A4,H⟩:=o1_ H;obtain ⟨⟨t3,t4,t5⟩,A6,H⟩:=o1_ H;replace H:(some (t3,t4,t5))=some (r1,r2,r3):=H;simp only [sj_,pj_] at H;obtain ⟨rfl,rfl,rfl⟩:=H;go_enter Tryz.func93,Tryz.ntmps93
 try go_wp2_with (first|((with_reducible refine gd_ (N:=2) rfl ?_);refine bx_ 2 #[.int .i64 a0_0,.bool a0_1,.slice A0_2 l0_2.length c0_2] 30 ?_;intro gb1 hg w1 BK1 hb;have GW1:=ge_ hg ai;have GE1:=GW1;replace HB:=hb_ hb ai;clear hb hg)|((with_reducible refine gd_ (N:=4) rfl ?_);refine bx_ 4 #[.int .i64 0,.bool false,.slice none 0 0] 30 ?_;intro gb2 hg w2 BK2 hb;have GW2:=ge_ hg aj;have GE2:=GW2;replace HB:=hb_ hb aj;obtain ⟨NB1_2,NB2_1⟩:=nn_ hg BK1;replace BK1:=k1_ BK1 hb;clear hb hg))
 replace BK1:=A0_ (kd_ BK1.out);replace BK2:=A0_ (kd_ BK2.out);replace HB:=A0_ (bd_ HB.out)
 refine s3_ 8 [] BK1 bH.tab1 bH.bits1 (fun hHeld HT_ HW_=>?_)
 generalize w2.drew=w3 at BK1 BK2 HB hHeld ⊢
 refine pu_ 1 6 ?_
 refine pu_ 4 9 ?_
 refine tk_ 0 5 hHeld ?_
 refine tk_ 2 7 hHeld ?_
 refine on_ 3 (some 8) (fun K hK=>?_)
 refine gs_ Tryz.func67 #[.slice A0_2 l0_2.length c0_2] ?_
 with_reducible refine (cI.calls _ _ l0_2 t1 _ ?_ ?_ A2.out).mono ?_
 exact bz
 exact HC0_2.out
 rintro e w4 ⟨v1,rfl,ho0,hb⟩
 refine ⟨_,rfl,?_⟩
 have HO1:=A0_ (Kd.R_lower ho0 (bz_ au));replace BK1:=k1_ BK1 hb;replace BK2:=k1_ BK2 hb;replace HB:=hb_ hb au
 (try clear hb ho0)
 obtain ⟨Ao1,co1,eo1⟩:=Kd.R_slice HO1.out
 (first|subst eo1|(injection eo1 with f1_ f2_ f3_;have f4_:=f1_.symm;have f5_:=f3_.symm;clear f1_ f2_ f3_;subst f4_;subst f5_))
 refine hK.out _ _ (c3_ BK1) (fun hHeld=>?_)
 clear hK K
 refine nm_ 8 ?_
 refine on_ 5 (some 10) (fun K hK=>?_)
 refine gs_ Tryz.func106 #[.slice Ao1 t1.length co1,.int .i64 a1] ?_
 with_reducible refine (bg.calls k _ _ t1 a1 t2 _ ?_ ?_ A4.out).mono ?_
 exact dW
 exact (rr_ HO1.out).2.1
 rintro e w5 ⟨v3,rfl,ho0,hb⟩
 refine ⟨_,rfl,?_⟩
 have HO2:=A0_ (Kd.R_lower (Kd.R_new' ho0 (Kd.R_lt bx)) (bz_ au));replace HO1:=A0_ (Kd.R_elder' bx (Kd.R_base ho0) hb);replace BK1:=k1_ BK1 hb;replace BK2:=k1_ BK2 hb;replace HB:=hb_ hb au
 (try clear hb ho0)
 obtain ⟨Ao2,co2,eo2⟩:=Kd.R_slice HO2.out
 (first|subst eo2|(injection eo2 with f1_ f2_ f3_;have f4_:=f1_.symm;have f5_:=f3_.symm;clear f1_ f2_ f3_;subst f4_;subst f5_))
 refine hK.out _ _ (c3_ BK1) (fun hHeld=>?_)
 clear hK K
 refine nm_ 10 ?_
 refine on_ 6 (some 11) (fun K hK=>?_)
 refine gs_ Tryz.func105 #[.agg #[.int .i64 a0_0,.bool a0_1,.slice A0_2 l0_2.length c0_2],.slice Ao2 t2.length co2] ?_
 with_reducible refine (dn.calls a0_0 a0_1 _ _ l0_2 (fun k_=>some k_=(.slice Ao2 t2.length co2:Value).ownBlock) (.slice Ao2 t2.length co2) t2 t3 t4 t5 w _ ?_ ?_ ?_ ?_ A6.out).mono ?_
 exact au
 exact Kd.C_kept_came (Kd.heap_int .i64) HR0_2.out au (fun k_ hs_=>(fun e_=>Kd.R_base HO2.out k_ e_.symm) hs_)
 exact HC0_2.out
 exact Kd.R_tight rfl HO2.out
 rintro e w6 ⟨v4,rfl,ho0,hb,hkp⟩
 refine ⟨_,rfl,?_⟩
 have n0_:=A0_ (fw (u1_ BK1) hkp (fun hs_=>(fun e_=>(Kd.R_ne HO2.out BK1.out ag) e_) hs_));have n1_:=A0_ (fw (u1_ BK2) hkp (fun hs_=>(fun e_=>(Kd.R_ne HO2.out BK2.out ag) e_) hs_));have n2_:=A0_ (Kd.R_mono (ok':=fun k_=>no_ v4 k_) (Kd.R_keptB (HO1.out) hkp (fun k_ hk_ hs_=>(hk_.2) hs_)) (fun k_ hk_=>fun e_=>Or.elim (ho0.1 k_ e_.symm) (fun hs_=>hk_.2.1 hs_) (fun hn_=>Nat.not_le.2 hk_.2.2 hn_)));have n3_:=A0_ (Kd.R_mono (ok':=fun k_=>no_ (.slice Ao1 t1.length co1) k_) ho0 (fun k_ hk_=>Or.elim hk_ (fun hs_=>fun e_=>(((HO1.out).1 k_ e_.symm).2) hs_) (fun hn_=>(Kd.fresh' (Kd.R_lt bx) k_ hn_))));have n4_:=A0_ (hb);clear BK1 BK2 HO1 HB HO2;have BK1:=n0_;have BK2:=n1_;have HO1:=n2_;have HO3:=n3_;have HB:=n4_;clear n0_ n1_ n2_ n3_ n4_
 (try clear hb)
 (try clear hkp)
 (try clear ho0)
 obtain ⟨Ao3,co3,eo3⟩:=Kd.R_slice HO3.out
 (first|subst eo3|(injection eo3 with f1_ f2_ f3_;have f4_:=f1_.symm;have f5_:=f3_.symm;clear f1_ f2_ f3_;subst f4_;subst f5_))
 refine hK.out _ _ (c3_ BK1) (fun hHeld=>?_)
 clear hK K
 refine nm_ 11 ?_
 refine on_ 7 none (fun K hK=>?_)
 have hs14:=y_ BK2 0;have hfs14:=kf_ BK2.out 0;obtain ⟨hns1_0,hms1_0⟩:=n2_ NB1_2;have hs15:=y_ BK2 1;have hfs15:=kf_ BK2.out 1;obtain ⟨hns2_0,hms2_0⟩:=n2_ NB1_2;have hs17:=y_ BK2 2;have hfs17:=kf_ BK2.out 2;obtain ⟨hns3_0,hms3_0⟩:=n2_ NB1_2
 refine ea (w1:=?_) (by rfl) rfl ?_ ?_
 rotate_left
 ·go_simp
  rfl
 refine hK.out _ _ ⟨((ae (p:=⟨gb2,_,none⟩) NB1_2.out _).trans (((ae (p:=⟨gb2,_,none⟩) NB1_2.out _).trans (((ae (p:=⟨gb2,_,none⟩) NB1_2.out _).trans (hHeld.1)))))),((ae (p:=⟨gb2,_,none⟩) NB1_2.out _).trans (((ae (p:=⟨gb2,_,none⟩) NB1_2.out _).trans (((ae (p:=⟨gb2,_,none⟩) NB1_2.out _).trans (hHeld.2.1)))))),((ae (p:=⟨gb2,_,none⟩) NB1_2.out _).trans (((ae (p:=⟨gb2,_,none⟩) NB1_2.out _).trans (((ae (p:=⟨gb2,_,none⟩) NB1_2.out _).trans (hHeld.2.2))))))⟩ (fun hHeld=>?_)
 clear hK K
 refine dn_ ?_
 try go_wp2
 refine bodyPost_ret (results_cell_row rfl _ _ gb2 30 #[.int .i64 t3,.bool t4,.slice Ao3 t5.length co3] (0,0) _ rfl (u1_ BK2) Tryz.underlying30 rfl aY) rfl ?_
 exact ⟨_,aE,by (with_reducible repeat (first|apply ra_|apply rn_|apply rd_));exact Kd.R_mono (d8 (Kd.R_types HO3.out BK2.out ag)) (fun _ hk=>trivial),au⟩

def cn.f (k:Nat) (a0_0:Int) (a0_1:Bool) (l0_2:List Int) (l0_3:List Int) (a0_4:Int) (a1:Int):Option (Int × Bool × List Int × List Int × Int):=(bH.f k a0_0 a0_1 l0_2 a1).bind fun bt162=>((cI.f l0_3).bind fun t167=>(if t167.length<17592186044416 then (some (bt162.1,bt162.2.1,bt162.2.2,(t167++[a1]),a0_4)) else (none)))
theorem cn.mono:∀ a0 a1 a2 a3 a4 a5 k,LeO (cn.f k a0 a1 a2 a3 a4 a5) (cn.f (k+1) a0 a1 a2 a3 a4 a5):=by
 intro a0 a1 a2 a3 a4 a5 k;unfold cn.f
 repeat' with_reducible first|exact bH.mono ..|exact LeO.refl ..|exact LeO.none ..|refine LeO.ite ?_ ?_|refine LeO.bind ?_ (fun _=>?_)
theorem cn.calls (k:Nat) (a0_0:Int) (a0_1:Bool) (A0_2:Option Addr) (c0_2:Nat) (l0_2:List Int) (A0_3:Option Addr) (c0_3:Nat) (l0_3:List Int) (a0_4:Int) (a1:Int) (r1:Int) (r2:Bool) (r3:List Int) (r4:List Int) (r5:Int) (w:World) (hr0_2:Kd.C (Kd.int .i64) w A0_2 l0_2.length l0_2) (hc0_2:l0_2.length≤c0_2) (hr0_3:Kd.C (Kd.int .i64) w A0_3 l0_3.length l0_3) (hc0_3:l0_3.length≤c0_3) (H:cn.f k a0_0 a0_1 l0_2 l0_3 a0_4 a1=some (r1,r2,r3,r4,r5)) :
  Calls Tryz.prog 89 #[.agg #[.int .i64 a0_0,.bool a0_1,.slice A0_2 l0_2.length c0_2,.slice A0_3 l0_3.length c0_3,.int .i64 a0_4],.int .i64 a1] w fun e w'=>∃ v2_ v3_:Value,e=.returned (.agg #[.int .i64 r1,.bool r2,v2_,v3_,.int .i64 r5])∧Kd.R (Kd.int .i64) 3 w' w.heap.size (fun k_=>no_ v3_ k_) v2_ r3∧Kd.R (Kd.int .i64) 3 w' w.heap.size (fun k_=>no_ v2_ k_) v3_ r4∧Below w.heap.size w w':=by
 have hu32:=Tryz.underlying32;have hu30:=Tryz.underlying30;have HR0_2:=A0_ hr0_2;have HC0_2:=A0_ hc0_2;clear hr0_2 hc0_2;have HR0_3:=A0_ hr0_3;have HC0_3:=A0_ hc0_3;clear hr0_3 hc0_3;have HB:=A0_ (Below.refl w.heap.size w);unfold cn.f at H;obtain ⟨⟨t2,t3,t4⟩,A2,H⟩:=o1_ H;obtain ⟨t1,A4,H⟩:=o1_ H;obtain ⟨c1,H⟩:=is_ H;have LMc1:=A0_ c1;clear c1;obtain ⟨y1,hy1⟩:∃ y_:List Int,y_=(t1++[a1]):=⟨_,rfl⟩;replace H:(some (t2,t3,t4,y1,a0_4))=some (r1,r2,r3,r4,r5):=dx;have Ny1:=A0_ hy1;clear hy1;simp only [sj_,pj_] at H;obtain ⟨rfl,rfl,rfl,rfl,rfl⟩:=H;go_enter Tryz.func89,Tryz.ntmps89
 go_wp2_with (first|((with_reducible refine gd_ (N:=2) rfl ?_);refine bx_ 2 #[.int .i64 a0_0,.bool a0_1,.slice A0_2 l0_2.length c0_2,.slice A0_3 l0_3.length c0_3,.int .i64 a0_4] 32 ?_;intro gb1 hg w1 BK1 hb;have GW1:=ge_ hg ai;have GE1:=GW1;replace HB:=hb_ hb ai;clear hb hg)|((with_reducible refine gd_ (N:=4) rfl ?_);refine bx_ 4 #[.int .i64 0,.bool false,.slice none 0 0,.slice none 0 0,.int .i64 0] 32 ?_;intro gb2 hg w2 BK2 hb;have GW2:=ge_ hg aj;have GE2:=GW2;replace HB:=hb_ hb aj;obtain ⟨NB1_2,NB2_1⟩:=nn_ hg BK1;replace BK1:=k1_ BK1 hb;clear hb hg;obtain ⟨hnb1,hnc1⟩:=n2_ NB1_2;have hcz1:=z5_ BK1)|((with_reducible refine gd_ (N:=5) rfl ?_);refine bx_ 5 #[.int .i64 0,.bool false,.slice none 0 0,.slice none 0 0,.int .i64 0] 32 ?_;intro gb3 hg w3 BK3 hb;have GW3:=ge_ hg au;have GE3:=GW3;replace HB:=hb_ hb au;obtain ⟨NB1_3,NB3_1⟩:=nn_ hg BK1;replace BK1:=k1_ BK1 hb;obtain ⟨NB2_3,NB3_2⟩:=nn_ hg BK2;replace BK2:=k1_ BK2 hb;clear hb hg;obtain ⟨hnb2,hnc2⟩:=n2_ NB3_1;obtain ⟨hnb3,hnc3⟩:=n2_ NB3_2;have hcz2:=z5_ BK3;have hcz3:=z5_ BK1)|((with_reducible refine gc_ (f:=93) rfl ?_);refine gl_ 10 Tryz.func93 #[.agg #[.int .i64 a0_0,.bool a0_1,.slice A0_2 l0_2.length c0_2],.int .i64 a1] ?_;(with_reducible refine (bH.calls k a0_0 a0_1 _ _ l0_2 a1 t2 t3 t4 _ ?_ ?_ A2.out).mono ?_);exact cb_ HR0_2.out aD;exact HC0_2.out;rintro e w4 ⟨v1,rfl,ho0,hb⟩;refine ⟨_,rfl,?_⟩;have HO1:=A0_ (Kd.R_lower ho0 (bz_ aD));replace BK1:=k1_ BK1 hb;replace BK2:=k1_ BK2 hb;replace BK3:=k2_ (.cells #[.int .i64 a0_0,.bool a0_1,.slice A0_2 l0_2.length c0_2,.slice A0_3 l0_3.length c0_3,.int .i64 a0_4] 32 (0,0)) BK3 hb;replace HB:=hb_ hb aD;(try clear hb ho0);have hcz4:=z5_ BK3;obtain ⟨Ao1,co1,eo1⟩:=Kd.R_slice HO1.out;subst eo1;have hcz5_0:=y_ BK1 0;have hcz5_1:=y_ BK1 1;have hcz5_2:=y_ BK1 2;have hcz5_3:=y_ BK1 3;have hcz5_4:=y_ BK1 4;have hfz5_0:=kf_ BK1.out 0;have hfz5_1:=kf_ BK1.out 1;have hfz5_2:=kf_ BK1.out 2;have hfz5_3:=kf_ BK1.out 3;have hfz5_4:=kf_ BK1.out 4)|((with_reducible refine gc_ (f:=67) rfl ?_);refine gl_ 14 Tryz.func67 #[.slice A0_3 l0_3.length c0_3] ?_;(with_reducible refine (cI.calls _ _ l0_3 t1 _ ?_ ?_ A4.out).mono ?_);exact cb_ HR0_3.out aD;exact HC0_3.out;rintro e w5 ⟨v4,rfl,ho0,hb⟩;refine ⟨_,rfl,?_⟩;have HO2:=A0_ (Kd.R_lower (Kd.R_new' ho0 (Kd.R_lt l4)) (bz_ aD));replace HO1:=A0_ (Kd.R_elder' l4 (Kd.R_base ho0) hb);replace BK1:=k1_ BK1 hb;replace BK2:=k1_ BK2 hb;replace BK3:=k2_ (.cells #[.int .i64 t2,.bool t3,.slice Ao1 t4.length co1,.slice A0_3 l0_3.length c0_3,.int .i64 a0_4] 32 (0,0)) BK3 hb;replace HB:=hb_ hb aD;(try clear hb ho0))|((with_reducible refine bX (b:=.append) (xs:=#[.tmp 14,.tmp 16]) rfl ?_);at_builtin;refine Kd.R_append (Kd.int .i64) (w0:=w) w.heap.size rfl (.tmp 14) (.tmp 16) 22 3 (.int .i64 0) 8 rfl Tryz.underlying22 cW rfl ag bm v4 t1 a1 [.int .i64 a1] (fun k_=>no_ (.slice Ao1 t4.length co1) k_) (fun _=>False) rfl rfl ?aP (fun _ hk=>hk.elim) ?aF ?aO ?aB ?aS ?aL ?_;(case aP=>exact rfl);(case aB=>exact aD);(case aF=>exact (fun k_ hk=>Kd.fresh' (Kd.R_lt bx) k_ hk));(case aO=>exact fu);(case aS=>exact (bz_ aD));(case aL=>have:=LMc1.out;omega);intro v5 w6 ho hb hg hat;rw [← Ny1.out] at ho;have n0_:=A0_ (aJ (g:=gb1) (o:=.cells #[.int .i64 a0_0,.bool a0_1,.slice A0_2 l0_2.length c0_2,.slice A0_3 l0_3.length c0_3,.int .i64 a0_4] 32 (0,0)) (u1_ BK1) hg (Kd.R_ne HO2.out BK1.out ag));have n1_:=A0_ (aJ (g:=gb2) (o:=.cells #[.int .i64 0,.bool false,.slice none 0 0,.slice none 0 0,.int .i64 0] 32 (0,0)) (u1_ BK2) hg (Kd.R_ne HO2.out BK2.out ag));have n2_:=A0_ (aJ (g:=gb3) (o:=.cells #[.int .i64 t2,.bool t3,.slice Ao1 t4.length co1,.slice A0_3 l0_3.length c0_3,.int .i64 a0_4] 32 (0,0)) (u1_ BK3) hg (Kd.R_ne HO2.out BK3.out ag));have n3_:=A0_ (Kd.R_after (ok:=(fun _=>True)) bx hg hat);have n4_:=A0_ (hb);have n5_:=A0_ (ho);clear BK1 BK2 BK3 HO1 HB HO2;have BK1:=n0_;have BK2:=n1_;have BK3:=n2_;have HO1:=n3_;have HB:=n4_;have HO3:=n5_;clear n0_ n1_ n2_ n3_ n4_ n5_ ho hb hg hat;obtain ⟨Ao2,co2,eo2⟩:=Kd.R_slice HO3.out;subst eo2;have hcz6:=z5_ BK3;have hcz7:=z5_ BK2))
 refine bodyPost_ret (results_cell_row rfl _ _ gb2 32 #[.int .i64 t2,.bool t3,.slice Ao1 t4.length co1,.slice Ao2 y1.length co2,.int .i64 a0_4] (0,0) _ rfl (u1_ BK2) Tryz.underlying32 rfl aY) rfl ?_
 exact ⟨_,_,aE,by (with_reducible repeat (first|apply ra_|apply rn_|apply rd_));exact Kd.R_mono (bw (rf_ (Kd.R_types (Kd.R_types HO1.out BK3.out ag) BK2.out ag) (fun _ hk=>hk.1.2) (.slice Ao2 y1.length co2))) (fun _ hk=>hk.1.1.2),by (with_reducible repeat (first|apply ra_|apply rn_|apply rd_));exact Kd.R_mono (bw (rf_ (Kd.R_types (Kd.R_types HO3.out BK3.out ag) BK2.out ag) (fun _ hk=>hk.1.2) (.slice Ao2 y1.length co2))) (fun _ hk=>hk.1.1),aD⟩

def cx.f (a0:Int) (a1:Int):Option (Int):=if a0 > a1 then (some a0) else (some a1)
theorem cx.calls (a0:Int) (a1:Int) (r:Int) (w:World) (H:cx.f a0 a1=some r) :
  Calls Tryz.prog 96 #[.int .i64 a0,.int .i64 a1] w fun e w'=>e=.returned (.int .i64 r)∧Drawn0 w w':=by
 unfold cx.f at H
 by_cases c1:a0 > a1
 ·rw [if_pos c1] at H
  have c1b0:decide (a1<a0)=true:=dt_ c1;clear c1;obtain rfl:=si_ H;go_enter Tryz.func96,Tryz.ntmps96
  go_wp2
  go_ret
  exact ⟨dv,ck⟩
 rw [if_neg c1] at H;have c1b0:decide (a1<a0)=false:=decide_eq_false c1;clear c1;obtain rfl:=si_ H;go_enter Tryz.func96,Tryz.ntmps96
 go_wp2
 go_ret
 exact ⟨dv,ck⟩

def cX.f (a0:Int) (a1:Int):Option (Int):=if a0<a1 then (some a0) else (some a1)
theorem cX.calls (a0:Int) (a1:Int) (r:Int) (w:World) (H:cX.f a0 a1=some r) :
  Calls Tryz.prog 97 #[.int .i64 a0,.int .i64 a1] w fun e w'=>e=.returned (.int .i64 r)∧Drawn0 w w':=by
 unfold cX.f at H
 by_cases c1:a0<a1
 ·rw [if_pos c1] at H
  have c1b0:decide (a0<a1)=true:=dt_ c1;clear c1;obtain rfl:=si_ H;go_enter Tryz.func97,Tryz.ntmps97
  go_wp2
  go_ret
  exact ⟨dv,ck⟩
 rw [if_neg c1] at H;have c1b0:decide (a0<a1)=false:=decide_eq_false c1;clear c1;obtain rfl:=si_ H;go_enter Tryz.func97,Tryz.ntmps97
 go_wp2
 go_ret
 exact ⟨dv,ck⟩

def dA.f (a0_0:Int) (a0_1:Bool) (l0_2:List Int) (a1:Int) (a2:Int):Option (Int):=(cx.f (wrap64 (a1 - a2)) (wrap64 (a2 - a1))).bind fun t174=>(if a0_1=true then ((cX.f t174 (wrap64 (a0_0 - t174))).bind fun t175=>(some t175)) else (some t174))
theorem dA.calls (a0_0:Int) (a0_1:Bool) (A0_2:Option Addr) (c0_2:Nat) (l0_2:List Int) (a1:Int) (a2:Int) (r:Int) (w:World) (hr0_2:Kd.C (Kd.int .i64) w A0_2 l0_2.length l0_2) (hc0_2:l0_2.length≤c0_2) (H:dA.f a0_0 a0_1 l0_2 a1 a2=some r) :
  Calls Tryz.prog 130 #[.agg #[.int .i64 a0_0,.bool a0_1,.slice A0_2 l0_2.length c0_2],.int .i64 a1,.int .i64 a2] w fun e w'=>e=.returned (.int .i64 r)∧Below w.heap.size w w':=by
 have hu30:=Tryz.underlying30;have HR0_2:=A0_ hr0_2;have HC0_2:=A0_ hc0_2;clear hr0_2 hc0_2;have HB:=A0_ (Below.refl w.heap.size w);unfold dA.f at H;obtain ⟨t1,A2,H⟩:=o1_ H
 by_cases c1:a0_1=true
 case neg =>
  obtain rfl:=bf_.mpr c1;rw [if_neg ft_] at H;obtain rfl:=si_ H;go_enter Tryz.func130,Tryz.ntmps130
  go_wp2_with (first|((with_reducible refine gd_ (N:=3) rfl ?_);refine bx_ 3 #[.int .i64 a0_0,.bool false,.slice A0_2 l0_2.length c0_2] 30 ?_;intro gb1 hg w1 BK1 hb;have GW1:=ge_ hg ai;have GE1:=GW1;replace HB:=hb_ hb ai;clear hb hg)|((with_reducible refine gc_ (f:=96) rfl ?_);refine gl_ 14 Tryz.func96 #[.int .i64 (wrap64 (a1 - a2)),.int .i64 (wrap64 (a2 - a1))] ?_;(with_reducible refine (cx.calls (wrap64 (a1 - a2)) (wrap64 (a2 - a1)) t1 _ A2.out).mono ?_);rintro e w' ⟨rfl,⟨nd,rfl⟩⟩;refine ⟨_,rfl,?_⟩;have hcz1:=c3_ BK1))
  go_ret
  exact ⟨aE,aj⟩
 subst c1;rw [if_pos rfl] at H;obtain ⟨t2,A4,H⟩:=o1_ H;replace H:(some t2)=some r:=H;obtain rfl:=si_ H;go_enter Tryz.func130,Tryz.ntmps130
 go_wp2_with (first|((with_reducible refine gd_ (N:=3) rfl ?_);refine bx_ 3 #[.int .i64 a0_0,.bool true,.slice A0_2 l0_2.length c0_2] 30 ?_;intro gb1 hg w1 BK1 hb;have GW1:=ge_ hg ai;have GE1:=GW1;replace HB:=hb_ hb ai;clear hb hg)|((with_reducible refine gc_ (f:=96) rfl ?_);refine gl_ 14 Tryz.func96 #[.int .i64 (wrap64 (a1 - a2)),.int .i64 (wrap64 (a2 - a1))] ?_;(with_reducible refine (cx.calls (wrap64 (a1 - a2)) (wrap64 (a2 - a1)) t1 _ A2.out).mono ?_);rintro e w' ⟨rfl,⟨nd,rfl⟩⟩;refine ⟨_,rfl,?_⟩;have hcz1:=c3_ BK1)|((with_reducible refine gc_ (f:=97) rfl ?_);refine gl_ 22 Tryz.func97 #[.int .i64 t1,.int .i64 (wrap64 (a0_0 - t1))] ?_;(with_reducible refine (cX.calls t1 (wrap64 (a0_0 - t1)) t2 _ A4.out).mono ?_);rintro e w' ⟨rfl,⟨nd,rfl⟩⟩;refine ⟨_,rfl,?_⟩))
 go_ret
 exact ⟨aE,aj⟩

def aA.l0:Nat→List Int→Int→Int→Int→Int→Int→Bool→List Int→Option (Int × Int)
 | 0,_,_,_,_,_,_,_,_=>none
 | k+1,x1,x2,x8,x9,x10,xa,xb,xc=>if x10<(x1.length:Int) then (if 0≤x10 then ((dA.f xa xb xc x2 (rd x1 x10)).bind fun t178=>(if x8<0 then (aA.l0 k x1 x2 (rd x1 x10) t178 (wrap64 (x10+1)) xa xb xc) else (if t178<x9 then (aA.l0 k x1 x2 (rd x1 x10) t178 (wrap64 (x10+1)) xa xb xc) else (aA.l0 k x1 x2 x8 x9 (wrap64 (x10+1)) xa xb xc)))) else (none)) else (some (x8,x9))
def aA.f (k:Nat) (a0_0:Int) (a0_1:Bool) (l0_2:List Int) (l1:List Int) (a2:Int):Option (Int × Int):=aA.l0 k l1 a2 (-1) (-1) 0 a0_0 a0_1 l0_2
theorem aA.mono_l:∀ k,(∀ y0 y1 y2 y3 y4 y5 y6 y7,LeO (aA.l0 k y0 y1 y2 y3 y4 y5 y6 y7) (aA.l0 (k+1) y0 y1 y2 y3 y4 y5 y6 y7))
 | 0=>fun _ _ _ _ _ _ _ _ r h=>by simp [aA.l0] at h
 | k+1=>by
  have ih0:=aA.mono_l k
  ·intro y0 y1 y2 y3 y4 y5 y6 y7
   unfold aA.l0
   repeat' with_reducible first|exact ih0 ..|exact LeO.refl ..|exact LeO.none ..|refine LeO.ite ?_ ?_|refine LeO.bind ?_ (fun _=>?_)
theorem aA.mono:∀ a0 a1 a2 a3 a4 k,LeO (aA.f k a0 a1 a2 a3 a4) (aA.f (k+1) a0 a1 a2 a3 a4):=by
 intro a0 a1 a2 a3 a4 k;have ih0:=aA.mono_l k;unfold aA.f
 repeat' with_reducible first|exact ih0 ..|exact LeO.refl ..|exact LeO.none ..|refine LeO.ite ?_ ?_|refine LeO.bind ?_ (fun _=>?_)
def aA.T5:Bool × List (List Nat × List Nat):=(true,[([],[]),([],[]),([],[]),([],[]),([2,3],[2,3]),([4],[4]),([0,1,5],[0,1,5]),([6,6,0,1,2,3,4,5,6],[6])])
def aA.B5:List Nat:=[0,0,0,0,12,28,63,127]
theorem aA.tab5:df .any (dO Tryz.f129 5)=aA.T5:=by kernel_rfl
theorem aA.bits5:ce aA.T5.2 aA.B5=true:=by kernel_rfl
theorem aA.calls (k:Nat) (a0_0:Int) (a0_1:Bool) (A0_2:Option Addr) (c0_2:Nat) (l0_2:List Int) (A1:Option Addr) (c1:Nat) (l1:List Int) (a2:Int) (r1:Int) (r2:Int) (w:World) (hr0_2:Kd.C (Kd.int .i64) w A0_2 l0_2.length l0_2) (hc0_2:l0_2.length≤c0_2) (hr1:Kd.C (Kd.int .i64) w A1 l1.length l1) (hc1:l1.length≤c1) (H:aA.f k a0_0 a0_1 l0_2 l1 a2=some (r1,r2)) :
  Calls Tryz.prog 129 #[.agg #[.int .i64 a0_0,.bool a0_1,.slice A0_2 l0_2.length c0_2],.slice A1 l1.length c1,.int .i64 a2] w fun e w'=>e=.returned (.tuple #[.int .i64 r1,.int .i64 r2])∧Below w.heap.size w w':=by
 have hu30:=Tryz.underlying30;have HR0_2:=A0_ hr0_2;have HC0_2:=A0_ hc0_2;clear hr0_2 hc0_2;have HR1:=A0_ hr1;have HC1:=A0_ hc1;clear hr1 hc1;have HB:=A0_ (Below.refl w.heap.size w);unfold aA.f at H;have H':=A0_ H;clear H;go_enter Tryz.func129,Tryz.ntmps129
 go_wp2_with (first|((with_reducible refine gd_ (N:=3) rfl ?_);refine bx_ 3 #[.int .i64 a0_0,.bool a0_1,.slice A0_2 l0_2.length c0_2] 30 ?_;intro gb1 hg w1 BK1 hb;have GW1:=ge_ hg ai;have GE1:=GW1;replace HB:=hb_ hb ai;clear hb hg))
 go_loopg [8,9,10] k (fun kq v1 v2 v3 w'=>∃ (x8_1:Int) (x9_1:Int) (x10_1:Int),v1=.int .i64 x8_1∧v2=.int .i64 x9_1∧v3=.int .i64 x10_1∧Aside0 (aA.l0 kq l1 a2 x8_1 x9_1 x10_1 a0_0 a0_1 l0_2=some (r1,r2))∧Aside0 (kq≤k)∧Aside0 (w'.heap[gb1]?=some (.cells #[.int .i64 a0_0,.bool a0_1,(.slice A0_2 l0_2.length c0_2)] 30 (0,0)))∧Aside0 (Below w.heap.size w w'))
 case atStart=>exact ⟨((-1)),((-1)),(0),aX,aX,aX,H',⟨Nat.le_refl _⟩,⟨u1_ BK1⟩,⟨aj⟩⟩
 clear H'
 try clear c1
 obtain ⟨x8_1,x9_1,x10_1,rfl,rfl,rfl,HA,HK1,BK1,HB⟩:=hrel
 cases gk with|zero=>exact absurd HA.out (by simp [aA.l0])|succ k1=>?_
 have H:=HA.out;clear HA;simp only [aA.l0] at H
 by_cases c2:x10_1<(l1.length:Int)
 case neg =>
  rw [if_neg c2] at H;have c2b0:decide (x10_1<(l1.length:Int))=false:=decide_eq_false c2;clear c2;simp only [sj_,pj_] at H;obtain ⟨rfl,rfl⟩:=H
  go_wp2
  go_ret2
  exact ⟨aE,aj⟩
 rw [if_pos c2] at H;have c2b0:decide (x10_1<(l1.length:Int))=true:=dt_ c2;clear c2;obtain ⟨c3b0,H⟩:=i1_ H;obtain ⟨t1,A3,H⟩:=o1_ H
 by_cases c4:x8_1<0
 ·rw [if_pos c4] at H
  have c4b0:decide (x8_1<0)=true:=dt_ c4;clear c4;have H':=A0_ H;clear H
  try go_wp2
  replace BK1:=A0_ (kd_ BK1.out);replace HB:=A0_ (bd_ HB.out);have p1:0≤(x10_1:Int):=od_ ay;have q1:x10_1<(l1.length:Int):=od_ ay;obtain ⟨ad1,e1,hx1_0⟩:=Kd.at_int HR1.out x10_1 p1 q1;have hw177_0:=hx1_0;cases e1;replace hx1_0:=(HB.out.cell (World.block_lt_of_cell? w _ hx1_0)).trans hx1_0;replace p1:=eq_true p1;replace q1:=eq_true q1
  refine dd (n:=8) (S:=fun w'=>w'.cell? ⟨gb1,0,none⟩=some (.int .i64 a0_0)∧w'.cell? ⟨gb1,1,none⟩=some (.bool a0_1)∧w'.cell? ⟨gb1,2,none⟩=some (.slice A0_2 l0_2.length c0_2)∧w'.cell? (ad1.add (x10_1).toNat)=some (.int .i64 (rd l1 x10_1))) (ds:=[]) #[false,false,false,false,false,false,false,false] aY rfl rfl (a3_ BK1 ((HB.out.cell (World.block_lt_of_cell? w _ hw177_0)).trans hw177_0)) (fun hHeld=>?_);refine cu aA.tab5 aA.bits5 (fun HT_ HW_=>?_)
  generalize wr.drew=w2 at BK1 HB hx1_0 hHeld ⊢
  refine pu_ 1 19 ?_
  refine pu_ 2 20 ?_
  refine pu_ 3 21 ?_
  refine pu_ 4 22 ?_
  refine tk_ 0 18 hHeld ?_
  refine tk_ 5 23 hHeld ?_
  refine on_ 6 (some 24) (fun K hK=>?_)
  refine gs_ Tryz.func130 #[.agg #[.int .i64 a0_0,.bool a0_1,.slice A0_2 l0_2.length c0_2],.int .i64 a2,.int .i64 (rd l1 x10_1)] ?_
  with_reducible refine (dA.calls a0_0 a0_1 _ _ l0_2 a2 (rd l1 x10_1) t1 _ ?_ ?_ A3.out).mono ?_
  exact bz
  exact HC0_2.out
  rintro e w3 ⟨rfl,hb⟩
  refine ⟨_,rfl,?_⟩
  replace BK1:=k1_ BK1 hb;replace HB:=hb_ hb aj
  (try clear hb)
  refine hK.out _ _ (a3_ BK1 ((HB.out.cell (World.block_lt_of_cell? w _ hw177_0)).trans hw177_0)) (fun hHeld=>?_)
  clear hK K
  refine nm_ 24 ?_
  refine pu_ 7 11 ?_
  refine dn_ ?_
  have p2:0≤(x10_1:Int):=od_ ay;have q2:x10_1<(l1.length:Int):=od_ ay;obtain ⟨ad2,e2,hx2_0⟩:=Kd.at_int HR1.out x10_1 p2 q2;obtain rfl:ad1=ad2:=fm;replace hx2_0:=(HB.out.cell (World.block_lt_of_cell? w _ hx2_0)).trans hx2_0;replace p2:=eq_true p2;replace q2:=eq_true q2
  try go_wp2
  go_roundg k1
  case measure=>have:=HK1.out;omega
  exact ⟨(rd l1 x10_1),(t1),(wrap64 (x10_1+1)),aX,aX,aX,H',⟨dj⟩,⟨u1_ BK1⟩,⟨aj⟩⟩
 rw [if_neg c4] at H;have c4b0:decide (x8_1<0)=false:=decide_eq_false c4;clear c4
 by_cases c5:t1<x9_1
 case neg =>
  rw [if_neg c5] at H;have c5b0:decide (t1<x9_1)=false:=decide_eq_false c5;clear c5;have H':=A0_ H;clear H
  try go_wp2
  replace BK1:=A0_ (kd_ BK1.out);replace HB:=A0_ (bd_ HB.out);have p1:0≤(x10_1:Int):=od_ ay;have q1:x10_1<(l1.length:Int):=od_ ay;obtain ⟨ad1,e1,hx1_0⟩:=Kd.at_int HR1.out x10_1 p1 q1;have hw177_0:=hx1_0;cases e1;replace hx1_0:=(HB.out.cell (World.block_lt_of_cell? w _ hx1_0)).trans hx1_0;replace p1:=eq_true p1;replace q1:=eq_true q1
  refine dd (n:=8) (S:=fun w'=>w'.cell? ⟨gb1,0,none⟩=some (.int .i64 a0_0)∧w'.cell? ⟨gb1,1,none⟩=some (.bool a0_1)∧w'.cell? ⟨gb1,2,none⟩=some (.slice A0_2 l0_2.length c0_2)∧w'.cell? (ad1.add (x10_1).toNat)=some (.int .i64 (rd l1 x10_1))) (ds:=[]) #[false,false,false,false,false,false,false,false] aY rfl rfl (a3_ BK1 ((HB.out.cell (World.block_lt_of_cell? w _ hw177_0)).trans hw177_0)) (fun hHeld=>?_);refine cu aA.tab5 aA.bits5 (fun HT_ HW_=>?_)
  generalize wr.drew=w2 at BK1 HB hx1_0 hHeld ⊢
  refine pu_ 1 19 ?_
  refine pu_ 2 20 ?_
  refine pu_ 3 21 ?_
  refine pu_ 4 22 ?_
  refine tk_ 0 18 hHeld ?_
  refine tk_ 5 23 hHeld ?_
  refine on_ 6 (some 24) (fun K hK=>?_)
  refine gs_ Tryz.func130 #[.agg #[.int .i64 a0_0,.bool a0_1,.slice A0_2 l0_2.length c0_2],.int .i64 a2,.int .i64 (rd l1 x10_1)] ?_
  with_reducible refine (dA.calls a0_0 a0_1 _ _ l0_2 a2 (rd l1 x10_1) t1 _ ?_ ?_ A3.out).mono ?_
  exact bz
  exact HC0_2.out
  rintro e w3 ⟨rfl,hb⟩
  refine ⟨_,rfl,?_⟩
  replace BK1:=k1_ BK1 hb;replace HB:=hb_ hb aj
  (try clear hb)
  refine hK.out _ _ (a3_ BK1 ((HB.out.cell (World.block_lt_of_cell? w _ hw177_0)).trans hw177_0)) (fun hHeld=>?_)
  clear hK K
  refine nm_ 24 ?_
  refine pu_ 7 11 ?_
  refine dn_ ?_
  try go_wp2
  go_roundg k1
  case measure=>have:=HK1.out;omega
  exact ⟨(x8_1),(x9_1),(wrap64 (x10_1+1)),aX,aX,aX,H',⟨dj⟩,⟨u1_ BK1⟩,⟨aj⟩⟩
 rw [if_pos c5] at H;have c5b0:decide (t1<x9_1)=true:=dt_ c5;clear c5;have H':=A0_ H;clear H
 try go_wp2
 replace BK1:=A0_ (kd_ BK1.out);replace HB:=A0_ (bd_ HB.out);have p1:0≤(x10_1:Int):=od_ ay;have q1:x10_1<(l1.length:Int):=od_ ay;obtain ⟨ad1,e1,hx1_0⟩:=Kd.at_int HR1.out x10_1 p1 q1;have hw177_0:=hx1_0;cases e1;replace hx1_0:=(HB.out.cell (World.block_lt_of_cell? w _ hx1_0)).trans hx1_0;replace p1:=eq_true p1;replace q1:=eq_true q1
 refine dd (n:=8) (S:=fun w'=>w'.cell? ⟨gb1,0,none⟩=some (.int .i64 a0_0)∧w'.cell? ⟨gb1,1,none⟩=some (.bool a0_1)∧w'.cell? ⟨gb1,2,none⟩=some (.slice A0_2 l0_2.length c0_2)∧w'.cell? (ad1.add (x10_1).toNat)=some (.int .i64 (rd l1 x10_1))) (ds:=[]) #[false,false,false,false,false,false,false,false] aY rfl rfl (a3_ BK1 ((HB.out.cell (World.block_lt_of_cell? w _ hw177_0)).trans hw177_0)) (fun hHeld=>?_);refine cu aA.tab5 aA.bits5 (fun HT_ HW_=>?_)
 generalize wr.drew=w2 at BK1 HB hx1_0 hHeld ⊢
 refine pu_ 1 19 ?_
 refine pu_ 2 20 ?_
 refine pu_ 3 21 ?_
 refine pu_ 4 22 ?_
 refine tk_ 0 18 hHeld ?_
 refine tk_ 5 23 hHeld ?_
 refine on_ 6 (some 24) (fun K hK=>?_)
 refine gs_ Tryz.func130 #[.agg #[.int .i64 a0_0,.bool a0_1,.slice A0_2 l0_2.length c0_2],.int .i64 a2,.int .i64 (rd l1 x10_1)] ?_
 with_reducible refine (dA.calls a0_0 a0_1 _ _ l0_2 a2 (rd l1 x10_1) t1 _ ?_ ?_ A3.out).mono ?_
 exact bz
 exact HC0_2.out
 rintro e w3 ⟨rfl,hb⟩
 refine ⟨_,rfl,?_⟩
 replace BK1:=k1_ BK1 hb;replace HB:=hb_ hb aj
 (try clear hb)
 refine hK.out _ _ (a3_ BK1 ((HB.out.cell (World.block_lt_of_cell? w _ hw177_0)).trans hw177_0)) (fun hHeld=>?_)
 clear hK K
 refine nm_ 24 ?_
 refine pu_ 7 11 ?_
 refine dn_ ?_
 have p2:0≤(x10_1:Int):=od_ ay;have q2:x10_1<(l1.length:Int):=od_ ay;obtain ⟨ad2,e2,hx2_0⟩:=Kd.at_int HR1.out x10_1 p2 q2;obtain rfl:ad1=ad2:=fm;replace hx2_0:=(HB.out.cell (World.block_lt_of_cell? w _ hx2_0)).trans hx2_0;replace p2:=eq_true p2;replace q2:=eq_true q2
 try go_wp2
 go_roundg k1
 case measure=>have:=HK1.out;omega
 exact ⟨(rd l1 x10_1),(t1),(wrap64 (x10_1+1)),aX,aX,aX,H',⟨dj⟩,⟨u1_ BK1⟩,⟨aj⟩⟩

def cg.f (k:Nat) (a0_0:Int) (a0_1:Bool) (l0_2:List Int) (a1:Int):Option (Int):=(aA.f k a0_0 a0_1 l0_2 l0_2 a1).bind fun bt182=>(some bt182.2)
theorem cg.mono:∀ a0 a1 a2 a3 k,LeO (cg.f k a0 a1 a2 a3) (cg.f (k+1) a0 a1 a2 a3):=by
 intro a0 a1 a2 a3 k;unfold cg.f
 repeat' with_reducible first|exact aA.mono ..|exact LeO.refl ..|exact LeO.none ..|refine LeO.ite ?_ ?_|refine LeO.bind ?_ (fun _=>?_)
theorem cg.calls (k:Nat) (a0_0:Int) (a0_1:Bool) (A0_2:Option Addr) (c0_2:Nat) (l0_2:List Int) (a1:Int) (r:Int) (w:World) (hr0_2:Kd.C (Kd.int .i64) w A0_2 l0_2.length l0_2) (hc0_2:l0_2.length≤c0_2) (H:cg.f k a0_0 a0_1 l0_2 a1=some r) :
  Calls Tryz.prog 127 #[.agg #[.int .i64 a0_0,.bool a0_1,.slice A0_2 l0_2.length c0_2],.int .i64 a1] w fun e w'=>e=.returned (.int .i64 r)∧Below w.heap.size w w':=by
 have hu30:=Tryz.underlying30;have HR0_2:=A0_ hr0_2;have HC0_2:=A0_ hc0_2;clear hr0_2 hc0_2;have HB:=A0_ (Below.refl w.heap.size w);unfold cg.f at H;obtain ⟨⟨t1,t2⟩,A2,H⟩:=o1_ H;replace H:(some t2)=some r:=H;obtain rfl:=si_ H;go_enter Tryz.func127,Tryz.ntmps127
 go_wp2_with (first|((with_reducible refine gd_ (N:=2) rfl ?_);refine bx_ 2 #[.int .i64 a0_0,.bool a0_1,.slice A0_2 l0_2.length c0_2] 30 ?_;intro gb1 hg w1 BK1 hb;have GW1:=ge_ hg ai;have GE1:=GW1;replace HB:=hb_ hb ai;clear hb hg;have hcz1:=c3_ BK1)|((with_reducible refine gc_ (f:=129) rfl ?_);refine gl_ 12 Tryz.func129 #[.agg #[.int .i64 a0_0,.bool a0_1,.slice A0_2 l0_2.length c0_2],.slice A0_2 l0_2.length c0_2,.int .i64 a1] ?_;(with_reducible refine (aA.calls k a0_0 a0_1 _ _ l0_2 _ _ l0_2 a1 t1 t2 _ ?_ ?_ ?_ ?_ A2.out).mono ?_);exact bz;exact HC0_2.out;exact bz;exact HC0_2.out;rintro e w2 ⟨rfl,hb⟩;refine ⟨_,rfl,?_⟩;replace BK1:=k1_ BK1 hb;replace HB:=hb_ hb aj;(try clear hb)))
 go_ret
 exact ⟨aE,aj⟩

def cV.f (k:Nat) (a0_0:Int) (a0_1:Bool) (l0_2:List Int) (a1:Int):Option (Int):=if (l0_2.length:Int)=0 then (some a0_0) else ((cg.f k a0_0 a0_1 l0_2 a1).bind fun t185=>(some t185))
theorem cV.mono:∀ a0 a1 a2 a3 k,LeO (cV.f k a0 a1 a2 a3) (cV.f (k+1) a0 a1 a2 a3):=by
 intro a0 a1 a2 a3 k;unfold cV.f
 repeat' with_reducible first|exact cg.mono ..|exact LeO.refl ..|exact LeO.none ..|refine LeO.ite ?_ ?_|refine LeO.bind ?_ (fun _=>?_)
theorem cV.calls (k:Nat) (a0_0:Int) (a0_1:Bool) (A0_2:Option Addr) (c0_2:Nat) (l0_2:List Int) (a1:Int) (r:Int) (w:World) (hr0_2:Kd.C (Kd.int .i64) w A0_2 l0_2.length l0_2) (hc0_2:l0_2.length≤c0_2) (H:cV.f k a0_0 a0_1 l0_2 a1=some r) :
  Calls Tryz.prog 119 #[.agg #[.int .i64 a0_0,.bool a0_1,.slice A0_2 l0_2.length c0_2],.int .i64 a1] w fun e w'=>e=.returned (.int .i64 r)∧Below w.heap.size w w':=by
 have hu30:=Tryz.underlying30;have HR0_2:=A0_ hr0_2;have HC0_2:=A0_ hc0_2;clear hr0_2 hc0_2;have HB:=A0_ (Below.refl w.heap.size w);unfold cV.f at H
 by_cases c1:(l0_2.length:Int)=0
 ·rw [if_pos c1] at H
  obtain ⟨c1b0,c1b1⟩:=et_ c1;clear c1;obtain rfl:=si_ H;go_enter Tryz.func119,Tryz.ntmps119
  go_wp2_with (first|((with_reducible refine gd_ (N:=2) rfl ?_);refine bx_ 2 #[.int .i64 a0_0,.bool a0_1,.slice A0_2 l0_2.length c0_2] 30 ?_;intro gb1 hg w1 BK1 hb;have GW1:=ge_ hg ai;have GE1:=GW1;replace HB:=hb_ hb ai;clear hb hg;have hcz1:=c3_ BK1))
  go_ret
  exact ⟨aE,aj⟩
 rw [if_neg c1] at H;obtain ⟨c1b0,c1b1⟩:=ef_ c1
 have c1b2:¬ (l0_2=[]):=fun h_=>c1 (by rw [h_];rfl)
 obtain ⟨t1,A2,H⟩:=o1_ H;replace H:(some t1)=some r:=H;obtain rfl:=si_ H;go_enter Tryz.func119,Tryz.ntmps119
 go_wp2_with (first|((with_reducible refine gd_ (N:=2) rfl ?_);refine bx_ 2 #[.int .i64 a0_0,.bool a0_1,.slice A0_2 l0_2.length c0_2] 30 ?_;intro gb1 hg w1 BK1 hb;have GW1:=ge_ hg ai;have GE1:=GW1;replace HB:=hb_ hb ai;clear hb hg;have hcz1:=c3_ BK1)|((with_reducible refine gc_ (f:=127) rfl ?_);refine gl_ 13 Tryz.func127 #[.agg #[.int .i64 a0_0,.bool a0_1,.slice A0_2 l0_2.length c0_2],.int .i64 a1] ?_;(with_reducible refine (cg.calls k a0_0 a0_1 _ _ l0_2 a1 t1 _ ?_ ?_ A2.out).mono ?_);exact bz;exact HC0_2.out;rintro e w2 ⟨rfl,hb⟩;refine ⟨_,rfl,?_⟩;replace BK1:=k1_ BK1 hb;replace HB:=hb_ hb aj;(try clear hb)))
 go_ret
 exact ⟨aE,aj⟩

def bq.l0:Nat→List Int→Int→Int→Bool→List Int→Option (List Int)
 | 0,_,_,_,_,_=>none
 | k+1,x3,x4,xa,xb,xc=>if x4<xa then ((cV.f k xa xb xc x4).bind fun t190=>(if x3.length<17592186044416 then (bq.l0 k (x3++[t190]) (wrap64 (x4+1)) xa xb xc) else (none))) else (some x3)
def bq.f (k:Nat) (a0_0:Int) (a0_1:Bool) (l0_2:List Int):Option (List Int):=bq.l0 k (([]:List Int)) 0 a0_0 a0_1 l0_2
theorem bq.mono_l:∀ k,(∀ y0 y1 y2 y3 y4,LeO (bq.l0 k y0 y1 y2 y3 y4) (bq.l0 (k+1) y0 y1 y2 y3 y4))
 | 0=>fun _ _ _ _ _ r h=>by simp [bq.l0] at h
 | k+1=>by
  have ih0:=bq.mono_l k
  ·intro y0 y1 y2 y3 y4
   unfold bq.l0
   repeat' with_reducible first|exact ih0 ..|exact cV.mono ..|exact LeO.refl ..|exact LeO.none ..|refine LeO.ite ?_ ?_|refine LeO.bind ?_ (fun _=>?_)
theorem bq.mono:∀ a0 a1 a2 k,LeO (bq.f k a0 a1 a2) (bq.f (k+1) a0 a1 a2):=by
 intro a0 a1 a2 k;have ih0:=bq.mono_l k;unfold bq.f
 repeat' with_reducible first|exact ih0 ..|exact cV.mono ..|exact LeO.refl ..|exact LeO.none ..|refine LeO.ite ?_ ?_|refine LeO.bind ?_ (fun _=>?_)
theorem bq.calls (k:Nat) (a0_0:Int) (a0_1:Bool) (A0_2:Option Addr) (c0_2:Nat) (l0_2:List Int) (r:List Int) (w:World) (hr0_2:Kd.C (Kd.int .i64) w A0_2 l0_2.length l0_2) (hc0_2:l0_2.length≤c0_2) (H:bq.f k a0_0 a0_1 l0_2=some r) :
  Calls Tryz.prog 104 #[.agg #[.int .i64 a0_0,.bool a0_1,.slice A0_2 l0_2.length c0_2]] w fun e w'=>∃ v0_:Value,e=.returned (v0_)∧Kd.R (Kd.int .i64) 3 w' w.heap.size (fun _=>True) v0_ r∧Below w.heap.size w w':=by
 have hu30:=Tryz.underlying30;have HR0_2:=A0_ hr0_2;have HC0_2:=A0_ hc0_2;clear hr0_2 hc0_2;have HB:=A0_ (Below.refl w.heap.size w);unfold bq.f at H;obtain ⟨y1,hy1⟩:∃ y_:List Int,y_=(([]:List Int)):=⟨_,rfl⟩;replace H:(bq.l0 k y1 0 a0_0 a0_1 l0_2)=some r:=dx;have Ny1:=A0_ hy1;clear hy1;have H':=A0_ H;clear H;go_enter Tryz.func104,Tryz.ntmps104
 go_wp2_with (first|((with_reducible refine gd_ (N:=1) rfl ?_);refine bx_ 1 #[.int .i64 a0_0,.bool a0_1,.slice A0_2 l0_2.length c0_2] 30 ?_;intro gb1 hg w1 BK1 hb;have GW1:=ge_ hg ai;have GE1:=GW1;replace HB:=hb_ hb ai;clear hb hg)|((with_reducible refine gd_ (N:=5) rfl ?_);refine Kd.R_lit (Kd.int .i64) _ 3 ?hg (N:=5) ?hd (xs:=([]:List Int)) (inner:=[]) (ok:=fun _=>True) (okp:=fun _=>True) ?hr ?hp (fun _ hk=>hk) trivial (Below.refl _ _) (Nat.le_refl _) bB ?_;(case hd=>rfl);(case hg=>rfl);(case hr=>go_simp;first|done|rfl);(case hp=>exact (aN.none _ _));intro v1 w2 ho4 hb hg_ hnew_;clear hg_ hnew_;(first|rw [← Ny1.out] at ho4|(simp only [Int.reduceToNat] at ho4;rw [← Ny1.out] at ho4));have HO1:=A0_ (Kd.R_lower ho4 (bz_ aj));replace BK1:=k1_ BK1 hb;replace HB:=hb_ hb aj;clear hb ho4))
 go_loopg [3,4] k (fun kq v2 v3 w'=>∃ (x3_1:List Int) (x4_1:Int),v3=.int .i64 x4_1∧Aside0 (bq.l0 kq x3_1 x4_1 a0_0 a0_1 l0_2=some r)∧Aside0 (kq≤k)∧Aside0 (Kd.R (Kd.int .i64) 3 w' w.heap.size (fun _=>True) v2 x3_1)∧Aside0 (w'.heap[gb1]?=some (.cells #[.int .i64 a0_0,.bool a0_1,(.slice A0_2 l0_2.length c0_2)] 30 (0,0)))∧Aside0 (Below w.heap.size w w'))
 case atStart=>exact ⟨(y1),(0),aX,H',⟨Nat.le_refl _⟩,⟨bx⟩,⟨u1_ BK1⟩,⟨aj⟩⟩
 clear H';obtain ⟨x3_1,x4_1,rfl,HA,HK1,HO_1,BK1,HB⟩:=hrel
 cases gk with|zero=>exact absurd HA.out (by simp [bq.l0])|succ k1=>?_
 have H:=HA.out;clear HA;simp only [bq.l0] at H
 by_cases c1:x4_1<a0_0
 case neg =>
  rw [if_neg c1] at H;have c1b0:decide (x4_1<a0_0)=false:=decide_eq_false c1;clear c1;obtain rfl:=si_ H;have hcz1:=c3_ BK1
  go_wp2
  go_ret
  exact ⟨_,aE,br,aj⟩
 rw [if_pos c1] at H;have c1b0:decide (x4_1<a0_0)=true:=dt_ c1;clear c1;obtain ⟨t1,A2,H⟩:=o1_ H;obtain ⟨c2,H⟩:=is_ H;have LMc1:=A0_ c2;clear c2;obtain ⟨y2,hy2⟩:∃ y_:List Int,y_=(x3_1++[t1]):=⟨_,rfl⟩;replace H:(bq.l0 k1 y2 (wrap64 (x4_1+1)) a0_0 a0_1 l0_2)=some r:=dH;have Ny2:=A0_ hy2;clear hy2;have H':=A0_ H;clear H;have hcz1:=c3_ BK1
 go_wp2_with (first|((with_reducible refine gc_ (f:=119) rfl ?_);refine gl_ 15 Tryz.func119 #[.agg #[.int .i64 a0_0,.bool a0_1,.slice A0_2 l0_2.length c0_2],.int .i64 x4_1] ?_;(with_reducible refine (cV.calls k1 a0_0 a0_1 _ _ l0_2 x4_1 t1 _ ?_ ?_ A2.out).mono ?_);exact bz;exact HC0_2.out;rintro e w3 ⟨rfl,hb⟩;refine ⟨_,rfl,?_⟩;replace HO_1:=q1_ HO_1 hb;replace BK1:=k1_ BK1 hb;replace HB:=hb_ hb aj;(try clear hb))|((with_reducible refine bX (b:=.append) (xs:=#[.tmp 12,.tmp 16]) rfl ?_);at_builtin;refine Kd.R_append (Kd.int .i64) (w0:=w) w.heap.size rfl (.tmp 12) (.tmp 16) 22 3 (.int .i64 0) 8 rfl Tryz.underlying22 cW rfl ag bm u3 x3_1 t1 [.int .i64 t1] (fun _=>True) (fun _=>False) rfl rfl ?aP (fun _ hk=>hk.elim) ?aF ?aO ?aB ?aS ?aL ?_;(case aP=>exact rfl);(case aB=>exact aj);(case aF=>exact (fun _ _=>trivial));(case aO=>exact br);(case aS=>exact (bz_ aj));(case aL=>have:=LMc1.out;omega);intro v4 w4 ho hb hg hat;rw [← Ny2.out] at ho;have n0_:=A0_ (aJ (g:=gb1) (o:=.cells #[.int .i64 a0_0,.bool a0_1,.slice A0_2 l0_2.length c0_2] 30 (0,0)) (u1_ BK1) hg (Kd.R_ne HO_1.out BK1.out ag));have n1_:=A0_ (hb);have n2_:=A0_ (ho);clear BK1 HB HO_1;have BK1:=n0_;have HB:=n1_;have HO2:=n2_;clear n0_ n1_ n2_ ho hb hg hat))
 go_roundg k1
 case measure=>have:=HK1.out;omega
 exact ⟨(y2),(wrap64 (x4_1+1)),aX,H',⟨dj⟩,⟨cd⟩,⟨u1_ BK1⟩,⟨aj⟩⟩

mutual
def aq.l0:Nat→List Int→List Int→Int→Int→Int→Bool→List Int→Option (List Int)
 | 0,_,_,_,_,_,_,_=>none
 | k+1,x3,x4,x5,x6,xa,xb,xc=>if x6<xa then (if 0≤x6 then (if x6<(x4.length:Int) then ((cx.f x5 (rd x4 x6)).bind fun t202=>(aq.l0 k x3 x4 t202 (wrap64 (x6+1)) xa xb xc)) else (none)) else (none)) else (aq.l1 k x3 x4 x5 0 xa xb xc)
def aq.l1:Nat→List Int→List Int→Int→Int→Int→Bool→List Int→Option (List Int)
 | 0,_,_,_,_,_,_,_=>none
 | k+1,x3,x4,x5,x7,xa,xb,xc=>if x7<xa then (aq.j2 k x3 x4 x5 x7 (decide (x5 > 0)) xa xb xc) else (aq.j2 k x3 x4 x5 x7 false xa xb xc)
def aq.j2:Nat→List Int→List Int→Int→Int→Bool→Int→Bool→List Int→Option (List Int)
 | 0,_,_,_,_,_,_,_,_=>none
 | k+1,x3,x4,x5,x7,x30,xa,xb,xc=>if x30=true then (if 0≤x7 then (if x7<(x4.length:Int) then (if (rd x4 x7)=x5 then (if x3.length<17592186044416 then (aq.l1 k (x3++[x7]) x4 x5 (wrap64 (x7+1)) xa xb xc) else (none)) else (aq.l1 k x3 x4 x5 (wrap64 (x7+1)) xa xb xc)) else (none)) else (none)) else (some x3)
end
def aq.f (k:Nat) (a0_0:Int) (a0_1:Bool) (l0_2:List Int):Option (List Int):=(bq.f k a0_0 a0_1 l0_2).bind fun t198=>(aq.l0 k (([]:List Int)) t198 0 0 a0_0 a0_1 l0_2)
theorem aq.mono_l:∀ k,(∀ y0 y1 y2 y3 y4 y5 y6,LeO (aq.l0 k y0 y1 y2 y3 y4 y5 y6) (aq.l0 (k+1) y0 y1 y2 y3 y4 y5 y6))∧(∀ y0 y1 y2 y3 y4 y5 y6,LeO (aq.l1 k y0 y1 y2 y3 y4 y5 y6) (aq.l1 (k+1) y0 y1 y2 y3 y4 y5 y6))∧(∀ y0 y1 y2 y3 y4 y5 y6 y7,LeO (aq.j2 k y0 y1 y2 y3 y4 y5 y6 y7) (aq.j2 (k+1) y0 y1 y2 y3 y4 y5 y6 y7))
 | 0=>⟨fun _ _ _ _ _ _ _ r h=>by simp [aq.l0] at h,fun _ _ _ _ _ _ _ r h=>by simp [aq.l1] at h,fun _ _ _ _ _ _ _ _ r h=>by simp [aq.j2] at h⟩
 | k+1=>by
  obtain ⟨ih0,ih1,ih2⟩:=aq.mono_l k
  refine ⟨?_,?_,?_⟩
  ·intro y0 y1 y2 y3 y4 y5 y6
   unfold aq.l0
   repeat' with_reducible first|exact ih0 ..|exact ih1 ..|exact ih2 ..|exact bq.mono ..|exact LeO.refl ..|exact LeO.none ..|refine LeO.ite ?_ ?_|refine LeO.bind ?_ (fun _=>?_)
  ·intro y0 y1 y2 y3 y4 y5 y6
   unfold aq.l1
   repeat' with_reducible first|exact ih0 ..|exact ih1 ..|exact ih2 ..|exact bq.mono ..|exact LeO.refl ..|exact LeO.none ..|refine LeO.ite ?_ ?_|refine LeO.bind ?_ (fun _=>?_)
  ·intro y0 y1 y2 y3 y4 y5 y6 y7
   unfold aq.j2
   repeat' with_reducible first|exact ih0 ..|exact ih1 ..|exact ih2 ..|exact bq.mono ..|exact LeO.refl ..|exact LeO.none ..|refine LeO.ite ?_ ?_|refine LeO.bind ?_ (fun _=>?_)
theorem aq.mono:∀ a0 a1 a2 k,LeO (aq.f k a0 a1 a2) (aq.f (k+1) a0 a1 a2):=by
 intro a0 a1 a2 k;obtain ⟨ih0,ih1,ih2⟩:=aq.mono_l k;unfold aq.f
 repeat' with_reducible first|exact ih0 ..|exact ih1 ..|exact ih2 ..|exact bq.mono ..|exact LeO.refl ..|exact LeO.none ..|refine LeO.ite ?_ ?_|refine LeO.bind ?_ (fun _=>?_)
theorem aq.calls (k:Nat) (a0_0:Int) (a0_1:Bool) (A0_2:Option Addr) (c0_2:Nat) (l0_2:List Int) (r:List Int) (w:World) (hr0_2:Kd.C (Kd.int .i64) w A0_2 l0_2.length l0_2) (hc0_2:l0_2.length≤c0_2) (H:aq.f k a0_0 a0_1 l0_2=some r) :
  Calls Tryz.prog 90 #[.agg #[.int .i64 a0_0,.bool a0_1,.slice A0_2 l0_2.length c0_2]] w fun e w'=>∃ v0_:Value,e=.returned (v0_)∧Kd.R (Kd.int .i64) 3 w' w.heap.size (fun _=>True) v0_ r∧Below w.heap.size w w':=by
 have hu30:=Tryz.underlying30;have HR0_2:=A0_ hr0_2;have HC0_2:=A0_ hc0_2;clear hr0_2 hc0_2;have HB:=A0_ (Below.refl w.heap.size w);unfold aq.f at H;obtain ⟨y1,hy1⟩:∃ y_:List Int,y_=(([]:List Int)):=⟨_,rfl⟩;replace H:((bq.f k a0_0 a0_1 l0_2).bind fun t1=>(aq.l0 k y1 t1 0 0 a0_0 a0_1 l0_2))=some r:=dx;have Ny1:=A0_ hy1;clear hy1;obtain ⟨t1,A2,H⟩:=o1_ H;have H':=A0_ H;clear H;go_enter Tryz.func90,Tryz.ntmps90
 go_wp2_with (first|((with_reducible refine gd_ (N:=1) rfl ?_);refine bx_ 1 #[.int .i64 a0_0,.bool a0_1,.slice A0_2 l0_2.length c0_2] 30 ?_;intro gb1 hg w1 BK1 hb;have GW1:=ge_ hg ai;have GE1:=GW1;replace HB:=hb_ hb ai;clear hb hg)|((with_reducible refine gd_ (N:=8) rfl ?_);refine Kd.R_lit (Kd.int .i64) _ 3 ?hg (N:=8) ?hd (xs:=([]:List Int)) (inner:=[]) (ok:=fun _=>True) (okp:=fun _=>True) ?hr ?hp (fun _ hk=>hk) trivial (Below.refl _ _) (Nat.le_refl _) bB ?_;(case hd=>rfl);(case hg=>rfl);(case hr=>go_simp;first|done|rfl);(case hp=>exact (aN.none _ _));intro v1 w2 ho5 hb hg_ hnew_;clear hg_ hnew_;(first|rw [← Ny1.out] at ho5|(simp only [Int.reduceToNat] at ho5;rw [← Ny1.out] at ho5));have HO1:=A0_ (Kd.R_lower ho5 (bz_ aj));replace BK1:=k1_ BK1 hb;replace HB:=hb_ hb aj;clear hb ho5;have hcz1:=c3_ BK1)|((with_reducible refine gc_ (f:=104) rfl ?_);refine gl_ 10 Tryz.func104 #[.agg #[.int .i64 a0_0,.bool a0_1,.slice A0_2 l0_2.length c0_2]] ?_;(with_reducible refine (bq.calls k a0_0 a0_1 _ _ l0_2 t1 _ ?_ ?_ A2.out).mono ?_);exact bz;exact HC0_2.out;rintro e w3 ⟨v2,rfl,ho0,hb⟩;refine ⟨_,rfl,?_⟩;have HO2:=A0_ (Kd.R_lower (Kd.R_new' ho0 (Kd.R_lt bx)) (bz_ aj));replace HO1:=A0_ (Kd.R_elder' bx (Kd.R_base ho0) hb);replace BK1:=k1_ BK1 hb;replace HB:=hb_ hb aj;(try clear hb ho0)))
 go_loopg [5,6] k (fun kq v3 v4 w'=>∃ (x5_1:Int) (x6_1:Int),v3=.int .i64 x5_1∧v4=.int .i64 x6_1∧Aside0 (aq.l0 kq y1 t1 x5_1 x6_1 a0_0 a0_1 l0_2=some r)∧Aside0 (kq≤k)∧Aside0 (Kd.R (Kd.int .i64) 3 w' w.heap.size (fun k_=>no_ v2 k_) v1 y1)∧Aside0 (Kd.R (Kd.int .i64) 3 w' w.heap.size (fun k_=>no_ v1 k_) v2 t1)∧Aside0 (w'.heap[gb1]?=some (.cells #[.int .i64 a0_0,.bool a0_1,(.slice A0_2 l0_2.length c0_2)] 30 (0,0)))∧Aside0 (Below w.heap.size w w'))
 case atStart=>exact ⟨(0),(0),aX,aX,H',⟨Nat.le_refl _⟩,⟨iu⟩,⟨fu⟩,⟨u1_ BK1⟩,⟨aj⟩⟩
 clear H'
 (try clear hcz1)
 obtain ⟨x5_1,x6_1,rfl,rfl,HA,HK1,HO_1,HO_2,BK1,HB⟩:=hrel
 cases gk with|zero=>exact absurd HA.out (by simp [aq.l0])|succ k1=>?_
 have H:=HA.out;clear HA;simp only [aq.l0] at H
 by_cases c1:x6_1<a0_0
 ·rw [if_pos c1] at H
  have c1b0:decide (x6_1<a0_0)=true:=dt_ c1;clear c1;obtain ⟨c2b0,H⟩:=i1_ H;obtain ⟨c3b0,H⟩:=i1_ H;obtain ⟨t2,A4,H⟩:=o1_ H;have H':=A0_ H;clear H;have hcz2:=c3_ BK1;obtain ⟨Ao1,co1,eo1⟩:=Kd.R_slice HO_2.out;subst eo1;have p1:0≤(x6_1:Int):=od_ ay;have q1:x6_1<(t1.length:Int):=od_ ay;obtain ⟨ad1,e1,hx1_0⟩:=Kd.at_int (rr_ HO_2.out).2.2 x6_1 p1 q1;cases e1;replace p1:=eq_true p1;replace q1:=eq_true q1
  go_wp2_with (first|((with_reducible refine gc_ (f:=96) rfl ?_);refine gl_ 22 Tryz.func96 #[.int .i64 x5_1,.int .i64 (rd t1 x6_1)] ?_;(with_reducible refine (cx.calls x5_1 (rd t1 x6_1) t2 _ A4.out).mono ?_);rintro e w' ⟨rfl,⟨nd,rfl⟩⟩;refine ⟨_,rfl,?_⟩))
  go_roundg k1
  case measure=>have:=HK1.out;omega
  exact ⟨(t2),(wrap64 (x6_1+1)),aX,aX,H',⟨dj⟩,⟨br⟩,⟨bG⟩,⟨u1_ BK1⟩,⟨aj⟩⟩
 rw [if_neg c1] at H;have c1b0:decide (x6_1<a0_0)=false:=decide_eq_false c1;clear c1;have H':=A0_ H;clear H;have hcz2:=c3_ BK1
 go_wp2
 go_loopg [3,7] k1 (fun kq v5 v6 w'=>∃ (x3_2:List Int) (x7_2:Int),v6=.int .i64 x7_2∧Aside0 (aq.l1 kq x3_2 t1 x5_1 x7_2 a0_0 a0_1 l0_2=some r)∧Aside0 (kq≤k1)∧Aside0 (Kd.R (Kd.int .i64) 3 w' w.heap.size (fun k_=>no_ v2 k_) v5 x3_2)∧Aside0 (Kd.R (Kd.int .i64) 3 w' w.heap.size (fun k_=>no_ v5 k_) v2 t1)∧Aside0 (w'.heap[gb1]?=some (.cells #[.int .i64 a0_0,.bool a0_1,(.slice A0_2 l0_2.length c0_2)] 30 (0,0)))∧Aside0 (Below w.heap.size w w'))
 case atStart=>exact ⟨(y1),(0),aX,H',⟨Nat.le_refl _⟩,⟨br⟩,⟨bG⟩,⟨u1_ BK1⟩,⟨aj⟩⟩
 clear H'
 try clear c1
 try clear c1b0
 (try clear hcz2);(try clear hcz1)
 obtain ⟨x3_2,x7_2,rfl,HA,HK2,HO_1,HO_2,BK1,HB⟩:=hrel
 cases gk with|zero=>exact absurd HA.out (by simp [aq.l1])|succ k2=>?_
 have H:=HA.out;clear HA;simp only [aq.l1] at H;have HC15:=A0_ H;clear H
 go_upto_region 8 with (fail)
 go_cut [30] (fun v7 wc=>∃ (kq:Nat) (x30_14:Bool),v7=.bool x30_14∧Aside0 (aq.j2 kq x3_2 t1 x5_1 x7_2 x30_14 a0_0 a0_1 l0_2=some r)∧Aside0 (kq≤k2)∧Aside0 (Kd.R (Kd.int .i64) 3 wc w.heap.size (fun k_=>no_ v2 k_) u3 x3_2)∧Aside0 (Kd.R (Kd.int .i64) 3 wc w.heap.size (fun k_=>no_ u3 k_) v2 t1)∧Aside0 (wc.heap[gb1]?=some (.cells #[.int .i64 a0_0,.bool a0_1,(.slice A0_2 l0_2.length c0_2)] 30 (0,0)))∧Aside0 (Below w.heap.size w wc))
 case first =>
  have H:=HC15.out;clear HC15
  by_cases c2:x7_2<a0_0
  ·rw [if_pos c2] at H
   have c2b0:decide (x7_2<a0_0)=true:=dt_ c2;clear c2
   (first|rw [c2b0]|(simp only [dD,dM];rw [c2b0])|skip)
   have H':=A0_ H;clear H;have hcz3:=c3_ BK1
   go_wp2
   go_meet
   exact ⟨_,(decide (x5_1 > 0)),aX,H',⟨by have:=HK1.out;have:=HK2.out;first|omega|exact Nat.le_refl _⟩,⟨br⟩,⟨bG⟩,⟨u1_ BK1⟩,⟨aj⟩⟩
  rw [if_neg c2] at H;have c2b0:decide (x7_2<a0_0)=false:=decide_eq_false c2;clear c2
  (first|rw [c2b0]|(simp only [dD,dM];rw [c2b0])|skip)
  have H':=A0_ H;clear H;have hcz3:=c3_ BK1
  go_wp2
  go_meet
  exact ⟨_,(false),aX,H',⟨by have:=HK1.out;have:=HK2.out;first|omega|exact Nat.le_refl _⟩,⟨br⟩,⟨bG⟩,⟨u1_ BK1⟩,⟨aj⟩⟩
 clear HC15
 try clear c1
 try clear c1b0
 (try clear hcz2);(try clear hcz1)
 obtain ⟨kq,x30_14,rfl,HA,HJ1,HO_1,HO_2,BK1,HB⟩:=hcut
 cases kq with|zero=>exact absurd HA.out (by simp [aq.j2])|succ kj1=>?_
 have H:=HA.out;clear HA;simp only [aq.j2] at H
 by_cases c2:x30_14=true
 case neg =>
  obtain rfl:=bf_.mpr c2;rw [if_neg ft_] at H;obtain rfl:=si_ H
  go_wp2
  go_ret
  exact ⟨_,aE,by (with_reducible repeat (first|apply ra_|apply rn_|apply rd_));exact Kd.R_mono HO_1.out (fun _ hk=>trivial),aj⟩
 subst c2;rw [if_pos rfl] at H;obtain ⟨c3b0,H⟩:=i1_ H;obtain ⟨c4b0,H⟩:=i1_ H
 by_cases c5:(rd t1 x7_2)=x5_1
 case neg =>
  rw [if_neg c5] at H;obtain ⟨c5b0,c5b1⟩:=ef_ c5;have H':=A0_ H;clear H;obtain ⟨Ao1,co1,eo1⟩:=Kd.R_slice HO_2.out;subst eo1;have p1:0≤(x7_2:Int):=od_ ay;have q1:x7_2<(t1.length:Int):=od_ ay;obtain ⟨ad1,e1,hx1_0⟩:=Kd.at_int (rr_ HO_2.out).2.2 x7_2 p1 q1;cases e1;replace p1:=eq_true p1;replace q1:=eq_true q1
  go_wp2
  go_roundg kj1
  case measure=>have:=HK1.out;have:=HK2.out;have:=HJ1.out;omega
  exact ⟨(x3_2),(wrap64 (x7_2+1)),aX,H',⟨by have:=HK1.out;have:=HK2.out;have:=HJ1.out;omega⟩,⟨br⟩,⟨bG⟩,⟨u1_ BK1⟩,⟨aj⟩⟩
 rw [if_pos c5] at H;obtain ⟨c5b0,c5b1⟩:=et_ c5;clear c5;obtain ⟨c6,H⟩:=is_ H;have LMc1:=A0_ c6;clear c6;obtain ⟨y2,hy2⟩:∃ y_:List Int,y_=(x3_2++[x7_2]):=⟨_,rfl⟩;replace H:(aq.l1 kj1 y2 t1 x5_1 (wrap64 (x7_2+1)) a0_0 a0_1 l0_2)=some r:=dH;have Ny2:=A0_ hy2;clear hy2;have H':=A0_ H;clear H;obtain ⟨Ao1,co1,eo1⟩:=Kd.R_slice HO_2.out;subst eo1;have p1:0≤(x7_2:Int):=od_ ay;have q1:x7_2<(t1.length:Int):=od_ ay;obtain ⟨ad1,e1,hx1_0⟩:=Kd.at_int (rr_ HO_2.out).2.2 x7_2 p1 q1;cases e1;replace p1:=eq_true p1;replace q1:=eq_true q1
 go_wp2_with (first|((with_reducible refine bX (b:=.append) (xs:=#[.tmp 39,.tmp 41]) rfl ?_);at_builtin;refine Kd.R_append (Kd.int .i64) (w0:=w) w.heap.size rfl (.tmp 39) (.tmp 41) 22 3 (.int .i64 0) 8 rfl Tryz.underlying22 cW rfl ag bm u3 x3_2 x7_2 [.int .i64 x7_2] (fun k_=>no_ (.slice (some ad1) t1.length co1) k_) (fun _=>False) rfl rfl ?aP (fun _ hk=>hk.elim) ?aF ?aO ?aB ?aS ?aL ?_;(case aP=>exact rfl);(case aB=>exact aj);(case aF=>exact (fun k_ hk=>Kd.fresh' (Kd.R_lt bG) k_ hk));(case aO=>exact br);(case aS=>exact (bz_ aj));(case aL=>have:=LMc1.out;omega);intro v8 w4 ho hb hg hat;rw [← Ny2.out] at ho;have n0_:=A0_ (Kd.R_after (ok:=(fun _=>True)) (by (with_reducible repeat (first|apply ra_|apply rn_|apply rd_));exact Kd.R_mono HO_2.out (fun _ hk=>⟨trivial,hk⟩)) hg hat);have n1_:=A0_ (aJ (g:=gb1) (o:=.cells #[.int .i64 a0_0,.bool a0_1,.slice A0_2 l0_2.length c0_2] 30 (0,0)) (u1_ BK1) hg (Kd.R_ne HO_1.out BK1.out ag));have n2_:=A0_ (hb);have n3_:=A0_ (ho);clear HO_2 BK1 HB HO_1;have HO_2:=n0_;have BK1:=n1_;have HB:=n2_;have HO3:=n3_;clear n0_ n1_ n2_ n3_ ho hb hg hat))
 go_roundg kj1
 case measure=>have:=HK1.out;have:=HK2.out;have:=HJ1.out;omega
 exact ⟨(y2),(wrap64 (x7_2+1)),aX,H',⟨by have:=HK1.out;have:=HK2.out;have:=HJ1.out;omega⟩,⟨d9⟩,⟨by (with_reducible repeat (first|apply ra_|apply rn_|apply rd_));exact Kd.R_mono HO_2.out (fun _ hk=>hk.2)⟩,⟨u1_ BK1⟩,⟨aj⟩⟩

def aZ.l0:Nat→List Int→Int→Int→Option (Int)
 | 0,_,_,_=>none
 | k+1,x0,x1,x5=>if 0≤x5 then (if x5<(x0.length:Int) then (if (rd x0 x5)=x1 then (some x5) else (aZ.l0 k x0 x1 (wrap64 (x5+1)))) else (none)) else (none)
def aZ.f (k:Nat) (l0:List Int) (a1:Int):Option (Int):=aZ.l0 k l0 a1 0
theorem aZ.mono_l:∀ k,(∀ y0 y1 y2,LeO (aZ.l0 k y0 y1 y2) (aZ.l0 (k+1) y0 y1 y2))
 | 0=>fun _ _ _ r h=>by simp [aZ.l0] at h
 | k+1=>by
  have ih0:=aZ.mono_l k
  ·intro y0 y1 y2
   unfold aZ.l0
   repeat' with_reducible first|exact ih0 ..|exact LeO.refl ..|exact LeO.none ..|refine LeO.ite ?_ ?_|refine LeO.bind ?_ (fun _=>?_)
theorem aZ.mono:∀ a0 a1 k,LeO (aZ.f k a0 a1) (aZ.f (k+1) a0 a1):=by
 intro a0 a1 k;have ih0:=aZ.mono_l k;unfold aZ.f
 repeat' with_reducible first|exact ih0 ..|exact LeO.refl ..|exact LeO.none ..|refine LeO.ite ?_ ?_|refine LeO.bind ?_ (fun _=>?_)
theorem aZ.calls (k:Nat) (A0:Option Addr) (c0:Nat) (l0:List Int) (a1:Int) (r:Int) (w:World) (hr0:Kd.C (Kd.int .i64) w A0 l0.length l0) (hc0:l0.length≤c0) (H:aZ.f k l0 a1=some r) :
  Calls Tryz.prog 91 #[.slice A0 l0.length c0,.int .i64 a1] w fun e w'=>e=.returned (.int .i64 r)∧Drawn0 w w':=by
 have HR0:=A0_ hr0;have HC0:=A0_ hc0;clear hr0 hc0;unfold aZ.f at H;have H':=A0_ H;clear H;go_enter Tryz.func91,Tryz.ntmps91
 go_wp2
 go_loopg [5] k (fun kq v1 w'=>∃ (x5_1:Int),v1=.int .i64 x5_1∧Aside0 (aZ.l0 kq l0 a1 x5_1=some r)∧Aside0 (kq≤k)∧Drawn0 w w')
 case atStart=>exact ⟨(0),aX,H',⟨Nat.le_refl _⟩,ck⟩
 clear H';obtain ⟨x5_1,rfl,HA,HK1,⟨m1,rfl⟩⟩:=hrel
 cases gk with|zero=>exact absurd HA.out (by simp [aZ.l0])|succ k1=>?_
 have H:=HA.out;clear HA;simp only [aZ.l0] at H;obtain ⟨c1b0,H⟩:=i1_ H;obtain ⟨c2b0,H⟩:=i1_ H
 by_cases c3:(rd l0 x5_1)=a1
 ·rw [if_pos c3] at H
  obtain ⟨c3b0,c3b1⟩:=et_ c3;clear c3;obtain rfl:=si_ H;have p1:0≤(x5_1:Int):=od_ ay;have q1:x5_1<(l0.length:Int):=od_ ay;obtain ⟨ad1,e1,hx1_0⟩:=Kd.at_int HR0.out x5_1 p1 q1;cases e1;replace p1:=eq_true p1;replace q1:=eq_true q1
  go_wp2
  go_ret
  exact ⟨dv,ck⟩
 rw [if_neg c3] at H;obtain ⟨c3b0,c3b1⟩:=ef_ c3;have H':=A0_ H;clear H;have p1:0≤(x5_1:Int):=od_ ay;have q1:x5_1<(l0.length:Int):=od_ ay;obtain ⟨ad1,e1,hx1_0⟩:=Kd.at_int HR0.out x5_1 p1 q1;cases e1;replace p1:=eq_true p1;replace q1:=eq_true q1
 go_wp2
 go_roundg k1
 case measure=>have:=HK1.out;omega
 exact ⟨(wrap64 (x5_1+1)),aX,H',⟨dj⟩,ck⟩

def aI.l0:Nat→Int→List Int→Int→Int→Bool→List Int→Option (Int × Bool × List Int)
 | 0,_,_,_,_,_,_=>none
 | k+1,x1,x5,x6,xb,xc,xa=>if x6<(xa.length:Int) then (if 0≤x6 then (if (rd xa x6)=x1 then (aI.l0 k x1 x5 (wrap64 (x6+1)) xb xc xa) else (if x5.length<17592186044416 then (aI.l0 k x1 (x5++[rd xa x6]) (wrap64 (x6+1)) xb xc xa) else (none))) else (none)) else ((dn.f xb xc xa x5).bind fun bt218=>(some (bt218.1,bt218.2.1,bt218.2.2)))
def aI.f (k:Nat) (a0_0:Int) (a0_1:Bool) (l0_2:List Int) (a1:Int):Option (Int × Bool × List Int):=aI.l0 k a1 (([]:List Int)) 0 a0_0 a0_1 l0_2
theorem aI.mono_l:∀ k,(∀ y0 y1 y2 y3 y4 y5,LeO (aI.l0 k y0 y1 y2 y3 y4 y5) (aI.l0 (k+1) y0 y1 y2 y3 y4 y5))
 | 0=>fun _ _ _ _ _ _ r h=>by simp [aI.l0] at h
 | k+1=>by
  have ih0:=aI.mono_l k
  ·intro y0 y1 y2 y3 y4 y5
   unfold aI.l0
   repeat' with_reducible first|exact ih0 ..|exact LeO.refl ..|exact LeO.none ..|refine LeO.ite ?_ ?_|refine LeO.bind ?_ (fun _=>?_)
theorem aI.mono:∀ a0 a1 a2 a3 k,LeO (aI.f k a0 a1 a2 a3) (aI.f (k+1) a0 a1 a2 a3):=by
 intro a0 a1 a2 a3 k;have ih0:=aI.mono_l k;unfold aI.f
 repeat' with_reducible first|exact ih0 ..|exact LeO.refl ..|exact LeO.none ..|refine LeO.ite ?_ ?_|refine LeO.bind ?_ (fun _=>?_)
theorem aI.calls (k:Nat) (a0_0:Int) (a0_1:Bool) (A0_2:Option Addr) (c0_2:Nat) (l0_2:List Int) (a1:Int) (r1:Int) (r2:Bool) (r3:List Int) (w:World) (hr0_2:Kd.C (Kd.int .i64) w A0_2 l0_2.length l0_2) (hc0_2:l0_2.length≤c0_2) (H:aI.f k a0_0 a0_1 l0_2 a1=some (r1,r2,r3)) :
  Calls Tryz.prog 92 #[.agg #[.int .i64 a0_0,.bool a0_1,.slice A0_2 l0_2.length c0_2],.int .i64 a1] w fun e w'=>∃ v2_:Value,e=.returned (.agg #[.int .i64 r1,.bool r2,v2_])∧Kd.R (Kd.int .i64) 3 w' w.heap.size (fun _=>True) v2_ r3∧Below w.heap.size w w':=by
 have hu30:=Tryz.underlying30;have HR0_2:=A0_ hr0_2;have HC0_2:=A0_ hc0_2;clear hr0_2 hc0_2;have HB:=A0_ (Below.refl w.heap.size w);unfold aI.f at H;obtain ⟨y1,hy1⟩:∃ y_:List Int,y_=(([]:List Int)):=⟨_,rfl⟩;replace H:(aI.l0 k a1 y1 0 a0_0 a0_1 l0_2)=some (r1,r2,r3):=dx;have Ny1:=A0_ hy1;clear hy1;have H':=A0_ H;clear H;go_enter Tryz.func92,Tryz.ntmps92
 go_wp2_with (first|((with_reducible refine gd_ (N:=2) rfl ?_);refine bx_ 2 #[.int .i64 a0_0,.bool a0_1,.slice A0_2 l0_2.length c0_2] 30 ?_;intro gb1 hg w1 BK1 hb;have GW1:=ge_ hg ai;have GE1:=GW1;replace HB:=hb_ hb ai;clear hb hg)|((with_reducible refine gd_ (N:=4) rfl ?_);refine bx_ 4 #[.int .i64 0,.bool false,.slice none 0 0] 30 ?_;intro gb2 hg w2 BK2 hb;have GW2:=ge_ hg aj;have GE2:=GW2;replace HB:=hb_ hb aj;obtain ⟨NB1_2,NB2_1⟩:=nn_ hg BK1;replace BK1:=k1_ BK1 hb;clear hb hg)|((with_reducible refine gd_ (N:=7) rfl ?_);refine Kd.R_lit (Kd.int .i64) _ 3 ?hg (N:=7) ?hd (xs:=([]:List Int)) (inner:=[]) (ok:=fun _=>True) (okp:=fun _=>True) ?hr ?hp (fun _ hk=>hk) trivial (Below.refl _ _) (Nat.le_refl _) bB ?_;(case hd=>rfl);(case hg=>rfl);(case hr=>go_simp;first|done|rfl);(case hp=>exact (aN.none _ _));intro v1 w3 ho6 hb hg_ hnew_;clear hg_ hnew_;(first|rw [← Ny1.out] at ho6|(simp only [Int.reduceToNat] at ho6;rw [← Ny1.out] at ho6));have HO1:=A0_ (Kd.R_lower ho6 (bz_ au));replace BK1:=k1_ BK1 hb;replace BK2:=k1_ BK2 hb;replace HB:=hb_ hb au;clear hb ho6))
 go_loopg [5,6] k (fun kq v3 v4 w'=>∃ (x5_1:List Int) (x6_1:Int),v4=.int .i64 x6_1∧Aside0 (aI.l0 kq a1 x5_1 x6_1 a0_0 a0_1 l0_2=some (r1,r2,r3))∧Aside0 (kq≤k)∧Aside0 (Kd.R (Kd.int .i64) 3 w' w.heap.size (fun _=>True) v3 x5_1)∧Aside0 (w'.heap[gb1]?=some (.cells #[.int .i64 a0_0,.bool a0_1,(.slice A0_2 l0_2.length c0_2)] 30 (0,0)))∧Aside0 (w'.heap[gb2]?=some (.cells #[.int .i64 0,.bool false,(.slice none 0 0)] 30 (0,0)))∧Aside0 (Below w.heap.size w w'))
 case atStart=>exact ⟨(y1),(0),aX,H',⟨Nat.le_refl _⟩,⟨bx⟩,⟨u1_ BK1⟩,⟨u1_ BK2⟩,⟨au⟩⟩
 clear H';obtain ⟨x5_1,x6_1,rfl,HA,HK1,HO_1,BK1,BK2,HB⟩:=hrel
 cases gk with|zero=>exact absurd HA.out (by simp [aI.l0])|succ k1=>?_
 have H:=HA.out;clear HA;simp only [aI.l0] at H
 by_cases c1:x6_1<(l0_2.length:Int)
 case neg =>
  rw [if_neg c1] at H;have c1b0:decide (x6_1<(l0_2.length:Int))=false:=decide_eq_false c1;clear c1;obtain ⟨⟨t1,t2,t3⟩,A2,H⟩:=o1_ H;replace H:(some (t1,t2,t3))=some (r1,r2,r3):=H;simp only [sj_,pj_] at H;obtain ⟨rfl,rfl,rfl⟩:=H;obtain ⟨hnb1,hnc1⟩:=n2_ NB1_2;have hcz1:=z3_ BK1;obtain ⟨Ao1,co1,eo1⟩:=Kd.R_slice HO_1.out;subst eo1
  go_wp2_with (first|((with_reducible refine gc_ (f:=105) rfl ?_);refine gl_ 32 Tryz.func105 #[.agg #[.int .i64 a0_0,.bool a0_1,.slice A0_2 l0_2.length c0_2],.slice Ao1 x5_1.length co1] ?_;(with_reducible refine (dn.calls a0_0 a0_1 _ _ l0_2 (fun k_=>some k_=(.slice Ao1 x5_1.length co1:Value).ownBlock) (.slice Ao1 x5_1.length co1) x5_1 t1 t2 t3 w _ ?_ ?_ ?_ ?_ A2.out).mono ?_);exact au;exact Kd.C_kept_came (Kd.heap_int .i64) HR0_2.out au (fun k_ hs_=>(fun e_=>Kd.R_base HO_1.out k_ e_.symm) hs_);exact HC0_2.out;exact Kd.R_tight rfl HO_1.out;rintro e w4 ⟨v5,rfl,ho0,hb,hkp⟩;refine ⟨_,rfl,?_⟩;have n0_:=A0_ (fw (u1_ BK1) hkp (fun hs_=>(fun e_=>(Kd.R_ne HO_1.out BK1.out ag) e_) hs_));have n1_:=A0_ (fw (u1_ BK2) hkp (fun hs_=>(fun e_=>(Kd.R_ne HO_1.out BK2.out ag) e_) hs_));have n2_:=A0_ (Kd.R_mono (ok':=fun k_=>True) ho0 (fun k_ hk_=>trivial));have n3_:=A0_ (hb);clear BK1 BK2 HB HO_1;have BK1:=n0_;have BK2:=n1_;have HO2:=n2_;have HB:=n3_;clear n0_ n1_ n2_ n3_;(try clear hb);(try clear hkp);(try clear ho0);have hcz2:=z3_ BK2;obtain ⟨Ao2,co2,eo2⟩:=Kd.R_slice HO2.out;subst eo2))
  refine bodyPost_ret (results_cell_row rfl _ _ gb2 30 #[.int .i64 t1,.bool t2,.slice Ao2 t3.length co2] (0,0) _ rfl (u1_ BK2) Tryz.underlying30 rfl aY) rfl ?_
  exact ⟨_,aE,by (with_reducible repeat (first|apply ra_|apply rn_|apply rd_));exact Kd.R_mono (d8 (Kd.R_types HO2.out BK2.out ag)) (fun _ hk=>trivial),au⟩
 rw [if_pos c1] at H;have c1b0:decide (x6_1<(l0_2.length:Int))=true:=dt_ c1;clear c1;obtain ⟨c2b0,H⟩:=i1_ H
 by_cases c3:(rd l0_2 x6_1)=a1
 ·rw [if_pos c3] at H
  obtain ⟨c3b0,c3b1⟩:=et_ c3;clear c3;have H':=A0_ H;clear H;obtain ⟨hnb1,hnc1⟩:=n2_ NB1_2;have hcz1:=z3_ BK1;have p1:0≤(x6_1:Int):=od_ ay;have q1:x6_1<(l0_2.length:Int):=od_ ay;obtain ⟨ad1,e1,hx1_0⟩:=Kd.at_int HR0_2.out x6_1 p1 q1;cases e1;replace hx1_0:=(HB.out.cell (World.block_lt_of_cell? w _ hx1_0)).trans hx1_0;replace p1:=eq_true p1;replace q1:=eq_true q1
  go_wp2
  go_roundg k1
  case measure=>have:=HK1.out;omega
  exact ⟨(x5_1),(wrap64 (x6_1+1)),aX,H',⟨dj⟩,⟨br⟩,⟨u1_ BK1⟩,⟨u1_ BK2⟩,⟨au⟩⟩
 rw [if_neg c3] at H;obtain ⟨c3b0,c3b1⟩:=ef_ c3;obtain ⟨c4,H⟩:=is_ H;have LMc1:=A0_ c4;clear c4;obtain ⟨y2,hy2⟩:∃ y_:List Int,y_=(x5_1++[rd l0_2 x6_1]):=⟨_,rfl⟩;replace H:(aI.l0 k1 a1 y2 (wrap64 (x6_1+1)) a0_0 a0_1 l0_2)=some (r1,r2,r3):=dH;have Ny2:=A0_ hy2;clear hy2;have H':=A0_ H;clear H;obtain ⟨hnb1,hnc1⟩:=n2_ NB1_2;have hcz1:=z3_ BK1;have p1:0≤(x6_1:Int):=od_ ay;have q1:x6_1<(l0_2.length:Int):=od_ ay;obtain ⟨ad1,e1,hx1_0⟩:=Kd.at_int HR0_2.out x6_1 p1 q1;cases e1;replace hx1_0:=(HB.out.cell (World.block_lt_of_cell? w _ hx1_0)).trans hx1_0;replace p1:=eq_true p1;replace q1:=eq_true q1;have p2:0≤(x6_1:Int):=od_ ay;have q2:x6_1<(l0_2.length:Int):=od_ ay;obtain ⟨ad2,e2,hx2_0⟩:=Kd.at_int HR0_2.out x6_1 p2 q2;obtain rfl:ad1=ad2:=fm;replace hx2_0:=(HB.out.cell (World.block_lt_of_cell? w _ hx2_0)).trans hx2_0;replace p2:=eq_true p2;replace q2:=eq_true q2
 go_wp2_with (first|((with_reducible refine bX (b:=.append) (xs:=#[.tmp 22,.tmp 28]) rfl ?_);at_builtin;refine Kd.R_append (Kd.int .i64) (w0:=w) w.heap.size rfl (.tmp 22) (.tmp 28) 22 3 (.int .i64 0) 8 rfl Tryz.underlying22 cW rfl ag bm u5 x5_1 (rd l0_2 x6_1) [.int .i64 (rd l0_2 x6_1)] (fun _=>True) (fun _=>False) rfl rfl ?aP (fun _ hk=>hk.elim) ?aF ?aO ?aB ?aS ?aL ?_;(case aP=>exact rfl);(case aB=>exact au);(case aF=>exact (fun _ _=>trivial));(case aO=>exact br);(case aS=>exact (bz_ au));(case aL=>have:=LMc1.out;omega);intro v5 w4 ho hb hg hat;rw [← Ny2.out] at ho;have n0_:=A0_ (aJ (g:=gb1) (o:=.cells #[.int .i64 a0_0,.bool a0_1,.slice (some ad1) l0_2.length c0_2] 30 (0,0)) (u1_ BK1) hg (Kd.R_ne HO_1.out BK1.out ag));have n1_:=A0_ (aJ (g:=gb2) (o:=.cells #[.int .i64 0,.bool false,.slice none 0 0] 30 (0,0)) (u1_ BK2) hg (Kd.R_ne HO_1.out BK2.out ag));have n2_:=A0_ (hb);have n3_:=A0_ (ho);clear BK1 BK2 HB HO_1;have BK1:=n0_;have BK2:=n1_;have HB:=n2_;have HO2:=n3_;clear n0_ n1_ n2_ n3_ ho hb hg hat))
 go_roundg k1
 case measure=>have:=HK1.out;omega
 exact ⟨(y2),(wrap64 (x6_1+1)),aX,H',⟨dj⟩,⟨cd⟩,⟨u1_ BK1⟩,⟨u1_ BK2⟩,⟨au⟩⟩

end Go.Proofs.YtbohmfnjgjijdaaGreatDoor.QFnHouses
-- packed
-- squeezed
