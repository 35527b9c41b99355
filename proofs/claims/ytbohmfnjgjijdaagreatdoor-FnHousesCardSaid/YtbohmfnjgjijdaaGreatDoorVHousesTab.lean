-- Out of what the kit's print.sh wrote for this seat: the part that this law's texts use (squeeze.py, a program of this session).
import Derived.Test.YtbohmfnjgjijdaaGreatDoorVHousesLast
import Derived.Test.YtbohmfnjgjijdaaGreatDoorVHousesWords
namespace Go.Proofs.YtbohmfnjgjijdaaGreatDoorW.PrintLast
open Go.Proofs.YtbohmfnjgjijdaaGreatDoorW.PrintWords (Aside0)
def fJ (md:Region.Mode) (o:Oper):List Nat:=(o.after.toList.filter (fun e=>Region.binds md e)).map (fun e=>e.on)
def jE (md:Region.Mode) (ops:Array Oper) (i:Nat) (oi:Oper):List Nat:=(List.range ops.size).filter fun j=>!(j == i) && match ops[j]? with
 | some oj=>!(oj.after.any (fun e=>Region.binds md e && e.on == i) || oi.apart ops oj)
 | none=>false
def df (md:Region.Mode) (ops:Array Oper):Bool × List (List Nat × List Nat):=(Region.noSelect ops,(List.range ops.size).map fun i=>match ops[i]? with
 | some o=>(fJ md o,jE md ops i o)
 | none=>([],[]))
def eW (T:List (List Nat × List Nat)) (l:List Bool) (i:Nat):Bool:=!l.getD i true && match T[i]? with
 | some r=>r.1.all (fun j=>l.getD j false)
 | none=>false
def gT (T:List (List Nat × List Nat)) (l:List Bool):List Nat:=(List.range T.length).filter (eW T l)
def kc (T:List (List Nat × List Nat)) (l:List Bool) (i:Nat):Bool:=match T[i]? with
 | some r=>r.2.all (fun j=>l.getD j true)
 | none=>false
def ip (T:List (List Nat × List Nat)) (l:List Bool):Bool:=(List.range T.length).all fun j=>!l.getD j false || match T[j]? with
 | some r=>r.1.all (fun k=>l.getD k false)
 | none=>true
def gU (T:List (List Nat × List Nat)) (i:Nat):Nat→Nat→Bool
 | 0,_=>false
 | bv+1,d=>match T[d]? with
  | some r=>r.1.any fun j=>j == i || gU T i bv j
  | none=>false
def k6 (T:List (List Nat × List Nat)) (l:List Bool) (ds:List Nat) (i:Nat):Bool:=ds.all fun d=>l.getD d true || gU T i T.length d
section
variable {md:Region.Mode} {ops:Array Oper} {T:Bool × List (List Nat × List Nat)} {l l' li lj lk:Array Bool} {ds:List Nat} {i j k:Nat}
theorem gd (l:Array Bool) (j:Nat) (b:Bool):l.getD j b=l.toList.getD j b:=by simp [Array.getD_eq_getD_getElem?,List.getD_eq_getElem?_getD]
theorem js (o:Oper) (p:Nat→Bool):o.after.all (fun e=>!Region.binds md e || p e.on)=(fJ md o).all p:=by
 unfold fJ
 rw [← Array.all_toList]
 induction o.after.toList with
 | nil=>rfl
 | cons e r ih =>
  rw [List.all_cons,ih,List.filter_cons]
  cases h:Region.binds md e <;> simp
theorem lr (o:Oper) (p:Nat→Bool):o.after.any (fun e=>Region.binds md e && p e.on)=(fJ md o).any p:=by
 unfold fJ
 rw [← Array.any_toList]
 induction o.after.toList with
 | nil=>rfl
 | cons e r ih =>
  rw [List.any_cons,ih,List.filter_cons]
  cases h:Region.binds md e <;> simp
theorem eX:(df md ops).2.length=ops.size:=by simp [df]
theorem fK {o:Oper} (h:ops[i]?=some o):(df md ops).2[i]?=some (fJ md o,jE md ops i o):=by
 have hi:=(Array.getElem?_eq_some_iff.1 h).1
 unfold df
 rw [List.getElem?_map,List.getElem?_range hi,Option.map_some,h]
theorem fL (h:ops[i]?=none):(df md ops).2[i]?=none:=by
 have hi:ops.size≤i:=Array.getElem?_eq_none_iff.1 h
 exact List.getElem?_eq_none (by rw [eX];exact hi)
theorem kA:eW (df md ops).2 l.toList i=(!l.getD i true && ((ops[i]?).map (·.after.all fun e=>!Region.binds md e || l.getD e.on false)).getD false):=by
 unfold eW
 rw [gd]
 cases h:ops[i]? with
 | none=>rw [fL h];rfl
 | some o =>
  rw [fK h]
  simp only [Option.map_some,Option.getD_some]
  rw [← js]
  simp only [gd]
theorem gH:Region.ready md ops l=gT (df md ops).2 l.toList:=by
 unfold Region.ready gT
 rw [eX]
 refine List.filter_congr (fun i _=>?_)
 rw [kA]
theorem k7:Region.free md ops l i=kc (df md ops).2 l.toList i:=by
 unfold Region.free kc
 cases h:ops[i]? with
 | none=>rw [fL h]
 | some oi =>
  rw [fK h]
  simp only [jE]
  rw [List.all_filter]
  congr 1
  funext j
  rw [gd]
  cases hj:ops[j]? with
  | none=>cases (j == i) <;> cases (l.toList.getD j true) <;> simp
  | some oj =>
   cases (j == i) <;> cases (l.toList.getD j true) <;> cases (oj.after.any (fun e=>Region.binds md e && e.on == i) || oi.apart ops oj) <;> simp_all
theorem ls:Region.closedB md ops l=ip (df md ops).2 l.toList:=by
 unfold Region.closedB ip
 rw [eX]
 congr 1
 funext j
 rw [gd]
 cases h:ops[j]? with
 | none=>rw [fL h]
 | some o =>
  rw [fK h]
  simp only
  rw [← js]
  simp only [gd]
theorem kd:∀ (bv d:Nat),Region.reachB md ops i bv d=gU (df md ops).2 i bv d
 | 0,_=>rfl
 | bv+1,d=>by
  unfold Region.reachB gU
  cases h:ops[d]? with
  | none=>rw [fL h]
  | some o =>
   rw [fK h]
   simp only
   rw [← lr]
   congr 1
   funext e
   rw [kd bv]
theorem mA:Region.lastB md ops l ds i=k6 (df md ops).2 l.toList ds i:=by
 unfold Region.lastB k6
 rw [eX]
 congr 1
 funext d
 rw [gd,kd]
theorem hZ (h:eW T.2 l.toList i=true) (hT:df md ops=T):(Region.ready md ops l).contains i=true:=by
 subst hT
 rw [gH]
 unfold gT
 rw [List.contains_iff_mem,List.mem_filter,List.mem_range]
 refine ⟨?_,h⟩
 unfold eW at h
 rw [Bool.and_eq_true] at h
 cases hq:(df md ops).2[i]? with
 | none=>rw [hq] at h;simp at h
 | some r=>exact (List.getElem?_eq_some_iff.1 hq).1
theorem iH (h:(l.toList.set i true == l'.toList)=true):(l.setIfInBounds i true == l')=true:=by
 rw [beq_iff_eq] at h ⊢
 apply Array.ext'
 rw [Array.toList_setIfInBounds]
 exact h
def oW (T:Bool × List (List Nat × List Nat)) (l l':List Bool) (i:Nat):Bool:=T.1 && kc T.2 l i && eW T.2 l i && (l.set i true == l')
theorem lN (hT:df md ops=T) (h:oW T l.toList l'.toList i=true):lq md ops l l' i=true:=by
 simp only [oW,Bool.and_eq_true] at h
 obtain ⟨⟨⟨h1,h2⟩,h3⟩,h4⟩:=h
 have h5:=hZ h3 hT
 have h6:=iH h4
 subst hT
 simp only [lq,Bool.and_eq_true]
 exact ⟨⟨⟨h1,by rw [k7];exact h2⟩,h5⟩,h6⟩
def l9 (T:Bool × List (List Nat × List Nat)) (ds:List Nat) (l l':List Bool) (i:Nat):Bool:=T.1 && kc T.2 l i && eW T.2 l i && ip T.2 l && k6 T.2 l ds i && (l.set i true == l')
theorem mB (hT:df md ops=T) (h:l9 T ds l.toList l'.toList i=true):jh md ops ds l l' i=true:=by
 simp only [l9,Bool.and_eq_true] at h
 obtain ⟨⟨⟨⟨⟨h1,h2⟩,h3⟩,h4⟩,h5⟩,h6⟩:=h
 have h7:=hZ h3 hT
 have h8:=iH h6
 subst hT
 simp only [jh,Bool.and_eq_true]
 exact ⟨⟨⟨⟨⟨h1,by rw [k7];exact h2⟩,h7⟩,by rw [ls];exact h4⟩,by rw [mA];exact h5⟩,h8⟩
theorem ft (hT:df md ops=T) (h:(gT T.2 l.toList == [i] && l.toList.set i true == l'.toList)=true):gw md ops l l' i=true:=by
 simp only [Bool.and_eq_true] at h
 obtain ⟨h1,h2⟩:=h
 subst hT
 simp only [gw,Bool.and_eq_true]
 exact ⟨by rw [gH];exact h1,iH h2⟩
theorem ew (hT:df md ops=T) (h:(gT T.2 l.toList == [i,j] && l.toList.set i true == li.toList && l.toList.set j true == lj.toList)=true):(Region.ready md ops l == [i,j] && l.setIfInBounds i true == li && l.setIfInBounds j true == lj)=true:=by
 simp only [Bool.and_eq_true] at h ⊢
 obtain ⟨⟨h1,h2⟩,h3⟩:=h
 subst hT
 exact ⟨⟨by rw [gH];exact h1,iH h2⟩,iH h3⟩
theorem my (hT:df md ops=T) (h:(gT T.2 l.toList == [])=true):(Region.ready md ops l == [])=true:=by
 subst hT
 rw [gH]
 exact h
def upM (B:List Nat) (d:Nat):List Nat→Nat
 | []=>0
 | n :: r=>(2 ^ n ||| (if n<d then B.getD n 0 else 0)) ||| upM B d r
def ce (T:List (List Nat × List Nat)) (B:List Nat):Bool:=(List.range T.length).all fun d=>match T[d]? with
 | some r=>(B.getD d 0 ||| upM B d r.1) == upM B d r.1
 | none=>false
theorem k8 {B:List Nat} {d i:Nat}:∀ {ns:List Nat},(upM B d ns).testBit i=true→∃ n ∈ ns,n=i ∨ (n<d∧(B.getD n 0).testBit i=true)
 | [],h=>by simp [upM] at h
 | n :: r,h=>by
  unfold upM at h
  rw [Nat.testBit_or,Nat.testBit_or,Bool.or_eq_true,Bool.or_eq_true] at h
  rcases h with (h|h)|h
  ·rw [Nat.testBit_two_pow] at h
   exact ⟨n,List.mem_cons_self,.inl (by simpa using h)⟩
  ·by_cases hn:n<d
   ·rw [if_pos hn] at h
    exact ⟨n,List.mem_cons_self,.inr ⟨hn,h⟩⟩
   ·rw [if_neg hn] at h
    simp at h
  ·obtain ⟨m,hm,h2⟩:=k8 h
   exact ⟨m,List.mem_cons_of_mem _ hm,h2⟩
theorem jt {T:List (List Nat × List Nat)} {B:List Nat} (hB:ce T B=true):∀ (bv d:Nat),d<bv→d<T.length→(B.getD d 0).testBit i=true→gU T i bv d=true
 | 0,d,h,_,_=>by omega
 | bv+1,d,h,hd,hb=>by
  have h1:=List.all_eq_true.1 hB d (List.mem_range.2 hd)
  cases hr:T[d]? with
  | none=>rw [hr] at h1;simp at h1
  | some r =>
   rw [hr] at h1
   simp only [beq_iff_eq] at h1
   have h2:(upM B d r.1).testBit i=true:=by rw [← h1,Nat.testBit_or,hb,Bool.true_or]
   obtain ⟨n,hn,h3⟩:=k8 h2
   unfold gU
   rw [hr]
   simp only
   rw [List.any_eq_true]
   refine ⟨n,hn,?_⟩
   rcases h3 with rfl|⟨h4,h5⟩
   ·simp
   ·rw [jt hB bv n (by omega) (by omega) h5,Bool.or_true]
def ou (T:List (List Nat × List Nat)) (B:List Nat) (l:List Bool) (ds:List Nat) (i:Nat):Bool:=ds.all fun d=>l.getD d true || (decide (d<T.length) && (B.getD d 0).testBit i)
def ov (T:Bool × List (List Nat × List Nat)) (B:List Nat) (ds:List Nat) (l l':List Bool) (i:Nat):Bool:=T.1 && kc T.2 l i && eW T.2 l i && ip T.2 l && ou T.2 B l ds i && (l.set i true == l')
theorem lO {B:List Nat} (hT:df md ops=T) (hB:ce T.2 B=true) (h:ov T B ds l.toList l'.toList i=true):jh md ops ds l l' i=true:=by
 refine mB hT ?_
 simp only [ov,l9,Bool.and_eq_true] at h ⊢
 obtain ⟨⟨⟨⟨⟨h1,h2⟩,h3⟩,h4⟩,h5⟩,h6⟩:=h
 refine ⟨⟨⟨⟨⟨h1,h2⟩,h3⟩,h4⟩,?_⟩,h6⟩
 unfold ou at h5
 unfold k6
 rw [List.all_eq_true] at h5 ⊢
 intro d hd
 have h7:=h5 d hd
 rw [Bool.or_eq_true,Bool.and_eq_true,decide_eq_true_eq] at h7
 rcases h7 with h7|⟨h8,h9⟩
 ·rw [h7,Bool.true_or]
 ·rw [jt hB _ d h8 h8 h9,Bool.or_true]
theorem cu {P:Program} {Q:Exit→Act→World→Prop} {S:World→Prop} {n:Nat} {a:Act} {w:World} {B:List Nat} (hT:df md ops=T) (hB:ce T.2 B=true) (h:Aside0 (df md ops=T)→Aside0 (ce T.2 B=true)→aT P md ops Q S ds n l a w):aT P md ops Q S ds n l a w:=h ⟨hT⟩ ⟨hB⟩
end
def gn:Code→Nat→Option (Array Oper)
 | .region id ops _,k=>if id == k then some ops else none
 | .seq a b,k=>match gn a k with
  | some o=>some o
  | none=>gn b k
 | .cond _ a b,k=>match gn a k with
  | some o=>some o
  | none=>gn b k
 | .block _ c,k=>gn c k
 | .loop c,k=>gn c k
 | .scope c,k=>gn c k
 | .rangeFunc _ _ a b,k=>match gn a k with
  | some o=>some o
  | none=>gn b k
 | _,_=>none
def dO (f:Func) (k:Nat):Array Oper:=((f.body.bind fun c=>gn c k)).getD #[]
end Go.Proofs.YtbohmfnjgjijdaaGreatDoorW.PrintLast
