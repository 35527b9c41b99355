-- Out of what the kit's print.sh wrote for this seat: the part that this law's texts use (squeeze.py, a program of this session).
import Derived.Test.YtgcgmlbjklkkjaaDoorVGameLast
import Derived.Test.YtgcgmlbjklkkjaaDoorVGameWords
namespace Go.Proofs.YtgcgmlbjklkkjaaDoorW.PrintLast
open Go.Proofs.YtgcgmlbjklkkjaaDoorW.PrintWords (Aside0)
def ia (md:Region.Mode) (o:Oper):List Nat:=(o.after.toList.filter (fun e=>Region.binds md e)).map (fun e=>e.on)
def lO (md:Region.Mode) (ops:Array Oper) (i:Nat) (oi:Oper):List Nat:=(List.range ops.size).filter fun j=>!(j == i) && match ops[j]? with
 | some oj=>!(oj.after.any (fun e=>Region.binds md e && e.on == i) || oi.apart ops oj)
 | none=>false
def dx (md:Region.Mode) (ops:Array Oper):Bool × List (List Nat × List Nat):=(Region.noSelect ops,(List.range ops.size).map fun i=>match ops[i]? with
 | some o=>(ia md o,lO md ops i o)
 | none=>([],[]))
def gl (T:List (List Nat × List Nat)) (l:List Bool) (i:Nat):Bool:=!l.getD i true && match T[i]? with
 | some r=>r.1.all (fun j=>l.getD j false)
 | none=>false
def jn (T:List (List Nat × List Nat)) (l:List Bool):List Nat:=(List.range T.length).filter (gl T l)
def mF (T:List (List Nat × List Nat)) (l:List Bool) (i:Nat):Bool:=match T[i]? with
 | some r=>r.2.all (fun j=>l.getD j true)
 | none=>false
def jZ (T:List (List Nat × List Nat)) (l:List Bool):Bool:=(List.range T.length).all fun j=>!l.getD j false || match T[j]? with
 | some r=>r.1.all (fun k=>l.getD k false)
 | none=>true
def jo (T:List (List Nat × List Nat)) (i:Nat):Nat→Nat→Bool
 | 0,_=>false
 | bX+1,d=>match T[d]? with
  | some r=>r.1.any fun j=>j == i || jo T i bX j
  | none=>false
def nV (T:List (List Nat × List Nat)) (l:List Bool) (ds:List Nat) (i:Nat):Bool:=ds.all fun d=>l.getD d true || jo T i T.length d
section
variable {md:Region.Mode} {ops:Array Oper} {T:Bool × List (List Nat × List Nat)} {l l' li lj lk:Array Bool} {ds:List Nat} {i j k:Nat}
theorem gd (l:Array Bool) (j:Nat) (b:Bool):l.getD j b=l.toList.getD j b:=by simp [Array.getD_eq_getD_getElem?,List.getD_eq_getElem?_getD]
theorem lz (o:Oper) (p:Nat→Bool):o.after.all (fun e=>!Region.binds md e || p e.on)=(ia md o).all p:=by
 unfold ia
 rw [← Array.all_toList]
 induction o.after.toList with
 | nil=>rfl
 | cons e r ih =>
  rw [List.all_cons,ih,List.filter_cons]
  cases h:Region.binds md e <;> simp
theorem oh (o:Oper) (p:Nat→Bool):o.after.any (fun e=>Region.binds md e && p e.on)=(ia md o).any p:=by
 unfold ia
 rw [← Array.any_toList]
 induction o.after.toList with
 | nil=>rfl
 | cons e r ih =>
  rw [List.any_cons,ih,List.filter_cons]
  cases h:Region.binds md e <;> simp
theorem gm:(dx md ops).2.length=ops.size:=by simp [dx]
theorem ib {o:Oper} (h:ops[i]?=some o):(dx md ops).2[i]?=some (ia md o,lO md ops i o):=by
 have hi:=(Array.getElem?_eq_some_iff.1 h).1
 unfold dx
 rw [List.getElem?_map,List.getElem?_range hi,Option.map_some,h]
theorem ic (h:ops[i]?=none):(dx md ops).2[i]?=none:=by
 have hi:ops.size≤i:=Array.getElem?_eq_none_iff.1 h
 exact List.getElem?_eq_none (by rw [gm];exact hi)
theorem ni:gl (dx md ops).2 l.toList i=(!l.getD i true && ((ops[i]?).map (·.after.all fun e=>!Region.binds md e || l.getD e.on false)).getD false):=by
 unfold gl
 rw [gd]
 cases h:ops[i]? with
 | none=>rw [ic h];rfl
 | some o =>
  rw [ib h]
  simp only [Option.map_some,Option.getD_some]
  rw [← lz]
  simp only [gd]
theorem i6:Region.ready md ops l=jn (dx md ops).2 l.toList:=by
 unfold Region.ready jn
 rw [gm]
 refine List.filter_congr (fun i _=>?_)
 rw [ni]
theorem nW:Region.free md ops l i=mF (dx md ops).2 l.toList i:=by
 unfold Region.free mF
 cases h:ops[i]? with
 | none=>rw [ic h]
 | some oi =>
  rw [ib h]
  simp only [lO]
  rw [List.all_filter]
  congr 1
  funext j
  rw [gd]
  cases hj:ops[j]? with
  | none=>cases (j == i) <;> cases (l.toList.getD j true) <;> simp
  | some oj =>
   cases (j == i) <;> cases (l.toList.getD j true) <;> cases (oj.after.any (fun e=>Region.binds md e && e.on == i) || oi.apart ops oj) <;> simp_all
theorem ol:Region.closedB md ops l=jZ (dx md ops).2 l.toList:=by
 unfold Region.closedB jZ
 rw [gm]
 congr 1
 funext j
 rw [gd]
 cases h:ops[j]? with
 | none=>rw [ic h]
 | some o =>
  rw [ib h]
  simp only
  rw [← lz]
  simp only [gd]
theorem mG:∀ (bX d:Nat),Region.reachB md ops i bX d=jo (dx md ops).2 i bX d
 | 0,_=>rfl
 | bX+1,d=>by
  unfold Region.reachB jo
  cases h:ops[d]? with
  | none=>rw [ic h]
  | some o =>
   rw [ib h]
   simp only
   rw [← oh]
   congr 1
   funext e
   rw [mG bX]
theorem p5:Region.lastB md ops l ds i=nV (dx md ops).2 l.toList ds i:=by
 unfold Region.lastB nV
 rw [gm]
 congr 1
 funext d
 rw [gd,mG]
theorem jK (h:gl T.2 l.toList i=true) (hT:dx md ops=T):(Region.ready md ops l).contains i=true:=by
 subst hT
 rw [i6]
 unfold jn
 rw [List.contains_iff_mem,List.mem_filter,List.mem_range]
 refine ⟨?_,h⟩
 unfold gl at h
 rw [Bool.and_eq_true] at h
 cases hq:(dx md ops).2[i]? with
 | none=>rw [hq] at h;simp at h
 | some r=>exact (List.getElem?_eq_some_iff.1 hq).1
theorem ko (h:(l.toList.set i true == l'.toList)=true):(l.setIfInBounds i true == l')=true:=by
 rw [beq_iff_eq] at h ⊢
 apply Array.ext'
 rw [Array.toList_setIfInBounds]
 exact h
def sg (T:Bool × List (List Nat × List Nat)) (l l':List Bool) (i:Nat):Bool:=T.1 && mF T.2 l i && gl T.2 l i && (l.set i true == l')
theorem o8 (hT:dx md ops=T) (h:sg T l.toList l'.toList i=true):od md ops l l' i=true:=by
 simp only [sg,Bool.and_eq_true] at h
 obtain ⟨⟨⟨h1,h2⟩,h3⟩,h4⟩:=h
 have h5:=jK h3 hT
 have h6:=ko h4
 subst hT
 simp only [od,Bool.and_eq_true]
 exact ⟨⟨⟨h1,by rw [nW];exact h2⟩,h5⟩,h6⟩
def pm (T:Bool × List (List Nat × List Nat)) (ds:List Nat) (l l':List Bool) (i:Nat):Bool:=T.1 && mF T.2 l i && gl T.2 l i && jZ T.2 l && nV T.2 l ds i && (l.set i true == l')
theorem p6 (hT:dx md ops=T) (h:pm T ds l.toList l'.toList i=true):ly md ops ds l l' i=true:=by
 simp only [pm,Bool.and_eq_true] at h
 obtain ⟨⟨⟨⟨⟨h1,h2⟩,h3⟩,h4⟩,h5⟩,h6⟩:=h
 have h7:=jK h3 hT
 have h8:=ko h6
 subst hT
 simp only [ly,Bool.and_eq_true]
 exact ⟨⟨⟨⟨⟨h1,by rw [nW];exact h2⟩,h7⟩,by rw [ol];exact h4⟩,by rw [p5];exact h5⟩,h8⟩
theorem gD (hT:dx md ops=T) (h:(jn T.2 l.toList == [i] && l.toList.set i true == l'.toList)=true):iJ md ops l l' i=true:=by
 simp only [Bool.and_eq_true] at h
 obtain ⟨h1,h2⟩:=h
 subst hT
 simp only [iJ,Bool.and_eq_true]
 exact ⟨by rw [i6];exact h1,ko h2⟩
theorem gS (hT:dx md ops=T) (h:(jn T.2 l.toList == [i,j] && l.toList.set i true == li.toList && l.toList.set j true == lj.toList)=true):(Region.ready md ops l == [i,j] && l.setIfInBounds i true == li && l.setIfInBounds j true == lj)=true:=by
 simp only [Bool.and_eq_true] at h ⊢
 obtain ⟨⟨h1,h2⟩,h3⟩:=h
 subst hT
 exact ⟨⟨by rw [i6];exact h1,ko h2⟩,ko h3⟩
theorem pV (hT:dx md ops=T) (h:(jn T.2 l.toList == [])=true):(Region.ready md ops l == [])=true:=by
 subst hT
 rw [i6]
 exact h
def upM (B:List Nat) (d:Nat):List Nat→Nat
 | []=>0
 | n :: r=>(2 ^ n ||| (if n<d then B.getD n 0 else 0)) ||| upM B d r
def cp (T:List (List Nat × List Nat)) (B:List Nat):Bool:=(List.range T.length).all fun d=>match T[d]? with
 | some r=>(B.getD d 0 ||| upM B d r.1) == upM B d r.1
 | none=>false
theorem nX {B:List Nat} {d i:Nat}:∀ {ns:List Nat},(upM B d ns).testBit i=true→∃ n ∈ ns,n=i ∨ (n<d∧(B.getD n 0).testBit i=true)
 | [],h=>by simp [upM] at h
 | n :: r,h=>by
  unfold upM at h
  rw [Nat.testBit_or,Nat.testBit_or,Bool.or_eq_true,Bool.or_eq_true] at h
  rcases h with (h|h)|h
  ·rw [Nat.testBit_two_pow] at h
   exact ⟨n,List.mem_cons_self,.inl (by simpa using h)⟩
  ·by_cases hn:n<d
   ·rw [if_pos hn] at h
    exact ⟨n,List.mem_cons_self,.inr ⟨hn,h⟩⟩
   ·rw [if_neg hn] at h
    simp at h
  ·obtain ⟨m,hm,h2⟩:=nX h
   exact ⟨m,List.mem_cons_of_mem _ hm,h2⟩
theorem lA {T:List (List Nat × List Nat)} {B:List Nat} (hB:cp T B=true):∀ (bX d:Nat),d<bX→d<T.length→(B.getD d 0).testBit i=true→jo T i bX d=true
 | 0,d,h,_,_=>by omega
 | bX+1,d,h,hd,hb=>by
  have h1:=List.all_eq_true.1 hB d (List.mem_range.2 hd)
  cases hr:T[d]? with
  | none=>rw [hr] at h1;simp at h1
  | some r =>
   rw [hr] at h1
   simp only [beq_iff_eq] at h1
   have h2:(upM B d r.1).testBit i=true:=by rw [← h1,Nat.testBit_or,hb,Bool.true_or]
   obtain ⟨n,hn,h3⟩:=nX h2
   unfold jo
   rw [hr]
   simp only
   rw [List.any_eq_true]
   refine ⟨n,hn,?_⟩
   rcases h3 with rfl|⟨h4,h5⟩
   ·simp
   ·rw [lA hB bX n (by omega) (by omega) h5,Bool.or_true]
def rD (T:List (List Nat × List Nat)) (B:List Nat) (l:List Bool) (ds:List Nat) (i:Nat):Bool:=ds.all fun d=>l.getD d true || (decide (d<T.length) && (B.getD d 0).testBit i)
def rE (T:Bool × List (List Nat × List Nat)) (B:List Nat) (ds:List Nat) (l l':List Bool) (i:Nat):Bool:=T.1 && mF T.2 l i && gl T.2 l i && jZ T.2 l && rD T.2 B l ds i && (l.set i true == l')
theorem o9 {B:List Nat} (hT:dx md ops=T) (hB:cp T.2 B=true) (h:rE T B ds l.toList l'.toList i=true):ly md ops ds l l' i=true:=by
 refine p6 hT ?_
 simp only [rE,pm,Bool.and_eq_true] at h ⊢
 obtain ⟨⟨⟨⟨⟨h1,h2⟩,h3⟩,h4⟩,h5⟩,h6⟩:=h
 refine ⟨⟨⟨⟨⟨h1,h2⟩,h3⟩,h4⟩,?_⟩,h6⟩
 unfold rD at h5
 unfold nV
 rw [List.all_eq_true] at h5 ⊢
 intro d hd
 have h7:=h5 d hd
 rw [Bool.or_eq_true,Bool.and_eq_true,decide_eq_true_eq] at h7
 rcases h7 with h7|⟨h8,h9⟩
 ·rw [h7,Bool.true_or]
 ·rw [lA hB _ d h8 h8 h9,Bool.or_true]
theorem dc {P:Program} {Q:Exit→Act→World→Prop} {S:World→Prop} {n:Nat} {a:Act} {w:World} {B:List Nat} (hT:dx md ops=T) (hB:cp T.2 B=true) (h:Aside0 (dx md ops=T)→Aside0 (cp T.2 B=true)→bk P md ops Q S ds n l a w):bk P md ops Q S ds n l a w:=h ⟨hT⟩ ⟨hB⟩
end
def iB:Code→Nat→Option (Array Oper)
 | .region id ops _,k=>if id == k then some ops else none
 | .seq a b,k=>match iB a k with
  | some o=>some o
  | none=>iB b k
 | .cond _ a b,k=>match iB a k with
  | some o=>some o
  | none=>iB b k
 | .block _ c,k=>iB c k
 | .loop c,k=>iB c k
 | .scope c,k=>iB c k
 | .rangeFunc _ _ a b,k=>match iB a k with
  | some o=>some o
  | none=>iB b k
 | _,_=>none
def dX (f:Func) (k:Nat):Array Oper:=((f.body.bind fun c=>iB c k)).getD #[]
end Go.Proofs.YtgcgmlbjklkkjaaDoorW.PrintLast
