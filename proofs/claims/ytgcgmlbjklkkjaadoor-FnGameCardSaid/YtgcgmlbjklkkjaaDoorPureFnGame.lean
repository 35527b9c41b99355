/- The games of single seats and of pairs, for all codes: what the program tells is what the reference tells; a row is won exactly if its number is not 0 and a move leads to one that is lost, best play has an odd number of moves then and stays within the bounds of all plays, the number is the least one that no move leads to, and mirroring changes nothing. No conditions. -/
import Derived.Test.YtgcgmlbjklkkjaaDoorQFnGamex
namespace Go.Proofs.YtgcgmlbjklkkjaaDoor.Pure
open Go.RowKit Go.Proofs.YtgcgmlbjklkkjaaDoor.QFnGame Go.Proofs.YtgcgmlbjklkkjaaDoorW.PrintWords Go.Proofs.YtgcgmlbjklkkjaaDoorW.PrintLast Go.Proofs.YtgcgmlbjklkkjaaDoorW.PrintMore
set_option linter.unusedVariables false
set_option linter.unusedSimpArgs false
def gn:List Bool→Nat
 | true :: r=>gn r+1
 | _=>0
section
variable {α:Type} (g:Nat→α) (op:α→α→α)
def dA:Nat→List Bool→α
 | c,[]=>g c
 | c,true :: r=>dA (c+1) r
 | c,false :: r=>op (g c) (dA 0 r)
def iO (e:α):Bool→List Bool→List α
 | _,[]=>[]
 | prev,b :: r=>(if (b && !prev)=true then g (gn (b :: r)) else e) :: iO e b r
structure Joins (op:α→α→α) (e:α):Prop where
 comm:∀ a b,op a b=op b a
 assoc:∀ a b c,op (op a b) c=op a (op b c)
 unit:∀ a,op e a=a
variable {g op} {e:α} (J:Joins op e) (g0:g 0=e)
include J g0
theorem iP:∀ (bs:List Bool) (c:Nat),dA g op c bs=op (g (c+gn bs)) ((iO g e true bs).foldr op e)
 | [],c=>by
  show g c=op (g c) e
  rw [J.comm,J.unit]
 | true :: r,c=>by
  have h:=iP r (c+1)
  show dA g op (c+1) r=op (g (c+(gn r+1))) (op e ((iO g e true r).foldr op e))
  rw [h,J.unit,show c+1+gn r=c+(gn r+1) from by omega]
 | false :: r,c=>by
  have h:=iP r 0
  show op (g c) (dA g op 0 r)=op (g c) (op e ((iO g e false r).foldr op e))
  rw [h,J.unit,Nat.zero_add]
  congr 1
  match r with
  | []=>show op (g 0) e=e;rw [g0,J.unit]
  | true :: s=>show _=op (g (gn (true :: s))) _;show op _ (op e _)=_;rw [J.unit]
  | false :: s=>show op (g 0) (op e _)=op e _;rw [g0,J.unit]
theorem nl (bs:List Bool):dA g op 0 bs=(iO g e false bs).foldr op e:=by
 rw [iP J g0]
 match bs with
 | []=>show op (g 0) e=e;rw [g0,J.unit]
 | true :: s=>show op (g (0+gn (true :: s))) (op e _)=op (g (gn (true :: s))) _;rw [Nat.zero_add,J.unit]
 | false :: s=>show op (g 0) (op e _)=op e _;rw [g0,J.unit]
end
theorem oz {α:Type} {op:α→α→α} {e:α} (J:Joins op e) {l l':List α} (h:l.Perm l'):l.foldr op e=l'.foldr op e :=
 h.foldr_eq' (fun x _ y _ z=>by rw [← J.assoc,J.comm y x,J.assoc]) e
theorem py (n z:Nat) (h:z<n):((List.range n).map fun j=>(z+1+j) % n).Perm (List.range n):=by
 have e:((List.range n).map fun j=>(z+1+j) % n)=List.range' (z+1) (n - 1 - z)++List.range' 0 (z+1):=by
  refine List.ext_getElem (by simp;omega) fun i h1 h2=>?_
  have hi:i<n:=by simpa using h1
  rw [List.getElem_map,List.getElem_range]
  by_cases c:i<n - 1 - z
  ·rw [List.getElem_append_left (by simpa using c),List.getElem_range',Nat.mod_eq_of_lt (by omega)];omega
  ·rw [List.getElem_append_right (by simp;omega),List.getElem_range',List.length_range',show z+1+i=n+(i - (n - 1 - z)) from by omega,Nat.add_mod_left,Nat.mod_eq_of_lt (by omega)];omega
 rw [e,List.range_eq_range']
 refine List.perm_append_comm.trans ?_
 have:List.range' 0 n=List.range' 0 (z+1)++List.range' (z+1) (n - 1 - z):=by
  have a:=List.range'_append (s:=0) (m:=z+1) (n:=n - 1 - z) (step:=1)
  rw [show 0+1 * (z+1)=z+1 from by omega,show z+1+(n - 1 - z)=n from by omega] at a
  exact a.symm
 rw [this]
def cK (m:Nat):List Bool:=List.replicate m true
def jO (tl:List Bool):Prop:=tl=[] ∨ ∃ r,tl=false :: r
theorem gX (bs:List Bool):∃ m tl,bs=cK m++tl∧jO tl:=by
 induction bs with
 | nil=>exact ⟨0,[],rfl,.inl rfl⟩
 | cons b bs ih =>
  cases b with
  | false=>exact ⟨0,false :: bs,rfl,.inr ⟨bs,rfl⟩⟩
  | true =>
   obtain ⟨m,tl,e,h⟩:=ih
   exact ⟨m+1,tl,by rw [e];rfl,h⟩
theorem ie (tl:List Bool):∀ (m k:Nat),k<m→(cK m++tl).set k false=cK k++false :: (cK (m - k - 1)++tl)
 | 0,k,h=>by omega
 | m+1,0,_=>by show false :: (cK m++tl)=_;rw [show m+1 - 0 - 1=m from by omega];rfl
 | m+1,k+1,h=>by
  show true :: (cK m++tl).set k false=_
  rw [ie tl m k (by omega),show m+1 - (k+1) - 1=m - k - 1 from by omega]
  rfl
theorem dF (Y:List Bool) (x b:Bool):∀ (k i:Nat),(cK k++x :: Y).set (k+1+i) b=cK k++x :: Y.set i b
 | 0,i=>by rw [show 0+1+i=i+1 from by omega];rfl
 | k+1,i=>by
  rw [show k+1+1+i=(k+1+i)+1 from by omega]
  show true :: (cK k++x :: Y).set (k+1+i) b=_
  rw [dF Y x b k i]
  rfl
theorem nm (Y:List Bool) (x b:Bool):∀ (k:Nat),(cK k++x :: Y).set k b=cK k++b :: Y
 | 0=>rfl
 | k+1=>by
  show true :: (cK k++x :: Y).set k b=_
  rw [nm Y x b k]
  rfl
def fx (game:Int) (bs:List Bool) (k:Nat):List Bool:=if game=1 then ((bs.set (k - 1) false).set k false).set (k+1) false else (bs.set k false).set (k+1) false
def kV (game:Int) (bs:List Bool) (k:Nat):Prop:=bs[k]?=some true∧(game≠1→bs[k+1]?=some true)
def gp (game:Int) (k:Nat):Nat:=if game=1 then k - 1 else k
section
variable {α:Type} {g:Nat→α} {op:α→α→α} {e:α} (J:Joins op e) (g0:g 0=e)
theorem mL (X:List Bool):∀ m c,dA g op c (cK m++X)=dA g op (c+m) X
 | 0,c=>rfl
 | m+1,c=>by
  show dA g op (c+1) (cK m++X)=_
  rw [mL X m (c+1),show c+1+m=c+(m+1) from by omega]
include J g0
theorem oA {tl:List Bool} (h:jO tl) (c:Nat):dA g op c tl=op (g c) (dA g op 0 tl):=by
 rcases h with rfl|⟨r,rfl⟩
 ·show g c=op (g c) (g 0)
  rw [g0,J.comm,J.unit]
 ·show op (g c) _=op (g c) (op (g 0) _)
  rw [g0,J.unit]
theorem d5 {tl:List Bool} (h:jO tl) (m:Nat):dA g op 0 (cK m++tl)=op (g m) (dA g op 0 tl):=by
 rw [mL,Nat.zero_add,oA J g0 h]
theorem jq {tl:List Bool} (h:jO tl) (i:Nat):dA g op 0 ((cK i++tl).set 0 false)=op (g (i - 1)) (dA g op 0 tl):=by
 match i with
 | 0 =>
  rw [show 0 - 1=0 from rfl,g0,J.unit]
  rcases h with rfl|⟨r,rfl⟩ <;> rfl
 | i+1 =>
  show op (g 0) (dA g op 0 (cK i++tl))=_
  rw [g0,J.unit,d5 J g0 h]
  rfl
theorem jr {game:Int} (hg:game=1 ∨ game=2) {tl:List Bool} (h:jO tl) {m k:Nat} (hk:k<m) (hk2:game≠1→k+1<m):dA g op 0 (fx game (cK m++tl) k)=op (g (gp game k)) (op (g (m - k - 2)) (dA g op 0 tl)):=by
 rcases hg with rfl|rfl
 ·unfold fx gp
  rw [if_pos rfl,if_pos rfl]
  match k with
  | 0 =>
   rw [show 0 - 1=0 from rfl,ie tl m 0 hk,nm,show 0+1=0+1+0 from rfl,dF,mL]
   show op (g (0+0)) (dA g op 0 _)=_
   rw [jq J g0 h,show m - 0 - 1 - 1=m - 0 - 2 from by omega]
  | k+1 =>
   rw [show k+1 - 1=k from rfl,ie tl m k (by omega),show k+1=k+1+0 from rfl,dF,show k+1+0+1=k+1+1 from rfl,dF,mL]
   show op (g (0+k)) (dA g op 0 _)=_
   have e:((cK (m - k - 1)++tl).set 0 false).set 1 false=false :: ((cK (m - k - 2)++tl).set 0 false):=by
    rw [show m - k - 1=(m - k - 2)+1 from by omega]
    rfl
   rw [e,Nat.zero_add]
   show op (g k) (op (g 0) (dA g op 0 _))=_
   rw [g0,J.unit,jq J g0 h,show m - k - 2 - 1=m - (k+1) - 2 from by omega]
 ·unfold fx gp
  rw [if_neg (by decide),if_neg (by decide),ie tl m k hk,show k+1=k+1+0 from rfl,dF,mL,Nat.zero_add]
  show op (g k) (dA g op 0 _)=_
  rw [jq J g0 h,show m - k - 1 - 1=m - k - 2 from by omega]
end
theorem ii (tl:List Bool):∀ (m k:Nat),k<m→(cK m++tl)[k]?=some true
 | 0,k,h=>by omega
 | m+1,0,_=>rfl
 | m+1,k+1,h=>by
  show (cK m++tl)[k]?=_
  exact ii tl m k (by omega)
theorem fZ (Y:List Bool) (x:Bool):∀ (m i:Nat),(cK m++x :: Y)[m+1+i]?=Y[i]?
 | 0,i=>by rw [show 0+1+i=i+1 from by omega];rfl
 | m+1,i=>by
  rw [show m+1+1+i=m+1+i+1 from by omega]
  show (cK m++x :: Y)[m+1+i]?=_
  exact fZ Y x m i
theorem kw {tl:List Bool} (h:jO tl):∀ (m:Nat),(cK m++tl)[m]?≠some true
 | 0=>by rcases h with rfl|⟨r,rfl⟩ <;> simp [cK]
 | m+1=>kw h m
theorem fP {game:Int} {tl:List Bool} (h:jO tl) {m k:Nat}:kV game (cK m++tl) k ↔ (k<m∧(game≠1→k+1<m)) ∨ ∃ r i,tl=false :: r∧k=m+1+i∧kV game r i:=by
 constructor
 ·rintro ⟨h1,h2⟩
  by_cases c:k<m
  ·refine .inl ⟨c,fun e=>?_⟩
   have:=h2 e
   refine Classical.byContradiction fun c2=>?_
   rw [show k+1=m from by omega] at this
   exact kw h m this
  ·have hne:k≠m:=fun e=>kw h m (e ▸ h1)
   obtain ⟨i,rfl⟩:∃ i,k=m+1+i:=⟨k - m - 1,by omega⟩
   rcases h with rfl|⟨r,rfl⟩
   ·rw [List.append_nil] at h1
    have:=List.getElem?_eq_some_iff.1 h1
    obtain ⟨hl,_⟩:=this
    rw [show (cK m).length=m from List.length_replicate] at hl
    omega
   ·rw [fZ] at h1
    refine .inr ⟨r,i,rfl,rfl,h1,fun e=>?_⟩
    have:=h2 e
    rwa [show m+1+i+1=m+1+(i+1) from rfl,fZ] at this
 ·rintro (⟨h1,h2⟩|⟨r,i,rfl,rfl,h1,h2⟩)
  ·exact ⟨ii tl m k h1,fun e=>ii tl m _ (h2 e)⟩
  ·refine ⟨by rw [fZ];exact h1,fun e=>?_⟩
   rw [show m+1+i+1=m+1+(i+1) from rfl,fZ]
   exact h2 e
theorem kx (game:Int) (m i:Nat) (r:List Bool):fx game (cK m++false :: r) (m+1+i)=cK m++false :: fx game r i:=by
 unfold fx
 split
 ·have e:(cK m++false :: r).set (m+1+i - 1) false=cK m++false :: r.set (i - 1) false ∨ i=0:=by
   match i with
   | 0=>exact .inr rfl
   | i+1 =>
    refine .inl ?_
    rw [show m+1+(i+1) - 1=m+1+i from by omega,dF]
    rfl
  rcases e with e|rfl
  ·rw [e,dF,show m+1+i+1=m+1+(i+1) from rfl,dF]
  ·rw [show m+1+0 - 1=m from by omega,nm,dF,show m+1+0+1=m+1+(0+1) from rfl,dF]
   match r with
   | []=>rfl
   | b :: r=>rfl
 ·rw [dF,show m+1+i+1=m+1+(i+1) from rfl,dF]
def LN (game:Int) (m:Nat):Nat:=(if game=1 then [0,1,1,2,0,3,1,1,0,3,3,2,2,4,0,5,2,2,3,3,0,1,1,3,0] else [0,0,1,1,2,0,3,1,1,0,3,3,2,2,4,0,5,2,2,3,3,0,1,1,3]).getD m 0
theorem eD:Joins (fun a b:Nat=>a ^^^ b) 0:=⟨Nat.xor_comm,Nat.xor_assoc,Nat.zero_xor⟩
theorem ek:Joins (fun a b:Nat=>a+b) 0:=⟨Nat.add_comm,Nat.add_assoc,Nat.zero_add⟩
def fy (game:Int) (bs:List Bool):Nat:=dA (LN game) (fun a b=>a ^^^ b) 0 bs
theorem LN0 {game:Int} (hg:game=1 ∨ game=2):LN game 0=0:=by rcases hg with rfl|rfl <;> rfl
theorem n3 {game:Int} (hg:game=1 ∨ game=2) (m:Nat):LN game m<8:=by
 by_cases c:m≤24
 ·have h:∀ m:Fin 25,LN 1 m.1<8∧LN 2 m.1<8:=by decide
  have:=h ⟨m,by omega⟩
  rcases hg with rfl|rfl
  ·exact this.1
  ·exact this.2
 ·have:LN game m=0:=by
   unfold LN
   rcases hg with rfl|rfl
   ·rw [if_pos rfl];simp [List.getD];rw [List.getElem?_eq_none (by simp;omega)];rfl
   ·rw [if_neg (by decide)];simp [List.getD];rw [List.getElem?_eq_none (by simp;omega)];rfl
  omega
theorem pz {game:Int} (hg:game=1 ∨ game=2) {m k:Nat} (hm:m≤24) (hk:k<m) (hk2:game≠1→k+1<m):LN game (gp game k) ^^^ LN game (m - k - 2)≠LN game m:=by
 have h:∀ m:Fin 25,∀ k:Fin 25,k.1<m.1→LN 1 (gp 1 k.1) ^^^ LN 1 (m.1 - k.1 - 2)≠LN 1 m.1∧(k.1+1<m.1→LN 2 (gp 2 k.1) ^^^ LN 2 (m.1 - k.1 - 2)≠LN 2 m.1):=by decide +kernel
 have:=h ⟨m,by omega⟩ ⟨k,by omega⟩ hk
 rcases hg with rfl|rfl
 ·exact this.1
 ·exact this.2 (hk2 (by decide))
theorem oB {game:Int} (hg:game=1 ∨ game=2) {m v:Nat} (hm:m≤24) (hv:v<LN game m):∃ k,k<m∧(game≠1→k+1<m)∧LN game (gp game k) ^^^ LN game (m - k - 2)=v:=by
 have h:∀ m:Fin 25,∀ v:Fin 8,(v.1<LN 1 m.1→∃ k:Fin 25,k.1<m.1∧LN 1 (gp 1 k.1) ^^^ LN 1 (m.1 - k.1 - 2)=v.1)∧(v.1<LN 2 m.1→∃ k:Fin 25,k.1+1<m.1∧LN 2 (gp 2 k.1) ^^^ LN 2 (m.1 - k.1 - 2)=v.1):=by decide +kernel
 have h8:=n3 hg m
 have:=h ⟨m,by omega⟩ ⟨v,by omega⟩
 rcases hg with rfl|rfl
 ·obtain ⟨k,h1,h2⟩:=this.1 hv
  exact ⟨k.1,h1,fun e=>absurd rfl e,h2⟩
 ·obtain ⟨k,h1,h2⟩:=this.2 hv
  have h1:k.1+1<m:=h1
  exact ⟨k.1,by omega,fun _=>h1,h2⟩
theorem oC {a b v:Nat} (ha:a<8) (hb:b<8) (hv:v<a ^^^ b):v ^^^ b<a ∨ v ^^^ a<b:=by
 have h:∀ a b v:Fin 8,v.1<a.1 ^^^ b.1→v.1 ^^^ b.1<a.1 ∨ v.1 ^^^ a.1<b.1:=by decide +kernel
 have:a ^^^ b<8:=Nat.xor_lt_two_pow (n:=3) ha hb
 exact h ⟨a,ha⟩ ⟨b,hb⟩ ⟨v,by omega⟩ hv
theorem ky (a b:Nat):a ^^^ b ^^^ b=a:=by rw [Nat.xor_assoc,Nat.xor_self,Nat.xor_zero]
theorem i8 {a b c:Nat} (h:a ^^^ c=b ^^^ c):a=b:=by
 have:=congrArg (· ^^^ c) h
 simpa only [ky] using this
theorem ij {m:Nat} {tl:List Bool}:(cK m++tl).length=m+tl.length:=by rw [List.length_append];congr 1;exact List.length_replicate
theorem qd {game:Int} (hg:game=1 ∨ game=2):∀ (N:Nat) (bs:List Bool),bs.length≤N→bs.length≤24→fy game bs<8∧(∀ k,kV game bs k→fy game (fx game bs k)≠fy game bs)∧∀ v,v<fy game bs→∃ k,kV game bs k∧fy game (fx game bs k)=v:=by
 intro N
 induction N with
 | zero =>
  intro bs h _
  obtain rfl:bs=[]:=List.length_eq_zero_iff.1 (by omega)
  have e:fy game []=0:=LN0 hg
  rw [e]
  refine ⟨by omega,fun k hk=>?_,fun v hv=>absurd hv (by omega)⟩
  exact absurd hk.1 (by simp)
 | succ N ih =>
  intro bs hN h24
  obtain ⟨m,tl,rfl,ht⟩:=gX bs
  rw [ij] at hN h24
  have hval:fy game (cK m++tl)=LN game m ^^^ fy game tl:=d5 eD (LN0 hg) ht m
  have hhere:∀ {k},k<m→(game≠1→k+1<m)→fy game (fx game (cK m++tl) k)=LN game (gp game k) ^^^ (LN game (m - k - 2) ^^^ fy game tl):=fun h1 h2=>jr eD (LN0 hg) hg ht h1 h2
  have htl:fy game tl<8∧(∀ r,tl=false :: r→(∀ k,kV game r k→fy game (fx game r k)≠fy game tl)∧∀ v,v<fy game tl→∃ k,kV game r k∧fy game (fx game r k)=v)∧(tl=[]→fy game tl=0):=by
   rcases ht with rfl|⟨r,rfl⟩
   ·exact ⟨n3 hg 0,⟨fun r e=>(nomatch e),fun _=>LN0 hg⟩⟩
   ·have e:fy game (false :: r)=fy game r:=by
     show LN game 0 ^^^ fy game r=_
     rw [LN0 hg,Nat.zero_xor]
    rw [List.length_cons] at hN h24
    have:=ih r (by omega) (by omega)
    refine ⟨(by rw [e];exact this.1),fun r' e'=>?_,fun e=>nomatch e⟩
    cases e'
    rw [e]
    exact ⟨this.2.1,this.2.2⟩
  have hbeh:∀ r i,tl=false :: r→fy game (fx game (cK m++tl) (m+1+i))=LN game m ^^^ fy game (fx game r i):=by
   rintro r i rfl
   rw [kx]
   have:=d5 eD (LN0 hg) (tl:=false :: fx game r i) (.inr ⟨_,rfl⟩) m
   refine this.trans ?_
   show _ ^^^ (LN game 0 ^^^ _)=_
   rw [LN0 hg,Nat.zero_xor]
   rfl
  have hm8:=n3 hg m
  refine ⟨by rw [hval];exact Nat.xor_lt_two_pow (n:=3) hm8 htl.1,fun k hk=>?_,fun v hv=>?_⟩
  ·rw [hval]
   rcases (fP ht).1 hk with ⟨h1,h2⟩|⟨r,i,e,rfl,hc⟩
   ·rw [hhere h1 h2,← Nat.xor_assoc]
    exact fun e=>pz hg (by omega) h1 h2 (i8 e)
   ·rw [hbeh r i e,Nat.xor_comm,Nat.xor_comm (LN game m)]
    exact fun e'=>(htl.2.1 r e).1 i hc (i8 e')
  ·rw [hval] at hv
   rcases oC hm8 htl.1 hv with c|c
   ·obtain ⟨k,h1,h2,e⟩:=oB hg (by omega) c
    refine ⟨k,(fP ht).2 (.inl ⟨h1,h2⟩),?_⟩
    rw [hhere h1 h2,← Nat.xor_assoc,e,ky]
   ·have hne:tl≠[]:=fun e=>by rw [htl.2.2 e] at c;omega
    rcases ht with rfl|⟨r,rfl⟩
    ·exact absurd rfl hne
    ·obtain ⟨i,hc,e⟩:=(htl.2.1 r rfl).2 _ c
     refine ⟨m+1+i,(fP (.inr ⟨r,rfl⟩)).2 (.inr ⟨r,i,rfl,rfl,hc⟩),?_⟩
     rw [hbeh r i rfl,e,Nat.xor_comm,ky]
def fL (game:Int) (m:Nat):Nat:=if game=1 then (m+2) / 3 else (m+1) / 3
def eO (game:Int) (m:Nat):Nat:=if game=1 then (m+1) / 2 else m / 2
def gO (game:Int) (bs:List Bool):Nat:=dA (fL game) (fun a b=>a+b) 0 bs
def f3 (game:Int) (bs:List Bool):Nat:=dA (eO game) (fun a b=>a+b) 0 bs
theorem mM {game:Int} (hg:game=1 ∨ game=2):∀ (N:Nat) (bs:List Bool),bs.length≤N→(∀ k,kV game bs k→gO game bs≤gO game (fx game bs k)+1∧f3 game (fx game bs k)+1≤f3 game bs)∧((∀ k,¬ kV game bs k)→gO game bs=0):=by
 have l0:fL game 0=0:=by rcases hg with rfl|rfl <;> rfl
 have h0:eO game 0=0:=by rcases hg with rfl|rfl <;> rfl
 intro N
 induction N with
 | zero =>
  intro bs h
  obtain rfl:bs=[]:=List.length_eq_zero_iff.1 (by omega)
  exact ⟨fun k hk=>absurd hk.1 (by simp),fun _=>l0⟩
 | succ N ih =>
  intro bs hN
  obtain ⟨m,tl,rfl,ht⟩:=gX bs
  rw [ij] at hN
  have e1:gO game (cK m++tl)=fL game m+gO game tl:=d5 ek l0 ht m
  have e2:f3 game (cK m++tl)=eO game m+f3 game tl:=d5 ek h0 ht m
  refine ⟨fun k hk=>?_,fun hno=>?_⟩
  ·rw [e1,e2]
   rcases (fP ht).1 hk with ⟨k1,k2⟩|⟨r,i,rfl,rfl,hc⟩
   ·have a1:gO game (fx game (cK m++tl) k)=fL game (gp game k)+(fL game (m - k - 2)+gO game tl):=jr ek l0 hg ht k1 k2
    have a2:f3 game (fx game (cK m++tl) k)=eO game (gp game k)+(eO game (m - k - 2)+f3 game tl):=jr ek h0 hg ht k1 k2
    rw [a1,a2]
    rcases hg with rfl|rfl
    ·simp only [fL,eO,gp,if_true]
     omega
    ·have:=k2 (by decide)
     simp only [fL,eO,gp,show ((2:Int)=1)=False from by decide,if_false]
     omega
   ·have a1:gO game (cK m++false :: fx game r i)=fL game m+gO game (false :: fx game r i):=d5 ek l0 (.inr ⟨_,rfl⟩) m
    have a2:f3 game (cK m++false :: fx game r i)=eO game m+f3 game (false :: fx game r i):=d5 ek h0 (.inr ⟨_,rfl⟩) m
    have b1:∀ s,gO game (false :: s)=gO game s:=fun s=>by show fL game 0+gO game s=_;rw [l0,Nat.zero_add]
    have b2:∀ s,f3 game (false :: s)=f3 game s:=fun s=>by show eO game 0+f3 game s=_;rw [h0,Nat.zero_add]
    rw [List.length_cons] at hN
    have:=(ih r (by omega)).1 i hc
    rw [kx,a1,a2,b1,b2,b1,b2]
    omega
  ·rw [e1]
   have hm:fL game m=0:=by
    have n1:¬ (0<m∧(game≠1→0+1<m)):=fun e=>hno 0 ((fP ht).2 (.inl e))
    rcases hg with rfl|rfl
    ·have:m=0:=Classical.byContradiction fun e=>n1 ⟨by omega,fun e=>absurd rfl e⟩
     rw [this];rfl
    ·have:m≤1:=Classical.byContradiction fun e=>n1 ⟨by omega,fun _=>by omega⟩
     simp only [fL,show ((2:Int)=1)=False from by decide,if_false]
     omega
   have htl:gO game tl=0:=by
    rcases ht with rfl|⟨r,rfl⟩
    ·exact l0
    ·rw [List.length_cons] at hN
     have:=(ih r (by omega)).2 fun i hc=>hno (m+1+i) ((fP (.inr ⟨r,rfl⟩)).2 (.inr ⟨r,i,rfl,rfl,hc⟩))
     show fL game 0+gO game r=0
     rw [l0,this]
   omega
theorem cm {x:Int} (h0 : -9223372036854775808≤x) (h1:x≤9223372036854775807):wrap64 x=x:=by
 unfold wrap64
 omega
theorem bT {i n:Nat} (h:i<n) (hn:n≤4611686018427387904):wrap64 ((i:Int)+1)=((i+1:Nat):Int):=by
 unfold wrap64
 omega
theorem iQ (l:List Int) (i:Nat):rd l (i:Int)=l.getD i 0:=by unfold rd;simp
theorem dS (l:List Int) (i:Nat) (h:i<l.length):rd l (i:Int)=l[i]:=by rw [iQ];simp [List.getD,h]
theorem bX {k d:Nat} (h:d<k):∃ m,k=m+1∧d≤m:=⟨k - 1,by omega,by omega⟩
theorem cD {α:Type} [BEq α] [LawfulBEq α] (a:α):¬ (a != a)=true:=by simp
theorem Ev.succ {α:Type} {g:Nat→Option α} {r:α} (h:Ev (fun k=>g (k+1)) r):Ev g r:=by
 obtain ⟨K,h⟩:=h
 refine ⟨K+1,fun k hk=>?_⟩
 obtain ⟨k,rfl,hk'⟩:=bX (show K<k by omega)
 exact h k hk'
theorem Ev.pos {α:Type} {g f:Nat→Option α} {r:α} {c:Prop} [Decidable c] (hc:c) (h:Ev g r):Ev (fun k=>if c then g k else f k) r:=by
 obtain ⟨K,h⟩:=h
 exact ⟨K,fun k hk=>by show (if c then g k else f k)=some r;rw [if_pos hc];exact h k hk⟩
theorem Ev.neg {α:Type} {g f:Nat→Option α} {r:α} {c:Prop} [Decidable c] (hc:¬ c) (h:Ev f r):Ev (fun k=>if c then g k else f k) r:=by
 obtain ⟨K,h⟩:=h
 exact ⟨K,fun k hk=>by show (if c then g k else f k)=some r;rw [if_neg hc];exact h k hk⟩
theorem Ev.have {α β:Type} {x:Option α} {a:α} {f:Nat→α→Option β} {r:β} (e:x=some a) (h:Ev (fun k=>f k a) r):Ev (fun k=>x.bind (f k)) r:=by
 obtain ⟨K,h⟩:=h
 exact ⟨K,fun k hk=>by show x.bind (f k)=some r;rw [e,Option.bind_some];exact h k hk⟩
theorem Ev.bound {α:Type} {g:Nat→Option α} {r:α} (K:Nat) (h:∀ k,K<k→g k=some r):Ev g r:=⟨K+1,fun k hk=>h k (by omega)⟩
theorem Ev.same {α:Type} {g:Nat→Option α} {r r':α} (h:Ev g r) (e:r=r'):Ev g r':=e ▸ h
theorem Ev.uniq {α:Type} {g:Nat→Option α} {r r':α} (h:Ev g r) (h':Ev g r'):r=r':=by
 obtain ⟨K,h⟩:=h
 obtain ⟨K',h'⟩:=h'
 exact Option.some.inj ((h (K+K') (by omega)).symm.trans (h' (K+K') (by omega)))
def cF (l:List Int):Nat:=l.foldl (fun s p=>s ||| 2 ^ p.toNat) 0
theorem kW (l:List Int):∀ (s i:Nat),(l.foldl (fun s p=>s ||| 2 ^ p.toNat) s).testBit i=(s.testBit i || decide (∃ p ∈ l,p.toNat=i)):=by
 induction l with
 | nil=>intro s i;simp
 | cons a l ih =>
  intro s i
  rw [List.foldl_cons,ih,Nat.testBit_or,Nat.testBit_two_pow,Bool.or_assoc]
  congr 1
  rw [Bool.eq_iff_iff]
  simp
theorem cX (l:List Int) (i:Nat):(cF l).testBit i=decide (∃ p ∈ l,p.toNat=i):=by
 unfold cF
 rw [kW]
 simp
theorem pA (l:List Int) (n:Nat) (hl:∀ p ∈ l,p<n) (hn:0<n):∀ s,s<2 ^ n→l.foldl (fun s p=>s ||| 2 ^ p.toNat) s<2 ^ n:=by
 induction l with
 | nil=>intro s h;exact h
 | cons a l ih =>
  intro s h
  rw [List.foldl_cons]
  have:=hl a (by simp)
  exact ih (fun p hp=>hl p (by simp [hp])) _ (Nat.or_lt_two_pow h (Nat.pow_lt_pow_right (by omega) (by omega)))
theorem qe (l:List Int) (n:Nat) (hl:∀ p ∈ l,p<n) (hn:0<n):cF l<2 ^ n:=pA l n hl hn 0 (Nat.two_pow_pos n)
theorem kz (l:List Int) (hl:∀ p ∈ l,p<32):cF l<4294967296:=qe l 32 hl (by omega)
theorem gq (a b:Nat) (ha:a<4294967296) (hb:b<4294967296):Go.bits .or .u32 (a:Int) (b:Int)=((a ||| b:Nat):Int) :=
 (bits_nat .u32 32 (by decide) (fun n h h'=>by rw [IntKind.wrap_u32];omega) a b ha hb).2
theorem kA (a b:Nat) (ha:a<4294967296) (hb:b<4294967296):Go.bits .and .u32 (a:Int) (b:Int)=((a &&& b:Nat):Int) :=
 (bits_nat .u32 32 (by decide) (fun n h h'=>by rw [IntKind.wrap_u32];omega) a b ha hb).1
theorem gr (p:Int) (h0:0≤p) (h1:p<32):shl .u32 1 p=((2 ^ p.toNat:Nat):Int):=by
 unfold shl
 rw [Int.one_mul,IntKind.wrap_u32,show min p.toNat IntKind.u32.bits=p.toNat from Nat.min_eq_left (by show p.toNat≤32;omega)]
 have:2 ^ p.toNat<2 ^ 32:=Nat.pow_lt_pow_right (by omega) (by omega)
 have e:((2 ^ p.toNat:Nat):Int)=(2:Int) ^ p.toNat:=by simp
 rw [← e]
 generalize 2 ^ p.toNat=y at *
 omega
def pB (a b:Nat):Nat:=a ^^^ (a &&& b)
theorem fM (a b i:Nat):(pB a b).testBit i=(a.testBit i && !b.testBit i):=by
 unfold pB
 rw [Nat.testBit_xor,Nat.testBit_and]
 cases a.testBit i <;> cases b.testBit i <;> rfl
theorem iR (x n:Nat) (h:∀ i,n≤i→x.testBit i=false):x<2 ^ n:=Nat.lt_pow_two_of_testBit x h
theorem qf (a b n:Nat) (ha:a<2 ^ n):pB a b<2 ^ n:=by
 refine iR _ n fun i hi=>?_
 rw [fM,Nat.testBit_lt_two_pow (Nat.lt_of_lt_of_le ha (Nat.pow_le_pow_right (by omega) hi))]
 rfl
theorem mN (a b:Nat) (ha:a<4294967296) (hb:b<4294967296):Go.bits .andNot .u32 (a:Int) (b:Int)=((pB a b:Nat):Int):=by
 have e:(BitVec.ofInt 32 (a:Int) &&& ~~~ BitVec.ofInt 32 (b:Int)).toNat=pB a b:=by
  refine Nat.eq_of_testBit_eq fun i=>?_
  rw [fM,BitVec.ofInt_natCast,BitVec.ofInt_natCast]
  show (BitVec.ofNat 32 a &&& ~~~ BitVec.ofNat 32 b).getLsbD i=_
  rw [BitVec.getLsbD_and,BitVec.getLsbD_not,BitVec.getLsbD_ofNat,BitVec.getLsbD_ofNat]
  by_cases h:i<32
  ·simp [h]
  ·have e1:a.testBit i=false:=Nat.testBit_lt_two_pow (Nat.lt_of_lt_of_le (show a<2 ^ 32 from ha) (Nat.pow_le_pow_right (by omega) (by omega)))
   simp [h,e1]
 have hl:=qf a b 32 ha
 show IntKind.u32.wrap (((BitVec.ofInt 32 (a:Int) &&& ~~~ BitVec.ofInt 32 (b:Int)).toNat:Nat):Int)=_
 rw [e,IntKind.wrap_u32]
 omega
theorem mO (s:Int) (h0:0≤s) (h1:s≤31):(shl .u32 1 s - 1) % 4294967296=((2 ^ s.toNat - 1:Nat):Int):=by
 rw [gr s h0 (by omega)]
 have:0<2 ^ s.toNat:=Nat.two_pow_pos _
 have h2:2 ^ s.toNat<2 ^ 32:=Nat.pow_lt_pow_right (by omega) (by omega)
 generalize 2 ^ s.toNat=y at *
 omega
theorem gt (n i:Nat):(2 ^ n - 1).testBit i=decide (i<n):=Nat.testBit_two_pow_sub_one n i
def mP (n:Nat) (ring:Bool) (p q:Nat):Int :=
 if ring=true then (if (if (p:Int) - q > (q:Int) - p then (p:Int) - q else (q:Int) - p)<(n:Int) - (if (p:Int) - q > (q:Int) - p then (p:Int) - q else (q:Int) - p) then (if (p:Int) - q > (q:Int) - p then (p:Int) - q else (q:Int) - p) else (n:Int) - (if (p:Int) - q > (q:Int) - p then (p:Int) - q else (q:Int) - p)) else (if (p:Int) - q > (q:Int) - p then (p:Int) - q else (q:Int) - p)
def dI (n:Nat) (ring:Bool) (p q:Nat):Bool:=decide (mP n ring p q=1)
theorem kX (n:Nat) (ring:Bool) (t:List Int) (p q:Nat) (hn:n≤24) (hp:p<n) (hq:q<n):ev.f (n:Int) ring t (p:Int) (q:Int)=some (mP n ring p q):=by
 unfold ev.f mP
 rw [cm (x:=(p:Int) - q) (by omega) (by omega),cm (x:=(q:Int) - p) (by omega) (by omega)]
 have e:cI.f ((p:Int) - q) ((q:Int) - p)=some (if (p:Int) - q > (q:Int) - p then (p:Int) - q else (q:Int) - p):=by
  unfold cI.f
  split <;> rfl
 rw [e,Option.bind_some]
 have hb:0≤(if (p:Int) - q > (q:Int) - p then (p:Int) - q else (q:Int) - p)∧(if (p:Int) - q > (q:Int) - p then (p:Int) - q else (q:Int) - p)≤24:=by split <;> omega
 generalize (if (p:Int) - q > (q:Int) - p then (p:Int) - q else (q:Int) - p)=d at hb ⊢
 rw [cm (by omega) (by omega)]
 cases ring with
 | true =>
  rw [if_pos rfl,if_pos rfl]
  unfold dw.f
  split <;> rw [Option.bind_some]
 | false=>rw [if_neg (by simp),if_neg (by simp)]
theorem mQ (n:Nat) (ring:Bool) (p q:Nat) (hn:n≤24) (hp:p<n) (hq:q<n):dy.f (n:Int) ring (p:Int) (q:Int)=some (mP n ring p q):=by
 unfold dy.f mP
 rw [cm (x:=(p:Int) - q) (by omega) (by omega),cm (x:=(q:Int) - p) (by omega) (by omega)]
 have e:mx ((p:Int) - q) ((q:Int) - p)=(if (p:Int) - q > (q:Int) - p then (p:Int) - q else (q:Int) - p):=by
  unfold mx
  split <;> split <;> omega
 rw [e]
 have hb:0≤(if (p:Int) - q > (q:Int) - p then (p:Int) - q else (q:Int) - p)∧(if (p:Int) - q > (q:Int) - p then (p:Int) - q else (q:Int) - p)≤24:=by split <;> omega
 generalize (if (p:Int) - q > (q:Int) - p then (p:Int) - q else (q:Int) - p)=d at hb ⊢
 rw [cm (by omega) (by omega)]
 cases ring with
 | true =>
  rw [if_pos rfl,if_pos rfl]
  refine congrArg some ?_
  unfold mn
  split <;> split <;> omega
 | false=>rw [if_neg (by simp),if_neg (by simp)]
def fa (P:Nat→Bool):Nat→Nat
 | 0=>0
 | i+1=>if P i=true then fa P i ||| 2 ^ i else fa P i
theorem dL (P:Nat→Bool):∀ i q,(fa P i).testBit q=(decide (q<i) && P q)
 | 0,q=>by simp [fa]
 | i+1,q=>by
  rw [fa]
  by_cases h:P i=true
  ·rw [if_pos h,Nat.testBit_or,dL P i q,Nat.testBit_two_pow]
   by_cases e:i=q
   ·subst e;rw [h];simp
   ·rw [decide_eq_false e,Bool.or_false]
    by_cases g:q<i
    ·rw [decide_eq_true g,decide_eq_true (show q<i+1 by omega)]
    ·rw [decide_eq_false g,decide_eq_false (show ¬ q<i+1 by omega)]
  ·rw [if_neg h,dL P i q]
   by_cases e:i=q
   ·subst e;rw [Bool.eq_false_iff.2 h];simp
   ·by_cases g:q<i
    ·rw [decide_eq_true g,decide_eq_true (show q<i+1 by omega)]
    ·rw [decide_eq_false g,decide_eq_false (show ¬ q<i+1 by omega)]
theorem i9 (P:Nat→Bool) (i:Nat) (hi:i≤32):fa P i<4294967296:=show fa P i<2 ^ 32 from iR _ 32 fun q hq=>by
 rw [dL,decide_eq_false (by omega)]
 rfl
def mR (l:List Nat):List Int:=l.map fun i:Nat=>(i:Int)
def bU (P:Nat→Bool) (i:Nat):List Int:=mR ((List.range i).filter P)
theorem fk (P:Nat→Bool) (i:Nat):bU P (i+1)=if P i=true then bU P i++[(i:Int)] else bU P i:=by
 unfold bU mR
 rw [List.range_succ,List.filter_append]
 by_cases h:P i=true
 ·rw [if_pos h];simp [h]
 ·rw [if_neg h];simp [h]
theorem cz (P:Nat→Bool) (i:Nat):(bU P i).length≤i:=by
 unfold bU mR
 rw [List.length_map]
 exact Nat.le_trans (List.length_filter_le _ _) (by simp)
theorem b8 (P:Nat→Bool) (i:Nat) (x:Int):x ∈ bU P i ↔ ∃ q:Nat,q<i∧P q=true∧x=q:=by
 unfold bU mR
 rw [List.mem_map]
 constructor
 ·rintro ⟨q,hq,rfl⟩
  have:=List.mem_filter.1 hq
  exact ⟨q,List.mem_range.1 this.1,this.2,rfl⟩
 ·rintro ⟨q,h1,h2,rfl⟩
  exact ⟨q,List.mem_filter.2 ⟨List.mem_range.2 h1,h2⟩,rfl⟩
section
variable {n:Nat} {ring:Bool} (h24:n≤24)
include h24
theorem lV (p:Nat) (hp:p<n):Ev (fun k=>ba.f k n ring p) ((fa (dI n ring p) n:Nat):Int):=by
 have main:∀ d i,i+d=n→Ev (fun k=>ba.l0 k p ((fa (dI n ring p) i:Nat):Int) n i n ring) ((fa (dI n ring p) n:Nat):Int):=by
  intro d
  induction d with
  | zero =>
   intro i hi
   have:i=n:=by omega
   subst this
   refine Ev.succ ?_
   simp only [ba.l0]
   exact Ev.neg (by omega) (Ev.now _)
  | succ d ih =>
   intro i hi
   have go:=ih (i+1) (by omega)
   rw [fa] at go
   refine Ev.succ ?_
   simp only [ba.l0]
   refine Ev.pos (by omega) (Ev.have (mQ n ring p i h24 hp (by omega)) ?_)
   rw [bT (n:=100) (by omega) (by omega)]
   by_cases g:mP n ring p i=1
   ·have hP:dI n ring p i=true:=decide_eq_true g
    rw [if_pos hP] at go
    have h2:2 ^ i<2 ^ 32:=Nat.pow_lt_pow_right (by omega) (by omega)
    refine Ev.pos g (Ev.pos (by omega) ?_)
    rw [gr _ (by omega) (by omega),Int.toNat_natCast,gq _ _ (i9 _ _ (by omega)) (by omega)]
    exact go
   ·have hP:¬ dI n ring p i=true:=by unfold dI;simpa using g
    rw [if_neg hP] at go
    exact Ev.neg g go
 exact main n 0 (by omega)
theorem lW (t:List Int) (p:Nat) (hp:p<n):Ev (fun k=>bJ.f k n ring t p) (bU (dI n ring p) n):=by
 have main:∀ d i,i+d=n→Ev (fun k=>bJ.l0 k p (bU (dI n ring p) i) i n ring t) (bU (dI n ring p) n):=by
  intro d
  induction d with
  | zero =>
   intro i hi
   have:i=n:=by omega
   subst this
   refine Ev.succ ?_
   simp only [bJ.l0]
   exact Ev.neg (by omega) (Ev.now _)
  | succ d ih =>
   intro i hi
   have go:=ih (i+1) (by omega)
   have hl:=cz (dI n ring p) i
   rw [fk] at go
   refine Ev.succ ?_
   simp only [bJ.l0]
   refine Ev.pos (by omega) (Ev.have (kX n ring t p i h24 hp (by omega)) ?_)
   rw [bT (n:=100) (by omega) (by omega)]
   by_cases g:mP n ring p i=1
   ·have hP:dI n ring p i=true:=decide_eq_true g
    rw [if_pos hP] at go
    exact Ev.pos g (Ev.pos (by omega) go)
   ·have hP:¬ dI n ring p i=true:=by unfold dI;simpa using g
    rw [if_neg hP] at go
    exact Ev.neg g go
 exact main n 0 (by omega)
end
theorem kY (l:List Int) (n:Int) (hl:l.length≤1048576) (d:Nat):∀ (k i:Nat),i≤l.length→l.length - i=d→d<k→bo.l0 k l n i=some (decide (n ∈ l.drop i)):=by
 induction d with
 | zero =>
  intro k i hi hd hk
  obtain ⟨k,rfl,_⟩:=bX hk
  simp only [bo.l0]
  rw [if_neg (by omega),List.drop_eq_nil_of_le (by omega)]
  simp
 | succ d ih =>
  intro k i hi hd hk
  obtain ⟨k,rfl,_⟩:=bX hk
  simp only [bo.l0]
  rw [if_pos (by omega),if_pos (by omega),bT (n:=l.length) (by omega) (by omega),dS l i (by omega),ih k (i+1) (by omega) (by omega) (by omega)]
  rw [List.drop_eq_getElem_cons (l:=l) (i:=i) (by omega)]
  by_cases h:l[i]'(by omega)=n
  ·rw [if_pos h,h]
   simp
  ·rw [if_neg h]
   refine congrArg some ?_
   rw [decide_eq_decide,List.mem_cons]
   exact ⟨.inr,fun e=>e.resolve_left fun e=>h e.symm⟩
theorem el (l:List Int) (n:Int) (hl:l.length≤1048576) (k:Nat) (hk:l.length<k):bo.f k l n=some (decide (n ∈ l)):=by
 have:=kY l n hl l.length k 0 (by omega) (by omega) hk
 exact this
theorem d4 (s:Int) (ring:Bool) (t:List Int) (p:Int) (ht:t.length≤1048576):Ev (fun k=>bp.f k s ring t p) (decide (p ∈ t)) :=
 Ev.bound t.length fun k hk=>by
  unfold bp.f
  rw [el t p ht k hk,Option.bind_some]
theorem fo (s p:Nat) (hp:p<32) (hs:s<4294967296):bh.f (s:Int) (p:Int)=some (s.testBit p):=by
 unfold bh.f
 rw [if_pos (by omega)]
 refine congrArg some ?_
 have e1:shr .u32 (s:Int) (p:Int)=((s / 2 ^ p:Nat):Int):=by
  unfold shr
  rw [show min (p:Int).toNat IntKind.u32.bits=p from Nat.min_eq_left (by show p≤32;omega)]
  simp
 have e2:s / 2 ^ p≤s:=Nat.div_le_self _ _
 rw [e1,show (1:Int)=((1:Nat):Int) from rfl,kA _ _ (by omega) (by omega),Nat.and_one_is_mod,Nat.testBit_eq_decide_div_mod_eq,Bool.eq_iff_iff,beq_iff_eq,decide_eq_true_eq]
 omega
def cd (F:Nat→Bool) (n:Nat) (ring:Bool) (p:Nat):Bool:=F p && (List.range n).all fun q=>!dI n ring p q || F q
theorem gy (n:Nat) (P:Nat→Bool):(List.range n).all P=true ↔ ∀ q,q<n→P q=true:=by
 rw [List.all_eq_true]
 exact ⟨fun h q hq=>h q (List.mem_range.2 hq),fun h q hq=>h q (List.mem_range.1 hq)⟩
section
variable {F:Nat→Bool} {n:Nat} {ring:Bool} (h24:n≤24)
include h24
section
variable {S:Nat} (hlt:S<4294967296) (hS:∀ p,p<n→S.testBit p=!F p)
include hlt hS
theorem gY:Ev (fun k=>aN.f k n ring (S:Int)) ((fa (cd F n ring) n:Nat):Int):=by
 have main:∀ d i,i+d=n→Ev (fun k=>aN.l0 k (S:Int) ((fa (cd F n ring) i:Nat):Int) n i n ring) ((fa (cd F n ring) n:Nat):Int):=by
  intro d
  induction d with
  | zero =>
   intro i hi
   have:i=n:=by omega
   subst this
   refine Ev.succ ?_
   simp only [aN.l0]
   exact Ev.neg (by omega) (Ev.now _)
  | succ d ih =>
   intro i hi
   have go:=ih (i+1) (by omega)
   rw [fa] at go
   refine Ev.succ ?_
   simp only [aN.l0]
   refine Ev.pos (by omega) (Ev.have (fo _ _ (by omega) hlt) ?_)
   rw [hS i (by omega),bT (n:=100) (by omega) (by omega)]
   cases hF:F i with
   | false =>
    have hP:¬ cd F n ring i=true:=by unfold cd;rw [hF];simp
    rw [if_neg hP] at go
    exact Ev.pos (by simp) go
   | true =>
    refine Ev.neg (by simp) (Ev.bind (lV h24 i (by omega)) ?_)
    rw [kA _ _ (i9 _ _ (by omega)) hlt]
    have hz:(((fa (dI n ring i) n &&& S:Nat):Int)=0) ↔ cd F n ring i=true:=by
     unfold cd
     rw [hF,Bool.true_and,gy]
     constructor
     ·intro e q hq
      have e0:fa (dI n ring i) n &&& S=0:=by omega
      have e1:(fa (dI n ring i) n &&& S).testBit q=false:=by rw [e0,Nat.zero_testBit]
      rw [Nat.testBit_and,dL,hS q hq,decide_eq_true hq,Bool.true_and] at e1
      revert e1
      cases dI n ring i q <;> cases F q <;> simp
     ·intro e
      have e0:fa (dI n ring i) n &&& S=0:=by
       refine Nat.eq_of_testBit_eq fun q=>?_
       rw [Nat.testBit_and,dL,Nat.zero_testBit]
       by_cases hq:q<n
       ·have:=e q hq
        rw [hS q hq,decide_eq_true hq,Bool.true_and]
        revert this
        cases dI n ring i q <;> cases F q <;> simp
       ·rw [decide_eq_false hq];rfl
      rw [e0];rfl
    by_cases g:cd F n ring i=true
    ·rw [if_pos g] at go
     have h2:2 ^ i<2 ^ 32:=Nat.pow_lt_pow_right (by omega) (by omega)
     refine Ev.pos (hz.2 g) (Ev.pos (by omega) ?_)
     rw [gr _ (by omega) (by omega),Int.toNat_natCast,gq _ _ (i9 _ _ (by omega)) (by omega)]
     exact go
    ·rw [if_neg g] at go
     exact Ev.neg (fun e=>g (hz.1 e)) go
 exact main n 0 (by omega)
end
section
variable {t:List Int} (ht:t.length≤1048576) (hT:∀ p,p<n→decide ((p:Int) ∈ t)=!F p)
include ht hT
theorem lX:Ev (fun k=>bi.f k n ring t) (bU F n):=by
 have main:∀ d i,i+d=n→Ev (fun k=>bi.l0 k (bU F i) i n ring t) (bU F n):=by
  intro d
  induction d with
  | zero =>
   intro i hi
   have:i=n:=by omega
   subst this
   refine Ev.succ ?_
   simp only [bi.l0]
   exact Ev.neg (by omega) (Ev.now _)
  | succ d ih =>
   intro i hi
   have go:=ih (i+1) (by omega)
   have hl:=cz F i
   rw [fk] at go
   refine Ev.succ ?_
   simp only [bi.l0]
   refine Ev.pos (by omega) (Ev.bind (d4 _ _ _ _ ht) ?_)
   rw [hT i (by omega),bT (n:=100) (by omega) (by omega)]
   cases hF:F i with
   | false =>
    rw [if_neg (by rw [hF];simp)] at go
    exact Ev.pos (by simp) go
   | true =>
    rw [if_pos hF] at go
    exact Ev.neg (by simp) (Ev.pos (by omega) go)
 exact main n 0 (by omega)
omit h24 in
theorem js (acc fr:List Int) (i:Nat) (near:List Int) (hn:∀ x ∈ near,∃ q:Nat,q<n∧x=q) (hl:near.length≤100) (r:List Int) (d:Nat):∀ (j:Nat) (b:Bool),j+d=near.length →
  Ev (fun k=>au.l1 k acc fr i near (b && (near.drop j).all fun x=>F x.toNat) near.length n ring t) r→Ev (fun k=>au.l1 k acc fr i near b j n ring t) r:=by
 induction d with
 | zero =>
  intro j b hj hr
  have:j=near.length:=by omega
  subst this
  rw [List.drop_length] at hr
  simpa using hr
 | succ d ih =>
  intro j b hj hr
  obtain ⟨q,hq,e⟩:=hn (near[j]'(by omega)) (List.getElem_mem _)
  rw [List.drop_eq_getElem_cons (l:=near) (i:=j) (by omega),List.all_cons,← Bool.and_assoc] at hr
  have go:=ih (j+1) _ (by omega) hr
  refine Ev.succ ?_
  simp only [au.l1]
  refine Ev.pos (by omega) ?_
  rw [bT (n:=1000) (by omega) (by omega)]
  cases b with
  | false =>
   refine Ev.neg (by simp) ?_
   rw [Bool.false_and] at go
   exact go
  | true =>
   refine Ev.pos (by simp) (Ev.pos (by omega) (Ev.bind (d4 _ _ _ _ ht) ?_))
   rw [dS near j (by omega),e,hT q hq,Bool.not_not]
   rw [Bool.true_and,e,Int.toNat_natCast] at go
   exact go
theorem gZ:Ev (fun k=>au.f k n ring t) (bU (cd F n ring) n):=by
 have hlen:=cz F n
 have main:∀ d i,i+d=(bU F n).length→Ev (fun k=>au.l0 k (((bU F n).take i).filter fun x=>cd F n ring x.toNat) (bU F n) i n ring t) ((bU F n).filter fun x=>cd F n ring x.toNat):=by
  intro d
  induction d with
  | zero =>
   intro i hi
   refine Ev.succ ?_
   simp only [au.l0]
   rw [List.take_of_length_le (by omega)]
   exact Ev.neg (by omega) (Ev.now _)
  | succ d ih =>
   intro i hi
   have go:=ih (i+1) (by omega)
   have hmem:=(b8 F n _).1 (List.getElem_mem (l:=bU F n) (n:=i) (by omega))
   obtain ⟨q,hq,hFq,e⟩:=hmem
   have hacc:(((bU F n).take i).filter fun x=>cd F n ring x.toNat).length≤i:=Nat.le_trans (List.length_filter_le _ _) (by simp;omega)
   have hnl:=cz (dI n ring q) n
   rw [List.take_add_one,List.getElem?_eq_getElem (by omega),Option.toList_some,List.filter_append,e] at go
   refine Ev.succ ?_
   simp only [au.l0]
   rw [dS _ i (by omega),e]
   refine Ev.pos (by omega) (Ev.pos (by omega) (Ev.bind (lW h24 t q hq) ?_))
   refine js ht hT _ _ i _ (fun x hx=>?_) (by omega) _ (bU (dI n ring q) n).length 0 true (by omega) ?_
   ·obtain ⟨z,hz,_,e2⟩:=(b8 _ _ _).1 hx
    exact ⟨z,hz,e2⟩
   have hall:(true && ((bU (dI n ring q) n).drop 0).all fun x=>F x.toNat)=cd F n ring q:=by
    unfold cd
    rw [hFq,List.drop_zero,Bool.true_and,Bool.true_and,Bool.eq_iff_iff,gy,List.all_eq_true]
    constructor
    ·intro h z hz
     cases hz2:dI n ring q z with
     | false=>rfl
     | true=>simpa using h (z:Int) ((b8 _ _ _).2 ⟨z,hz,hz2,rfl⟩)
    ·intro h x hx
     obtain ⟨z,hz,hz2,e2⟩:=(b8 _ _ _).1 hx
     have:=h z hz
     rw [hz2] at this
     rw [e2,Int.toNat_natCast]
     simpa using this
   rw [hall]
   refine Ev.succ ?_
   simp only [au.l1]
   refine Ev.neg (by omega) ?_
   rw [dS _ i (by omega),e,bT (n:=1000) (by omega) (by omega)]
   cases hL:cd F n ring q with
   | true =>
    refine Ev.pos (by simp) (Ev.pos (by omega) (Ev.pos (by omega) (Ev.pos (by omega) ?_)))
    simp only [List.filter_cons,Int.toNat_natCast,hL,if_true,List.filter_nil] at go
    exact go
   | false =>
    refine Ev.neg (by simp) ?_
    simp only [List.filter_cons,Int.toNat_natCast,hL,List.filter_nil,Bool.false_eq_true,if_false,List.append_nil] at go
    exact go
 have efin:((bU F n).filter fun x=>cd F n ring x.toNat)=bU (cd F n ring) n:=by
  unfold bU mR
  rw [List.filter_map,List.filter_filter]
  congr 1
  refine List.filter_congr fun q _=>?_
  show (cd F n ring ((q:Int)).toNat && F q)=_
  rw [Int.toNat_natCast]
  unfold cd
  cases F q <;> simp
 unfold au.f
 refine Ev.bind (lX h24 ht hT) ?_
 have:=main (bU F n).length 0 (by omega)
 rw [efin] at this
 exact this
end
end
theorem ja (n a b:Int):cB.f n a b=some (decide (a≤n∧n≤b)):=by
 unfold cB.f
 by_cases h:n ≥ a
 ·rw [if_pos h]
  simp [show a≤n from h]
 ·rw [if_neg h]
  simp [show ¬ a≤n from h]
theorem f5 (n a b:Int):cS.f n a b=some (decide (a≤n∧n≤b)):=by
 unfold cS.f
 by_cases h:n ≥ a
 ·rw [if_pos h]
  simp [show a≤n from h]
 ·rw [if_neg h]
  simp [show ¬ a≤n from h]
theorem jb (l:List Int) (a b:Int) (hl:l.length≤1048576) (d:Nat):∀ (k i:Nat),i≤l.length→l.length - i=d→d<k→bA.l0 k a b l (l.length:Int) i=some (decide (∀ x ∈ l.drop i,a≤x∧x≤b)):=by
 induction d with
 | zero =>
  intro k i hi hd hk
  obtain ⟨k,rfl,_⟩:=bX hk
  simp only [bA.l0]
  rw [if_neg (by omega),List.drop_eq_nil_of_le (by omega)]
  simp
 | succ d ih =>
  intro k i hi hd hk
  obtain ⟨k,rfl,_⟩:=bX hk
  simp only [bA.l0]
  rw [if_pos (by omega),if_pos (by omega),if_pos (by omega),bT (n:=l.length) (by omega) (by omega),dS l i (by omega),f5,ih k (i+1) (by omega) (by omega) (by omega)]
  rw [List.drop_eq_getElem_cons (l:=l) (i:=i) (by omega)]
  rw [Option.bind_some]
  by_cases h:a≤l[i]'(by omega)∧l[i]'(by omega)≤b
  ·rw [if_pos (by simp only [h];simp)]
   refine congrArg some ?_
   rw [decide_eq_decide]
   simp only [List.mem_cons]
   exact ⟨fun e x hx=>hx.elim (fun z=>z ▸ h) (e x),fun e x hx=>e x (.inr hx)⟩
  ·rw [if_neg (by rw [decide_eq_true_eq];exact h)]
   refine congrArg some ?_
   symm
   rw [decide_eq_false_iff_not]
   exact fun e=>h (e _ List.mem_cons_self)
theorem jc (l:List Int) (a b:Int) (hl:l.length≤1048576) (k:Nat) (hk:l.length<k):bA.f k l a b=some (decide (∀ x ∈ l,a≤x∧x≤b)) :=
 jb l a b hl l.length k 0 (by omega) (by omega) hk
def gF (l:List Int) (a b:Int):Prop:=∀ i,(h:i<l.length)→(a≤l[i]∧l[i]≤b)∧(0<i→l.getD (i - 1) 0<l[i])
def cn (s:Int) (ring:Bool) (t:List Int):Prop:=(2≤s∧s≤24)∧(ring=true→3≤s)∧gF t 0 (s - 1)
open Classical in
theorem jt (l:List Int) (a b:Int) (hl:l.length≤1048576) (d:Nat):∀ (k i:Nat),i≤l.length→l.length - i=d→d<k→(∀ j,(h:j<i)→(hj:j<l.length)→(a≤l[j]∧l[j]≤b)∧(0<j→l.getD (j - 1) 0<l[j])) →
  bt.l0 k l a b i=some (decide (gF l a b)):=by
 induction d with
 | zero =>
  intro k i hi hd hk hp
  obtain ⟨k,rfl,_⟩:=bX hk
  simp only [bt.l0]
  rw [if_neg (by omega)]
  refine congrArg some ?_
  symm
  rw [decide_eq_true_eq]
  exact fun j hj=>hp j (by omega) hj
 | succ d ih =>
  intro k i hi hd hk hp
  obtain ⟨k,rfl,_⟩:=bX hk
  have no:¬ ((a≤l[i]'(by omega)∧l[i]'(by omega)≤b)∧(0<i→l.getD (i - 1) 0<l[i]'(by omega)))→¬ gF l a b:=fun g e=>g (e i (by omega))
  have go:((a≤l[i]'(by omega)∧l[i]'(by omega)≤b)∧(0<i→l.getD (i - 1) 0<l[i]'(by omega)))→bt.l0 k l a b (wrap64 ((i:Int)+1))=some (decide (gF l a b)):=by
   intro g
   rw [bT (n:=l.length) (by omega) (by omega)]
   refine ih k (i+1) (by omega) (by omega) (by omega) fun j hj hj'=>?_
   by_cases e:j=i
   ·subst e;exact g
   ·exact hp j (by omega) hj'
  simp only [bt.l0]
  rw [if_pos (by omega),if_pos (by omega),dS l i (by omega),ja,Option.bind_some]
  by_cases g:a≤l[i]'(by omega)∧l[i]'(by omega)≤b
  ·rw [if_pos (decide_eq_true g)]
   by_cases h0:0<i
   ·rw [if_pos (by omega),cm (by omega) (by omega),if_pos (by omega),if_pos (by omega),show (i:Int) - 1=((i - 1:Nat):Int) from by omega,iQ]
    by_cases g2:l.getD (i - 1) 0<l[i]'(by omega)
    ·rw [if_neg (by omega)]
     exact go ⟨g,fun _=>g2⟩
    ·rw [if_pos (by omega),decide_eq_false (no fun e=>g2 (e.2 h0))]
   ·rw [if_neg (by omega)]
    exact go ⟨g,fun e=>absurd e h0⟩
  ·rw [if_neg (by rw [decide_eq_true_eq];exact g),decide_eq_false (no fun e=>g e.1)]
open Classical in
theorem ju (l:List Int) (a b:Int) (hl:l.length≤1048576) (k:Nat) (hk:l.length<k):bt.f k l a b=some (decide (gF l a b)) :=
 jt l a b hl l.length k 0 (by omega) (by omega) hk (fun j h=>by omega)
open Classical in
theorem eP (s:Int) (ring:Bool) (t:List Int) (ht:t.length≤1048576) (k:Nat) (hk:t.length<k):aI.f k s ring t=some (decide (cn s ring t)):=by
 unfold aI.f
 rw [ja,Option.bind_some]
 by_cases h:2≤s∧s≤24
 ·rw [if_pos (decide_eq_true h),cm (by omega) (by omega),ju t _ _ ht k hk,Option.bind_some]
  cases ring with
  | true =>
   rw [if_pos rfl]
   by_cases h3:s > 2
   ·rw [if_pos h3]
    refine congrArg some ?_
    rw [decide_eq_decide]
    exact ⟨fun e=>⟨h,fun _=>by omega,e⟩,fun e=>e.2.2⟩
   ·rw [if_neg h3]
    refine congrArg some ?_
    symm
    rw [decide_eq_false_iff_not]
    exact fun e=>h3 (by have:=e.2.1 rfl;omega)
  | false =>
   rw [if_neg (by simp)]
   refine congrArg some ?_
   rw [decide_eq_decide]
   exact ⟨fun e=>⟨h,(fun z=>by cases z),e⟩,fun e=>e.2.2⟩
 ·rw [if_neg (by rw [decide_eq_true_eq];exact h)]
  refine congrArg some ?_
  symm
  rw [decide_eq_false_iff_not]
  exact fun e=>h e.1
theorem eV (s:Int) (ring:Bool) (p:Int) (k:Nat) (hk:2<k):bD.f k s ring [p]=some (decide (0≤p∧p≤wrap64 (s - 1))):=by
 unfold bD.f
 rw [jc [p] _ _ (by simp) k (by simp;omega),Option.bind_some]
 refine congrArg some ?_
 rw [decide_eq_decide]
 simp
theorem iq (s:Int) (ring:Bool):dr.f s ring=some (decide ((2≤s∧s≤24)∧(ring=true→3≤s))):=by
 unfold dr.f
 rw [f5,Option.bind_some]
 by_cases h:2≤s∧s≤24
 ·rw [if_pos (decide_eq_true h)]
  cases ring with
  | true =>
   rw [if_pos rfl]
   refine congrArg some ?_
   rw [decide_eq_decide]
   exact ⟨fun e=>⟨h,fun _=>e⟩,fun e=>e.2 rfl⟩
  | false =>
   rw [if_neg (by simp)]
   refine congrArg some ?_
   symm
   rw [decide_eq_true_eq]
   exact ⟨h,(fun z=>by cases z)⟩
 ·rw [if_neg (by rw [decide_eq_true_eq];exact h)]
  refine congrArg some ?_
  symm
  rw [decide_eq_false_iff_not]
  exact fun e=>h e.1
open Classical in
theorem kZ (s:Int) (ring:Bool) (l:List Int) (hl:l.length≤1048576) (d:Nat):∀ (k i:Nat),i≤l.length→l.length - i=d→d+3<k→((2≤s∧s≤24)→∀ j,(h:j<i)→(hj:j<l.length)→(0≤l[j]∧l[j]≤s - 1)∧(0<j→l.getD (j - 1) 0<l[j])) →
  bH.l0 k l (l.length:Int) i s ring l=some (decide (cn s ring l)):=by
 induction d with
 | zero =>
  intro k i hi hd hk hp
  obtain ⟨k,rfl,_⟩:=bX hk
  simp only [bH.l0]
  rw [if_neg (by omega),bd.f,Option.bind_some]
  dsimp only
  rw [iq,Option.bind_some]
  refine congrArg some ?_
  rw [decide_eq_decide]
  exact ⟨fun e=>⟨e.1,e.2,fun j hj=>hp e.1 j (by omega) hj⟩,fun e=>⟨e.1,e.2.1⟩⟩
 | succ d ih =>
  intro k i hi hd hk hp
  obtain ⟨k,rfl,_⟩:=bX hk
  have no:(2≤s∧s≤24→¬ ((0≤l[i]'(by omega)∧l[i]'(by omega)≤s - 1)∧(0<i→l.getD (i - 1) 0<l[i]'(by omega))))→¬ cn s ring l:=fun g e=>g e.1 (e.2.2 i (by omega))
  have go:(2≤s∧s≤24→((0≤l[i]'(by omega)∧l[i]'(by omega)≤s - 1)∧(0<i→l.getD (i - 1) 0<l[i]'(by omega))))→bH.l0 k l (l.length:Int) (wrap64 ((i:Int)+1)) s ring l=some (decide (cn s ring l)):=by
   intro g
   rw [bT (n:=l.length) (by omega) (by omega)]
   refine ih k (i+1) (by omega) (by omega) (by omega) fun hs j hj hj'=>?_
   by_cases e:j=i
   ·subst e;exact g hs
   ·exact hp hs j (by omega) hj'
  simp only [bH.l0]
  rw [if_pos (by omega),if_pos (by omega),if_pos (by omega),bd.f,Option.bind_some]
  dsimp only
  rw [dS l i (by omega),eV _ _ _ k (by omega),Option.bind_some]
  by_cases g:0≤l[i]'(by omega)∧l[i]'(by omega)≤wrap64 (s - 1)
  ·rw [if_pos (decide_eq_true g)]
   have g':2≤s∧s≤24→0≤l[i]'(by omega)∧l[i]'(by omega)≤s - 1:=fun hs=>by
    rw [cm (by omega) (by omega)] at g
    exact g
   by_cases h0:0<i
   ·rw [if_pos (by omega),cm (by omega) (by omega),if_pos (by omega),if_pos (by omega),show (i:Int) - 1=((i - 1:Nat):Int) from by omega,iQ]
    by_cases g2:l.getD (i - 1) 0<l[i]'(by omega)
    ·rw [if_neg (by omega)]
     exact go fun hs=>⟨g' hs,fun _=>g2⟩
    ·rw [if_pos (by omega),decide_eq_false (no fun _ e=>g2 (e.2 h0))]
   ·rw [if_neg (by omega)]
    exact go fun hs=>⟨g' hs,fun e=>absurd e h0⟩
  ·rw [if_neg (by rw [decide_eq_true_eq];exact g)]
   rw [decide_eq_false (no fun hs e=>g ?_)]
   rw [cm (by omega) (by omega)]
   exact e.1
open Classical in
theorem iD (s:Int) (ring:Bool) (l:List Int) (hl:l.length≤1048576) (k:Nat) (hk:l.length+3<k):bH.f k s ring l=some (decide (cn s ring l)) :=
 kZ s ring l hl l.length k 0 (by omega) (by omega) hk (fun _ j h=>by omega)
theorem lD (l:List Int) (a b:Int) (h:gF l a b) (i j:Nat) (hij:i<j) (hj:j<l.length):l[i]'(by omega)<l[j]:=by
 induction j with
 | zero=>omega
 | succ j ih =>
  have h1:=(h (j+1) hj).2 (by omega)
  rw [show j+1 - 1=j from by omega,show l.getD j 0=l[j]'(by omega) from by simp [List.getD,show j<l.length by omega]] at h1
  by_cases e:i=j
  ·subst e;exact h1
  ·have:=ih (by omega) (by omega)
   omega
theorem du (l:List Int) (a b:Int) (h:gF l a b):∀ x ∈ l,a≤x∧x≤b:=by
 intro x hx
 obtain ⟨i,hi,rfl⟩:=List.getElem_of_mem hx
 exact (h i hi).1
theorem jd (l:List Int) (a b:Int) (h:gF l a b):l.Nodup:=by
 refine List.pairwise_iff_getElem.2 fun i j hi hj hij e=>?_
 have:=lD l a b h i j hij hj
 omega
theorem dk (s:Int) (ring:Bool) (t:List Int) (h:cn s ring t):t.length≤24:=by
 have hn:=jd t _ _ h.2.2
 have hs:t ⊆ (List.range 24).map fun i:Nat=>(i:Int):=by
  intro x hx
  have:=du t _ _ h.2.2 x hx
  have:=h.1
  exact List.mem_map.2 ⟨x.toNat,List.mem_range.2 (by omega),by omega⟩
 have:=List.Nodup.length_le_of_subset hn hs
 simpa using this
theorem k5 (l:List Int) (hl:l.length≤1048576) (hb:∀ x ∈ l,0≤x∧x<32) (d:Nat):∀ (k i s:Nat),s<4294967296→i≤l.length→l.length - i=d→d<k →
  b4.l0 k (s:Int) l (l.length:Int) i=some (((l.drop i).foldl (fun s p=>s ||| 2 ^ p.toNat) s:Nat):Int):=by
 induction d with
 | zero =>
  intro k i s hs hi hd hk
  obtain ⟨k,rfl,_⟩:=bX hk
  simp only [b4.l0]
  rw [if_neg (by omega),List.drop_eq_nil_of_le (by omega)]
  rfl
 | succ d ih =>
  intro k i s hs hi hd hk
  obtain ⟨k,rfl,_⟩:=bX hk
  obtain ⟨b0,b1⟩:=hb (l[i]'(by omega)) (List.getElem_mem _)
  have hp:2 ^ (l[i]'(by omega)).toNat<2 ^ 32:=Nat.pow_lt_pow_right (by omega) (by omega)
  simp only [b4.l0]
  rw [if_pos (by omega),if_pos (by omega),if_pos (by omega),bT (n:=l.length) (by omega) (by omega),dS l i (by omega),if_pos b0,gr _ b0 b1,gq _ _ hs hp]
  rw [ih k (i+1) _ (Nat.or_lt_two_pow (n:=32) hs hp) (by omega) (by omega) (by omega),List.drop_eq_getElem_cons (l:=l) (i:=i) (by omega)]
  rfl
theorem k7 (l:List Int) (hl:l.length≤1048576) (hb:∀ x ∈ l,0≤x∧x<32) (k:Nat) (hk:l.length<k):b4.f k l=some ((cF l:Nat):Int) :=
 k5 l hl hb l.length k 0 0 (by omega) (by omega) (by omega) hk
theorem f6 (s:Int) (ring:Bool) (t:List Int) (hr:cn s ring t):(∀ x ∈ t,0≤x∧x<32)∧cF t<4294967296:=by
 have hm:=du t _ _ hr.2.2
 have h24:=hr.1
 exact ⟨fun x hx=>by have:=hm x hx;omega,kz t fun x hx=>by have:=hm x hx;omega⟩
theorem cO (s:Int) (ring:Bool) (t:List Int) (hr:cn s ring t) (k:Nat) (hk:t.length<k):a7.f k s ring t=some ((cF t:Nat):Int):=by
 unfold a7.f
 have:=dk s ring t hr
 rw [k7 t (by omega) (f6 s ring t hr).1 k hk,Option.bind_some]
theorem cJ (a:Int):bG.f a=some (decide (1≤a∧a≤2)):=by
 unfold bG.f
 by_cases h:a=1
 ·rw [if_pos h,decide_eq_true (by omega)]
 ·rw [if_neg h]
  refine congrArg some ?_
  rw [Bool.eq_iff_iff,beq_iff_eq,decide_eq_true_eq]
  omega
theorem dW {s:Int} {ring:Bool} {t:List Int} (h:cn s ring t):∃ n:Nat,s=n∧2≤n∧n≤24∧(ring=true→3≤n)∧(∀ x ∈ t,0≤x∧x<n):=by
 have h1:=h.1
 have h2:=h.2.1
 refine ⟨s.toNat,by omega,by omega,by omega,fun e=>by have:=h2 e;omega,fun x hx=>?_⟩
 have:=du t _ _ h.2.2 x hx
 omega
open Classical in
theorem ca (s:Int) (ring:Bool) (t:List Int) (ht:t.length≤1048576):Ev (fun k=>aI.f k s ring t) (decide (cn s ring t)) :=
 Ev.bound t.length fun k hk=>eP s ring t ht k hk
open Classical in
theorem bI (s:Int) (ring:Bool) (t:List Int) (ht:t.length≤1048576) (g:Int):Ev (fun k=>bf.f k s ring t g) (decide (cn s ring t∧1≤g∧g≤2)):=by
 unfold bf.f
 refine Ev.bind (Ev.bound (t.length+3) fun k hk=>iD s ring t ht k (by omega)) ?_
 by_cases h:cn s ring t
 ·refine Ev.pos (decide_eq_true h) ?_
  rw [f5]
  refine Ev.same (Ev.now _) ?_
  rw [decide_eq_decide]
  exact ⟨fun e=>⟨h,e⟩,fun e=>e.2⟩
 ·exact Ev.same (Ev.neg (by rw [decide_eq_true_eq];exact h) (Ev.now _)) (decide_eq_false fun e=>h e.1).symm
def az (t:List Int) (p:Nat):Bool:=!decide ((p:Int) ∈ t)
theorem fQ {t:List Int} (hlo:∀ x ∈ t,0≤x) (p:Nat):(cF t).testBit p=!az t p:=by
 unfold az
 rw [cX,Bool.not_not,decide_eq_decide]
 constructor
 ·rintro ⟨x,hx,e⟩
  have:=hlo x hx
  rw [show (p:Int)=x from by omega]
  exact hx
 ·intro h
  exact ⟨(p:Int),h,by omega⟩
def bB (game:Int) (F:Nat→Bool) (n:Nat) (ring:Bool) (p:Nat):Bool:=if game=1 then cd F n ring p else F p && F ((p+1) % n) && (ring || decide (p+1<n))
def gz (game:Int) (n p:Nat):Nat:=if game=1 then 2 ^ p else 2 ^ p ||| 2 ^ ((p+1) % n)
theorem ik (p n:Nat) (hp:p<n) (hn:n≤24):Int.tmod (wrap64 ((p:Int)+1)) (n:Int)=(((p+1) % n:Nat):Int):=by
 rw [bT (n:=100) (by omega) (by omega)]
 exact (Int.ofNat_tmod (p+1) n).symm
section
variable {F:Nat→Bool} {n:Nat} {ring:Bool} (h2:2≤n) (h24:n≤24) {game:Int} (hg:game=1 ∨ game=2)
include h2 h24 hg
theorem eQ {t:List Int} (ht:t.length≤1048576) (hT:∀ p,p<n→decide ((p:Int) ∈ t)=!F p):Ev (fun k=>aA.f k n ring t game) (bU (bB game F n ring) n):=by
 unfold aA.f
 rcases hg with rfl|rfl
 ·exact Ev.pos rfl (Ev.bind (gZ h24 ht hT) (Ev.now _))
 ·refine Ev.neg (by omega) ?_
  have main:∀ d i,i+d=n→Ev (fun k=>aA.l0 k (bU (bB 2 F n ring) i) i n ring t) (bU (bB 2 F n ring) n):=by
   intro d
   induction d with
   | zero =>
    intro i hi
    have:i=n:=by omega
    subst this
    refine Ev.succ ?_
    simp only [aA.l0]
    exact Ev.neg (by omega) (Ev.now _)
   | succ d ih =>
    intro i hi
    have go:=ih (i+1) (by omega)
    have hl:=cz (bB 2 F n ring) i
    have hm:(i+1) % n<n:=Nat.mod_lt _ (by omega)
    have hmm:(i+1) % n > i ↔ i+1<n:=by
     constructor
     ·intro e
      refine Classical.byContradiction fun c=>?_
      have:i+1=n:=by omega
      rw [this,Nat.mod_self] at e
      omega
     ·intro e
      rw [Nat.mod_eq_of_lt e]
      omega
    rw [fk] at go
    refine Ev.succ ?_
    simp only [aA.l0]
    rw [ik i n (by omega) h24]
    refine Ev.pos (by omega) (Ev.neg (by omega) (Ev.bind (d4 _ _ _ _ ht) ?_))
    rw [hT i (by omega),bT (n:=100) (by omega) (by omega)]
    have eM:bB 2 F n ring i=(F i && F ((i+1) % n) && (ring || decide (i+1<n))):=rfl
    cases hF:F i with
    | false =>
     rw [if_neg (by rw [eM,hF];simp)] at go
     exact Ev.pos (by simp) go
    | true =>
     refine Ev.neg (by simp) (Ev.bind (d4 _ _ _ _ ht) ?_)
     rw [hT _ hm]
     cases hF2:F ((i+1) % n) with
     | false =>
      rw [if_neg (by rw [eM,hF,hF2];simp)] at go
      exact Ev.pos (by simp) go
     | true =>
      refine Ev.neg (by simp) ?_
      cases ring with
      | true =>
       rw [if_pos (by rw [eM,hF,hF2];simp)] at go
       exact Ev.pos rfl (Ev.pos (by omega) go)
      | false =>
       refine Ev.neg (by simp) ?_
       by_cases g:i+1<n
       ·rw [if_pos (by rw [eM,hF,hF2];simp [g])] at go
        exact Ev.pos (by have:=hmm.2 g;omega) (Ev.pos (by omega) go)
       ·rw [if_neg (by rw [eM,hF,hF2];simp [g])] at go
        exact Ev.neg (by intro e;exact g (hmm.1 (by omega))) go
  exact main n 0 (by omega)
theorem ey {S:Nat} (hlt:S<4294967296) (hS:∀ p,p<n→S.testBit p=!F p) (p:Nat) (hp:p<n):∃ v:Nat,Ev (fun k=>ar.f k n ring (S:Int) game p) ((v:Int),bB game F n ring p)∧(bB game F n ring p=true→v=gz game n p):=by
 have p2:2 ^ p<2 ^ 32:=Nat.pow_lt_pow_right (by omega) (by omega)
 have hm:(p+1) % n<n:=Nat.mod_lt _ (by omega)
 have q2:2 ^ ((p+1) % n)<2 ^ 32:=Nat.pow_lt_pow_right (by omega) (by omega)
 have hone:Ev (fun k=>bD.f k n ring [(p:Int)]) true:=Ev.bound 3 fun k hk=>by
  rw [eV _ _ _ k (by omega)]
  exact congrArg some (decide_eq_true (by rw [cm (by omega) (by omega)];omega))
 rcases hg with rfl|rfl
 ·refine ⟨2 ^ p,?_,fun _=>rfl⟩
  unfold ar.f
  refine Ev.bind hone (Ev.pos rfl (Ev.pos rfl (Ev.pos (by omega) (Ev.bind (gY h24 hlt hS) (Ev.have (fo _ _ (by omega) (i9 _ _ (by omega))) ?_)))))
  rw [dL,decide_eq_true hp,Bool.true_and,gr _ (by omega) (by omega),Int.toNat_natCast]
  exact Ev.now _
 ·have eM:bB 2 F n ring p=(F p && F ((p+1) % n) && (ring || decide (p+1<n))):=rfl
  have j:∀ q:Nat,(q<n→q=(p+1) % n)→(q<n ↔ (ring || decide (p+1<n))=true)→q≤n→∃ v:Nat,Ev (fun k=>ar.j0 k (S:Int) p q n ring) ((v:Int),bB 2 F n ring p)∧(bB 2 F n ring p=true→v=gz 2 n p):=by
   intro q hq hqn hle
   by_cases e:q=n
   ·have hf:bB 2 F n ring p=false:=by
     rw [eM,Bool.eq_false_iff.2 (fun z=>absurd (hqn.2 z) (by omega)),Bool.and_false]
    refine ⟨0,Ev.succ ?_,fun z=>absurd z (by rw [hf];simp)⟩
    rw [hf]
    simp only [ar.j0]
    exact Ev.pos (by omega) (Ev.now _)
   ·have hql:q<n:=by omega
    have hq':=hq hql
    have hb:=hqn.1 hql
    rw [eM,hb,Bool.and_true]
    cases hF:F p with
    | false =>
     refine ⟨0,Ev.succ ?_,fun z=>absurd z (by simp)⟩
     simp only [ar.j0]
     refine Ev.neg (by omega) (Ev.have (fo _ _ (by omega) hlt) ?_)
     rw [hS p hp,hF]
     exact Ev.pos rfl (Ev.now _)
    | true =>
     cases hF2:F ((p+1) % n) with
     | false =>
      refine ⟨0,Ev.succ ?_,fun z=>absurd z (by simp)⟩
      simp only [ar.j0]
      refine Ev.neg (by omega) (Ev.have (fo _ _ (by omega) hlt) ?_)
      rw [hS p hp,hF]
      refine Ev.neg (by simp) (Ev.have (fo _ _ (by omega) hlt) ?_)
      rw [hS q hql,hq',hF2]
      exact Ev.pos rfl (Ev.now _)
     | true =>
      refine ⟨2 ^ p ||| 2 ^ ((p+1) % n),Ev.succ ?_,fun _=>rfl⟩
      simp only [ar.j0]
      refine Ev.neg (by omega) (Ev.have (fo _ _ (by omega) hlt) ?_)
      rw [hS p hp,hF]
      refine Ev.neg (by simp) (Ev.have (fo _ _ (by omega) hlt) ?_)
      rw [hS q hql,hq',hF2]
      refine Ev.neg (by simp) (Ev.pos (by omega) (Ev.pos (by omega) ?_))
      rw [gr _ (by omega) (by omega),gr _ (by omega) (by omega),Int.toNat_natCast,Int.toNat_natCast,gq _ _ (by omega) (by omega)]
      exact Ev.now _
  unfold ar.f
  cases ring with
  | true =>
   obtain ⟨v,e,hv⟩:=j ((p+1) % n) (fun _=>rfl) (by simp [hm]) (by omega)
   refine ⟨v,Ev.bind hone (Ev.pos rfl (Ev.neg (by omega) (Ev.pos rfl (Ev.neg (by omega) ?_)))),hv⟩
   rw [ik p n hp h24]
   exact e
  | false =>
   obtain ⟨v,e,hv⟩:=j (p+1) (fun z=>(Nat.mod_eq_of_lt z).symm) (by simp) (by omega)
   refine ⟨v,Ev.bind hone (Ev.pos rfl (Ev.neg (by omega) (Ev.neg (by simp) ?_))),hv⟩
   rw [bT (n:=100) (by omega) (by omega)]
   exact e
end
theorem k8 (l:List Int) (h:l.length<17592186044416):eT.f l=some l:=by
 unfold eT.f
 rw [Option.bind_some,if_pos (by simpa using h)]
 rfl
theorem mS (S:Nat) (l:List Int) (h:∀ i,S.testBit i=true ↔ ∃ p ∈ l,p.toNat=i):S=cF l:=by
 refine Nat.eq_of_testBit_eq fun i=>?_
 rw [cX,Bool.eq_iff_iff,h,decide_eq_true_eq]
def gP (t:List Int) (p:Int):List Int:=(t.filter fun x=>decide (x<p))++p :: t.filter fun x=>decide (p<x)
theorem lY (t:List Int) (p:Int) (hr:∀ i j,(h:i<j)→(hj:j<t.length)→t[i]'(by omega)<t[j]) (i:Nat) (hi:i≤t.length) (h1:∀ j,(h:j<i)→t[j]'(by omega)<p) (h2:∀ j,i≤j→(hj:j<t.length)→p<t[j]) :
  t.take i=(t.filter fun x=>decide (x<p))∧t.drop i=(t.filter fun x=>decide (p<x)):=by
 have e:=(List.take_append_drop i t).symm
 have a1:∀ x ∈ t.take i,x<p:=fun x hx=>by
  obtain ⟨j,hj,rfl⟩:=List.getElem_of_mem hx
  rw [List.length_take] at hj
  rw [List.getElem_take]
  exact h1 j (by omega)
 have a2:∀ x ∈ t.drop i,p<x:=fun x hx=>by
  obtain ⟨j,hj,rfl⟩:=List.getElem_of_mem hx
  rw [List.length_drop] at hj
  rw [List.getElem_drop]
  exact h2 _ (by omega) (by omega)
 constructor
 ·conv=>rhs;rw [e]
  rw [List.filter_append,List.filter_eq_self.2 (fun x hx=>decide_eq_true (a1 x hx)),List.filter_eq_nil_iff.2 (fun x hx=>by have:=a2 x hx;simp;omega),List.append_nil]
 ·conv=>rhs;rw [e]
  rw [List.filter_append,List.filter_eq_nil_iff.2 (fun x hx=>by have:=a1 x hx;simp;omega),List.filter_eq_self.2 (fun x hx=>decide_eq_true (a2 x hx)),List.nil_append]
theorem lc (t:List Int) (p:Int) (ht:t.length≤1048576) (hr:∀ i j,(h:i<j)→(hj:j<t.length)→t[i]'(by omega)<t[j]) (hp:p ∉ t) (d:Nat):∀ (k i:Nat),i≤t.length→t.length - i=d→d<k→(∀ j,(h:j<i)→(hj:j<t.length)→t[j]<p) →
  bF.l0 k t p (i:Int)=some (gP t p):=by
 have done:∀ i,i≤t.length→(∀ j,(h:j<i)→(hj:j<t.length)→t[j]<p)→(∀ j,i≤j→(hj:j<t.length)→p<t[j])→[]++t.take i++[p]++t.drop i=gP t p:=by
  intro i hi h1 h2
  obtain ⟨e1,e2⟩:=lY t p hr i hi (fun j hj=>h1 j hj (by omega)) h2
  rw [e1,e2]
  simp [gP]
 induction d with
 | zero =>
  intro k i hi hd hk h1
  obtain ⟨k,rfl,_⟩:=bX hk
  simp only [bF.l0]
  rw [if_neg (by omega),Option.bind_some,if_pos (by omega),if_pos (by omega),if_pos (by simp;omega),Option.bind_some,Option.bind_some,if_pos (by simp;omega),Option.bind_some,if_pos (by simp;omega),Int.toNat_natCast,done i hi h1 (fun j hj hj'=>by omega)]
 | succ d ih =>
  intro k i hi hd hk h1
  obtain ⟨k,rfl,_⟩:=bX hk
  simp only [bF.l0]
  rw [if_pos (by omega),if_pos (by omega),dS t i (by omega)]
  by_cases g:t[i]'(by omega)<p
  ·rw [if_pos g,bT (n:=t.length) (by omega) (by omega)]
   refine ih k (i+1) (by omega) (by omega) (by omega) fun j hj hj'=>?_
   by_cases e:j=i
   ·subst e;exact g
   ·exact h1 j (by omega) hj'
  ·have hne:t[i]'(by omega)≠p:=fun e=>hp (e ▸ List.getElem_mem _)
   rw [if_neg g,if_neg hne,Option.bind_some,if_pos (by omega),if_pos (by simp;omega),Option.bind_some,Option.bind_some,if_pos (by simp;omega),Option.bind_some,if_pos (by simp;omega),Int.toNat_natCast,done i hi h1]
   intro j hj hj'
   by_cases e:j=i
   ·subst e;omega
   ·have:=hr i j (by omega) hj'
    omega
theorem ld (t:List Int) (p:Int) (ht:t.length≤1048576) (hr:∀ i j,(h:i<j)→(hj:j<t.length)→t[i]'(by omega)<t[j]) (hp:p ∉ t) (k:Nat) (hk:t.length<k):bF.f k t p=some (gP t p) :=
 lc t p ht hr hp t.length k 0 (by omega) (by omega) hk (fun j h=>by omega)
theorem g3 (s:Int) (ring:Bool) (t:List Int) (p:Int) (ht:t.length≤1048576) (hr:∀ i j,(h:i<j)→(hj:j<t.length)→t[i]'(by omega)<t[j]) (hp:p ∉ t) (k:Nat) (hk:t.length<k):b5.f k s ring t p=some (s,ring,gP t p):=by
 unfold b5.f
 rw [k8 t (by omega),Option.bind_some,ld t p ht hr hp k hk,Option.bind_some,cA.f,Option.bind_some]
theorem fp (t:List Int) (p x:Int) (hp:p ∉ t):x ∈ gP t p ↔ x=p ∨ x ∈ t:=by
 unfold gP
 rw [List.mem_append,List.mem_cons,List.mem_filter,List.mem_filter,decide_eq_true_eq,decide_eq_true_eq]
 constructor
 ·rintro (e|e|e)
  ·exact .inr e.1
  ·exact .inl e
  ·exact .inr e.1
 ·rintro (e|e)
  ·exact .inr (.inl e)
  ·rcases Int.lt_trichotomy x p with g|g|g
   ·exact .inl ⟨e,g⟩
   ·exact .inr (.inl g)
   ·exact .inr (.inr ⟨e,g⟩)
theorem lE (t:List Int) (h:t.Pairwise (·<·)):∀ i j,(h:i<j)→(hj:j<t.length)→t[i]'(by omega)<t[j]:=fun i j hij hj=>List.pairwise_iff_getElem.1 h i j (by omega) hj hij
theorem lZ (t:List Int) (p:Int) (h:t.Pairwise (·<·)):(gP t p).Pairwise (·<·):=by
 unfold gP
 rw [List.pairwise_append]
 refine ⟨List.Pairwise.filter _ h,List.pairwise_cons.2 ⟨fun x hx=>?_,List.Pairwise.filter _ h⟩,fun a ha b hb=>?_⟩
 ·exact of_decide_eq_true (List.mem_filter.1 hx).2
 ·have h1:=of_decide_eq_true (List.mem_filter.1 ha).2
  rcases List.mem_cons.1 hb with e|e
  ·omega
  ·have h2:=of_decide_eq_true (List.mem_filter.1 e).2
   omega
theorem eE {s:Int} {ring:Bool} {t:List Int} (h:cn s ring t):t.Pairwise (·<·):=List.pairwise_iff_getElem.2 fun i j hi hj hij=>lD t _ _ h.2.2 i j hij hj
theorem n4 (t:List Int) (p:Int) (hp:p ∉ t):cF t ||| 2 ^ p.toNat=cF (gP t p):=by
 refine mS _ _ fun i=>?_
 rw [Nat.testBit_or,cX,Nat.testBit_two_pow,Bool.or_eq_true,decide_eq_true_eq,decide_eq_true_eq]
 constructor
 ·rintro (⟨x,hx,e⟩|e)
  ·exact ⟨x,(fp t p x hp).2 (.inr hx),e⟩
  ·exact ⟨p,(fp t p p hp).2 (.inl rfl),e⟩
 ·rintro ⟨x,hx,e⟩
  rcases (fp t p x hp).1 hx with g|g
  ·subst g;exact .inr e
  ·exact .inl ⟨x,g,e⟩
def cM (game:Int) (n:Nat) (t:List Int) (p:Nat):List Int:=if game=2 then gP (gP t p) (((p+1) % n:Nat):Int) else gP t p
theorem lF (l:List Int) (a b:Int) (hp:l.Pairwise (·<·)) (hb:∀ x ∈ l,a≤x∧x≤b):gF l a b:=by
 intro i h
 refine ⟨hb _ (List.getElem_mem _),fun h0=>?_⟩
 have:=List.pairwise_iff_getElem.1 hp (i - 1) i (by omega) h (by omega)
 simpa [List.getD,show i - 1<l.length from by omega] using this
theorem l4 {s:Int} {ring:Bool} {t:List Int} (h:cn s ring t) (p:Int) (h0:0≤p) (h1:p<s) (hp:p ∉ t):cn s ring (gP t p)∧t.length<(gP t p).length:=by
 have hm:=du t _ _ h.2.2
 refine ⟨⟨h.1,h.2.1,lF _ _ _ (lZ t p (eE h)) fun x hx=>?_⟩,?_⟩
 ·rcases (fp t p x hp).1 hx with e|e
  ·omega
  ·exact hm x e
 ·have hn:(p :: t).Nodup:=List.nodup_cons.2 ⟨hp,jd t _ _ h.2.2⟩
  have:=List.Nodup.length_le_of_subset hn (l₂:=gP t p) fun x hx=>by
   rcases List.mem_cons.1 hx with e|e
   ·exact (fp t p x hp).2 (.inl e)
   ·exact (fp t p x hp).2 (.inr e)
  rw [List.length_cons] at this
  omega
theorem iS {game:Int} (hg:game=1 ∨ game=2) {n:Nat} {ring:Bool} {t:List Int} {p:Nat} (h2:2≤n) (hp:p<n) (hM:bB game (az t) n ring p=true):(p:Int) ∉ t∧(game=2→(((p+1) % n:Nat):Int) ∉ gP t p):=by
 have fr:∀ q:Nat,az t q=true→(q:Int) ∉ t:=fun q hq=>by unfold az at hq;simpa using hq
 rcases hg with rfl|rfl
 ·have hM:cd (az t) n ring p=true:=hM
  unfold cd at hM
  exact ⟨fr p (Bool.and_eq_true_iff.1 hM).1,fun e=>absurd e (by omega)⟩
 ·have hM:(az t p && az t ((p+1) % n) && (ring || decide (p+1<n)))=true:=hM
  have h1:=Bool.and_eq_true_iff.1 (Bool.and_eq_true_iff.1 hM).1
  have hp1:=fr p h1.1
  refine ⟨hp1,fun _ e=>?_⟩
  rcases (fp t p _ hp1).1 e with g|g
  ·by_cases c:p+1<n
   ·rw [Nat.mod_eq_of_lt c] at g
    omega
   ·have:p+1=n:=by omega
    rw [this,Nat.mod_self] at g
    omega
  ·exact fr _ h1.2 g
theorem eA {game:Int} (hg:game=1 ∨ game=2) {n:Nat} {ring:Bool} {t:List Int} {p:Nat} (h:cn n ring t) (hp:p<n) (hM:bB game (az t) n ring p=true):cn n ring (cM game n t p)∧t.length<(cM game n t p).length∧cF t ||| gz game n p=cF (cM game n t p):=by
 have h2:2≤n:=by have:=h.1;omega
 have hf:=iS hg h2 hp hM
 have h1:=l4 h p (by omega) (by omega) hf.1
 have s1:=n4 t p hf.1
 rw [Int.toNat_natCast] at s1
 have hm:(p+1) % n<n:=Nat.mod_lt _ (by omega)
 unfold cM gz
 rcases hg with rfl|rfl
 ·rw [if_neg (by omega),if_pos rfl]
  exact ⟨h1.1,h1.2,s1⟩
 ·rw [if_pos rfl,if_neg (by omega)]
  have hq:=hf.2 rfl
  have h3:=l4 h1.1 _ (by omega) (by omega) hq
  have s2:=n4 _ _ hq
  rw [Int.toNat_natCast] at s2
  exact ⟨h3.1,by omega,by rw [← Nat.or_assoc,s1,s2]⟩
theorem eg {game:Int} (hg:game=1 ∨ game=2) {n:Nat} {ring:Bool} {t:List Int} {p:Nat} (h:cn n ring t) (hp:p<n) (hM:bB game (az t) n ring p=true):Ev (fun k=>bw.f k n ring t game p) ((n:Int),ring,cM game n t p):=by
 have h2:2≤n:=by have:=h.1;omega
 have h24:n≤24:=by have:=h.1;omega
 have hf:=iS hg h2 hp hM
 have hl:=dk _ ring t h
 have h1:=l4 h p (by omega) (by omega) hf.1
 have hl1:=dk _ ring _ h1.1
 unfold bw.f
 refine Ev.bind (Ev.bound 100 fun k hk=>g3 _ ring t p (by omega) (lE t (eE h)) hf.1 k (by omega)) ?_
 dsimp only
 unfold cM
 rcases hg with rfl|rfl
 ·rw [if_neg (show ¬ (1:Int)=2 from by omega)]
  exact Ev.neg (by omega) (Ev.now _)
 ·rw [if_pos rfl,ik p n hp h24]
  refine Ev.pos rfl (Ev.neg (by omega) (Ev.bind (Ev.bound 100 fun k hk=>g3 _ ring _ _ (by omega) (lE _ (eE h1.1)) (hf.2 rfl) k (by omega)) (Ev.now _)))
def mT {α:Type} (o:Option α) (l:List α):List α:=match o with
 | none=>l
 | some b=>b :: l
theorem gN {α β:Type} (f:α→Option β) (a:α) (l:List α):(a :: l).filterMap f=mT (f a) (l.filterMap f):=by
 rw [List.filterMap_cons]
 cases f a <;> rfl
def cV (c:Nat→Bool):Nat→Nat→Nat
 | 0,i=>i
 | f+1,i=>if c i=true then cV c f (i+1) else i
def onB (F:Nat→Bool) (n:Nat) (ring:Bool) (p j:Nat):Bool:=F ((p+j) % n) && (ring || decide (p+j<n))
def d8 (F:Nat→Bool) (n:Nat) (ring:Bool) (p:Nat):Bool:=F p && !(F ((p+n - 1) % n) && (ring || decide (0<p)))
def dJ (F:Nat→Bool) (n:Nat) (ring:Bool) (p:Nat):Option S72:=if d8 F n ring p=true then some ⟨p,(cV (onB F n ring p) 60 0:Nat)⟩ else none
def eI (F:Nat→Bool) (n:Nat) (ring:Bool):List S72:=if ring=true∧∀ p,p<n→F p=true then [⟨0,n⟩] else (List.range n).filterMap (dJ F n ring)
theorem lG (a n:Nat) (h:a<1000):Int.tmod (wrap64 (a:Int)) (n:Int)=((a % n:Nat):Int):=by
 rw [cm (by omega) (by omega)]
 exact (Int.ofNat_tmod a n).symm
section
variable {F:Nat→Bool} {n:Nat} {ring:Bool} (h2:2≤n) (h24:n≤24)
include h2 h24
theorem mU (hno:¬ (ring=true∧∀ p,p<n→F p=true)) (p:Nat) (hp:p<n):∃ j,0≤j∧j<0+60∧onB F n ring p j=false:=by
 cases ring with
 | false=>exact ⟨n - p,by omega,by omega,by simp [onB];omega⟩
 | true =>
  have:∃ q,q<n∧F q=false:=by
   refine Classical.byContradiction fun e=>hno ⟨rfl,fun q hq=>?_⟩
   cases g:F q with
   | true=>rfl
   | false=>exact absurd ⟨q,hq,g⟩ e
  obtain ⟨q,hq,g⟩:=this
  refine ⟨if p≤q then q - p else q+n - p,by omega,by split <;> omega,?_⟩
  have e:(p+if p≤q then q - p else q+n - p) % n=q:=by
   split
   ·rw [show p+(q - p)=q from by omega,Nat.mod_eq_of_lt hq]
   ·rw [show p+(q+n - p)=q+n from by omega,Nat.add_mod_right,Nat.mod_eq_of_lt hq]
  unfold onB
  rw [e,g]
  rfl
section
variable {t:List Int} (ht:t.length≤1048576) (hT:∀ p,p<n→decide ((p:Int) ∈ t)=!F p)
include ht hT
theorem lf (acc:List S72) (ha:acc.length≤1000) (p:Nat) (hp:p<n) (r:List S72):∀ f m:Nat,m+f≤60→(∃ j,m≤j∧j<m+f∧onB F n ring p j=false) →
  Ev (fun k=>ak.l0 k (acc++[⟨p,(cV (onB F n ring p) f m:Nat)⟩]) ((p+1:Nat):Int) n ring t) r→Ev (fun k=>ak.l1 k acc p m n ring t) r:=by
 intro f
 induction f with
 | zero=>rintro m _ ⟨j,h1,h3,_⟩;omega
 | succ f ih =>
  rintro m hm ⟨j,h1,h3,h4⟩ hr
  have hmod:(p+m) % n<n:=Nat.mod_lt _ (by omega)
  have e1:Int.tmod (wrap64 ((p:Int)+(m:Int))) (n:Int)=(((p+m) % n:Nat):Int):=lG (p+m) n (by omega)
  rw [cV] at hr
  refine Ev.succ ?_
  simp only [ak.l1]
  rw [e1,cm (x:=(p:Int)+(m:Int)) (by omega) (by omega),bT (n:=100) (i:=m) (by omega) (by omega),bT (n:=100) (i:=p) (by omega) (by omega)]
  refine Ev.neg (by omega) (Ev.bind (d4 _ _ _ _ ht) ?_)
  rw [hT _ hmod]
  by_cases hc:onB F n ring p m=true
  ·rw [if_pos hc] at hr
   have hc':=hc
   unfold onB at hc'
   rw [Bool.and_eq_true,Bool.or_eq_true,decide_eq_true_eq] at hc'
   refine Ev.neg (by rw [hc'.1];simp) ?_
   have hj:m≠j:=fun e=>by rw [e,h4] at hc;cases hc
   have go:=ih (m+1) (by omega) ⟨j,by omega,by omega,h4⟩ hr
   by_cases hring:ring=true
   ·exact Ev.pos hring go
   ·exact Ev.neg hring (Ev.pos (by have:=hc'.2.resolve_left hring;omega) go)
  ·rw [if_neg hc] at hr
   by_cases hF:F ((p+m) % n)=true
   ·refine Ev.neg (by rw [hF];simp) ?_
    have hring:¬ ring=true:=fun e=>hc (by unfold onB;rw [hF,e];rfl)
    refine Ev.neg hring (Ev.neg (fun e=>hc ?_) (Ev.pos (by omega) hr))
    unfold onB
    rw [hF,Bool.true_and,Bool.or_eq_true,decide_eq_true_eq]
    exact .inr (by omega)
   ·refine Ev.pos (by rw [Bool.eq_false_iff.2 hF];rfl) (Ev.pos (by omega) hr)
theorem l5 (hno:¬ (ring=true∧∀ p,p<n→F p=true)) (d:Nat):∀ (i:Nat) (acc:List S72),i+d=n→acc.length≤i→Ev (fun k=>ak.l0 k acc i n ring t) (acc++(List.range' i d).filterMap (dJ F n ring)):=by
 induction d with
 | zero =>
  intro i acc hi ha
  refine Ev.succ ?_
  simp only [ak.l0]
  refine Ev.neg (by omega) ?_
  simp
  exact Ev.now _
 | succ d ih =>
  intro i acc hi ha
  have eb:Int.tmod (wrap64 (wrap64 ((i:Int) - 1)+(n:Int))) (n:Int)=(((i+n - 1) % n:Nat):Int):=by
   rw [cm (x:=(i:Int) - 1) (by omega) (by omega),show (i:Int) - 1+(n:Int)=((i+n - 1:Nat):Int) from by omega]
   exact lG _ _ (by omega)
  have hb:(i+n - 1) % n<n:=Nat.mod_lt _ (by omega)
  have next:∀ c:List S72,c.length≤i+1→Ev (fun k=>ak.l0 k c ((i+1:Nat):Int) n ring t) (c++(List.range' (i+1) d).filterMap (dJ F n ring)):=fun c hc=>ih (i+1) c (by omega) hc
  rw [List.range'_succ,gN]
  refine Ev.succ ?_
  simp only [ak.l0]
  refine Ev.pos (by omega) (Ev.neg (by omega) (Ev.bind (d4 _ _ _ _ ht) ?_))
  rw [hT i (by omega)]
  have skip:d8 F n ring i=false→Ev (fun k=>ak.j2 k acc i true n ring t) (acc++mT (dJ F n ring i) ((List.range' (i+1) d).filterMap (dJ F n ring))):=by
   intro hs
   have e:dJ F n ring i=none:=by unfold dJ;rw [hs];rfl
   rw [e]
   refine Ev.succ ?_
   simp only [ak.j2]
   refine Ev.pos (by simp) ?_
   rw [bT (n:=100) (by omega) (by omega)]
   exact next acc (by omega)
  have take:d8 F n ring i=true→Ev (fun k=>ak.j2 k acc i false n ring t) (acc++mT (dJ F n ring i) ((List.range' (i+1) d).filterMap (dJ F n ring))):=by
   intro hs
   have e:dJ F n ring i=some ⟨i,(cV (onB F n ring i) 60 0:Nat)⟩:=by unfold dJ;rw [hs];rfl
   rw [e]
   refine Ev.succ ?_
   simp only [ak.j2]
   refine Ev.neg (by simp) ?_
   refine lf h2 h24 ht hT acc (by omega) i (by omega) _ 60 0 (by omega) (mU h2 h24 hno i (by omega)) ?_
   refine Ev.same (next _ (by simp;omega)) ?_
   rw [List.append_assoc]
   rfl
  cases hF:F i with
  | false =>
   refine Ev.pos (by simp) ?_
   exact skip (by unfold d8;rw [hF];rfl)
  | true =>
   refine Ev.neg (by simp) ?_
   rw [eb]
   refine Ev.bind (d4 _ _ _ _ ht) ?_
   rw [hT _ hb]
   cases hB:F ((i+n - 1) % n) with
   | false =>
    refine Ev.pos (by simp) ?_
    exact take (by unfold d8;rw [hF,hB];rfl)
   | true =>
    refine Ev.neg (by simp) ?_
    by_cases hring:ring=true
    ·refine Ev.pos hring ?_
     exact skip (by unfold d8;rw [hF,hB,hring];rfl)
    ·refine Ev.neg hring ?_
     have hr:ring=false:=Bool.eq_false_iff.2 hring
     by_cases h0:0<i
     ·rw [decide_eq_true (show (i:Int) > 0 by omega)]
      exact skip (by unfold d8;rw [hF,hB,hr,decide_eq_true h0];rfl)
     ·rw [decide_eq_false (show ¬ (i:Int) > 0 by omega)]
      exact take (by unfold d8;rw [hF,hB,hr,decide_eq_false h0];rfl)
theorem fN (hin:∀ x ∈ t,0≤x∧x<n):Ev (fun k=>ak.f k n ring t) (eI F n ring):=by
 have hempty:t.length=0 ↔ ∀ p,p<n→F p=true:=by
  constructor
  ·intro e p hp
   have:=hT p hp
   rw [List.eq_nil_of_length_eq_zero e] at this
   simpa using this.symm
  ·intro e
   refine Nat.eq_zero_of_not_pos fun hpos=>?_
   have hm:=List.getElem_mem (l:=t) hpos
   have hb:=hin _ hm
   have:=hT t[0].toNat (by omega)
   rw [e _ (by omega),show ((t[0].toNat:Nat):Int)=t[0] from by omega,decide_eq_true hm] at this
   cases this
 unfold ak.f eI
 refine Ev.have rfl ?_
 have main:¬ (ring=true∧∀ p,p<n→F p=true)→Ev (fun k=>ak.l0 k [] 0 n ring t) ((List.range n).filterMap (dJ F n ring)):=fun hno=>by
  have:=l5 h2 h24 ht hT hno n 0 [] (by omega) (by simp)
  rw [List.nil_append,← List.range_eq_range'] at this
  exact this
 by_cases hring:ring=true
 ·refine Ev.pos hring (Ev.succ ?_)
  simp only [ak.j0]
  by_cases he:t.length=0
  ·rw [if_pos ⟨hring,hempty.1 he⟩]
   exact Ev.pos (by rw [beq_iff_eq];omega) (Ev.now _)
  ·rw [if_neg (fun e=>he (hempty.2 e.2))]
   exact Ev.neg (by rw [beq_iff_eq];omega) (main fun e=>he (hempty.2 e.2))
 ·rw [if_neg (fun e=>hring e.1)]
  refine Ev.neg hring (Ev.succ ?_)
  simp only [ak.j0]
  exact Ev.neg (by simp) (main fun e=>hring e.1)
end
section
variable {S:Nat} (hS:∀ p,p<n→S.testBit p=F p) (hS':∀ p,n≤p→S.testBit p=false)
include hS hS'
omit h2 hS in
theorem mV:S<4294967296:=show S<2 ^ 32 from Nat.lt_of_lt_of_le (iR S n hS') (Nat.pow_le_pow_right (by omega) (by omega))
omit h2 h24 in
theorem n5:S=2 ^ n - 1 ↔ ∀ p,p<n→F p=true:=by
 constructor
 ·intro e p hp
  rw [← hS p hp,e,gt,decide_eq_true hp]
 ·intro e
  refine Nat.eq_of_testBit_eq fun i=>?_
  rw [gt]
  by_cases g:i<n
  ·rw [hS i g,e i g,decide_eq_true g]
  ·rw [hS' i (by omega),decide_eq_false g]
theorem lg (acc:List S72) (ha:acc.length≤1000) (p:Nat) (hp:p<n) (r:List S72):∀ f m:Nat,m+f≤60→(∃ j,m≤j∧j<m+f∧onB F n ring p j=false) →
  Ev (fun k=>ac.l0 k (S:Int) (acc++[⟨p,(cV (onB F n ring p) f m:Nat)⟩]) (n:Int) ((p+1:Nat):Int) n ring) r→Ev (fun k=>ac.l1 k (S:Int) acc p m ((p+m:Nat):Int) n p n ring) r:=by
 intro f
 induction f with
 | zero=>rintro m _ ⟨j,h1,h3,_⟩;omega
 | succ f ih =>
  rintro m hm ⟨j,h1,h3,h4⟩ hr
  have hmod:(p+m) % n<n:=Nat.mod_lt _ (by omega)
  rw [cV] at hr
  refine Ev.succ ?_
  simp only [ac.l1]
  rw [← Int.ofNat_tmod (p+m) n,bT (n:=100) (i:=m) (by omega) (by omega),bT (n:=100) (i:=p+m) (by omega) (by omega),bT (n:=100) (i:=p) (by omega) (by omega)]
  refine Ev.neg (by omega) (Ev.have (fo _ _ (by omega) (mV h24 hS')) ?_)
  rw [hS _ hmod]
  by_cases hc:onB F n ring p m=true
  ·rw [if_pos hc] at hr
   have hc':=hc
   unfold onB at hc'
   rw [Bool.and_eq_true,Bool.or_eq_true,decide_eq_true_eq] at hc'
   refine Ev.pos hc'.1 ?_
   have hj:m≠j:=fun e=>by rw [e,h4] at hc;cases hc
   have go:=ih (m+1) (by omega) ⟨j,by omega,by omega,h4⟩ hr
   by_cases hring:ring=true
   ·exact Ev.pos hring go
   ·exact Ev.neg hring (Ev.pos (by have:=hc'.2.resolve_left hring;omega) go)
  ·rw [if_neg hc] at hr
   by_cases hF:F ((p+m) % n)=true
   ·refine Ev.pos hF ?_
    have hring:¬ ring=true:=fun e=>hc (by unfold onB;rw [hF,e];rfl)
    refine Ev.neg hring (Ev.neg (fun e=>hc ?_) (Ev.pos (by omega) hr))
    unfold onB
    rw [hF,Bool.true_and,Bool.or_eq_true,decide_eq_true_eq]
    exact .inr (by omega)
   ·exact Ev.neg hF (Ev.pos (by omega) hr)
theorem l6 (hno:¬ (ring=true∧∀ p,p<n→F p=true)) (d:Nat):∀ (i:Nat) (acc:List S72),i+d=n→acc.length≤i→Ev (fun k=>ac.l0 k (S:Int) acc n i n ring) (acc++(List.range' i d).filterMap (dJ F n ring)):=by
 induction d with
 | zero =>
  intro i acc hi ha
  refine Ev.succ ?_
  simp only [ac.l0]
  refine Ev.neg (by omega) ?_
  simp
  exact Ev.now _
 | succ d ih =>
  intro i acc hi ha
  have hlt:=mV h24 hS'
  have next:∀ c:List S72,c.length≤i+1→Ev (fun k=>ac.l0 k (S:Int) c n ((i+1:Nat):Int) n ring) (c++(List.range' (i+1) d).filterMap (dJ F n ring)):=fun c hc=>ih (i+1) c (by omega) hc
  rw [List.range'_succ,gN]
  have j4:∀ b:Bool,d8 F n ring i=!b→Ev (fun k=>ac.j4 k (S:Int) acc i n i b n ring) (acc++mT (dJ F n ring i) ((List.range' (i+1) d).filterMap (dJ F n ring))):=by
   intro b hs
   refine Ev.succ ?_
   simp only [ac.j4]
   cases b with
   | true =>
    have e:dJ F n ring i=none:=by unfold dJ;rw [hs];rfl
    rw [e]
    refine Ev.pos (by simp) ?_
    rw [bT (n:=100) (by omega) (by omega)]
    exact next acc (by omega)
   | false =>
    have e:dJ F n ring i=some ⟨i,(cV (onB F n ring i) 60 0:Nat)⟩:=by unfold dJ;rw [hs];rfl
    rw [e]
    refine Ev.neg (by simp) ?_
    refine lg h2 h24 hS hS' acc (by omega) i (by omega) _ 60 0 (by omega) (mU h2 h24 hno i (by omega)) ?_
    refine Ev.same (next _ (by simp;omega)) ?_
    rw [List.append_assoc]
    rfl
  have j3:∀ b:Int,(b<0∧ring=false∧i=0 ∨ ∃ q:Nat,b=q∧q=(i+n - 1) % n∧(ring=true ∨ 0<i))→Ev (fun k=>ac.j3 k (S:Int) acc i b n i n ring) (acc++mT (dJ F n ring i) ((List.range' (i+1) d).filterMap (dJ F n ring))):=by
   intro b hb
   refine Ev.succ ?_
   simp only [ac.j3]
   refine Ev.have (fo _ _ (by omega) hlt) ?_
   rw [hS i (by omega)]
   cases hF:F i with
   | false =>
    refine Ev.neg (by simp) ?_
    exact j4 true (by unfold d8;rw [hF];rfl)
   | true =>
    refine Ev.pos (by simp) ?_
    rcases hb with ⟨hb,hr,h0⟩|⟨q,rfl,hq,hr⟩
    ·refine Ev.neg (by omega) ?_
     exact j4 false (by unfold d8;rw [hF,hr,h0];simp)
    ·have hqn:q<n:=by rw [hq];exact Nat.mod_lt _ (by omega)
     refine Ev.pos (by omega) (Ev.have (fo _ _ (by omega) hlt) ?_)
     rw [hS q hqn]
     refine j4 _ ?_
     unfold d8
     rw [hF,← hq]
     rcases hr with hr|hr
     ·rw [hr];simp
     ·rw [decide_eq_true hr];simp
  refine Ev.succ ?_
  simp only [ac.l0]
  refine Ev.pos (by omega) ?_
  by_cases hring:ring=true
  ·refine Ev.pos hring (Ev.succ ?_)
   simp only [ac.j2]
   by_cases h0:i=0
   ·refine Ev.pos (by rw [beq_iff_eq];omega) ?_
    refine j3 _ (.inr ⟨n - 1,?_,?_,.inl hring⟩)
    ·rw [cm (by omega) (by omega)];omega
    ·rw [h0,Nat.zero_add,Nat.mod_eq_of_lt (by omega)]
   ·refine Ev.neg (by rw [beq_iff_eq];omega) ?_
    refine j3 _ (.inr ⟨i - 1,?_,?_,.inl hring⟩)
    ·rw [cm (by omega) (by omega)];omega
    ·rw [show i+n - 1=i - 1+n from by omega,Nat.add_mod_right,Nat.mod_eq_of_lt (by omega)]
  ·refine Ev.neg hring (Ev.succ ?_)
   simp only [ac.j2]
   refine Ev.neg (by simp) ?_
   by_cases h0:i=0
   ·refine j3 _ (.inl ⟨?_,Bool.eq_false_iff.2 hring,h0⟩)
    rw [cm (by omega) (by omega)];omega
   ·refine j3 _ (.inr ⟨i - 1,?_,?_,.inr (by omega)⟩)
    ·rw [cm (by omega) (by omega)];omega
    ·rw [show i+n - 1=i - 1+n from by omega,Nat.add_mod_right,Nat.mod_eq_of_lt (by omega)]
theorem l7:Ev (fun k=>ac.f k n ring (S:Int)) (eI F n ring):=by
 have hsa:=n5 hS hS'
 unfold ac.f eI
 refine Ev.have rfl ?_
 have main:¬ (ring=true∧∀ p,p<n→F p=true)→Ev (fun k=>ac.l0 k (S:Int) [] n 0 n ring) ((List.range n).filterMap (dJ F n ring)):=fun hno=>by
  have:=l6 h2 h24 hS hS' hno n 0 [] (by omega) (by simp)
  rw [List.nil_append,← List.range_eq_range'] at this
  exact this
 by_cases hring:ring=true
 ·refine Ev.pos hring (Ev.have (a:=((2 ^ n - 1:Nat):Int)) ?_ (Ev.succ ?_))
  ·unfold bY.f
   rw [if_pos (by omega),mO _ (by omega) (by omega),Int.toNat_natCast]
  simp only [ac.j0]
  by_cases he:S=2 ^ n - 1
  ·rw [show (if ring=true∧∀ p,p<n→F p=true then [(⟨0,n⟩:S72)] else (List.range n).filterMap (dJ F n ring))=[⟨0,n⟩] from if_pos ⟨hring,hsa.1 he⟩]
   exact Ev.pos (by rw [beq_iff_eq,he]) (Ev.pos (by decide) (Ev.now _))
  ·rw [show (if ring=true∧∀ p,p<n→F p=true then [(⟨0,n⟩:S72)] else (List.range n).filterMap (dJ F n ring))=(List.range n).filterMap (dJ F n ring) from if_neg (fun e=>he (hsa.2 e.2))]
   exact Ev.neg (by rw [beq_iff_eq];omega) (main fun e=>he (hsa.2 e.2))
 ·rw [if_neg (fun e=>hring e.1)]
  refine Ev.neg hring (Ev.succ ?_)
  simp only [ac.j0]
  exact Ev.neg (by simp) (main fun e=>hring e.1)
end
end
section
variable {F:Nat→Bool} {n:Nat} {ring:Bool} (h24:n≤24)
include h24
variable {t:List Int} (ht:t.length≤1048576) (hT:∀ p,p<n→decide ((p:Int) ∈ t)=!F p)
include ht hT
theorem f7 (h2:2≤n):Ev (fun k=>aX.f k n ring t) (eI (cd F n ring) n ring):=by
 have hl:=cz (cd F n ring) n
 have main:∀ d i,i+d=n→Ev (fun k=>aX.l0 k (bU (fun q=>!cd F n ring q) i) (bU (cd F n ring) n) i n ring t) (eI (cd F n ring) n ring):=by
  intro d
  induction d with
  | zero =>
   intro i hi
   have:i=n:=by omega
   subst this
   refine Ev.succ ?_
   simp only [aX.l0]
   refine Ev.neg (by omega) (Ev.have (by rw [cA.f]) ?_)
   dsimp only
   have hlen:=cz (fun q=>!cd F i ring q) i
   refine Ev.bind (fN h2 h24 (F:=cd F i ring) (by omega) (fun p hp=>?_) (fun x hx=>?_)) (Ev.now _)
   ·rw [Bool.eq_iff_iff,decide_eq_true_eq,b8]
    constructor
    ·rintro ⟨q,_,h,e⟩
     rw [show p=q from by omega]
     exact h
    ·intro h
     exact ⟨p,hp,h,rfl⟩
   ·obtain ⟨q,hq,_,e⟩:=(b8 _ _ _).1 hx
    omega
  | succ d ih =>
   intro i hi
   have go:=ih (i+1) (by omega)
   have hlen:=cz (fun q=>!cd F n ring q) i
   rw [fk] at go
   refine Ev.succ ?_
   simp only [aX.l0]
   refine Ev.pos (by omega) (Ev.bind (Ev.bound 100 fun k hk=>el _ _ (by omega) k (by omega)) ?_)
   have hm:decide ((i:Int) ∈ bU (cd F n ring) n)=cd F n ring i:=by
    rw [Bool.eq_iff_iff,decide_eq_true_eq,b8]
    constructor
    ·rintro ⟨q,_,h,e⟩
     rw [show i=q from by omega]
     exact h
    ·intro h
     exact ⟨i,by omega,h,rfl⟩
   rw [hm,bT (n:=100) (by omega) (by omega)]
   cases hL:cd F n ring i with
   | true =>
    rw [if_neg (by rw [hL];simp)] at go
    exact Ev.pos (by simp) go
   | false =>
    rw [if_pos (by rw [hL];rfl)] at go
    exact Ev.neg (by simp) (Ev.pos (by omega) go)
 unfold aX.f
 exact Ev.bind (gZ h24 ht hT) (main n 0 (by omega))
end
theorem gG (c:Nat→Bool) (j:Nat) (hj:c j=false):∀ f i,i≤j→j<i+f→cV c f i≤j
 | 0,i,h,h'=>by omega
 | f+1,i,h,h'=>by
  rw [cV]
  split
  ·rename_i hc
   have:i≠j:=fun e=>by rw [e,hj] at hc;exact absurd hc (by simp)
   exact gG c j hj f (i+1) (by omega) (by omega)
  ·exact h
theorem j8 (R:List S72) (i:Nat) (h:i<R.length):ci R (i:Int)=R[i]:=by
 unfold ci
 rw [Int.toNat_natCast]
 simp [List.getD,h]
section
variable {F:Nat→Bool} {n:Nat} {ring:Bool} (h2:2≤n) (h24:n≤24)
include h2 h24
theorem eB (hno:¬ (ring=true∧∀ p,p<n→F p=true)):∀ r ∈ eI F n ring,0≤r.f1∧r.f1≤24∧(ring=true→r.f1<n):=by
 unfold eI
 rw [if_neg hno]
 intro r hr
 obtain ⟨p,hp,e⟩:=List.mem_filterMap.1 hr
 have hp:=List.mem_range.1 hp
 unfold dJ at e
 split at e
 ·have e:=Option.some.inj e
  subst e
  have:cV (onB F n ring p) 60 0≤24∧(ring=true→cV (onB F n ring p) 60 0<n):=by
   cases ring with
   | false =>
    have:=gG (onB F n false p) (n - p) (by simp [onB];omega) 60 0 (by omega) (by omega)
    exact ⟨by omega,fun e=>absurd e (by simp)⟩
   | true =>
    have:∃ q,q<n∧F q=false:=by
     refine Classical.byContradiction fun e=>hno ⟨rfl,fun q hq=>?_⟩
     cases g:F q with
     | true=>rfl
     | false=>exact absurd ⟨q,hq,g⟩ e
    obtain ⟨q,hq,g⟩:=this
    have e:(p+if p≤q then q - p else q+n - p) % n=q:=by
     split
     ·rw [show p+(q - p)=q from by omega,Nat.mod_eq_of_lt hq]
     ·rw [show p+(q+n - p)=q+n from by omega,Nat.add_mod_right,Nat.mod_eq_of_lt hq]
    have hb:(if p≤q then q - p else q+n - p)<n:=by split <;> omega
    have:=gG (onB F n true p) (if p≤q then q - p else q+n - p) (by unfold onB;rw [e,g];rfl) 60 0 (by omega) (by omega)
    exact ⟨by omega,fun _=>by omega⟩
  dsimp only
  exact ⟨by omega,by omega,fun e=>by have:=this.2 e;omega⟩
 ·exact absurd e (by simp)
theorem g4:(eI F n ring).length≤24:=by
 unfold eI
 split
 ·simp
 ·have:=List.length_filterMap_le (dJ F n ring) (List.range n)
  rw [List.length_range] at this
  omega
end
def bZ (game:Int) (F:Nat→Bool) (n:Nat) (ring:Bool):Nat→Bool:=if game=1 then cd F n ring else F
theorem mW (n:Nat) (ring:Bool) (h24:n≤24):bY.f (n:Int) ring=some ((2 ^ n - 1:Nat):Int):=by
 unfold bY.f
 rw [if_pos (by omega),mO _ (by omega) (by omega),Int.toNat_natCast]
theorem g5 {game:Int} (hg:game=1 ∨ game=2) {F:Nat→Bool} {n:Nat} {ring:Bool} (h2:2≤n) (h24:n≤24) {S:Nat} (hlt:S<4294967296) (hS:∀ p,p<n→S.testBit p=!F p):Ev (fun k=>aQ.f k n ring (S:Int) game) (eI (bZ game F n ring) n ring,decide (ring=true∧∀ p,p<n→bZ game F n ring p=true)):=by
 have all:=mW n ring h24
 have hn2:2 ^ n≤2 ^ 24:=Nat.pow_le_pow_right (by omega) h24
 have core:∀ (G:Nat→Bool) (X:Nat),(∀ p,p<n→X.testBit p=G p)→(∀ p,n≤p→X.testBit p=false)→(((X:Int) == ((2 ^ n - 1:Nat):Int))=decide (∀ p,p<n→G p=true)):=by
  intro G X h1 h2'
  rw [Bool.eq_iff_iff,beq_iff_eq,decide_eq_true_eq,← n5 h1 h2']
  omega
 unfold aQ.f
 refine Ev.have all ?_
 have tail:∀ (G:Nat→Bool) (X:Nat),(∀ p,p<n→X.testBit p=G p)→(∀ p,n≤p→X.testBit p=false)→Ev (fun k=>(ac.f k n ring (X:Int)).bind fun t257=>(if ring=true then ((bY.f n ring).bind fun t260=>(some (t257,((X:Int) == t260)))) else (some (t257,false)))) (eI G n ring,decide (ring=true∧∀ p,p<n→G p=true)):=by
  intro G X h1 h2'
  refine Ev.bind (l7 h2 h24 h1 h2') ?_
  cases ring with
  | true =>
   refine Ev.pos rfl (Ev.have all ?_)
   rw [core G X h1 h2']
   refine Ev.same (Ev.now _) ?_
   simp
  | false =>
   refine Ev.neg (by simp) (Ev.same (Ev.now _) ?_)
   simp
 rcases hg with rfl|rfl
 ·refine Ev.pos rfl (Ev.bind (gY h24 hlt hS) ?_)
  refine tail (bZ 1 F n ring) _ (fun p hp=>?_) (fun p hp=>?_)
  ·rw [dL,decide_eq_true hp,Bool.true_and];rfl
  ·rw [dL,decide_eq_false (by omega),Bool.false_and]
 ·refine Ev.neg (by omega) ?_
  rw [mN _ _ (by omega) hlt]
  refine tail (bZ 2 F n ring) _ (fun p hp=>?_) (fun p hp=>?_)
  ·rw [fM,gt,decide_eq_true hp,hS p hp,Bool.true_and,Bool.not_not];rfl
  ·rw [fM,gt,decide_eq_false (by omega),Bool.false_and]
theorem ka {α:Type} {g:Nat→Option α} {r:α} (hm:∀ k,LeO (g k) (g (k+1))) (K:Nat) (h:g K=some r):Ev g r:=by
 have:∀ d,g (K+d)=some r:=by
  intro d
  induction d with
  | zero=>exact h
  | succ d ih=>exact hm (K+d) r ih
 exact ⟨K,fun k hk=>by rw [show k=K+(k - K) from by omega];exact this _⟩
def l8 (L:List Int) (R:List S72) (a:Int):Int:=R.foldl (fun a r=>Go.bits .xor .i64 a (rd L r.f1)) a
theorem lH (L:List Int) (R:List S72) (a:Int) (i:Nat) (h:i<R.length):l8 L (R.drop i) a=l8 L (R.drop (i+1)) (Go.bits .xor .i64 a (rd L (R[i]).f1)):=by
 unfold l8
 rw [List.drop_eq_getElem_cons h,List.foldl_cons]
theorem kB (L:List Int) (R:List S72) (hL:L.length=25) (hlen:R.length≤24) (game:Int) (n:Nat) (ring:Bool) (t:List Int) (hR:∀ r ∈ R,0≤r.f1∧r.f1≤24∧(ring=true→r.f1<n)) (d:Nat):∀ (i:Nat) (a:Int),i+d=R.length→Ev (fun k=>aj.l0 k game L R a i n ring t) (l8 L (R.drop i) a):=by
 induction d with
 | zero =>
  intro i a hi
  refine Ev.succ ?_
  simp only [aj.l0]
  rw [List.drop_of_length_le (by omega)]
  exact Ev.neg (by omega) (Ev.now _)
 | succ d ih =>
  intro i a hi
  have hm:=hR (R[i]'(by omega)) (List.getElem_mem _)
  have go:=ih (i+1) (Go.bits .xor .i64 a (rd L (R[i]'(by omega)).f1)) (by omega)
  rw [← lH L R a i (by omega)] at go
  refine Ev.succ ?_
  simp only [aj.l0]
  rw [j8 R i (by omega)]
  refine Ev.pos (by omega) (Ev.pos (by omega) (Ev.pos hm.1 (Ev.pos (by omega) ?_)))
  have step:Ev (fun k=>aj.j2 k game L R a i (rd L (R[i]'(by omega)).f1) false n ring t) (l8 L (R.drop i) a):=by
   refine Ev.succ ?_
   simp only [aj.j2]
   rw [bT (n:=100) (by omega) (by omega)]
   exact Ev.neg (by simp) go
  cases ring with
  | true =>
   rw [show ((R[i]'(by omega)).f1 == (n:Int))=false from beq_eq_false_iff_ne.2 (by have:=hm.2.2 rfl;omega)]
   exact Ev.pos rfl step
  | false=>exact Ev.neg (by simp) step
theorem kC (L:List Int) (R:List S72) (hL:L.length=25) (hlen:R.length≤24) (hR:∀ r ∈ R,0≤r.f1∧r.f1≤24) (d:Nat):∀ (i:Nat) (a:Int),i+d=R.length→Ev (fun k=>aV.l0 k L a R R.length i) (l8 L (R.drop i) a):=by
 induction d with
 | zero =>
  intro i a hi
  refine Ev.succ ?_
  simp only [aV.l0]
  rw [List.drop_of_length_le (by omega)]
  exact Ev.neg (by omega) (Ev.now _)
 | succ d ih =>
  intro i a hi
  have hm:=hR (R[i]'(by omega)) (List.getElem_mem _)
  have go:=ih (i+1) (Go.bits .xor .i64 a (rd L (R[i]'(by omega)).f1)) (by omega)
  rw [← lH L R a i (by omega)] at go
  refine Ev.succ ?_
  simp only [aV.l0]
  rw [j8 R i (by omega),bT (n:=100) (by omega) (by omega)]
  exact Ev.pos (by omega) (Ev.pos (by omega) (Ev.pos (by omega) (Ev.pos hm.1 (Ev.pos (by omega) go))))
def iE (game:Int):Nat:=if game=1 then 3 else 2
def je (L:List Int) (game:Int) (F:Nat→Bool) (n:Nat) (ring:Bool):Int :=
 if ring=true∧∀ p,p<n→bZ game F n ring p=true then (if rd L ((n - iE game:Nat):Int)=0 then 1 else 0) else l8 L (eI (bZ game F n ring) n ring) 0
theorem iF (v:Int):Ev (fun k=>aZ.f k [v]) (if v=0 then 1 else 0):=by
 have has:∀ p,Ev (fun k=>bo.f k [v] p) (decide (p ∈ [v])):=fun p=>Ev.bound 10 fun k hk=>el _ _ (by simp) k (by simp;omega)
 unfold aZ.f
 by_cases h:v=0
 ·subst h
  rw [if_pos rfl]
  refine Ev.succ ?_
  simp only [aZ.l0]
  refine Ev.bind (has 0) (Ev.pos (by simp) (Ev.succ ?_))
  simp only [aZ.l0]
  rw [show wrap64 (0+1)=1 from by rw [cm (by omega) (by omega)];rfl]
  exact Ev.bind (has 1) (Ev.neg (by decide) (Ev.now _))
 ·rw [if_neg h]
  refine Ev.succ ?_
  simp only [aZ.l0]
  exact Ev.bind (has 0) (Ev.neg (by simp;omega) (Ev.now _))
theorem kD (x:Int) (h:x=0 ∨ x=1):Go.bits .xor .i64 0 x=x:=by
 rcases h with rfl|rfl <;> decide
section
variable {L:List Int} (hL:L.length=25) {game:Int} (hg:game=1 ∨ game=2) {F:Nat→Bool} {n:Nat} {ring:Bool} (h2:2≤n) (h24:n≤24) (h3:ring=true→3≤n)
include hL hg h2 h24 h3
theorem kE {t:List Int} (ht:t.length≤1048576) (hT:∀ p,p<n→decide ((p:Int) ∈ t)=!F p) (hin:∀ x ∈ t,0≤x∧x<n) (eL:Ev (fun k=>ay.f k game) L):Ev (fun k=>aj.f k n ring t game) (je L game F n ring):=by
 have main:Ev (fun k=>aj.j0 k game L (eI (bZ game F n ring) n ring) n ring t) (je L game F n ring):=by
  refine Ev.succ ?_
  simp only [aj.j0]
  unfold je
  by_cases hw:ring=true∧∀ p,p<n→bZ game F n ring p=true
  ·rw [if_pos hw]
   have e:eI (bZ game F n ring) n ring=[⟨0,n⟩]:=if_pos hw
   rw [e]
   have h3:=h3 hw.1
   have small:(if rd L ((n - iE game:Nat):Int)=0 then (1:Int) else 0)=0 ∨ (if rd L ((n - iE game:Nat):Int)=0 then (1:Int) else 0)=1:=by
    split
    ·exact .inr rfl
    ·exact .inl rfl
   refine Ev.succ ?_
   simp only [aj.l0]
   refine Ev.pos (by simp) (Ev.pos (by omega) ?_)
   rw [show ci [(⟨0,n⟩:S72)] 0=⟨0,n⟩ from rfl]
   dsimp only
   refine Ev.pos (by omega) (Ev.pos (by omega) (Ev.pos hw.1 (Ev.succ ?_)))
   simp only [aj.j2]
   refine Ev.pos (by simp) ?_
   have fin:Ev (fun k=>aj.l0 k game L [(⟨0,n⟩:S72)] (Go.bits .xor .i64 0 (if rd L ((n - iE game:Nat):Int)=0 then (1:Int) else 0)) (wrap64 (0+1)) n ring t) (if rd L ((n - iE game:Nat):Int)=0 then (1:Int) else 0):=by
    rw [kD _ small]
    refine Ev.succ ?_
    simp only [aj.l0]
    exact Ev.neg (by rw [cm (by omega) (by omega)];simp) (Ev.now _)
   rcases hg with rfl|rfl
   ·refine Ev.neg (by omega) ?_
    have e3:(n:Int) - 3=((n - iE 1:Nat):Int):=by show _=((n - 3:Nat):Int);omega
    rw [cm (by omega) (by omega),e3]
    exact Ev.pos (by omega) (Ev.pos (by omega) (Ev.bind (iF _) fin))
   ·refine Ev.pos rfl ?_
    have e3:(n:Int) - 2=((n - iE 2:Nat):Int):=by show _=((n - 2:Nat):Int);omega
    rw [cm (by omega) (by omega),e3]
    exact Ev.pos (by omega) (Ev.pos (by omega) (Ev.bind (iF _) fin))
  ·rw [if_neg hw]
   have:=kB L _ hL (g4 h2 h24 (F:=bZ game F n ring) (ring:=ring)) game n ring t (eB h2 h24 hw) _ 0 0 (Nat.zero_add _)
   rw [List.drop_zero] at this
   exact this
 unfold aj.f
 refine Ev.bind eL (Ev.bind (fN h2 h24 ht hT hin) ?_)
 rcases hg with rfl|rfl
 ·exact Ev.pos rfl (Ev.bind (f7 h24 ht hT h2) main)
 ·exact Ev.neg (by omega) main
theorem kF {S:Nat} (hlt:S<4294967296) (hS:∀ p,p<n→S.testBit p=!F p) (eL:Ev (fun k=>an.f k game) L):Ev (fun k=>aV.f k n ring (S:Int) game) (je L game F n ring):=by
 have pieces:=g5 hg h2 h24 (ring:=ring) hlt hS
 unfold aV.f
 refine Ev.bind eL (Ev.bind pieces ?_)
 dsimp only
 unfold je
 by_cases hw:ring=true∧∀ p,p<n→bZ game F n ring p=true
 ·rw [if_pos hw]
  have h3:=h3 hw.1
  refine Ev.pos (decide_eq_true hw) ?_
  have fin:∀ v:Int,Ev (fun _=>if v=0 then some (1:Int) else some 0) (if v=0 then 1 else 0):=fun v=>by
   by_cases h:v=0
   ·exact Ev.same (Ev.pos h (Ev.now _)) (if_pos h).symm
   ·exact Ev.same (Ev.neg h (Ev.now _)) (if_neg h).symm
  rcases hg with rfl|rfl
  ·have e3:(n:Int) - 3=((n - iE 1:Nat):Int):=by show _=((n - 3:Nat):Int);omega
   rw [cm (by omega) (by omega),e3]
   exact Ev.pos rfl (Ev.pos (by omega) (Ev.pos (by omega) (fin _)))
  ·have e3:(n:Int) - 2=((n - iE 2:Nat):Int):=by show _=((n - 2:Nat):Int);omega
   refine Ev.neg (by omega) ?_
   rw [cm (x:=(n:Int) - 2) (by omega) (by omega),e3]
   exact Ev.pos (by omega) (Ev.pos (by omega) (fin _))
 ·rw [if_neg hw]
  refine Ev.neg (by rw [decide_eq_true_eq];exact hw) ?_
  have:=kC L _ hL (g4 h2 h24 (F:=bZ game F n ring) (ring:=ring)) (fun r hr=>⟨(eB h2 h24 hw r hr).1,(eB h2 h24 hw r hr).2.1⟩) _ 0 0 (Nat.zero_add _)
  rw [List.drop_zero] at this
  exact this
end
def L1:List Int:=[0,1,1,2,0,3,1,1,0,3,3,2,2,4,0,5,2,2,3,3,0,1,1,3,0]
def L2:List Int:=[0,0,1,1,2,0,3,1,1,0,3,3,2,2,4,0,5,2,2,3,3,0,1,1,3]
def LG (game:Int):List Int:=if game=1 then L1 else L2
theorem pC (game:Int):(LG game).length=25:=by unfold LG;split <;> rfl
theorem lh (game:Int) (hg:game=1 ∨ game=2):Ev (fun k=>ay.f k game) (LG game):=by
 rcases hg with rfl|rfl
 ·exact ka (ay.mono _) 3000 (by decide +kernel)
 ·exact ka (ay.mono _) 3000 (by decide +kernel)
theorem ll (game:Int) (hg:game=1 ∨ game=2):Ev (fun k=>an.f k game) (LG game):=by
 rcases hg with rfl|rfl
 ·exact ka (an.mono _) 3000 (by decide +kernel)
 ·exact ka (an.mono _) 3000 (by decide +kernel)
theorem fl {s:Int} {ring:Bool} {t:List Int} (h:cn s ring t) (g:Int) (hg:g=1 ∨ g=2):Ev (fun k=>aj.f k s ring t g) (je (LG g) g (az t) s.toNat ring)∧Ev (fun k=>aV.f k s ring ((cF t:Nat):Int) g) (je (LG g) g (az t) s.toNat ring):=by
 obtain ⟨n,rfl,h2,h24,h3,hin⟩:=dW h
 have hl:=dk _ ring t h
 exact ⟨kE (pC g) hg h2 h24 h3 (by omega) (fun p _=>by unfold az;simp) hin (lh g hg),
  kF (pC g) hg h2 h24 h3 (f6 _ ring t h).2 (fun p _=>fQ (fun x hx=>(hin x hx).1) p) (ll g hg)⟩
open Classical in
theorem iT (s:Int) (ring:Bool) (t:List Int) (ht:t.length≤1048576) (g:Int):∃ r:Int × Bool,Ev (fun k=>a9.f k s ring t g) r∧((¬ (cn s ring t∧1≤g∧g≤2)→r=(0,false))∧(cn s ring t∧1≤g∧g≤2→r=(je (LG g) g (az t) s.toNat ring,true))):=by
 unfold a9.f
 by_cases h:cn s ring t∧1≤g∧g≤2
 ·refine ⟨(je (LG g) g (az t) s.toNat ring,true),Ev.bind (bI s ring t ht g) (Ev.pos (decide_eq_true h) (Ev.have rfl (Ev.bind (Ev.bound t.length fun k hk=>cO s ring t h.1 k hk) ?_))),fun e=>absurd h e,fun _=>rfl⟩
  exact Ev.bind (fl h.1 g (by omega)).2 (Ev.now _)
 ·exact ⟨(0,false),Ev.bind (bI s ring t ht g) (Ev.neg (by rw [decide_eq_true_eq];exact h) (Ev.now _)),fun _=>rfl,fun e=>absurd e h⟩
def dT (G:Nat→Bool) (n z:Nat):List Bool:=(List.range n).map fun j=>G ((z+1+j) % n)
theorem fR (G:Nat→Bool) (n z:Nat):(dT G n z).length=n:=by unfold dT;simp
theorem fm (G:Nat→Bool) (n z j:Nat) (h:j<n):(dT G n z)[j]?=some (G ((z+1+j) % n)):=by
 unfold dT
 rw [List.getElem?_map,List.getElem?_range h]
 rfl
theorem kG (c H:Nat→Bool):∀ (d f i a:Nat),d<f→(∀ j,j<d→c (i+j)=H (a+j))→(c (i+d)=false ∨ ∃ j,j<d∧H (a+j)=false)→cV c f i=i+gn ((List.range' a d).map H)
 | 0,0,i,a,h,_,_=>by omega
 | 0,f+1,i,a,_,_,h=>by
  rcases h with h|⟨j,hj,_⟩
  ·rw [cV,show i=i+0 from rfl,h];rfl
  ·omega
 | d+1,0,i,a,h,_,_=>by omega
 | d+1,f+1,i,a,hf,hc,h=>by
  have h0:c i=H a:=hc 0 (by omega)
  rw [cV,h0,List.range'_succ,List.map_cons]
  cases hb:H a with
  | false=>rfl
  | true =>
   have ih:=kG c H d f (i+1) (a+1) (by omega) (fun j hj=>by rw [show i+1+j=i+(j+1) from by omega,show a+1+j=a+(j+1) from by omega];exact hc (j+1) (by omega)) (by
    rcases h with h|⟨j,hj,e⟩
    ·exact .inl (by rw [show i+1+d=i+(d+1) from by omega];exact h)
    ·match j with
     | 0=>rw [Nat.add_zero,hb] at e;cases e
     | j+1=>exact .inr ⟨j,by omega,by rw [show a+1+j=a+(j+1) from by omega];exact e⟩)
   rw [if_pos rfl,ih]
   show _=i+(gn _+1)
   omega
theorem jP {α:Type} (g:Nat→α) (e:α) (H:Nat→Bool):∀ (d a:Nat) (prev:Bool),iO g e prev ((List.range' a d).map H)=(List.range' a d).map fun j=>if (H j && !(if j=a then prev else H (j - 1)))=true then g (gn ((List.range' j (a+d - j)).map H)) else e
 | 0,a,prev=>rfl
 | d+1,a,prev=>by
  have ih:=jP g e H d (a+1) (H a)
  rw [List.range'_succ,List.map_cons,List.map_cons]
  show (if (H a && !prev)=true then g (gn (H a :: (List.range' (a+1) d).map H)) else e) :: iO g e (H a) ((List.range' (a+1) d).map H)=_
  rw [ih,if_pos rfl,show a+(d+1) - a=d+1 from by omega,List.range'_succ,List.map_cons]
  congr 1
  refine List.map_congr_left fun j hj=>?_
  have hj:=List.mem_range'_1.1 hj
  rw [if_neg (show ¬ j=a from by omega),show a+1+d - j=a+(d+1) - j from by omega]
  by_cases c:j=a+1
  ·subst c;rw [if_pos rfl,show a+1 - 1=a from by omega]
  ·rw [if_neg c]
def gA (G:Nat→Bool) (n:Nat) (ring:Bool) (z:Nat):Prop:=z<n∧(ring=true→G z=false)∧(ring=false→z+1=n)
theorem qg {α:Type} (g:Nat→α) (e:α) {G:Nat→Bool} {n:Nat} {ring:Bool} {z:Nat} (h24:n≤24) (hz:gA G n ring z) (j:Nat) (hj:j<n) :
  (if d8 G n ring ((z+1+j) % n)=true then g (cV (onB G n ring ((z+1+j) % n)) 60 0) else e)=if (G ((z+1+j) % n) && !(if j=0 then false else G ((z+1+(j - 1)) % n)))=true then g (gn ((List.range' j (0+n - j)).map fun j=>G ((z+1+j) % n))) else e:=by
 obtain ⟨hz0,hz1,hz2⟩:=hz
 have es:d8 G n ring ((z+1+j) % n)=(G ((z+1+j) % n) && !(if j=0 then false else G ((z+1+(j - 1)) % n))):=by
  unfold d8
  congr 2
  cases ring with
  | true =>
   rw [Bool.true_or,Bool.and_true]
   by_cases c:j=0
   ·subst c
    rw [if_pos rfl,show ((z+1+0) % n+n - 1) % n=z from ?_]
    ·exact hz1 rfl
    ·by_cases c:z+1=n
     ·rw [show z+1+0=n from by omega,Nat.mod_self,Nat.mod_eq_of_lt (by omega)];omega
     ·rw [Nat.add_zero,Nat.mod_eq_of_lt (show z+1<n from by omega),show z+1+n - 1=z+n from by omega,Nat.add_mod_right,Nat.mod_eq_of_lt hz0]
   ·rw [if_neg c]
    have:((z+1+j) % n+n - 1) % n=(z+1+(j - 1)) % n:=by
     have h1:(z+1+j) % n+n - 1=(z+1+j) % n+(n - 1):=by omega
     rw [h1,Nat.mod_add_mod,show z+1+j+(n - 1)=z+1+(j - 1)+n from by omega,Nat.add_mod_right]
    rw [this]
  | false =>
   have hz:=hz2 rfl
   rw [show z+1+j=j+n from by omega,Nat.add_mod_right,Nat.mod_eq_of_lt hj]
   by_cases c:j=0
   ·subst c;simp
   ·rw [if_neg c,Bool.false_or,decide_eq_true (show 0<j from by omega),Bool.and_true,show j+n - 1=(j - 1)+n from by omega,show z+1+(j - 1)=(j - 1)+n from by omega]
 rw [es]
 by_cases hs:(G ((z+1+j) % n) && !(if j=0 then false else G ((z+1+(j - 1)) % n)))=true
 ·rw [if_pos hs,if_pos hs]
  congr 1
  have:=kG (onB G n ring ((z+1+j) % n)) (fun j=>G ((z+1+j) % n)) (0+n - j) 60 0 j (by omega) (fun i hi=>by
   unfold onB
   rw [Nat.mod_add_mod,Nat.zero_add,Nat.add_assoc (z+1)]
   cases ring with
   | true=>rw [Bool.true_or,Bool.and_true]
   | false =>
    have hz:=hz2 rfl
    rw [show z+1+j=j+n from by omega,Nat.add_mod_right,Nat.mod_eq_of_lt hj,decide_eq_true (show j+i<n from by omega),Bool.or_true,Bool.and_true]) (by
   cases ring with
   | true =>
    refine .inr ⟨n - 1 - j,by omega,?_⟩
    show G ((z+1+(j+(n - 1 - j))) % n)=false
    rw [show z+1+(j+(n - 1 - j))=z+n from by omega,Nat.add_mod_right,Nat.mod_eq_of_lt hz0]
    exact hz1 rfl
   | false =>
    have hz:=hz2 rfl
    refine .inl ?_
    unfold onB
    rw [show z+1+j=j+n from by omega,Nat.add_mod_right,Nat.mod_eq_of_lt hj,decide_eq_false (show ¬ j+(0+(0+n - j))<n from by omega)]
    simp)
  rw [this,Nat.zero_add]
 ·rw [if_neg hs,if_neg hs]
theorem jv {α:Type} {g:Nat→α} {op:α→α→α} {e:α} (J:Joins op e) (g0:g 0=e) {G:Nat→Bool} {n:Nat} {ring:Bool} {z:Nat} (h24:n≤24) (hz:gA G n ring z) :
  ((List.range n).map fun p=>if d8 G n ring p=true then g (cV (onB G n ring p) 60 0) else e).foldr op e=dA g op 0 (dT G n z):=by
 rw [nl J g0]
 unfold dT
 rw [List.range_eq_range',jP]
 have hp:=(py n z hz.1).map fun p=>if d8 G n ring p=true then g (cV (onB G n ring p) 60 0) else e
 rw [← List.range_eq_range',oz J hp.symm,List.map_map]
 congr 1
 refine List.map_congr_left fun j hj=>?_
 exact qg g e h24 hz j (List.mem_range.1 hj)
theorem il {α:Type} (g:Nat→α) (op:α→α→α) (e:α) (unit:∀ a,op e a=a) (G:Nat→Bool) (n:Nat) (ring:Bool):∀ l:List Nat,(l.map fun p=>if d8 G n ring p=true then g (cV (onB G n ring p) 60 0) else e).foldr op e=((l.filterMap (dJ G n ring)).map fun r=>g r.f1.toNat).foldr op e
 | []=>rfl
 | p :: l=>by
  have ih:=il g op e unit G n ring l
  rw [List.map_cons,List.foldr_cons,ih]
  by_cases c:d8 G n ring p=true
  ·have h:dJ G n ring p=some ⟨p,(cV (onB G n ring p) 60 0:Nat)⟩:=by unfold dJ;rw [if_pos c]
   rw [if_pos c,List.filterMap_cons_some h,List.map_cons,List.foldr_cons]
   rfl
  ·have h:dJ G n ring p=none:=by unfold dJ;rw [if_neg c]
   rw [if_neg c,List.filterMap_cons_none h,unit]
theorem g6 {n:Nat} {ring:Bool} {p q:Nat} (hp:p<n) (hq:q<n) (h3:ring=true→3≤n):dI n ring p q=true ↔ (q=p+1 ∨ p=q+1 ∨ (ring=true∧(p=0∧q+1=n ∨ q=0∧p+1=n))):=by
 unfold dI mP
 rw [decide_eq_true_eq]
 cases ring with
 | true =>
  have h3:=h3 rfl
  refine Iff.trans (b:=(q=p+1 ∨ p=q+1 ∨ (p=0∧q+1=n ∨ q=0∧p+1=n))) ?_ (by simp)
  rw [if_pos rfl]
  split <;> split <;> omega
 | false =>
  refine Iff.trans (b:=(q=p+1 ∨ p=q+1)) ?_ (by simp)
  rw [if_neg (by simp)]
  split <;> omega
theorem gu {n z j k:Nat} (hj:j<n) (hk:k<n) (h:(z+1+j) % n=(z+1+k) % n):j=k:=by
 have e1:=Nat.div_add_mod (z+1+j) n
 have e2:=Nat.div_add_mod (z+1+k) n
 have:n * ((z+1+j) / n)<n * ((z+1+k) / n)+n∧n * ((z+1+k) / n)<n * ((z+1+j) / n)+n:=by omega
 have h1:(z+1+j) / n<(z+1+k) / n+1:=Nat.lt_of_mul_lt_mul_left (a:=n) (by rw [Nat.mul_add];omega)
 have h2:(z+1+k) / n<(z+1+j) / n+1:=Nat.lt_of_mul_lt_mul_left (a:=n) (by rw [Nat.mul_add];omega)
 have:(z+1+j) / n=(z+1+k) / n:=by omega
 rw [this] at e1
 omega
theorem pD {n z p:Nat} (hz:z<n) (hp:p<n):∃ k,k<n∧p=(z+1+k) % n:=by
 by_cases c:z<p
 ·exact ⟨p - z - 1,by omega,by rw [show z+1+(p - z - 1)=p from by omega,Nat.mod_eq_of_lt hp]⟩
 ·exact ⟨p+n - z - 1,by omega,by rw [show z+1+(p+n - z - 1)=p+n from by omega,Nat.add_mod_right,Nat.mod_eq_of_lt hp]⟩
theorem f9 {n z k:Nat}:((z+1+k) % n+1) % n=(z+1+(k+1)) % n:=by rw [Nat.mod_add_mod,Nat.add_assoc]
theorem oD {game:Int} (hg:game=1 ∨ game=2) {n:Nat} {ring:Bool} {t:List Int} {p:Nat} (h2:2≤n) (hp:p<n) (hM:bB game (az t) n ring p=true) (q:Nat):az (cM game n t p) q=(az t q && !decide (q=p) && !(decide (game≠1) && decide (q=(p+1) % n))):=by
 obtain ⟨f1,f2⟩:=iS hg h2 hp hM
 unfold az cM
 rw [Bool.eq_iff_iff]
 rcases hg with rfl|rfl
 ·rw [if_neg (by decide)]
  have:=fp t p q f1
  simp only [Bool.not_eq_true',decide_eq_false_iff_not,Bool.and_eq_true,this]
  grind
 ·rw [if_pos rfl]
  have h1:=fp t p q f1
  have h2:=fp (gP t p) (((p+1) % n:Nat):Int) q (f2 rfl)
  simp only [Bool.not_eq_true',decide_eq_false_iff_not,Bool.and_eq_true,h2,h1]
  simp only [not_or,Int.natCast_inj]
  grind
section
variable {game:Int} (hg:game=1 ∨ game=2) {n:Nat} {ring:Bool} {t:List Int} (h2:2≤n) (h3:ring=true→3≤n)
include hg h2 h3
omit h3 in
theorem jw {p:Nat} (hp:p<n) (hM:bB game (az t) n ring p=true) (q:Nat):bZ game (az (cM game n t p)) n ring q=(bZ game (az t) n ring q && !decide (q=p) && !(if game=1 then dI n ring q p else decide (q=(p+1) % n))):=by
 have hf:=oD hg h2 hp hM
 have hpf:az t p=true:=by
  rcases hg with rfl|rfl
  ·have h:cd (az t) n ring p=true:=hM
   unfold cd at h
   exact (Bool.and_eq_true_iff.1 h).1
  ·have h:(az t p && az t ((p+1) % n) && (ring || decide (p+1<n)))=true:=hM
   exact (Bool.and_eq_true_iff.1 (Bool.and_eq_true_iff.1 h).1).1
 rcases hg with rfl|rfl
 ·show cd _ n ring q=(cd _ n ring q && _ && _)
  rw [if_pos rfl]
  unfold cd
  rw [hf q,Bool.eq_iff_iff]
  simp only [Bool.and_eq_true,gy,Bool.or_eq_true,Bool.not_eq_true',decide_eq_false_iff_not]
  have hx:∀ x,az (cM 1 n t p) x=true ↔ az t x=true∧x≠p:=fun x=>by rw [hf x];simp
  simp only [hx]
  constructor
  ·rintro ⟨⟨⟨a,b⟩,_⟩,c⟩
   refine ⟨⟨⟨a,fun x hx=>(c x hx).imp id fun e=>e.1⟩,b⟩,?_⟩
   rcases c p hp with e|e
   ·exact e
   ·exact absurd rfl e.2
  ·rintro ⟨⟨⟨a,c⟩,b⟩,d⟩
   refine ⟨⟨⟨a,b⟩,by simp⟩,fun x hx=>?_⟩
   rcases c x hx with e|e
   ·exact .inl e
   ·by_cases g:x=p
    ·rw [g];exact .inl d
    ·exact .inr ⟨e,g⟩
 ·show az _ q=(az _ q && _ && _)
  rw [if_neg (by decide),hf q]
  simp
omit hg in
theorem oE {z j k:Nat} (hz:gA (bZ game (az t) n ring) n ring z) (hj:j<n) (hk:k<n) (hj':ring=true→j+1<n) (hk':ring=true→k+1<n):dI n ring ((z+1+j) % n) ((z+1+k) % n)=true ↔ (k=j+1 ∨ j=k+1):=by
 obtain ⟨hz0,hz1,hz2⟩:=hz
 have hn:0<n:=by omega
 have a1:(z+1+j) % n<n:=Nat.mod_lt _ hn
 have a2:(z+1+k) % n<n:=Nat.mod_lt _ hn
 rw [g6 a1 a2 h3]
 cases ring with
 | false =>
  have hz:=hz2 rfl
  rw [show z+1+j=j+n from by omega,show z+1+k=k+n from by omega,Nat.add_mod_right,Nat.add_mod_right,Nat.mod_eq_of_lt hj,Nat.mod_eq_of_lt hk]
  simp
 | true =>
  have hj':=hj' rfl
  have hk':=hk' rfl
  have key:∀ a b:Nat,a+1<n→b<n→((z+1+b) % n=(z+1+a) % n+1 ∨ (z+1+b) % n=0∧(z+1+a) % n+1=n ↔ b=a+1):=by
   intro a b ha hb
   have c1:(z+1+a) % n<n:=Nat.mod_lt _ hn
   have e:((z+1+b) % n=(z+1+a) % n+1 ∨ (z+1+b) % n=0∧(z+1+a) % n+1=n) ↔ (z+1+b) % n=((z+1+a) % n+1) % n:=by
    have c2:(z+1+b) % n<n:=Nat.mod_lt _ hn
    by_cases c:(z+1+a) % n+1=n
    ·rw [c,Nat.mod_self];omega
    ·rw [Nat.mod_eq_of_lt (show (z+1+a) % n+1<n from by omega)];omega
   rw [e,f9]
   exact ⟨fun h=>gu hb ha h,fun h=>by rw [h]⟩
  have k1:=key j k hj' hk
  have k2:=key k j hk' hj
  rw [← k1,← k2]
  grind
omit hg h2 h3 in
theorem kH {z k:Nat} (hz:gA (bZ game (az t) n ring) n ring z) (hk:k<n) (hG:ring=true→bZ game (az t) n ring ((z+1+k) % n)=true):ring=true→k+1<n:=by
 intro hr
 refine Classical.byContradiction fun c=>?_
 have:=hz.2.1 hr
 have e:(z+1+k) % n=z:=by rw [show z+1+k=z+n from by omega,Nat.add_mod_right,Nat.mod_eq_of_lt hz.1]
 have h:=hG hr
 rw [e,this] at h
 cases h
omit h2 h3 in
theorem oF {p:Nat} (hM:bB game (az t) n ring p=true):bZ game (az t) n ring p=true∧(game≠1→bZ game (az t) n ring ((p+1) % n)=true∧(ring=true ∨ p+1<n)):=by
 rcases hg with rfl|rfl
 ·exact ⟨hM,fun e=>absurd rfl e⟩
 ·have h:(az t p && az t ((p+1) % n) && (ring || decide (p+1<n)))=true:=hM
  obtain ⟨a,b⟩:=Bool.and_eq_true_iff.1 h
  obtain ⟨a,c⟩:=Bool.and_eq_true_iff.1 a
  exact ⟨a,fun _=>⟨c,by simpa using b⟩⟩
theorem kI {z k:Nat} (hz:gA (bZ game (az t) n ring) n ring z) (hk:k<n) (hM:bB game (az t) n ring ((z+1+k) % n)=true):kV game (dT (bZ game (az t) n ring) n z) k∧dT (bZ game (az (cM game n t ((z+1+k) % n))) n ring) n z=fx game (dT (bZ game (az t) n ring) n z) k:=by
 have hp:(z+1+k) % n<n:=Nat.mod_lt _ (by omega)
 obtain ⟨m1,m2⟩:=oF hg hM
 have hk1:=kH hz hk fun _=>m1
 have hk2:game≠1→k+1<n:=fun e=>by
  rcases (m2 e).2 with hr|hr
  ·exact hk1 hr
  ·refine Classical.byContradiction fun c=>?_
   cases ring with
   | true=>exact c (hk1 rfl)
   | false =>
    have:=hz.2.2 rfl
    rw [show z+1+k=k+n from by omega,Nat.add_mod_right,Nat.mod_eq_of_lt hk] at hr
    omega
 refine ⟨⟨by rw [fm _ _ _ _ hk,m1],fun e=>by rw [fm _ _ _ _ (hk2 e),← f9,(m2 e).1]⟩,?_⟩
 refine List.ext_getElem? fun j=>?_
 by_cases hj:j<n
 ·have hjn:(z+1+j) % n<n:=Nat.mod_lt _ (by omega)
  rw [fm _ _ _ _ hj,jw hg h2 hp hM _]
  have ejk:decide ((z+1+j) % n=(z+1+k) % n)=decide (j=k):=by rw [decide_eq_decide];exact ⟨fun h=>gu hj hk h,fun h=>by rw [h]⟩
  rw [ejk]
  have hlen:=fR (bZ game (az t) n ring) n z
  have hget:=fm (bZ game (az t) n ring) n z j hj
  unfold fx
  by_cases g1:game=1
  ·rw [if_pos g1,if_pos g1,List.getElem?_set,List.getElem?_set,List.getElem?_set,hget]
   simp only [List.length_set,hlen]
   cases hG:bZ game (az t) n ring ((z+1+j) % n) with
   | false =>
    rw [Bool.false_and,Bool.false_and]
    repeat' split
    all_goals first|rfl|omega
   | true =>
    have hj1:=kH hz hj fun _=>hG
    have hnr:=oE h2 h3 hz hj hk hj1 hk1
    rw [Bool.true_and]
    by_cases c1:k+1=j
    ·rw [if_pos c1,if_pos (by omega),hnr.2 (.inr c1.symm)];simp
    ·rw [if_neg c1]
     by_cases c2:k=j
     ·rw [if_pos c2,if_pos (by omega),decide_eq_true c2.symm];rfl
     ·rw [if_neg c2]
      have c2':decide (j=k)=false:=decide_eq_false fun e=>c2 e.symm
      by_cases c3:k - 1=j
      ·rw [if_pos c3,if_pos (by omega),hnr.2 (.inl (by omega))];simp
      ·rw [if_neg c3,c2',show dI n ring ((z+1+j) % n) ((z+1+k) % n)=false from Bool.eq_false_iff.2 fun e=>by have:=hnr.1 e;omega]
       rfl
  ·have hk2:=hk2 g1
   have ejk2:decide ((z+1+j) % n=((z+1+k) % n+1) % n)=decide (j=k+1):=by rw [decide_eq_decide,f9];exact ⟨fun h=>gu hj hk2 h,fun h=>by rw [h]⟩
   rw [if_neg g1,if_neg g1,List.getElem?_set,List.getElem?_set,hget,ejk2]
   simp only [List.length_set,hlen]
   by_cases c1:k+1=j
   ·rw [if_pos c1,if_pos (by omega),decide_eq_true c1.symm];simp
   ·rw [if_neg c1,decide_eq_false (show ¬ j=k+1 from fun e=>c1 e.symm)]
    by_cases c2:k=j
    ·rw [if_pos c2,if_pos (by omega),decide_eq_true c2.symm];simp
    ·rw [if_neg c2,decide_eq_false (show ¬ j=k from fun e=>c2 e.symm)];simp
 ·have l1:=fR (bZ game (az (cM game n t ((z+1+k) % n))) n ring) n z
  have l2:(fx game (dT (bZ game (az t) n ring) n z) k).length=n:=by
   unfold fx
   split <;> simp [fR]
  rw [List.getElem?_eq_none (by omega),List.getElem?_eq_none (by omega)]
omit hg h2 h3 in
theorem kJ {z k:Nat} (hz:gA (bZ game (az t) n ring) n ring z) (hc:kV game (dT (bZ game (az t) n ring) n z) k):k<n∧bB game (az t) n ring ((z+1+k) % n)=true:=by
 obtain ⟨c1,c2⟩:=hc
 have hlt:∀ j,(dT (bZ game (az t) n ring) n z)[j]?=some true→j<n:=fun j h=>by
  have:=(List.getElem?_eq_some_iff.1 h).1
  rwa [fR] at this
 have hk:=hlt k c1
 rw [fm _ _ _ _ hk] at c1
 have c1:=Option.some.inj c1
 refine ⟨hk,?_⟩
 unfold bB
 by_cases g1:game=1
 ·subst g1
  exact c1
 ·rw [if_neg g1]
  have c2:=c2 g1
  have hk1:=hlt _ c2
  rw [fm _ _ _ _ hk1,← f9] at c2
  have c2:=Option.some.inj c2
  unfold bZ at c1 c2
  rw [if_neg g1] at c1 c2
  rw [c1,c2]
  cases ring with
  | true=>rfl
  | false =>
   have:=hz.2.2 rfl
   rw [show z+1+k=k+n from by omega,Nat.add_mod_right,Nat.mod_eq_of_lt hk,decide_eq_true hk1]
   rfl
omit h3 in
theorem lI {z p:Nat} (hz:gA (bZ game (az t) n ring) n ring z) (hp:p<n) (hM:bB game (az t) n ring p=true):gA (bZ game (az (cM game n t p)) n ring) n ring z:=by
 refine ⟨hz.1,fun hr=>?_,hz.2.2⟩
 rw [jw hg h2 hp hM z,hz.2.1 hr]
 rfl
end
def pE {α:Type} (g:Nat→α) (op:α→α→α) (e:α) (G:Nat→Bool) (n:Nat) (ring:Bool):α:=((List.range n).map fun p=>if d8 G n ring p=true then g (cV (onB G n ring p) 60 0) else e).foldr op e
def fB (G:Nat→Bool) (n:Nat) (ring:Bool):Prop:=ring=true∧∀ p,p<n→G p=true
theorem mX {G:Nat→Bool} {n:Nat} {ring:Bool} (h2:2≤n) (hno:¬ fB G n ring):∃ z,gA G n ring z:=by
 cases ring with
 | false=>exact ⟨n - 1,by omega,by simp,fun _=>by omega⟩
 | true =>
  refine Classical.byContradiction fun h=>hno ⟨rfl,fun p hp=>?_⟩
  cases e:G p with
  | true=>rfl
  | false=>exact absurd ⟨p,hp,fun _=>e,by simp⟩ h
def dK (game:Int):Nat:=if game=1 then 3 else 2
open Classical in
noncomputable def dN (game:Int) (F:Nat→Bool) (n:Nat) (ring:Bool):Nat :=
 if fB (bZ game F n ring) n ring then (if LN game (n - dK game)=0 then 1 else 0) else pE (LN game) (fun a b=>a ^^^ b) 0 (bZ game F n ring) n ring
open Classical in
noncomputable def g7 (game:Int) (F:Nat→Bool) (n:Nat) (ring:Bool):Nat:=if fB (bZ game F n ring) n ring then (n+2) / 3 else pE (fL game) (fun a b=>a+b) 0 (bZ game F n ring) n ring
open Classical in
noncomputable def fI (game:Int) (F:Nat→Bool) (n:Nat) (ring:Bool):Nat:=if fB (bZ game F n ring) n ring then n / 2 else pE (eO game) (fun a b=>a+b) 0 (bZ game F n ring) n ring
theorem sj {game:Int} (hg:game=1 ∨ game=2):fL game 0=0:=by rcases hg with rfl|rfl <;> rfl
theorem rF {game:Int} (hg:game=1 ∨ game=2):eO game 0=0:=by rcases hg with rfl|rfl <;> rfl
theorem jx {G:Nat→Bool} {n:Nat} {ring:Bool} {z:Nat} (hz:gA G n ring z):¬ fB G n ring:=fun h=>by
 have:=hz.2.1 h.1
 rw [h.2 z hz.1] at this
 cases this
section
variable {game:Int} (hg:game=1 ∨ game=2) {n:Nat} {ring:Bool} (h24:n≤24)
include hg h24
theorem fS {F:Nat→Bool} {z:Nat} (hz:gA (bZ game F n ring) n ring z):dN game F n ring=fy game (dT (bZ game F n ring) n z)∧g7 game F n ring=gO game (dT (bZ game F n ring) n z)∧fI game F n ring=f3 game (dT (bZ game F n ring) n z):=by
 unfold dN g7 fI
 rw [if_neg (jx hz),if_neg (jx hz),if_neg (jx hz)]
 exact ⟨jv eD (LN0 hg) h24 hz,jv ek (sj hg) h24 hz,jv ek (rF hg) h24 hz⟩
variable (h2:2≤n) (h3:ring=true→3≤n)
include h2 h3
theorem kK {t:List Int} (hw:fB (bZ game (az t) n ring) n ring) {p:Nat} (hp:p<n) (hM:bB game (az t) n ring p=true) :
  dN game (az (cM game n t p)) n ring=LN game (n - dK game)∧g7 game (az (cM game n t p)) n ring=fL game (n - dK game)∧fI game (az (cM game n t p)) n ring=eO game (n - dK game):=by
 have hr:=hw.1
 subst hr
 have h3:=h3 rfl
 have hz0:(p+1) % n<n:=Nat.mod_lt _ (by omega)
 have ez:((p+1) % n+1+(n - 2)) % n=p:=by
  rw [show (p+1) % n+1+(n - 2)=(p+1) % n+(n - 1) from by omega,Nat.mod_add_mod,show p+1+(n - 1)=p+n from by omega,Nat.add_mod_right,Nat.mod_eq_of_lt hp]
 have ez1:((p+1) % n+1+(n - 1)) % n=(p+1) % n:=by
  rw [show (p+1) % n+1+(n - 1)=(p+1) % n+n from by omega,Nat.add_mod_right,Nat.mod_eq_of_lt hz0]
 have hgm:=fun q=>jw hg h2 hp hM q
 have hzG:bZ game (az (cM game n t p)) n true ((p+1) % n)=false:=by
  rw [hgm]
  have:(if game=1 then dI n true ((p+1) % n) p else decide ((p+1) % n=(p+1) % n))=true:=by
   split
   ·rw [g6 hz0 hp (fun _=>h3)]
    by_cases c:p+1<n
    ·rw [Nat.mod_eq_of_lt c];exact .inr (.inl rfl)
    ·rw [show p+1=n from by omega,Nat.mod_self];exact .inr (.inr ⟨rfl,.inl ⟨rfl,by omega⟩⟩)
   ·exact decide_eq_true rfl
  rw [this];simp
 have hz:gA (bZ game (az (cM game n t p)) n true) n true ((p+1) % n):=⟨hz0,fun _=>hzG,by simp⟩
 have near:∀ j,j<n→dI n true (((p+1) % n+1+j) % n) p=decide (j+3=n ∨ j+1=n):=fun j hj=>by
  have h1:((p+1) % n+1+j) % n<n:=Nat.mod_lt _ (by omega)
  rw [Bool.eq_iff_iff,g6 h1 hp (fun _=>h3),decide_eq_true_eq]
  have e1:(((p+1) % n+1+j) % n=(p+1) % n) ↔ j+1=n:=by
   rw [show (p+1) % n=((p+1) % n+1+(n - 1)) % n from ez1.symm] 
   constructor
   ·intro e
    rw [ez1] at e
    have:=gu (z:=(p+1) % n) hj (show n - 1<n from by omega) (e.trans ez1.symm)
    omega
   ·intro e
    rw [ez1,show j=n - 1 from by omega,ez1]
  have e2:((((p+1) % n+1+j) % n+1) % n=p) ↔ j+3=n:=by
   rw [f9]
   constructor
   ·intro e
    by_cases c:j+1<n
    ·have:=gu (z:=(p+1) % n) c (show n - 2<n from by omega) (e.trans ez.symm)
     omega
    ·rw [show j+1=n from by omega,Nat.add_mod_right] at e
     have:=gu (z:=(p+1) % n) (show 0<n from by omega) (show n - 2<n from by omega) (e.trans ez.symm)
     omega
   ·intro e
    rw [show j+1=n - 2 from by omega,ez]
  rw [← e1,← e2]
  have q1:p+1=n∧(p+1) % n=0 ∨ p+1<n∧(p+1) % n=p+1:=by
   by_cases c:p+1<n
   ·exact .inr ⟨c,Nat.mod_eq_of_lt c⟩
   ·exact .inl ⟨by omega,by rw [show p+1=n from by omega,Nat.mod_self]⟩
  generalize ((p+1) % n+1+j) % n=q at h1 ⊢
  have q2:q+1=n∧(q+1) % n=0 ∨ q+1<n∧(q+1) % n=q+1:=by
   by_cases c:q+1<n
   ·exact .inr ⟨c,Nat.mod_eq_of_lt c⟩
   ·exact .inl ⟨by omega,by rw [show q+1=n from by omega,Nat.mod_self]⟩
  generalize (p+1) % n=a at q1 ⊢
  generalize (q+1) % n=b at q2 ⊢
  simp only [true_and]
  omega
 have hcell:∀ j,j<n→bZ game (az (cM game n t p)) n true (((p+1) % n+1+j) % n)=decide (j<n - dK game):=fun j hj=>by
  have h1:((p+1) % n+1+j) % n<n:=Nat.mod_lt _ (by omega)
  rw [hgm,hw.2 _ h1,Bool.true_and]
  have ep:decide (((p+1) % n+1+j) % n=p)=decide (j+2=n):=by
   rw [decide_eq_decide]
   constructor
   ·intro e
    have:=gu (z:=(p+1) % n) hj (show n - 2<n from by omega) (e.trans ez.symm)
    omega
   ·intro e
    rw [show j=n - 2 from by omega,ez]
  have en:decide (((p+1) % n+1+j) % n=(p+1) % n)=decide (j+1=n):=by
   rw [decide_eq_decide]
   constructor
   ·intro e
    have:=gu (z:=(p+1) % n) hj (show n - 1<n from by omega) (e.trans ez1.symm)
    omega
   ·intro e
    rw [show j=n - 1 from by omega,ez1]
  rw [ep,en,near j hj]
  unfold dK
  by_cases g1:game=1
  ·rw [if_pos g1,if_pos g1,Bool.eq_iff_iff]
   simp
   omega
  ·rw [if_neg g1,if_neg g1,Bool.eq_iff_iff]
   simp
   omega
 have hl:dK game≤n:=by unfold dK;split <;> omega
 have ecells:dT (bZ game (az (cM game n t p)) n true) n ((p+1) % n)=cK (n - dK game)++List.replicate (dK game) false:=by
  refine List.ext_getElem? fun j=>?_
  by_cases hj:j<n
  ·rw [fm _ _ _ _ hj,hcell j hj]
   by_cases c:j<n - dK game
   ·rw [ii _ _ _ c,decide_eq_true c]
   ·rw [List.getElem?_append_right (by show (List.replicate _ true).length≤j;rw [List.length_replicate];omega),decide_eq_false c,List.getElem?_replicate,if_pos]
    show j - (List.replicate _ true).length<_
    rw [List.length_replicate];omega
  ·rw [List.getElem?_eq_none (by rw [fR];omega),List.getElem?_eq_none (by rw [ij,List.length_replicate];omega)]
 obtain ⟨c1,c2,c3⟩:=fS hg h24 hz
 have hT:jO (List.replicate (dK game) false):=by
  unfold dK
  split
  ·exact .inr ⟨_,rfl⟩
  ·exact .inr ⟨_,rfl⟩
 rw [c1,c2,c3,ecells]
 have k1:fy game (List.replicate (dK game) false)=0:=by rcases hg with rfl|rfl <;> rfl
 have k2:gO game (List.replicate (dK game) false)=0:=by rcases hg with rfl|rfl <;> rfl
 have k3:f3 game (List.replicate (dK game) false)=0:=by rcases hg with rfl|rfl <;> rfl
 have d1:fy game (cK (n - dK game)++List.replicate (dK game) false)=LN game (n - dK game) ^^^ fy game (List.replicate (dK game) false):=d5 eD (LN0 hg) hT _
 have d2:gO game (cK (n - dK game)++List.replicate (dK game) false)=fL game (n - dK game)+gO game (List.replicate (dK game) false):=d5 ek (sj hg) hT _
 have d3:f3 game (cK (n - dK game)++List.replicate (dK game) false)=eO game (n - dK game)+f3 game (List.replicate (dK game) false):=d5 ek (rF hg) hT _
 rw [d1,d2,d3,k1,k2,k3]
 exact ⟨Nat.xor_zero _,rfl,rfl⟩
omit h3 in
theorem nn {t:List Int} (hw:fB (bZ game (az t) n ring) n ring):bB game (az t) n ring 0=true:=by
 have a:=hw.2 0 (by omega)
 unfold bB
 by_cases g1:game=1
 ·subst g1;exact a
 ·have b:=hw.2 ((0+1) % n) (Nat.mod_lt _ (by omega))
  unfold bZ at a b
  rw [if_neg g1] at a b ⊢
  rw [a,b,hw.1];rfl
theorem l9 (t:List Int):dN game (az t) n ring<8∧(∀ p,p<n→bB game (az t) n ring p=true→dN game (az (cM game n t p)) n ring≠dN game (az t) n ring∧g7 game (az t) n ring≤g7 game (az (cM game n t p)) n ring+1∧fI game (az (cM game n t p)) n ring+1≤fI game (az t) n ring) ∧
  (∀ v,v<dN game (az t) n ring→∃ p,p<n∧bB game (az t) n ring p=true∧dN game (az (cM game n t p)) n ring=v)∧((∀ p,p<n→¬ bB game (az t) n ring p=true)→g7 game (az t) n ring=0):=by
 classical
 by_cases hw:fB (bZ game (az t) n ring) n ring
 ·have h3':=h3 hw.1
  have e1:dN game (az t) n ring=if LN game (n - dK game)=0 then 1 else 0:=by unfold dN;rw [if_pos hw]
  have e2:g7 game (az t) n ring=(n+2) / 3:=by unfold g7;rw [if_pos hw]
  have e3:fI game (az t) n ring=n / 2:=by unfold fI;rw [if_pos hw]
  have hm0:=nn hg h24 h2 hw
  rw [e1,e2,e3]
  refine ⟨by split <;> omega,fun p hp hM=>?_,fun v hv=>⟨0,by omega,hm0,?_⟩,fun h=>absurd hm0 (h 0 (by omega))⟩
  ·obtain ⟨a,b,c⟩:=kK hg h24 h2 h3 hw hp hM
   rw [a,b,c]
   refine ⟨by split <;> omega,?_⟩
   rcases hg with rfl|rfl
   ·simp only [fL,eO,dK,if_true]
    omega
   ·simp only [fL,eO,dK,show ((2:Int)=1)=False from by decide,if_false]
    omega
  ·obtain ⟨a,_,_⟩:=kK hg h24 h2 h3 hw (show 0<n from by omega) hm0
   rw [a]
   split at hv <;> omega
 ·obtain ⟨z,hz⟩:=mX h2 hw
  obtain ⟨c1,c2,c3⟩:=fS hg h24 hz
  have hlen:(dT (bZ game (az t) n ring) n z).length≤24:=by rw [fR];exact h24
  obtain ⟨m1,m2,m3⟩:=qd hg 24 _ hlen hlen
  obtain ⟨b1,b2⟩:=mM hg 24 _ hlen
  rw [c1,c2,c3]
  refine ⟨m1,fun p hp hM=>?_,fun v hv=>?_,fun h=>b2 fun k hk=>?_⟩
  ·obtain ⟨k,hk,rfl⟩:=pD hz.1 hp
   obtain ⟨hc,he⟩:=kI hg h2 h3 hz hk hM
   obtain ⟨d1,d2,d3⟩:=fS hg h24 (lI hg h2 hz hp hM)
   rw [d1,d2,d3,he]
   exact ⟨m2 k hc,b1 k hc⟩
  ·obtain ⟨k,hc,e⟩:=m3 v hv
   obtain ⟨hk,hM⟩:=kJ hz hc
   have hp:(z+1+k) % n<n:=Nat.mod_lt _ (by omega)
   obtain ⟨d1,d2,d3⟩:=fS hg h24 (lI hg h2 hz hp hM)
   refine ⟨_,hp,hM,?_⟩
   rw [d1,(kI hg h2 h3 hz hk hM).2,e]
  ·obtain ⟨hkn,hM⟩:=kJ hz hk
   exact h _ (Nat.mod_lt _ (by omega)) hM
end
section
variable {α:Type} {g:Nat→α} {op:α→α→α} {e:α} (J:Joins op e) (g0:g 0=e)
include J
theorem g8 (bs:List Bool):∀ (us:List Bool) (c:Nat),dA g op c (us++false :: bs)=op (dA g op c us) (dA g op 0 bs)
 | [],c=>rfl
 | true :: us,c=>g8 bs us (c+1)
 | false :: us,c=>by
  show op (g c) (dA g op 0 (us++false :: bs))=op (op (g c) (dA g op 0 us)) _
  rw [g8 bs us 0,J.assoc]
include g0
omit g0 in
theorem gH:∀ (N:Nat) (bs:List Bool),bs.length≤N→dA g op 0 bs.reverse=dA g op 0 bs
 | 0,bs,h=>by
  obtain rfl:bs=[]:=List.length_eq_zero_iff.1 (by omega)
  rfl
 | N+1,bs,h=>by
  obtain ⟨m,tl,rfl,ht⟩:=gX bs
  rw [ij] at h
  rcases ht with rfl|⟨r,rfl⟩
  ·rw [List.append_nil]
   unfold cK
   rw [List.reverse_replicate]
  ·rw [List.length_cons] at h
   rw [List.reverse_append,List.reverse_cons,List.append_assoc,List.singleton_append,g8 J,g8 J,gH N r (by omega),J.comm]
   unfold cK
   rw [List.reverse_replicate]
theorem mY (bs:List Bool):dA g op 0 (bs++[false])=dA g op 0 bs:=by
 rw [g8 J]
 show op _ (g 0)=_
 rw [g0,J.comm,J.unit]
end
theorem jQ {n:Nat} {ring:Bool} {p q:Nat} (hp:p<n) (hq:q<n) (h3:ring=true→3≤n):dI n ring (n - 1 - p) (n - 1 - q)=dI n ring p q:=by
 rw [Bool.eq_iff_iff,g6 hp hq h3,g6 (by omega) (by omega) h3]
 cases ring with
 | true=>simp only [true_and];omega
 | false=>simp;omega
theorem mZ (game:Int) {F F':Nat→Bool} {n:Nat} {ring:Bool} (h3:ring=true→3≤n) (hF:∀ p,p<n→F' p=F (n - 1 - p)) (p:Nat) (hp:p<n):bZ game F' n ring p=bZ game F n ring (n - 1 - p):=by
 unfold bZ
 split
 ·unfold cd
  rw [hF p hp]
  congr 1
  rw [Bool.eq_iff_iff,gy,gy]
  constructor
  ·intro h q hq
   have:=h (n - 1 - q) (by omega)
   rw [hF _ (by omega),show n - 1 - (n - 1 - q)=q from by omega,← jQ hp (by omega) h3,show n - 1 - (n - 1 - q)=q from by omega] at this
   exact this
  ·intro h q hq
   rw [hF q hq,← jQ hp hq h3]
   exact h _ (by omega)
 ·exact hF p hp
theorem np {game:Int} (hg:game=1 ∨ game=2) {F F':Nat→Bool} {n:Nat} {ring:Bool} (h24:n≤24) (h2:2≤n) (h3:ring=true→3≤n) (hF:∀ p,p<n→F' p=F (n - 1 - p)):dN game F' n ring=dN game F n ring:=by
 have hG:=mZ game h3 hF
 by_cases hw:fB (bZ game F n ring) n ring
 ·have hw':fB (bZ game F' n ring) n ring:=⟨hw.1,fun p hp=>by rw [hG p hp];exact hw.2 _ (by omega)⟩
  unfold dN
  rw [if_pos hw,if_pos hw']
 ·obtain ⟨z,hz⟩:=mX h2 hw
  have hz':gA (bZ game F' n ring) n ring (if ring=true then n - 1 - z else n - 1):=by
   refine ⟨by split <;> omega,fun hr=>?_,fun hr=>?_⟩
   ·have:=hz.1
    rw [if_pos hr,hG _ (by omega),show n - 1 - (n - 1 - z)=z from by omega]
    exact hz.2.1 hr
   ·rw [if_neg (by rw [hr];simp)];omega
  rw [(fS hg h24 hz).1,(fS hg h24 hz').1]
  unfold fy
  cases ring with
  | false =>
   have hzn:=hz.2.2 rfl
   rw [if_neg (by simp)]
   have e:dT (bZ game F' n false) n (n - 1)=(dT (bZ game F n false) n z).reverse:=by
    unfold dT
    refine List.ext_getElem (by simp) fun j h1 h2=>?_
    have h1:j<n:=by simpa using h1
    rw [List.getElem_reverse]
    simp only [List.getElem_map,List.getElem_range,List.length_map,List.length_range]
    rw [show n - 1+1+j=j+n from by omega,Nat.add_mod_right,Nat.mod_eq_of_lt h1,hG j h1,show z+1+(n - 1 - j)=n - 1 - j+n from by omega,Nat.add_mod_right,Nat.mod_eq_of_lt (show n - 1 - j<n from by omega)]
   rw [e]
   exact gH eD _ _ (Nat.le_refl _)
  | true =>
   rw [if_pos rfl]
   have hz0:=hz.1
   have cut:∀ (G:Nat→Bool) (y:Nat),y<n→G y=false→dT G n y=((List.range (n - 1)).map fun j=>G ((y+1+j) % n))++[false]:=fun G y hy hG=>by
    unfold dT
    rw [show List.range n=List.range ((n - 1)+1) from by rw [show n - 1+1=n from by omega],List.range_succ,List.map_append]
    congr 1
    rw [List.map_singleton,show y+1+(n - 1)=y+n from by omega,Nat.add_mod_right,Nat.mod_eq_of_lt hy,hG]
   rw [cut _ _ hz0 (hz.2.1 rfl),cut _ (n - 1 - z) (by omega) (by have:=hz'.2.1 rfl;rwa [if_pos rfl] at this),mY eD (LN0 hg),mY eD (LN0 hg)]
   rw [← gH eD _ ((List.range (n - 1)).map fun j=>bZ game F n true ((z+1+j) % n)) (Nat.le_refl _)]
   congr 1
   refine List.ext_getElem (by simp) fun j h1 h2=>?_
   have h1:j<n - 1:=by simpa using h1
   rw [List.getElem_reverse]
   simp only [List.getElem_map,List.getElem_range,List.length_map,List.length_range]
   rw [hG _ (Nat.mod_lt _ (by omega))]
   congr 1
   by_cases c:j<z
   ·rw [show n - 1 - z+1+j=n - z+j from by omega,Nat.mod_eq_of_lt (show n - z+j<n from by omega),show z+1+(n - 1 - 1 - j)=z - 1 - j+n from by omega,Nat.add_mod_right,Nat.mod_eq_of_lt (by omega)]
    omega
   ·rw [show n - 1 - z+1+j=j - z+n from by omega,Nat.add_mod_right,Nat.mod_eq_of_lt (show j - z<n from by omega),Nat.mod_eq_of_lt (show z+1+(n - 1 - 1 - j)<n from by omega)]
    omega
def iG (game x a:Int):Int:=if game=2 then wrap64 (a+wrap64 (Int.tdiv (wrap64 (x+1)) 3)) else wrap64 (a+wrap64 (Int.tdiv (wrap64 (x+2)) 3))
def iH (game x b:Int):Int:=if game=2 then wrap64 (b+wrap64 (Int.tdiv x 2)) else wrap64 (b+wrap64 (Int.tdiv (wrap64 (x+1)) 2))
def iI (game:Int):List S72→Int→Int→Int × Int × Bool
 | [],a,b=>(a,b,true)
 | r :: R,a,b=>iI game R (iG game r.f1 a) (iH game r.f1 b)
theorem lJ (game:Int) (R:List S72) (a b:Int) (i:Nat) (h:i<R.length):iI game (R.drop i) a b=iI game (R.drop (i+1)) (iG game (R[i]).f1 a) (iH game (R[i]).f1 b):=by
 rw [List.drop_eq_getElem_cons h,iI]
theorem ma (R:List S72) (hlen:R.length≤24) (game:Int) (n:Nat) (ring:Bool) (t:List Int) (hR:∀ r ∈ R,0≤r.f1∧r.f1≤24∧(ring=true→r.f1<n)) (d:Nat):∀ (i:Nat) (a b:Int),i+d=R.length→Ev (fun k=>af.l0 k game R a b i n ring t) (iI game (R.drop i) a b):=by
 induction d with
 | zero =>
  intro i a b hi
  refine Ev.succ ?_
  simp only [af.l0]
  rw [List.drop_of_length_le (by omega)]
  exact Ev.neg (by omega) (Ev.now _)
 | succ d ih =>
  intro i a b hi
  have hm:=hR (R[i]'(by omega)) (List.getElem_mem _)
  have go:=ih (i+1) (iG game (R[i]'(by omega)).f1 a) (iH game (R[i]'(by omega)).f1 b) (by omega)
  rw [← lJ game R a b i (by omega)] at go
  refine Ev.succ ?_
  simp only [af.l0]
  rw [j8 R i (by omega)]
  have step:Ev (fun k=>af.j3 k game R a b i (R[i]'(by omega)).f1 false n ring t) (iI game (R.drop i) a b):=by
   refine Ev.succ ?_
   simp only [af.j3]
   rw [bT (n:=100) (by omega) (by omega)]
   by_cases hg:game=2
   ·rw [iG,iH,if_pos hg,if_pos hg] at go
    exact Ev.pos hg (Ev.neg (by simp) go)
   ·rw [iG,iH,if_neg hg,if_neg hg] at go
    exact Ev.neg hg (Ev.neg (by simp) go)
  refine Ev.pos (by omega) (Ev.pos (by omega) ?_)
  cases ring with
  | true =>
   rw [show ((R[i]'(by omega)).f1 == (n:Int))=false from beq_eq_false_iff_ne.2 (by have:=hm.2.2 rfl;omega)]
   exact Ev.pos rfl step
  | false=>exact Ev.neg (by simp) step
theorem mb (R:List S72) (hlen:R.length≤24) (game:Int) (d:Nat):∀ (i:Nat) (a b:Int),i+d=R.length→Ev (fun k=>aw.l0 k game a b R R.length i) (iI game (R.drop i) a b):=by
 induction d with
 | zero =>
  intro i a b hi
  refine Ev.succ ?_
  simp only [aw.l0]
  rw [List.drop_of_length_le (by omega)]
  exact Ev.neg (by omega) (Ev.now _)
 | succ d ih =>
  intro i a b hi
  have go:=ih (i+1) (iG game (R[i]'(by omega)).f1 a) (iH game (R[i]'(by omega)).f1 b) (by omega)
  rw [← lJ game R a b i (by omega)] at go
  refine Ev.succ ?_
  simp only [aw.l0]
  rw [j8 R i (by omega),bT (n:=100) (by omega) (by omega)]
  refine Ev.pos (by omega) (Ev.pos (by omega) (Ev.pos (by omega) ?_))
  by_cases hg:game=2
  ·rw [iG,iH,if_pos hg,if_pos hg] at go
   exact Ev.pos hg go
  ·rw [iG,iH,if_neg hg,if_neg hg] at go
   exact Ev.neg hg go
theorem pF:∀ n:Nat,n<25→wrap64 ((wrap64 ((wrap64 (0+(wrap64 (Int.tdiv (wrap64 ((n:Int)+1)) 3))))+(wrap64 (Int.tdiv (wrap64 ((n:Int)+2)) 3)))) - (wrap64 (Int.tdiv (wrap64 ((n:Int)+1)) 3)))=wrap64 (Int.tdiv (wrap64 ((n:Int)+2)) 3):=by decide +kernel
theorem pG:∀ n:Nat,n<25→wrap64 (0+(wrap64 (Int.tdiv (n:Int) 2)))=wrap64 (Int.tdiv (n:Int) 2):=by decide +kernel
theorem pH:∀ n:Nat,n<25→wrap64 (0+(wrap64 (Int.tdiv (wrap64 ((n:Int)+2)) 3)))=wrap64 (Int.tdiv (wrap64 ((n:Int)+2)) 3):=by decide +kernel
theorem pI:∀ n:Nat,n<25→wrap64 ((wrap64 ((wrap64 (0+(wrap64 (Int.tdiv (wrap64 ((n:Int)+1)) 2))))+(wrap64 (Int.tdiv (n:Int) 2)))) - (wrap64 (Int.tdiv (wrap64 ((n:Int)+1)) 2)))=wrap64 (Int.tdiv (n:Int) 2):=by decide +kernel
def jf (game:Int) (F:Nat→Bool) (n:Nat) (ring:Bool):Int × Int × Bool :=
 if ring=true∧∀ p,p<n→bZ game F n ring p=true then (wrap64 (Int.tdiv (wrap64 ((n:Int)+2)) 3),wrap64 (Int.tdiv (n:Int) 2),true) else iI game (eI (bZ game F n ring) n ring) 0 0
theorem jg {game:Int} (hg:game=1 ∨ game=2) {F:Nat→Bool} {n:Nat} {ring:Bool} (h2:2≤n) (h24:n≤24) (t:List Int):Ev (fun k=>af.j1 k game (eI (bZ game F n ring) n ring) 0 0 n ring t) (jf game F n ring):=by
 refine Ev.succ ?_
 simp only [af.j1]
 unfold jf
 by_cases hw:ring=true∧∀ p,p<n→bZ game F n ring p=true
 ·rw [if_pos hw,show eI (bZ game F n ring) n ring=[⟨0,n⟩] from if_pos hw]
  refine Ev.succ ?_
  simp only [af.l0]
  rw [show ci [(⟨0,n⟩:S72)] 0=⟨0,n⟩ from rfl]
  dsimp only
  refine Ev.pos (by simp) (Ev.pos (by omega) (Ev.pos hw.1 (Ev.succ ?_)))
  simp only [af.j3]
  rw [show wrap64 (0+1)=1 from by rw [cm (by omega) (by omega)];rfl]
  have fin:∀ a b:Int,Ev (fun k=>af.l0 k game [(⟨0,n⟩:S72)] a b 1 n ring t) (a,b,true):=fun a b=>by
   refine Ev.succ ?_
   simp only [af.l0]
   exact Ev.neg (by simp) (Ev.now _)
  rcases hg with rfl|rfl
  ·rw [pH n (by omega),pI n (by omega)]
   exact Ev.neg (by omega) (Ev.pos (by simp) (fin _ _))
  ·rw [pF n (by omega),pG n (by omega)]
   exact Ev.pos rfl (Ev.pos (by simp) (fin _ _))
 ·rw [if_neg hw]
  have:=ma _ (g4 h2 h24 (F:=bZ game F n ring) (ring:=ring)) game n ring t (eB h2 h24 hw) _ 0 0 0 (Nat.zero_add _)
  rw [List.drop_zero] at this
  exact this
open Classical in
theorem lK (s:Int) (ring:Bool) (t:List Int) (ht:t.length≤1048576) (g:Int):∃ (a b:Int) (c:Bool),Ev (fun k=>af.f k s ring t g) (a,b,c)∧Ev (fun k=>aw.f k s ring t g) (a,b,c):=by
 by_cases h:cn s ring t∧1≤g∧g≤2
 ·have hg:g=1 ∨ g=2:=by have:=h.2;omega
  obtain ⟨n,rfl,h2,h24,h3,hin⟩:=dW h.1
  have hT:∀ p,p<n→decide ((p:Int) ∈ t)=!az t p:=fun p _=>by unfold az;simp
  refine ⟨(jf g (az t) n ring).1,(jf g (az t) n ring).2.1,(jf g (az t) n ring).2.2,?_,?_⟩
  ·unfold af.f
   refine Ev.bind (ca _ ring t ht) (Ev.pos (decide_eq_true h.1) (Ev.have (cJ g) (Ev.succ ?_)))
   simp only [af.j0]
   refine Ev.neg (by rw [decide_eq_true h.2];simp) (Ev.bind (fN h2 h24 ht hT hin) ?_)
   have j1:=jg hg (F:=az t) (ring:=ring) h2 h24 t
   rcases hg with rfl|rfl
   ·exact Ev.pos rfl (Ev.bind (f7 h24 ht hT h2) j1)
   ·exact Ev.neg (by omega) j1
  ·unfold aw.f
   refine Ev.bind (bI _ ring t ht g) (Ev.pos (decide_eq_true h) (Ev.have rfl (Ev.bind (Ev.bound t.length fun k hk=>cO _ ring t h.1 k hk) (Ev.bind (g5 hg h2 h24 (F:=az t) (ring:=ring) (f6 _ ring t h.1).2 fun p _=>fQ (fun x hx=>(hin x hx).1) p) ?_))))
   dsimp only
   unfold jf
   by_cases hw:ring=true∧∀ p,p<n→bZ g (az t) n ring p=true
   ·rw [if_pos hw]
    exact Ev.pos (decide_eq_true hw) (Ev.now _)
   ·rw [if_neg hw]
    refine Ev.neg (by rw [decide_eq_true_eq];exact hw) ?_
    have:=mb _ (g4 h2 h24 (F:=bZ g (az t) n ring) (ring:=ring)) g _ 0 0 0 (Nat.zero_add _)
    rw [List.drop_zero] at this
    exact this
 ·refine ⟨0,0,false,?_,?_⟩
  ·unfold af.f
   refine Ev.bind (ca s ring t ht) ?_
   by_cases hr:cn s ring t
   ·refine Ev.pos (decide_eq_true hr) (Ev.have (cJ g) (Ev.succ ?_))
    simp only [af.j0]
    exact Ev.pos (by rw [decide_eq_false fun e=>h ⟨hr,e⟩];rfl) (Ev.now _)
   ·refine Ev.neg (by rw [decide_eq_true_eq];exact hr) (Ev.succ ?_)
    simp only [af.j0]
    exact Ev.pos True.intro (Ev.now _)
  ·unfold aw.f
   exact Ev.bind (bI s ring t ht g) (Ev.neg (by rw [decide_eq_true_eq];exact h) (Ev.now _))
theorem nr (s a:Nat) (ha:s.testBit a=true) (hl:∀ j,j<a→s.testBit j=false) (h:s<2 ^ 32):Lib.ctz 32 s=a:=by
 have h0:s≠0:=fun e=>by rw [e] at ha;simp at ha
 unfold Lib.ctz
 rw [if_neg h0]
 obtain ⟨m,hm,hf⟩:=Lib.ctzFrom_spec 32 s (by omega) h
 generalize Lib.ctzFrom 32 s=c at hm hf
 rcases Nat.lt_trichotomy c a with g|g|g
 ·have:=hl c g
  rw [hm,Nat.testBit_two_pow_mul] at this
  simp at this
 ·exact g
 ·rw [hm,Nat.testBit_two_pow_mul] at ha
  simp at ha
  omega
theorem pJ (q a:Nat):(2 ^ (a+1) * q+2 ^ a) &&& (2 ^ (a+1) * q+2 ^ a - 1)=2 ^ (a+1) * q:=by
 have p:0<2 ^ a:=Nat.two_pow_pos a
 have l1:2 ^ a<2 ^ (a+1):=Nat.pow_lt_pow_right (by omega) (by omega)
 refine Nat.eq_of_testBit_eq fun j=>?_
 rw [show 2 ^ (a+1) * q+2 ^ a - 1=2 ^ (a+1) * q+(2 ^ a - 1) from by omega,Nat.testBit_and,Nat.testBit_two_pow_mul_add q l1 j,Nat.testBit_two_pow_mul_add q (show 2 ^ a - 1<2 ^ (a+1) by omega) j,Nat.testBit_two_pow_mul]
 by_cases g:j<a+1
 ·rw [if_pos g,if_pos g,decide_eq_false (by omega:¬ a+1≤j),Bool.false_and,Nat.testBit_two_pow,Nat.testBit_two_pow_sub_one]
  by_cases e:a=j
  ·subst e;simp
  ·simp [e]
 ·rw [if_neg g,if_neg g,decide_eq_true (by omega:a+1≤j),Bool.true_and,Bool.and_self]
theorem oG (a:Int) (L:List Int):cF (a :: L)=2 ^ a.toNat ||| cF L:=by
 refine Nat.eq_of_testBit_eq fun j=>?_
 rw [cX,Nat.testBit_or,Nat.testBit_two_pow,cX,Bool.eq_iff_iff]
 simp
theorem nt (a:Nat) (L:List Int) (hL:∀ x ∈ L,(a:Int)<x):∃ q,cF L=2 ^ (a+1) * q∧cF ((a:Int) :: L)=2 ^ (a+1) * q+2 ^ a:=by
 have e:cF L=2 ^ (a+1) * (cF L / 2 ^ (a+1)):=by
  have hz:cF L % 2 ^ (a+1)=0:=by
   refine Nat.eq_of_testBit_eq fun j=>?_
   rw [Nat.testBit_mod_two_pow,cX]
   by_cases g:j<a+1
   ·have:¬ ∃ p ∈ L,p.toNat=j:=fun ⟨p,hp,e⟩=>by have:=hL p hp;omega
    rw [decide_eq_false this]
    simp
   ·rw [decide_eq_false g]
    simp
  have:=Nat.mod_add_div (cF L) (2 ^ (a+1))
  omega
 refine ⟨cF L / 2 ^ (a+1),e,?_⟩
 have l1:2 ^ a<2 ^ (a+1):=Nat.pow_lt_pow_right (by omega) (by omega)
 rw [oG,Int.toNat_natCast]
 generalize cF L / 2 ^ (a+1)=q at e
 rw [e,Nat.or_comm,Nat.two_pow_add_eq_or_of_lt l1]
theorem m0 (L:List Int):∀ (out:List Int) (k:Nat),L.Pairwise (·<·)→(∀ x ∈ L,0≤x∧x<32)→out.length+L.length≤1000→L.length<k→bz.l0 k ((cF L:Nat):Int) out=some (out++L):=by
 induction L with
 | nil =>
  intro out k _ _ _ hk
  obtain ⟨k,rfl,_⟩:=bX hk
  simp only [bz.l0]
  rw [if_pos (show ((cF []:Nat):Int)=0 from rfl),List.append_nil]
 | cons b L ih =>
  intro out k hp hb ho hk
  obtain ⟨k,rfl,hk'⟩:=bX hk
  rw [List.length_cons] at ho hk'
  obtain ⟨h1,h2⟩:=List.pairwise_cons.1 hp
  have hb0:=hb b List.mem_cons_self
  obtain ⟨a,rfl⟩:∃ a:Nat,b=a:=⟨b.toNat,by omega⟩
  obtain ⟨q,e1,e2⟩:=nt a L h1
  have hlt:cF ((a:Int) :: L)<4294967296:=kz _ fun p hp=>(hb p hp).2
  have hlt2:cF L<4294967296:=kz _ fun p hp=>(hb p (List.mem_cons_of_mem _ hp)).2
  have pa:0<2 ^ a:=Nat.two_pow_pos a
  have hctz:Lib.ctz 32 (cF ((a:Int) :: L))=a:=by
   refine nr _ a ?_ (fun j hj=>?_) hlt
   ·rw [cX]
    exact decide_eq_true ⟨a,List.mem_cons_self,Int.toNat_natCast a⟩
   ·rw [cX]
    refine decide_eq_false fun ⟨p,hp,e⟩=>?_
    rcases List.mem_cons.1 hp with g|g
    ·omega
    ·have:=h1 p g;omega
  simp only [bz.l0]
  rw [if_neg (by omega)]
  have ef:b9.f ((cF ((a:Int) :: L):Nat):Int)=some (a:Int):=by
   unfold b9.f
   rw [if_pos (by omega),Int.toNat_natCast,hctz]
  rw [ef,Option.bind_some,if_pos (by omega)]
  have em:(((cF ((a:Int) :: L):Nat):Int) - 1) % 4294967296=((cF ((a:Int) :: L) - 1:Nat):Int):=by omega
  rw [em,kA _ _ hlt (by omega),e2,pJ,← e1,ih (out++[(a:Int)]) k h2 (fun x hx=>hb x (List.mem_cons_of_mem _ hx)) (by simp;omega) (by omega),List.append_assoc]
  rfl
theorem jR (L:List Int) (hp:L.Pairwise (·<·)) (hb:∀ x ∈ L,0≤x∧x<32) (hl:L.length≤100):Ev (fun k=>bz.f k ((cF L:Nat):Int)) L:=by
 refine Ev.bound L.length fun k hk=>?_
 unfold bz.f
 have:=m0 L [] k hp hb (by simp;omega) hk
 rwa [List.nil_append] at this
theorem nv (n:Nat) (ring:Bool) (S g p:Int) (h24:n≤24) (h2:2≤n) (hp:¬ (0≤p∧p<n)):Ev (fun k=>ar.f k n ring S g p) (0,false):=by
 have hone:Ev (fun k=>bD.f k n ring [p]) false:=Ev.bound 3 fun k hk=>by
  rw [eV _ _ _ k (by omega)]
  exact congrArg some (decide_eq_false (by rw [cm (by omega) (by omega)];omega))
 unfold ar.f
 exact Ev.bind hone (Ev.neg (by simp) (Ev.now _))
open Classical in
theorem lL (s:Int) (ring:Bool) (t:List Int) (ht:t.length≤1048576) (g p:Int):∃ (s':Int) (r':Bool) (l:List Int) (b:Bool),l.length≤1048576∧Ev (fun k=>ch.f k s ring t g p) (s',r',l,b)∧Ev (fun k=>aU.f k s ring t g p) (s',r',l,b):=by
 by_cases h:cn s ring t∧1≤g∧g≤2
 ·have hg:g=1 ∨ g=2:=by have:=h.2;omega
  obtain ⟨n,rfl,h2,h24,h3,hin⟩:=dW h.1
  have hlen:=cz (bB g (az t) n ring) n
  have hmv:=eQ (ring:=ring) h2 h24 hg ht (F:=az t) (fun p _=>by unfold az;simp)
  have hlt:=(f6 _ ring t h.1).2
  have hrl:=dk _ ring t h.1
  have tk:Ev (fun k=>a7.f k (n:Int) ring t) ((cF t:Nat):Int):=Ev.bound t.length fun k hk=>cO _ ring t h.1 k hk
  have has:Ev (fun k=>bo.f k (bU (bB g (az t) n ring) n) p) (decide (p ∈ bU (bB g (az t) n ring) n)):=Ev.bound n fun k hk=>el _ p (by omega) k (by omega)
  by_cases hM:∃ q:Nat,q<n∧bB g (az t) n ring q=true∧p=q
  ·obtain ⟨q,hq,hM,rfl⟩:=hM
   have hmade:=eA hg h.1 hq hM
   have hl:=dk _ ring _ hmade.1
   obtain ⟨v,e,hv⟩:=ey h2 h24 hg (ring:=ring) (F:=az t) hlt (fun j _=>fQ (fun x hx=>(du t _ _ h.1.2.2 x hx).1) j) q hq
   have hv:=hv hM
   rw [hM] at e
   have hv2:v<4294967296:=by
    have p2:2 ^ q<2 ^ 32:=Nat.pow_lt_pow_right (by omega) (by omega)
    have hmq:(q+1) % n<n:=Nat.mod_lt _ (by omega)
    have q2:2 ^ ((q+1) % n)<2 ^ 32:=Nat.pow_lt_pow_right (by omega) (by omega)
    rw [hv]
    unfold gz
    split
    ·exact p2
    ·exact Nat.or_lt_two_pow p2 q2
   have hmem:=du (cM g n t q) _ _ hmade.1.2.2
   refine ⟨n,ring,cM g n t q,true,by omega,?_,?_⟩
   ·unfold ch.f
    refine Ev.bind (ca _ ring t ht) (Ev.pos (decide_eq_true h.1) (Ev.have (cJ g) (Ev.pos (decide_eq_true h.2) (Ev.bind hmv (Ev.bind has (Ev.pos (decide_eq_true ((b8 _ _ _).2 ⟨q,hq,hM,rfl⟩)) ?_))))))
    exact Ev.bind (eg hg h.1 hq hM) (Ev.now _)
   ·unfold aU.f
    refine Ev.bind (bI _ ring t ht g) (Ev.pos (decide_eq_true h) (Ev.have rfl (Ev.bind tk (Ev.bind e (Ev.pos rfl (Ev.have rfl (Ev.bind tk ?_)))))))
    dsimp only
    rw [gq _ _ hlt hv2,hv,hmade.2.2]
    refine Ev.bind (a:=((n:Int),ring,cM g n t q)) ?_ (Ev.now _)
    unfold bE.f
    exact Ev.bind (jR _ (eE hmade.1) (fun x hx=>by have:=hmem x hx;omega) (by omega)) (Ev.now _)
  ·refine ⟨0,false,[],false,by simp,?_,?_⟩
   ·unfold ch.f
    exact Ev.bind (ca _ ring t ht) (Ev.pos (decide_eq_true h.1) (Ev.have (cJ g) (Ev.pos (decide_eq_true h.2) (Ev.bind hmv (Ev.bind has (Ev.neg (by rw [decide_eq_true_eq,b8];exact hM) (Ev.now _)))))))
   ·unfold aU.f
    by_cases hp:0≤p∧p<n
    ·obtain ⟨q,rfl⟩:∃ q:Nat,p=q:=⟨p.toNat,by omega⟩
     obtain ⟨v,e,hv⟩:=ey h2 h24 hg (ring:=ring) (F:=az t) hlt (fun j _=>fQ (fun x hx=>(du t _ _ h.1.2.2 x hx).1) j) q (by omega)
     rw [show bB g (az t) n ring q=false from Bool.eq_false_iff.2 fun e=>hM ⟨q,by omega,e,rfl⟩] at e
     exact Ev.bind (bI _ ring t ht g) (Ev.pos (decide_eq_true h) (Ev.have rfl (Ev.bind tk (Ev.bind e (Ev.neg (by simp) (Ev.now _))))))
    ·exact Ev.bind (bI _ ring t ht g) (Ev.pos (decide_eq_true h) (Ev.have rfl (Ev.bind tk (Ev.bind (nv n ring _ g p h24 h2 hp) (Ev.neg (by simp) (Ev.now _))))))
 ·refine ⟨0,false,[],false,by simp,?_,?_⟩
  ·unfold ch.f
   refine Ev.bind (ca s ring t ht) ?_
   by_cases hr:cn s ring t
   ·exact Ev.pos (decide_eq_true hr) (Ev.have (cJ g) (Ev.neg (by rw [decide_eq_true_eq];exact fun e=>h ⟨hr,e⟩) (Ev.now _)))
   ·exact Ev.neg (by rw [decide_eq_true_eq];exact hr) (Ev.now _)
  ·unfold aU.f
   exact Ev.bind (bI s ring t ht g) (Ev.neg (by rw [decide_eq_true_eq];exact h) (Ev.now _))
section
variable {F:Nat→Bool} {n:Nat} {ring:Bool} (h2:2≤n) (h24:n≤24) {game:Int} (hg:game=1 ∨ game=2)
include h2 h24 hg
theorem gv {S:Nat} (hlt:S<4294967296) (hS:∀ p,p<n→S.testBit p=!F p):Ev (fun k=>aG.f k n ring (S:Int) game) (bU (bB game F n ring) n):=by
 have main:∀ d i,i+d=n→Ev (fun k=>aG.l0 k (S:Int) game (bU (bB game F n ring) i) n i n ring) (bU (bB game F n ring) n):=by
  intro d
  induction d with
  | zero =>
   intro i hi
   have:i=n:=by omega
   subst this
   refine Ev.succ ?_
   simp only [aG.l0]
   exact Ev.neg (by omega) (Ev.now _)
  | succ d ih =>
   intro i hi
   have go:=ih (i+1) (by omega)
   have hl:=cz (bB game F n ring) i
   obtain ⟨v,e,_⟩:=ey h2 h24 hg (ring:=ring) hlt hS i (by omega)
   rw [fk] at go
   refine Ev.succ ?_
   simp only [aG.l0]
   refine Ev.pos (by omega) (Ev.bind e ?_)
   dsimp only
   rw [bT (n:=100) (by omega) (by omega)]
   cases hM:bB game F n ring i with
   | true =>
    rw [if_pos hM] at go
    exact Ev.pos rfl (Ev.pos (by omega) go)
   | false =>
    rw [if_neg (by rw [hM];simp)] at go
    exact Ev.neg (by simp) go
 exact main n 0 (by omega)
end
theorem fz {s:Int} {ring:Bool} {t:List Int} (h:cn s ring t) (g:Int) (hg:g=1 ∨ g=2):Ev (fun k=>aA.f k s ring t g) (bU (bB g (az t) s.toNat ring) s.toNat)∧Ev (fun k=>aG.f k s ring ((cF t:Nat):Int) g) (bU (bB g (az t) s.toNat ring) s.toNat):=by
 obtain ⟨n,rfl,h2,h24,h3,hin⟩:=dW h
 have hl:=dk _ ring t h
 exact ⟨eQ h2 h24 hg (by omega) (fun p _=>by unfold az;simp),gv h2 h24 hg (f6 _ ring t h).2 (fun p _=>fQ (fun x hx=>(hin x hx).1) p)⟩
theorem eC {game:Int} (hg:game=1 ∨ game=2) {n:Nat} {ring:Bool} {t:List Int} {p:Nat} (h:cn n ring t) (hp:p<n) (hM:bB game (az t) n ring p=true):Ev (fun k=>a8.f k n ring ((cF t:Nat):Int) game p) ((cF (cM game n t p):Nat):Int):=by
 have h2:2≤n:=by have:=h.1;omega
 have h24:n≤24:=by have:=h.1;omega
 have hlt:=(f6 _ ring t h).2
 have hm:(p+1) % n<n:=Nat.mod_lt _ (by omega)
 obtain ⟨v,e,hv⟩:=ey h2 h24 hg (ring:=ring) (F:=az t) hlt (fun q _=>fQ (fun x hx=>(du t _ _ h.2.2 x hx).1) q) p hp
 have hmade:=eA hg h hp hM
 have hv:=hv hM
 have hv2:v<4294967296:=by
  have p2:2 ^ p<2 ^ 32:=Nat.pow_lt_pow_right (by omega) (by omega)
  have q2:2 ^ ((p+1) % n)<2 ^ 32:=Nat.pow_lt_pow_right (by omega) (by omega)
  rw [hv]
  unfold gz
  split
  ·exact p2
  ·exact Nat.or_lt_two_pow p2 q2
 unfold a8.f
 refine Ev.bind e ?_
 dsimp only
 rw [gq _ _ hlt hv2,hv,hmade.2.2]
 exact Ev.now _
def jV (game:Int) (n:Nat) (ring:Bool) (t:List Int) (p:Nat):Bool:=decide (je (LG game) game (az (cM game n t p)) n ring=0)
def fC (game:Int) (n:Nat) (ring:Bool) (t:List Int):List Int:=(bU (bB game (az t) n ring) n).filter fun x=>jV game n ring t x.toNat
theorem mc (game:Int) (n:Nat) (ring:Bool) (t:List Int):(fC game n ring t).length≤n:=Nat.le_trans (List.length_filter_le _ _) (cz _ _)
section
variable {game:Int} (hg:game=1 ∨ game=2) {n:Nat} {ring:Bool} {t:List Int} (h:cn n ring t)
include hg h
theorem eF:Ev (fun k=>aW.f k n ring t game) (fC game n ring t):=by
 have h24:n≤24:=by have:=h.1;omega
 have hlen:=cz (bB game (az t) n ring) n
 have main:∀ d i,i+d=(bU (bB game (az t) n ring) n).length→Ev (fun k=>aW.l0 k game (((bU (bB game (az t) n ring) n).take i).filter fun x=>jV game n ring t x.toNat) (bU (bB game (az t) n ring) n) i n ring t) (fC game n ring t):=by
  intro d
  induction d with
  | zero =>
   intro i hi
   refine Ev.succ ?_
   simp only [aW.l0]
   rw [List.take_of_length_le (by omega)]
   exact Ev.neg (by omega) (Ev.now _)
  | succ d ih =>
   intro i hi
   have go:=ih (i+1) (by omega)
   obtain ⟨q,hq,hM,e⟩:=(b8 _ _ _).1 (List.getElem_mem (l:=bU (bB game (az t) n ring) n) (n:=i) (by omega))
   have hacc:(((bU (bB game (az t) n ring) n).take i).filter fun x=>jV game n ring t x.toNat).length≤i:=Nat.le_trans (List.length_filter_le _ _) (by simp;omega)
   have hmade:=eA hg h hq hM
   rw [List.take_add_one,List.getElem?_eq_getElem (by omega),Option.toList_some,List.filter_append,e] at go
   refine Ev.succ ?_
   simp only [aW.l0]
   rw [dS _ i (by omega),e,bT (n:=1000) (by omega) (by omega)]
   refine Ev.pos (by omega) (Ev.pos (by omega) (Ev.bind (eg hg h hq hM) (Ev.bind (fl hmade.1 game hg).1 ?_)))
   rw [Int.toNat_natCast]
   by_cases c:je (LG game) game (az (cM game n t q)) n ring=0
   ·have hw:jV game n ring t q=true:=decide_eq_true c
    simp only [List.filter_cons,Int.toNat_natCast,hw,if_true,List.filter_nil] at go
    exact Ev.pos c (Ev.pos (by omega) go)
   ·have hw:jV game n ring t q=false:=decide_eq_false c
    simp only [List.filter_cons,Int.toNat_natCast,hw,List.filter_nil,Bool.false_eq_true,if_false,List.append_nil] at go
    exact Ev.neg c go
 unfold aW.f
 refine Ev.bind (fz h game hg).1 ?_
 rw [Int.toNat_natCast]
 exact main _ 0 (Nat.zero_add _)
theorem eG:Ev (fun k=>aq.f k n ring ((cF t:Nat):Int) game) (fC game n ring t):=by
 have h24:n≤24:=by have:=h.1;omega
 have hlen:=cz (bB game (az t) n ring) n
 have main:∀ d i,i+d=(bU (bB game (az t) n ring) n).length→Ev (fun k=>aq.l0 k ((cF t:Nat):Int) game (((bU (bB game (az t) n ring) n).take i).filter fun x=>jV game n ring t x.toNat) (bU (bB game (az t) n ring) n) (bU (bB game (az t) n ring) n).length i n ring) (fC game n ring t):=by
  intro d
  induction d with
  | zero =>
   intro i hi
   refine Ev.succ ?_
   simp only [aq.l0]
   rw [List.take_of_length_le (by omega)]
   exact Ev.neg (by omega) (Ev.now _)
  | succ d ih =>
   intro i hi
   have go:=ih (i+1) (by omega)
   obtain ⟨q,hq,hM,e⟩:=(b8 _ _ _).1 (List.getElem_mem (l:=bU (bB game (az t) n ring) n) (n:=i) (by omega))
   have hacc:(((bU (bB game (az t) n ring) n).take i).filter fun x=>jV game n ring t x.toNat).length≤i:=Nat.le_trans (List.length_filter_le _ _) (by simp;omega)
   have hmade:=eA hg h hq hM
   rw [List.take_add_one,List.getElem?_eq_getElem (by omega),Option.toList_some,List.filter_append,e] at go
   refine Ev.succ ?_
   simp only [aq.l0]
   rw [dS _ i (by omega),e,bT (n:=1000) (by omega) (by omega)]
   refine Ev.pos (by omega) (Ev.pos (by omega) (Ev.pos (by omega) (Ev.bind (eC hg h hq hM) (Ev.bind (fl hmade.1 game hg).2 ?_))))
   rw [Int.toNat_natCast]
   by_cases c:je (LG game) game (az (cM game n t q)) n ring=0
   ·have hw:jV game n ring t q=true:=decide_eq_true c
    simp only [List.filter_cons,Int.toNat_natCast,hw,if_true,List.filter_nil] at go
    exact Ev.pos c (Ev.pos (by omega) go)
   ·have hw:jV game n ring t q=false:=decide_eq_false c
    simp only [List.filter_cons,Int.toNat_natCast,hw,List.filter_nil,Bool.false_eq_true,if_false,List.append_nil] at go
    exact Ev.neg c go
 unfold aq.f
 refine Ev.bind (fz h game hg).2 ?_
 rw [Int.toNat_natCast]
 exact main _ 0 (Nat.zero_add _)
end
theorem nw {game:Int} (hg:game=1 ∨ game=2) (n:Nat) (ring:Bool) (d:Nat):∀ (t acc:List Int),cn n ring t→24<t.length+d→acc.length≤t.length →
  ∃ l:List Int,l.length≤24∧Ev (fun k=>aH.l0 k game acc n ring t) (l,true)∧Ev (fun k=>aJ.l0 k game acc ((cF t:Nat):Int) n ring) (l,true):=by
 induction d with
 | zero =>
  intro t acc h hd _
  have:=dk _ ring t h
  omega
 | succ d ih =>
  intro t acc h hd ha
  have hl:=dk _ ring t h
  have mv:=fz h game hg
  rw [Int.toNat_natCast] at mv
  by_cases hz:(bU (bB game (az t) n ring) n).length=0
  ·refine ⟨acc,by omega,Ev.succ ?_,Ev.succ ?_⟩
   ·simp only [aH.l0]
    exact Ev.bind mv.1 (Ev.pos (by omega) (Ev.now _))
   ·simp only [aJ.l0]
    exact Ev.bind mv.2 (Ev.pos (by omega) (Ev.now _))
  ·have next:∀ q:Nat,q<n→bB game (az t) n ring q=true→∃ l:List Int,l.length≤24∧Ev (fun k=>aH.l0 k game (acc++[(q:Int)]) n ring (cM game n t q)) (l,true)∧Ev (fun k=>aJ.l0 k game (acc++[(q:Int)]) ((cF (cM game n t q):Nat):Int) n ring) (l,true):=fun q hq hM=>by
    have hm:=eA hg h hq hM
    exact ih _ _ hm.1 (by omega) (by simp;omega)
   by_cases hw:(fC game n ring t).length=0
   ·obtain ⟨q,hq,hM,e⟩:=(b8 _ _ _).1 (List.getElem_mem (l:=bU (bB game (az t) n ring) n) (n:=0) (by omega))
    have e0:rd (bU (bB game (az t) n ring) n) 0=(q:Int):=(dS _ 0 (by omega)).trans e
    obtain ⟨l,hl',e1,e2⟩:=next q hq hM
    refine ⟨l,hl',Ev.succ ?_,Ev.succ ?_⟩
    ·simp only [aH.l0]
     refine Ev.bind mv.1 (Ev.neg (by omega) (Ev.pos (by omega) (Ev.bind (eF hg h) (Ev.neg (by omega) (Ev.pos (by omega) ?_)))))
     rw [e0]
     exact Ev.bind (eg hg h hq hM) e1
    ·simp only [aJ.l0]
     refine Ev.bind mv.2 (Ev.neg (by omega) (Ev.pos (by omega) (Ev.bind (eG hg h) (Ev.neg (by omega) (Ev.pos (by omega) ?_)))))
     rw [e0]
     exact Ev.bind (eC hg h hq hM) e2
   ·have hmem:=List.getElem_mem (l:=fC game n ring t) (n:=0) (by omega)
    obtain ⟨q,hq,hM,e⟩:=(b8 _ _ _).1 (List.mem_filter.1 hmem).1
    have e0:rd (fC game n ring t) 0=(q:Int):=(dS _ 0 (by omega)).trans e
    obtain ⟨l,hl',e1,e2⟩:=next q hq hM
    refine ⟨l,hl',Ev.succ ?_,Ev.succ ?_⟩
    ·simp only [aH.l0]
     refine Ev.bind mv.1 (Ev.neg (by omega) (Ev.pos (by omega) (Ev.bind (eF hg h) (Ev.pos (by omega) (Ev.pos (by omega) (Ev.pos (by omega) ?_))))))
     rw [e0]
     exact Ev.bind (eg hg h hq hM) e1
    ·simp only [aJ.l0]
     refine Ev.bind mv.2 (Ev.neg (by omega) (Ev.pos (by omega) (Ev.bind (eG hg h) (Ev.pos (by omega) (Ev.pos (by omega) (Ev.pos (by omega) ?_))))))
     rw [e0]
     exact Ev.bind (eC hg h hq hM) e2
open Classical in
theorem oH (s:Int) (ring:Bool) (t:List Int) (ht:t.length≤1048576) (g:Int):∃ (l:List Int) (b:Bool),l.length≤1048576∧Ev (fun k=>aH.f k s ring t g) (l,b)∧Ev (fun k=>aJ.f k s ring t g) (l,b):=by
 by_cases h:cn s ring t∧1≤g∧g≤2
 ·have hg:g=1 ∨ g=2:=by have:=h.2;omega
  obtain ⟨n,rfl,h2,h24,h3,hin⟩:=dW h.1
  obtain ⟨l,hl,e1,e2⟩:=nw hg n ring 25 t [] h.1 (by omega) (by simp)
  refine ⟨l,true,by omega,?_,?_⟩
  ·unfold aH.f
   refine Ev.have rfl (Ev.bind (ca _ ring t ht) (Ev.pos (decide_eq_true h.1) (Ev.have (cJ g) (Ev.succ ?_))))
   simp only [aH.j0]
   exact Ev.neg (by rw [decide_eq_true h.2];simp) e1
  ·unfold aJ.f
   exact Ev.bind (bI _ ring t ht g) (Ev.pos (decide_eq_true h) (Ev.have rfl (Ev.bind (Ev.bound t.length fun k hk=>cO _ ring t h.1 k hk) e2)))
 ·refine ⟨[],false,by simp,?_,?_⟩
  ·unfold aH.f
   refine Ev.have rfl (Ev.bind (ca s ring t ht) ?_)
   by_cases hr:cn s ring t
   ·refine Ev.pos (decide_eq_true hr) (Ev.have (cJ g) (Ev.succ ?_))
    simp only [aH.j0]
    exact Ev.pos (by rw [decide_eq_false fun e=>h ⟨hr,e⟩];rfl) (Ev.now _)
   ·refine Ev.neg (by rw [decide_eq_true_eq];exact hr) (Ev.succ ?_)
    simp only [aH.j0]
    exact Ev.pos True.intro (Ev.now _)
  ·unfold aJ.f
   exact Ev.bind (bI s ring t ht g) (Ev.neg (by rw [decide_eq_true_eq];exact h) (Ev.now _))
theorem pK (c j:Nat) (hc:c<9223372036854775808) (hj:j<64):(Go.bits .and .i64 (shr .i64 (c:Int) (j:Int)) 1=1) ↔ c.testBit j=true:=by
 have hd:c / 2 ^ j≤c:=Nat.div_le_self _ _
 have e1:shr .i64 (c:Int) (j:Int)=((c / 2 ^ j:Nat):Int):=by
  unfold shr
  rw [Int.toNat_natCast,show min j IntKind.i64.bits=j from Nat.min_eq_left (by show j≤64;omega)]
  simp
 have e2:Go.bits .and .i64 ((c / 2 ^ j:Nat):Int) 1=((c / 2 ^ j &&& 1:Nat):Int) :=
  (bits_nat .i64 63 (by decide) (fun n h h'=>by rw [IntKind.wrap_i64];omega) (c / 2 ^ j) 1 (by omega) (by decide)).1
 rw [e1,e2,Nat.and_one_is_mod,Nat.testBit_eq_decide_div_mod_eq,decide_eq_true_eq]
 omega
theorem im (m:Nat) (hm:m≤62):shl .i64 1 (m:Int)=((2 ^ m:Nat):Int):=by
 unfold shl
 rw [Int.one_mul,Int.toNat_natCast,show min m IntKind.i64.bits=m from Nat.min_eq_left (by show m≤64;omega)]
 have:2 ^ m≤2 ^ 62:=Nat.pow_le_pow_right (by omega) hm
 have e:((2 ^ m:Nat):Int)=(2:Int) ^ m:=by simp
 rw [← e,IntKind.wrap_i64]
 generalize 2 ^ m=y at *
 omega
def eR (S:Nat) (p:Nat):Bool:=!S.testBit p
def eh (g:Int) (n:Nat) (ring:Bool) (S:Nat):List Int:=bU (bB g (eR S) n ring) n
def dM (g:Int) (n S p:Nat):Nat:=S ||| gz g n p
def g9 (n S:Nat):Nat:=((List.range n).filter (eR S)).length
theorem oI {g:Int} (hg:g=1 ∨ g=2) {F:Nat→Bool} {n:Nat} {ring:Bool} {p:Nat} (h:bB g F n ring p=true):F p=true:=by
 rcases hg with rfl|rfl
 ·have h:cd F n ring p=true:=h
  unfold cd at h
  exact (Bool.and_eq_true_iff.1 h).1
 ·have h:(F p && F ((p+1) % n) && (ring || decide (p+1<n)))=true:=h
  exact (Bool.and_eq_true_iff.1 (Bool.and_eq_true_iff.1 h).1).1
theorem kL (g:Int) (n S p:Nat):(dM g n S p).testBit p=true:=by
 unfold dM gz
 split
 ·rw [Nat.testBit_or,Nat.testBit_two_pow]
  simp
 ·rw [Nat.testBit_or,Nat.testBit_or,Nat.testBit_two_pow]
  simp
theorem nx (g:Int) (n S p q:Nat) (h:S.testBit q=true):(dM g n S p).testBit q=true:=by
 unfold dM
 rw [Nat.testBit_or,h,Bool.true_or]
theorem kb (g:Int) {n S p:Nat} (hS:S<2 ^ n) (hp:p<n):dM g n S p<2 ^ n:=by
 have h1:2 ^ p<2 ^ n:=Nat.pow_lt_pow_right (by omega) hp
 have h2:2 ^ ((p+1) % n)<2 ^ n:=Nat.pow_lt_pow_right (by omega) (Nat.mod_lt _ (by omega))
 unfold dM gz
 split
 ·exact Nat.or_lt_two_pow hS h1
 ·exact Nat.or_lt_two_pow hS (Nat.or_lt_two_pow h1 h2)
theorem n6 {P P':Nat→Bool} (h:∀ q,P' q=true→P q=true):∀ l:List Nat,(l.filter P').length≤(l.filter P).length
 | []=>Nat.le_refl _
 | y :: l=>by
  have ih:=n6 h l
  by_cases g':P' y=true
  ·rw [List.filter_cons_of_pos g',List.filter_cons_of_pos (h y g')]
   simp only [List.length_cons]
   omega
  ·rw [List.filter_cons_of_neg g']
   by_cases g:P y=true
   ·rw [List.filter_cons_of_pos g]
    simp only [List.length_cons]
    omega
   ·rw [List.filter_cons_of_neg g]
    exact ih
theorem n7 {P P':Nat→Bool} (h:∀ q,P' q=true→P q=true) {x:Nat} (hx:P x=true) (hx':P' x=false):∀ l:List Nat,x ∈ l→(l.filter P').length<(l.filter P).length
 | [],hm=>absurd hm (by simp)
 | y :: l,hm=>by
  by_cases e:x=y
  ·subst e
   rw [List.filter_cons_of_neg (by rw [hx'];simp),List.filter_cons_of_pos hx]
   have:=n6 h l
   simp only [List.length_cons]
   omega
  ·have ih:=n7 h hx hx' l ((List.mem_cons.1 hm).resolve_left e)
   by_cases g':P' y=true
   ·rw [List.filter_cons_of_pos g',List.filter_cons_of_pos (h y g')]
    simp only [List.length_cons]
    omega
   ·rw [List.filter_cons_of_neg g']
    by_cases g:P y=true
    ·rw [List.filter_cons_of_pos g]
     simp only [List.length_cons]
     omega
    ·rw [List.filter_cons_of_neg g]
     exact ih
theorem me (g:Int) {n S p:Nat} (hp:p<n) (hf:eR S p=true):g9 n (dM g n S p)<g9 n S:=by
 unfold g9
 refine n7 (fun q hq=>?_) hf (by unfold eR;rw [kL];rfl) _ (List.mem_range.2 hp)
 unfold eR at hq ⊢
 cases e:S.testBit q with
 | false=>rfl
 | true =>
  rw [nx g n S p q e] at hq
  exact hq
theorem kc (n S:Nat):g9 n S≤n:=by
 have:=List.length_filter_le (eR S) (List.range n)
 simpa [g9] using this
def Wd (g:Int) (n:Nat) (ring:Bool):Nat→Nat→Bool
 | 0,_=>false
 | d+1,S=>decide ((eh g n ring S).length=0) || (eh g n ring S).any fun p=>!Wd g n ring d (dM g n S p.toNat)
theorem gB {g:Int} (hg:g=1 ∨ g=2) {n:Nat} {ring:Bool} {S:Nat} {x:Int} (h:x ∈ eh g n ring S):0≤x∧x.toNat<n∧x=(x.toNat:Int)∧eR S x.toNat=true∧bB g (eR S) n ring x.toNat=true:=by
 obtain ⟨q,hq,hM,rfl⟩:=(b8 _ _ _).1 h
 exact ⟨by omega,by omega,by omega,by simpa using oI hg hM,by simpa using hM⟩
theorem iU {l:List Int} {f f':Int→Bool} (h:∀ x ∈ l,f x=f' x):l.any f=l.any f':=by
 rw [Bool.eq_iff_iff,List.any_eq_true,List.any_eq_true]
 exact ⟨fun ⟨x,hx,e⟩=>⟨x,hx,(h x hx) ▸ e⟩,fun ⟨x,hx,e⟩=>⟨x,hx,(h x hx).symm ▸ e⟩⟩
theorem mf {g:Int} (hg:g=1 ∨ g=2) (n:Nat) (ring:Bool):∀ (d d' S:Nat),g9 n S<d→g9 n S<d'→Wd g n ring d S=Wd g n ring d' S
 | 0,_,_,h,_=>absurd h (by omega)
 | _,0,_,_,h=>absurd h (by omega)
 | d+1,d'+1,S,h,h'=>by
  unfold Wd
  refine congrArg (decide ((eh g n ring S).length=0) || ·) (iU fun x hx=>?_)
  obtain ⟨_,hx1,_,hx2,_⟩:=gB hg hx
  have:=me g hx1 hx2
  rw [mf hg n ring d d' (dM g n S x.toNat) (by omega) (by omega)]
theorem qh (g:Int) {n p:Nat} (hn:n≤24) (hp:p<n):gz g n p<4294967296:=by
 have p2:2 ^ p<2 ^ 32:=Nat.pow_lt_pow_right (by omega) (by omega)
 have q2:2 ^ ((p+1) % n)<2 ^ 32:=Nat.pow_lt_pow_right (by omega) (by have:=Nat.mod_lt (p+1) (show 0<n by omega);omega)
 unfold gz
 split
 ·exact p2
 ·exact Nat.or_lt_two_pow p2 q2
section
variable {n:Nat} {ring:Bool} (h2:2≤n) (h12:n≤12) {g:Int} (hg:g=1 ∨ g=2)
include h2 h12 hg
theorem oJ {S:Nat} (hS:S<2 ^ n) {p:Nat} (hp:p<n) (hM:bB g (eR S) n ring p=true):Ev (fun k=>a8.f k n ring (S:Int) g (p:Int)) ((dM g n S p:Nat):Int):=by
 have h32:2 ^ n<2 ^ 32:=Nat.pow_lt_pow_right (by omega) (by omega)
 obtain ⟨v,e,hv⟩:=ey h2 (by omega) hg (ring:=ring) (F:=eR S) (S:=S) (by omega) (fun q _=>by unfold eR;simp) p hp
 have hv2:v<4294967296:=by
  rw [hv hM]
  exact qh g (by omega) hp
 unfold a8.f
 refine Ev.bind e ?_
 dsimp only
 rw [gq _ _ (by omega) hv2,hv hM]
 exact Ev.now _
theorem m4 {S d:Nat} (hS:S<2 ^ n) {X:Int→Bool}:∀ (ps:List Int) (b:Bool),(∀ p ∈ ps,p ∈ eh g n ring S∧Ev (fun k=>aa.le k n ring g d ((dM g n S p.toNat:Nat):Int)) (X p))→Ev (fun k=>aa.lo (aa.le k n ring g d) n ring (S:Int) g k ps b) (b || ps.any fun p=>!X p)
 | [],b,_=>by
  simp only [aa.lo,List.any_nil,Bool.or_false]
  exact Ev.now _
 | p :: ps,b,hp=>by
  obtain ⟨h0,hX⟩:=hp p List.mem_cons_self
  obtain ⟨hx0,hx1,hx2,hx3,hx4⟩:=gB hg h0
  have h32:2 ^ n<2 ^ 32:=Nat.pow_lt_pow_right (by omega) (by omega)
  have hnx:=kb g hS hx1
  have ih:=fun b=>m4 (S:=S) (d:=d) hS (X:=X) ps b fun q hq=>hp q (List.mem_cons_of_mem _ hq)
  simp only [aa.lo]
  cases b with
  | true =>
   refine Ev.pos rfl ?_
   have:=ih true
   rw [Bool.true_or] at this ⊢
   exact this
  | false =>
   refine Ev.neg (by simp) ?_
   have hb:=oJ h2 h12 hg hS hx1 hx4
   rw [← hx2] at hb
   refine Ev.bind hb (Ev.pos ⟨by omega,by omega⟩ (Ev.bind hX ?_))
   have:=ih (!X p)
   rw [List.any_cons,Bool.false_or]
   exact this
theorem kM:∀ (d S:Nat),S<2 ^ n→g9 n S<d→Ev (fun k=>aa.le k n ring g d (S:Int)) (Wd g n ring d S)
 | 0,_,_,h=>absurd h (by omega)
 | d+1,S,hS,h=>by
  have h32:2 ^ n<2 ^ 32:=Nat.pow_lt_pow_right (by omega) (by omega)
  have hm:=gv h2 (by omega) hg (ring:=ring) (F:=eR S) (S:=S) (by omega) (fun q _=>by unfold eR;simp)
  have hlen:=cz (bB g (eR S) n ring) n
  simp only [aa.le]
  refine Ev.bind hm (Ev.pos (by omega) ?_)
  refine m4 h2 h12 hg hS (X:=fun p=>Wd g n ring d (dM g n S p.toNat)) _ _ fun p hp=>⟨hp,?_⟩
  obtain ⟨hx0,hx1,hx2,hx3,hx4⟩:=gB hg hp
  have:=me g hx1 hx3
  exact kM d _ (kb g hS hx1) (by omega)
end
def biI (b:Bool):Int:=if b=true then 1 else 0
theorem mg (a b:Nat) (ha:a<4294967296) (hb:b<4294967296):Go.bits .or .i64 (a:Int) (b:Int)=((a ||| b:Nat):Int) :=
 (bits_nat .i64 32 (by decide) (fun n h h'=>by rw [IntKind.wrap_i64];omega) a b ha hb).2
section
variable {n:Nat} {ring:Bool} (h2:2≤n) (h12:n≤12) {g:Int} (hg:g=1 ∨ g=2) {t0:List Int}
include h2 h12 hg
theorem m5 {c:Nat} {tab ms:List Int} (hc:c<2 ^ n) (hl:tab.length=2 ^ n) {X:Int→Bool} (hms:∀ p ∈ ms,p ∈ eh g n ring c∧rd tab ((dM g n c p.toNat:Nat):Int)=biI (X p)) (hml:ms.length≤12) {r:List Int} :
  ∀ d i b,i+d=ms.length→Ev (fun k=>ai.l0 k g (tab.set c (biI (b || (ms.drop i).any fun p=>!X p))) ((c:Int) - 1) n ring t0) r→Ev (fun k=>ai.l2 k g (tab.set c (biI b)) (c:Int) ms (i:Int) n ring t0) r
 | 0,i,b,hi,h=>by
  have hp12:2 ^ n≤2 ^ 12:=Nat.pow_le_pow_right (by omega) h12
  refine Ev.succ ?_
  simp only [ai.l2]
  refine Ev.neg (by omega) ?_
  rw [List.drop_eq_nil_of_le (by omega),List.any_nil,Bool.or_false] at h
  rw [cm (by omega) (by omega)]
  exact h
 | d+1,i,b,hi,h=>by
  have hp12:2 ^ n≤2 ^ 12:=Nat.pow_le_pow_right (by omega) h12
  have ih:=m5 (c:=c) (tab:=tab) (ms:=ms) hc hl (X:=X) hms hml (r:=r) d (i+1)
  have hm:=hms (ms[i]'(by omega)) (List.getElem_mem _)
  obtain ⟨hx0,hx1,hx2,hx3,hx4⟩:=gB hg hm.1
  have hnx:=kb g hc hx1
  have hne:dM g n c (ms[i]'(by omega)).toNat≠c:=fun e=>by
   have:=kL g n c (ms[i]'(by omega)).toNat
   rw [e] at this
   unfold eR at hx3
   rw [this] at hx3
   exact absurd hx3 (by simp)
  rw [List.drop_eq_getElem_cons (show i<ms.length from by omega),List.any_cons,← Bool.or_assoc] at h
  have hrd:rd (tab.set c (biI b)) ((dM g n c (ms[i]'(by omega)).toNat:Nat):Int)=biI (X (ms[i]'(by omega))):=by
   rw [← hm.2,iQ,iQ]
   simp only [List.getD,List.getElem?_set,if_neg (show ¬ c=dM g n c (ms[i]'(by omega)).toNat from fun e=>hne e.symm)]
  refine Ev.succ ?_
  simp only [ai.l2]
  refine Ev.pos (by omega) (Ev.pos (by omega) ?_)
  rw [dS ms i (by omega),bT (n:=ms.length) (by omega) (by omega)]
  generalize ms[i]'(by omega)=p at *
  refine Ev.pos (by omega) ?_
  have tail:Ev (fun k=>if rd (tab.set c (biI b)) ((dM g n c p.toNat:Nat):Int)=0 then (if 0≤(c:Int) then (if (c:Int)<((tab.set c (biI b)).length:Int) then (ai.l2 k g ((tab.set c (biI b)).set (c:Int).toNat 1) (c:Int) ms ((i+1:Nat):Int) n ring t0) else none) else none) else (ai.l2 k g (tab.set c (biI b)) (c:Int) ms ((i+1:Nat):Int) n ring t0)) r:=by
   rw [hrd]
   cases e:X p with
   | true =>
    rw [e] at h
    rw [Bool.not_true,Bool.or_false] at h
    exact Ev.neg (by simp [biI]) (ih b (by omega) h)
   | false =>
    rw [e] at h
    rw [Bool.not_false,Bool.or_true] at h
    refine Ev.pos (by simp [biI]) (Ev.pos (by omega) (Ev.pos (by rw [List.length_set];omega) ?_))
    rw [Int.toNat_natCast,List.set_set]
    exact ih true (by omega) h
  have hp2:2 ^ p.toNat<4294967296:=Nat.pow_lt_pow_right (a:=2) (n:=32) (by omega) (by omega)
  have e1:shl .i64 1 p=((2 ^ p.toNat:Nat):Int):=by
   have:=im p.toNat (by omega)
   rw [← hx2] at this
   exact this
  by_cases hg2:g=2
  ·have hq:(p.toNat+1) % n<n:=Nat.mod_lt _ (by omega)
   have hq2:2 ^ ((p.toNat+1) % n)<4294967296:=Nat.pow_lt_pow_right (a:=2) (n:=32) (by omega) (by omega)
   have et:Int.tmod (wrap64 (p+1)) (n:Int)=(((p.toNat+1) % n:Nat):Int):=by
    rw [show p=((p.toNat:Nat):Int) from hx2]
    simpa using ik p.toNat n hx1 (by omega)
   have hor:c ||| 2 ^ p.toNat<4294967296:=Nat.or_lt_two_pow (n:=32) (by omega) hp2
   have en:Go.bits .or .i64 (Go.bits .or .i64 (c:Int) (shl .i64 1 p)) (shl .i64 1 (Int.tmod (wrap64 (p+1)) (n:Int)))=((dM g n c p.toNat:Nat):Int):=by
    rw [e1,et,im _ (by omega),mg _ _ (by omega) hp2,mg _ _ hor hq2]
    unfold dM gz
    rw [if_neg (by omega),Nat.or_assoc]
   refine Ev.pos hg2 (Ev.neg (by omega) ?_)
   rw [en,et]
   exact Ev.pos (by omega) (Ev.pos (by omega) (Ev.pos (by rw [List.length_set];omega) tail))
  ·have en:Go.bits .or .i64 (c:Int) (shl .i64 1 p)=((dM g n c p.toNat:Nat):Int):=by
    rw [e1,mg _ _ (by omega) hp2]
    unfold dM gz
    rw [if_pos (by omega)]
   refine Ev.neg hg2 ?_
   rw [en]
   exact Ev.pos (by omega) (Ev.pos (by rw [List.length_set];omega) tail)
theorem m6 {c:Nat} {tab:List Int} (hc:c<2 ^ n) (hl:tab.length=2 ^ n) (h0:tab.getD c 0=0) {r:List Int}
  (h:Ev (fun k=>ai.l2 k g (tab.set c (biI (decide ((eh g n ring c).length=0)))) (c:Int) (eh g n ring c) 0 n ring t0) r) :
  ∀ d j,j+d=n→Ev (fun k=>ai.l1 k g tab (c:Int) (j:Int) n ring t0 n ring (bU (fun p=>c.testBit p) j)) r
 | 0,j,hj=>by
  have hp12:2 ^ n≤2 ^ 12:=Nat.pow_le_pow_right (by omega) h12
  have e:j=n:=by omega
  subst e
  have hlen:=cz (fun p=>c.testBit p) j
  have hm:=eQ h2 (by omega) hg (ring:=ring) (F:=eR c) (t:=bU (fun p=>c.testBit p) j) (by omega) (fun p hp=>by
   unfold eR
   rw [Bool.not_not,Bool.eq_iff_iff,decide_eq_true_eq,b8]
   constructor
   ·rintro ⟨q,hq,hb,e⟩
    have:q=p:=by omega
    exact this ▸ hb
   ·exact fun hb=>⟨p,hp,hb,rfl⟩)
  refine Ev.succ ?_
  simp only [ai.l1]
  refine Ev.neg (by omega) (Ev.bind hm ?_)
  by_cases g0:(eh g j ring c).length=0
  ·rw [decide_eq_true g0] at h
   refine Ev.pos (by unfold eh at g0;omega) (Ev.pos (by omega) (Ev.pos (by omega) ?_))
   refine Ev.succ ?_
   simp only [ai.j2]
   rw [Int.toNat_natCast]
   exact h
  ·rw [decide_eq_false g0] at h
   refine Ev.neg (by unfold eh at g0;omega) ?_
   refine Ev.succ ?_
   simp only [ai.j2]
   have e:tab.set c (biI false)=tab:=by
    have hg:tab[c]'(by omega)=0:=by
     have:=h0
     simpa [List.getD,show c<tab.length from by omega] using this
    refine List.ext_getElem? fun i=>?_
    by_cases gi:c=i
    ·subst gi
     rw [List.getElem?_set_self (by omega),List.getElem?_eq_getElem (by omega),hg]
     rfl
    ·rw [List.getElem?_set_ne gi]
   rw [e] at h
   exact h
 | d+1,j,hj=>by
  have hp12:2 ^ n≤2 ^ 12:=Nat.pow_le_pow_right (by omega) h12
  have ih:=m6 (tab:=tab) hc hl h0 h d (j+1) (by omega)
  have hlen:=cz (fun p=>c.testBit p) j
  rw [fk] at ih
  refine Ev.succ ?_
  simp only [ai.l1]
  refine Ev.pos (by omega) (Ev.pos (by omega) ?_)
  rw [bT (n:=n) (by omega) (by omega)]
  by_cases gb:c.testBit j=true
  ·rw [if_pos gb] at ih
   exact Ev.pos ((pK c j (by omega) (by omega)).2 gb) (Ev.pos (by omega) ih)
  ·rw [if_neg gb] at ih
   exact Ev.neg (fun e=>gb ((pK c j (by omega) (by omega)).1 e)) ih
theorem m7:∀ (c:Nat) (tab:List Int),c≤2 ^ n→tab.length=2 ^ n→(∀ i,i<c→tab.getD i 0=0)→(∀ i,c≤i→i<2 ^ n→tab.getD i 0=biI (Wd g n ring 13 i)) →
  ∃ tab',Ev (fun k=>ai.l0 k g tab ((c:Int) - 1) n ring t0) tab'∧tab'.length=2 ^ n∧∀ i,i<2 ^ n→tab'.getD i 0=biI (Wd g n ring 13 i)
 | 0,tab,_,hl,_,hg'=>⟨tab,by
   refine Ev.succ ?_
   simp only [ai.l0]
   exact Ev.neg (by omega) (Ev.now _),hl,fun i hi=>hg' i (Nat.zero_le _) hi⟩
 | c+1,tab,hc,hl,hz,hg'=>by
  have hp12:2 ^ n≤2 ^ 12:=Nat.pow_le_pow_right (by omega) h12
  have hlen:=cz (bB g (eR c) n ring) n
  have hgt:∀ p ∈ eh g n ring c,c<dM g n c p.toNat∧dM g n c p.toNat<2 ^ n∧Wd g n ring 12 (dM g n c p.toNat)=Wd g n ring 13 (dM g n c p.toNat):=fun p hp=>by
   obtain ⟨hx0,hx1,hx2,hx3,hx4⟩:=gB hg hp
   have h1:=me g hx1 hx3
   have h3:=kc n c
   have hle:c≤dM g n c p.toNat:=Nat.left_le_or
   have hne:dM g n c p.toNat≠c:=fun e=>by
    have:=kL g n c p.toNat
    rw [e] at this
    unfold eR at hx3
    rw [this] at hx3
    exact absurd hx3 (by simp)
   exact ⟨by omega,kb g (by omega) hx1,mf hg n ring 12 13 _ (by omega) (by omega)⟩
  have hW:Wd g n ring 13 c=(decide ((eh g n ring c).length=0) || (eh g n ring c).any fun p=>!Wd g n ring 13 (dM g n c p.toNat)):=by
   rw [Wd]
   refine congrArg (decide ((eh g n ring c).length=0) || ·) (iU fun x hx=>?_)
   rw [(hgt x hx).2.2]
  obtain ⟨tab',e,h1,h3⟩:=m7 c (tab.set c (biI (Wd g n ring 13 c))) (by omega) (by rw [List.length_set,hl]) (fun i hi=>by
   have:=hz i (by omega)
   simp only [List.getD,List.getElem?_set,if_neg (show ¬ c=i from by omega)] at this ⊢
   exact this) (fun i hi hi2=>by
   by_cases gi:i=c
   ·subst gi
    simp [List.getD,List.getElem?_set,show i<tab.length from by omega]
   ·have:=hg' i (by omega) hi2
    simp only [List.getD,List.getElem?_set,if_neg (show ¬ c=i from fun h=>gi h.symm)] at this ⊢
    exact this)
  refine ⟨tab',?_,h1,h3⟩
  rw [show ((c+1:Nat):Int) - 1=(c:Int) from by omega]
  refine Ev.succ ?_
  simp only [ai.l0]
  refine Ev.pos (by omega) ?_
  rw [cA.f]
  refine Ev.have rfl ?_
  refine m6 h2 h12 hg (by omega) hl (hz c (by omega)) ?_ _ 0 (Nat.zero_add _)
  refine m5 h2 h12 hg (by omega) hl (X:=fun p=>Wd g n ring 13 (dM g n c p.toNat)) (fun p hp=>⟨hp,?_⟩) (by unfold eh;omega) _ 0 _ (Nat.zero_add _) ?_
  ·rw [iQ]
   exact hg' _ (by have:=hgt p hp;omega) (hgt p hp).2.1
  ·rw [List.drop_zero,← hW]
   exact e
end
open Classical in
theorem n8 (s:Int) (ring:Bool) (t:List Int) (ht:t.length≤1048576):Ev (fun k=>db.f k s ring t) (decide (cn s ring t∧s≤12)):=by
 unfold db.f
 refine Ev.bind (ca s ring t ht) ?_
 by_cases h:cn s ring t
 ·refine Ev.pos (decide_eq_true h) ?_
  refine Ev.same (Ev.now _) ?_
  by_cases g:s≤12
  ·rw [decide_eq_true (by omega),decide_eq_true ⟨h,g⟩]
  ·rw [decide_eq_false (by omega),decide_eq_false (fun e=>g e.2)]
 ·refine Ev.neg (by rw [decide_eq_true_eq];exact h) ?_
  rw [decide_eq_false (fun e=>h e.1)]
  exact Ev.now _
theorem n9 {n:Nat} {ring:Bool} {g:Int} (h2:2≤n) (h12:n≤12) (hg:g=1 ∨ g=2) (t:List Int) (ht:t.length≤24) (hb:∀ x ∈ t,0≤x∧x<n) {r:Bool × Bool} (h:Ev (fun k=>(ai.f k n ring t g).bind fun tab=>(if 0≤((cF t:Nat):Int) then (if ((cF t:Nat):Int)<(tab.length:Int) then (some (((rd tab ((cF t:Nat):Int)) == 1),true)) else (none)) else (none))) r) :
  ∀ d i (S:Nat),i+d=t.length→S=(t.take i).foldl (fun s p=>s ||| 2 ^ p.toNat) 0→S<4096→Ev (fun k=>aT.l0 k g (S:Int) (i:Int) n ring t) r
 | 0,i,S,hi,hS,_=>by
  refine Ev.succ ?_
  simp only [aT.l0]
  refine Ev.neg (by omega) ?_
  rw [List.take_of_length_le (by omega)] at hS
  rw [show S=cF t from hS]
  exact h
 | d+1,i,S,hi,hS,hlt=>by
  have hx:=hb (t[i]'(by omega)) (List.getElem_mem _)
  have hp:2 ^ (t[i]'(by omega)).toNat<2 ^ 12:=Nat.pow_lt_pow_right (by omega) (by omega)
  refine Ev.succ ?_
  simp only [aT.l0]
  refine Ev.pos (by omega) (Ev.pos (by omega) ?_)
  rw [dS t i (by omega),bT (n:=t.length) (by omega) (by omega)]
  refine Ev.pos (by omega) ?_
  have e1:shl .i64 1 (t[i]'(by omega))=((2 ^ (t[i]'(by omega)).toNat:Nat):Int):=by
   have:=im (t[i]'(by omega)).toNat (by omega)
   rw [show (((t[i]'(by omega)).toNat:Nat):Int)=t[i]'(by omega) from by omega] at this
   exact this
  rw [e1,mg _ _ (by omega) (by omega)]
  refine n9 h2 h12 hg t ht hb h d (i+1) _ (by omega) ?_ (Nat.or_lt_two_pow (n:=12) hlt hp)
  rw [List.take_succ_eq_append_getElem (show i<t.length from by omega),List.foldl_append,← hS]
  rfl
open Classical in
theorem mh (s:Int) (ring:Bool) (t:List Int) (ht:t.length≤1048576) (g:Int):∃ (a b:Bool),Ev (fun k=>aT.f k s ring t g) (a,b)∧Ev (fun k=>aa.f k s ring t g) (a,b):=by
 by_cases h:(cn s ring t∧s≤12)∧(1≤g∧g≤2)
 ·obtain ⟨n,rfl,h2,h24,h3,hin⟩:=dW h.1.1
  have h12:n≤12:=by omega
  have hg:g=1 ∨ g=2:=by omega
  have hl:=dk _ ring t h.1.1
  have hp12:2 ^ n≤2 ^ 12:=Nat.pow_le_pow_right (by omega) h12
  have hp0:0<2 ^ n:=Nat.two_pow_pos n
  have hlt:cF t<2 ^ n:=by
   refine Nat.lt_pow_two_of_testBit _ fun i hi=>?_
   rw [cX,decide_eq_false_iff_not]
   rintro ⟨p,hp,e⟩
   have:=hin p hp
   omega
  have hleft:=kc n (cF t)
  obtain ⟨tab,e,h1,h4⟩:=m7 h2 h12 hg (ring:=ring) (t0:=t) (2 ^ n) (List.replicate (2 ^ n) 0) (Nat.le_refl _) (by simp) (fun i hi=>by rw [List.getD,List.getElem?_replicate,if_pos (by omega)];rfl) (fun i hi hi2=>absurd hi2 (by omega))
  refine ⟨Wd g n ring 13 (cF t),true,?_,?_⟩
  ·unfold aT.f
   refine Ev.bind (n8 n ring t ht) (Ev.pos (decide_eq_true h.1) (Ev.have (cJ g) ?_))
   refine Ev.succ ?_
   simp only [aT.j0]
   refine Ev.neg (by rw [decide_eq_true h.2];simp) ?_
   refine n9 (n:=n) h2 h12 hg t hl (fun x hx=>by have:=hin x hx;omega) ?_ t.length 0 0 (Nat.zero_add _) rfl (by omega)
   unfold ai.f
   rw [im n (by omega),Int.toNat_natCast]
   refine Ev.bind (Ev.pos (by omega) (Ev.pos (by omega) (Ev.pos (by omega) (Ev.have rfl ?_)))) (Ev.pos (by omega) (Ev.pos (by rw [h1];omega) ?_))
   ·rw [List.length_replicate,cm (by omega) (by omega)]
    exact e
   ·refine Ev.same (Ev.now _) (Prod.ext ?_ rfl)
    show (rd tab ((cF t:Nat):Int) == 1)=_
    rw [iQ,h4 _ hlt]
    cases Wd g n ring 13 (cF t) <;> rfl
  ·unfold aa.f
   refine Ev.bind (bI n ring t ht g) (Ev.pos (decide_eq_true ⟨h.1.1,h.2.1,h.2.2⟩) (Ev.neg (by omega) ?_))
   refine Ev.bind (Ev.bound t.length fun k hk=>cO n ring t h.1.1 k hk) (Ev.pos ⟨by omega,by omega⟩ ?_)
   exact Ev.bind (kM h2 h12 hg 13 (cF t) hlt (by omega)) (Ev.now _)
 ·refine ⟨false,false,?_,?_⟩
  ·unfold aT.f
   refine Ev.bind (n8 s ring t ht) ?_
   by_cases g1:cn s ring t∧s≤12
   ·refine Ev.pos (decide_eq_true g1) (Ev.have (cJ g) ?_)
    refine Ev.succ ?_
    simp only [aT.j0]
    refine Ev.pos ?_ (Ev.now _)
    rw [decide_eq_false (fun e=>h ⟨g1,e⟩)]
    rfl
   ·refine Ev.neg (by rw [decide_eq_true_eq];exact g1) ?_
    refine Ev.succ ?_
    simp only [aT.j0]
    exact Ev.pos True.intro (Ev.now _)
  ·unfold aa.f
   refine Ev.bind (bI s ring t ht g) ?_
   by_cases g1:cn s ring t∧1≤g∧g≤2
   ·refine Ev.pos (decide_eq_true g1) (Ev.pos ?_ (Ev.now _))
    have:¬ s≤12:=fun e=>h ⟨⟨g1.1,e⟩,g1.2⟩
    omega
   ·exact Ev.neg (by rw [decide_eq_true_eq];exact g1) (Ev.now _)
open Classical in
theorem oK (s:Int) (ring:Bool) (t:List Int) (ht:t.length≤1048576) (g:Int):∃ (l:List Int) (b:Bool),l.length≤1048576∧Ev (fun k=>cx.f k s ring t g) (l,b)∧Ev (fun k=>bK.f k s ring t g) (l,b):=by
 by_cases h:cn s ring t∧1≤g∧g≤2
 ·have hg:g=1 ∨ g=2:=by have:=h.2;omega
  obtain ⟨n,rfl,h2,h24,h3,hin⟩:=dW h.1
  have hl:=mc g n ring t
  refine ⟨fC g n ring t,true,by omega,?_,?_⟩
  ·unfold cx.f
   exact Ev.bind (ca _ ring t ht) (Ev.pos (decide_eq_true h.1) (Ev.have (cJ g) (Ev.pos (decide_eq_true h.2) (Ev.bind (eF hg h.1) (Ev.now _)))))
  ·unfold bK.f
   exact Ev.bind (bI _ ring t ht g) (Ev.pos (decide_eq_true h) (Ev.have rfl (Ev.bind (Ev.bound t.length fun k hk=>cO _ ring t h.1 k hk) (Ev.bind (eG hg h.1) (Ev.now _)))))
 ·refine ⟨[],false,by simp,?_,?_⟩
  ·unfold cx.f
   refine Ev.bind (ca s ring t ht) ?_
   by_cases hr:cn s ring t
   ·exact Ev.pos (decide_eq_true hr) (Ev.have (cJ g) (Ev.neg (by rw [decide_eq_true_eq];exact fun e=>h ⟨hr,e⟩) (Ev.now _)))
   ·exact Ev.neg (by rw [decide_eq_true_eq];exact hr) (Ev.now _)
  ·unfold bK.f
   exact Ev.bind (bI s ring t ht g) (Ev.neg (by rw [decide_eq_true_eq];exact h) (Ev.now _))
open Classical in
theorem pL (s:Int) (ring:Bool) (t:List Int) (ht:t.length≤1048576) (g:Int):∃ r:Bool × Bool,Ev (fun k=>dj.f k s ring t g) r∧Ev (fun k=>cR.f k s ring t g) r:=by
 obtain ⟨r,e2,hno,hyes⟩:=iT s ring t ht g
 refine ⟨(r.1 != 0,r.2),?_,?_⟩
 ·unfold dj.f
  refine Ev.bind (ca s ring t ht) ?_
  by_cases h:cn s ring t
  ·refine Ev.pos (decide_eq_true h) (Ev.have (cJ g) ?_)
   by_cases hg:1≤g∧g≤2
   ·rw [hyes ⟨h,hg⟩]
    exact Ev.pos (decide_eq_true hg) (Ev.bind (fl h g (by omega)).1 (Ev.now _))
   ·rw [hno fun e=>hg e.2]
    exact Ev.neg (by rw [decide_eq_true_eq];exact hg) (Ev.now _)
  ·rw [hno fun e=>h e.1]
   exact Ev.neg (by rw [decide_eq_true_eq];exact h) (Ev.now _)
 ·unfold cR.f
  exact Ev.bind e2 (Ev.now _)
open Classical in
theorem ny (s:Int) (ring:Bool) (t:List Int) (ht:t.length≤1048576) (g:Int):∃ (l:List Int) (b:Bool),l.length≤1048576∧Ev (fun k=>bP.f k s ring t g) (l,b)∧Ev (fun k=>bj.f k s ring t g) (l,b):=by
 by_cases h:cn s ring t∧1≤g∧g≤2
 ·have hl:=cz (bB g (az t) s.toNat ring) s.toNat
  have h24:=h.1.1
  refine ⟨bU (bB g (az t) s.toNat ring) s.toNat,true,by omega,?_,?_⟩
  ·unfold bP.f
   exact Ev.bind (ca s ring t ht) (Ev.pos (decide_eq_true h.1) (Ev.have (cJ g) (Ev.pos (decide_eq_true h.2) (Ev.bind (fz h.1 g (by omega)).1 (Ev.now _)))))
  ·unfold bj.f
   exact Ev.bind (bI s ring t ht g) (Ev.pos (decide_eq_true h) (Ev.have rfl (Ev.bind (Ev.bound t.length fun k hk=>cO s ring t h.1 k hk) (Ev.bind (fz h.1 g (by omega)).2 (Ev.now _)))))
 ·refine ⟨[],false,by simp,?_,?_⟩
  ·unfold bP.f
   refine Ev.bind (ca s ring t ht) ?_
   by_cases hr:cn s ring t
   ·exact Ev.pos (decide_eq_true hr) (Ev.have (cJ g) (Ev.neg (by rw [decide_eq_true_eq];exact fun e=>h ⟨hr,e⟩) (Ev.now _)))
   ·exact Ev.neg (by rw [decide_eq_true_eq];exact hr) (Ev.now _)
  ·unfold bj.f
   exact Ev.bind (bI s ring t ht g) (Ev.neg (by rw [decide_eq_true_eq];exact h) (Ev.now _))
theorem rG {g:Int} (hg:g=1 ∨ g=2) (m:Nat) (hm:m≤24):rd (LG g) (m:Int)=(LN g m:Int):=by
 have h:∀ m:Fin 25,rd (LG 1) (m.1:Int)=(LN 1 m.1:Int)∧rd (LG 2) (m.1:Int)=(LN 2 m.1:Int):=by decide +kernel
 have:=h ⟨m,by omega⟩
 rcases hg with rfl|rfl
 ·exact this.1
 ·exact this.2
theorem oL (a b:Nat) (ha:a<8) (hb:b<8):Go.bits .xor .i64 (a:Int) (b:Int)=((a ^^^ b:Nat):Int):=by
 have h:∀ a b:Fin 8,Go.bits .xor .i64 (a.1:Int) (b.1:Int)=((a.1 ^^^ b.1:Nat):Int):=by decide +kernel
 exact h ⟨a,ha⟩ ⟨b,hb⟩
theorem m8 {g:Int} (hg:g=1 ∨ g=2):∀ (R:List S72) (a:Nat),a<8→(∀ r ∈ R,0≤r.f1∧r.f1≤24)→l8 (LG g) R (a:Int)=((a ^^^ (R.map fun r=>LN g r.f1.toNat).foldr (fun a b=>a ^^^ b) 0:Nat):Int)
 | [],a,_,_=>by
  show (a:Int)=((a ^^^ 0:Nat):Int)
  rw [Nat.xor_zero]
 | r :: R,a,ha,hR=>by
  have hr:=hR r List.mem_cons_self
  have e:rd (LG g) r.f1=(LN g r.f1.toNat:Int):=by
   have:=rG hg r.f1.toNat (by omega)
   rwa [Int.toNat_of_nonneg hr.1] at this
  have h8:=n3 hg r.f1.toNat
  have ih:=m8 hg R (a ^^^ LN g r.f1.toNat) (Nat.xor_lt_two_pow (n:=3) ha h8) fun x hx=>hR x (List.mem_cons_of_mem _ hx)
  show l8 (LG g) R (Go.bits .xor .i64 (a:Int) (rd (LG g) r.f1))=_
  rw [e,oL a _ ha h8,ih,List.map_cons,List.foldr_cons,Nat.xor_assoc]
section
variable {g:Int} (hg:g=1 ∨ g=2) {n:Nat} {ring:Bool} (h2:2≤n) (h24:n≤24)
include hg h2 h24
theorem gI (F:Nat→Bool):je (LG g) g F n ring=((dN g F n ring:Nat):Int):=by
 unfold je dN
 by_cases hw:fB (bZ g F n ring) n ring
 ·rw [if_pos hw,if_pos (show ring=true∧∀ p,p<n→bZ g F n ring p=true from hw),rG hg _ (by omega),show iE g=dK g from rfl]
  by_cases c:LN g (n - dK g)=0
  ·rw [if_pos c,if_pos (by omega)];rfl
  ·rw [if_neg c,if_neg (by omega)];rfl
 ·have hno:¬ (ring=true∧∀ p,p<n→bZ g F n ring p=true):=hw
  have e:=m8 hg (eI (bZ g F n ring) n ring) 0 (by omega) fun r hr=>⟨(eB h2 h24 hno r hr).1,(eB h2 h24 hno r hr).2.1⟩
  rw [if_neg hw,if_neg hno]
  rw [Nat.zero_xor] at e
  refine e.trans ?_
  unfold pE eI
  rw [if_neg hno,il (LN g) (fun a b=>a ^^^ b) 0 Nat.zero_xor]
omit h2 h24 in
theorem m9:∀ (R:List S72) (a b:Nat),a+100 * R.length≤100000→b+100 * R.length≤100000→(∀ r ∈ R,0≤r.f1∧r.f1≤24)→iI g R (a:Int) (b:Int)=(((a+(R.map fun r=>fL g r.f1.toNat).foldr (fun a b=>a+b) 0:Nat):Int),((b+(R.map fun r=>eO g r.f1.toNat).foldr (fun a b=>a+b) 0:Nat):Int),true)
 | [],a,b,_,_,_=>rfl
 | r :: R,a,b,ha,hb,hR=>by
  have hr:=hR r List.mem_cons_self
  rw [List.length_cons] at ha hb
  have k1:∀ m:Fin 25,wrap64 (Int.tdiv (wrap64 ((m.1:Int)+1)) 3)=((m.1+1) / 3:Nat)∧wrap64 (Int.tdiv (wrap64 ((m.1:Int)+2)) 3)=((m.1+2) / 3:Nat)∧wrap64 (Int.tdiv (m.1:Int) 2)=(m.1 / 2:Nat)∧wrap64 (Int.tdiv (wrap64 ((m.1:Int)+1)) 2)=((m.1+1) / 2:Nat):=by decide +kernel
  have k:=k1 ⟨r.f1.toNat,by omega⟩
  have er:((r.f1.toNat:Nat):Int)=r.f1:=Int.toNat_of_nonneg hr.1
  dsimp only at k
  rw [er] at k
  have ea:iG g r.f1 (a:Int)=((a+fL g r.f1.toNat:Nat):Int):=by
   unfold iG fL
   rcases hg with rfl|rfl
   ·rw [if_neg (by decide),if_pos rfl,k.2.1,cm (by omega) (by omega)];omega
   ·rw [if_pos rfl,if_neg (by decide),k.1,cm (by omega) (by omega)];omega
  have eb:iH g r.f1 (b:Int)=((b+eO g r.f1.toNat:Nat):Int):=by
   unfold iH eO
   rcases hg with rfl|rfl
   ·rw [if_neg (by decide),if_pos rfl,k.2.2.2,cm (by omega) (by omega)];omega
   ·rw [if_pos rfl,if_neg (by decide),k.2.2.1,cm (by omega) (by omega)];omega
  have la:fL g r.f1.toNat≤24:=by unfold fL;split <;> omega
  have lb:eO g r.f1.toNat≤24:=by unfold eO;split <;> omega
  rw [iI,ea,eb,m9 R _ _ (by omega) (by omega) fun x hx=>hR x (List.mem_cons_of_mem _ hx)]
  simp only [List.map_cons,List.foldr_cons,Nat.add_assoc]
theorem pM (F:Nat→Bool):jf g F n ring=(((g7 g F n ring:Nat):Int),((fI g F n ring:Nat):Int),true):=by
 unfold jf g7 fI
 by_cases hw:fB (bZ g F n ring) n ring
 ·have k:∀ m:Fin 25,wrap64 (Int.tdiv (wrap64 ((m.1:Int)+2)) 3)=((m.1+2) / 3:Nat)∧wrap64 (Int.tdiv (m.1:Int) 2)=(m.1 / 2:Nat):=by decide +kernel
  have k:=k ⟨n,by omega⟩
  rw [if_pos hw,if_pos hw,if_pos (show ring=true∧∀ p,p<n→bZ g F n ring p=true from hw),k.1,k.2]
 ·have hno:¬ (ring=true∧∀ p,p<n→bZ g F n ring p=true):=hw
  have hl:=g4 h2 h24 (F:=bZ g F n ring) (ring:=ring)
  rw [if_neg hw,if_neg hw,if_neg hno]
  have e:=m9 hg (eI (bZ g F n ring) n ring) 0 0 (by omega) (by omega) fun r hr=>⟨(eB h2 h24 hno r hr).1,(eB h2 h24 hno r hr).2.1⟩
  rw [Nat.zero_add,Nat.zero_add] at e
  refine e.trans ?_
  unfold pE eI
  rw [if_neg hno,il (fL g) (fun a b=>a+b) 0 Nat.zero_add,il (eO g) (fun a b=>a+b) 0 Nat.zero_add]
end
section
variable {g:Int} (hg:g=1 ∨ g=2) {n:Nat} {ring:Bool} {t:List Int} (h:cn n ring t)
include hg h
omit hg in
theorem eS:2≤n∧n≤24∧(ring=true→3≤n):=by have:=h.1;have:=h.2.1;exact ⟨by omega,by omega,fun e=>by have:=h.2.1 e;omega⟩
open Classical in
theorem gC:Ev (fun k=>bj.f k n ring t g) (bU (bB g (az t) n ring) n,true)∧Ev (fun k=>bP.f k n ring t g) (bU (bB g (az t) n ring) n,true):=by
 have hl:=dk _ ring t h
 have hm:=fz h g hg
 rw [Int.toNat_natCast] at hm
 constructor
 ·unfold bj.f
  exact Ev.bind (bI _ ring t (by omega) g) (Ev.pos (decide_eq_true ⟨h,by omega⟩) (Ev.have rfl (Ev.bind (Ev.bound t.length fun k hk=>cO _ ring t h k hk) (Ev.bind hm.2 (Ev.now _)))))
 ·unfold bP.f
  exact Ev.bind (ca _ ring t (by omega)) (Ev.pos (decide_eq_true h) (Ev.have (cJ g) (Ev.pos (decide_eq_true (by omega)) (Ev.bind hm.1 (Ev.now _)))))
open Classical in
theorem na:Ev (fun k=>bK.f k n ring t g) (fC g n ring t,true)∧Ev (fun k=>cx.f k n ring t g) (fC g n ring t,true):=by
 have hl:=dk _ ring t h
 constructor
 ·unfold bK.f
  exact Ev.bind (bI _ ring t (by omega) g) (Ev.pos (decide_eq_true ⟨h,by omega⟩) (Ev.have rfl (Ev.bind (Ev.bound t.length fun k hk=>cO _ ring t h k hk) (Ev.bind (eG hg h) (Ev.now _)))))
 ·unfold cx.f
  exact Ev.bind (ca _ ring t (by omega)) (Ev.pos (decide_eq_true h) (Ev.have (cJ g) (Ev.pos (decide_eq_true (by omega)) (Ev.bind (eF hg h) (Ev.now _)))))
open Classical in
theorem ga:Ev (fun k=>a9.f k n ring t g) (((dN g (az t) n ring:Nat):Int),true)∧Ev (fun k=>ck.f k n ring t g) (((dN g (az t) n ring:Nat):Int),true):=by
 obtain ⟨h2,h24,h3⟩:=eS h
 have hl:=dk _ ring t h
 have hn:=fl h g hg
 rw [Int.toNat_natCast,gI hg h2 h24] at hn
 constructor
 ·unfold a9.f
  exact Ev.bind (bI _ ring t (by omega) g) (Ev.pos (decide_eq_true ⟨h,by omega⟩) (Ev.have rfl (Ev.bind (Ev.bound t.length fun k hk=>cO _ ring t h k hk) (Ev.bind hn.2 (Ev.now _)))))
 ·unfold ck.f
  exact Ev.bind (ca _ ring t (by omega)) (Ev.pos (decide_eq_true h) (Ev.have (cJ g) (Ev.pos (decide_eq_true (by omega)) (Ev.bind hn.1 (Ev.now _)))))
open Classical in
theorem oa:Ev (fun k=>cR.f k n ring t g) (((dN g (az t) n ring:Nat):Int) != 0,true)∧Ev (fun k=>dj.f k n ring t g) (((dN g (az t) n ring:Nat):Int) != 0,true):=by
 obtain ⟨h2,h24,h3⟩:=eS h
 have hl:=dk _ ring t h
 have hn:=fl h g hg
 rw [Int.toNat_natCast,gI hg h2 h24] at hn
 constructor
 ·unfold cR.f
  exact Ev.bind (ga hg h).1 (Ev.now _)
 ·unfold dj.f
  exact Ev.bind (ca _ ring t (by omega)) (Ev.pos (decide_eq_true h) (Ev.have (cJ g) (Ev.pos (decide_eq_true (by omega)) (Ev.bind hn.1 (Ev.now _)))))
open Classical in
theorem jS:Ev (fun k=>aw.f k n ring t g) (((g7 g (az t) n ring:Nat):Int),((fI g (az t) n ring:Nat):Int),true)∧Ev (fun k=>af.f k n ring t g) (((g7 g (az t) n ring:Nat):Int),((fI g (az t) n ring:Nat):Int),true):=by
 obtain ⟨h2,h24,h3⟩:=eS h
 have hl:=dk _ ring t h
 have hin:=(dW h)
 have hin2:∀ x ∈ t,0≤x∧x<n:=fun x hx=>by have:=du t _ _ h.2.2 x hx;omega
 have hT:∀ p,p<n→decide ((p:Int) ∈ t)=!az t p:=fun p _=>by unfold az;simp
 have j1:=jg hg (F:=az t) (ring:=ring) h2 h24 t
 have spec:Ev (fun k=>af.f k n ring t g) (jf g (az t) n ring):=by
  unfold af.f
  refine Ev.bind (ca _ ring t (by omega)) (Ev.pos (decide_eq_true h) (Ev.have (cJ g) (Ev.succ ?_)))
  simp only [af.j0]
  refine Ev.neg (by rw [decide_eq_true (show 1≤g∧g≤2 by omega)];simp) (Ev.bind (fN h2 h24 (by omega) hT hin2) ?_)
  rcases hg with rfl|rfl
  ·exact Ev.pos rfl (Ev.bind (f7 h24 (by omega) hT h2) j1)
  ·exact Ev.neg (by omega) j1
 obtain ⟨a,b,c,e1,e2⟩:=lK n ring t (by omega) g
 rw [pM hg h2 h24] at spec
 have:=Ev.uniq e1 spec
 rw [this] at e2
 exact ⟨e2,spec⟩
open Classical in
theorem jh {q:Nat} (hq:q<n) (hM:bB g (az t) n ring q=true):Ev (fun k=>aU.f k n ring t g (q:Int)) ((n:Int),ring,cM g n t q,true):=by
 obtain ⟨h2,h24,h3⟩:=eS h
 have hl:=dk _ ring t h
 obtain ⟨s',r',l,b,_,e1,e2⟩:=lL n ring t (by omega) g q
 have hmv:=eQ (ring:=ring) h2 h24 hg (t:=t) (by omega) (F:=az t) (fun p _=>by unfold az;simp)
 have hlen:=cz (bB g (az t) n ring) n
 have has:Ev (fun k=>bo.f k (bU (bB g (az t) n ring) n) (q:Int)) (decide ((q:Int) ∈ bU (bB g (az t) n ring) n)):=Ev.bound n fun k hk=>el _ _ (by omega) k (by omega)
 have spec:Ev (fun k=>ch.f k n ring t g (q:Int)) ((n:Int),ring,cM g n t q,true):=by
  unfold ch.f
  refine Ev.bind (ca _ ring t (by omega)) (Ev.pos (decide_eq_true h) (Ev.have (cJ g) (Ev.pos (decide_eq_true (by omega)) (Ev.bind hmv (Ev.bind has (Ev.pos (decide_eq_true ((b8 _ _ _).2 ⟨q,hq,hM,rfl⟩)) ?_))))))
  exact Ev.bind (eg hg h hq hM) (Ev.now _)
 have:=Ev.uniq e1 spec
 rw [this] at e2
 exact e2
def jy (g:Int) (n:Nat) (ring:Bool):List Int→List Int→Prop
 | [],t=>∀ p,p<n→¬ bB g (az t) n ring p=true
 | x :: l,t=>∃ q:Nat,x=(q:Int)∧q<n∧bB g (az t) n ring q=true∧jy g n ring l (cM g n t q)
omit h in
theorem nz (n:Nat) (ring:Bool) (d:Nat):∀ (t acc:List Int),cn n ring t→24<t.length+d→acc.length≤t.length →
  ∃ l:List Int,(acc++l).length≤24∧Ev (fun k=>aH.l0 k g acc n ring t) (acc++l,true)∧Ev (fun k=>aJ.l0 k g acc ((cF t:Nat):Int) n ring) (acc++l,true)∧jy g n ring l t∧(l.length % 2=1 ↔ dN g (az t) n ring≠0)∧g7 g (az t) n ring≤l.length∧l.length≤fI g (az t) n ring:=by
 induction d with
 | zero =>
  intro t acc h hd _
  have:=dk _ ring t h
  omega
 | succ d ih =>
  intro t acc h hd ha
  obtain ⟨h2,h24,h3⟩:=eS h
  obtain ⟨mx1,mx2,mx3,mx4⟩:=l9 hg h24 h2 h3 t
  have hl:=dk _ ring t h
  have mv:=fz h g hg
  rw [Int.toNat_natCast] at mv
  by_cases hz:(bU (bB g (az t) n ring) n).length=0
  ·have hno:∀ p,p<n→¬ bB g (az t) n ring p=true:=fun p hp hM=>by
    have:=(b8 (bB g (az t) n ring) n (p:Int)).2 ⟨p,hp,hM,rfl⟩
    rw [List.length_eq_zero_iff.1 hz] at this
    cases this
   have h0:dN g (az t) n ring=0:=Classical.byContradiction fun e=>by
    obtain ⟨p,hp,hM,_⟩:=mx3 0 (by omega)
    exact hno p hp hM
   refine ⟨[],by rw [List.append_nil];omega,?_,?_,hno,by rw [h0];simp,by rw [mx4 hno];simp,Nat.zero_le _⟩
   ·rw [List.append_nil]
    refine Ev.succ ?_
    simp only [aH.l0]
    exact Ev.bind mv.1 (Ev.pos (by omega) (Ev.now _))
   ·rw [List.append_nil]
    refine Ev.succ ?_
    simp only [aJ.l0]
    exact Ev.bind mv.2 (Ev.pos (by omega) (Ev.now _))
  ·have next:∀ q:Nat,q<n→bB g (az t) n ring q=true→(dN g (az t) n ring≠0→dN g (az (cM g n t q)) n ring=0)→∃ l:List Int,(acc++l).length≤24∧Ev (fun k=>aH.l0 k g (acc++[(q:Int)]) n ring (cM g n t q)) (acc++l,true)∧Ev (fun k=>aJ.l0 k g (acc++[(q:Int)]) ((cF (cM g n t q):Nat):Int) n ring) (acc++l,true)∧jy g n ring l t∧(l.length % 2=1 ↔ dN g (az t) n ring≠0)∧g7 g (az t) n ring≤l.length∧l.length≤fI g (az t) n ring:=fun q hq hM hwin=>by
    have hm:=eA hg h hq hM
    obtain ⟨l,h1,e1,e2,hp,hpar,hlo,hhi⟩:=ih (cM g n t q) (acc++[(q:Int)]) hm.1 (by omega) (by simp;omega)
    obtain ⟨b1,b2,b3⟩:=mx2 q hq hM
    rw [List.append_assoc,List.singleton_append] at h1 e1 e2
    refine ⟨(q:Int) :: l,h1,e1,e2,⟨q,rfl,hq,hM,hp⟩,?_,by rw [List.length_cons];omega,by rw [List.length_cons];omega⟩
    rw [List.length_cons]
    constructor
    ·intro e hz
     have:dN g (az (cM g n t q)) n ring≠0:=by omega
     have:=hpar.2 this
     omega
    ·intro e
     have h0:=hwin e
     have:¬ l.length % 2=1:=fun e2=>hpar.1 e2 h0
     omega
   by_cases hw:(fC g n ring t).length=0
   ·obtain ⟨q,hq,hM,e⟩:=(b8 _ _ _).1 (List.getElem_mem (l:=bU (bB g (az t) n ring) n) (n:=0) (by omega))
    have e0:rd (bU (bB g (az t) n ring) n) 0=(q:Int):=(dS _ 0 (by omega)).trans e
    have hnone:dN g (az t) n ring=0:=Classical.byContradiction fun c=>by
     obtain ⟨p,hp,hMp,ez⟩:=mx3 0 (by omega)
     have:(p:Int) ∈ fC g n ring t:=List.mem_filter.2 ⟨(b8 _ _ _).2 ⟨p,hp,hMp,rfl⟩,by unfold jV;rw [Int.toNat_natCast,gI hg h2 h24,ez];rfl⟩
     rw [List.length_eq_zero_iff.1 hw] at this
     cases this
    obtain ⟨l,h1,e1,e2,hrest⟩:=next q hq hM (fun c=>absurd hnone c)
    refine ⟨l,h1,Ev.succ ?_,Ev.succ ?_,hrest⟩
    ·simp only [aH.l0]
     refine Ev.bind mv.1 (Ev.neg (by omega) (Ev.pos (by omega) (Ev.bind (eF hg h) (Ev.neg (by omega) (Ev.pos (by omega) ?_)))))
     rw [e0]
     exact Ev.bind (eg hg h hq hM) e1
    ·simp only [aJ.l0]
     refine Ev.bind mv.2 (Ev.neg (by omega) (Ev.pos (by omega) (Ev.bind (eG hg h) (Ev.neg (by omega) (Ev.pos (by omega) ?_)))))
     rw [e0]
     exact Ev.bind (eC hg h hq hM) e2
   ·have hmem:=List.getElem_mem (l:=fC g n ring t) (n:=0) (by omega)
    obtain ⟨hmem1,hmem2⟩:=List.mem_filter.1 hmem
    obtain ⟨q,hq,hM,e⟩:=(b8 _ _ _).1 hmem1
    have e0:rd (fC g n ring t) 0=(q:Int):=(dS _ 0 (by omega)).trans e
    have hz:dN g (az (cM g n t q)) n ring=0:=by
     rw [e,Int.toNat_natCast] at hmem2
     have:=of_decide_eq_true hmem2
     rw [gI hg h2 h24] at this
     omega
    obtain ⟨l,h1,e1,e2,hrest⟩:=next q hq hM (fun _=>hz)
    refine ⟨l,h1,Ev.succ ?_,Ev.succ ?_,hrest⟩
    ·simp only [aH.l0]
     refine Ev.bind mv.1 (Ev.neg (by omega) (Ev.pos (by omega) (Ev.bind (eF hg h) (Ev.pos (by omega) (Ev.pos (by omega) (Ev.pos (by omega) ?_))))))
     rw [e0]
     exact Ev.bind (eg hg h hq hM) e1
    ·simp only [aJ.l0]
     refine Ev.bind mv.2 (Ev.neg (by omega) (Ev.pos (by omega) (Ev.bind (eG hg h) (Ev.pos (by omega) (Ev.pos (by omega) (Ev.pos (by omega) ?_))))))
     rw [e0]
     exact Ev.bind (eC hg h hq hM) e2
open Classical in
theorem pN:∃ l:List Int,l.length≤24∧Ev (fun k=>aJ.f k n ring t g) (l,true)∧Ev (fun k=>aH.f k n ring t g) (l,true)∧jy g n ring l t∧(l.length % 2=1 ↔ dN g (az t) n ring≠0)∧g7 g (az t) n ring≤l.length∧l.length≤fI g (az t) n ring:=by
 have hl:=dk _ ring t h
 obtain ⟨l,h1,e1,e2,hrest⟩:=nz hg n ring 25 t [] h (by omega) (by simp)
 rw [List.nil_append] at h1 e1 e2
 refine ⟨l,h1,?_,?_,hrest⟩
 ·unfold aJ.f
  exact Ev.bind (bI _ ring t (by omega) g) (Ev.pos (decide_eq_true ⟨h,by omega⟩) (Ev.have rfl (Ev.bind (Ev.bound t.length fun k hk=>cO _ ring t h k hk) e2)))
 ·unfold aH.f
  refine Ev.have rfl (Ev.bind (ca _ ring t (by omega)) (Ev.pos (decide_eq_true h) (Ev.have (cJ g) (Ev.succ ?_))))
  simp only [aH.j0]
  exact Ev.neg (by rw [decide_eq_true (show 1≤g∧g≤2 by omega)];simp) e1
open Classical in
theorem jT (h12:n≤12):Ev (fun k=>aa.f k n ring t g) (Wd g n ring 13 (cF t),true):=by
 obtain ⟨h2,h24,h3⟩:=eS h
 have hl:=dk _ ring t h
 have hin:∀ x ∈ t,0≤x∧x<n:=fun x hx=>by have:=du t _ _ h.2.2 x hx;omega
 have hp12:2 ^ n≤2 ^ 12:=Nat.pow_le_pow_right (by omega) h12
 have hlt:cF t<2 ^ n:=by
  refine Nat.lt_pow_two_of_testBit _ fun i hi=>?_
  rw [cX,decide_eq_false_iff_not]
  rintro ⟨p,hp,e⟩
  have:=hin p hp
  omega
 have hleft:=kc n (cF t)
 unfold aa.f
 refine Ev.bind (bI n ring t (by omega) g) (Ev.pos (decide_eq_true ⟨h,by omega⟩) (Ev.neg (by omega) ?_))
 refine Ev.bind (Ev.bound t.length fun k hk=>cO n ring t h k hk) (Ev.pos ⟨by omega,by omega⟩ ?_)
 exact Ev.bind (kM h2 h12 hg 13 (cF t) hlt (by omega)) (Ev.now _)
theorem nA:eh g n ring (cF t)=bU (bB g (az t) n ring) n:=by
 obtain ⟨h2,h24,h3⟩:=eS h
 have hlt:=(f6 _ ring t h).2
 have e1:=gv h2 h24 hg (ring:=ring) (F:=eR (cF t)) hlt (fun p _=>by unfold eR;simp)
 have e2:=(fz h g hg).2
 rw [Int.toNat_natCast] at e2
 exact Ev.uniq e1 e2
theorem oM {q:Nat} (hq:q<n) (hM:bB g (az t) n ring q=true):dM g n (cF t) q=cF (cM g n t q):=(eA hg h hq hM).2.2
theorem mi (h12:n≤12):Wd g n ring 13 (cF t)=(decide ((bU (bB g (az t) n ring) n).length=0) || (bU (bB g (az t) n ring) n).any fun x=>!Wd g n ring 13 (cF (cM g n t x.toNat))):=by
 have hleft:=kc n (cF t)
 rw [mf hg n ring 13 14 (cF t) (by omega) (by omega)]
 show (decide ((eh g n ring (cF t)).length=0) || (eh g n ring (cF t)).any fun p=>!Wd g n ring 13 (dM g n (cF t) p.toNat))=_
 rw [nA hg h]
 refine congrArg (decide ((bU (bB g (az t) n ring) n).length=0) || ·) (iU fun x hx=>?_)
 obtain ⟨q,hq,hM,rfl⟩:=(b8 _ _ _).1 hx
 rw [Int.toNat_natCast,oM hg h hq hM]
end
def jW (n:Nat) (t:List Int):List Int:=(t.map fun x=>(n:Int) - 1 - x).reverse
theorem qi (n:Nat) (t:List Int):cF (t.map fun x=>(n:Int) - 1 - x)=cF (jW n t):=mS _ _ fun i=>by
 rw [cX,decide_eq_true_eq]
 exact ⟨fun ⟨p,hp,e⟩=>⟨p,List.mem_reverse.2 hp,e⟩,fun ⟨p,hp,e⟩=>⟨p,List.mem_reverse.1 hp,e⟩⟩
theorem ob {n:Nat} {ring:Bool} {t:List Int} (h:cn n ring t):cn n ring (jW n t):=by
 have hin:∀ x ∈ t,0≤x∧x<n:=fun x hx=>by have:=du t _ _ h.2.2 x hx;omega
 refine ⟨h.1,h.2.1,lF _ _ _ ?_ fun x hx=>?_⟩
 ·unfold jW
  rw [List.pairwise_reverse,List.pairwise_map]
  exact (eE h).imp fun e=>by omega
 ·obtain ⟨y,hy,e⟩:=List.mem_map.1 (List.mem_reverse.1 hx)
  have:=hin y hy
  omega
theorem pO {n:Nat} {t:List Int} (p:Nat) (hp:p<n):az (jW n t) p=az t (n - 1 - p):=by
 unfold az jW
 rw [Bool.not_inj_iff,decide_eq_decide,List.mem_reverse,List.mem_map]
 constructor
 ·rintro ⟨x,hx,e⟩
  rwa [show ((n - 1 - p:Nat):Int)=x from by omega]
 ·intro hx
  exact ⟨_,hx,by omega⟩
open Classical in
theorem nB {n:Nat} {ring:Bool} {t:List Int} (h:cn n ring t):Ev (fun k=>cj.f k n ring t) ((n:Int),ring,jW n t,true):=by
 have h1:=h.1
 have hl:=dk _ ring t h
 have hin:∀ x ∈ t,0≤x∧x<n:=fun x hx=>by have:=du t _ _ h.2.2 x hx;omega
 have hm:=ob h
 have hml:=dk _ ring _ hm
 have hmem:=du _ _ _ hm.2.2
 have fin:Ev (fun k=>(bd.f (n:Int) ring t).bind fun b=>(bE.f k b.1 b.2 ((cF (jW n t):Nat):Int)).bind fun c=>some (c.1,c.2.1,c.2.2)) ((n:Int),ring,jW n t):=by
  refine Ev.have rfl (Ev.bind (a:=((n:Int),ring,jW n t)) ?_ (Ev.now _))
  unfold bE.f
  exact Ev.bind (jR _ (eE hm) (fun x hx=>by have:=hmem x hx;omega) (by omega)) (Ev.now _)
 have main:∀ d i:Nat,i+d=t.length→Ev (fun k=>aM.l0 k n ((cF ((t.take i).map fun x=>(n:Int) - 1 - x):Nat):Int) t t.length (i:Int) n ring t) ((n:Int),ring,jW n t):=by
  intro d
  induction d with
  | zero =>
   intro i hi
   refine Ev.succ ?_
   simp only [aM.l0]
   rw [List.take_of_length_le (by omega),qi]
   exact Ev.neg (by omega) fin
  | succ d ih =>
   intro i hi
   have go:=ih (i+1) (by omega)
   have hx:=hin (t[i]'(by omega)) (List.getElem_mem _)
   have hb:∀ y ∈ (t.take i).map (fun x=>(n:Int) - 1 - x),0≤y∧y<32:=fun y hy=>by
    obtain ⟨x,hx,e⟩:=List.mem_map.1 hy
    have:=hin x (List.mem_of_mem_take hx)
    omega
   have hlt:cF ((t.take i).map fun x=>(n:Int) - 1 - x)<2 ^ 32:=by
    refine Nat.lt_pow_two_of_testBit _ fun j hj=>?_
    rw [cX,decide_eq_false_iff_not]
    rintro ⟨p,hp,e⟩
    have:=hb p hp
    omega
   have p2:2 ^ ((n:Int) - 1 - t[i]'(by omega)).toNat<2 ^ 32:=Nat.pow_lt_pow_right (by omega) (by omega)
   refine Ev.succ ?_
   simp only [aM.l0]
   rw [dS t i (by omega),bT (n:=1000) (by omega) (by omega),cm (x:=(n:Int) - 1) (by omega) (by omega),cm (x:=(n:Int) - 1 - _) (by omega) (by omega)]
   refine Ev.pos (by omega) (Ev.pos (by omega) (Ev.pos (by omega) (Ev.have rfl (Ev.pos (by omega) ?_))))
   rw [gr _ (by omega) (by omega),gq _ _ hlt p2]
   rw [List.take_succ_eq_append_getElem (show i<t.length from by omega),List.map_append,List.map_singleton] at go
   unfold cF at go ⊢
   rw [List.foldl_append] at go
   exact go
 unfold cj.f
 refine Ev.bind (Ev.bound (t.length+3) fun k hk=>iD _ ring t (by omega) k hk) (Ev.pos (decide_eq_true h) ?_)
 refine Ev.bind (a:=((n:Int),ring,jW n t)) ?_ (Ev.now _)
 unfold aM.f
 exact main t.length 0 (by omega)
theorem qj (l:List Int) (x:Int) (hl:l.length≤1048576) (d:Nat):∀ i:Nat,i+d=l.length→x ∉ l.take i→Ev (fun k=>b7.l0 k l x (i:Int)) (decide (x ∈ l)):=by
 induction d with
 | zero =>
  intro i hi hx
  refine Ev.succ ?_
  simp only [b7.l0]
  rw [List.take_of_length_le (by omega)] at hx
  exact Ev.neg (by omega) (Ev.same (Ev.now _) (decide_eq_false hx).symm)
 | succ d ih =>
  intro i hi hx
  refine Ev.succ ?_
  simp only [b7.l0]
  refine Ev.pos (by omega) (Ev.pos (by omega) ?_)
  rw [dS l i (by omega)]
  by_cases g:l[i]=x
  ·exact Ev.pos g (Ev.same (Ev.now _) (decide_eq_true (g ▸ List.getElem_mem _)).symm)
  ·refine Ev.neg g ?_
   rw [bT (n:=l.length) (by omega) (by omega)]
   refine ih (i+1) (by omega) ?_
   rw [List.take_succ_eq_append_getElem (by omega),List.mem_append,List.mem_singleton]
   exact fun e=>e.elim hx fun e=>g e.symm
theorem rW (l:List Int) (x:Int) (hl:l.length≤1048576):Ev (fun k=>b7.f k l x) (decide (x ∈ l)):=by
 unfold b7.f
 exact qj l x hl l.length 0 (by omega) (by simp)
theorem hC (L:List Int) (hL:L.length≤1000):Ev (fun k=>bN.f k L L) true:=by
 have main:∀ d i,i+d=L.length→Ev (fun k=>bN.l0 k L L i) true:=by
  intro d
  induction d with
  | zero =>
   intro i hi
   refine Ev.succ ?_
   simp only [bN.l0]
   exact Ev.neg (by omega) (Ev.now _)
  | succ d ih =>
   intro i hi
   have go:=ih (i+1) (by omega)
   refine Ev.succ ?_
   simp only [bN.l0]
   rw [bT (n:=2000) (by omega) (by omega)]
   exact Ev.pos (by omega) (Ev.pos (by omega) (Ev.pos (by omega) (Ev.pos True.intro go)))
 unfold bN.f
 exact Ev.pos rfl (main _ 0 (Nat.zero_add _))
theorem oN {x:Int} (h:(Lit.int .u8 x).wf=true):0≤x∧x≤255:=by
 have h:=h
 simp [Lit.wf,IntKind.min,IntKind.max,IntKind.signed,IntKind.bits] at h
 omega
theorem oO (l:List Int) (hb:∀ x ∈ l,0≤x∧x≤255) (i:Int):0≤rd l i∧rd l i≤255:=by
 unfold rd
 cases h:l[i.toNat]? with
 | none=>simp [List.getD,h]
 | some x =>
  simp only [List.getD,h,Option.getD_some]
  exact hb x (List.mem_of_getElem? h)
theorem rX (x:Int):0≤Go.bits .and .u64 (IntKind.u64.wrap x / 1099511627776) 255∧Go.bits .and .u64 (IntKind.u64.wrap x / 1099511627776) 255≤255:=by
 have h:0≤IntKind.u64.wrap x∧IntKind.u64.wrap x<18446744073709551616:=by
  rw [IntKind.wrap_u64]
  omega
 generalize IntKind.u64.wrap x=y at h
 have e:y / 1099511627776=((y / 1099511627776).toNat:Int):=by omega
 rw [e,show (255:Int)=((255:Nat):Int) from rfl,(bits_nat .u64 64 (by decide) (fun n h h'=>by rw [IntKind.wrap_u64];omega) _ 255 (by omega) (by omega)).1]
 have:=Nat.and_le_right (n:=(y / 1099511627776).toNat) (m:=255)
 omega
theorem qk (code:List Int) (hb:∀ x ∈ code,0≤x∧x≤255) (a:Nat) (ha:a≤1000) (seed:Int):∃ (b s:Int),cN.f code a seed=some (b,((a+1:Nat):Int),s)∧0≤b∧b≤255:=by
 have h1:=oO code hb a
 unfold cN.f
 rw [cm (x:=rd code a) (by omega) (by omega),bT (n:=2000) (by omega) (by omega)]
 have small:∀ y:Int,0≤wrap64 (Go.bits .and .u64 (IntKind.u64.wrap y / 1099511627776) 255)∧wrap64 (Go.bits .and .u64 (IntKind.u64.wrap y / 1099511627776) 255)≤255:=fun y=>by
  have:=rX y
  rw [cm (by omega) (by omega)]
  exact this
 split
 ·rw [if_pos (by omega)]
  split
  ·exact ⟨_,_,rfl,h1.1,h1.2⟩
  ·exact ⟨_,_,rfl,(small _).1,(small _).2⟩
 ·split
  ·exact ⟨_,_,rfl,by omega,by omega⟩
  ·exact ⟨_,_,rfl,(small _).1,(small _).2⟩
theorem io (code:List Int) (hb:∀ x ∈ code,0≤x∧x≤255) (a:Nat) (ha:a≤900) (seed n:Int) (h1:1<n) (h2:n≤200):∃ (r s:Int),bC.f code a seed n=some (r,((a+1:Nat):Int),s)∧0≤r∧r<n:=by
 obtain ⟨b,s,e,b0,b1⟩:=qk code hb a (by omega) seed
 unfold bC.f
 rw [if_neg (by omega),e,Option.bind_some,if_neg (by omega),if_neg (by omega)]
 exact ⟨_,_,rfl,Int.tmod_nonneg _ b0,Int.tmod_lt_of_pos _ (by omega)⟩
theorem fb (code:List Int) (hb:∀ x ∈ code,0≤x∧x≤255) (a:Nat) (ha:a≤900) (seed n:Int) (h1:1<n) (h2:n≤200):∃ (r:Bool) (s:Int),aK.f code a seed n=some (r,((a+1:Nat):Int),s):=by
 obtain ⟨b,s,e,_⟩:=io code hb a ha seed n h1 h2
 unfold aK.f
 rw [e]
 exact ⟨_,_,rfl⟩
theorem kN (code:List Int) (hb:∀ x ∈ code,0≤x∧x≤255) (a:Nat) (ha:a≤900) (seed:Int) (l:List Int) (h1:1<l.length) (h2:l.length≤200):∃ (r s:Int),bq.f code a seed l=some (r,((a+1:Nat):Int),s):=by
 obtain ⟨b,s,e,b0,b1⟩:=io code hb a ha seed (l.length:Int) (by omega) (by omega)
 unfold bq.f
 rw [e,Option.bind_some,if_pos b0,if_pos b1]
 exact ⟨_,_,rfl⟩
def kO (s:Int) (t:List Int):List Int:=((List.range s.toNat).map fun i:Nat=>(i:Int)).filter fun x=>decide (x ∉ t)
theorem jz (s:Int) (ring:Bool) (t:List Int) (h1:s≤24) (ht:t.length≤1048576):∀ (d j:Nat) (acc:List Int),j+d=s.toNat→acc.length≤j→Ev (fun k=>bi.l0 k acc (j:Int) s ring t) (acc++((List.range' j d).map fun i:Nat=>(i:Int)).filter fun x=>decide (x ∉ t))
 | 0,j,acc,hj,_=>by
  refine Ev.succ ?_
  simp only [bi.l0]
  refine Ev.neg (by omega) ?_
  simp only [List.range'_zero,List.map_nil,List.filter_nil,List.append_nil]
  exact Ev.now _
 | d+1,j,acc,hj,ha=>by
  refine Ev.succ ?_
  simp only [bi.l0]
  refine Ev.pos (by omega) (Ev.bind (d4 s ring t (j:Int) ht) ?_)
  rw [bT (n:=24) (by omega) (by omega),List.range'_succ,List.map_cons]
  by_cases g:(j:Int) ∈ t
  ·rw [List.filter_cons_of_neg (by simpa using g)]
   exact Ev.pos (decide_eq_true g) (jz s ring t h1 ht d (j+1) acc (by omega) (by omega))
  ·rw [List.filter_cons_of_pos (by simpa using g)]
   refine Ev.neg (by simpa using g) (Ev.pos (by omega) ?_)
   have:=jz s ring t h1 ht d (j+1) (acc++[(j:Int)]) (by omega) (by simp;omega)
   rw [List.append_assoc] at this
   exact this
theorem ql (s:Int) (ring:Bool) (t:List Int) (h1:s≤24) (ht:t.length≤1048576):Ev (fun k=>bi.f k s ring t) (kO s t):=by
 unfold bi.f kO
 rw [List.range_eq_range']
 exact jz s ring t h1 ht s.toNat 0 [] (by omega) (Nat.le_refl _)
theorem nb {n:Int} (h:n≤24) (t:List Int):(kO n t).length≤24:=by
 have h1:(kO n t).length≤n.toNat:=by
  unfold kO
  refine Nat.le_trans (List.length_filter_le _ _) ?_
  simp
 omega
theorem ji (code:List Int) (hb:∀ x ∈ code,0≤x∧x≤255) (a:Nat) (ha:a≤900) (seed n:Int) (h2:n≤200):∃ (r s:Int) (a':Nat),bC.f code a seed n=some (r,(a':Int),s)∧a'≤a+1∧0≤r∧(1≤n→r<n):=by
 by_cases h:1<n
 ·obtain ⟨r,s,e,h0,h1⟩:=io code hb a ha seed n h h2
  exact ⟨r,s,a+1,e,by omega,h0,fun _=>h1⟩
 ·unfold bC.f
  rw [if_pos (by omega)]
  exact ⟨0,seed,a,rfl,by omega,by omega,fun h=>by omega⟩
theorem jA (code:List Int) (hb:∀ x ∈ code,0≤x∧x≤255) (a:Nat) (ha:a≤900) (seed:Int) (l:List Int) (h1:1<l.length) (h2:l.length≤200):∃ (r s:Int),bq.f code a seed l=some (r,((a+1:Nat):Int),s)∧r ∈ l:=by
 obtain ⟨b,s,e,b0,b1⟩:=io code hb a ha seed (l.length:Int) (by omega) (by omega)
 unfold bq.f
 rw [e,Option.bind_some,if_pos b0,if_pos b1]
 refine ⟨_,_,rfl,?_⟩
 have hlt:b.toNat<l.length:=by omega
 unfold rd
 simp [List.getD,hlt]
theorem pP (code:List Int) (hb:∀ x ∈ code,0≤x∧x≤255) (a:Nat) (ha:a≤800) (seed:Int):∃ (r s:Int),cG.f code a seed=some (r,((a+2:Nat):Int),s) ∧ -1≤r∧r≤4611686018427387904:=by
 obtain ⟨b,s,e⟩:=fb code hb a (by omega) seed 40 (by omega) (by omega)
 unfold cG.f
 rw [e,Option.bind_some]
 dsimp only
 cases b with
 | true =>
  obtain ⟨r,s2,e2,hm⟩:=jA code hb (a+1) (by omega) s [1,2,24,25,0, -1,4611686018427387904] (by simp) (by simp)
  rw [if_pos rfl,e2]
  refine ⟨_,_,rfl,?_⟩
  simp only [List.mem_cons,List.not_mem_nil,or_false] at hm
  omega
 | false =>
  obtain ⟨r,s2,e2,hm⟩:=jA code hb (a+1) (by omega) s [6,8,5,10,7,3,12,4,20,24] (by simp) (by simp)
  rw [if_neg (by simp),e2]
  refine ⟨_,_,rfl,?_⟩
  simp only [List.mem_cons,List.not_mem_nil,or_false] at hm
  omega
theorem kP (code:List Int) (hb:∀ x ∈ code,0≤x∧x≤255) (a:Nat) (ha:a≤800) (seed:Int):∃ (n s:Int) (ring:Bool) (a':Nat),cy.f code a seed=some (n,ring,[],(a':Int),s)∧a'≤a+4 ∧ -1≤n∧n≤4611686018427387904:=by
 obtain ⟨n,s,e,h0,h1⟩:=pP code hb a (by omega) seed
 obtain ⟨b,s2,e2⟩:=fb code hb (a+2) (by omega) s 2 (by omega) (by omega)
 unfold cy.f
 rw [e,Option.bind_some]
 dsimp only
 rw [e2,Option.bind_some]
 dsimp only
 rw [Option.bind_some]
 by_cases hbt:b=true
 ·rw [if_pos hbt]
  by_cases hn:n=2
  ·obtain ⟨b3,s3,e3⟩:=fb code hb (a+3) (by omega) s2 4 (by omega) (by omega)
   rw [if_pos hn,e3,Option.bind_some]
   dsimp only
   split
   ·exact ⟨_,_,_,a+4,rfl,by omega,h0,h1⟩
   ·exact ⟨_,_,_,a+4,rfl,by omega,by omega,by omega⟩
  ·rw [if_neg hn]
   exact ⟨_,_,_,a+3,rfl,by omega,h0,h1⟩
 ·rw [if_neg hbt]
  exact ⟨_,_,_,a+3,rfl,by omega,h0,h1⟩
def kQ (n:Int) (t:List Int):Prop:=t.length≤40 ∧ -1≤n∧n≤4611686018427387904
theorem pQ (code:List Int) (hb:∀ x ∈ code,0≤x∧x≤255) (a:Nat) (ha:a≤800) (seed n:Int) (ring:Bool) (t:List Int) (ht:t.length≤39) (h0 : -1≤n) (h1:n≤4611686018427387904) :
  ∃ (n' s:Int) (r':Bool) (t':List Int) (a':Nat),Ev (fun k=>ag.j3 k code a seed n ring t) (n',r',t',(a':Int),s)∧a'≤a+2∧kQ n' t':=by
 obtain ⟨b,s,e⟩:=fb code hb a (by omega) seed 40 (by omega) (by omega)
 cases b with
 | true =>
  obtain ⟨r,s2,e2⟩:=kN code hb (a+1) (by omega) s [-1,0,n,4611686018427387904] (by simp) (by simp)
  refine ⟨n,s2,ring,t++[r],a+2,Ev.succ ?_,by omega,by simp;omega,h0,h1⟩
  simp only [ag.j3]
  exact Ev.have e (Ev.pos (by first|rfl|exact True.intro) (Ev.have e2 (Ev.pos (by omega) (Ev.now _))))
 | false =>
  refine ⟨n,s,ring,t,a+1,Ev.succ ?_,by omega,by omega,h0,h1⟩
  simp only [ag.j3]
  exact Ev.have e (Ev.neg (by simp) (Ev.now _))
open Classical in
theorem pR (n:Int) (ring:Bool) (t:List Int) (ht:t.length≤1048576) (h:cn n ring t):Ev (fun k=>b6.f k n ring t) (n,ring,kO n t,true):=by
 unfold b6.f
 refine Ev.bind (Ev.bound t.length fun k hk=>eP n ring t ht k hk) (Ev.pos (decide_eq_true h) (Ev.bind (ql n ring t h.1.2 ht) ?_))
 unfold cA.f
 exact Ev.now _
open Classical in
theorem nc (code:List Int) (hb:∀ x ∈ code,0≤x∧x≤255) (a:Nat) (ha:a≤700) (seed n:Int) (ring:Bool) (t:List Int) (ht:t.length≤39) (h0 : -1≤n) (h1:n≤4611686018427387904) (b:Bool) (hbq:b=true→cn n ring t) :
  ∃ (n' s:Int) (r':Bool) (t':List Int) (a':Nat),Ev (fun k=>ag.j2 k b code a seed n ring t) (n',r',t',(a':Int),s)∧a'≤a+2∧kQ n' t':=by
 cases b with
 | true =>
  have h:=hbq rfl
  obtain ⟨n',s,r',t',a',e,h2,h3⟩:=pQ code hb a (by omega) seed n ring (kO n t) (by have:=nb h.1.2 t;omega) h0 h1
  refine ⟨n',s,r',t',a',Ev.succ ?_,h2,h3⟩
  simp only [ag.j2]
  exact Ev.pos (by first|rfl|exact True.intro) (Ev.bind (pR n ring t (by omega) h) e)
 | false =>
  obtain ⟨n',s,r',t',a',e,h2,h3⟩:=pQ code hb a (by omega) seed n ring t ht h0 h1
  refine ⟨n',s,r',t',a',Ev.succ ?_,h2,h3⟩
  simp only [ag.j2]
  exact Ev.neg (by simp) e
open Classical in
theorem pS (code:List Int) (hb:∀ x ∈ code,0≤x∧x≤255) (odds:Int) (ho:1<odds) (ho2:odds≤200) (n:Int) (ring:Bool) (h0 : -1≤n) (h1:n≤4611686018427387904) (d:Nat):∀ (i a:Nat) (seed:Int) (t:List Int),i+d=25→a≤600+i→t.length≤i →
  ∃ (n' s:Int) (r':Bool) (t':List Int) (a':Nat),Ev (fun k=>ag.l0 k odds (i:Int) code a seed n ring t) (n',r',t',(a':Int),s)∧a'≤a+d+3∧kQ n' t':=by
 have tail:∀ (i a:Nat) (seed:Int) (t:List Int),i≤25→a≤600+i→t.length≤i→∃ (n' s:Int) (r':Bool) (t':List Int) (a':Nat),Ev (fun k=>ag.j1 k odds (i:Int) false code a seed n ring t) (n',r',t',(a':Int),s)∧a'≤a+3∧kQ n' t':=by
  intro i a seed t hi ha ht
  obtain ⟨b,s,e⟩:=fb code hb a (by omega) seed 6 (by omega) (by omega)
  cases b with
  | true =>
   obtain ⟨n',s2,r',t',a',e2,h2,h3⟩:=nc code hb (a+1) (by omega) s n ring t (by omega) h0 h1 (decide (cn n ring t)) of_decide_eq_true
   refine ⟨n',s2,r',t',a',Ev.succ ?_,by omega,h3⟩
   simp only [ag.j1]
   exact Ev.neg (by simp) (Ev.have e (Ev.pos (by first|rfl|exact True.intro) (Ev.bind (Ev.bound t.length fun k hk=>eP n ring t (by omega) k hk) e2)))
  | false =>
   obtain ⟨n',s2,r',t',a',e2,h2,h3⟩:=nc code hb (a+1) (by omega) s n ring t (by omega) h0 h1 false (by simp)
   refine ⟨n',s2,r',t',a',Ev.succ ?_,by omega,h3⟩
   simp only [ag.j1]
   exact Ev.neg (by simp) (Ev.have e (Ev.neg (by simp) e2))
 induction d with
 | zero =>
  intro i a seed t hi ha ht
  obtain ⟨n',s,r',t',a',e,h2,h3⟩:=tail i a seed t (by omega) ha ht
  refine ⟨n',s,r',t',a',Ev.succ ?_,by omega,h3⟩
  simp only [ag.l0]
  by_cases g:(i:Int)<n
  ·refine Ev.pos g ?_
   rw [decide_eq_false (by omega)]
   exact e
  ·exact Ev.neg g e
 | succ d ih =>
  intro i a seed t hi ha ht
  by_cases g:(i:Int)<n
  ·obtain ⟨b,s,e⟩:=fb code hb a (by omega) seed odds ho ho2
   obtain ⟨n',s2,r',t',a',e2,h2,h3⟩:=ih (i+1) (a+1) s (if b=true then t++[(i:Int)] else t) (by omega) (by omega) (by split <;> (try simp) <;> omega)
   refine ⟨n',s2,r',t',a',Ev.succ ?_,by omega,h3⟩
   simp only [ag.l0]
   refine Ev.pos g (Ev.succ ?_)
   simp only [ag.j1]
   refine Ev.pos (decide_eq_true (by omega)) (Ev.have e ?_)
   dsimp only
   rw [bT (n:=100) (by omega) (by omega)]
   cases b with
   | true=>exact Ev.pos (by first|rfl|exact True.intro) (Ev.pos (by omega) e2)
   | false=>exact Ev.neg (by simp) e2
  ·obtain ⟨n',s,r',t',a',e,h2,h3⟩:=tail i a seed t (by omega) ha ht
   refine ⟨n',s,r',t',a',Ev.succ ?_,by omega,h3⟩
   simp only [ag.l0]
   exact Ev.neg g e
theorem pT (code:List Int) (hb:∀ x ∈ code,0≤x∧x≤255) (a:Nat) (ha:a≤500) (seed:Int):∃ (n s:Int) (ring:Bool) (t:List Int) (a':Nat),Ev (fun k=>ag.f k code a seed) (n,ring,t,(a':Int),s)∧a'≤a+40∧kQ n t:=by
 obtain ⟨n,s,ring,a1,e,h2,h3,h4⟩:=kP code hb a (by omega) seed
 obtain ⟨odds,s2,e2,hm⟩:=jA code hb a1 (by omega) s [3,2,5] (by simp) (by simp)
 simp only [List.mem_cons,List.not_mem_nil,or_false] at hm
 obtain ⟨n',s3,r',t',a',e3,h5,h6⟩:=pS code hb odds (by omega) (by omega) n ring h3 h4 25 0 (a1+1) s2 [] (by omega) (by omega) (by simp)
 refine ⟨n',s3,r',t',a',?_,by omega,h6⟩
 unfold ag.f
 exact Ev.have e (Ev.have e2 e3)
theorem mj (code:List Int) (hb:∀ x ∈ code,0≤x∧x≤255) (a:Nat) (ha:a≤800) (seed:Int):∃ (r s:Int),cu.f code a seed=some (r,((a+2:Nat):Int),s):=by
 obtain ⟨b,s,e⟩:=fb code hb a (by omega) seed 24 (by omega) (by omega)
 unfold cu.f
 rw [e,Option.bind_some]
 dsimp only
 cases b with
 | true =>
  obtain ⟨r,s2,e2⟩:=kN code hb (a+1) (by omega) s [0,3, -1] (by simp) (by simp)
  rw [if_pos rfl,e2]
  exact ⟨_,_,rfl⟩
 | false =>
  obtain ⟨r,s2,e2,_⟩:=io code hb (a+1) (by omega) s 2 (by omega) (by omega)
  rw [if_neg (by simp),e2]
  exact ⟨_,_,rfl⟩
theorem qm (code:List Int) (hb:∀ x ∈ code,0≤x∧x≤255) (a:Nat) (ha:a≤800) (seed n:Int) (ring:Bool) (t:List Int):∃ (r s:Int) (a':Nat),dE.f code a seed n ring t=some (r,(a':Int),s)∧a'≤a+2:=by
 obtain ⟨b,s,e⟩:=fb code hb a (by omega) seed 30 (by omega) (by omega)
 unfold dE.f
 rw [e,Option.bind_some]
 dsimp only
 cases b with
 | true =>
  obtain ⟨r,s2,e2⟩:=kN code hb (a+1) (by omega) s [-1,0,n,4611686018427387904] (by simp) (by simp)
  rw [if_pos rfl,e2]
  exact ⟨_,_,_,rfl,by omega⟩
 | false =>
  have hm:∃ m:Int,m≤200∧((dw.f n 24).bind fun t415=>(cI.f t415 1))=some m:=by
   unfold dw.f cI.f
   by_cases g:n<24
   ·rw [if_pos g,Option.bind_some]
    split
    ·exact ⟨_,by omega,rfl⟩
    ·exact ⟨_,by omega,rfl⟩
   ·rw [if_neg g,Option.bind_some]
    exact ⟨24,by omega,rfl⟩
  obtain ⟨m,hm2,hm⟩:=hm
  obtain ⟨r,s2,a',e2,h1,_⟩:=ji code hb (a+1) (by omega) s m hm2
  rw [if_neg (by simp)]
  obtain ⟨x,hx,hy⟩:=Option.bind_eq_some_iff.1 hm
  rw [hx,Option.bind_some,hy,Option.bind_some,e2]
  exact ⟨_,_,_,rfl,by omega⟩
open Classical in
open Classical in
theorem nf (code:List Int) (hb:∀ x ∈ code,0≤x∧x≤255) (a:Nat) (ha:a≤700) (seed n:Int) (ring:Bool) (t:List Int) (hr:kQ n t) (b:Bool) :
  ∃ (n' s:Int) (r':Bool) (t':List Int) (a':Nat),Ev (fun k=>ae.j2 k b code a seed n ring t) (n',r',t',(a':Int),s)∧a'≤a+2∧kQ n' t':=by
 have hl:=hr.1
 cases b with
 | false =>
  refine ⟨n,seed,ring,t,a,Ev.succ ?_,by omega,hr⟩
  simp only [ae.j2]
  exact Ev.neg (by simp) (Ev.now _)
 | true =>
  by_cases g:(t.length:Int) > 0
  ·obtain ⟨b2,s,e⟩:=fb code hb a (by omega) seed 2 (by omega) (by omega)
   cases b2 with
   | true =>
    obtain ⟨r,s2,a',e2,h1,h2,h3⟩:=ji code hb (a+1) (by omega) s (t.length:Int) (by omega)
    refine ⟨n,s2,ring,[]++[rd t r],a',Ev.succ ?_,by omega,by simp,hr.2⟩
    simp only [ae.j2]
    exact Ev.pos (by first|rfl|exact True.intro) (Ev.have rfl (Ev.pos g (Ev.have e (Ev.pos (by first|rfl|exact True.intro) (Ev.have e2 (Ev.pos h2 (Ev.pos (h3 (by omega)) (Ev.pos (by simp) (Ev.now _)))))))))
   | false =>
    refine ⟨n,s,ring,[],a+1,Ev.succ ?_,by omega,by simp,hr.2⟩
    simp only [ae.j2]
    exact Ev.pos (by first|rfl|exact True.intro) (Ev.have rfl (Ev.pos g (Ev.have e (Ev.neg (by simp) (Ev.now _)))))
  ·refine ⟨n,seed,ring,[],a,Ev.succ ?_,by omega,by simp,hr.2⟩
   simp only [ae.j2]
   exact Ev.pos (by first|rfl|exact True.intro) (Ev.have rfl (Ev.neg g (Ev.now _)))
open Classical in
theorem ng (code:List Int) (hb:∀ x ∈ code,0≤x∧x≤255) (a:Nat) (ha:a≤600) (seed n:Int) (ring:Bool) (t:List Int) (hr:kQ n t) :
  ∃ (n' s:Int) (r':Bool) (t':List Int) (a':Nat),Ev (fun k=>ae.j1 k code a seed n ring t) (n',r',t',(a':Int),s)∧a'≤a+3∧kQ n' t':=by
 have hl:=hr.1
 by_cases g:cn n ring t
 ·obtain ⟨b2,s,e⟩:=fb code hb a (by omega) seed 3 (by omega) (by omega)
  obtain ⟨n',s2,r',t',a',e2,h1,h2⟩:=nf code hb (a+1) (by omega) s n ring t hr b2
  refine ⟨n',s2,r',t',a',Ev.succ ?_,by omega,h2⟩
  simp only [ae.j1]
  exact Ev.bind (Ev.bound t.length fun k hk=>eP n ring t (by omega) k hk) (Ev.pos (decide_eq_true g) (Ev.have e e2))
 ·obtain ⟨n',s2,r',t',a',e2,h1,h2⟩:=nf code hb a (by omega) seed n ring t hr false
  refine ⟨n',s2,r',t',a',Ev.succ ?_,by omega,h2⟩
  simp only [ae.j1]
  exact Ev.bind (Ev.bound t.length fun k hk=>eP n ring t (by omega) k hk) (Ev.neg (by rw [decide_eq_true_eq];exact g) e2)
theorem nh (code:List Int) (hb:∀ x ∈ code,0≤x∧x≤255) (a:Nat) (ha:a≤300) (seed:Int):∃ (n s:Int) (ring:Bool) (t:List Int) (a':Nat),Ev (fun k=>ae.f k code a seed) (n,ring,t,(a':Int),s)∧a'≤a+60∧kQ n t:=by
 obtain ⟨n,s,ring,t,a1,e,h1,h2⟩:=pT code hb a (by omega) seed
 have j0f:∀ (a1:Nat) (s:Int),a1≤500→∃ (n' s':Int) (r':Bool) (t':List Int) (a':Nat),Ev (fun k=>ae.j0 k false code a1 s n ring t) (n',r',t',(a':Int),s')∧a'≤a1+3∧kQ n' t':=by
  intro a1 s ha1
  obtain ⟨n',s2,r',t',a',e2,h3,h4⟩:=ng code hb a1 (by omega) s n ring t h2
  refine ⟨n',s2,r',t',a',Ev.succ ?_,h3,h4⟩
  simp only [ae.j0]
  exact Ev.neg (by simp) e2
 by_cases g:n > 10
 ·obtain ⟨b,s2,e2⟩:=fb code hb a1 (by omega) s 12 (by omega) (by omega)
  cases b with
  | true =>
   obtain ⟨n',s3,r',t',a',e3,h3,h4⟩:=j0f (a1+1) s2 (by omega)
   refine ⟨n',s3,r',t',a',?_,by omega,h4⟩
   unfold ae.f
   exact Ev.bind e (Ev.pos g (Ev.have e2 e3))
  | false =>
   obtain ⟨r,s3,e3,h5,h6⟩:=io code hb (a1+1) (by omega) s2 8 (by omega) (by omega)
   obtain ⟨n',s4,r',t',a',e4,h3,h4⟩:=ng code hb (a1+1+1) (by omega) s3 (wrap64 (3+r)) ring [] ⟨by simp,by rw [cm (by omega) (by omega)];omega⟩
   refine ⟨n',s4,r',t',a',?_,by omega,h4⟩
   unfold ae.f
   refine Ev.bind e (Ev.pos g (Ev.have e2 (Ev.succ ?_)))
   simp only [ae.j0]
   exact Ev.pos (by first|rfl|exact True.intro) (Ev.have e3 e4)
 ·obtain ⟨n',s3,r',t',a',e3,h3,h4⟩:=j0f a1 s (by omega)
  refine ⟨n',s3,r',t',a',?_,by omega,h4⟩
  unfold ae.f
  exact Ev.bind e (Ev.neg g e3)
open Classical in
theorem rH (code:List Int) (hb:∀ x ∈ code,0≤x∧x≤255) (b:Bool) (a:Nat) (ha:a≤700) (seed n:Int) (ring:Bool) (t:List Int) (ht:t.length≤40) (h3:b=true→2<t.length):∃ (t':List Int) (g s:Int) (a':Nat),Ev (fun k=>ax.j1 k b code a seed n ring t) (n,ring,t',g,(a':Int),s)∧t'.length≤40:=by
 cases b with
 | true =>
  have h3:=h3 rfl
  obtain ⟨r,s,a1,e,h1,h2,h4⟩:=ji code hb a (by omega) seed 3 (by omega)
  obtain ⟨g,s2,e2⟩:=mj code hb a1 (by omega) s
  have h4:=h4 (by omega)
  refine ⟨t.take r.toNat,g,s2,a1+2,Ev.succ ?_,Nat.le_trans (List.length_take_le _ _) (by omega)⟩
  simp only [ax.j1]
  exact Ev.pos True.intro (Ev.have e (Ev.pos (by omega) (Ev.pos (by dsimp only;omega) (Ev.have e2 (Ev.now _)))))
 | false =>
  obtain ⟨g,s2,e2⟩:=mj code hb a (by omega) seed
  refine ⟨t,g,s2,a+2,Ev.succ ?_,ht⟩
  simp only [ax.j1]
  exact Ev.neg (by simp) (Ev.have e2 (Ev.now _))
theorem rI (code:List Int) (hb:∀ x ∈ code,0≤x∧x≤255) (a:Nat) (ha:a≤600) (seed n:Int) (ring:Bool) (t:List Int) (ht:t.length≤40):∃ (t':List Int) (g s:Int) (a':Nat),Ev (fun k=>ax.j0 k code a seed n ring t) (n,ring,t',g,(a':Int),s)∧t'.length≤40:=by
 by_cases h:(t.length:Int) > 2
 ·obtain ⟨b,s,e⟩:=fb code hb a (by omega) seed 2 (by omega) (by omega)
  obtain ⟨t',g,s',a',e2,h2⟩:=rH code hb b (a+1) (by omega) s n ring t ht (fun _=>by omega)
  refine ⟨t',g,s',a',Ev.succ ?_,h2⟩
  simp only [ax.j0]
  exact Ev.pos h (Ev.have e e2)
 ·obtain ⟨t',g,s',a',e2,h2⟩:=rH code hb false a (by omega) seed n ring t ht (fun e=>by cases e)
  refine ⟨t',g,s',a',Ev.succ ?_,h2⟩
  simp only [ax.j0]
  exact Ev.neg h e2
theorem oc (code:List Int) (hb:∀ x ∈ code,0≤x∧x≤255):∃ (n:Int) (ring:Bool) (t:List Int) (g:Int),Ev (fun k=>bM.f k code) (n,ring,t,g)∧t.length≤40:=by
 obtain ⟨n,s,ring,t,a,e,ha,hR⟩:=pT code hb 0 (by omega) 0
 obtain ⟨b,s2,e2⟩:=fb code hb a (by omega) s 3 (by omega) (by omega)
 cases b with
 | true =>
  obtain ⟨n2,s3,r2,a3,e3,h3,_,_⟩:=kP code hb (a+1) (by omega) s2
  obtain ⟨t',g,s4,a4,e4,h4⟩:=rI code hb a3 (by omega) s3 n2 r2 [] (by simp)
  refine ⟨n2,r2,t',g,?_,h4⟩
  unfold bM.f ax.f
  exact Ev.bind (Ev.bind e (Ev.have e2 (Ev.pos rfl (Ev.have e3 e4)))) (Ev.now _)
 | false =>
  obtain ⟨t',g,s4,a4,e4,h4⟩:=rI code hb (a+1) (by omega) s2 n ring t hR.1
  refine ⟨n,ring,t',g,?_,h4⟩
  unfold bM.f ax.f
  exact Ev.bind (Ev.bind e (Ev.have e2 (Ev.neg (by simp) e4))) (Ev.now _)
open Classical in
theorem oP (s:Int) (ring:Bool) (t:List Int) (ht:t.length≤1048576) (g:Int):∃ (l:List Int) (b:Bool),Ev (fun k=>bP.f k s ring t g) (l,b)∧l.length≤24:=by
 by_cases h:cn s ring t∧1≤g∧g≤2
 ·obtain ⟨n,rfl,h2,h24,h3,hin⟩:=dW h.1
  have hl:=cz (bB g (az t) n ring) n
  exact ⟨_,true,(gC (by omega) h.1).2,by omega⟩
 ·refine ⟨[],false,?_,by simp⟩
  unfold bP.f
  refine Ev.bind (ca s ring t ht) ?_
  by_cases hr:cn s ring t
  ·exact Ev.pos (decide_eq_true hr) (Ev.have (cJ g) (Ev.neg (by rw [decide_eq_true_eq];exact fun e=>h ⟨hr,e⟩) (Ev.now _)))
  ·exact Ev.neg (by rw [decide_eq_true_eq];exact hr) (Ev.now _)
theorem pU (code:List Int) (hb:∀ x ∈ code,0≤x∧x≤255) (b:Bool) (a:Nat) (ha:a≤600) (seed n g:Int) (ring:Bool) (t l:List Int) (hl:l.length≤24) (h0:b=true→0<l.length):∃ (p s:Int) (a':Nat),Ev (fun k=>ap.j0 k g l b code a seed n ring t) (n,ring,t,g,p,(a':Int),s):=by
 cases b with
 | true =>
  have h0:=h0 rfl
  obtain ⟨r,s,a1,e,h1,h2,h4⟩:=ji code hb a (by omega) seed (l.length:Int) (by omega)
  have h4:=h4 (by omega)
  refine ⟨rd l r,s,a1,Ev.succ ?_⟩
  simp only [ap.j0]
  exact Ev.pos True.intro (Ev.have e (Ev.pos (by omega) (Ev.pos (by omega) (Ev.now _))))
 | false =>
  obtain ⟨r,s,a1,e,h1⟩:=qm code hb a (by omega) seed n ring t
  refine ⟨r,s,a1,Ev.succ ?_⟩
  simp only [ap.j0]
  exact Ev.neg (by simp) (Ev.have e (Ev.now _))
theorem qn (code:List Int) (hb:∀ x ∈ code,0≤x∧x≤255):∃ (n:Int) (ring:Bool) (t:List Int) (g p:Int),Ev (fun k=>cC.f k code) (n,ring,t,g,p)∧t.length≤40:=by
 obtain ⟨n,ring,t,g,e,ht⟩:=oc code hb
 obtain ⟨l,b,e2,hl⟩:=oP n ring t (by omega) g
 have done:∃ (p s:Int) (a':Nat),Ev (fun k=>ap.f k code code 0 0) (n,ring,t,g,p,(a':Int),s):=by
  unfold ap.f
  cases b with
  | true =>
   by_cases h:(l.length:Int) > 0
   ·obtain ⟨b2,s2,e3⟩:=fb code hb 0 (by omega) 0 6 (by omega) (by omega)
    obtain ⟨p,s,a',e4⟩:=pU code hb (!b2) (0+1) (by omega) s2 n g ring t l hl (fun _=>by omega)
    exact ⟨p,s,a',Ev.bind e (Ev.bind e2 (Ev.pos rfl (Ev.pos h (Ev.have e3 e4))))⟩
   ·obtain ⟨p,s,a',e4⟩:=pU code hb false 0 (by omega) 0 n g ring t l hl (fun e=>by cases e)
    exact ⟨p,s,a',Ev.bind e (Ev.bind e2 (Ev.pos rfl (Ev.neg h e4)))⟩
  | false =>
   obtain ⟨p,s,a',e4⟩:=pU code hb false 0 (by omega) 0 n g ring t l hl (fun e=>by cases e)
   exact ⟨p,s,a',Ev.bind e (Ev.bind e2 (Ev.neg (by simp) e4))⟩
 obtain ⟨p,s,a',e3⟩:=done
 refine ⟨n,ring,t,g,p,?_,ht⟩
 unfold cC.f
 exact Ev.bind e3 (Ev.now _)
theorem qo (code:List Int) (hb:∀ x ∈ code,0≤x∧x≤255):∃ (n:Int) (ring:Bool) (t:List Int) (g:Int),Ev (fun k=>ct.f k code) (n,ring,t,g)∧t.length≤40:=by
 obtain ⟨n,s,ring,t,a,e,ha,hR⟩:=nh code hb 0 (by omega) 0
 obtain ⟨g,s2,e2⟩:=mj code hb a (by omega) s
 refine ⟨n,ring,t,g,?_,hR.1⟩
 unfold ct.f cq.f
 exact Ev.bind (Ev.bind e (Ev.have e2 (Ev.now _))) (Ev.now _)
theorem qp (s:Int) (ring:Bool) (l:List Int) (hl:l.length≤1000):Ev (fun k=>d7.f k s ring l s ring l) true:=by
 unfold d7.f
 refine Ev.pos rfl ?_
 exact Ev.pos (by simp) (Ev.bind (hC l hl) (Ev.now _))
open Classical in
theorem qq (s:Int) (ring:Bool) (t:List Int) (ht:t.length≤1048576) (g:Int) (h:¬ (cn s ring t∧1≤g∧g≤2)):(Ev (fun k=>bK.f k s ring t g) ([],false)∧Ev (fun k=>cx.f k s ring t g) ([],false))∧(Ev (fun k=>a9.f k s ring t g) (0,false)∧Ev (fun k=>ck.f k s ring t g) (0,false))∧(Ev (fun k=>cR.f k s ring t g) (false,false)∧Ev (fun k=>dj.f k s ring t g) (false,false))∧(Ev (fun k=>bj.f k s ring t g) ([],false)∧Ev (fun k=>bP.f k s ring t g) ([],false))∧(Ev (fun k=>aJ.f k s ring t g) ([],false)∧Ev (fun k=>aH.f k s ring t g) ([],false))∧(Ev (fun k=>aw.f k s ring t g) (0,0,false)∧Ev (fun k=>af.f k s ring t g) (0,0,false)):=by
 have no:¬ decide (cn s ring t∧1≤g∧g≤2)=true:=by rw [decide_eq_true_eq];exact h
 have ig:=bI s ring t ht g
 have w:Ev (fun k=>bK.f k s ring t g) ([],false):=by unfold bK.f;exact Ev.bind ig (Ev.neg no (Ev.now _))
 have nu:Ev (fun k=>a9.f k s ring t g) (0,false):=by unfold a9.f;exact Ev.bind ig (Ev.neg no (Ev.now _))
 have wo:Ev (fun k=>cR.f k s ring t g) (false,false):=by unfold cR.f;exact Ev.bind nu (Ev.now _)
 have mo:Ev (fun k=>bj.f k s ring t g) ([],false):=by unfold bj.f;exact Ev.bind ig (Ev.neg no (Ev.now _))
 have be:Ev (fun k=>aJ.f k s ring t g) ([],false):=by unfold aJ.f;exact Ev.bind ig (Ev.neg no (Ev.now _))
 have lo:Ev (fun k=>aw.f k s ring t g) (0,0,false):=by unfold aw.f;exact Ev.bind ig (Ev.neg no (Ev.now _))
 obtain ⟨_,_,_,w1,w2⟩:=oK s ring t ht g
 obtain ⟨_,o1,o2⟩:=pL s ring t ht g
 obtain ⟨_,_,_,m1,m2⟩:=ny s ring t ht g
 obtain ⟨_,_,_,b1,b2⟩:=oH s ring t ht g
 obtain ⟨_,_,_,l1,l2⟩:=lK s ring t ht g
 have nu2:Ev (fun k=>ck.f k s ring t g) (0,false):=by
  unfold ck.f
  refine Ev.bind (ca s ring t ht) ?_
  by_cases hr:cn s ring t
  ·exact Ev.pos (decide_eq_true hr) (Ev.have (cJ g) (Ev.neg (by rw [decide_eq_true_eq];exact fun e=>h ⟨hr,e⟩) (Ev.now _)))
  ·exact Ev.neg (by rw [decide_eq_true_eq];exact hr) (Ev.now _)
 refine ⟨⟨w,?_⟩,⟨nu,nu2⟩,⟨wo,?_⟩,⟨mo,?_⟩,⟨be,?_⟩,⟨lo,?_⟩⟩
 ·rw [← Ev.uniq w2 w];exact w1
 ·rw [← Ev.uniq o2 wo];exact o1
 ·rw [← Ev.uniq m2 mo];exact m1
 ·rw [← Ev.uniq b2 be];exact b1
 ·rw [← Ev.uniq l2 lo];exact l1
section
variable {g:Int} (hg:g=1 ∨ g=2) {n:Nat} {ring:Bool} {t:List Int} (h:cn n ring t)
include hg h
omit hg h in
theorem sk (found:List Int) (hl:found.length≤1048576) (N:Nat) (h8:N<8) (hno:(N:Int) ∉ found) (hall:∀ v:Nat,v<N→(v:Int) ∈ found) (d:Nat):∀ i:Nat,i+d=N→Ev (fun k=>laws_FnGame.l3 k (N:Int) found (i:Int)) true:=by
 induction d with
 | zero =>
  intro i hi
  obtain rfl:i=N:=by omega
  refine Ev.succ ?_
  simp only [laws_FnGame.l3]
  exact Ev.bind (rW found _ hl) (Ev.neg (by rw [decide_eq_true_eq];exact hno) (Ev.same (Ev.now _) (by simp)))
 | succ d ih =>
  intro i hi
  refine Ev.succ ?_
  simp only [laws_FnGame.l3]
  refine Ev.bind (rW found _ hl) (Ev.pos (decide_eq_true (hall i (by omega))) ?_)
  rw [bT (n:=100) (by omega) (by omega)]
  exact ih (i+1) (by omega)
theorem sl (wins:List Int) (hw:wins=fC g n ring t) (d:Nat):∀ i:Nat,i+d=(bU (bB g (az t) n ring) n).length→Ev (fun k=>laws_FnGame.l2 k g wins ((dN g (az t) n ring:Nat):Int) (bU (bB g (az t) n ring) n) (((bU (bB g (az t) n ring) n).take i).map fun x=>((dN g (az (cM g n t x.toNat)) n ring:Nat):Int)) (i:Int) n ring t) true:=by
 obtain ⟨h2,h24,h3⟩:=eS h
 obtain ⟨mx1,mx2,mx3,mx4⟩:=l9 hg h24 h2 h3 t
 have hlen:=cz (bB g (az t) n ring) n
 induction d with
 | zero =>
  intro i hi
  refine Ev.succ ?_
  simp only [laws_FnGame.l2]
  rw [List.take_of_length_le (by omega)]
  refine Ev.neg (by omega) ?_
  refine sk _ (by rw [List.length_map];omega) _ mx1 ?_ ?_ _ 0 (Nat.zero_add _)
  ·intro e
   obtain ⟨x,hx,e⟩:=List.mem_map.1 e
   obtain ⟨q,hq,hM,rfl⟩:=(b8 _ _ _).1 hx
   rw [Int.toNat_natCast] at e
   exact (mx2 q hq hM).1 (by omega)
  ·intro v hv
   obtain ⟨p,hp,hM,e⟩:=mx3 v hv
   exact List.mem_map.2 ⟨(p:Int),(b8 _ _ _).2 ⟨p,hp,hM,rfl⟩,by rw [Int.toNat_natCast,e]⟩
 | succ d ih =>
  intro i hi
  have go:=ih (i+1) (by omega)
  obtain ⟨q,hq,hM,e⟩:=(b8 _ _ _).1 (List.getElem_mem (l:=bU (bB g (az t) n ring) n) (n:=i) (by omega))
  have hm:=eA hg h hq hM
  have hwl:=mc g n ring t
  rw [List.take_succ_eq_append_getElem (by omega),List.map_append,List.map_singleton,e,Int.toNat_natCast] at go
  refine Ev.succ ?_
  simp only [laws_FnGame.l2]
  rw [dS _ i (by omega),e,bT (n:=1000) (by omega) (by omega)]
  refine Ev.pos (by omega) (Ev.pos (by omega) (Ev.bind (jh hg h hq hM) (Ev.bind (ga hg hm.1).1 (Ev.pos rfl (Ev.pos rfl (Ev.bind (rW wins _ (by rw [hw];omega)) (Ev.neg ?_ (Ev.pos ?_ go))))))))
  ·have:decide ((q:Int) ∈ wins)=(((dN g (az (cM g n t q)) n ring:Nat):Int) == 0):=by
    rw [hw,Bool.eq_iff_iff,decide_eq_true_eq,beq_iff_eq]
    unfold fC
    rw [List.mem_filter]
    unfold jV
    rw [Int.toNat_natCast,gI hg h2 h24,decide_eq_true_eq]
    exact ⟨fun e=>e.2,fun e2=>⟨(b8 _ _ _).2 ⟨q,hq,hM,rfl⟩,e2⟩⟩
   rw [this]
   simp
  ·rw [List.length_map,List.length_take];omega
theorem rY (t':List Int) (h':cn n ring t') (hno:∀ p,p<n→¬ bB g (az t') n ring p=true) (wins:List Int) (hw:wins=fC g n ring t) (play:List Int):Ev (fun k=>laws_FnGame.l1 k g wins ((dN g (az t) n ring:Nat):Int) (bU (bB g (az t) n ring) n) play (play.length:Int) n ring t n ring t') true:=by
 obtain ⟨h2,h24,h3⟩:=eS h
 have hz:(bU (bB g (az t') n ring) n).length=0:=by
  rw [List.length_eq_zero_iff,List.eq_nil_iff_forall_not_mem]
  intro x hx
  obtain ⟨q,hq,hM,_⟩:=(b8 _ _ _).1 hx
  exact hno q hq hM
 have hmir:dN g (az (jW n t)) n ring=dN g (az t) n ring:=np hg h24 h2 h3 pO
 refine Ev.succ ?_
 simp only [laws_FnGame.l1]
 refine Ev.neg (by omega) (Ev.bind (gC hg h').1 (Ev.bind (nB h) (Ev.bind (ga hg (ob h)).1 (Ev.pos rfl (Ev.pos rfl (Ev.pos rfl (Ev.pos (by dsimp only;omega) (Ev.succ ?_))))))))
 simp only [laws_FnGame.j12]
 rw [hmir]
 exact Ev.neg (by simp) (sl hg h wins hw _ 0 (Nat.zero_add _))
theorem sm (wins:List Int) (hw:wins=fC g n ring t) (play:List Int) (hp24:play.length≤24) (d:Nat):∀ (i:Nat) (t':List Int),i+d=play.length→cn n ring t'→jy g n ring (play.drop i) t'→Ev (fun k=>laws_FnGame.l1 k g wins ((dN g (az t) n ring:Nat):Int) (bU (bB g (az t) n ring) n) play (i:Int) n ring t n ring t') true:=by
 induction d with
 | zero =>
  intro i t' hi h' hp
  obtain rfl:i=play.length:=by omega
  rw [List.drop_length] at hp
  exact rY hg h t' h' hp wins hw play
 | succ d ih =>
  intro i t' hi h' hp
  rw [List.drop_eq_getElem_cons (show i<play.length by omega)] at hp
  obtain ⟨q,e,hq,hM,hp⟩:=hp
  have hm:=eA hg h' hq hM
  refine Ev.succ ?_
  simp only [laws_FnGame.l1]
  rw [dS _ i (by omega),e,bT (n:=1000) (by omega) (by omega)]
  exact Ev.pos (by omega) (Ev.pos (by omega) (Ev.bind (jh hg h' hq hM) (Ev.pos rfl (ih (i+1) _ (by omega) hm.1 hp))))
theorem qr (play:List Int) (hp24:play.length≤24) (hp:jy g n ring play t) (hpar:play.length % 2=1 ↔ dN g (az t) n ring≠0) (hlo:g7 g (az t) n ring≤play.length) (hhi:play.length≤fI g (az t) n ring) :
  Ev (fun k=>laws_FnGame.j9 k g (fC g n ring t) true ((dN g (az t) n ring:Nat):Int) (((dN g (az t) n ring:Nat):Int) != 0) (bU (bB g (az t) n ring) n) play ((g7 g (az t) n ring:Nat):Int) ((fI g (az t) n ring:Nat):Int) n ring t) true:=by
 obtain ⟨h2,h24,h3⟩:=eS h
 obtain ⟨mx1,mx2,mx3,mx4⟩:=l9 hg h24 h2 h3 t
 have hwin:0<(fC g n ring t).length ↔ dN g (az t) n ring≠0:=by
  constructor
  ·intro hl
   have hmem:=List.getElem_mem (l:=fC g n ring t) (n:=0) hl
   obtain ⟨hm1,hm2⟩:=List.mem_filter.1 hmem
   obtain ⟨q,hq,hM,e⟩:=(b8 _ _ _).1 hm1
   rw [e,Int.toNat_natCast] at hm2
   have:=of_decide_eq_true hm2
   rw [gI hg h2 h24] at this
   have:=(mx2 q hq hM).1
   omega
  ·intro c
   obtain ⟨p,hp,hMp,ez⟩:=mx3 0 (by omega)
   exact List.length_pos_iff.2 (List.ne_nil_of_mem (List.mem_filter.2 ⟨(b8 _ _ _).2 ⟨p,hp,hMp,rfl⟩,by unfold jV;rw [Int.toNat_natCast,gI hg h2 h24,ez];rfl⟩))
 refine Ev.succ ?_
 simp only [laws_FnGame.j9]
 refine Ev.pos (by first|rfl|exact True.intro) (Ev.neg ?_ (Ev.neg ?_ (Ev.neg ?_ (Ev.neg (by omega) (Ev.succ ?_)))))
 ·by_cases c:dN g (az t) n ring=0
  ·rw [c];simp
  ·rw [decide_eq_true (show ((dN g (az t) n ring:Nat):Int) > 0 from by omega),bne_iff_ne.2 (show ((dN g (az t) n ring:Nat):Int)≠0 from by omega)];simp
 ·by_cases c:dN g (az t) n ring=0
  ·rw [c,decide_eq_false (show ¬ ((fC g n ring t).length:Int) > 0 from by have:=mt hwin.1 (fun e=>e c);omega)];simp
  ·rw [decide_eq_true (show ((fC g n ring t).length:Int) > 0 from by have:=hwin.2 c;omega),bne_iff_ne.2 (show ((dN g (az t) n ring:Nat):Int)≠0 from by omega)];simp
 ·have em:(play.length:Int) % 2=((play.length % 2:Nat):Int):=by omega
  by_cases c:dN g (az t) n ring=0
  ·have h0:¬ play.length % 2=1:=fun e=>hpar.1 e c
   rw [c,em,show play.length % 2=0 from by omega];simp
  ·rw [em,hpar.2 c,bne_iff_ne.2 (show ((dN g (az t) n ring:Nat):Int)≠0 from by omega)];simp
 ·simp only [laws_FnGame.j10]
  exact Ev.neg (by rw [decide_eq_true_eq];omega) (sm hg h _ rfl play hp24 play.length 0 t (by omega) h hp)
end
theorem rJ (code:List Int) (hb:∀ x ∈ code,0≤x∧x≤255) (x4:Int) (x5:List Int) (x6:Bool) (x9:Int) (x13:Bool) (x17 x21:List Int) (x25 x26 s:Int) (ring:Bool) (t:List Int) (tail:Ev (fun k=>laws_FnGame.j9 k x4 x5 x6 x9 x13 x17 x21 x25 x26 s ring t) true) :
  Ev (fun k=>laws_FnGame.j5 k code x4 x5 x6 x9 x13 x17 x21 x25 x26 false s ring t) true:=by
 classical
 obtain ⟨n1,r1,t1,g1,p1,e1,ht1⟩:=qn code hb
 obtain ⟨s',r',l,b,hl,m1,m2⟩:=lL n1 r1 t1 (by omega) g1 p1
 have hl2:l.length≤1000:=by
  by_cases hr:cn s' r' l
  ·have:=dk _ _ _ hr;omega
  ·have hbad:l=[]:=by
    by_cases h:cn n1 r1 t1∧1≤g1∧g1≤2
    ·obtain ⟨n,rfl,h2,h24,h3,hin⟩:=dW h.1
     have hg:g1=1 ∨ g1=2:=by omega
     by_cases hM:∃ q:Nat,q<n∧bB g1 (az t1) n r1 q=true∧p1=q
     ·obtain ⟨q,hq,hM,rfl⟩:=hM
      have:=Ev.uniq m2 (jh hg h.1 hq hM)
      injection this with a1 a2;injection a2 with a2 a3;injection a3 with a3 a4
      subst a1 a2 a3
      exact absurd (eA hg h.1 hq hM).1 hr
     ·have hlen:=cz (bB g1 (az t1) n r1) n
      have hmv:=eQ (ring:=r1) h2 h24 hg (t:=t1) (by omega) (F:=az t1) (fun p _=>by unfold az;simp)
      have has:Ev (fun k=>bo.f k (bU (bB g1 (az t1) n r1) n) p1) (decide (p1 ∈ bU (bB g1 (az t1) n r1) n)):=Ev.bound n fun k hk=>el _ _ (by omega) k (by omega)
      have:Ev (fun k=>ch.f k n r1 t1 g1 p1) (0,false,[],false):=by
       unfold ch.f
       exact Ev.bind (ca _ r1 t1 (by omega)) (Ev.pos (decide_eq_true h.1) (Ev.have (cJ g1) (Ev.pos (decide_eq_true h.2) (Ev.bind hmv (Ev.bind has (Ev.neg (by rw [decide_eq_true_eq,b8];exact hM) (Ev.now _)))))))
      have:=Ev.uniq m1 this
      injection this with a1 a2;injection a2 with a2 a3;injection a3 with a3 a4
    ·have:Ev (fun k=>aU.f k n1 r1 t1 g1 p1) (0,false,[],false):=by
      unfold aU.f
      exact Ev.bind (bI n1 r1 t1 (by omega) g1) (Ev.neg (by rw [decide_eq_true_eq];exact h) (Ev.now _))
     have:=Ev.uniq m2 this
     injection this with a1 a2;injection a2 with a2 a3;injection a3 with a3 a4
   rw [hbad];simp
 obtain ⟨n2,r2,t2,g2,e2,ht2⟩:=qo code hb
 obtain ⟨a,ok,v1,v2⟩:=mh n2 r2 t2 (by omega) g2
 refine Ev.succ ?_
 simp only [laws_FnGame.j5]
 refine Ev.neg (by simp) (Ev.bind e1 (Ev.bind m2 (Ev.bind m1 (Ev.neg (cD _) (Ev.bind (qp s' r' l hl2) (Ev.succ ?_))))))
 simp only [laws_FnGame.j6]
 refine Ev.neg (by simp) (Ev.bind e2 (Ev.bind v2 (Ev.bind v1 (Ev.neg (cD _) (Ev.succ ?_)))))
 simp only [laws_FnGame.j7]
 refine Ev.neg (cD _) ?_
 cases ok with
 | false=>exact Ev.neg (by simp) tail
 | true =>
  have hgood:cn n2 r2 t2∧n2≤12∧1≤g2∧g2≤2:=Classical.byContradiction fun hno=>by
   have:Ev (fun k=>aa.f k n2 r2 t2 g2) (false,false):=by
    unfold aa.f
    refine Ev.bind (bI n2 r2 t2 (by omega) g2) ?_
    by_cases c:cn n2 r2 t2∧1≤g2∧g2≤2
    ·refine Ev.pos (decide_eq_true c) (Ev.pos ?_ (Ev.now _))
     have:¬ n2≤12:=fun e=>hno ⟨c.1,e,c.2⟩
     omega
    ·exact Ev.neg (by rw [decide_eq_true_eq];exact c) (Ev.now _)
   have:=Ev.uniq v2 this
   injection this with _ a2
   cases a2
  obtain ⟨hr,h12,hg1,hg2⟩:=hgood
  obtain ⟨n,rfl,h2,h24,h3,hin⟩:=dW hr
  have hg:g2=1 ∨ g2=2:=by omega
  have hlen:=cz (bB g2 (az t2) n r2) n
  have hval:=Ev.uniq v2 (jT hg hr (by omega))
  injection hval with ha _
  subst ha
  have hstep:=mi hg hr (by omega)
  have loop:∀ d i (b:Bool),i+d=(bU (bB g2 (az t2) n r2) n).length→(b || ((bU (bB g2 (az t2) n r2) n).drop i).any fun x=>!Wd g2 n r2 13 (cF (cM g2 n t2 x.toNat)))=Wd g2 n r2 13 (cF t2) →
    Ev (fun k=>laws_FnGame.l0 k x4 x5 x6 x9 x13 x17 x21 x25 x26 g2 (Wd g2 n r2 13 (cF t2)) (bU (bB g2 (az t2) n r2) n) b (i:Int) s ring t n r2 t2) true:=by
   intro d
   induction d with
   | zero =>
    intro i b hi hb2
    rw [List.drop_of_length_le (by omega),List.any_nil,Bool.or_false] at hb2
    refine Ev.succ ?_
    simp only [laws_FnGame.l0]
    rw [hb2]
    exact Ev.neg (by omega) (Ev.neg (cD _) tail)
   | succ d ih =>
    intro i b hi hb2
    obtain ⟨q,hq,hM,e⟩:=(b8 _ _ _).1 (List.getElem_mem (l:=bU (bB g2 (az t2) n r2) n) (n:=i) (by omega))
    have hm:=eA hg hr hq hM
    rw [List.drop_eq_getElem_cons (show i<(bU (bB g2 (az t2) n r2) n).length by omega),List.any_cons,e,Int.toNat_natCast,← Bool.or_assoc] at hb2
    have go:=ih (i+1) _ (by omega) hb2
    refine Ev.succ ?_
    simp only [laws_FnGame.l0]
    rw [dS _ i (by omega),e,bT (n:=1000) (by omega) (by omega)]
    refine Ev.pos (by omega) (Ev.pos (by omega) (Ev.bind (jh hg hr hq hM) (Ev.bind (jT hg hm.1 (by omega)) (Ev.pos rfl (Ev.pos rfl ?_)))))
    cases b with
    | true =>
     rw [Bool.true_or] at go
     exact Ev.pos rfl go
    | false =>
     rw [Bool.false_or] at go
     exact Ev.neg (by simp) go
  refine Ev.pos (by first|rfl|exact True.intro) (Ev.bind (gC hg hr).1 (Ev.pos rfl ?_))
  refine loop _ 0 _ (Nat.zero_add _) ?_
  rw [List.drop_zero,hstep]
  congr 1
  rw [Bool.eq_iff_iff,beq_iff_eq,decide_eq_true_eq]
  dsimp only
  omega
theorem FnGame:laws_FnGame.Pure:=by
 intro code _ hlen hwf
 have hb:∀ x ∈ code,0≤x∧x≤255:=fun x hx=>oN (hwf x hx)
 suffices H:Ev (fun k=>laws_FnGame.f k code) true from by
  obtain ⟨K,h⟩:=H
  exact ⟨K,h K (Nat.le_refl K)⟩
 classical
 unfold laws_FnGame.f
 refine Ev.have rfl ?_
 by_cases big:(code.length:Int) > 65536
 ·exact Ev.pos (decide_eq_true big) (Ev.now _)
 ·obtain ⟨s,ring,t,g,e,ht⟩:=oc code hb
  have e':Ev (fun k=>cw.f k code) (s,ring,t,g):=by
   unfold cw.f
   exact Ev.bind e (Ev.now _)
  refine Ev.neg (by rw [decide_eq_true_eq];exact big) (Ev.bind e' ?_)
  dsimp only
  by_cases h:cn s ring t∧1≤g∧g≤2
  ·obtain ⟨n,rfl,h2,h24,h3,hin⟩:=dW h.1
   have hg:g=1 ∨ g=2:=by omega
   have hR:=h.1
   obtain ⟨play,hp24,b1,b2,hp,hpar,hlo,hhi⟩:=pN hg hR
   have hwl:=mc g n ring t
   have hml:=cz (bB g (az t) n ring) n
   refine Ev.bind (na hg hR).1 (Ev.bind (na hg hR).2 (Ev.neg (cD _) (Ev.bind (hC (fC g n ring t) (by omega)) (Ev.succ ?_))))
   simp only [laws_FnGame.j0]
   refine Ev.neg (by simp) (Ev.bind (ga hg hR).1 (Ev.bind (ga hg hR).2 (Ev.pos rfl (Ev.neg (cD _) (Ev.succ ?_)))))
   simp only [laws_FnGame.j1]
   refine Ev.neg (cD _) (Ev.bind (oa hg hR).1 (Ev.bind (oa hg hR).2 (Ev.neg (cD _) (Ev.neg (cD _) (Ev.succ ?_)))))
   simp only [laws_FnGame.j2]
   refine Ev.neg (cD _) (Ev.bind (gC hg hR).1 (Ev.bind (gC hg hR).2 (Ev.neg (cD _) (Ev.neg (cD _) (Ev.bind (hC (bU (bB g (az t) n ring) n) (by omega)) (Ev.succ ?_))))))
   simp only [laws_FnGame.j3]
   refine Ev.neg (by simp) (Ev.bind b1 (Ev.bind b2 (Ev.neg (cD _) (Ev.neg (cD _) (Ev.bind (hC play (by omega)) (Ev.succ ?_))))))
   simp only [laws_FnGame.j4]
   refine Ev.neg (by simp) (Ev.bind (jS hg hR).1 (Ev.bind (jS hg hR).2 (Ev.pos rfl (Ev.pos rfl (Ev.neg (cD _) ?_)))))
   exact rJ code hb _ _ _ _ _ _ _ _ _ _ _ _ (qr hg hR play hp24 hp hpar hlo hhi)
  ·obtain ⟨⟨w1,w2⟩,⟨n1,n2⟩,⟨o1,o2⟩,⟨m1,m2⟩,⟨b1,b2⟩,⟨l1,l2⟩⟩:=qq s ring t (by omega) g h
   have r0:Ev (fun k=>bN.f k [] []) true:=hC [] (by simp)
   refine Ev.bind w1 (Ev.bind w2 (Ev.neg (cD _) (Ev.bind r0 (Ev.succ ?_))))
   simp only [laws_FnGame.j0]
   refine Ev.neg (by simp) (Ev.bind n1 (Ev.bind n2 (Ev.pos rfl (Ev.neg (cD _) (Ev.succ ?_)))))
   simp only [laws_FnGame.j1]
   refine Ev.neg (cD _) (Ev.bind o1 (Ev.bind o2 (Ev.neg (cD _) (Ev.neg (cD _) (Ev.succ ?_)))))
   simp only [laws_FnGame.j2]
   refine Ev.neg (cD _) (Ev.bind m1 (Ev.bind m2 (Ev.neg (cD _) (Ev.neg (cD _) (Ev.bind r0 (Ev.succ ?_))))))
   simp only [laws_FnGame.j3]
   refine Ev.neg (by simp) (Ev.bind b1 (Ev.bind b2 (Ev.neg (cD _) (Ev.neg (cD _) (Ev.bind r0 (Ev.succ ?_))))))
   simp only [laws_FnGame.j4]
   refine Ev.neg (by simp) (Ev.bind l1 (Ev.bind l2 (Ev.pos rfl (Ev.pos rfl (Ev.neg (cD _) ?_)))))
   refine rJ code hb _ _ _ _ _ _ _ _ _ _ _ _ (Ev.succ ?_)
   simp only [laws_FnGame.j9]
   exact Ev.neg (by simp) (Ev.now _)
end Go.Proofs.YtgcgmlbjklkkjaaDoor.Pure
