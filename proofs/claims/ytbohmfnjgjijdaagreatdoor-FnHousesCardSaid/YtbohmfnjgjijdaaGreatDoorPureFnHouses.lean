/- Houses of guests, for all codes: what the program tells is what the reference tells; each work leads from a valid house to a valid one with one work more, those who sit down can rise again, those who move can move back, a house that is cleared is empty. No conditions. -/
import Derived.Test.YtbohmfnjgjijdaaGreatDoorQFnHousesx
namespace Go.Proofs.YtbohmfnjgjijdaaGreatDoor.Pure
open Go.RowKit Go.Proofs.YtbohmfnjgjijdaaGreatDoor.QFnHouses Go.Proofs.YtbohmfnjgjijdaaGreatDoorW.PrintWords Go.Proofs.YtbohmfnjgjijdaaGreatDoorW.PrintLast Go.Proofs.YtbohmfnjgjijdaaGreatDoorW.PrintMore
set_option linter.unusedVariables false
set_option linter.unusedSimpArgs false
theorem cD {x:Int} (h0 : -9223372036854775808≤x) (h1:x≤9223372036854775807):wrap64 x=x:=by
 unfold wrap64
 omega
theorem bQ {i n:Nat} (h:i<n) (hn:n≤4611686018427387904):wrap64 ((i:Int)+1)=((i+1:Nat):Int):=by
 unfold wrap64
 omega
theorem kD (l:List Int) (i:Nat):rd l (i:Int)=l.getD i 0:=by unfold rd;simp
theorem da (l:List Int) (i:Nat) (h:i<l.length):rd l (i:Int)=l[i]:=by rw [kD];simp [List.getD,h]
theorem bv {k d:Nat} (h:d<k):∃ m,k=m+1∧d≤m:=⟨k - 1,by omega,by omega⟩
theorem gL {α:Type} [BEq α] [LawfulBEq α] (a:α):¬ (a != a)=true:=by simp
theorem Ev.succ {α:Type} {g:Nat→Option α} {r:α} (h:Ev (fun k=>g (k+1)) r):Ev g r:=by
 obtain ⟨K,h⟩:=h
 refine ⟨K+1,fun k hk=>?_⟩
 obtain ⟨k,rfl,hk'⟩:=bv (show K<k by omega)
 exact h k hk'
theorem Ev.pos {α:Type} {g f:Nat→Option α} {r:α} {c:Prop} [Decidable c] (hc:c) (h:Ev g r):Ev (fun k=>if c then g k else f k) r:=by
 obtain ⟨K,h⟩:=h
 exact ⟨K,fun k hk=>by show (if c then g k else f k)=some r;rw [if_pos hc];exact h k hk⟩
theorem Ev.neg {α:Type} {g f:Nat→Option α} {r:α} {c:Prop} [Decidable c] (hc:¬ c) (h:Ev f r):Ev (fun k=>if c then g k else f k) r:=by
 obtain ⟨K,h⟩:=h
 exact ⟨K,fun k hk=>by show (if c then g k else f k)=some r;rw [if_neg hc];exact h k hk⟩
theorem Ev.have {α β:Type} {x:Option α} {a:α} {f:Nat→α→Option β} {r:β} (e:x=some a) (h:Ev (fun k=>f k a) r):Ev (fun k=>x.bind (f k)) r:=by
 obtain ⟨K,h⟩:=h
 exact ⟨K,fun k hk=>by show x.bind (f k)=some r;rw [e,Option.bind_some];exact h k hk⟩
theorem Ev.bound {α:Type} {g:Nat→Option α} {r:α} (K:Nat) (h:∀ k,K<k→g k=some r):Ev g r:=⟨K+1,fun k hk=>h k (by omega)⟩
theorem Ev.same {α:Type} {g:Nat→Option α} {r r':α} (h:Ev g r) (e:r=r'):Ev g r':=e ▸ h
theorem Ev.uniq {α:Type} {g:Nat→Option α} {r r':α} (h:Ev g r) (h':Ev g r'):r=r':=by
 obtain ⟨K,h⟩:=h
 obtain ⟨K',h'⟩:=h'
 exact Option.some.inj ((h (K+K') (by omega)).symm.trans (h' (K+K') (by omega)))
def du (l:List Int):Nat:=l.foldl (fun s p=>s ||| 2 ^ p.toNat) 0
theorem i7 (l:List Int):∀ (s i:Nat),(l.foldl (fun s p=>s ||| 2 ^ p.toNat) s).testBit i=(s.testBit i || decide (∃ p ∈ l,p.toNat=i)):=by
 induction l with
 | nil=>intro s i;simp
 | cons a l ih =>
  intro s i
  rw [List.foldl_cons,ih,Nat.testBit_or,Nat.testBit_two_pow,Bool.or_assoc]
  congr 1
  rw [Bool.eq_iff_iff]
  simp
theorem dC (l:List Int) (i:Nat):(du l).testBit i=decide (∃ p ∈ l,p.toNat=i):=by
 unfold du
 rw [i7]
 simp
theorem mi (l:List Int) (n:Nat) (hl:∀ p ∈ l,p<n) (hn:0<n):∀ s,s<2 ^ n→l.foldl (fun s p=>s ||| 2 ^ p.toNat) s<2 ^ n:=by
 induction l with
 | nil=>intro s h;exact h
 | cons a l ih =>
  intro s h
  rw [List.foldl_cons]
  have:=hl a (by simp)
  exact ih (fun p hp=>hl p (by simp [hp])) _ (Nat.or_lt_two_pow h (Nat.pow_lt_pow_right (by omega) (by omega)))
theorem mI (l:List Int) (n:Nat) (hl:∀ p ∈ l,p<n) (hn:0<n):du l<2 ^ n:=mi l n hl hn 0 (Nat.two_pow_pos n)
theorem iQ (l:List Int) (hl:∀ p ∈ l,p<32):du l<4294967296:=mI l 32 hl (by omega)
theorem jM (a b:Nat) (ha:a<4294967296) (hb:b<4294967296):Go.bits .or .u32 (a:Int) (b:Int)=((a ||| b:Nat):Int) :=
 (bits_nat .u32 32 (by decide) (fun n h h'=>by rw [IntKind.wrap_u32];omega) a b ha hb).2
theorem mj (a b:Nat) (ha:a<4294967296) (hb:b<4294967296):Go.bits .and .u32 (a:Int) (b:Int)=((a &&& b:Nat):Int) :=
 (bits_nat .u32 32 (by decide) (fun n h h'=>by rw [IntKind.wrap_u32];omega) a b ha hb).1
theorem ld (p:Int) (h0:0≤p) (h1:p<32):shl .u32 1 p=((2 ^ p.toNat:Nat):Int):=by
 unfold shl
 rw [Int.one_mul,IntKind.wrap_u32,show min p.toNat IntKind.u32.bits=p.toNat from Nat.min_eq_left (by show p.toNat≤32;omega)]
 have:2 ^ p.toNat<2 ^ 32:=Nat.pow_lt_pow_right (by omega) (by omega)
 have e:((2 ^ p.toNat:Nat):Int)=(2:Int) ^ p.toNat:=by simp
 rw [← e]
 generalize 2 ^ p.toNat=y at *
 omega
theorem kE (x n:Nat) (h:∀ i,n≤i→x.testBit i=false):x<2 ^ n:=Nat.lt_pow_two_of_testBit x h
def ey (n:Nat) (ring:Bool) (p q:Nat):Int :=
 if ring=true then (if (if (p:Int) - q > (q:Int) - p then (p:Int) - q else (q:Int) - p)<(n:Int) - (if (p:Int) - q > (q:Int) - p then (p:Int) - q else (q:Int) - p) then (if (p:Int) - q > (q:Int) - p then (p:Int) - q else (q:Int) - p) else (n:Int) - (if (p:Int) - q > (q:Int) - p then (p:Int) - q else (q:Int) - p)) else (if (p:Int) - q > (q:Int) - p then (p:Int) - q else (q:Int) - p)
theorem i8 (n:Nat) (ring:Bool) (t:List Int) (p q:Nat) (hn:n≤24) (hp:p<n) (hq:q<n):dA.f (n:Int) ring t (p:Int) (q:Int)=some (ey n ring p q):=by
 unfold dA.f ey
 rw [cD (x:=(p:Int) - q) (by omega) (by omega),cD (x:=(q:Int) - p) (by omega) (by omega)]
 have e:cx.f ((p:Int) - q) ((q:Int) - p)=some (if (p:Int) - q > (q:Int) - p then (p:Int) - q else (q:Int) - p):=by
  unfold cx.f
  split <;> rfl
 rw [e,Option.bind_some]
 have hb:0≤(if (p:Int) - q > (q:Int) - p then (p:Int) - q else (q:Int) - p)∧(if (p:Int) - q > (q:Int) - p then (p:Int) - q else (q:Int) - p)≤24:=by split <;> omega
 generalize (if (p:Int) - q > (q:Int) - p then (p:Int) - q else (q:Int) - p)=d at hb ⊢
 rw [cD (by omega) (by omega)]
 cases ring with
 | true =>
  rw [if_pos rfl,if_pos rfl]
  unfold cX.f
  split <;> rw [Option.bind_some]
 | false=>rw [if_neg (by simp),if_neg (by simp)]
theorem kk (n:Nat) (ring:Bool) (p q:Nat) (hn:n≤24) (hp:p<n) (hq:q<n):cO.f (n:Int) ring (p:Int) (q:Int)=some (ey n ring p q):=by
 unfold cO.f ey
 rw [cD (x:=(p:Int) - q) (by omega) (by omega),cD (x:=(q:Int) - p) (by omega) (by omega)]
 have e:mx ((p:Int) - q) ((q:Int) - p)=(if (p:Int) - q > (q:Int) - p then (p:Int) - q else (q:Int) - p):=by
  unfold mx
  split <;> split <;> omega
 rw [e]
 have hb:0≤(if (p:Int) - q > (q:Int) - p then (p:Int) - q else (q:Int) - p)∧(if (p:Int) - q > (q:Int) - p then (p:Int) - q else (q:Int) - p)≤24:=by split <;> omega
 generalize (if (p:Int) - q > (q:Int) - p then (p:Int) - q else (q:Int) - p)=d at hb ⊢
 rw [cD (by omega) (by omega)]
 cases ring with
 | true =>
  rw [if_pos rfl,if_pos rfl]
  refine congrArg some ?_
  unfold mn
  split <;> split <;> omega
 | false=>rw [if_neg (by simp),if_neg (by simp)]
def fd (P:Nat→Bool):Nat→Nat
 | 0=>0
 | i+1=>if P i=true then fd P i ||| 2 ^ i else fd P i
theorem eh (P:Nat→Bool):∀ i q,(fd P i).testBit q=(decide (q<i) && P q)
 | 0,q=>by simp [fd]
 | i+1,q=>by
  rw [fd]
  by_cases h:P i=true
  ·rw [if_pos h,Nat.testBit_or,eh P i q,Nat.testBit_two_pow]
   by_cases e:i=q
   ·subst e;rw [h];simp
   ·rw [decide_eq_false e,Bool.or_false]
    by_cases g:q<i
    ·rw [decide_eq_true g,decide_eq_true (show q<i+1 by omega)]
    ·rw [decide_eq_false g,decide_eq_false (show ¬ q<i+1 by omega)]
  ·rw [if_neg h,eh P i q]
   by_cases e:i=q
   ·subst e;rw [Bool.eq_false_iff.2 h];simp
   ·by_cases g:q<i
    ·rw [decide_eq_true g,decide_eq_true (show q<i+1 by omega)]
    ·rw [decide_eq_false g,decide_eq_false (show ¬ q<i+1 by omega)]
theorem ml (P:Nat→Bool) (i:Nat) (hi:i≤32):fd P i<4294967296:=show fd P i<2 ^ 32 from kE _ 32 fun q hq=>by
 rw [eh,decide_eq_false (by omega)]
 rfl
def eY (l:List Nat):List Int:=l.map fun i:Nat=>(i:Int)
def eZ (P:Nat→Bool) (i:Nat):List Int:=eY ((List.range i).filter P)
theorem kF (P:Nat→Bool) (i:Nat):eZ P (i+1)=if P i=true then eZ P i++[(i:Int)] else eZ P i:=by
 unfold eZ eY
 rw [List.range_succ,List.filter_append]
 by_cases h:P i=true
 ·rw [if_pos h];simp [h]
 ·rw [if_neg h];simp [h]
theorem jv (P:Nat→Bool) (i:Nat):(eZ P i).length≤i:=by
 unfold eZ eY
 rw [List.length_map]
 exact Nat.le_trans (List.length_filter_le _ _) (by simp)
theorem fe (P:Nat→Bool) (i:Nat) (x:Int):x ∈ eZ P i ↔ ∃ q:Nat,q<i∧P q=true∧x=q:=by
 unfold eZ eY
 rw [List.mem_map]
 constructor
 ·rintro ⟨q,hq,rfl⟩
  have:=List.mem_filter.1 hq
  exact ⟨q,List.mem_range.1 this.1,this.2,rfl⟩
 ·rintro ⟨q,h1,h2,rfl⟩
  exact ⟨q,List.mem_filter.2 ⟨List.mem_range.2 h1,h2⟩,rfl⟩
theorem dp (n a b:Int):bA.f n a b=some (decide (a≤n∧n≤b)):=by
 unfold bA.f
 by_cases h:n ≥ a
 ·rw [if_pos h]
  simp [show a≤n from h]
 ·rw [if_neg h]
  simp [show ¬ a≤n from h]
theorem eH (n a b:Int):cm.f n a b=some (decide (a≤n∧n≤b)):=by
 unfold cm.f
 by_cases h:n ≥ a
 ·rw [if_pos h]
  simp [show a≤n from h]
 ·rw [if_neg h]
  simp [show ¬ a≤n from h]
theorem gM (l:List Int) (a b:Int) (hl:l.length≤1048576) (d:Nat):∀ (k i:Nat),i≤l.length→l.length - i=d→d<k→bd.l0 k a b l (l.length:Int) i=some (decide (∀ x ∈ l.drop i,a≤x∧x≤b)):=by
 induction d with
 | zero =>
  intro k i hi hd hk
  obtain ⟨k,rfl,_⟩:=bv hk
  simp only [bd.l0]
  rw [if_neg (by omega),List.drop_eq_nil_of_le (by omega)]
  simp
 | succ d ih =>
  intro k i hi hd hk
  obtain ⟨k,rfl,_⟩:=bv hk
  simp only [bd.l0]
  rw [if_pos (by omega),if_pos (by omega),if_pos (by omega),bQ (n:=l.length) (by omega) (by omega),da l i (by omega),eH,ih k (i+1) (by omega) (by omega) (by omega)]
  rw [List.drop_eq_getElem_cons (l:=l) (i:=i) (by omega)]
  rw [Option.bind_some]
  by_cases h:a≤l[i]'(by omega)∧l[i]'(by omega)≤b
  ·rw [if_pos (by simp only [h];simp)]
   refine congrArg some ?_
   rw [decide_eq_decide]
   simp only [List.mem_cons]
   exact ⟨fun e x hx=>hx.elim (fun z=>z ▸ h) (e x),fun e x hx=>e x (.inr hx)⟩
  ·rw [if_neg (by rw [decide_eq_true_eq];exact h)]
   refine congrArg some ?_
   symm
   rw [decide_eq_false_iff_not]
   exact fun e=>h (e _ List.mem_cons_self)
theorem gN (l:List Int) (a b:Int) (hl:l.length≤1048576) (k:Nat) (hk:l.length<k):bd.f k l a b=some (decide (∀ x ∈ l,a≤x∧x≤b)) :=
 gM l a b hl l.length k 0 (by omega) (by omega) hk
def fh (l:List Int) (a b:Int):Prop:=∀ i,(h:i<l.length)→(a≤l[i]∧l[i]≤b)∧(0<i→l.getD (i - 1) 0<l[i])
def dq (s:Int) (ring:Bool) (t:List Int):Prop:=(2≤s∧s≤24)∧(ring=true→3≤s)∧fh t 0 (s - 1)
open Classical in
theorem gW (l:List Int) (a b:Int) (hl:l.length≤1048576) (d:Nat):∀ (k i:Nat),i≤l.length→l.length - i=d→d<k→(∀ j,(h:j<i)→(hj:j<l.length)→(a≤l[j]∧l[j]≤b)∧(0<j→l.getD (j - 1) 0<l[j])) →
  aU.l0 k l a b i=some (decide (fh l a b)):=by
 induction d with
 | zero =>
  intro k i hi hd hk hp
  obtain ⟨k,rfl,_⟩:=bv hk
  simp only [aU.l0]
  rw [if_neg (by omega)]
  refine congrArg some ?_
  symm
  rw [decide_eq_true_eq]
  exact fun j hj=>hp j (by omega) hj
 | succ d ih =>
  intro k i hi hd hk hp
  obtain ⟨k,rfl,_⟩:=bv hk
  have no:¬ ((a≤l[i]'(by omega)∧l[i]'(by omega)≤b)∧(0<i→l.getD (i - 1) 0<l[i]'(by omega)))→¬ fh l a b:=fun g e=>g (e i (by omega))
  have go:((a≤l[i]'(by omega)∧l[i]'(by omega)≤b)∧(0<i→l.getD (i - 1) 0<l[i]'(by omega)))→aU.l0 k l a b (wrap64 ((i:Int)+1))=some (decide (fh l a b)):=by
   intro g
   rw [bQ (n:=l.length) (by omega) (by omega)]
   refine ih k (i+1) (by omega) (by omega) (by omega) fun j hj hj'=>?_
   by_cases e:j=i
   ·subst e;exact g
   ·exact hp j (by omega) hj'
  simp only [aU.l0]
  rw [if_pos (by omega),if_pos (by omega),da l i (by omega),dp,Option.bind_some]
  by_cases g:a≤l[i]'(by omega)∧l[i]'(by omega)≤b
  ·rw [if_pos (decide_eq_true g)]
   by_cases h0:0<i
   ·rw [if_pos (by omega),cD (by omega) (by omega),if_pos (by omega),if_pos (by omega),show (i:Int) - 1=((i - 1:Nat):Int) from by omega,kD]
    by_cases g2:l.getD (i - 1) 0<l[i]'(by omega)
    ·rw [if_neg (by omega)]
     exact go ⟨g,fun _=>g2⟩
    ·rw [if_pos (by omega),decide_eq_false (no fun e=>g2 (e.2 h0))]
   ·rw [if_neg (by omega)]
    exact go ⟨g,fun e=>absurd e h0⟩
  ·rw [if_neg (by rw [decide_eq_true_eq];exact g),decide_eq_false (no fun e=>g e.1)]
open Classical in
theorem gX (l:List Int) (a b:Int) (hl:l.length≤1048576) (k:Nat) (hk:l.length<k):aU.f k l a b=some (decide (fh l a b)) :=
 gW l a b hl l.length k 0 (by omega) (by omega) hk (fun j h=>by omega)
open Classical in
theorem dR (s:Int) (ring:Bool) (t:List Int) (ht:t.length≤1048576) (k:Nat) (hk:t.length<k):bF.f k s ring t=some (decide (dq s ring t)):=by
 unfold bF.f
 rw [dp,Option.bind_some]
 by_cases h:2≤s∧s≤24
 ·rw [if_pos (decide_eq_true h),cD (by omega) (by omega),gX t _ _ ht k hk,Option.bind_some]
  cases ring with
  | true =>
   rw [if_pos rfl]
   by_cases h3:s > 2
   ·rw [if_pos h3]
    refine congrArg some ?_
    rw [decide_eq_decide]
    exact ⟨fun e=>⟨h,fun _=>by omega,e⟩,fun e=>e.2.2⟩
   ·rw [if_neg h3]
    refine congrArg some ?_
    symm
    rw [decide_eq_false_iff_not]
    exact fun e=>h3 (by have:=e.2.1 rfl;omega)
  | false =>
   rw [if_neg (by simp)]
   refine congrArg some ?_
   rw [decide_eq_decide]
   exact ⟨fun e=>⟨h,(fun z=>by cases z),e⟩,fun e=>e.2.2⟩
 ·rw [if_neg (by rw [decide_eq_true_eq];exact h)]
  refine congrArg some ?_
  symm
  rw [decide_eq_false_iff_not]
  exact fun e=>h e.1
theorem eI (s:Int) (ring:Bool) (p:Int) (k:Nat) (hk:2<k):bo.f k s ring [p]=some (decide (0≤p∧p≤wrap64 (s - 1))):=by
 unfold bo.f
 rw [gN [p] _ _ (by simp) k (by simp;omega),Option.bind_some]
 refine congrArg some ?_
 rw [decide_eq_decide]
 simp
theorem fP (s:Int) (ring:Bool):b9.f s ring=some (decide ((2≤s∧s≤24)∧(ring=true→3≤s))):=by
 unfold b9.f
 rw [eH,Option.bind_some]
 by_cases h:2≤s∧s≤24
 ·rw [if_pos (decide_eq_true h)]
  cases ring with
  | true =>
   rw [if_pos rfl]
   refine congrArg some ?_
   rw [decide_eq_decide]
   exact ⟨fun e=>⟨h,fun _=>e⟩,fun e=>e.2 rfl⟩
  | false =>
   rw [if_neg (by simp)]
   refine congrArg some ?_
   symm
   rw [decide_eq_true_eq]
   exact ⟨h,(fun z=>by cases z)⟩
 ·rw [if_neg (by rw [decide_eq_true_eq];exact h)]
  refine congrArg some ?_
  symm
  rw [decide_eq_false_iff_not]
  exact fun e=>h e.1
open Classical in
theorem i9 (s:Int) (ring:Bool) (l:List Int) (hl:l.length≤1048576) (d:Nat):∀ (k i:Nat),i≤l.length→l.length - i=d→d+3<k→((2≤s∧s≤24)→∀ j,(h:j<i)→(hj:j<l.length)→(0≤l[j]∧l[j]≤s - 1)∧(0<j→l.getD (j - 1) 0<l[j])) →
  be.l0 k l (l.length:Int) i s ring l=some (decide (dq s ring l)):=by
 induction d with
 | zero =>
  intro k i hi hd hk hp
  obtain ⟨k,rfl,_⟩:=bv hk
  simp only [be.l0]
  rw [if_neg (by omega),bD.f,Option.bind_some]
  dsimp only
  rw [fP,Option.bind_some]
  refine congrArg some ?_
  rw [decide_eq_decide]
  exact ⟨fun e=>⟨e.1,e.2,fun j hj=>hp e.1 j (by omega) hj⟩,fun e=>⟨e.1,e.2.1⟩⟩
 | succ d ih =>
  intro k i hi hd hk hp
  obtain ⟨k,rfl,_⟩:=bv hk
  have no:(2≤s∧s≤24→¬ ((0≤l[i]'(by omega)∧l[i]'(by omega)≤s - 1)∧(0<i→l.getD (i - 1) 0<l[i]'(by omega))))→¬ dq s ring l:=fun g e=>g e.1 (e.2.2 i (by omega))
  have go:(2≤s∧s≤24→((0≤l[i]'(by omega)∧l[i]'(by omega)≤s - 1)∧(0<i→l.getD (i - 1) 0<l[i]'(by omega))))→be.l0 k l (l.length:Int) (wrap64 ((i:Int)+1)) s ring l=some (decide (dq s ring l)):=by
   intro g
   rw [bQ (n:=l.length) (by omega) (by omega)]
   refine ih k (i+1) (by omega) (by omega) (by omega) fun hs j hj hj'=>?_
   by_cases e:j=i
   ·subst e;exact g hs
   ·exact hp hs j (by omega) hj'
  simp only [be.l0]
  rw [if_pos (by omega),if_pos (by omega),if_pos (by omega),bD.f,Option.bind_some]
  dsimp only
  rw [da l i (by omega),eI _ _ _ k (by omega),Option.bind_some]
  by_cases g:0≤l[i]'(by omega)∧l[i]'(by omega)≤wrap64 (s - 1)
  ·rw [if_pos (decide_eq_true g)]
   have g':2≤s∧s≤24→0≤l[i]'(by omega)∧l[i]'(by omega)≤s - 1:=fun hs=>by
    rw [cD (by omega) (by omega)] at g
    exact g
   by_cases h0:0<i
   ·rw [if_pos (by omega),cD (by omega) (by omega),if_pos (by omega),if_pos (by omega),show (i:Int) - 1=((i - 1:Nat):Int) from by omega,kD]
    by_cases g2:l.getD (i - 1) 0<l[i]'(by omega)
    ·rw [if_neg (by omega)]
     exact go fun hs=>⟨g' hs,fun _=>g2⟩
    ·rw [if_pos (by omega),decide_eq_false (no fun _ e=>g2 (e.2 h0))]
   ·rw [if_neg (by omega)]
    exact go fun hs=>⟨g' hs,fun e=>absurd e h0⟩
  ·rw [if_neg (by rw [decide_eq_true_eq];exact g)]
   rw [decide_eq_false (no fun hs e=>g ?_)]
   rw [cD (by omega) (by omega)]
   exact e.1
open Classical in
theorem gr (s:Int) (ring:Bool) (l:List Int) (hl:l.length≤1048576) (k:Nat) (hk:l.length+3<k):be.f k s ring l=some (decide (dq s ring l)) :=
 i9 s ring l hl l.length k 0 (by omega) (by omega) hk (fun _ j h=>by omega)
theorem gY (l:List Int) (a b:Int) (h:fh l a b) (i j:Nat) (hij:i<j) (hj:j<l.length):l[i]'(by omega)<l[j]:=by
 induction j with
 | zero=>omega
 | succ j ih =>
  have h1:=(h (j+1) hj).2 (by omega)
  rw [show j+1 - 1=j from by omega,show l.getD j 0=l[j]'(by omega) from by simp [List.getD,show j<l.length by omega]] at h1
  by_cases e:i=j
  ·subst e;exact h1
  ·have:=ih (by omega) (by omega)
   omega
theorem gA (l:List Int) (a b:Int) (h:fh l a b):∀ x ∈ l,a≤x∧x≤b:=by
 intro x hx
 obtain ⟨i,hi,rfl⟩:=List.getElem_of_mem hx
 exact (h i hi).1
theorem b8 (l:List Int) (a b:Int) (h:fh l a b):l.Nodup:=by
 refine List.pairwise_iff_getElem.2 fun i j hi hj hij e=>?_
 have:=gY l a b h i j hij hj
 omega
theorem cr (s:Int) (ring:Bool) (t:List Int) (h:dq s ring t):t.length≤24:=by
 have hn:=b8 t _ _ h.2.2
 have hs:t ⊆ (List.range 24).map fun i:Nat=>(i:Int):=by
  intro x hx
  have:=gA t _ _ h.2.2 x hx
  have:=h.1
  exact List.mem_map.2 ⟨x.toNat,List.mem_range.2 (by omega),by omega⟩
 have:=List.Nodup.length_le_of_subset hn hs
 simpa using this
theorem km (S:Nat) (l:List Int) (h:∀ i,S.testBit i=true ↔ ∃ p ∈ l,p.toNat=i):S=du l:=by
 refine Nat.eq_of_testBit_eq fun i=>?_
 rw [dC,Bool.eq_iff_iff,h,decide_eq_true_eq]
theorem kG (s a:Nat) (ha:s.testBit a=true) (hl:∀ j,j<a→s.testBit j=false) (h:s<2 ^ 32):Lib.ctz 32 s=a:=by
 have h0:s≠0:=fun e=>by rw [e] at ha;simp at ha
 unfold Lib.ctz
 rw [if_neg h0]
 obtain ⟨m,hm,hf⟩:=Lib.ctzFrom_spec 32 s (by omega) h
 generalize Lib.ctzFrom 32 s=c at hm hf
 rcases Nat.lt_trichotomy c a with g|g|g
 ·have:=hl c g
  rw [hm,Nat.testBit_two_pow_mul] at this
  simp at this
 ·exact g
 ·rw [hm,Nat.testBit_two_pow_mul] at ha
  simp at ha
  omega
theorem mm (q a:Nat):(2 ^ (a+1) * q+2 ^ a) &&& (2 ^ (a+1) * q+2 ^ a - 1)=2 ^ (a+1) * q:=by
 have p:0<2 ^ a:=Nat.two_pow_pos a
 have l1:2 ^ a<2 ^ (a+1):=Nat.pow_lt_pow_right (by omega) (by omega)
 refine Nat.eq_of_testBit_eq fun j=>?_
 rw [show 2 ^ (a+1) * q+2 ^ a - 1=2 ^ (a+1) * q+(2 ^ a - 1) from by omega,Nat.testBit_and,Nat.testBit_two_pow_mul_add q l1 j,Nat.testBit_two_pow_mul_add q (show 2 ^ a - 1<2 ^ (a+1) by omega) j,Nat.testBit_two_pow_mul]
 by_cases g:j<a+1
 ·rw [if_pos g,if_pos g,decide_eq_false (by omega:¬ a+1≤j),Bool.false_and,Nat.testBit_two_pow,Nat.testBit_two_pow_sub_one]
  by_cases e:a=j
  ·subst e;simp
  ·simp [e]
 ·rw [if_neg g,if_neg g,decide_eq_true (by omega:a+1≤j),Bool.true_and,Bool.and_self]
theorem lC (a:Int) (L:List Int):du (a :: L)=2 ^ a.toNat ||| du L:=by
 refine Nat.eq_of_testBit_eq fun j=>?_
 rw [dC,Nat.testBit_or,Nat.testBit_two_pow,dC,Bool.eq_iff_iff]
 simp
theorem kH (a:Nat) (L:List Int) (hL:∀ x ∈ L,(a:Int)<x):∃ q,du L=2 ^ (a+1) * q∧du ((a:Int) :: L)=2 ^ (a+1) * q+2 ^ a:=by
 have e:du L=2 ^ (a+1) * (du L / 2 ^ (a+1)):=by
  have hz:du L % 2 ^ (a+1)=0:=by
   refine Nat.eq_of_testBit_eq fun j=>?_
   rw [Nat.testBit_mod_two_pow,dC]
   by_cases g:j<a+1
   ·have:¬ ∃ p ∈ L,p.toNat=j:=fun ⟨p,hp,e⟩=>by have:=hL p hp;omega
    rw [decide_eq_false this]
    simp
   ·rw [decide_eq_false g]
    simp
  have:=Nat.mod_add_div (du L) (2 ^ (a+1))
  omega
 refine ⟨du L / 2 ^ (a+1),e,?_⟩
 have l1:2 ^ a<2 ^ (a+1):=Nat.pow_lt_pow_right (by omega) (by omega)
 rw [lC,Int.toNat_natCast]
 generalize du L / 2 ^ (a+1)=q at e
 rw [e,Nat.or_comm,Nat.two_pow_add_eq_or_of_lt l1]
theorem kn (L:List Int):∀ (out:List Int) (k:Nat),L.Pairwise (·<·)→(∀ x ∈ L,0≤x∧x<32)→out.length+L.length≤1000→L.length<k→aG.l0 k ((du L:Nat):Int) out=some (out++L):=by
 induction L with
 | nil =>
  intro out k _ _ _ hk
  obtain ⟨k,rfl,_⟩:=bv hk
  simp only [aG.l0]
  rw [if_pos (show ((du []:Nat):Int)=0 from rfl),List.append_nil]
 | cons b L ih =>
  intro out k hp hb ho hk
  obtain ⟨k,rfl,hk'⟩:=bv hk
  rw [List.length_cons] at ho hk'
  obtain ⟨h1,h2⟩:=List.pairwise_cons.1 hp
  have hb0:=hb b List.mem_cons_self
  obtain ⟨a,rfl⟩:∃ a:Nat,b=a:=⟨b.toNat,by omega⟩
  obtain ⟨q,e1,e2⟩:=kH a L h1
  have hlt:du ((a:Int) :: L)<4294967296:=iQ _ fun p hp=>(hb p hp).2
  have hlt2:du L<4294967296:=iQ _ fun p hp=>(hb p (List.mem_cons_of_mem _ hp)).2
  have pa:0<2 ^ a:=Nat.two_pow_pos a
  have hctz:Lib.ctz 32 (du ((a:Int) :: L))=a:=by
   refine kG _ a ?_ (fun j hj=>?_) hlt
   ·rw [dC]
    exact decide_eq_true ⟨a,List.mem_cons_self,Int.toNat_natCast a⟩
   ·rw [dC]
    refine decide_eq_false fun ⟨p,hp,e⟩=>?_
    rcases List.mem_cons.1 hp with g|g
    ·omega
    ·have:=h1 p g;omega
  simp only [aG.l0]
  rw [if_neg (by omega)]
  have ef:bJ.f ((du ((a:Int) :: L):Nat):Int)=some (a:Int):=by
   unfold bJ.f
   rw [if_pos (by omega),Int.toNat_natCast,hctz]
  rw [ef,Option.bind_some,if_pos (by omega)]
  have em:(((du ((a:Int) :: L):Nat):Int) - 1) % 4294967296=((du ((a:Int) :: L) - 1:Nat):Int):=by omega
  rw [em,mj _ _ hlt (by omega),e2,mm,← e1,ih (out++[(a:Int)]) k h2 (fun x hx=>hb x (List.mem_cons_of_mem _ hx)) (by simp;omega) (by omega),List.append_assoc]
  rfl
theorem er (L:List Int) (hp:L.Pairwise (·<·)) (hb:∀ x ∈ L,0≤x∧x<32) (hl:L.length≤100):Ev (fun k=>aG.f k ((du L:Nat):Int)) L:=by
 refine Ev.bound L.length fun k hk=>?_
 unfold aG.f
 have:=kn L [] k hp hb (by simp;omega) hk
 rwa [List.nil_append] at this
theorem ja (l:List Int) (hl:l.length≤1048576) (hb:∀ x ∈ l,0≤x∧x<32) (d:Nat):∀ (k i s:Nat),s<4294967296→i≤l.length→l.length - i=d→d<k →
  bn.l0 k (s:Int) l (l.length:Int) i=some (((l.drop i).foldl (fun s p=>s ||| 2 ^ p.toNat) s:Nat):Int):=by
 induction d with
 | zero =>
  intro k i s hs hi hd hk
  obtain ⟨k,rfl,_⟩:=bv hk
  simp only [bn.l0]
  rw [if_neg (by omega),List.drop_eq_nil_of_le (by omega)]
  rfl
 | succ d ih =>
  intro k i s hs hi hd hk
  obtain ⟨k,rfl,_⟩:=bv hk
  obtain ⟨b0,b1⟩:=hb (l[i]'(by omega)) (List.getElem_mem _)
  have hp:2 ^ (l[i]'(by omega)).toNat<2 ^ 32:=Nat.pow_lt_pow_right (by omega) (by omega)
  simp only [bn.l0]
  rw [if_pos (by omega),if_pos (by omega),if_pos (by omega),bQ (n:=l.length) (by omega) (by omega),da l i (by omega),if_pos b0,ld _ b0 b1,jM _ _ hs hp]
  rw [ih k (i+1) _ (Nat.or_lt_two_pow (n:=32) hs hp) (by omega) (by omega) (by omega),List.drop_eq_getElem_cons (l:=l) (i:=i) (by omega)]
  rfl
theorem ei (l:List Int) (hl:l.length≤1048576) (hb:∀ x ∈ l,0≤x∧x<32) (k:Nat) (hk:l.length<k):bn.f k l=some ((du l:Nat):Int) :=
 ja l hl hb l.length k 0 0 (by omega) (by omega) (by omega) hk
theorem mo (s:Int) (ring:Bool) (t:List Int) (hr:dq s ring t):(∀ x ∈ t,0≤x∧x<32)∧du t<4294967296:=by
 have hm:=gA t _ _ hr.2.2
 have h24:=hr.1
 exact ⟨fun x hx=>by have:=hm x hx;omega,iQ t fun x hx=>by have:=hm x hx;omega⟩
theorem jb (s:Int) (ring:Bool) (t:List Int) (hr:dq s ring t) (k:Nat) (hk:t.length<k):cf.f k s ring t=some ((du t:Nat):Int):=by
 unfold cf.f
 have:=cr s ring t hr
 rw [ei t (by omega) (mo s ring t hr).1 k hk,Option.bind_some]
theorem bR (l:List Int) (h:l.length<17592186044416):cI.f l=some l:=by
 unfold cI.f
 rw [Option.bind_some,if_pos (by simpa using h)]
 rfl
def d5 (t:List Int) (p:Int):List Int:=(t.filter fun x=>decide (x<p))++p :: t.filter fun x=>decide (p<x)
theorem jN (t:List Int) (p:Int) (hr:∀ i j,(h:i<j)→(hj:j<t.length)→t[i]'(by omega)<t[j]) (i:Nat) (hi:i≤t.length) (h1:∀ j,(h:j<i)→t[j]'(by omega)<p) (h2:∀ j,i≤j→(hj:j<t.length)→p<t[j]) :
  t.take i=(t.filter fun x=>decide (x<p))∧t.drop i=(t.filter fun x=>decide (p<x)):=by
 have e:=(List.take_append_drop i t).symm
 have a1:∀ x ∈ t.take i,x<p:=fun x hx=>by
  obtain ⟨j,hj,rfl⟩:=List.getElem_of_mem hx
  rw [List.length_take] at hj
  rw [List.getElem_take]
  exact h1 j (by omega)
 have a2:∀ x ∈ t.drop i,p<x:=fun x hx=>by
  obtain ⟨j,hj,rfl⟩:=List.getElem_of_mem hx
  rw [List.length_drop] at hj
  rw [List.getElem_drop]
  exact h2 _ (by omega) (by omega)
 constructor
 ·conv=>rhs;rw [e]
  rw [List.filter_append,List.filter_eq_self.2 (fun x hx=>decide_eq_true (a1 x hx)),List.filter_eq_nil_iff.2 (fun x hx=>by have:=a2 x hx;simp;omega),List.append_nil]
 ·conv=>rhs;rw [e]
  rw [List.filter_append,List.filter_eq_nil_iff.2 (fun x hx=>by have:=a1 x hx;simp;omega),List.filter_eq_self.2 (fun x hx=>decide_eq_true (a2 x hx)),List.nil_append]
theorem jc (t:List Int) (p:Int) (ht:t.length≤1048576) (hr:∀ i j,(h:i<j)→(hj:j<t.length)→t[i]'(by omega)<t[j]) (hp:p ∉ t) (d:Nat):∀ (k i:Nat),i≤t.length→t.length - i=d→d<k→(∀ j,(h:j<i)→(hj:j<t.length)→t[j]<p) →
  bg.l0 k t p (i:Int)=some (d5 t p):=by
 have done:∀ i,i≤t.length→(∀ j,(h:j<i)→(hj:j<t.length)→t[j]<p)→(∀ j,i≤j→(hj:j<t.length)→p<t[j])→[]++t.take i++[p]++t.drop i=d5 t p:=by
  intro i hi h1 h2
  obtain ⟨e1,e2⟩:=jN t p hr i hi (fun j hj=>h1 j hj (by omega)) h2
  rw [e1,e2]
  simp [d5]
 induction d with
 | zero =>
  intro k i hi hd hk h1
  obtain ⟨k,rfl,_⟩:=bv hk
  simp only [bg.l0]
  rw [if_neg (by omega),Option.bind_some,if_pos (by omega),if_pos (by omega),if_pos (by simp;omega),Option.bind_some,Option.bind_some,if_pos (by simp;omega),Option.bind_some,if_pos (by simp;omega),Int.toNat_natCast,done i hi h1 (fun j hj hj'=>by omega)]
 | succ d ih =>
  intro k i hi hd hk h1
  obtain ⟨k,rfl,_⟩:=bv hk
  simp only [bg.l0]
  rw [if_pos (by omega),if_pos (by omega),da t i (by omega)]
  by_cases g:t[i]'(by omega)<p
  ·rw [if_pos g,bQ (n:=t.length) (by omega) (by omega)]
   refine ih k (i+1) (by omega) (by omega) (by omega) fun j hj hj'=>?_
   by_cases e:j=i
   ·subst e;exact g
   ·exact h1 j (by omega) hj'
  ·have hne:t[i]'(by omega)≠p:=fun e=>hp (e ▸ List.getElem_mem _)
   rw [if_neg g,if_neg hne,Option.bind_some,if_pos (by omega),if_pos (by simp;omega),Option.bind_some,Option.bind_some,if_pos (by simp;omega),Option.bind_some,if_pos (by simp;omega),Int.toNat_natCast,done i hi h1]
   intro j hj hj'
   by_cases e:j=i
   ·subst e;omega
   ·have:=hr i j (by omega) hj'
    omega
theorem jd (t:List Int) (p:Int) (ht:t.length≤1048576) (hr:∀ i j,(h:i<j)→(hj:j<t.length)→t[i]'(by omega)<t[j]) (hp:p ∉ t) (k:Nat) (hk:t.length<k):bg.f k t p=some (d5 t p) :=
 jc t p ht hr hp t.length k 0 (by omega) (by omega) hk (fun j h=>by omega)
theorem d6 (s:Int) (ring:Bool) (t:List Int) (p:Int) (ht:t.length≤1048576) (hr:∀ i j,(h:i<j)→(hj:j<t.length)→t[i]'(by omega)<t[j]) (hp:p ∉ t) (k:Nat) (hk:t.length<k):bH.f k s ring t p=some (s,ring,d5 t p):=by
 unfold bH.f
 rw [bR t (by omega),Option.bind_some,jd t p ht hr hp k hk,Option.bind_some,dn.f,Option.bind_some]
theorem e0 (t:List Int) (p x:Int) (hp:p ∉ t):x ∈ d5 t p ↔ x=p ∨ x ∈ t:=by
 unfold d5
 rw [List.mem_append,List.mem_cons,List.mem_filter,List.mem_filter,decide_eq_true_eq,decide_eq_true_eq]
 constructor
 ·rintro (e|e|e)
  ·exact .inr e.1
  ·exact .inl e
  ·exact .inr e.1
 ·rintro (e|e)
  ·exact .inr (.inl e)
  ·rcases Int.lt_trichotomy x p with g|g|g
   ·exact .inl ⟨e,g⟩
   ·exact .inr (.inl g)
   ·exact .inr (.inr ⟨e,g⟩)
theorem fM (t:List Int) (h:t.Pairwise (·<·)):∀ i j,(h:i<j)→(hj:j<t.length)→t[i]'(by omega)<t[j]:=fun i j hij hj=>List.pairwise_iff_getElem.1 h i j (by omega) hj hij
theorem fi (t:List Int) (p:Int) (h:t.Pairwise (·<·)):(d5 t p).Pairwise (·<·):=by
 unfold d5
 rw [List.pairwise_append]
 refine ⟨List.Pairwise.filter _ h,List.pairwise_cons.2 ⟨fun x hx=>?_,List.Pairwise.filter _ h⟩,fun a ha b hb=>?_⟩
 ·exact of_decide_eq_true (List.mem_filter.1 hx).2
 ·have h1:=of_decide_eq_true (List.mem_filter.1 ha).2
  rcases List.mem_cons.1 hb with e|e
  ·omega
  ·have h2:=of_decide_eq_true (List.mem_filter.1 e).2
   omega
theorem cE {s:Int} {ring:Bool} {t:List Int} (h:dq s ring t):t.Pairwise (·<·):=List.pairwise_iff_getElem.2 fun i j hi hj hij=>gY t _ _ h.2.2 i j hij hj
def dG (g:Int→Int):List Int→Int→Int
 | [],a=>a
 | q :: qs,a=>dG g qs (if a<0 then g q else if g q<a then g q else a)
theorem eJ (n:Nat) (ring:Bool) (p q:Nat) (hp:p<n) (hq:q<n):0≤ey n ring p q∧ey n ring p q<n:=by
 unfold ey
 generalize hd:(if (p:Int) - q > (q:Int) - p then (p:Int) - q else (q:Int) - p)=d
 have hb:0≤d∧d<n:=by rw [← hd];split <;> omega
 split
 ·split <;> omega
 ·omega
theorem jw (n:Nat) (ring:Bool) (p q:Nat) (hp:p<n) (hq:q<n):ey n ring p q=0 ↔ p=q:=by
 unfold ey
 generalize hd:(if (p:Int) - q > (q:Int) - p then (p:Int) - q else (q:Int) - p)=d
 have hb:0≤d∧d<n∧(d=0 ↔ p=q):=by rw [← hd];split <;> omega
 split
 ·split <;> omega
 ·omega
theorem fA (g:Int→Int) (m:Int):∀ (l:List Int) (a:Int),(∀ x ∈ l,0≤g x∧g x<m)→(a = -1 ∨ 0≤a∧a<m)→(l=[]∧dG g l a=a) ∨ (0≤dG g l a∧dG g l a<m)
 | [],a,_,_=>.inl ⟨rfl,rfl⟩
 | q :: qs,a,h,ha=>by
  have hq:=h q List.mem_cons_self
  rw [dG]
  have:=fA g m qs (if a<0 then g q else if g q<a then g q else a) (fun x hx=>h x (List.mem_cons_of_mem _ hx)) (by
   rcases ha with rfl|ha
   ·rw [if_pos (by omega)];exact .inr hq
   ·rw [if_neg (by omega)]
    split
    ·exact .inr hq
    ·exact .inr ha)
  rcases this with ⟨_,e⟩|h2
  ·rw [e]
   refine .inr ?_
   rcases ha with rfl|ha
   ·rw [if_pos (by omega)];exact hq
   ·rw [if_neg (by omega)]
    split
    ·exact hq
    ·exact ha
  ·exact .inr h2
theorem iR (g:Int→Int):∀ (l:List Int) (a:Int),(∀ x ∈ l,0≤g x)→(-1≤a)→(dG g l a=0 ↔ a=0 ∨ ∃ x ∈ l,g x=0)
 | [],a,_,_=>by simp [dG]
 | q :: qs,a,h,ha=>by
  have hq:=h q List.mem_cons_self
  rw [dG,iR g qs _ (fun x hx=>h x (List.mem_cons_of_mem _ hx)) (by split;omega;split <;> omega)]
  have:(if a<0 then g q else if g q<a then g q else a)=0 ↔ a=0 ∨ g q=0:=by
   split
   ·omega
   ·split <;> omega
  rw [this]
  simp only [List.mem_cons,exists_eq_or_imp,or_assoc]
def dc (n:Nat) (ring:Bool) (t:List Int) (p:Nat):Int:=if t=[] then (n:Int) else dG (fun q=>ey n ring p q.toNat) t (-1)
section
variable {n:Nat} {ring:Bool} {t:List Int} (hR:dq n ring t)
include hR
theorem dT:∀ x ∈ t,0≤x∧x<n:=fun x hx=>by have:=gA t _ _ hR.2.2 x hx;omega
theorem jx (p:Nat) (hp:p<n):0≤dc n ring t p∧dc n ring t p≤n:=by
 unfold dc
 split
 ·omega
 ·rename_i hne
  have h:=dT hR
  rcases fA (fun q=>ey n ring p q.toNat) n t (-1) (fun x hx=>eJ n ring p x.toNat hp (by have:=h x hx;omega)) (.inl rfl) with ⟨e,_⟩|e
  ·exact absurd e hne
  ·omega
theorem ko (p:Nat) (hp:p<n):dc n ring t p=0 ↔ (p:Int) ∈ t:=by
 have hn:2≤n:=by have:=hR.1.1;omega
 have h:=dT hR
 unfold dc
 split
 ·rename_i e
  subst e
  constructor
  ·intro e;omega
  ·intro e;simp at e
 ·rw [iR _ _ _ (fun x hx=>(eJ n ring p x.toNat hp (by have:=h x hx;omega)).1) (by omega)]
  constructor
  ·rintro (e|⟨x,hx,e⟩)
   ·omega
   ·have:=h x hx
    have:=(jw n ring p x.toNat hp (by omega)).1 e
    rwa [show (p:Int)=x by omega]
  ·intro e
   exact .inr ⟨p,e,(jw n ring p _ hp (by simpa using hp)).2 (by simp)⟩
theorem ij (p:Nat) (hp:p<n):∃ b:Int,Ev (fun k=>aw.f k n ring p ((du t:Nat):Int)) (b,mx 0 (dG (fun q=>ey n ring p q.toNat) t (-1)),decide (dG (fun q=>ey n ring p q.toNat) t (-1) ≥ 0)):=by
 have hn:n≤24:=by have:=hR.1.2;omega
 have h:=dT hR
 have hl:=cr _ ring _ hR
 have main:∀ (l:List Int) (i:Nat) (b a:Int),t.drop i=l→∃ b':Int,Ev (fun k=>aw.l0 k p b a t (t.length:Int) i n ring) (b',mx 0 (dG (fun q=>ey n ring p q.toNat) l a),decide (dG (fun q=>ey n ring p q.toNat) l a ≥ 0)):=by
  intro l
  induction l with
  | nil =>
   intro i b a e
   have:t.length≤i:=List.drop_eq_nil_iff.1 e
   refine ⟨b,Ev.succ ?_⟩
   simp only [aw.l0]
   exact Ev.neg (by omega) (Ev.now _)
  | cons q qs ih =>
   intro i b a e
   have hi:i<t.length:=by
    rcases Nat.lt_or_ge i t.length with g|g
    ·exact g
    ·rw [List.drop_eq_nil_iff.2 g] at e;cases e
   rw [List.drop_eq_getElem_cons hi] at e
   injection e with e1 e2
   have hq:=h q (by rw [← e1];exact List.getElem_mem hi)
   obtain ⟨b',go⟩:=ih (i+1) q (ey n ring p q.toNat) e2
   obtain ⟨b2,go2⟩:=ih (i+1) b a e2
   have hg:=eJ n ring p q.toNat hp (by omega)
   have ge:=kk n ring p q.toNat hn hp (by omega)
   rw [show ((q.toNat:Nat):Int)=q by omega] at ge
   by_cases c1:a<0
   ·refine ⟨b',Ev.succ ?_⟩
    simp only [aw.l0,dG]
    rw [if_pos c1]
    refine Ev.pos (by omega) (Ev.pos (by omega) (Ev.pos (by omega) ?_))
    rw [da t i hi,e1,bQ (n:=100) (by omega) (by omega)]
    exact Ev.have ge (Ev.pos c1 go)
   ·by_cases c2:ey n ring p q.toNat<a
    ·refine ⟨b',Ev.succ ?_⟩
     simp only [aw.l0,dG]
     rw [if_neg c1,if_pos c2]
     refine Ev.pos (by omega) (Ev.pos (by omega) (Ev.pos (by omega) ?_))
     rw [da t i hi,e1,bQ (n:=100) (by omega) (by omega)]
     exact Ev.have ge (Ev.neg c1 (Ev.pos c2 go))
    ·refine ⟨b2,Ev.succ ?_⟩
     simp only [aw.l0,dG]
     rw [if_neg c1,if_neg c2]
     refine Ev.pos (by omega) (Ev.pos (by omega) (Ev.pos (by omega) ?_))
     rw [da t i hi,e1,bQ (n:=100) (by omega) (by omega)]
     exact Ev.have ge (Ev.neg c1 (Ev.neg c2 go2))
 obtain ⟨b,hb⟩:=main t 0 0 (-1) rfl
 refine ⟨b,?_⟩
 unfold aw.f
 exact Ev.bind (er t (cE hR) (fun x hx=>by have:=h x hx;omega) (by omega)) hb
theorem kp (p:Nat) (hp:p<n):Ev (fun k=>cV.f k n ring t p) (dc n ring t p):=by
 have hn:n≤24:=by have:=hR.1.2;omega
 have h:=dT hR
 have hl:=cr _ ring _ hR
 have main:∀ (l:List Int) (i:Nat) (b a:Int),t.drop i=l→(b<0 ↔ a<0)→∃ b':Int,Ev (fun k=>aA.l0 k t p b a i n ring t) (b',dG (fun q=>ey n ring p q.toNat) l a):=by
  intro l
  induction l with
  | nil =>
   intro i b a e _
   have:t.length≤i:=List.drop_eq_nil_iff.1 e
   refine ⟨b,Ev.succ ?_⟩
   simp only [aA.l0]
   exact Ev.neg (by omega) (Ev.now _)
  | cons q qs ih =>
   intro i b a e hab
   have hi:i<t.length:=by
    rcases Nat.lt_or_ge i t.length with g|g
    ·exact g
    ·rw [List.drop_eq_nil_iff.2 g] at e;cases e
   rw [List.drop_eq_getElem_cons hi] at e
   injection e with e1 e2
   have hq:=h q (by rw [← e1];exact List.getElem_mem hi)
   have hg:=eJ n ring p q.toNat hp (by omega)
   obtain ⟨b',go⟩:=ih (i+1) q (ey n ring p q.toNat) e2 (by omega)
   obtain ⟨b2,go2⟩:=ih (i+1) b a e2 hab
   have ge:=i8 n ring t p q.toNat hn hp (by omega)
   rw [show ((q.toNat:Nat):Int)=q by omega] at ge
   by_cases c1:a<0
   ·refine ⟨b',Ev.succ ?_⟩
    simp only [aA.l0,dG]
    rw [if_pos c1]
    refine Ev.pos (by omega) (Ev.pos (by omega) ?_)
    rw [da t i hi,e1,bQ (n:=100) (by omega) (by omega)]
    exact Ev.have ge (Ev.pos (hab.2 c1) go)
   ·by_cases c2:ey n ring p q.toNat<a
    ·refine ⟨b',Ev.succ ?_⟩
     simp only [aA.l0,dG]
     rw [if_neg c1,if_pos c2]
     refine Ev.pos (by omega) (Ev.pos (by omega) ?_)
     rw [da t i hi,e1,bQ (n:=100) (by omega) (by omega)]
     exact Ev.have ge (Ev.neg (fun x=>c1 (hab.1 x)) (Ev.pos c2 go))
    ·refine ⟨b2,Ev.succ ?_⟩
     simp only [aA.l0,dG]
     rw [if_neg c1,if_neg c2]
     refine Ev.pos (by omega) (Ev.pos (by omega) ?_)
     rw [da t i hi,e1,bQ (n:=100) (by omega) (by omega)]
     exact Ev.have ge (Ev.neg (fun x=>c1 (hab.1 x)) (Ev.neg c2 go2))
 unfold cV.f dc
 by_cases ht:t=[]
 ·rw [if_pos ht]
  exact Ev.pos (by rw [ht];rfl) (Ev.now _)
 ·rw [if_neg ht]
  have:0<t.length:=List.length_pos_iff.2 ht
  obtain ⟨b,hb⟩:=main t 0 (-1) (-1) rfl (by omega)
  refine Ev.neg (by omega) (Ev.bind (a:=dG (fun q=>ey n ring p q.toNat) t (-1)) ?_ (Ev.now _))
  unfold cg.f aA.f
  exact Ev.bind hb (Ev.now _)
def fq (n:Nat) (ring:Bool) (t:List Int) (i:Nat):List Int:=(List.range i).map (dc n ring t)
omit hR in
theorem jy (i:Nat):fq n ring t (i+1)=fq n ring t i++[dc n ring t i]:=by simp [fq,List.range_succ]
omit hR in
theorem et (i:Nat):(fq n ring t i).length=i:=by simp [fq]
omit hR in
theorem jO (i p:Nat) (h:p<i):rd (fq n ring t i) p=dc n ring t p:=by
 rw [da _ _ (by rw [et];exact h)]
 simp [fq]
theorem kr:Ev (fun k=>bq.f k n ring t) (fq n ring t n):=by
 have hn:n≤24:=by have:=hR.1.2;omega
 have main:∀ d i,i+d=n→Ev (fun k=>bq.l0 k (fq n ring t i) i n ring t) (fq n ring t n):=by
  intro d
  induction d with
  | zero =>
   intro i hi
   obtain rfl:i=n:=by omega
   refine Ev.succ ?_
   simp only [bq.l0]
   exact Ev.neg (by omega) (Ev.now _)
  | succ d ih =>
   intro i hi
   have go:=ih (i+1) (by omega)
   rw [jy] at go
   refine Ev.succ ?_
   simp only [bq.l0]
   rw [bQ (n:=100) (by omega) (by omega)]
   exact Ev.pos (by omega) (Ev.bind (kp hR i (by omega)) (Ev.pos (by rw [et];omega) go))
 unfold bq.f
 exact main n 0 (by omega)
theorem ik:Ev (fun k=>ax.f k n ring ((du t:Nat):Int)) (fq n ring t n):=by
 have hn:n≤24:=by have:=hR.1.2;omega
 have h:=dT hR
 have main:∀ d i,i+d=n→Ev (fun k=>ax.l0 k ((du t:Nat):Int) (fq n ring t i) n i n ring) (fq n ring t n):=by
  intro d
  induction d with
  | zero =>
   intro i hi
   obtain rfl:i=n:=by omega
   refine Ev.succ ?_
   simp only [ax.l0]
   exact Ev.neg (by omega) (Ev.now _)
  | succ d ih =>
   intro i hi
   have go:=ih (i+1) (by omega)
   rw [jy] at go
   obtain ⟨b,hb⟩:=ij hR i (by omega)
   refine Ev.succ ?_
   simp only [ax.l0]
   rw [bQ (n:=100) (by omega) (by omega)]
   refine Ev.pos (by omega) (Ev.bind hb ?_)
   dsimp only
   unfold dc at go
   by_cases ht:t=[]
   ·rw [if_pos ht] at go
    exact Ev.neg (by rw [ht];simp [dG]) (Ev.pos (by rw [et];omega) go)
   ·rw [if_neg ht] at go
    rcases fA (fun q=>ey n ring i q.toNat) n t (-1) (fun x hx=>eJ n ring i x.toNat (by omega) (by have:=h x hx;omega)) (.inl rfl) with ⟨e,_⟩|e
    ·exact absurd e ht
    ·rw [show mx 0 (dG (fun q=>ey n ring i q.toNat) t (-1))=dG (fun q=>ey n ring i q.toNat) t (-1) from by unfold mx;split <;> omega]
     exact Ev.pos (decide_eq_true e.1) (Ev.pos (by rw [et];omega) go)
 unfold ax.f
 exact main n 0 (by omega)
end
theorem je (l:List Int) (n:Int) (hl:l.length≤1048576) (d:Nat):∀ (k i:Nat),i≤l.length→l.length - i=d→d<k→bk.l0 k l n i=some (decide (n ∈ l.drop i)):=by
 induction d with
 | zero =>
  intro k i hi hd hk
  obtain ⟨k,rfl,_⟩:=bv hk
  simp only [bk.l0]
  rw [if_neg (by omega),List.drop_eq_nil_of_le (by omega)]
  simp
 | succ d ih =>
  intro k i hi hd hk
  obtain ⟨k,rfl,_⟩:=bv hk
  simp only [bk.l0]
  rw [if_pos (by omega),if_pos (by omega),bQ (n:=l.length) (by omega) (by omega),da l i (by omega),ih k (i+1) (by omega) (by omega) (by omega)]
  rw [List.drop_eq_getElem_cons (l:=l) (i:=i) (by omega)]
  by_cases h:l[i]'(by omega)=n
  ·rw [if_pos h,h]
   simp
  ·rw [if_neg h]
   refine congrArg some ?_
   rw [decide_eq_decide,List.mem_cons]
   exact ⟨.inr,fun e=>e.resolve_left fun e=>h e.symm⟩
theorem gt (l:List Int) (n:Int) (hl:l.length≤1048576) (k:Nat) (hk:l.length<k):bk.f k l n=some (decide (n ∈ l)):=by
 have:=je l n hl l.length k 0 (by omega) (by omega) hk
 exact this
theorem fj:∀ (r l:List Int),r.Nodup→r ⊆ l→l.length≤r.length→l.Perm r
 | [],l,_,_,hl=>by
  have:l=[]:=List.eq_nil_of_length_eq_zero (by simpa using hl)
  subst this
  exact List.Perm.refl _
 | a :: t,l,hn,hs,hl=>by
  have ha:a ∈ l:=hs List.mem_cons_self
  have hc:=List.nodup_cons.1 hn
  have hlen:=List.length_erase_of_mem ha
  have hpos:=List.length_pos_of_mem ha
  have ht:t ⊆ l.erase a:=fun x hx=>(List.mem_erase_of_ne (by rintro rfl;exact hc.1 hx)).2 (hs (List.mem_cons_of_mem _ hx))
  have hl':l.length≤t.length+1:=by simpa using hl
  exact (List.perm_cons_erase ha).trans ((fj t (l.erase a) hc.2 ht (by omega)).cons a)
theorem fa:∀ (a b:List Int),a.Pairwise (·≤·)→b.Pairwise (·≤·)→a.Perm b→a=b
 | [],b,_,_,h=>(List.perm_nil.1 h.symm).symm
 | x :: a,[],_,_,h=>absurd (List.perm_nil.1 h) (by simp)
 | x :: a,y :: b,ha,hb,h=>by
  obtain ⟨h1,h2⟩:=List.pairwise_cons.1 ha
  obtain ⟨h3,h4⟩:=List.pairwise_cons.1 hb
  have e1:x≤y:=by
   rcases List.mem_cons.1 (h.mem_iff.2 List.mem_cons_self:y ∈ x :: a) with e|e
   ·omega
   ·exact h1 y e
  have e2:y≤x:=by
   rcases List.mem_cons.1 (h.mem_iff.1 List.mem_cons_self:x ∈ y :: b) with e|e
   ·omega
   ·exact h3 x e
  obtain rfl:x=y:=by omega
  rw [fa a b h2 h4 (List.Perm.cons_inv h)]
def iS (c:List Int):List Int:=c.mergeSort fun x y=>decide (x≤y)
theorem ff (c:List Int):(iS c).Perm c:=List.mergeSort_perm c _
theorem jf (c:List Int):(iS c).Pairwise (·≤·):=by
 have:=List.pairwise_mergeSort (le:=fun x y:Int=>decide (x≤y)) (fun a b c h1 h2=>by simp at *;omega) (fun a b=>by simp;omega) c
 exact this.imp fun h=>by simpa using h
theorem gB {s:Int} {ring:Bool} {t c:List Int} (h:dq s ring t):iS c=t ↔ c.length=t.length∧∀ x ∈ t,x ∈ c:=by
 constructor
 ·intro e
  refine ⟨by rw [← e];exact (ff c).length_eq.symm,fun x hx=>?_⟩
  rw [← e] at hx
  exact (ff c).mem_iff.1 hx
 ·rintro ⟨h1,h2⟩
  have p:=fj t c (b8 t _ _ h.2.2) h2 (by omega)
  refine fa _ _ (jf c) ?_ ((ff c).trans p)
  exact List.pairwise_iff_getElem.2 fun i j hi hj hij=>by have:=gY t _ _ h.2.2 i j hij hj;omega
def bC (s:Int) (ring:Bool) (t c:List Int) (n:Int):Prop:=dq s ring t∧(c.length=t.length∧∀ x ∈ t,x ∈ c)∧0≤n∧n≤1000
theorem mq (a b:List Int) (ha:a.length≤1048576) (k:Nat) (hk:a.length<k):az.f k a b=some (decide (a=b)):=by
 unfold az.f
 by_cases hl:a.length=b.length
 ·rw [if_pos (by omega)]
  have main:∀ d k i,i+d=a.length→d<k→(∀ j,j<i→a[j]?=b[j]?)→az.l0 k a b (a.length:Int) (i:Int)=some (decide (a=b)):=by
   intro d
   induction d with
   | zero =>
    intro k i hi hk hj
    obtain ⟨k,rfl,_⟩:=bv hk
    simp only [az.l0]
    rw [if_neg (by omega)]
    refine congrArg some (decide_eq_true ?_).symm
    refine List.ext_getElem hl fun j h1 h2=>?_
    have:=hj j (by omega)
    rw [List.getElem?_eq_getElem h1,List.getElem?_eq_getElem h2] at this
    exact Option.some.inj this
   | succ d ih =>
    intro k i hi hk hj
    obtain ⟨k,rfl,_⟩:=bv hk
    simp only [az.l0]
    rw [if_pos (by omega),if_pos (by omega),if_pos (by omega),if_pos (by omega),da a i (by omega),da b i (by omega),bQ (n:=a.length) (by omega) (by omega)]
    by_cases e:a[i]'(by omega)=b[i]'(by omega)
    ·rw [if_pos e]
     refine ih k (i+1) (by omega) (by omega) fun j hj'=>?_
     by_cases g:j=i
     ·subst g
      rw [List.getElem?_eq_getElem (by omega),List.getElem?_eq_getElem (by omega),e]
     ·exact hj j (by omega)
    ·rw [if_neg e]
     refine congrArg some (decide_eq_false fun h=>e ?_).symm
     simp only [h]
  exact main a.length k 0 (by omega) hk (fun j hj=>by omega)
 ·rw [if_neg (by omega)]
  exact congrArg some (decide_eq_false fun h=>hl (by rw [h])).symm
open Classical in
theorem dr (s:Int) (ring:Bool) (t c:List Int) (n:Int) (ht:t.length≤1048576) (hc:c.length≤1048576):Ev (fun k=>ao.f k s ring t c n) (decide (bC s ring t c n)):=by
 have jn:Ev (fun k=>ao.j0 k true s ring t c n) false:=by
  refine Ev.succ ?_
  simp only [ao.j0]
  exact Ev.pos (by first|rfl|exact True.intro) (Ev.now _)
 unfold ao.f
 refine Ev.bind (Ev.bound t.length fun k hk=>dR s ring t ht k hk) ?_
 by_cases h:dq s ring t
 ·rw [decide_eq_true h]
  refine Ev.pos rfl ?_
  by_cases hl:c.length=t.length
  ·refine Ev.pos (by omega) (Ev.have (dp _ _ _) ?_)
   by_cases hn:0≤n∧n≤1000
   ·rw [decide_eq_true hn]
    refine Ev.succ ?_
    simp only [ao.j0]
    refine Ev.neg (by simp) ?_
    have main:∀ d i:Nat,i+d=t.length→(∀ j,(hj:j<i)→(h2:j<t.length)→t[j] ∈ c)→Ev (fun k=>ao.l0 k (i:Int) s ring t c n) (decide (bC s ring t c n)):=by
     intro d
     induction d with
     | zero =>
      intro i hi hj
      refine Ev.succ ?_
      simp only [ao.l0]
      rw [decide_eq_true (show bC s ring t c n from ⟨h,⟨hl,fun x hx=>by
       obtain ⟨j,hj2,rfl⟩:=List.getElem_of_mem hx
       exact hj j (by omega) hj2⟩,hn⟩)]
      exact Ev.neg (by omega) (Ev.now _)
     | succ d ih =>
      intro i hi hj
      refine Ev.succ ?_
      simp only [ao.l0]
      rw [da t i (by omega),bQ (n:=t.length) (by omega) (by omega)]
      refine Ev.pos (by omega) (Ev.pos (by omega) (Ev.bind (Ev.bound c.length fun k hk=>gt c _ hc k hk) ?_))
      by_cases g:t[i]'(by omega) ∈ c
      ·refine Ev.pos (decide_eq_true g) (ih (i+1) (by omega) fun j hj' h2=>?_)
       by_cases e:j=i
       ·subst e;exact g
       ·exact hj j (by omega) h2
      ·rw [decide_eq_false (fun z:bC s ring t c n=>g (z.2.1.2 _ (List.getElem_mem _)))]
       exact Ev.neg (by rw [decide_eq_true_eq];exact g) (Ev.now _)
    exact main t.length 0 (by omega) (fun j hj=>by omega)
   ·rw [decide_eq_false hn,decide_eq_false (fun z:bC s ring t c n=>hn z.2.2)]
    exact jn
  ·rw [decide_eq_false (fun z:bC s ring t c n=>hl z.2.1.1)]
   exact Ev.neg (by omega) jn
 ·rw [decide_eq_false h,decide_eq_false (fun z:bC s ring t c n=>h z.1)]
  exact Ev.neg (by simp) jn
open Classical in
theorem de (s:Int) (ring:Bool) (t c:List Int) (n:Int) (ht:t.length≤1048576) (hc:c.length≤1048576):Ev (fun k=>aM.f k s ring t c n) (decide (bC s ring t c n)):=by
 unfold aM.f
 refine Ev.bind (Ev.bound (t.length+3) fun k hk=>gr s ring t ht k hk) ?_
 by_cases h:dq s ring t
 ·rw [decide_eq_true h]
  have es:cA.f c=some (iS c):=by unfold cA.f;rw [if_pos hc];rfl
  refine Ev.pos rfl (Ev.have es (Ev.bind (Ev.bound (iS c).length fun k hk=>mq (iS c) t (by rw [(ff c).length_eq];exact hc) k hk) ?_))
  by_cases e:iS c=t
  ·refine Ev.pos (decide_eq_true e) (Ev.have (eH _ _ _) ?_)
   rw [show decide (bC s ring t c n)=decide (0≤n∧n≤1000) from decide_eq_decide.2 ⟨fun z=>z.2.2,fun z=>⟨h,(gB h).1 e,z⟩⟩]
   exact Ev.now _
  ·rw [decide_eq_false (fun z:bC s ring t c n=>e ((gB h).2 z.2.1))]
   exact Ev.neg (by rw [decide_eq_true_eq];exact e) (Ev.now _)
 ·rw [decide_eq_false h,decide_eq_false (fun z:bC s ring t c n=>h z.1)]
  exact Ev.neg (by simp) (Ev.now _)
def dh (F:Nat→Int):Nat→Int
 | 0=>0
 | i+1=>if F i > dh F i then F i else dh F i
theorem lf (F:Nat→Int):∀ i,0≤dh F i
 | 0=>by simp [dh]
 | i+1=>by
  have:=lf F i
  rw [dh]
  split <;> omega
theorem jP (F:Nat→Int):∀ i j,j<i→F j≤dh F i
 | 0,j,h=>by omega
 | i+1,j,h=>by
  rw [dh]
  rcases Nat.lt_or_ge j i with g|g
  ·have:=jP F i j g
   split <;> omega
  ·obtain rfl:j=i:=by omega
   split <;> omega
theorem lg (F:Nat→Int):∀ i,0<dh F i→∃ j,j<i∧F j=dh F i
 | 0,h=>by simp [dh] at h
 | i+1,h=>by
  rw [dh] at h ⊢
  split
  ·exact ⟨i,by omega,rfl⟩
  ·rename_i g
   rw [if_neg g] at h
   obtain ⟨j,h1,h2⟩:=lg F i h
   exact ⟨j,by omega,h2⟩
def fB (F:Nat→Int) (M:Int) (p:Nat):Bool:=decide (F p=M∧0<M)
theorem iT (P:Nat→Bool):∀ i,(∀ j,j<i→P j=false)→fd P i=0
 | 0,_=>rfl
 | i+1,h=>by
  rw [fd,if_neg (by rw [h i (by omega)];simp),iT P i (fun j hj=>h j (by omega))]
theorem iU (P:Nat→Bool) (n:Nat):(eZ P n).Pairwise (·<·):=by
 unfold eZ eY
 rw [List.pairwise_map]
 exact (List.pairwise_lt_range.filter P).imp fun h=>by omega
theorem lD (P:Nat→Bool) (n:Nat):fd P n=du (eZ P n):=by
 refine km _ _ fun i=>?_
 rw [eh]
 simp only [Bool.and_eq_true,decide_eq_true_eq]
 constructor
 ·rintro ⟨h1,h2⟩
  exact ⟨i,(fe _ _ _).2 ⟨i,h1,h2,rfl⟩,by simp⟩
 ·rintro ⟨p,hp,hi⟩
  obtain ⟨q,h1,h2,rfl⟩:=(fe _ _ _).1 hp
  obtain rfl:q=i:=by simpa using hi
  exact ⟨h1,h2⟩
def ee (n:Nat) (ring:Bool) (t:List Int):List Int:=eZ (fB (dc n ring t) (dh (dc n ring t) n)) n
open Classical in
theorem mr {n:Nat} {ring:Bool} {t:List Int} (hR:dq n ring t):Ev (fun k=>be.f k n ring t) true:=by
 have hl:=cr _ ring _ hR
 exact Ev.same (Ev.bound (t.length+3) fun k hk=>gr n ring t (by omega) k (by omega)) (decide_eq_true hR)
section
variable {n:Nat} {ring:Bool} {t:List Int} (hR:dq n ring t)
include hR
theorem iV:Ev (fun k=>an.f k n ring ((du t:Nat):Int)) (((du (ee n ring t):Nat):Int),dh (dc n ring t) n):=by
 have hn:n≤24:=by have:=hR.1.2;omega
 have hF:∀ p,p<n→0≤dc n ring t p∧dc n ring t p≤n:=fun p hp=>jx hR p hp
 have main:∀ d i,i+d=n→Ev (fun k=>an.l0 k ((fd (fB (dc n ring t) (dh (dc n ring t) i)) i:Nat):Int) (dh (dc n ring t) i) (fq n ring t n) n i) (((du (ee n ring t):Nat):Int),dh (dc n ring t) n):=by
  intro d
  induction d with
  | zero =>
   intro i hi
   obtain rfl:i=n:=by omega
   refine Ev.succ ?_
   simp only [an.l0]
   refine Ev.neg (by omega) ?_
   rw [lD]
   exact Ev.now _
  | succ d ih =>
   intro i hi
   have go:=ih (i+1) (by omega)
   have hf:=hF i (by omega)
   have hm:=lf (dc n ring t) i
   have hle:=jP (dc n ring t) i
   rw [dh,fd] at go
   refine Ev.succ ?_
   simp only [an.l0]
   rw [jO n i (by omega)]
   refine Ev.pos (by omega) (Ev.pos (by omega) (Ev.pos (by rw [et];omega) ?_))
   generalize hfv:dc n ring t i=f at go hf ⊢
   generalize hmv:dh (dc n ring t) i=m at go hm hle ⊢
   have stay:(f=0 ∨ f<m)→Ev (fun k=>an.l0 k ((fd (fB (dc n ring t) m) i:Nat):Int) m (fq n ring t n) n (wrap64 (i+1))) (((du (ee n ring t):Nat):Int),dh (dc n ring t) n):=by
    intro h
    rw [bQ (n:=100) (by omega) (by omega)]
    rw [if_neg (show ¬ f > m by omega),if_neg (by unfold fB;simp only [decide_eq_true_eq,hfv];omega)] at go
    exact go
   by_cases c0:f=0
   ·refine Ev.pos c0 (Ev.succ ?_)
    simp only [an.j1]
    exact Ev.pos (by first|rfl|exact True.intro) (stay (.inl c0))
   ·refine Ev.neg c0 (Ev.succ ?_)
    simp only [an.j1]
    by_cases c1:f<m
    ·exact Ev.pos (decide_eq_true c1) (stay (.inr c1))
    ·have h2:2 ^ i<2 ^ 32:=Nat.pow_lt_pow_right (by omega) (by omega)
     refine Ev.neg (by simpa using c1) ?_
     rw [bQ (n:=100) (by omega) (by omega),ld _ (by omega) (by omega),Int.toNat_natCast]
     by_cases c2:f > m
     ·refine Ev.pos c2 (Ev.pos (by omega) ?_)
      have hp:fB (dc n ring t) f i=true:=by unfold fB;exact decide_eq_true ⟨hfv,by omega⟩
      rw [if_pos c2,if_pos hp,iT _ i (fun j hj=>by have:=hle j hj;unfold fB;exact decide_eq_false (by omega))] at go
      have:=jM 0 (2 ^ i) (by omega) (by omega)
      rw [show ((0:Nat):Int)=0 from rfl] at this
      rw [this]
      exact go
     ·refine Ev.neg c2 (Ev.pos (by omega) ?_)
      have hp:fB (dc n ring t) m i=true:=by unfold fB;exact decide_eq_true ⟨by omega,by omega⟩
      rw [if_neg c2,if_pos hp] at go
      rw [jM _ _ (ml _ _ (by omega)) (by omega)]
      exact go
 unfold an.f
 refine Ev.bind (ik hR) ?_
 rw [show ((fq n ring t n).length:Int)=n by rw [et]]
 exact main n 0 (by omega)
theorem jQ (x:Int):x ∈ ee n ring t→∃ q:Nat,q<n∧x=q∧x ∉ t:=by
 intro hx
 obtain ⟨q,h1,h2,rfl⟩:=(fe _ _ _).1 hx
 unfold fB at h2
 have h2:=of_decide_eq_true h2
 refine ⟨q,h1,rfl,fun hm=>?_⟩
 have:=(ko hR q h1).2 hm
 omega
theorem jg:Ev (fun k=>bb.f k n ring t) (ee n ring t,true):=by
 have hn:n≤24:=by have:=hR.1.2;omega
 have hl:=cr _ ring _ hR
 unfold bb.f
 refine Ev.bind (mr hR) (Ev.pos rfl (Ev.have rfl ?_))
 refine Ev.bind (Ev.bound t.length fun k hk=>jb n ring t hR k hk) (Ev.bind (iV hR) ?_)
 refine Ev.bind (er (ee n ring t) (iU _ _) (fun x hx=>?_) (Nat.le_trans (jv _ _) (by omega))) (Ev.now _)
 obtain ⟨q,h1,rfl,_⟩:=jQ hR x hx
 omega
theorem fC:Ev (fun k=>aq.f k n ring t) (ee n ring t):=by
 have hn:n≤24:=by have:=hR.1.2;omega
 have second:∀ d i,i+d=n→Ev (fun k=>aq.l1 k (eZ (fB (dc n ring t) (dh (dc n ring t) n)) i) (fq n ring t n) (dh (dc n ring t) n) i n ring t) (ee n ring t):=by
  intro d
  induction d with
  | zero =>
   intro i hi
   obtain rfl:i=n:=by omega
   refine Ev.succ ?_
   simp only [aq.l1]
   refine Ev.neg (by omega) (Ev.succ ?_)
   simp only [aq.j2]
   exact Ev.neg (by simp) (Ev.now _)
  | succ d ih =>
   intro i hi
   have go:=ih (i+1) (by omega)
   have hl:=jv (fB (dc n ring t) (dh (dc n ring t) n)) i
   rw [kF] at go
   refine Ev.succ ?_
   simp only [aq.l1]
   refine Ev.pos (by omega) (Ev.succ ?_)
   simp only [aq.j2]
   by_cases c:dh (dc n ring t) n > 0
   ·refine Ev.pos (decide_eq_true c) (Ev.pos (by omega) (Ev.pos (by rw [et];omega) ?_))
    rw [jO n i (by omega),bQ (n:=100) (by omega) (by omega)]
    by_cases e:dc n ring t i=dh (dc n ring t) n
    ·rw [if_pos (by unfold fB;exact decide_eq_true ⟨e,c⟩)] at go
     exact Ev.pos e (Ev.pos (by omega) go)
    ·rw [if_neg (by unfold fB;simp only [decide_eq_true_eq];omega)] at go
     exact Ev.neg e go
   ·refine Ev.neg (by simpa using c) ?_
    have none_:∀ j,eZ (fB (dc n ring t) (dh (dc n ring t) n)) j=[]:=fun j=>List.eq_nil_iff_forall_not_mem.2 fun x hx=>by
     obtain ⟨q,_,h2,_⟩:=(fe _ _ _).1 hx
     unfold fB at h2
     have:=of_decide_eq_true h2
     omega
    unfold ee
    rw [none_ i,none_ n]
    exact Ev.now _
 have first:∀ d i,i+d=n→Ev (fun k=>aq.l0 k [] (fq n ring t n) (dh (dc n ring t) i) i n ring t) (ee n ring t):=by
  intro d
  induction d with
  | zero =>
   intro i hi
   obtain rfl:i=n:=by omega
   refine Ev.succ ?_
   simp only [aq.l0]
   exact Ev.neg (by omega) (second i 0 (by omega))
  | succ d ih =>
   intro i hi
   have go:=ih (i+1) (by omega)
   rw [dh] at go
   refine Ev.succ ?_
   simp only [aq.l0]
   rw [jO n i (by omega),bQ (n:=100) (by omega) (by omega)]
   refine Ev.pos (by omega) (Ev.pos (by omega) (Ev.pos (by rw [et];omega) (Ev.have (a:=if dc n ring t i > dh (dc n ring t) i then dc n ring t i else dh (dc n ring t) i) ?_ go)))
   unfold cx.f
   by_cases g:dh (dc n ring t) i > dc n ring t i
   ·rw [if_pos g,if_neg (by omega)]
   ·rw [if_neg g]
    by_cases g2:dc n ring t i > dh (dc n ring t) i
    ·rw [if_pos g2]
    ·rw [if_neg g2]
     exact congrArg some (by omega)
 unfold aq.f
 exact Ev.bind (kr hR) (first n 0 (by omega))
omit hR in
theorem ks (m:Nat):(eY (List.range m)).Nodup:=by
 unfold eY
 exact (List.pairwise_map.2 (List.pairwise_lt_range.imp fun h=>by omega))
omit hR in
theorem gZ (m:Nat) (x:Int):x ∈ eY (List.range m) ↔ 0≤x∧x<m:=by
 unfold eY
 rw [List.mem_map]
 constructor
 ·rintro ⟨q,hq,rfl⟩
  have:=List.mem_range.1 hq
  omega
 ·rintro ⟨h0,h1⟩
  exact ⟨x.toNat,List.mem_range.2 (by omega),by omega⟩
theorem jz:ee n ring t=[] ↔ ¬ t.length<n:=by
 have h:=dT hR
 have hN:=b8 t _ _ hR.2.2
 constructor
 ·intro e hlt
  have hex:∃ q:Nat,q<n∧(q:Int) ∉ t:=by
   refine Classical.byContradiction fun hno=>?_
   have hall:∀ x ∈ eY (List.range n),x ∈ t:=fun x hx=>by
    have hx:=(gZ n x).1 hx
    refine Classical.byContradiction fun hxt=>hno ⟨x.toNat,by omega,?_⟩
    rwa [show ((x.toNat:Nat):Int)=x by omega]
   have:=(fj _ t (ks n) hall (by simp [eY];omega)).length_eq
   simp [eY] at this
   omega
  obtain ⟨q,hq,hqt⟩:=hex
  have h1:=jx hR q hq
  have h2:dc n ring t q≠0:=fun e=>hqt ((ko hR q hq).1 e)
  have h3:=jP (dc n ring t) n q hq
  obtain ⟨j,hj,ej⟩:=lg (dc n ring t) n (by omega)
  have:(j:Int) ∈ ee n ring t:=(fe _ _ _).2 ⟨j,hj,by unfold fB;exact decide_eq_true ⟨ej,by omega⟩,rfl⟩
  rw [e] at this
  simp at this
 ·intro hge
  refine List.eq_nil_iff_forall_not_mem.2 fun x hx=>?_
  obtain ⟨q,hq,rfl,hqt⟩:=jQ hR x hx
  have hp:=fj t (eY (List.range n)) hN (fun y hy=>(gZ n y).2 (h y hy)) (by simp [eY];omega)
  exact hqt (hp.mem_iff.1 ((gZ n q).2 ⟨by omega,by omega⟩))
theorem dK:Ev (fun k=>bE.f k n ring t) (if t.length<n then (rd (ee n ring t) 0,true) else (0,false)):=by
 unfold bE.f
 refine Ev.bind (jg hR) (Ev.pos rfl ?_)
 have he:=jz hR
 by_cases g:t.length<n
 ·rw [if_pos g]
  have:ee n ring t≠[]:=fun e=>he.1 e g
  have:0<(ee n ring t).length:=List.length_pos_iff.2 this
  refine Ev.neg ?_ (Ev.pos ?_ (Ev.now _)) <;> (dsimp only;omega)
 ·rw [if_neg g]
  exact Ev.pos (by rw [he.2 g];rfl) (Ev.now _)
theorem jA (g:t.length<n):∃ q:Nat,q<n∧rd (ee n ring t) 0=q∧(q:Int) ∉ t∧0<(ee n ring t).length:=by
 have he:=jz hR
 have h1:ee n ring t≠[]:=fun e=>he.1 e g
 have h2:0<(ee n ring t).length:=List.length_pos_iff.2 h1
 have h3:rd (ee n ring t) ((0:Nat):Int) ∈ ee n ring t:=by rw [da _ 0 h2];exact List.getElem_mem h2
 obtain ⟨q,hq,e,hqt⟩:=jQ hR _ h3
 exact ⟨q,hq,e,by rw [← e];exact hqt,h2⟩
end
theorem gO (x:Int):∀ c:List Int,x ∈ c→∃ p,∃ h:p<c.length,c[p]=x∧∀ j,(hj:j<p)→c[j]'(by omega)≠x
 | a :: c,hx=>by
  by_cases e:a=x
  ·exact ⟨0,by simp,by simpa using e,fun j hj=>by omega⟩
  ·obtain ⟨p,h,h1,h2⟩:=gO x c ((List.mem_cons.1 hx).resolve_left fun z=>e z.symm)
   refine ⟨p+1,by simp;omega,by simpa using h1,fun j hj=>?_⟩
   cases j with
   | zero=>simpa using e
   | succ j=>simpa using h2 j (by omega)
theorem fb (c:List Int) (hc:c.length≤1048576) (x:Int) (p:Nat) (hp:p<c.length) (h1:c[p]=x) (h2:∀ j,(hj:j<p)→c[j]'(by omega)≠x):Ev (fun k=>aZ.f k c x) (p:Int):=by
 have main:∀ d i:Nat,i+d=p→Ev (fun k=>aZ.l0 k c x (i:Int)) (p:Int):=by
  intro d
  induction d with
  | zero =>
   intro i hi
   obtain rfl:i=p:=by omega
   refine Ev.succ ?_
   simp only [aZ.l0]
   rw [da c i hp]
   exact Ev.pos (by omega) (Ev.pos (by omega) (Ev.pos h1 (Ev.now _)))
  | succ d ih =>
   intro i hi
   have go:=ih (i+1) (by omega)
   refine Ev.succ ?_
   simp only [aZ.l0]
   rw [da c i (by omega),bQ (n:=c.length) (by omega) (by omega)]
   exact Ev.pos (by omega) (Ev.pos (by omega) (Ev.neg (h2 i (by omega)) go))
 exact main p 0 (by omega)
theorem gv (l:List Int) (h:l.length<17592186044416):aW.f l=some l:=by
 unfold aW.f
 rw [if_pos h]
theorem ez (s:Int) (ring:Bool) (t:List Int) (p:Int) (ht:t.length≤1048576):Ev (fun k=>cv.f k s ring t p) (decide (p ∈ t)) :=
 Ev.bound t.length fun k hk=>by
  unfold cv.f
  rw [gt t p ht k hk,Option.bind_some]
theorem kt (l:List Int) (q:Int→Bool) (i:Nat) (hi:i<l.length):(l.take (i+1)).filter q=(l.take i).filter q++(if q l[i] then [l[i]] else []):=by
 rw [List.take_add_one,List.getElem?_eq_getElem hi,Option.toList_some,List.filter_append]
 by_cases h:q l[i]=true
 ·simp [h]
 ·simp [h]
theorem il (s:Int) (ring:Bool) (t:List Int) (p:Int) (ht:t.length≤1048576) (d:Nat):∀ (k i:Nat),i≤t.length→t.length - i=d→d<k →
  aI.l0 k p ((t.take i).filter fun x=>!decide (x=p)) i s ring t=some (s,ring,t.filter fun x=>!decide (x=p)):=by
 induction d with
 | zero =>
  intro k i hi hd hk
  obtain ⟨k,rfl,_⟩:=bv hk
  simp only [aI.l0]
  rw [if_neg (by omega),List.take_of_length_le (by omega),dn.f,Option.bind_some]
 | succ d ih =>
  intro k i hi hd hk
  obtain ⟨k,rfl,_⟩:=bv hk
  have h:=ih k (i+1) (by omega) (by omega) (by omega)
  rw [kt t _ i (by omega)] at h
  have l1:((t.take i).filter fun x=>!decide (x=p)).length≤i:=Nat.le_trans (List.length_filter_le _ _) (by simp;omega)
  simp only [aI.l0]
  rw [if_pos (by omega),if_pos (by omega),da t i (by omega),bQ (n:=t.length) (i:=i) (by omega) (by omega)]
  by_cases g:t[i]'(by omega)=p
  ·rw [if_pos g]
   rw [if_neg (by simp [g]),List.append_nil] at h
   exact h
  ·rw [if_neg g,if_pos (by omega)]
   rw [if_pos (by simp [g])] at h
   exact h
theorem dS (s:Int) (ring:Bool) (t:List Int) (p:Int) (ht:t.length≤1048576) (k:Nat) (hk:t.length<k):aI.f k s ring t p=some (s,ring,t.filter fun x=>!decide (x=p)) :=
 il s ring t p ht t.length k 0 (by omega) (by omega) hk
theorem eK (l:List Int) (hl:l.length≤1000000) (x:Int):(x ∉ l∧Ev (fun k=>ak.f k l x) (-1)∧Ev (fun k=>bc.f k l x) false) ∨
  ∃ p:Nat,∃ h:p<l.length,l[p]=x∧Ev (fun k=>ak.f k l x) (p:Int)∧Ev (fun k=>bc.f k l x) true∧Ev (fun k=>aZ.f k l x) (p:Int):=by
 by_cases hx:x ∈ l
 ·obtain ⟨p,hp,h1,h2⟩:=gO x l hx
  have main:∀ d i:Nat,i+d=p→Ev (fun k=>ak.l0 k l x (l.length:Int) (i:Int)) (p:Int):=by
   intro d
   induction d with
   | zero =>
    intro i hi
    obtain rfl:i=p:=by omega
    refine Ev.succ ?_
    simp only [ak.l0]
    rw [da l i hp]
    exact Ev.pos (by omega) (Ev.pos (by omega) (Ev.pos (by omega) (Ev.pos h1.symm (Ev.now _))))
   | succ d ih =>
    intro i hi
    have go:=ih (i+1) (by omega)
    refine Ev.succ ?_
    simp only [ak.l0]
    rw [da l i (by omega),bQ (n:=l.length) (by omega) (by omega)]
    exact Ev.pos (by omega) (Ev.pos (by omega) (Ev.pos (by omega) (Ev.neg (fun e=>h2 i (by omega) e.symm) go)))
  refine .inr ⟨p,hp,h1,main p 0 (by omega),?_,fb l (by omega) x p hp h1 h2⟩
  unfold bc.f
  exact Ev.bind (main p 0 (by omega)) (Ev.same (Ev.now _) (decide_eq_true (by omega)))
 ·have main:∀ d i:Nat,i+d=l.length→Ev (fun k=>ak.l0 k l x (l.length:Int) (i:Int)) (-1):=by
   intro d
   induction d with
   | zero =>
    intro i hi
    refine Ev.succ ?_
    simp only [ak.l0]
    exact Ev.neg (by omega) (Ev.now _)
   | succ d ih =>
    intro i hi
    have go:=ih (i+1) (by omega)
    refine Ev.succ ?_
    simp only [ak.l0]
    rw [da l i (by omega),bQ (n:=l.length) (by omega) (by omega)]
    exact Ev.pos (by omega) (Ev.pos (by omega) (Ev.pos (by omega) (Ev.neg (fun e=>hx (e ▸ List.getElem_mem _)) go)))
  refine .inl ⟨hx,main l.length 0 (by omega),?_⟩
  unfold bc.f
  exact Ev.bind (main l.length 0 (by omega)) (Ev.same (Ev.now _) (decide_eq_false (by omega)))
theorem lE (l:List Int) (a b:Int) (hp:l.Pairwise (·<·)) (hb:∀ x ∈ l,a≤x∧x≤b):fh l a b:=by
 intro i h
 refine ⟨hb _ (List.getElem_mem _),fun h0=>?_⟩
 have:=List.pairwise_iff_getElem.1 hp (i - 1) i (by omega) h (by omega)
 simpa [List.getD,show i - 1<l.length from by omega] using this
theorem d7:∀ (a b:List Int),a.Nodup→(∀ x ∈ a,x ∈ b)→a.length≤b.length
 | [],_,_,_=>by simp
 | x :: a,b,hn,hs=>by
  have hx:=hs x List.mem_cons_self
  have hc:=List.nodup_cons.1 hn
  have:=d7 a (b.erase x) hc.2 fun y hy=>(List.mem_erase_of_ne (by rintro rfl;exact hc.1 hy)).2 (hs y (List.mem_cons_of_mem _ hy))
  have hl:=List.length_erase_of_mem hx
  have hpos:=List.length_pos_of_mem hx
  simp only [List.length_cons]
  omega
theorem bV {s:Int} {ring:Bool} {t c:List Int} {m:Int} (h:bC s ring t c m):c.Perm t:=by
 have e:=(gB h.1).2 h.2.1
 have:=(ff c).symm
 rwa [e] at this
theorem gP {n:Nat} {ring:Bool} {t c:List Int} {m:Int} (hR:dq n ring t) (hl:c.length=t.length) (hm:∀ x,x ∈ c ↔ x ∈ t) (h0:0≤m) (h1:m≤1000):bC n ring t c m:=⟨hR,⟨hl,fun x hx=>(hm x).2 hx⟩,h0,h1⟩
theorem g0 {n:Nat} {ring:Bool} {t t':List Int} (hR:dq n ring t) (hw:t'.Pairwise (·<·)) (hb:∀ x ∈ t',0≤x∧x<n):dq n ring t':=⟨hR.1,hR.2.1,lE t' 0 ((n:Int) - 1) hw fun x hx=>by have:=hb x hx;omega⟩
theorem iW (a b:List Int) (h:∀ x,x ∈ a ↔ x ∈ b):du a=du b:=km _ _ fun i=>by
 rw [dC,decide_eq_true_eq]
 exact ⟨fun ⟨p,hp,e⟩=>⟨p,(h p).1 hp,e⟩,fun ⟨p,hp,e⟩=>⟨p,(h p).2 hp,e⟩⟩
section
variable {n:Nat} {ring:Bool} {t c:List Int} {m:Int} (hH:bC n ring t c m)
include hH
theorem fN (p:Int):(∃ b,Ev (fun k=>bK.f k n ring t c p) b∧Ev (fun k=>bY.f k n ring t c m p) b∧(b=true ↔ (0≤p∧p<n)∧p ∉ t)):=by
 have hP:=bV hH
 have hn:=hH.1.1
 have hl:=cr _ ring _ hH.1
 have hcl:=hP.length_eq
 have hw:wrap64 ((n:Int) - 1)=n - 1:=cD (by omega) (by omega)
 have e1:Ev (fun k=>bo.f k n ring [p]) (decide (0≤p∧p≤(n:Int) - 1)):=Ev.bound 2 fun k hk=>by rw [eI _ _ _ k hk,hw]
 have e2:=dp p 0 ((n:Int) - 1)
 unfold bK.f bY.f
 rw [hw]
 by_cases hp:0≤p∧p≤(n:Int) - 1
 ·rw [decide_eq_true hp] at e1 e2
  have e3:=ez n ring t p (by omega)
  rcases eK c (by omega) p with ⟨hx,_,h2⟩|⟨q,hq,hx,_,h2,_⟩
  ·have hxt:p ∉ t:=fun e=>hx (hP.mem_iff.2 e)
   rw [decide_eq_false hxt] at e3
   exact ⟨true,Ev.have rfl (Ev.bind e1 (Ev.pos rfl (Ev.bind h2 (Ev.now _)))),Ev.have e2 (Ev.pos rfl (Ev.bind e3 (Ev.now _))),by simp [hxt];omega⟩
  ·have hxt:p ∈ t:=hP.mem_iff.1 (hx ▸ List.getElem_mem hq)
   rw [decide_eq_true hxt] at e3
   exact ⟨false,Ev.have rfl (Ev.bind e1 (Ev.pos rfl (Ev.bind h2 (Ev.now _)))),Ev.have e2 (Ev.pos rfl (Ev.bind e3 (Ev.now _))),by simp [hxt]⟩
 ·rw [decide_eq_false hp] at e1 e2
  exact ⟨false,Ev.have rfl (Ev.bind e1 (Ev.neg Bool.false_ne_true (Ev.now _))),Ev.have e2 (Ev.neg Bool.false_ne_true (Ev.now _)),by simp;omega⟩
theorem fk (p:Int):Ev (fun k=>bU.f k n ring t c m p) (decide (p ∈ t)):=by
 have hn:=hH.1.1
 have hl:=cr _ ring _ hH.1
 have hin:=dT hH.1
 unfold bU.f
 rw [show wrap64 ((n:Int) - 1)=n - 1 from cD (by omega) (by omega)]
 by_cases hp:0≤p∧p≤(n:Int) - 1
 ·exact Ev.have (dp p 0 _) (Ev.pos (decide_eq_true hp) (Ev.bind (ez n ring t p (by omega)) (Ev.now _)))
 ·have:p ∉ t:=fun e=>by have:=hin p e;omega
  rw [decide_eq_false this]
  exact Ev.have (dp p 0 _) (Ev.neg (by simpa using hp) (Ev.now _))
theorem iq {p:Int} (h0:0≤p) (h1:p<n) (hp:p ∉ t):dq n ring (d5 t p)∧(c++[p]).length=(d5 t p).length∧∀ x,x ∈ c++[p] ↔ x ∈ d5 t p:=by
 have hP:=bV hH
 have hw:=cE hH.1
 have hin:=dT hH.1
 have hmem:∀ x,x ∈ c++[p] ↔ x ∈ d5 t p:=fun x=>by
  rw [e0 t p x hp,List.mem_append,hP.mem_iff,List.mem_singleton]
  exact Or.comm
 have hR':dq n ring (d5 t p):=g0 hH.1 (fi t p hw) fun x hx=>by
  rcases (e0 t p x hp).1 hx with e|e
  ·omega
  ·exact hin x e
 refine ⟨hR',?_,hmem⟩
 have hN:(c++[p]).Nodup:=List.nodup_append.2 ⟨hP.nodup_iff.2 (b8 t _ _ hH.1.2.2),by simp,fun a ha b hb e=>hp (by rw [List.mem_singleton] at hb;subst hb;subst e;exact hP.mem_iff.1 ha)⟩
 have h1:=d7 _ (d5 t p) hN (fun x hx=>(hmem x).1 hx)
 have h2:=d7 _ (c++[p]) (b8 _ _ _ hR'.2.2) (fun x hx=>(hmem x).2 hx)
 omega
theorem e7 (p:Int) (hp:p ∈ t):dq n ring (t.filter fun x=>!decide (x=p))∧(t.filter fun x=>!decide (x=p)).length+1=t.length:=by
 have hw:=cE hH.1
 have hin:=dT hH.1
 have hN:=b8 t _ _ hH.1.2.2
 refine ⟨g0 hH.1 (hw.filter _) fun x hx=>hin x (List.mem_filter.1 hx).1,?_⟩
 have e1:=d7 (t.filter fun x=>!decide (x=p)) (t.erase p) (hN.filter _) fun x hx=>by
  obtain ⟨h1,h2⟩:=List.mem_filter.1 hx
  exact (List.mem_erase_of_ne (by simpa using h2)).2 h1
 have e2:=d7 (t.erase p) (t.filter fun x=>!decide (x=p)) (hN.erase p) fun x hx=>by
  have:=(List.Nodup.mem_erase_iff hN).1 hx
  exact List.mem_filter.2 ⟨this.2,by simpa using this.1⟩
 have:=List.length_erase_of_mem hp
 have:=List.length_pos_of_mem hp
 omega
end
section
variable {n:Nat} {ring:Bool} {t c:List Int} {m:Int} (hH:bC n ring t c m)
include hH
theorem g4 (hs:t.length+c.length≤1048576) (kind A B:Int) :
  (Ev (fun k=>aQ.f k n ring t c m kind A B) false∧∃ x,Ev (fun k=>ac.f k n ring t c m kind A B) (x,false)) ∨
  (∃ t' c',Ev (fun k=>aQ.f k n ring t c m kind A B) true∧Ev (fun k=>ar.f k n ring t c m kind A B) (n,ring,t',c',m)∧Ev (fun k=>ac.f k n ring t c m kind A B) (c',true)∧dq n ring t'∧c'.length=t'.length∧∀ x,x ∈ c' ↔ x ∈ t'):=by
 have hP:=bV hH
 have hR:=hH.1
 have hn:=hH.1.1
 have hl:=cr _ ring _ hH.1
 have hcl:=hP.length_eq
 have hin:=dT hR
 have hw:=cE hR
 have hcN:c.Nodup:=hP.nodup_iff.2 (b8 t _ _ hR.2.2)
 have own:bh.f n ring t c m=some ((n:Int),ring,t,c,m):=by
  unfold bh.f
  rw [bR t (by omega),Option.bind_some,bR c (by omega),Option.bind_some]
 have cl:=gv c (by omega)
 have idx:∃ q,Ev (fun k=>ak.f k c A) q:=by
  rcases eK c (by omega) A with ⟨_,h,_⟩|⟨q,_,_,h,_⟩
  ·exact ⟨_,h⟩
  ·exact ⟨_,h⟩
 obtain ⟨q0,hq0⟩:=idx
 have sit:∀ p:Int,0≤p→p<n→p ∉ t→Ev (fun k=>cn.f k n ring t c m p) ((n:Int),ring,d5 t p,c++[p],m):=by
  intro p h0 h1 hp
  unfold cn.f
  refine Ev.bind (Ev.bound t.length fun k hk=>d6 n ring t p (by omega) (fM t hw) hp k hk) (Ev.have (bR c (by omega)) (Ev.pos (by omega) (Ev.now _)))
 by_cases k1:kind=1
 ·subst k1
  by_cases g:t.length<n
  ·by_cases hA:A=0∧B=0
   ·obtain ⟨rfl,rfl⟩:=hA
    obtain ⟨q,hq,e,hqt,hL⟩:=jA hR g
    have hs:=iq hH (p:=(q:Int)) (by omega) (by omega) hqt
    refine .inr ⟨d5 t q,c++[(q:Int)],?_,?_,?_,hs.1,hs.2.1,hs.2.2⟩
    ·unfold aQ.f
     exact Ev.pos rfl (Ev.pos (by omega) (Ev.pos rfl (Ev.now _)))
    ·unfold ar.f
     refine Ev.have own (Ev.pos rfl (Ev.bind (fC hR) (Ev.pos (by omega) ?_)))
     rw [e]
     exact Ev.bind (sit q (by omega) (by omega) hqt) (Ev.now _)
    ·unfold ac.f
     refine Ev.have cl (Ev.bind hq0 (Ev.pos rfl (Ev.bind (dK hR) ?_)))
     rw [if_pos g,e]
     exact Ev.pos (by omega) (Ev.have rfl (Ev.pos rfl (Ev.pos rfl (Ev.now _))))
   ·refine .inl ⟨?_,?_⟩
    ·unfold aQ.f
     refine Ev.pos rfl (Ev.pos (by omega) ?_)
     by_cases a0:A=0
     ·exact Ev.pos a0 (Ev.same (Ev.now _) (by simpa using fun e=>hA ⟨a0,e⟩))
     ·exact Ev.neg a0 (Ev.now _)
    ·refine ⟨c++[rd (ee n ring t) 0],?_⟩
     unfold ac.f
     refine Ev.have cl (Ev.bind hq0 (Ev.pos rfl (Ev.bind (dK hR) ?_)))
     rw [if_pos g]
     refine Ev.pos (by omega) (Ev.have rfl (Ev.pos rfl ?_))
     by_cases a0:A=0
     ·exact Ev.pos a0 (Ev.same (Ev.now _) (by rw [show (B == 0)=false by simpa using fun e=>hA ⟨a0,e⟩]))
     ·exact Ev.neg a0 (Ev.now _)
  ·refine .inl ⟨?_,?_⟩
   ·unfold aQ.f
    exact Ev.pos rfl (Ev.neg (by omega) (Ev.now _))
   ·refine ⟨c++[0],?_⟩
    unfold ac.f
    refine Ev.have cl (Ev.bind hq0 (Ev.pos rfl (Ev.bind (dK hR) ?_)))
    rw [if_neg g]
    exact Ev.pos (by omega) (Ev.have rfl (Ev.neg Bool.false_ne_true (Ev.now _)))
 by_cases k2:kind=2
 ·subst k2
  obtain ⟨b,f1,f2,f3⟩:=fN hH A
  by_cases hA:b=true∧B=0
  ·obtain ⟨rfl,rfl⟩:=hA
   obtain ⟨⟨h0,h1⟩,hp⟩:=f3.1 rfl
   have hs:=iq hH h0 h1 hp
   refine .inr ⟨d5 t A,c++[A],?_,?_,?_,hs.1,hs.2.1,hs.2.2⟩
   ·unfold aQ.f
    exact Ev.neg (by omega) (Ev.pos rfl (Ev.bind f2 (Ev.pos rfl (Ev.now _))))
   ·unfold ar.f
    exact Ev.have own (Ev.neg (by omega) (Ev.pos rfl (Ev.bind (sit A h0 h1 hp) (Ev.now _))))
   ·unfold ac.f
    exact Ev.have cl (Ev.bind hq0 (Ev.neg (by omega) (Ev.pos rfl (Ev.pos (by omega) (Ev.have rfl (Ev.bind f1 (Ev.pos rfl (Ev.now _))))))))
  ·refine .inl ⟨?_,?_⟩
   ·unfold aQ.f
    refine Ev.neg (by omega) (Ev.pos rfl (Ev.bind f2 ?_))
    by_cases hb:b=true
    ·exact Ev.pos hb (Ev.same (Ev.now _) (by simpa using fun e=>hA ⟨hb,e⟩))
    ·exact Ev.neg hb (Ev.now _)
   ·refine ⟨c++[A],?_⟩
    unfold ac.f
    refine Ev.have cl (Ev.bind hq0 (Ev.neg (by omega) (Ev.pos rfl (Ev.pos (by omega) (Ev.have rfl (Ev.bind f1 ?_))))))
    by_cases hb:b=true
    ·exact Ev.pos hb (Ev.same (Ev.now _) (by rw [show (B == 0)=false by simpa using fun e=>hA ⟨hb,e⟩]))
    ·exact Ev.neg hb (Ev.now _)
 by_cases k3:kind=3
 ·subst k3
  have tk:=fk hH A
  rcases eK c (by omega) A with ⟨hx,h1,_⟩|⟨p,hp,hx,h1,_,h3⟩
  ·have hxt:A ∉ t:=fun e=>hx (hP.mem_iff.2 e)
   rw [decide_eq_false hxt] at tk
   refine .inl ⟨?_,?_⟩
   ·unfold aQ.f
    exact Ev.neg (by omega) (Ev.neg (by omega) (Ev.pos rfl (Ev.bind tk (Ev.neg Bool.false_ne_true (Ev.now _)))))
   ·refine ⟨[],?_⟩
    unfold ac.f
    exact Ev.have cl (Ev.bind h1 (Ev.neg (by omega) (Ev.neg (by omega) (Ev.pos rfl (Ev.pos (by omega) (Ev.now _))))))
  ·have hxt:A ∈ t:=hP.mem_iff.1 (hx ▸ List.getElem_mem hp)
   rw [decide_eq_true hxt] at tk
   have wp:wrap64 ((p:Int)+1)=((p+1:Nat):Int):=bQ (n:=c.length) hp (by omega)
   have del:bj.f c p (wrap64 ((p:Int)+1))=some (c.eraseIdx p):=by
    rw [wp]
    unfold bj.f
    rw [if_pos ⟨by omega,by omega,by omega⟩,List.eraseIdx_eq_take_drop_succ,Int.toNat_natCast,Int.toNat_natCast]
   have gu:Ev (fun k=>ac.f k n ring t c m 3 A B) (c.eraseIdx p,B == 0):=by
    unfold ac.f
    exact Ev.have cl (Ev.bind h1 (Ev.neg (by omega) (Ev.neg (by omega) (Ev.pos rfl (Ev.neg (by omega) (Ev.have del (Ev.now _)))))))
   by_cases hB:B=0
   ·subst hB
    have wr:=e7 hH A hxt
    refine .inr ⟨t.filter fun x=>!decide (x=A),c.eraseIdx p,?_,?_,gu,wr.1,?_,?_⟩
    ·unfold aQ.f
     exact Ev.neg (by omega) (Ev.neg (by omega) (Ev.pos rfl (Ev.bind tk (Ev.pos rfl (Ev.now _)))))
    ·unfold ar.f
     refine Ev.have own (Ev.neg (by omega) (Ev.neg (by omega) (Ev.pos rfl (Ev.bind h3 (Ev.bind (Ev.bound t.length fun k hk=>dS n ring t A (by omega) k hk) ?_)))))
     dsimp only
     rw [wp]
     exact Ev.pos (by omega) (Ev.pos (by omega) (Ev.pos (by omega) (Ev.pos (by omega) (Ev.now _))))
    ·rw [List.length_eraseIdx_of_lt hp];omega
    ·intro x
     rw [List.mem_filter,← hP.mem_iff]
     rw [List.mem_eraseIdx_iff_getElem?]
     have hh:=List.pairwise_iff_getElem.1 hcN
     constructor
     ·rintro ⟨i,hi,e⟩
      obtain ⟨h1,e⟩:=List.getElem?_eq_some_iff.1 e
      refine ⟨e ▸ List.getElem_mem h1,?_⟩
      have:x≠A:=fun e2=>by
       rcases Nat.lt_trichotomy p i with g|g|g
       ·exact absurd (by rw [hx,← e2,e]) (hh p i hp h1 g)
       ·exact hi g.symm
       ·exact absurd (by rw [hx,← e2,e]) (hh i p h1 hp g)
      simpa using this
     ·rintro ⟨e,e2⟩
      obtain ⟨i,hi,rfl⟩:=List.getElem_of_mem e
      refine ⟨i,?_,List.getElem?_eq_getElem hi⟩
      rintro rfl
      simp [hx] at e2
   ·refine .inl ⟨?_,_,Ev.same gu (by rw [show (B == 0)=false by simpa using hB])⟩
    unfold aQ.f
    exact Ev.neg (by omega) (Ev.neg (by omega) (Ev.pos rfl (Ev.bind tk (Ev.pos rfl (Ev.same (Ev.now _) (by simpa using hB))))))
 by_cases k4:kind=4
 ·subst k4
  have tk:=fk hH A
  rcases eK c (by omega) A with ⟨hx,h1,_⟩|⟨p,hp,hx,h1,_,h3⟩
  ·have hxt:A ∉ t:=fun e=>hx (hP.mem_iff.2 e)
   rw [decide_eq_false hxt] at tk
   refine .inl ⟨?_,?_⟩
   ·unfold aQ.f
    exact Ev.neg (by omega) (Ev.neg (by omega) (Ev.neg (by omega) (Ev.pos rfl (Ev.bind tk (Ev.neg Bool.false_ne_true (Ev.now _))))))
   ·refine ⟨[],?_⟩
    unfold ac.f
    exact Ev.have cl (Ev.bind h1 (Ev.neg (by omega) (Ev.neg (by omega) (Ev.neg (by omega) (Ev.pos rfl (Ev.pos (by omega) (Ev.now _)))))))
  ·have hxt:A ∈ t:=hP.mem_iff.1 (hx ▸ List.getElem_mem hp)
   rw [decide_eq_true hxt] at tk
   obtain ⟨b,f1,f2,f3⟩:=fN hH B
   by_cases hb:b=true
   ·subst hb
    obtain ⟨⟨h0,hB1⟩,hBt⟩:=f3.1 rfl
    have wr:=e7 hH A hxt
    have hw2:=cE wr.1
    have hBf:B ∉ t.filter fun x=>!decide (x=A):=fun e=>hBt (List.mem_filter.1 e).1
    have hAB:B≠A:=fun e=>hBt (e ▸ hxt)
    have hmem:∀ x,x ∈ c.set p B ↔ x ∈ d5 (t.filter fun x=>!decide (x=A)) B:=fun x=>by
     rw [e0 _ B x hBf,List.mem_filter,← hP.mem_iff]
     constructor
     ·intro e
      obtain ⟨j,hj,e⟩:=List.getElem_of_mem e
      rw [List.getElem_set] at e
      split at e
      ·exact .inl e.symm
      ·rename_i hpj
       rw [List.length_set] at hj
       refine .inr ⟨e ▸ List.getElem_mem hj,?_⟩
       have:x≠A:=fun e2=>hpj (by
        have hh:=List.pairwise_iff_getElem.1 hcN
        rcases Nat.lt_trichotomy p j with g|g|g
        ·exact absurd (by rw [hx,← e2,e]) (hh p j hp hj g)
        ·exact g
        ·exact absurd (by rw [hx,← e2,e]) (hh j p hj hp g))
       simpa using this
     ·rintro (e|⟨e,e2⟩)
      ·rw [e]
       exact List.mem_iff_getElem.2 ⟨p,by simpa using hp,by simp⟩
      ·obtain ⟨j,hj,rfl⟩:=List.getElem_of_mem e
       refine List.mem_iff_getElem.2 ⟨j,by simpa using hj,?_⟩
       rw [List.getElem_set,if_neg]
       rintro rfl
       simp [hx] at e2
    have hR':dq n ring (d5 (t.filter fun x=>!decide (x=A)) B):=g0 hR (fi _ B hw2) fun x hx=>by
     rcases (e0 _ B x hBf).1 hx with e|e
     ·omega
     ·exact hin x (List.mem_filter.1 e).1
    have hlen:(c.set p B).length=(d5 (t.filter fun x=>!decide (x=A)) B).length:=by
     have hN1:=b8 _ _ _ hR'.2.2
     have e1:=d7 _ (c.set p B) hN1 fun x hx=>(hmem x).2 hx
     have hNB:(B :: t.filter fun x=>!decide (x=A)).Nodup:=List.nodup_cons.2 ⟨hBf,(b8 t _ _ hR.2.2).filter _⟩
     have e2:=d7 _ (d5 (t.filter fun x=>!decide (x=A)) B) hNB fun x hx=>(e0 _ B x hBf).2 (by simpa using hx)
     rw [List.length_set] at e1 ⊢
     simp only [List.length_cons] at e2
     omega
    refine .inr ⟨_,c.set p B,?_,?_,?_,hR',hlen,hmem⟩
    ·unfold aQ.f
     exact Ev.neg (by omega) (Ev.neg (by omega) (Ev.neg (by omega) (Ev.pos rfl (Ev.bind tk (Ev.pos rfl (Ev.bind f2 (Ev.now _)))))))
    ·unfold ar.f
     refine Ev.have own (Ev.neg (by omega) (Ev.neg (by omega) (Ev.neg (by omega) (Ev.pos rfl (Ev.bind (Ev.bound t.length fun k hk=>dS n ring t A (by omega) k hk) (Ev.bind (Ev.bound t.length fun k hk=>d6 n ring _ B (by omega) (fM _ hw2) hBf k (by omega)) (Ev.bind h3 ?_)))))))
     dsimp only
     exact Ev.pos (by omega) (Ev.pos (by omega) (Ev.now _))
    ·unfold ac.f
     refine Ev.have cl (Ev.bind h1 (Ev.neg (by omega) (Ev.neg (by omega) (Ev.neg (by omega) (Ev.pos rfl (Ev.neg (by omega) (Ev.bind f1 (Ev.pos rfl (Ev.pos (by omega) (Ev.pos (by omega) (Ev.now _)))))))))))
   ·refine .inl ⟨?_,?_⟩
    ·unfold aQ.f
     have hbf:b=false:=by simpa using hb
     rw [hbf] at f2
     exact Ev.neg (by omega) (Ev.neg (by omega) (Ev.neg (by omega) (Ev.pos rfl (Ev.bind tk (Ev.pos rfl (Ev.bind f2 (Ev.now _)))))))
    ·refine ⟨[],?_⟩
     unfold ac.f
     exact Ev.have cl (Ev.bind h1 (Ev.neg (by omega) (Ev.neg (by omega) (Ev.neg (by omega) (Ev.pos rfl (Ev.neg (by omega) (Ev.bind f1 (Ev.neg hb (Ev.now _)))))))))
 by_cases k5:kind=5
 ·subst k5
  have may:Ev (fun k=>aQ.f k n ring t c m 5 A B) (decide (A=0∧B=0)):=by
   unfold aQ.f
   refine Ev.neg (by omega) (Ev.neg (by omega) (Ev.neg (by omega) (Ev.neg (by omega) (Ev.pos rfl ?_))))
   by_cases a0:A=0
   ·exact Ev.pos a0 (Ev.same (Ev.now _) (by by_cases b0:B=0 <;> simp [a0,b0]))
   ·exact Ev.neg a0 (Ev.same (Ev.now _) (by simp [a0]))
  have gu:Ev (fun k=>ac.f k n ring t c m 5 A B) ([],decide (A=0∧B=0)):=by
   unfold ac.f
   refine Ev.have cl (Ev.bind hq0 (Ev.neg (by omega) (Ev.neg (by omega) (Ev.neg (by omega) (Ev.neg (by omega) (Ev.pos rfl (Ev.have rfl ?_)))))))
   by_cases a0:A=0
   ·exact Ev.pos a0 (Ev.same (Ev.now _) (by by_cases b0:B=0 <;> simp [a0,b0]))
   ·exact Ev.neg a0 (Ev.same (Ev.now _) (by simp [a0]))
  by_cases hA:A=0∧B=0
  ·rw [decide_eq_true hA] at may gu
   refine .inr ⟨[],[],may,?_,gu,g0 hR (by simp) (by simp),rfl,by simp⟩
   unfold ar.f
   exact Ev.have own (Ev.neg (by omega) (Ev.neg (by omega) (Ev.neg (by omega) (Ev.neg (by omega) (Ev.pos rfl (Ev.now _))))))
  ·rw [decide_eq_false hA] at may gu
   exact .inl ⟨may,_,gu⟩
 ·refine .inl ⟨?_,[],?_⟩
  ·unfold aQ.f
   exact Ev.neg k1 (Ev.neg k2 (Ev.neg k3 (Ev.neg k4 (Ev.neg k5 (Ev.now _)))))
  ·unfold ac.f
   exact Ev.have cl (Ev.bind hq0 (Ev.neg k1 (Ev.neg k2 (Ev.neg k3 (Ev.neg k4 (Ev.neg k5 (Ev.now _)))))))
end
theorem lh {n:Nat} {ring:Bool} {t c:List Int} {m:Int} (hH:bC n ring t c m) (kind A B:Int):∃ (s':Int) (r':Bool) (t' c':List Int) (m':Int) (b:Bool),Ev (fun k=>aK.f k n ring t c m kind A B) (s',r',t',c',m',b)∧Ev (fun k=>ap.f k n ring t c m kind A B) (s',r',t',c',m',b)∧(b=true→s'=n∧r'=ring∧bC n ring t' c' m'):=by
 classical
 have hl:=cr _ ring _ hH.1
 have hcl:=(bV hH).length_eq
 have hm:=hH.2.2
 have g2:=de n ring t c m (by omega) (by omega)
 rw [decide_eq_true hH] at g2
 have no:∀ x:List Int,Ev (fun k=>ap.j0 k x true n ring t c m) (0,false,[],[],0,false):=fun x=>by
  refine Ev.succ ?_
  simp only [ap.j0]
  exact Ev.pos (by first|rfl|exact True.intro) (Ev.now _)
 rcases g4 hH (by omega) kind A B with ⟨e1,x,e2⟩|⟨t',c',e1,e2,e3,hR',hl',hm'⟩
 ·refine ⟨0,false,[],[],0,false,?_,?_,fun e=>by cases e⟩
  ·unfold aK.f
   exact Ev.bind e1 (Ev.neg (by simp) (Ev.now _))
  ·unfold ap.f
   exact Ev.bind g2 (Ev.pos rfl (Ev.bind e2 (Ev.neg (by simp) (no x))))
 ·have hl2:=cr _ ring _ hR'
  have own:bh.f n ring t' c' m=some ((n:Int),ring,t',c',m):=by
   unfold bh.f
   rw [bR t' (by omega),Option.bind_some,bR c' (by omega),Option.bind_some]
  have g3:=dr n ring t' c' (m+1) (by omega) (by omega)
  have wm:wrap64 (m+1)=m+1:=cD (by omega) (by omega)
  by_cases last:m=1000
  ·have:¬ bC n ring t' c' (m+1):=fun hh=>by have:=hh.2.2.2;omega
   rw [decide_eq_false this] at g3
   refine ⟨0,false,[],[],0,false,?_,?_,fun e=>by cases e⟩
   ·unfold aK.f
    refine Ev.bind e1 (Ev.pos rfl (Ev.bind e2 (Ev.have own ?_)))
    dsimp only
    rw [wm]
    exact Ev.bind g3 (Ev.neg (by simp) (Ev.now _))
   ·unfold ap.f
    refine Ev.bind g2 (Ev.pos rfl (Ev.bind e3 (Ev.pos rfl ?_)))
    rw [show (m == 1000)=true by simpa using last]
    exact no c'
  ·have hH':bC n ring t' c' (m+1):=gP hR' hl' hm' (by omega) (by omega)
   rw [decide_eq_true hH'] at g3
   refine ⟨n,ring,t',c',m+1,true,?_,?_,fun _=>⟨rfl,rfl,hH'⟩⟩
   ·unfold aK.f
    refine Ev.bind e1 (Ev.pos rfl (Ev.bind e2 (Ev.have own ?_)))
    dsimp only
    rw [wm]
    exact Ev.bind g3 (Ev.pos rfl (Ev.now _))
   ·unfold ap.f
    refine Ev.bind g2 (Ev.pos rfl (Ev.bind e3 (Ev.pos rfl ?_)))
    rw [show (m == 1000)=false by simpa using last]
    refine Ev.succ ?_
    simp only [ap.j0]
    have hin:=dT hR'
    have e5:Ev (fun k=>bn.f k c') ((du c':Nat):Int):=Ev.bound c'.length fun k hk=>ei c' (by omega) (fun x hx=>by have:=hin x ((hm' x).1 hx);have:=hR'.1.2;omega) k hk
    rw [iW c' t' hm'] at e5
    have e6:Ev (fun k=>aV.f k n ring ((du t':Nat):Int)) ((n:Int),ring,t'):=by
     unfold aV.f
     exact Ev.bind (er t' (cE hR') (fun x hx=>by have:=hin x hx;have:=hR'.1.2;omega) (by omega)) (Ev.now _)
    refine Ev.neg (by simp) (Ev.have rfl (Ev.bind e5 (Ev.bind e6 ?_)))
    dsimp only
    rw [wm]
    exact Ev.now _
theorem lF {x:Int} (h:(Lit.int .u8 x).wf=true):0≤x∧x≤255:=by
 have h:=h
 simp [Lit.wf,IntKind.min,IntKind.max,IntKind.signed,IntKind.bits] at h
 omega
theorem lG (l:List Int) (hb:∀ x ∈ l,0≤x∧x≤255) (i:Int):0≤rd l i∧rd l i≤255:=by
 unfold rd
 cases h:l[i.toNat]? with
 | none=>simp [List.getD,h]
 | some x =>
  simp only [List.getD,h,Option.getD_some]
  exact hb x (List.mem_of_getElem? h)
theorem oH (x:Int):0≤Go.bits .and .u64 (IntKind.u64.wrap x / 1099511627776) 255∧Go.bits .and .u64 (IntKind.u64.wrap x / 1099511627776) 255≤255:=by
 have h:0≤IntKind.u64.wrap x∧IntKind.u64.wrap x<18446744073709551616:=by
  rw [IntKind.wrap_u64]
  omega
 generalize IntKind.u64.wrap x=y at h
 have e:y / 1099511627776=((y / 1099511627776).toNat:Int):=by omega
 rw [e,show (255:Int)=((255:Nat):Int) from rfl,(bits_nat .u64 64 (by decide) (fun n h h'=>by rw [IntKind.wrap_u64];omega) _ 255 (by omega) (by omega)).1]
 have:=Nat.and_le_right (n:=(y / 1099511627776).toNat) (m:=255)
 omega
theorem mJ (code:List Int) (hb:∀ x ∈ code,0≤x∧x≤255) (a:Nat) (ha:a≤1000) (seed:Int):∃ (b s:Int),cz.f code a seed=some (b,((a+1:Nat):Int),s)∧0≤b∧b≤255:=by
 have h1:=lG code hb a
 unfold cz.f
 rw [cD (x:=rd code a) (by omega) (by omega),bQ (n:=2000) (by omega) (by omega)]
 have small:∀ y:Int,0≤wrap64 (Go.bits .and .u64 (IntKind.u64.wrap y / 1099511627776) 255)∧wrap64 (Go.bits .and .u64 (IntKind.u64.wrap y / 1099511627776) 255)≤255:=fun y=>by
  have:=oH y
  rw [cD (by omega) (by omega)]
  exact this
 split
 ·rw [if_pos (by omega)]
  split
  ·exact ⟨_,_,rfl,h1.1,h1.2⟩
  ·exact ⟨_,_,rfl,(small _).1,(small _).2⟩
 ·split
  ·exact ⟨_,_,rfl,by omega,by omega⟩
  ·exact ⟨_,_,rfl,(small _).1,(small _).2⟩
theorem e8 (code:List Int) (hb:∀ x ∈ code,0≤x∧x≤255) (a:Nat) (ha:a≤900) (seed n:Int) (h1:1<n) (h2:n≤200):∃ (r s:Int),aC.f code a seed n=some (r,((a+1:Nat):Int),s)∧0≤r∧r<n:=by
 obtain ⟨b,s,e,b0,b1⟩:=mJ code hb a (by omega) seed
 unfold aC.f
 rw [if_neg (by omega),e,Option.bind_some,if_neg (by omega),if_neg (by omega)]
 exact ⟨_,_,rfl,Int.tmod_nonneg _ b0,Int.tmod_lt_of_pos _ (by omega)⟩
theorem gC (code:List Int) (hb:∀ x ∈ code,0≤x∧x≤255) (a:Nat) (ha:a≤900) (seed n:Int) (h1:1<n) (h2:n≤200):∃ (r:Bool) (s:Int),bp.f code a seed n=some (r,((a+1:Nat):Int),s):=by
 obtain ⟨b,s,e,_⟩:=e8 code hb a ha seed n h1 h2
 unfold bp.f
 rw [e]
 exact ⟨_,_,rfl⟩
theorem iX (code:List Int) (hb:∀ x ∈ code,0≤x∧x≤255) (a:Nat) (ha:a≤900) (seed n:Int) (h2:n≤200):∃ (r s:Int) (a':Nat),aC.f code a seed n=some (r,(a':Int),s)∧a'≤a+1∧0≤r∧(1≤n→r<n):=by
 by_cases h:1<n
 ·obtain ⟨r,s,e,h0,h1⟩:=e8 code hb a ha seed n h h2
  exact ⟨r,s,a+1,e,by omega,h0,fun _=>h1⟩
 ·unfold aC.f
  rw [if_pos (by omega)]
  exact ⟨0,seed,a,rfl,by omega,by omega,fun h=>by omega⟩
theorem g6 (code:List Int) (hb:∀ x ∈ code,0≤x∧x≤255) (a:Nat) (ha:a≤900) (seed:Int) (l:List Int) (h1:1<l.length) (h2:l.length≤200):∃ (r s:Int),av.f code a seed l=some (r,((a+1:Nat):Int),s)∧r ∈ l:=by
 obtain ⟨b,s,e,b0,b1⟩:=e8 code hb a ha seed (l.length:Int) (by omega) (by omega)
 unfold av.f
 rw [e,Option.bind_some,if_pos b0,if_pos b1]
 refine ⟨_,_,rfl,?_⟩
 have hlt:b.toNat<l.length:=by omega
 unfold rd
 simp [List.getD,hlt]
theorem eu (code:List Int) (hb:∀ x ∈ code,0≤x∧x≤255) (a:Nat) (ha:a≤900) (seed:Int) (l:List Int) (h1:1<l.length) (h2:l.length≤200):∃ (r s:Int),av.f code a seed l=some (r,((a+1:Nat):Int),s):=by
 obtain ⟨b,s,e,b0,b1⟩:=e8 code hb a ha seed (l.length:Int) (by omega) (by omega)
 unfold av.f
 rw [e,Option.bind_some,if_pos b0,if_pos b1]
 exact ⟨_,_,rfl⟩
def ie (s:Int) (t:List Int):List Int:=((List.range s.toNat).map fun i:Nat=>(i:Int)).filter fun x=>decide (x ∉ t)
theorem g7 (s:Int) (ring:Bool) (t:List Int) (h1:s≤24) (ht:t.length≤1048576):∀ (d j:Nat) (acc:List Int),j+d=s.toNat→acc.length≤j→Ev (fun k=>bi.l0 k acc (j:Int) s ring t) (acc++((List.range' j d).map fun i:Nat=>(i:Int)).filter fun x=>decide (x ∉ t))
 | 0,j,acc,hj,_=>by
  refine Ev.succ ?_
  simp only [bi.l0]
  refine Ev.neg (by omega) ?_
  simp only [List.range'_zero,List.map_nil,List.filter_nil,List.append_nil]
  exact Ev.now _
 | d+1,j,acc,hj,ha=>by
  refine Ev.succ ?_
  simp only [bi.l0]
  refine Ev.pos (by omega) (Ev.bind (ez s ring t (j:Int) ht) ?_)
  rw [bQ (n:=24) (by omega) (by omega),List.range'_succ,List.map_cons]
  by_cases g:(j:Int) ∈ t
  ·rw [List.filter_cons_of_neg (by simpa using g)]
   exact Ev.pos (decide_eq_true g) (g7 s ring t h1 ht d (j+1) acc (by omega) (by omega))
  ·rw [List.filter_cons_of_pos (by simpa using g)]
   refine Ev.neg (by simpa using g) (Ev.pos (by omega) ?_)
   have:=g7 s ring t h1 ht d (j+1) (acc++[(j:Int)]) (by omega) (by simp;omega)
   rw [List.append_assoc] at this
   exact this
theorem ll (s:Int) (ring:Bool) (t:List Int) (h1:s≤24) (ht:t.length≤1048576):Ev (fun k=>bi.f k s ring t) (ie s t):=by
 unfold bi.f ie
 rw [List.range_eq_range']
 exact g7 s ring t h1 ht s.toNat 0 [] (by omega) (Nat.le_refl _)
theorem ku {n:Int} (h:n≤24) (t:List Int):(ie n t).length≤24:=by
 have h1:(ie n t).length≤n.toNat:=by
  unfold ie
  refine Nat.le_trans (List.length_filter_le _ _) ?_
  simp
 omega
theorem jR (code:List Int) (hb:∀ x ∈ code,0≤x∧x≤255) (a:Nat) (ha:a≤800) (seed n:Int) (ring:Bool) (t:List Int):∃ (r s:Int) (a':Nat),ch.f code a seed n ring t=some (r,(a':Int),s)∧a'≤a+2:=by
 obtain ⟨b,s,e⟩:=gC code hb a (by omega) seed 30 (by omega) (by omega)
 unfold ch.f
 rw [e,Option.bind_some]
 dsimp only
 cases b with
 | true =>
  obtain ⟨r,s2,e2⟩:=eu code hb (a+1) (by omega) s [-1,0,n,4611686018427387904] (by simp) (by simp)
  rw [if_pos rfl,e2]
  exact ⟨_,_,_,rfl,by omega⟩
 | false =>
  have hm:∃ m:Int,m≤200∧((cX.f n 24).bind fun t415=>(cx.f t415 1))=some m:=by
   unfold cX.f cx.f
   by_cases g:n<24
   ·rw [if_pos g,Option.bind_some]
    split
    ·exact ⟨_,by omega,rfl⟩
    ·exact ⟨_,by omega,rfl⟩
   ·rw [if_neg g,Option.bind_some]
    exact ⟨24,by omega,rfl⟩
  obtain ⟨m,hm2,hm⟩:=hm
  obtain ⟨r,s2,a',e2,h1,_⟩:=iX code hb (a+1) (by omega) s m hm2
  rw [if_neg (by simp)]
  obtain ⟨x,hx,hy⟩:=Option.bind_eq_some_iff.1 hm
  rw [hx,Option.bind_some,hy,Option.bind_some,e2]
  exact ⟨_,_,_,rfl,by omega⟩
open Classical in
theorem fD (code:List Int) (hb:∀ x ∈ code,0≤x∧x≤255) (a:Nat) (ha:a≤700) (seed n:Int) (ring:Bool) (t:List Int) (ht:t.length≤1048576):∃ (r s:Int) (a':Nat),Ev (fun k=>am.f k code a seed n ring t) (r,(a':Int),s)∧a'≤a+3:=by
 have j0f:∀ (a:Nat) (seed:Int),a≤750→∃ (r s:Int) (a':Nat),Ev (fun k=>am.j0 k false code a seed n ring t) (r,(a':Int),s)∧a'≤a+2:=by
  intro a seed ha
  obtain ⟨r,s,a',e,h⟩:=jR code hb a (by omega) seed n ring t
  refine ⟨r,s,a',Ev.succ ?_,h⟩
  simp only [am.j0]
  exact Ev.neg (by simp) (Ev.have e (Ev.now _))
 by_cases g:dq n ring t
 ·obtain ⟨b,s,e⟩:=gC code hb a (by omega) seed 8 (by omega) (by omega)
  cases b with
  | true =>
   obtain ⟨r,s2,a',e2,h⟩:=j0f (a+1) s (by omega)
   refine ⟨r,s2,a',?_,by omega⟩
   unfold am.f
   exact Ev.bind (Ev.bound t.length fun k hk=>dR n ring t ht k hk) (Ev.pos (decide_eq_true g) (Ev.have e e2))
  | false =>
   have hf:=ku g.1.2 t
   by_cases gl:((ie n t).length:Int) > 0
   ·obtain ⟨r,s2,a',e2,h1,h2,h3⟩:=iX code hb (a+1) (by omega) s ((ie n t).length:Int) (by omega)
    refine ⟨rd (ie n t) r,s2,a',?_,by omega⟩
    unfold am.f
    refine Ev.bind (Ev.bound t.length fun k hk=>dR n ring t ht k hk) (Ev.pos (decide_eq_true g) (Ev.have e (Ev.succ ?_)))
    simp only [am.j0]
    exact Ev.pos (by first|rfl|exact True.intro) (Ev.bind (ll n ring t g.1.2 ht) (Ev.pos gl (Ev.have e2 (Ev.pos h2 (Ev.pos (h3 (by omega)) (Ev.now _))))))
   ·obtain ⟨r,s2,a',e2,h⟩:=jR code hb (a+1) (by omega) s n ring t
    refine ⟨r,s2,a',?_,by omega⟩
    unfold am.f
    refine Ev.bind (Ev.bound t.length fun k hk=>dR n ring t ht k hk) (Ev.pos (decide_eq_true g) (Ev.have e (Ev.succ ?_)))
    simp only [am.j0]
    exact Ev.pos (by first|rfl|exact True.intro) (Ev.bind (ll n ring t g.1.2 ht) (Ev.neg gl (Ev.have e2 (Ev.now _))))
 ·obtain ⟨r,s2,a',e2,h⟩:=j0f a seed (by omega)
  refine ⟨r,s2,a',?_,by omega⟩
  unfold am.f
  exact Ev.bind (Ev.bound t.length fun k hk=>dR n ring t ht k hk) (Ev.neg (by rw [decide_eq_true_eq];exact g) e2)
section
variable {n:Nat} {ring:Bool} {t c:List Int} {m:Int} (hH:bC n ring t c m)
include hH
theorem fE (p:Int):Ev (fun k=>bY.f k n ring t c m p) (decide ((0≤p∧p<n)∧p ∉ t)):=by
 have hn:=hH.1.1
 have hl:=cr _ ring _ hH.1
 unfold bY.f
 rw [show wrap64 ((n:Int) - 1)=n - 1 from cD (by omega) (by omega)]
 by_cases hp:0≤p∧p≤(n:Int) - 1
 ·refine Ev.have (dp p 0 _) (Ev.pos (decide_eq_true hp) (Ev.bind (ez n ring t p (by omega)) (Ev.same (Ev.now _) ?_)))
  have hp2:0≤p∧p<(n:Int):=by omega
  by_cases hx:p ∈ t <;> simp [hx,hp2]
 ·refine Ev.have (dp p 0 _) (Ev.neg (by simpa using hp) (Ev.same (Ev.now _) ?_))
  have hp2:¬ (0≤p∧p<(n:Int)):=by omega
  simp [hp2]
theorem lH (hs:t.length+c.length≤1048576) (kind A B:Int) :
  Ev (fun k=>aQ.f k n ring t c m kind A B) false ∨
  (∃ t' c',Ev (fun k=>aQ.f k n ring t c m kind A B) true∧Ev (fun k=>ar.f k n ring t c m kind A B) (n,ring,t',c',m)∧dq n ring t'∧c'.length=t'.length∧∀ x,x ∈ c' ↔ x ∈ t'):=by
 have hP:=bV hH
 have hR:=hH.1
 have hn:=hH.1.1
 have hl:=cr _ ring _ hH.1
 have hcl:=hP.length_eq
 have hin:=dT hR
 have hw:=cE hR
 have hcN:c.Nodup:=hP.nodup_iff.2 (b8 t _ _ hR.2.2)
 have own:bh.f n ring t c m=some ((n:Int),ring,t,c,m):=by
  unfold bh.f
  rw [bR t (by omega),Option.bind_some,bR c (by omega),Option.bind_some]
 have sit:∀ p:Int,0≤p→p<n→p ∉ t→Ev (fun k=>cn.f k n ring t c m p) ((n:Int),ring,d5 t p,c++[p],m):=by
  intro p h0 h1 hp
  unfold cn.f
  refine Ev.bind (Ev.bound t.length fun k hk=>d6 n ring t p (by omega) (fM t hw) hp k hk) (Ev.have (bR c (by omega)) (Ev.pos (by omega) (Ev.now _)))
 by_cases k1:kind=1
 ·subst k1
  by_cases g:t.length<n∧A=0∧B=0
  ·obtain ⟨g,rfl,rfl⟩:=g
   obtain ⟨q,hq,e,hqt,hL⟩:=jA hR g
   have hs:=iq hH (p:=(q:Int)) (by omega) (by omega) hqt
   refine .inr ⟨d5 t q,c++[(q:Int)],?_,?_,hs.1,hs.2.1,hs.2.2⟩
   ·unfold aQ.f
    exact Ev.pos rfl (Ev.pos (by omega) (Ev.pos rfl (Ev.now _)))
   ·unfold ar.f
    refine Ev.have own (Ev.pos rfl (Ev.bind (fC hR) (Ev.pos (by omega) ?_)))
    rw [e]
    exact Ev.bind (sit q (by omega) (by omega) hqt) (Ev.now _)
  ·refine .inl ?_
   unfold aQ.f
   refine Ev.pos rfl ?_
   by_cases g1:t.length<n
   ·refine Ev.pos (by omega) ?_
    by_cases a0:A=0
    ·exact Ev.pos a0 (Ev.same (Ev.now _) (by simpa using fun e=>g ⟨g1,a0,e⟩))
    ·exact Ev.neg a0 (Ev.now _)
   ·exact Ev.neg (by omega) (Ev.now _)
 by_cases k2:kind=2
 ·subst k2
  have f2:=fE hH A
  by_cases hA:((0≤A∧A<n)∧A ∉ t)∧B=0
  ·obtain ⟨⟨⟨h0,h1⟩,hp⟩,rfl⟩:=hA
   rw [decide_eq_true (show (0≤A∧A<(n:Int))∧A ∉ t from ⟨⟨h0,h1⟩,hp⟩)] at f2
   have hs:=iq hH h0 h1 hp
   refine .inr ⟨d5 t A,c++[A],?_,?_,hs.1,hs.2.1,hs.2.2⟩
   ·unfold aQ.f
    exact Ev.neg (by omega) (Ev.pos rfl (Ev.bind f2 (Ev.pos rfl (Ev.now _))))
   ·unfold ar.f
    exact Ev.have own (Ev.neg (by omega) (Ev.pos rfl (Ev.bind (sit A h0 h1 hp) (Ev.now _))))
  ·refine .inl ?_
   unfold aQ.f
   refine Ev.neg (by omega) (Ev.pos rfl (Ev.bind f2 ?_))
   by_cases hb:(0≤A∧A<(n:Int))∧A ∉ t
   ·exact Ev.pos (decide_eq_true hb) (Ev.same (Ev.now _) (by simpa using fun e=>hA ⟨hb,e⟩))
   ·exact Ev.neg (by rw [decide_eq_true_eq];exact hb) (Ev.now _)
 by_cases k3:kind=3
 ·subst k3
  have tk:=fk hH A
  by_cases hxt:A ∈ t∧B=0
  ·obtain ⟨hxt,rfl⟩:=hxt
   rw [decide_eq_true hxt] at tk
   obtain ⟨p,hp,hx,h2⟩:=gO A c (hP.mem_iff.2 hxt)
   have h3:=fb c (by omega) A p hp hx h2
   have wp:wrap64 ((p:Int)+1)=((p+1:Nat):Int):=bQ (n:=c.length) hp (by omega)
   have wr:=e7 hH A hxt
   refine .inr ⟨t.filter fun x=>!decide (x=A),c.eraseIdx p,?_,?_,wr.1,?_,?_⟩
   ·unfold aQ.f
    exact Ev.neg (by omega) (Ev.neg (by omega) (Ev.pos rfl (Ev.bind tk (Ev.pos rfl (Ev.now _)))))
   ·unfold ar.f
    refine Ev.have own (Ev.neg (by omega) (Ev.neg (by omega) (Ev.pos rfl (Ev.bind h3 (Ev.bind (Ev.bound t.length fun k hk=>dS n ring t A (by omega) k hk) ?_)))))
    dsimp only
    rw [wp]
    exact Ev.pos (by omega) (Ev.pos (by omega) (Ev.pos (by omega) (Ev.pos (by omega) (Ev.now _))))
   ·rw [List.length_eraseIdx_of_lt hp];omega
   ·intro x
    rw [List.mem_filter,← hP.mem_iff]
    rw [List.mem_eraseIdx_iff_getElem?]
    have hh:=List.pairwise_iff_getElem.1 hcN
    constructor
    ·rintro ⟨i,hi,e⟩
     obtain ⟨h1,e⟩:=List.getElem?_eq_some_iff.1 e
     refine ⟨e ▸ List.getElem_mem h1,?_⟩
     have:x≠A:=fun e2=>by
      rcases Nat.lt_trichotomy p i with g|g|g
      ·exact absurd (by rw [hx,← e2,e]) (hh p i hp h1 g)
      ·exact hi g.symm
      ·exact absurd (by rw [hx,← e2,e]) (hh i p h1 hp g)
     simpa using this
    ·rintro ⟨e,e2⟩
     obtain ⟨i,hi,rfl⟩:=List.getElem_of_mem e
     refine ⟨i,?_,List.getElem?_eq_getElem hi⟩
     rintro rfl
     simp [hx] at e2
  ·refine .inl ?_
   unfold aQ.f
   refine Ev.neg (by omega) (Ev.neg (by omega) (Ev.pos rfl (Ev.bind tk ?_)))
   by_cases h:A ∈ t
   ·exact Ev.pos (decide_eq_true h) (Ev.same (Ev.now _) (by simpa using fun e=>hxt ⟨h,e⟩))
   ·exact Ev.neg (by rw [decide_eq_true_eq];exact h) (Ev.now _)
 by_cases k4:kind=4
 ·subst k4
  have tk:=fk hH A
  have f2:=fE hH B
  by_cases hxt:A ∈ t
  ·rw [decide_eq_true hxt] at tk
   by_cases hb:(0≤B∧B<(n:Int))∧B ∉ t
   ·rw [decide_eq_true hb] at f2
    obtain ⟨⟨h0,hB1⟩,hBt⟩:=hb
    obtain ⟨p,hp,hx,h2⟩:=gO A c (hP.mem_iff.2 hxt)
    have h3:=fb c (by omega) A p hp hx h2
    have wr:=e7 hH A hxt
    have hw2:=cE wr.1
    have hBf:B ∉ t.filter fun x=>!decide (x=A):=fun e=>hBt (List.mem_filter.1 e).1
    have hAB:B≠A:=fun e=>hBt (e ▸ hxt)
    have hmem:∀ x,x ∈ c.set p B ↔ x ∈ d5 (t.filter fun x=>!decide (x=A)) B:=fun x=>by
     rw [e0 _ B x hBf,List.mem_filter,← hP.mem_iff]
     constructor
     ·intro e
      obtain ⟨j,hj,e⟩:=List.getElem_of_mem e
      rw [List.getElem_set] at e
      split at e
      ·exact .inl e.symm
      ·rename_i hpj
       rw [List.length_set] at hj
       refine .inr ⟨e ▸ List.getElem_mem hj,?_⟩
       have:x≠A:=fun e2=>hpj (by
        have hh:=List.pairwise_iff_getElem.1 hcN
        rcases Nat.lt_trichotomy p j with g|g|g
        ·exact absurd (by rw [hx,← e2,e]) (hh p j hp hj g)
        ·exact g
        ·exact absurd (by rw [hx,← e2,e]) (hh j p hj hp g))
       simpa using this
     ·rintro (e|⟨e,e2⟩)
      ·rw [e]
       exact List.mem_iff_getElem.2 ⟨p,by simpa using hp,by simp⟩
      ·obtain ⟨j,hj,rfl⟩:=List.getElem_of_mem e
       refine List.mem_iff_getElem.2 ⟨j,by simpa using hj,?_⟩
       rw [List.getElem_set,if_neg]
       rintro rfl
       simp [hx] at e2
    have hR':dq n ring (d5 (t.filter fun x=>!decide (x=A)) B):=g0 hR (fi _ B hw2) fun x hx=>by
     rcases (e0 _ B x hBf).1 hx with e|e
     ·omega
     ·exact hin x (List.mem_filter.1 e).1
    have hlen:(c.set p B).length=(d5 (t.filter fun x=>!decide (x=A)) B).length:=by
     have hN1:=b8 _ _ _ hR'.2.2
     have e1:=d7 _ (c.set p B) hN1 fun x hx=>(hmem x).2 hx
     have hNB:(B :: t.filter fun x=>!decide (x=A)).Nodup:=List.nodup_cons.2 ⟨hBf,(b8 t _ _ hR.2.2).filter _⟩
     have e2:=d7 _ (d5 (t.filter fun x=>!decide (x=A)) B) hNB fun x hx=>(e0 _ B x hBf).2 (by simpa using hx)
     rw [List.length_set] at e1 ⊢
     simp only [List.length_cons] at e2
     omega
    refine .inr ⟨_,c.set p B,?_,?_,hR',hlen,hmem⟩
    ·unfold aQ.f
     exact Ev.neg (by omega) (Ev.neg (by omega) (Ev.neg (by omega) (Ev.pos rfl (Ev.bind tk (Ev.pos rfl (Ev.bind f2 (Ev.now _)))))))
    ·unfold ar.f
     refine Ev.have own (Ev.neg (by omega) (Ev.neg (by omega) (Ev.neg (by omega) (Ev.pos rfl (Ev.bind (Ev.bound t.length fun k hk=>dS n ring t A (by omega) k hk) (Ev.bind (Ev.bound t.length fun k hk=>d6 n ring _ B (by omega) (fM _ hw2) hBf k (by omega)) (Ev.bind h3 ?_)))))))
     dsimp only
     exact Ev.pos (by omega) (Ev.pos (by omega) (Ev.now _))
   ·refine .inl ?_
    rw [decide_eq_false hb] at f2
    unfold aQ.f
    exact Ev.neg (by omega) (Ev.neg (by omega) (Ev.neg (by omega) (Ev.pos rfl (Ev.bind tk (Ev.pos rfl (Ev.bind f2 (Ev.now _)))))))
  ·refine .inl ?_
   rw [decide_eq_false hxt] at tk
   unfold aQ.f
   exact Ev.neg (by omega) (Ev.neg (by omega) (Ev.neg (by omega) (Ev.pos rfl (Ev.bind tk (Ev.neg Bool.false_ne_true (Ev.now _))))))
 by_cases k5:kind=5
 ·subst k5
  by_cases hA:A=0∧B=0
  ·obtain ⟨rfl,rfl⟩:=hA
   refine .inr ⟨[],[],?_,?_,g0 hR (by simp) (by simp),rfl,by simp⟩
   ·unfold aQ.f
    exact Ev.neg (by omega) (Ev.neg (by omega) (Ev.neg (by omega) (Ev.neg (by omega) (Ev.pos rfl (Ev.pos rfl (Ev.now _))))))
   ·unfold ar.f
    exact Ev.have own (Ev.neg (by omega) (Ev.neg (by omega) (Ev.neg (by omega) (Ev.neg (by omega) (Ev.pos rfl (Ev.now _))))))
  ·refine .inl ?_
   unfold aQ.f
   refine Ev.neg (by omega) (Ev.neg (by omega) (Ev.neg (by omega) (Ev.neg (by omega) (Ev.pos rfl ?_))))
   by_cases a0:A=0
   ·exact Ev.pos a0 (Ev.same (Ev.now _) (by simpa using fun e=>hA ⟨a0,e⟩))
   ·exact Ev.neg a0 (Ev.now _)
 ·refine .inl ?_
  unfold aQ.f
  exact Ev.neg k1 (Ev.neg k2 (Ev.neg k3 (Ev.neg k4 (Ev.neg k5 (Ev.now _)))))
end
open Classical in
theorem ms {n:Nat} {ring:Bool} {t c:List Int} {m:Int} (hH:bC n ring t c m) (kind A B:Int):∃ (s':Int) (r':Bool) (t' c':List Int) (m':Int) (b:Bool),Ev (fun k=>aK.f k n ring t c m kind A B) (s',r',t',c',m',b)∧(b=true→s'=n∧r'=ring∧bC n ring t' c' m'):=by
 have hl:=cr _ ring _ hH.1
 have hcl:=(bV hH).length_eq
 have hm:=hH.2.2
 rcases lH hH (by omega) kind A B with e1|⟨t',c',e1,e2,hR',hl',hm'⟩
 ·refine ⟨0,false,[],[],0,false,?_,fun e=>absurd e (by simp)⟩
  unfold aK.f
  exact Ev.bind e1 (Ev.neg (by simp) (Ev.now _))
 ·have hl2:=cr _ ring _ hR'
  have own:bh.f n ring t' c' m=some ((n:Int),ring,t',c',m):=by
   unfold bh.f
   rw [bR t' (by omega),Option.bind_some,bR c' (by omega),Option.bind_some]
  have g3:=dr n ring t' c' (m+1) (by omega) (by omega)
  have wm:wrap64 (m+1)=m+1:=cD (by omega) (by omega)
  by_cases last:m=1000
  ·have:¬ bC n ring t' c' (m+1):=fun hh=>by have:=hh.2.2.2;omega
   rw [decide_eq_false this] at g3
   refine ⟨0,false,[],[],0,false,?_,fun e=>absurd e (by simp)⟩
   unfold aK.f
   refine Ev.bind e1 (Ev.pos rfl (Ev.bind e2 (Ev.have own ?_)))
   dsimp only
   rw [wm]
   exact Ev.bind g3 (Ev.neg (by simp) (Ev.now _))
  ·have hH':bC n ring t' c' (m+1):=gP hR' hl' hm' (by omega) (by omega)
   rw [decide_eq_true hH'] at g3
   refine ⟨n,ring,t',c',m+1,true,?_,fun _=>⟨rfl,rfl,hH'⟩⟩
   unfold aK.f
   refine Ev.bind e1 (Ev.pos rfl (Ev.bind e2 (Ev.have own ?_)))
   dsimp only
   rw [wm]
   exact Ev.bind g3 (Ev.pos rfl (Ev.now _))
section
variable (code:List Int) (hb:∀ x ∈ code,0≤x∧x≤255)
include hb
theorem e9 (a:Nat) (ha:a≤700) (seed x y z:Int):∃ (K A B s:Int) (a':Nat),Ev (fun k=>ab.j2 k code a seed x y z) (K,A,B,(a':Int),s)∧a'≤a+2:=by
 obtain ⟨r,s,e,_⟩:=e8 code hb a (by omega) seed 32 (by omega) (by omega)
 obtain ⟨v1,s1,e1⟩:=eu code hb (a+1) (by omega) s [-1,24,1,4611686018427387904] (by simp) (by simp)
 obtain ⟨v2,s2,e2⟩:=eu code hb (a+1) (by omega) s [-1,24,1] (by simp) (by simp)
 obtain ⟨v3,s3,e3⟩:=eu code hb (a+1) (by omega) s [0,6, -1] (by simp) (by simp)
 by_cases c0:r=0
 ·refine ⟨x,v1,z,s1,a+2,Ev.succ ?_,by omega⟩
  simp only [ab.j2]
  exact Ev.have e (Ev.pos c0 (Ev.have e1 (Ev.now _)))
 by_cases c1:r=1
 ·refine ⟨x,y,v2,s2,a+2,Ev.succ ?_,by omega⟩
  simp only [ab.j2]
  exact Ev.have e (Ev.neg c0 (Ev.pos c1 (Ev.have e2 (Ev.now _))))
 by_cases c2:r=2
 ·refine ⟨v3,y,z,s3,a+2,Ev.succ ?_,by omega⟩
  simp only [ab.j2]
  exact Ev.have e (Ev.neg c0 (Ev.neg c1 (Ev.pos c2 (Ev.have e3 (Ev.now _)))))
 ·refine ⟨x,y,z,s,a+1,Ev.succ ?_,by omega⟩
  simp only [ab.j2]
  exact Ev.have e (Ev.neg c0 (Ev.neg c1 (Ev.neg c2 (Ev.now _))))
theorem lm (a:Nat) (ha:a≤690) (b:Bool) (seed n:Int) (ring:Bool) (t c:List Int) (m x y z:Int) (ht:t.length≤1048576) (hc:c.length≤200) (hbc:b=true→0<c.length):∃ (K A B s:Int) (a':Nat),Ev (fun k=>ab.j1 k b code a seed n ring t c m x y z) (K,A,B,(a':Int),s)∧a'≤a+6:=by
 cases b with
 | true =>
  have hpos:=hbc rfl
  obtain ⟨r,s,a1,e,h1,h2,h3⟩:=iX code hb a (by omega) seed (c.length:Int) (by omega)
  by_cases c4:x=4
  ·obtain ⟨v,s2,a2,e2,h4⟩:=fD code hb a1 (by omega) s n ring t ht
   obtain ⟨K,A,B,s3,a3,e3,h5⟩:=e9 code hb a2 (by omega) s2 x (rd c r) v
   refine ⟨K,A,B,s3,a3,Ev.succ ?_,by omega⟩
   simp only [ab.j1]
   exact Ev.pos (by first|rfl|exact True.intro) (Ev.have e (Ev.pos h2 (Ev.pos (h3 (by omega)) (Ev.pos c4 (Ev.bind e2 e3)))))
  ·obtain ⟨K,A,B,s3,a3,e3,h5⟩:=e9 code hb a1 (by omega) s x (rd c r) z
   refine ⟨K,A,B,s3,a3,Ev.succ ?_,by omega⟩
   simp only [ab.j1]
   exact Ev.pos (by first|rfl|exact True.intro) (Ev.have e (Ev.pos h2 (Ev.pos (h3 (by omega)) (Ev.neg c4 e3))))
 | false =>
  by_cases c4:x=4
  ·obtain ⟨v,s2,a2,e2,h4⟩:=fD code hb a (by omega) seed n ring t ht
   obtain ⟨K,A,B,s3,a3,e3,h5⟩:=e9 code hb a2 (by omega) s2 x y v
   refine ⟨K,A,B,s3,a3,Ev.succ ?_,by omega⟩
   simp only [ab.j1]
   exact Ev.neg (by simp) (Ev.pos c4 (Ev.bind e2 e3))
  ·obtain ⟨K,A,B,s3,a3,e3,h5⟩:=e9 code hb a (by omega) seed x y z
   refine ⟨K,A,B,s3,a3,Ev.succ ?_,by omega⟩
   simp only [ab.j1]
   exact Ev.neg (by simp) (Ev.neg c4 e3)
theorem ln (a:Nat) (ha:a≤680) (w:Int) (b:Bool) (seed n:Int) (ring:Bool) (t c:List Int) (m x y z:Int) (ht:t.length≤1048576) (hc:c.length≤200):∃ (K A B s:Int) (a':Nat),Ev (fun k=>ab.j0 k w b code a seed n ring t c m x y z) (K,A,B,(a':Int),s)∧a'≤a+9:=by
 cases b with
 | true =>
  obtain ⟨r,s,a1,e,h1⟩:=jR code hb a (by omega) seed n ring t
  by_cases cl:(c.length:Int) > 0
  ·obtain ⟨o,s2,e2⟩:=gC code hb a1 (by omega) s 8 (by omega) (by omega)
   obtain ⟨K,A,B,s3,a3,e3,h5⟩:=lm code hb (a1+1) (by omega) (!o) s2 n ring t c m x r z ht hc (fun _=>by omega)
   refine ⟨K,A,B,s3,a3,Ev.succ ?_,by omega⟩
   simp only [ab.j0]
   exact Ev.pos (by first|rfl|exact True.intro) (Ev.have e (Ev.pos cl (Ev.have e2 e3)))
  ·obtain ⟨K,A,B,s3,a3,e3,h5⟩:=lm code hb a1 (by omega) false s n ring t c m x r z ht hc (fun h=>absurd h (by simp))
   refine ⟨K,A,B,s3,a3,Ev.succ ?_,by omega⟩
   simp only [ab.j0]
   exact Ev.pos (by first|rfl|exact True.intro) (Ev.have e (Ev.neg cl e3))
 | false =>
  by_cases c5:w=5
  ·obtain ⟨o,s2,e2⟩:=gC code hb a (by omega) seed 4 (by omega) (by omega)
   cases o with
   | true =>
    obtain ⟨K,A,B,s3,a3,e3,h5⟩:=e9 code hb (a+1) (by omega) s2 x y z
    refine ⟨K,A,B,s3,a3,Ev.succ ?_,by omega⟩
    simp only [ab.j0]
    exact Ev.neg (by simp) (Ev.pos c5 (Ev.have e2 (Ev.pos rfl e3)))
   | false =>
    obtain ⟨K,A,B,s3,a3,e3,h5⟩:=e9 code hb (a+1) (by omega) s2 1 y z
    refine ⟨K,A,B,s3,a3,Ev.succ ?_,by omega⟩
    simp only [ab.j0]
    exact Ev.neg (by simp) (Ev.pos c5 (Ev.have e2 (Ev.neg (by simp) e3)))
  ·obtain ⟨K,A,B,s3,a3,e3,h5⟩:=e9 code hb a (by omega) seed x y z
   refine ⟨K,A,B,s3,a3,Ev.succ ?_,by omega⟩
   simp only [ab.j0]
   exact Ev.neg (by simp) (Ev.neg c5 e3)
theorem jS (a:Nat) (ha:a≤650) (seed n:Int) (ring:Bool) (t c:List Int) (m:Int) (ht:t.length≤1048576) (hc:c.length≤200):∃ (K A B s:Int) (a':Nat),Ev (fun k=>ab.f k code a seed n ring t c m) (K,A,B,(a':Int),s)∧a'≤a+10:=by
 obtain ⟨r,s,e⟩:=eu code hb a (by omega) seed [1,1,1,2,2,3,4,5] (by simp) (by simp)
 unfold ab.f
 by_cases c2:r=2
 ·obtain ⟨v,s2,a2,e2,h4⟩:=fD code hb (a+1) (by omega) s n ring t ht
  obtain ⟨K,A,B,s3,a3,e3,h5⟩:=e9 code hb a2 (by omega) s2 r v 0
  exact ⟨K,A,B,s3,a3,Ev.have e (Ev.pos c2 (Ev.bind e2 e3)),by omega⟩
 by_cases c3:r=3
 ·obtain ⟨K,A,B,s3,a3,e3,h5⟩:=ln code hb (a+1) (by omega) r (r == 3) s n ring t c m r 0 0 ht hc
  exact ⟨K,A,B,s3,a3,Ev.have e (Ev.neg c2 (Ev.pos c3 e3)),by omega⟩
 ·obtain ⟨K,A,B,s3,a3,e3,h5⟩:=ln code hb (a+1) (by omega) r (r == 4) s n ring t c m r 0 0 ht hc
  exact ⟨K,A,B,s3,a3,Ev.have e (Ev.neg c2 (Ev.neg c3 e3)),by omega⟩
theorem kI (a:Nat) (ha:a≤700) (b:Bool) (w:Int) (seed s:Int) (ring:Bool) (t c:List Int) (m:Int) (ht:t.length≤100) (hc:c.length≤100):∃ (s' m':Int) (c':List Int) (a':Nat) (z:Int),Ev (fun k=>ah.j1 k b w false code a seed s ring t c m) (s',ring,t,c',m',(a':Int),z)∧c'.length≤101∧a'≤a+2:=by
 obtain ⟨r,s1,e,_⟩:=e8 code hb a (by omega) seed 48 (by omega) (by omega)
 obtain ⟨v1,z1,e1⟩:=eu code hb (a+1) (by omega) s1 [-1,1000,1001] (by simp) (by simp)
 obtain ⟨v2,z2,e2⟩:=eu code hb (a+1) (by omega) s1 [0, -1,24] (by simp) (by simp)
 obtain ⟨v3,z3,e3⟩:=eu code hb (a+1) (by omega) s1 [1,24,25,4611686018427387904] (by simp) (by simp)
 by_cases c0:r=0
 ·refine ⟨s,v1,c,a+2,z1,Ev.succ ?_,by omega,by omega⟩
  simp only [ah.j1]
  exact Ev.neg (by simp) (Ev.have e (Ev.pos c0 (Ev.have e1 (Ev.now _))))
 by_cases c1:r=1
 ·refine ⟨s,m,c++[v2],a+2,z2,Ev.succ ?_,by simp;omega,by omega⟩
  simp only [ah.j1]
  exact Ev.neg (by simp) (Ev.have e (Ev.neg c0 (Ev.pos c1 (Ev.have (bR c (by omega)) (Ev.have e2 (Ev.pos (by omega) (Ev.now _)))))))
 by_cases c2:r=2
 ·by_cases cl:(c.length:Int) > 1
  ·refine ⟨s,m,c.set 0 (rd c 1),a+1,s1,Ev.succ ?_,by simp;omega,by omega⟩
   simp only [ah.j1]
   exact Ev.neg (by simp) (Ev.have e (Ev.neg c0 (Ev.neg c1 (Ev.pos c2 (Ev.pos cl (Ev.pos (by omega) (Ev.pos (by omega) (Ev.now _))))))))
  ·refine ⟨s,m,c,a+1,s1,Ev.succ ?_,by omega,by omega⟩
   simp only [ah.j1]
   exact Ev.neg (by simp) (Ev.have e (Ev.neg c0 (Ev.neg c1 (Ev.pos c2 (Ev.neg cl (Ev.now _))))))
 by_cases c3:r=3
 ·refine ⟨v3,m,c,a+2,z3,Ev.succ ?_,by omega,by omega⟩
  simp only [ah.j1]
  exact Ev.neg (by simp) (Ev.have e (Ev.neg c0 (Ev.neg c1 (Ev.neg c2 (Ev.pos c3 (Ev.have e3 (Ev.now _)))))))
 ·refine ⟨s,m,c,a+1,s1,Ev.succ ?_,by omega,by omega⟩
  simp only [ah.j1]
  exact Ev.neg (by simp) (Ev.have e (Ev.neg c0 (Ev.neg c1 (Ev.neg c2 (Ev.neg c3 (Ev.now _))))))
theorem kJ (n:Nat) (ring:Bool):∀ (d:Nat),d≤9→∀ (a:Nat),a+10 * d≤600→∀ (seed:Int) (t c:List Int) (m:Int),bC n ring t c m→∃ (s' m':Int) (t' c':List Int) (a':Nat) (z:Int),Ev (fun k=>ah.l0 k true (d:Int) code a seed n ring t c m) (s',ring,t',c',m',(a':Int),z)∧t'.length≤100∧c'.length≤101∧a'≤a+10 * d+2:=by
 intro d
 induction d with
 | zero =>
  intro _ a ha seed t c m hH
  have hl:=cr _ ring _ hH.1
  have hcl:=(bV hH).length_eq
  obtain ⟨s',m',c',a',z,e,h1,h2⟩:=kI code hb a (by omega) true 0 seed n ring t c m (by omega) (by omega)
  refine ⟨s',m',t,c',a',z,Ev.succ ?_,by omega,h1,by omega⟩
  simp only [ah.l0]
  exact Ev.neg (by omega) e
 | succ d ih =>
  intro hd a ha seed t c m hH
  have hl:=cr _ ring _ hH.1
  have hcl:=(bV hH).length_eq
  obtain ⟨K,A,B,s1,a1,e1,h1⟩:=jS code hb a (by omega) seed n ring t c m (by omega) (by omega)
  obtain ⟨s2,r2,t2,c2,m2,b,e2,h2⟩:=ms hH K A B
  have wd:wrap64 (((d+1:Nat):Int) - 1)=(d:Int):=by rw [cD (by omega) (by omega)];omega
  cases b with
  | true =>
   obtain ⟨rfl,rfl,hH2⟩:=h2 rfl
   obtain ⟨s',m',t',c',a',z,e,h3,h4,h5⟩:=ih (by omega) a1 (by omega) s1 t2 c2 m2 hH2
   refine ⟨s',m',t',c',a',z,Ev.succ ?_,h3,h4,by omega⟩
   simp only [ah.l0]
   refine Ev.pos (by omega) (Ev.succ ?_)
   simp only [ah.j1]
   rw [wd]
   exact Ev.pos (by first|rfl|exact True.intro) (Ev.bind e1 (Ev.bind e2 (Ev.pos rfl e)))
  | false =>
   obtain ⟨s',m',t',c',a',z,e,h3,h4,h5⟩:=ih (by omega) a1 (by omega) s1 t c m hH
   refine ⟨s',m',t',c',a',z,Ev.succ ?_,h3,h4,by omega⟩
   simp only [ah.l0]
   refine Ev.pos (by omega) (Ev.succ ?_)
   simp only [ah.j1]
   rw [wd]
   exact Ev.pos (by first|rfl|exact True.intro) (Ev.bind e1 (Ev.bind e2 (Ev.neg (by simp) e)))
open Classical in
theorem kv:∃ (s' m':Int) (r':Bool) (t' c':List Int) (a':Nat) (z:Int),Ev (fun k=>ah.f k code 0 0) (s',r',t',c',m',(a':Int),z)∧t'.length≤100∧c'.length≤101∧a'≤150:=by
 obtain ⟨n,s1,e1,hn⟩:=g6 code hb 0 (by omega) 0 [6,8,5,10,4,7,3,12] (by simp) (by simp)
 obtain ⟨ring,s2,e2⟩:=gC code hb (0+1) (by omega) s1 2 (by omega) (by omega)
 obtain ⟨p,s3,e3,p0,p1⟩:=e8 code hb (0+1+1) (by omega) s2 8 (by omega) (by omega)
 have hn3:3≤n∧n≤12:=by
  simp only [List.mem_cons,List.not_mem_nil,or_false] at hn
  omega
 have own:bh.f n ring [] [] 0=some (n,ring,[],[],0):=by
  unfold bh.f
  rw [bR [] (by simp),Option.bind_some,Option.bind_some]
 obtain ⟨n,rfl⟩:∃ q:Nat,n=q:=⟨n.toNat,by omega⟩
 have hH:bC n ring [] [] 0:=⟨⟨by omega,fun _=>by omega,fun i h=>by simp at h⟩,⟨rfl,by simp⟩,by omega,by omega⟩
 have g:=dr (n:Int) ring [] [] 0 (by simp) (by simp)
 rw [decide_eq_true hH] at g
 have e4:Ev (fun k=>bs.f k n ring) ((n:Int),ring,[],[],0,true):=by
  unfold bs.f
  exact Ev.have own (Ev.bind g (Ev.pos rfl (Ev.now _)))
 obtain ⟨d,hd⟩:∃ d:Nat,1+p=d:=⟨(1+p).toNat,by omega⟩
 obtain ⟨s',m',t',c',a',z,e,h3,h4,h5⟩:=kJ code hb n ring d (by omega) (0+1+1+1) (by omega) s3 [] [] 0 hH
 refine ⟨s',m',ring,t',c',a',z,?_,h3,h4,by omega⟩
 unfold ah.f
 refine Ev.have e1 (Ev.have e2 (Ev.bind e4 (Ev.have e3 ?_)))
 dsimp only
 rw [cD (x:=1+p) (by omega) (by omega),hd]
 exact e
end
theorem kw (l:List Int) (hl:l.length≤1048576):Ev (fun k=>bt.f k l l) true:=by
 have main:∀ d i:Nat,i+d=l.length→Ev (fun k=>bt.l0 k l l (i:Int)) true:=by
  intro d
  induction d with
  | zero =>
   intro i hi
   refine Ev.succ ?_
   simp only [bt.l0]
   exact Ev.neg (by omega) (Ev.now _)
  | succ d ih =>
   intro i hi
   have go:=ih (i+1) (by omega)
   refine Ev.succ ?_
   simp only [bt.l0]
   rw [bQ (n:=l.length) (by omega) (by omega)]
   exact Ev.pos (by omega) (Ev.pos (by omega) (Ev.pos (by omega) (Ev.pos (by first|rfl|exact True.intro) go)))
 unfold bt.f
 exact Ev.pos (by first|rfl|exact True.intro) (main l.length 0 (by omega))
theorem mK (l:List Int) (hl:l.length≤1048576) (x:Int):Ev (fun k=>bS.f k l x) (decide (x ∈ l)):=by
 have main:∀ d i:Nat,i+d=l.length→(∀ j,(h:j<l.length)→j<i→l[j]≠x)→Ev (fun k=>bS.l0 k l x (i:Int)) (decide (x ∈ l)):=by
  intro d
  induction d with
  | zero =>
   intro i hi hn
   refine Ev.succ ?_
   simp only [bS.l0]
   refine Ev.neg (by omega) (Ev.same (Ev.now _) (decide_eq_false fun hm=>?_).symm)
   obtain ⟨j,hj,e⟩:=List.getElem_of_mem hm
   exact hn j hj (by omega) e
  | succ d ih =>
   intro i hi hn
   refine Ev.succ ?_
   simp only [bS.l0]
   rw [bQ (n:=l.length) (by omega) (by omega),da l i (by omega)]
   refine Ev.pos (by omega) (Ev.pos (by omega) ?_)
   by_cases g:l[i]'(by omega)=x
   ·exact Ev.pos g (Ev.same (Ev.now _) (decide_eq_true (g ▸ List.getElem_mem _)).symm)
   ·refine Ev.neg g (ih (i+1) (by omega) fun j hj hji=>?_)
    rcases Nat.lt_or_ge j i with h|h
    ·exact hn j hj h
    ·obtain rfl:j=i:=by omega
     exact g
 unfold bS.f
 exact main l.length 0 (by omega) fun j _ h=>by omega
section
variable {n:Nat} {ring:Bool} {t c:List Int} {m:Int} (hH:bC n ring t c m)
include hH
theorem eB {A:Int} {p:Nat} (hp:p<c.length) (hx:c[p]=A):c.idxOf A=p:=by
 have hP:=bV hH
 have hcN:c.Nodup:=hP.nodup_iff.2 (b8 t _ _ hH.1.2.2)
 have h1:c.idxOf A<c.length:=List.idxOf_lt_length_of_mem (hx ▸ List.getElem_mem hp)
 have h2:=List.getElem_idxOf h1
 have hh:=List.pairwise_iff_getElem.1 hcN
 rcases Nat.lt_trichotomy (c.idxOf A) p with g|g|g
 ·exact absurd (h2.trans hx.symm) (hh _ _ h1 hp g)
 ·exact g
 ·exact absurd (hx.trans h2.symm) (hh _ _ hp h1 g)
theorem fl (hs:t.length+c.length≤1048576) (kind A B:Int):∃ (x:List Int) (b:Bool),Ev (fun k=>ac.f k n ring t c m kind A B) (x,b) ∧
  (b=true→(kind=1∧t.length<n∧x=c++[rd (ee n ring t) 0]∧A=0∧B=0) ∨ (kind=2∧x=c++[A]∧(0≤A∧A<n)∧A ∉ t∧B=0) ∨ (kind=3∧A ∈ c∧x=c.eraseIdx (c.idxOf A)∧B=0) ∨ (kind=4∧A ∈ c∧x=c.set (c.idxOf A) B∧(0≤B∧B<n)∧B ∉ t) ∨ (kind=5∧x=[]∧A=0∧B=0)) ∧
  (kind=3→A ∈ c→B=0→b=true)∧(kind=4→A ∈ c→(0≤B∧B<n)∧B ∉ t→b=true):=by
 have hP:=bV hH
 have hR:=hH.1
 have hn:=hH.1.1
 have hl:=cr _ ring _ hH.1
 have hcl:=hP.length_eq
 have cl:=gv c (by omega)
 have idx:∃ q,Ev (fun k=>ak.f k c A) q:=by
  rcases eK c (by omega) A with ⟨_,h,_⟩|⟨q,_,_,h,_⟩
  ·exact ⟨_,h⟩
  ·exact ⟨_,h⟩
 obtain ⟨q0,hq0⟩:=idx
 by_cases k1:kind=1
 ·subst k1
  by_cases g:t.length<n
  ·refine ⟨c++[rd (ee n ring t) 0],decide (A=0∧B=0),?_,fun e=>.inl ⟨rfl,g,rfl,of_decide_eq_true e⟩,fun e=>absurd e (by decide),fun e=>absurd e (by decide)⟩
   unfold ac.f
   refine Ev.have cl (Ev.bind hq0 (Ev.pos rfl (Ev.bind (dK hR) ?_)))
   rw [if_pos g]
   refine Ev.pos (by omega) (Ev.have rfl (Ev.pos rfl ?_))
   by_cases a0:A=0
   ·exact Ev.pos a0 (Ev.same (Ev.now _) (by by_cases b0:B=0 <;> simp [a0,b0]))
   ·exact Ev.neg a0 (Ev.same (Ev.now _) (by simp [a0]))
  ·refine ⟨c++[0],false,?_,(fun e=>by cases e),fun e=>absurd e (by decide),fun e=>absurd e (by decide)⟩
   unfold ac.f
   refine Ev.have cl (Ev.bind hq0 (Ev.pos rfl (Ev.bind (dK hR) ?_)))
   rw [if_neg g]
   exact Ev.pos (by omega) (Ev.have rfl (Ev.neg Bool.false_ne_true (Ev.now _)))
 by_cases k2:kind=2
 ·subst k2
  obtain ⟨b,f1,f2,f3⟩:=fN hH A
  refine ⟨c++[A],b && decide (B=0),?_,fun e=>?_,fun e=>absurd e (by decide),fun e=>absurd e (by decide)⟩
  ·unfold ac.f
   refine Ev.have cl (Ev.bind hq0 (Ev.neg (by omega) (Ev.pos rfl (Ev.pos (by omega) (Ev.have rfl (Ev.bind f1 ?_))))))
   by_cases hb:b=true
   ·exact Ev.pos hb (Ev.same (Ev.now _) (by rw [hb,Bool.true_and];by_cases b0:B=0 <;> simp [b0]))
   ·exact Ev.neg hb (Ev.same (Ev.now _) (by rw [Bool.eq_false_iff.2 hb];rfl))
  ·obtain ⟨e1,e2⟩:=Bool.and_eq_true_iff.1 e
   obtain ⟨h1,h2⟩:=f3.1 e1
   exact .inr (.inl ⟨rfl,rfl,h1,h2,of_decide_eq_true e2⟩)
 by_cases k3:kind=3
 ·subst k3
  rcases eK c (by omega) A with ⟨hx,h1,_⟩|⟨p,hp,hx,h1,_,h3⟩
  ·refine ⟨[],false,?_,(fun e=>by cases e),fun _ e=>absurd e hx,fun e=>absurd e (by decide)⟩
   unfold ac.f
   exact Ev.have cl (Ev.bind h1 (Ev.neg (by omega) (Ev.neg (by omega) (Ev.pos rfl (Ev.pos (by omega) (Ev.now _))))))
  ·have wp:wrap64 ((p:Int)+1)=((p+1:Nat):Int):=bQ (n:=c.length) hp (by omega)
   have del:bj.f c p (wrap64 ((p:Int)+1))=some (c.eraseIdx p):=by
    rw [wp]
    unfold bj.f
    rw [if_pos ⟨by omega,by omega,by omega⟩,List.eraseIdx_eq_take_drop_succ,Int.toNat_natCast,Int.toNat_natCast]
   refine ⟨c.eraseIdx p,B == 0,?_,fun e=>.inr (.inr (.inl ⟨rfl,hx ▸ List.getElem_mem hp,by rw [eB hH hp hx],by simpa using e⟩)),fun _ _ e=>by simpa using e,fun e=>absurd e (by decide)⟩
   unfold ac.f
   exact Ev.have cl (Ev.bind h1 (Ev.neg (by omega) (Ev.neg (by omega) (Ev.pos rfl (Ev.neg (by omega) (Ev.have del (Ev.now _)))))))
 by_cases k4:kind=4
 ·subst k4
  rcases eK c (by omega) A with ⟨hx,h1,_⟩|⟨p,hp,hx,h1,_,h3⟩
  ·refine ⟨[],false,?_,(fun e=>by cases e),fun e=>absurd e (by decide),fun _ e=>absurd e hx⟩
   unfold ac.f
   exact Ev.have cl (Ev.bind h1 (Ev.neg (by omega) (Ev.neg (by omega) (Ev.neg (by omega) (Ev.pos rfl (Ev.pos (by omega) (Ev.now _)))))))
  ·obtain ⟨b,f1,f2,f3⟩:=fN hH B
   by_cases hb:b=true
   ·obtain ⟨g1,g2⟩:=f3.1 hb
    refine ⟨c.set p B,true,?_,fun _=>.inr (.inr (.inr (.inl ⟨rfl,hx ▸ List.getElem_mem hp,by rw [eB hH hp hx],g1,g2⟩))),fun e=>absurd e (by decide),fun _ _ _=>rfl⟩
    unfold ac.f
    exact Ev.have cl (Ev.bind h1 (Ev.neg (by omega) (Ev.neg (by omega) (Ev.neg (by omega) (Ev.pos rfl (Ev.neg (by omega) (Ev.bind f1 (Ev.pos hb (Ev.pos (by omega) (Ev.pos (by omega) (Ev.now _)))))))))))
   ·refine ⟨[],false,?_,(fun e=>by cases e),fun e=>absurd e (by decide),fun _ _ e=>absurd (f3.2 e) hb⟩
    unfold ac.f
    exact Ev.have cl (Ev.bind h1 (Ev.neg (by omega) (Ev.neg (by omega) (Ev.neg (by omega) (Ev.pos rfl (Ev.neg (by omega) (Ev.bind f1 (Ev.neg hb (Ev.now _)))))))))
 by_cases k5:kind=5
 ·subst k5
  refine ⟨[],decide (A=0∧B=0),?_,fun e=>.inr (.inr (.inr (.inr ⟨rfl,rfl,of_decide_eq_true e⟩))),fun e=>absurd e (by decide),fun e=>absurd e (by decide)⟩
  unfold ac.f
  refine Ev.have cl (Ev.bind hq0 (Ev.neg (by omega) (Ev.neg (by omega) (Ev.neg (by omega) (Ev.neg (by omega) (Ev.pos rfl (Ev.have rfl ?_)))))))
  by_cases a0:A=0
  ·exact Ev.pos a0 (Ev.same (Ev.now _) (by by_cases b0:B=0 <;> simp [a0,b0]))
  ·exact Ev.neg a0 (Ev.same (Ev.now _) (by simp [a0]))
 ·refine ⟨[],false,?_,(fun e=>by cases e),fun e=>absurd e k3,fun e=>absurd e k4⟩
  unfold ac.f
  exact Ev.have cl (Ev.bind hq0 (Ev.neg k1 (Ev.neg k2 (Ev.neg k3 (Ev.neg k4 (Ev.neg k5 (Ev.now _)))))))
open Classical in
theorem mt (kind A B:Int) {x:List Int} (hx:Ev (fun k=>ac.f k n ring t c m kind A B) (x,true)) (hm:m≠1000):∃ t',Ev (fun k=>ap.f k n ring t c m kind A B) ((n:Int),ring,t',x,m+1,true)∧bC n ring t' x (m+1):=by
 have hl:=cr _ ring _ hH.1
 have hcl:=(bV hH).length_eq
 have hmm:=hH.2.2
 have g2:=de n ring t c m (by omega) (by omega)
 rw [decide_eq_true hH] at g2
 rcases g4 hH (by omega) kind A B with ⟨e1,y,e2⟩|⟨t',c',e1,e2,e3,hR',hl',hm'⟩
 ·have:=Ev.uniq e2 hx
  injection this with _ h2
  cases h2
 ·have:=Ev.uniq e3 hx
  injection this with h1 _
  subst h1
  have hl2:=cr _ ring _ hR'
  have wm:wrap64 (m+1)=m+1:=cD (by omega) (by omega)
  refine ⟨t',?_,gP hR' hl' hm' (by omega) (by omega)⟩
  unfold ap.f
  refine Ev.bind g2 (Ev.pos rfl (Ev.bind e3 (Ev.pos rfl ?_)))
  rw [show (m == 1000)=false by simpa using hm]
  refine Ev.succ ?_
  simp only [ap.j0]
  have hin:=dT hR'
  have e5:Ev (fun k=>bn.f k c') ((du c':Nat):Int):=Ev.bound c'.length fun k hk=>ei c' (by omega) (fun x hx=>by have:=hin x ((hm' x).1 hx);have:=hR'.1.2;omega) k hk
  rw [iW c' t' hm'] at e5
  have e6:Ev (fun k=>aV.f k n ring ((du t':Nat):Int)) ((n:Int),ring,t'):=by
   unfold aV.f
   exact Ev.bind (er t' (cE hR') (fun x hx=>by have:=hin x hx;have:=hR'.1.2;omega) (by omega)) (Ev.now _)
  refine Ev.neg (by simp) (Ev.have rfl (Ev.bind e5 (Ev.bind e6 ?_)))
  dsimp only
  rw [wm]
  exact Ev.now _
end
open Classical in
theorem oI (s:Int) (ring:Bool) (t c:List Int) (m kind A B:Int) (hs:t.length+c.length≤1048576) {s':Int} {r':Bool} {t' c':List Int} {m':Int} (h:Ev (fun k=>ap.f k s ring t c m kind A B) (s',r',t',c',m',true)):∃ n:Nat,s=n∧bC n ring t c m∧Ev (fun k=>ac.f k n ring t c m kind A B) (c',true)∧m≠1000∧s'=n∧r'=ring∧m'=m+1∧bC n ring t' c' (m+1):=by
 have g2:=de s ring t c m (by omega) (by omega)
 by_cases hH:bC s ring t c m
 ·rw [decide_eq_true hH] at g2
  obtain ⟨n,rfl⟩:∃ n:Nat,s=n:=⟨s.toNat,by have:=hH.1.1;omega⟩
  have no:∀ x:List Int,Ev (fun k=>ap.j0 k x true n ring t c m) (0,false,[],[],0,false):=fun x=>by
   refine Ev.succ ?_
   simp only [ap.j0]
   exact Ev.pos (by first|rfl|exact True.intro) (Ev.now _)
  obtain ⟨x,b,e,_⟩:=fl hH hs kind A B
  have bad:Ev (fun k=>ap.f k n ring t c m kind A B) (0,false,[],[],0,false)→False:=fun e=>by
   have:=Ev.uniq h e
   simp only [Prod.mk.injEq] at this
   cases this.2.2.2.2.2
  cases b with
  | false =>
   refine absurd ?_ bad
   unfold ap.f
   exact Ev.bind g2 (Ev.pos rfl (Ev.bind e (Ev.neg (by simp) (no x))))
  | true =>
   by_cases hm:m=1000
   ·refine absurd ?_ bad
    unfold ap.f
    refine Ev.bind g2 (Ev.pos rfl (Ev.bind e (Ev.pos rfl ?_)))
    rw [show (m == 1000)=true by simpa using hm]
    exact no x
   ·obtain ⟨t2,e2,h2⟩:=mt hH kind A B e hm
    have:=Ev.uniq h e2
    simp only [Prod.mk.injEq] at this
    obtain ⟨rfl,rfl,rfl,rfl,rfl,_⟩:=this
    exact ⟨n,rfl,hH,e,hm,rfl,rfl,rfl,h2⟩
 ·rw [decide_eq_false hH] at g2
  have e:Ev (fun k=>ap.f k s ring t c m kind A B) (0,false,[],[],0,false):=by
   unfold ap.f
   exact Ev.bind g2 (Ev.neg (by simp) (Ev.now _))
  have:=Ev.uniq h e
  simp only [Prod.mk.injEq] at this
  cases this.2.2.2.2.2
theorem lI {n:Nat} {ring:Bool} {a b:List Int} (ha:dq n ring a) (hb:dq n ring b) (h:∀ x,x ∈ a ↔ x ∈ b):a=b:=by
 refine fa a b ((cE ha).imp fun e=>Int.le_of_lt e) ((cE hb).imp fun e=>Int.le_of_lt e) ?_
 exact (List.perm_ext_iff_of_nodup (b8 a _ _ ha.2.2) (b8 b _ _ hb.2.2)).2 h
theorem g8 {s:Int} {ring:Bool} {t c:List Int} {m:Int} (h:bC s ring t c m) (x:Int):x ∈ c ↔ x ∈ t:=(bV h).mem_iff
theorem mL (s:Int) (ring:Bool) (t:List Int) (ht:t.length≤1048576):Ev (fun k=>cZ.f k s ring t s ring t) true:=by
 unfold cZ.f
 exact Ev.pos rfl (Ev.pos (by simp) (Ev.bind (kw t ht) (Ev.now _)))
theorem eC (s:Int) (ring:Bool) (t c:List Int) (m:Int) (ht:t.length≤1048576) (hc:c.length≤1048576):Ev (fun k=>bP.f k s ring t c m s ring t c m) true:=by
 unfold bP.f
 refine Ev.bind (mL s ring t ht) (Ev.pos rfl (Ev.bind (kw c hc) ?_))
 exact Ev.pos rfl (Ev.same (Ev.now _) (by simp))
theorem jT {n:Nat} {ring:Bool} {t c:List Int} {m:Int} (hH:bC n ring t c m) {t' c':List Int} (hH':bC n ring t' c' (m+1)) (kind A B:Int) (h1:m+1≠1000) (hb:Ev (fun k=>ac.f k n ring t' c' (m+1) kind A B) (c,true)):Ev (fun k=>ap.f k n ring t' c' (m+1) kind A B) ((n:Int),ring,t,c,m+1+1,true):=by
 obtain ⟨t2,e,h2⟩:=mt hH' kind A B hb h1
 have:t2=t:=lI h2.1 hH.1 fun x=>by rw [← g8 h2,g8 hH]
 rw [this] at e
 exact e
theorem lp (l:List Int) (hb:∀ x ∈ l,0≤x∧x≤255) (h:l.length≤65536) (m:Int) (hm:0≤m):∃ r,dI.f l m=some r∧∀ x ∈ r,0≤x∧x≤255:=by
 have hd:∀ j,∀ x ∈ l.drop j,0≤x∧x≤255:=fun j x hx=>hb x (List.mem_of_mem_drop hx)
 have hl:∀ j,(l.drop j).length≤65536:=fun j=>by rw [List.length_drop];omega
 unfold dI.f
 by_cases g:m > (l.length:Int)
 ·have:=hl ((l.length:Int)).toNat
  rw [if_pos g,Option.bind_some,if_pos (by omega),if_pos (by omega),if_pos (by simp),Option.bind_some,if_pos (by simp)]
  refine ⟨_,rfl,fun x hx=>?_⟩
  rcases List.mem_append.1 hx with q|q
  ·exact hd _ x (by rw [List.nil_append] at q;exact q)
  ·rw [List.mem_singleton.1 q]
   omega
 ·have:=hl m.toNat
  rw [if_neg g,Option.bind_some,if_pos (by omega),if_pos (by omega),if_pos (by rw [List.length_nil];omega),Option.bind_some,if_pos (by rw [List.nil_append];omega)]
  refine ⟨_,rfl,fun x hx=>?_⟩
  rcases List.mem_append.1 hx with q|q
  ·exact hd _ x (by rw [List.nil_append] at q;exact q)
  ·rw [List.mem_singleton.1 q]
   omega
theorem ir {α:Type} {g:Nat→Option α} {r:α} (hm:∀ k,LeO (g k) (g (k+1))) (K:Nat) (h:g K=some r):Ev g r:=by
 have:∀ d,g (K+d)=some r:=by
  intro d
  induction d with
  | zero=>exact h
  | succ d ih=>exact hm (K+d) r ih
 exact ⟨K,fun k hk=>by rw [show k=K+(k - K) from by omega];exact this _⟩
theorem mu (code:List Int) (hb:∀ x ∈ code,0≤x∧x≤255) (a:Nat) (ha:a≤800) (seed:Int):∃ (r s:Int),cK.f code a seed=some (r,((a+2:Nat):Int),s) ∧ -1≤r∧r≤4611686018427387904:=by
 obtain ⟨b,s,e⟩:=gC code hb a (by omega) seed 40 (by omega) (by omega)
 unfold cK.f
 rw [e,Option.bind_some]
 dsimp only
 cases b with
 | true =>
  obtain ⟨r,s2,e2,hm⟩:=g6 code hb (a+1) (by omega) s [1,2,24,25,0, -1,4611686018427387904] (by simp) (by simp)
  rw [if_pos rfl,e2]
  refine ⟨_,_,rfl,?_⟩
  simp only [List.mem_cons,List.not_mem_nil,or_false] at hm
  omega
 | false =>
  obtain ⟨r,s2,e2,hm⟩:=g6 code hb (a+1) (by omega) s [6,8,5,10,7,3,12,4,20,24] (by simp) (by simp)
  rw [if_neg (by simp),e2]
  refine ⟨_,_,rfl,?_⟩
  simp only [List.mem_cons,List.not_mem_nil,or_false] at hm
  omega
open Classical in
open Classical in
open Classical in
open Classical in
theorem mM (s:Int) (ring:Bool) (t c:List Int) (m kind A B:Int) (hs:t.length+c.length≤1048576):∃ (s':Int) (r':Bool) (t' c':List Int) (m':Int) (b:Bool),t'.length≤1048576∧c'.length≤1048576 ∧
  Ev (fun k=>cB.f k s ring t c m kind A B) (s',r',t',c',m',b)∧Ev (fun k=>ap.f k s ring t c m kind A B) (s',r',t',c',m',b):=by
 have g1:=dr s ring t c m (by omega) (by omega)
 have g2:=de s ring t c m (by omega) (by omega)
 by_cases h:bC s ring t c m
 case neg =>
  rw [decide_eq_false h] at g1 g2
  refine ⟨0,false,[],[],0,false,by simp,by simp,?_,?_⟩
  ·unfold cB.f
   exact Ev.bind g1 (Ev.neg (by simp) (Ev.now _))
  ·unfold ap.f
   exact Ev.bind g2 (Ev.neg (by simp) (Ev.now _))
 rw [decide_eq_true h] at g1 g2
 obtain ⟨n,rfl⟩:∃ n:Nat,s=n:=⟨s.toNat,by have:=h.1.1;omega⟩
 have hm:=h.2.2
 have no:∀ x:List Int,Ev (fun k=>ap.j0 k x true n ring t c m) (0,false,[],[],0,false):=fun x=>by
  refine Ev.succ ?_
  simp only [ap.j0]
  exact Ev.pos (by first|rfl|exact True.intro) (Ev.now _)
 rcases g4 h hs kind A B with ⟨e1,x,e2⟩|⟨t',c',e1,e2,e3,hR',hl',hm'⟩
 ·refine ⟨0,false,[],[],0,false,by simp,by simp,?_,?_⟩
  ·unfold cB.f aK.f
   exact Ev.bind g1 (Ev.pos rfl (Ev.bind (Ev.bind e1 (Ev.neg (by simp) (Ev.now _))) (Ev.now _)))
  ·unfold ap.f
   exact Ev.bind g2 (Ev.pos rfl (Ev.bind e2 (Ev.neg (by simp) (no x))))
 ·have hl2:=cr _ ring _ hR'
  have own:bh.f n ring t' c' m=some ((n:Int),ring,t',c',m):=by
   unfold bh.f
   rw [bR t' (by omega),Option.bind_some,bR c' (by omega),Option.bind_some]
  have g3:=dr n ring t' c' (m+1) (by omega) (by omega)
  have wm:wrap64 (m+1)=m+1:=cD (by omega) (by omega)
  by_cases last:m=1000
  ·have:¬ bC n ring t' c' (m+1):=fun hh=>by have:=hh.2.2.2;omega
   rw [decide_eq_false this] at g3
   refine ⟨0,false,[],[],0,false,by simp,by simp,?_,?_⟩
   ·unfold cB.f aK.f
    refine Ev.bind g1 (Ev.pos rfl (Ev.bind (a:=((0:Int),false,([]:List Int),([]:List Int),(0:Int),false)) (Ev.bind e1 (Ev.pos rfl (Ev.bind e2 (Ev.have own ?_)))) (Ev.now _)))
    dsimp only
    rw [wm]
    exact Ev.bind g3 (Ev.neg (by simp) (Ev.now _))
   ·unfold ap.f
    refine Ev.bind g2 (Ev.pos rfl (Ev.bind e3 (Ev.pos rfl ?_)))
    rw [show (m == 1000)=true by simpa using last]
    exact no c'
  ·have:bC n ring t' c' (m+1):=gP hR' hl' hm' (by omega) (by omega)
   rw [decide_eq_true this] at g3
   refine ⟨n,ring,t',c',m+1,true,by omega,by omega,?_,?_⟩
   ·unfold cB.f aK.f
    refine Ev.bind g1 (Ev.pos rfl (Ev.bind (a:=((n:Int),ring,t',c',m+1,true)) (Ev.bind e1 (Ev.pos rfl (Ev.bind e2 (Ev.have own ?_)))) (Ev.now _)))
    dsimp only
    rw [wm]
    exact Ev.bind g3 (Ev.pos rfl (Ev.now _))
   ·unfold ap.f
    refine Ev.bind g2 (Ev.pos rfl (Ev.bind e3 (Ev.pos rfl ?_)))
    rw [show (m == 1000)=false by simpa using last]
    refine Ev.succ ?_
    simp only [ap.j0]
    have hin:=dT hR'
    have e5:Ev (fun k=>bn.f k c') ((du c':Nat):Int):=Ev.bound c'.length fun k hk=>ei c' (by omega) (fun x hx=>by have:=hin x ((hm' x).1 hx);have:=hR'.1.2;omega) k hk
    rw [iW c' t' hm'] at e5
    have e6:Ev (fun k=>aV.f k n ring ((du t':Nat):Int)) ((n:Int),ring,t'):=by
     unfold aV.f
     exact Ev.bind (er t' (cE hR') (fun x hx=>by have:=hin x hx;have:=hR'.1.2;omega) (by omega)) (Ev.now _)
    refine Ev.neg (by simp) (Ev.have rfl (Ev.bind e5 (Ev.bind e6 ?_)))
    dsimp only
    rw [wm]
    exact Ev.now _
theorem lJ (ws:List S50) (hw:ws.length≤1048576) (n:Nat) (ring:Bool):∀ d i:Nat,i+d=ws.length→∀ (t c:List Int) (m:Int),bC n ring t c m→∃ (t' c':List Int) (m' q:Int),bC n ring t' c' m'∧Ev (fun k=>aH.l0 k ws (i:Int) n ring t c m) (n,ring,t',c',m',q,true)∧Ev (fun k=>bl.l0 k ws ws (ws.length:Int) (i:Int) n ring t c m) (n,ring,t',c',m',q,true):=by
 intro d
 induction d with
 | zero =>
  intro i hi t c m hH
  refine ⟨t,c,m,(ws.length:Int),hH,Ev.succ ?_,Ev.succ ?_⟩
  ·simp only [aH.l0]
   exact Ev.neg (by omega) (Ev.now _)
  ·simp only [bl.l0]
   exact Ev.neg (by omega) (Ev.now _)
 | succ d ih =>
  intro i hi t c m hH
  have w1:wrap64 ((i:Int)+1)=((i+1:Nat):Int):=bQ (n:=ws.length) (by omega) (by omega)
  obtain ⟨s',r',t',c',m',b,e1,e2,h⟩:=lh hH (bf ws i).f0 (bf ws i).f1 (bf ws i).f2
  by_cases hb:b=true
  ·obtain ⟨rfl,rfl,hH'⟩:=h hb
   obtain ⟨t2,c2,m2,q,h1,g1,g2⟩:=ih (i+1) (by omega) t' c' m' hH'
   refine ⟨t2,c2,m2,q,h1,Ev.succ ?_,Ev.succ ?_⟩
   ·simp only [aH.l0]
    rw [w1]
    exact Ev.pos (by omega) (Ev.pos (by omega) (Ev.bind e1 (Ev.pos hb g1)))
   ·simp only [bl.l0]
    rw [w1]
    exact Ev.pos (by omega) (Ev.pos (by omega) (Ev.pos (by omega) (Ev.bind e2 (Ev.pos hb g2))))
  ·refine ⟨t,c,m,(i:Int),hH,Ev.succ ?_,Ev.succ ?_⟩
   ·simp only [aH.l0]
    exact Ev.pos (by omega) (Ev.pos (by omega) (Ev.bind e1 (Ev.neg hb (Ev.now _))))
   ·simp only [bl.l0]
    exact Ev.pos (by omega) (Ev.pos (by omega) (Ev.pos (by omega) (Ev.bind e2 (Ev.neg hb (Ev.now _)))))
open Classical in
theorem lK (s:Int) (ring:Bool) (t c:List Int) (m:Int) (ws:List S50) (hs:t.length+c.length≤1048576) (hw:ws.length≤1048576):∃ (s':Int) (r':Bool) (t' c':List Int) (m' q:Int) (b:Bool),t'.length≤1048576∧c'.length≤1048576 ∧
  Ev (fun k=>aH.f k s ring t c m ws) (s',r',t',c',m',q,b)∧Ev (fun k=>bl.f k s ring t c m ws) (s',r',t',c',m',q,b)∧(b=true→bC s' r' t' c' m'):=by
 have g1:=dr s ring t c m (by omega) (by omega)
 have g2:=de s ring t c m (by omega) (by omega)
 by_cases h:bC s ring t c m
 ·rw [decide_eq_true h] at g1 g2
  obtain ⟨n,rfl⟩:∃ n:Nat,s=n:=⟨s.toNat,by have:=h.1.1;omega⟩
  obtain ⟨t',c',m',q,h1,e1,e2⟩:=lJ ws hw n ring ws.length 0 (by omega) t c m h
  have hl1:=cr _ ring _ h1.1
  have hc1:=(bV h1).length_eq
  have own:bh.f n ring t c m=some ((n:Int),ring,t,c,m):=by
   unfold bh.f
   rw [bR t (by omega),Option.bind_some,bR c (by omega),Option.bind_some]
  have own2:bM.f n ring t c m=some ((n:Int),ring,t,c,m):=by
   have hl:=cr _ ring _ h.1
   unfold bM.f
   rw [Option.bind_some,if_pos (by simp;omega),Option.bind_some,if_pos (by simp;omega)]
   rfl
  refine ⟨n,ring,t',c',m',q,true,by omega,by omega,?_,?_,fun _=>h1⟩
  ·unfold aH.f
   exact Ev.bind g1 (Ev.pos rfl (Ev.have own e1))
  ·unfold bl.f
   exact Ev.bind g2 (Ev.pos rfl (Ev.have own2 e2))
 ·rw [decide_eq_false h] at g1 g2
  refine ⟨0,false,[],[],0,0,false,by simp,by simp,?_,?_,(fun e=>by cases e)⟩
  ·unfold aH.f
   exact Ev.bind g1 (Ev.neg (by simp) (Ev.now _))
  ·unfold bl.f
   exact Ev.bind g2 (Ev.neg (by simp) (Ev.now _))
theorem mN:∀ b:Bool,∀ m,m<23→(match bs.f 100 ((m+2:Nat):Int) b,b4.f 100 ((m+2:Nat):Int) b with|some x,some y=>decide (x=y) && (decide (x.2.2.1.length≤1000) && decide (x.2.2.2.1.length≤1000))|_,_=>false)=true:=by decide +kernel
theorem mv (a:Int) (b:Bool):∃ (s':Int) (r':Bool) (t c:List Int) (m:Int) (b':Bool),t.length≤1048576∧c.length≤1048576∧Ev (fun k=>bs.f k a b) (s',r',t,c,m,b')∧Ev (fun k=>b4.f k a b) (s',r',t,c,m,b'):=by
 by_cases h:2≤a∧a≤24
 ·obtain ⟨m,rfl⟩:∃ m:Nat,a=((m+2:Nat):Int):=⟨a.toNat - 2,by omega⟩
  have hd:=mN b m (by omega)
  split at hd
  ·rename_i x y e1 e2
   simp only [Bool.and_eq_true,decide_eq_true_eq] at hd
   obtain ⟨rfl,h1,h2⟩:=hd
   exact ⟨_,_,_,_,_,_,Nat.le_trans h1 (by omega),Nat.le_trans h2 (by omega),ir (fun k=>bs.mono _ _ k) 100 e1,ir (fun k=>b4.mono _ _ k) 100 e2⟩
  ·cases hd
 ·have e1:∀ k,bs.f (k+1) a b=some (0,false,[],[],0,false):=by
   intro k
   have o:bh.f a b [] [] 0=some (a,b,[],[],0):=rfl
   have g:bA.f a 2 24=some false:=by
    unfold bA.f
    split
    ·rw [show decide (a≤24)=false from decide_eq_false (by omega)]
    ·rfl
   unfold bs.f
   rw [o,Option.bind_some]
   dsimp only
   unfold ao.f bF.f
   rw [g]
   rfl
  have e2:∀ k,b4.f k a b=some (0,false,[],[],0,false):=by
   intro k
   have g:cm.f a 2 24=some false:=by
    unfold cm.f
    split
    ·rw [show decide (a≤24)=false from decide_eq_false (by omega)]
    ·rfl
   unfold b4.f b9.f
   rw [g]
   rfl
  exact ⟨0,false,[],[],0,false,by simp,by simp,ir (fun k=>bs.mono _ _ k) 1 (e1 0),ir (fun k=>b4.mono _ _ k) 1 (e2 1)⟩
section
variable (code:List Int) (hb:∀ x ∈ code,0≤x∧x≤255)
include hb
theorem mw:∃ (s:Int) (ring:Bool),cP.f code=some (s,ring):=by
 obtain ⟨r,s,e,_⟩:=mu code hb 0 (by omega) 0
 obtain ⟨b,s2,e2⟩:=gC code hb 2 (by omega) s 2 (by omega) (by omega)
 refine ⟨r,b,?_⟩
 unfold cP.f
 have e':cK.f code 0 0=some (r,((0+2:Nat):Int),s):=e
 rw [e',Option.bind_some]
 dsimp only
 rw [show ((0+2:Nat):Int)=((2:Nat):Int) from rfl,e2]
 rfl
theorem lL:∃ (s m K A B:Int) (r:Bool) (t c:List Int),Ev (fun k=>cy.f k code) (s,r,t,c,m,K,A,B)∧t.length≤100∧c.length≤101:=by
 obtain ⟨s,m,r,t,c,a,z,e,h1,h2,h3⟩:=kv code hb
 obtain ⟨K,A,B,z2,a2,e2,h4⟩:=jS code hb a (by omega) z s r t c m (by omega) (by omega)
 refine ⟨s,m,K,A,B,r,t,c,?_,h1,h2⟩
 unfold cy.f cp.f
 exact Ev.bind (Ev.bind e (Ev.bind e2 (Ev.now _))) (Ev.now _)
open Classical in
theorem lM (s0 m0:Int) (r0:Bool) (t0 c0:List Int):∀ (d:Nat) (ws:List S50) (a:Nat) (seed s m:Int) (r:Bool) (t c:List Int),d≤6→a+12 * d≤600→ws.length+d≤10→t.length≤1048576→c.length≤1048576→∃ (ws':List S50) (a' z:Int),ws'.length≤10∧Ev (fun k=>al.l0 k ws (d:Int) code a seed s0 r0 t0 c0 m0 s r t c m) (s0,r0,t0,c0,m0,ws',a',z):=by
 intro d
 induction d with
 | zero =>
  intro ws a seed s m r t c _ _ hw _ _
  refine ⟨ws,a,seed,by omega,Ev.succ ?_⟩
  simp only [al.l0]
  refine Ev.neg (by omega) (Ev.succ ?_)
  simp only [al.j1]
  exact Ev.neg (by simp) (Ev.now _)
 | succ d ih =>
  intro ws a seed s m r t c hd ha hw ht hc
  have g:=dr s r t c m ht hc
  by_cases h:bC s r t c m
  ·rw [decide_eq_true h] at g
   obtain ⟨n,rfl⟩:∃ n:Nat,s=n:=⟨s.toNat,by have:=h.1.1;omega⟩
   have hl:=cr _ r _ h.1
   have hcl:=(bV h).length_eq
   obtain ⟨K,A,B,z,a2,e2,h4⟩:=jS code hb a (by omega) seed n r t c m ht (by omega)
   obtain ⟨s',r',t',c',m',b,e3,_,h3⟩:=lh h K A B
   have wd:wrap64 (((d+1:Nat):Int) - 1)=(d:Int):=by rw [cD (by omega) (by omega)];omega
   by_cases hbb:b=true
   ·obtain ⟨rfl,rfl,hH'⟩:=h3 hbb
    have hl2:=cr _ r' _ hH'.1
    have hcl2:=(bV hH').length_eq
    obtain ⟨ws',a',z',h5,e5⟩:=ih (ws++[(⟨K,A,B⟩:S50)]) a2 z n m' r' t' c' (by omega) (by omega) (by simp;omega) (by omega) (by omega)
    refine ⟨ws',a',z',h5,Ev.succ ?_⟩
    simp only [al.l0]
    refine Ev.pos (by omega) (Ev.bind g (Ev.succ ?_))
    simp only [al.j1]
    refine Ev.pos True.intro (Ev.bind e2 (Ev.pos (by omega) (Ev.have rfl (Ev.bind e3 (Ev.pos hbb ?_)))))
    rw [wd]
    exact e5
   ·obtain ⟨ws',a',z',h5,e5⟩:=ih (ws++[(⟨K,A,B⟩:S50)]) a2 z n m r t c (by omega) (by omega) (by simp;omega) ht hc
    refine ⟨ws',a',z',h5,Ev.succ ?_⟩
    simp only [al.l0]
    refine Ev.pos (by omega) (Ev.bind g (Ev.succ ?_))
    simp only [al.j1]
    refine Ev.pos True.intro (Ev.bind e2 (Ev.pos (by omega) (Ev.have rfl (Ev.bind e3 (Ev.neg hbb ?_)))))
    rw [wd]
    exact e5
  ·rw [decide_eq_false h] at g
   refine ⟨ws,a,seed,by omega,Ev.succ ?_⟩
   simp only [al.l0]
   refine Ev.pos (by omega) (Ev.bind g (Ev.succ ?_))
   simp only [al.j1]
   exact Ev.neg (by simp) (Ev.now _)
theorem kK:∃ (s m:Int) (r:Bool) (t c:List Int) (ws:List S50),Ev (fun k=>cj.f k code) (s,r,t,c,m,ws)∧t.length≤100∧c.length≤101∧ws.length≤10:=by
 obtain ⟨s,m,r,t,c,a,z,e,h1,h2,h3⟩:=kv code hb
 obtain ⟨p,s2,e2,p0,p1⟩:=e8 code hb a (by omega) z 6 (by omega) (by omega)
 obtain ⟨d,hd⟩:∃ d:Nat,p=d:=⟨p.toNat,by omega⟩
 obtain ⟨ws,a',z',h4,e4⟩:=lM code hb s m r t c d [] (a+1) s2 s m r t c (by omega) (by omega) (by simp;omega) (by omega) (by omega)
 refine ⟨s,m,r,t,c,ws,?_,h1,h2,h4⟩
 rw [← hd] at e4
 unfold cj.f al.f
 exact Ev.bind (Ev.bind e (Ev.have e2 e4)) (Ev.now _)
end
theorem oY {n:Nat} {ring:Bool} {t c:List Int} {m:Int} (hH:bC n ring t c m) {t' c':List Int} (hH':bC n ring t' c' (m+1)) (h1:m+1≠1000) (A:Int) (hb:Ev (fun k=>ac.f k n ring t' c' (m+1) 3 A 0) (c,true)):Ev (fun k=>laws_FnHouses.j3 k false n ring t c m n ring t' c' (m+1) 3 A 0) true:=by
 have hl:=cr _ ring _ hH.1
 have hcl:=(bV hH).length_eq
 refine Ev.succ ?_
 simp only [laws_FnHouses.j3]
 exact Ev.neg (by simp) (Ev.bind (jT hH hH' 3 A 0 h1 hb) (Ev.pos rfl (Ev.bind (eC n ring t c m (by omega) (by omega)) (Ev.now _))))
theorem jB {n:Nat} {ring:Bool} {t' c:List Int} {m:Int} {p:Int} (hH':bC n ring t' (c++[p]) m):Ev (fun k=>ac.f k n ring t' (c++[p]) m 3 p 0) (c,true):=by
 have hl:=cr _ ring _ hH'.1
 have hcl:=(bV hH').length_eq
 obtain ⟨x,b,e,h1,h2,_⟩:=fl hH' (by omega) 3 p 0
 have hb:=h2 rfl (by simp) rfl
 subst hb
 rcases h1 rfl with h|h|h|h|h
 ·exact absurd h.1 (by decide)
 ·exact absurd h.1 (by decide)
 ·obtain ⟨_,_,hx,_⟩:=h
  have hi:(c++[p]).idxOf p=c.length:=eB hH' (by simp) (by simp)
  rw [hi,List.eraseIdx_append_of_length_le (Nat.le_refl _),Nat.sub_self] at hx
  rw [hx] at e
  simpa using e
 ·exact absurd h.1 (by decide)
 ·exact absurd h.1 (by decide)
theorem oZ {n:Nat} {ring:Bool} {t c:List Int} {m:Int} (hH:bC n ring t c m) {t' c':List Int} (hH':bC n ring t' c' (m+1)) (kind A B:Int) (hx:Ev (fun k=>ac.f k n ring t c m kind A B) (c',true)):Ev (fun k=>laws_FnHouses.j2 k false n ring t c m kind A B n ring t' c' (m+1)) true:=by
 have hl:=cr _ ring _ hH.1
 have hcl:=(bV hH).length_eq
 have hl':=cr _ ring _ hH'.1
 have hcl':=(bV hH').length_eq
 refine Ev.succ ?_
 simp only [laws_FnHouses.j2]
 refine Ev.neg (by simp) ?_
 by_cases h1:m+1=1000
 ·exact Ev.pos h1 (Ev.now _)
 refine Ev.neg h1 ?_
 obtain ⟨x,b,e,hs,_,_⟩:=fl hH (by omega) kind A B
 have:=Ev.uniq hx e
 simp only [Prod.mk.injEq] at this
 obtain ⟨rfl,rfl⟩:=this
 rcases hs rfl with ⟨rfl,hlt,rfl,rfl,rfl⟩|⟨rfl,rfl,hA,hAt,rfl⟩|⟨rfl,hA,rfl,rfl⟩|⟨rfl,hA,rfl,hB,hBt⟩|⟨rfl,rfl,rfl,rfl⟩
 ·rw [List.length_append,List.length_singleton] at hcl'
  have w1:wrap64 (((c++[rd (ee n ring t) 0]).length:Int) - 1)=(c.length:Int):=by rw [cD (by simp <;> omega) (by simp <;> omega)];simp
  have hr:rd (c++[rd (ee n ring t) 0]) (c.length:Int)=rd (ee n ring t) 0:=by rw [da _ c.length (by simp)];simp
  have hne:=dK hH.1
  rw [if_pos hlt] at hne
  rw [w1,hr]
  refine Ev.pos rfl (Ev.pos (by omega) (Ev.pos (by rw [List.length_append,List.length_singleton];omega) (Ev.bind hne (Ev.pos rfl ?_))))
  dsimp only
  rw [bne_self_eq_false]
  exact oY hH hH' h1 _ (jB hH')
 ·refine Ev.neg (by omega) (Ev.neg (by omega) (Ev.neg (by omega) (Ev.neg (by omega) ?_)))
  exact Ev.bind (jT hH hH' 3 A 0 h1 (jB hH')) (Ev.pos rfl (Ev.bind (eC n ring t c m (by omega) (by omega)) (Ev.now _)))
 ·have hi:c.idxOf A<c.length:=List.idxOf_lt_length_of_mem hA
  have hP:=bV hH
  have hcN:c.Nodup:=hP.nodup_iff.2 (b8 t _ _ hH.1.2.2)
  have hnot:A ∉ c.eraseIdx (c.idxOf A):=fun hm=>by
   rw [List.mem_eraseIdx_iff_getElem?] at hm
   obtain ⟨i,hne,e⟩:=hm
   obtain ⟨h1,e⟩:=List.getElem?_eq_some_iff.1 e
   exact hne (eB hH h1 e ▸ rfl)
  refine Ev.neg (by omega) (Ev.neg (by omega) (Ev.pos rfl (Ev.pos ?_ (Ev.bind (mK _ (by omega) A) ?_))))
  ·rw [List.length_eraseIdx_of_lt hi,cD (by omega) (by omega)];omega
  ·rw [decide_eq_false hnot]
   exact Ev.now _
 ·have hi:c.idxOf A<c.length:=List.idxOf_lt_length_of_mem hA
  have hcA:c[c.idxOf A]=A:=List.getElem_idxOf hi
  have hP:=bV hH
  have hin:=dT hH.1
  have hAt:A ∈ t:=hP.mem_iff.1 hA
  have hBc:B ∉ c:=fun e=>hBt (hP.mem_iff.1 e)
  have hAB:A≠B:=fun e=>hBc (e ▸ hA)
  have hBm:B ∈ c.set (c.idxOf A) B:=List.mem_iff_getElem.2 ⟨c.idxOf A,by simpa using hi,by simp⟩
  have hAn:A ∉ t':=fun e=>by
   have:=(g8 hH' A).2 e
   obtain ⟨j,hj,e⟩:=List.getElem_of_mem this
   rw [List.getElem_set] at e
   rw [List.length_set] at hj
   split at e
   ·exact hAB e.symm
   ·rename_i hne
    exact hne (eB hH hj e ▸ rfl)
  obtain ⟨x2,b2,e2,hs2,_,hs3⟩:=fl hH' (by omega) 4 B A
  have hb2:=hs3 rfl hBm ⟨hin A hAt,hAn⟩
  subst hb2
  rcases hs2 rfl with h|h|h|h|h
  ·exact absurd h.1 (by decide)
  ·exact absurd h.1 (by decide)
  ·exact absurd h.1 (by decide)
  ·obtain ⟨_,_,hx2,_,_⟩:=h
   have hj:(c.set (c.idxOf A) B).idxOf B=c.idxOf A:=eB hH' (by simpa using hi) (by simp)
   rw [hj,List.set_set] at hx2
   have hcc:c.set (c.idxOf A) A=c:=by
    refine List.ext_getElem (by simp) fun j h1 h2=>?_
    rw [List.getElem_set]
    split
    ·rename_i h;subst h;exact hcA.symm
    ·rfl
   rw [hcc] at hx2
   rw [hx2] at e2
   refine Ev.neg (by omega) (Ev.pos rfl ?_)
   exact Ev.bind (jT hH hH' 4 B A h1 e2) (Ev.pos rfl (Ev.bind (eC n ring t c m (by omega) (by omega)) (Ev.now _)))
  ·exact absurd h.1 (by decide)
 ·exact Ev.neg (by omega) (Ev.neg (by omega) (Ev.neg (by omega) (Ev.pos rfl (Ev.same (Ev.now _) (by simp)))))
open Classical in
theorem o1 (s:Int) (ring:Bool) (t c:List Int) (m kind A B:Int) (hs:t.length+c.length≤1048576) (s':Int) (r':Bool) (t' c':List Int) (m':Int) (b:Bool) (h:Ev (fun k=>ap.f k s ring t c m kind A B) (s',r',t',c',m',b)):Ev (fun k=>laws_FnHouses.j1 k b false s ring t c m kind A B s' r' t' c' m') true:=by
 refine Ev.succ ?_
 simp only [laws_FnHouses.j1]
 refine Ev.neg (by simp) ?_
 cases b with
 | false=>exact Ev.neg (by simp) (Ev.now _)
 | true =>
  obtain ⟨n,rfl,hH,hg,hm,rfl,rfl,rfl,hH'⟩:=oI s ring t c m kind A B hs h
  have hl':=cr _ _ _ hH'.1
  have hcl':=(bV hH').length_eq
  have hmm:=hH.2.2
  have g2:=de n r' t' c' (m+1) (by omega) (by omega)
  rw [decide_eq_true hH'] at g2
  refine Ev.pos rfl (Ev.bind g2 (Ev.pos rfl ?_))
  rw [cD (by omega) (by omega),bne_self_eq_false]
  exact oZ hH hH' kind A B hg
open Classical in
theorem FnHouses:laws_FnHouses.Pure:=by
 intro code _ hlen hwf
 have hb:∀ x ∈ code,0≤x∧x≤255:=fun x hx=>lF (hwf x hx)
 suffices H:Ev (fun k=>laws_FnHouses.f k code) true from by
  obtain ⟨K,h⟩:=H
  exact ⟨K,h K (Nat.le_refl K)⟩
 unfold laws_FnHouses.f
 refine Ev.have rfl ?_
 by_cases big:(code.length:Int) > 65536
 ·exact Ev.pos (decide_eq_true big) (Ev.now _)
 ·obtain ⟨s,ring,e⟩:=mw code hb
  obtain ⟨s1,r1,t1,c1,m1,b1,h1,h2,n1,n2⟩:=mv s ring
  obtain ⟨code1,ec1,hb1⟩:=lp code hb (by omega) 1 (by omega)
  obtain ⟨s2,m2,K,A,B,r2,t2,c2,e2,ht2,hc2⟩:=lL code1 hb1
  obtain ⟨s3,r3,t3,c3,m3,b3,h3,h4,d1,d2⟩:=mM s2 r2 t2 c2 m2 K A B (by omega)
  obtain ⟨code2,ec2,hb2⟩:=lp code hb (by omega) 2 (by omega)
  obtain ⟨s4,m4,r4,t4,c4,ws,e4,ht4,hc4,hw4⟩:=kK code2 hb2
  obtain ⟨s5,r5,t5,c5,m5,q5,b5,h5,h6,w1,w2,w3⟩:=lK s4 r4 t4 c4 m4 ws (by omega) (by omega)
  have g1:=dr s2 r2 t2 c2 m2 (by omega) (by omega)
  have g2:=de s2 r2 t2 c2 m2 (by omega) (by omega)
  have is2:Ev (fun k=>cQ.f k s2 r2 t2 c2 m2) (decide (bC s2 r2 t2 c2 m2)):=by
   unfold cQ.f
   exact Ev.bind g1 (Ev.now _)
  have hj1:=o1 s2 r2 t2 c2 m2 K A B (by omega) s3 r3 t3 c3 m3 b3 d2
  refine Ev.neg (by rw [decide_eq_true_eq];exact big) (Ev.have e (Ev.bind n2 (Ev.bind n1 (Ev.have ec1 (Ev.bind e2 (Ev.bind d2 (Ev.bind d1 (Ev.have ec2 (Ev.bind e4 (Ev.bind w2 (Ev.bind w1 ?_)))))))))))
  refine Ev.neg (gL _) (Ev.bind (eC _ _ _ _ _ h1 h2) (Ev.pos rfl (Ev.neg (gL _) (Ev.bind (eC _ _ _ _ _ h3 h4) (Ev.pos rfl (Ev.neg (gL _) ?_))))))
  have q1:Ev (fun k=>laws_FnHouses.j1 k b3 false s2 r2 t2 c2 m2 K A B s3 r3 t3 c3 m3) true:=hj1
  refine Ev.pos rfl (Ev.bind (eC _ _ _ _ _ h5 h6) (Ev.pos rfl (Ev.bind g2 (Ev.bind is2 ?_))))
  refine Ev.succ ?_
  simp only [laws_FnHouses.j0]
  refine Ev.neg (gL _) ?_
  cases b5 with
  | false=>exact Ev.neg (by simp) q1
  | true =>
   have g5:=de s5 r5 t5 c5 m5 h5 h6
   rw [decide_eq_true (w3 rfl)] at g5
   exact Ev.pos rfl (Ev.bind g5 q1)
end Go.Proofs.YtbohmfnjgjijdaaGreatDoor.Pure
