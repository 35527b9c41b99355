-- Written by px.py, a program of this session, over the kit's printer: some functions have a definition and a proof of this session's own.
import Derived.Test.YtbohmfnjgjijdaaGreatDoorProg
import Derived.Below
import Derived.Deep.Draws
import Derived.Deep.AppendLies
import Derived.Maps.AppendAt
import Derived.OwnWalk
import Derived.Laws.BytesArg
import Derived.Laws.MakeOwn
import Derived.Laws.OwnMore
import Derived.Deep.OwnRows
import Derived.Tactics
import Derived.Lib.ConvBytes
import Derived.Laws.Slices
import Derived.WalkKit
import Derived.KernelRfl
import Derived.RowKit3
import Derived.Deep.LoopGhost
import Derived.Deep.QuietTactic
import Derived.BigQuiet
import Derived.WideLaws
import Derived.Deep.DeepCutAuto
import Derived.Deep.CutBlock
import Derived.Deep.RegionHeld3
import Derived.Laws.Rows
import Derived.Lib.AppendStr
import Derived.ArgAppend
import Derived.Laws.IdiomCopy
import Derived.OrdersHeld
import Derived.Laws.BitsLemmas
import Derived.RowKit
import Derived.Test.YtbohmfnjgjijdaaGreatDoorVHousesWords
import Derived.Test.YtbohmfnjgjijdaaGreatDoorVHousesLast
import Derived.Test.YtbohmfnjgjijdaaGreatDoorVHousesTab
import Derived.Test.YtbohmfnjgjijdaaGreatDoorVHousesFour
import Derived.Test.YtbohmfnjgjijdaaGreatDoorVHousesQPut
import Derived.Test.YtbohmfnjgjijdaaGreatDoorVHousesApart
import Derived.Test.YtbohmfnjgjijdaaGreatDoorVHousesArr
import Derived.Test.YtbohmfnjgjijdaaGreatDoorVHousesZeros
import Derived.Test.YtbohmfnjgjijdaaGreatDoorVHousesFoot
import Derived.Test.YtbohmfnjgjijdaaGreatDoorVHousesKept
import Derived.Test.YtbohmfnjgjijdaaGreatDoorVHousesShare
import Derived.Test.YtbohmfnjgjijdaaGreatDoorVHousesN
import Derived.Test.YtbohmfnjgjijdaaGreatDoorVHousesFootNe
import Derived.Test.YtbohmfnjgjijdaaGreatDoorVHousesAt
import Derived.Test.YtbohmfnjgjijdaaGreatDoorVHousesEqStruct
import Derived.Test.YtbohmfnjgjijdaaGreatDoorVHousesRepsOne
import Derived.Test.YtbohmfnjgjijdaaGreatDoorVHousesInv
import Derived.Test.YtbohmfnjgjijdaaGreatDoorVHousesInvWords
import Derived.Test.YtbohmfnjgjijdaaGreatDoorVHousesGuard
import Derived.Test.YtbohmfnjgjijdaaGreatDoorVHousesNEv
import Derived.Test.YtbohmfnjgjijdaaGreatDoorVHousesMore
namespace Go.Proofs.YtbohmfnjgjijdaaGreatDoor.QFnHouses
open Go.RowKit Go.Proofs.YtbohmfnjgjijdaaGreatDoorW.PrintWords Go.Proofs.YtbohmfnjgjijdaaGreatDoorW.PrintLast Go.Proofs.YtbohmfnjgjijdaaGreatDoorW.PrintMore
attribute [local go_sem] ek el eM eN dU dV en eo   -- for this text's walks alone
set_option linter.unusedVariables false
set_option linter.unusedSimpArgs false
theorem A0_:type_of% @Aside0.mk:=@Aside0.mk
theorem bn_:type_of% @dy:=@dy
theorem ba_:type_of% @cY:=@cY
theorem bd_:type_of% @eO:=@eO
theorem bs_:type_of% @ju:=@ju
theorem bt_:type_of% @gx:=@gx
theorem bz_:type_of% @gy:=@gy
theorem kn_:type_of% @dk:=@dk
theorem kd_:type_of% @dE:=@dE
theorem ka_:type_of% @dl:=@dl
theorem kb_:type_of% @fF:=@fF
theorem kc_:type_of% @cw:=@cw
theorem kf_:type_of% @cL:=@cL
theorem ra_:type_of% @Kd.R_alloc:=@Kd.R_alloc
theorem rn_:type_of% @Kd.R_drewN:=@Kd.R_drewN
theorem rd_:type_of% @Kd.R_drew:=@Kd.R_drew
theorem rr_:type_of% @Kd.R_reads':=@Kd.R_reads'
theorem ca_:type_of% @Kd.C_alloc:=@Kd.C_alloc
theorem cn_:type_of% @Kd.C_drewN:=@Kd.C_drewN
theorem cd_:type_of% @Kd.C_drew:=@Kd.C_drew
theorem ob_:type_of% @Option.bind_eq_some_iff:=@Option.bind_eq_some_iff
theorem bf_:type_of% @Bool.eq_false_iff:=@Bool.eq_false_iff
theorem be_:type_of% @gQ:=@gQ
theorem gc_:type_of% @ic:=@ic
theorem gd_:type_of% @kj:=@kj
theorem od_:type_of% @of_decide_eq_true:=@of_decide_eq_true
theorem dt_:type_of% @decide_eq_true:=@decide_eq_true
theorem si_:type_of% @Option.some.inj:=@Option.some.inj
theorem cb_:type_of% @Kd.C_below:=@Kd.C_below
theorem sa_:type_of% @List.setIfInBounds_toArray:=@List.setIfInBounds_toArray
theorem sz_:type_of% @List.set_cons_zero:=@List.set_cons_zero
theorem ss_:type_of% @List.set_cons_succ:=@List.set_cons_succ
theorem ma_:type_of% @List.map_toArray:=@List.map_toArray
theorem mc_:type_of% @List.map_cons:=@List.map_cons
theorem mn_:type_of% @List.map_nil:=@List.map_nil
theorem sj_:type_of% @Option.some.injEq:=@Option.some.injEq
theorem pj_:type_of% @Prod.mk.injEq:=@Prod.mk.injEq
theorem ld_:type_of% @List.length_drop:=@List.length_drop
theorem lt_:type_of% @List.length_take:=@List.length_take
theorem c1_ {w:World} {g:Nat} {v0:Value} {t:TypeId} (B:Aside0 (w.heap[g]?=some (.cells #[v0] t (0,0)))):w.cell? ⟨g,0,none⟩=some v0:=(cw B.out 0).trans rfl
theorem c2_ {w:World} {g:Nat} {v0 v1:Value} {t:TypeId} (B:Aside0 (w.heap[g]?=some (.cells #[v0,v1] t (0,0)))):w.cell? ⟨g,0,none⟩=some v0∧w.cell? ⟨g,1,none⟩=some v1:=⟨(cw B.out 0).trans rfl,(cw B.out 1).trans rfl⟩
theorem s2_ {P:Program} {ops:Array Oper} {Q:Exit→Act→World→Prop} {id:Nat} {a:Act} {w:World} {l:Array Bool} {g:Nat} {v0 v1:Value} {t:TypeId} {T:Bool × List (List Nat × List Nat)} {B:List Nat} (n:Nat) (ds:List Nat) (HB:Aside0 (w.drew.heap[g]?=some (.cells #[v0,v1] t (0,0)))) (hT:df .any ops=T) (hB:ce T.2 B=true) (h:(w.drew.cell? ⟨g,0,none⟩=some v0∧w.drew.cell? ⟨g,1,none⟩=some v1)→Aside0 (df .any ops=T)→Aside0 (ce T.2 B=true)→aT P .any ops Q (fun w'=>w'.cell? ⟨g,0,none⟩=some v0∧w'.cell? ⟨g,1,none⟩=some v1) ds n l a w.drew) (hm:P.follows .mixedOrders=true:=by kernel_rfl) (hn:ops.size=n:=by exact rfl) (hl:Array.replicate n false=l:=by show (List.replicate _ false).toArray=_;simp only [List.replicate_succ,List.replicate_zero];rfl):(Code.region id ops true).wp P Q a w:=dd (S:=fun w'=>w'.cell? ⟨g,0,none⟩=some v0∧w'.cell? ⟨g,1,none⟩=some v1) l hm hn hl (c2_ HB) (fun hS=>h hS ⟨hT⟩ ⟨hB⟩)
theorem c3_ {w:World} {g:Nat} {v0 v1 v2:Value} {t:TypeId} (B:Aside0 (w.heap[g]?=some (.cells #[v0,v1,v2] t (0,0)))):w.cell? ⟨g,0,none⟩=some v0∧w.cell? ⟨g,1,none⟩=some v1∧w.cell? ⟨g,2,none⟩=some v2:=⟨(cw B.out 0).trans rfl,(cw B.out 1).trans rfl,(cw B.out 2).trans rfl⟩
theorem s3_ {P:Program} {ops:Array Oper} {Q:Exit→Act→World→Prop} {id:Nat} {a:Act} {w:World} {l:Array Bool} {g:Nat} {v0 v1 v2:Value} {t:TypeId} {T:Bool × List (List Nat × List Nat)} {B:List Nat} (n:Nat) (ds:List Nat) (HB:Aside0 (w.drew.heap[g]?=some (.cells #[v0,v1,v2] t (0,0)))) (hT:df .any ops=T) (hB:ce T.2 B=true) (h:(w.drew.cell? ⟨g,0,none⟩=some v0∧w.drew.cell? ⟨g,1,none⟩=some v1∧w.drew.cell? ⟨g,2,none⟩=some v2)→Aside0 (df .any ops=T)→Aside0 (ce T.2 B=true)→aT P .any ops Q (fun w'=>w'.cell? ⟨g,0,none⟩=some v0∧w'.cell? ⟨g,1,none⟩=some v1∧w'.cell? ⟨g,2,none⟩=some v2) ds n l a w.drew) (hm:P.follows .mixedOrders=true:=by kernel_rfl) (hn:ops.size=n:=by exact rfl) (hl:Array.replicate n false=l:=by show (List.replicate _ false).toArray=_;simp only [List.replicate_succ,List.replicate_zero];rfl):(Code.region id ops true).wp P Q a w:=dd (S:=fun w'=>w'.cell? ⟨g,0,none⟩=some v0∧w'.cell? ⟨g,1,none⟩=some v1∧w'.cell? ⟨g,2,none⟩=some v2) l hm hn hl (c3_ HB) (fun hS=>h hS ⟨hT⟩ ⟨hB⟩)
theorem c5_ {w:World} {g:Nat} {v0 v1 v2 v3 v4:Value} {t:TypeId} (B:Aside0 (w.heap[g]?=some (.cells #[v0,v1,v2,v3,v4] t (0,0)))):w.cell? ⟨g,0,none⟩=some v0∧w.cell? ⟨g,1,none⟩=some v1∧w.cell? ⟨g,2,none⟩=some v2∧w.cell? ⟨g,3,none⟩=some v3∧w.cell? ⟨g,4,none⟩=some v4:=⟨(cw B.out 0).trans rfl,(cw B.out 1).trans rfl,(cw B.out 2).trans rfl,(cw B.out 3).trans rfl,(cw B.out 4).trans rfl⟩
theorem s5_ {P:Program} {ops:Array Oper} {Q:Exit→Act→World→Prop} {id:Nat} {a:Act} {w:World} {l:Array Bool} {g:Nat} {v0 v1 v2 v3 v4:Value} {t:TypeId} {T:Bool × List (List Nat × List Nat)} {B:List Nat} (n:Nat) (ds:List Nat) (HB:Aside0 (w.drew.heap[g]?=some (.cells #[v0,v1,v2,v3,v4] t (0,0)))) (hT:df .any ops=T) (hB:ce T.2 B=true) (h:(w.drew.cell? ⟨g,0,none⟩=some v0∧w.drew.cell? ⟨g,1,none⟩=some v1∧w.drew.cell? ⟨g,2,none⟩=some v2∧w.drew.cell? ⟨g,3,none⟩=some v3∧w.drew.cell? ⟨g,4,none⟩=some v4)→Aside0 (df .any ops=T)→Aside0 (ce T.2 B=true)→aT P .any ops Q (fun w'=>w'.cell? ⟨g,0,none⟩=some v0∧w'.cell? ⟨g,1,none⟩=some v1∧w'.cell? ⟨g,2,none⟩=some v2∧w'.cell? ⟨g,3,none⟩=some v3∧w'.cell? ⟨g,4,none⟩=some v4) ds n l a w.drew) (hm:P.follows .mixedOrders=true:=by kernel_rfl) (hn:ops.size=n:=by exact rfl) (hl:Array.replicate n false=l:=by show (List.replicate _ false).toArray=_;simp only [List.replicate_succ,List.replicate_zero];rfl):(Code.region id ops true).wp P Q a w:=dd (S:=fun w'=>w'.cell? ⟨g,0,none⟩=some v0∧w'.cell? ⟨g,1,none⟩=some v1∧w'.cell? ⟨g,2,none⟩=some v2∧w'.cell? ⟨g,3,none⟩=some v3∧w'.cell? ⟨g,4,none⟩=some v4) l hm hn hl (c5_ HB) (fun hS=>h hS ⟨hT⟩ ⟨hB⟩)
theorem fQ {w:World} {g:Nat} {u v0:Value} {t:TypeId} (h:w.heap[g]?=some (.cells #[v0] t (0,0))):(w.setCell ⟨g,0,none⟩ u).heap[g]?=some (.cells #[u] t (0,0)):=dY h 0 u rfl
theorem fR {w:World} {g:Nat} {u v0 v1:Value} {t:TypeId} (h:w.heap[g]?=some (.cells #[v0,v1] t (0,0))):(w.setCell ⟨g,0,none⟩ u).heap[g]?=some (.cells #[u,v1] t (0,0)):=dY h 0 u rfl
theorem fS {w:World} {g:Nat} {u v0 v1:Value} {t:TypeId} (h:w.heap[g]?=some (.cells #[v0,v1] t (0,0))):(w.setCell ⟨g,1,none⟩ u).heap[g]?=some (.cells #[v0,u] t (0,0)):=dY h 1 u rfl
theorem fT {w:World} {g:Nat} {u v0 v1 v2:Value} {t:TypeId} (h:w.heap[g]?=some (.cells #[v0,v1,v2] t (0,0))):(w.setCell ⟨g,0,none⟩ u).heap[g]?=some (.cells #[u,v1,v2] t (0,0)):=dY h 0 u rfl
theorem fU {w:World} {g:Nat} {u v0 v1 v2:Value} {t:TypeId} (h:w.heap[g]?=some (.cells #[v0,v1,v2] t (0,0))):(w.setCell ⟨g,1,none⟩ u).heap[g]?=some (.cells #[v0,u,v2] t (0,0)):=dY h 1 u rfl
theorem fV {w:World} {g:Nat} {u v0 v1 v2:Value} {t:TypeId} (h:w.heap[g]?=some (.cells #[v0,v1,v2] t (0,0))):(w.setCell ⟨g,2,none⟩ u).heap[g]?=some (.cells #[v0,v1,u] t (0,0)):=dY h 2 u rfl
theorem fW {w:World} {g:Nat} {u v0 v1 v2 v3 v4:Value} {t:TypeId} (h:w.heap[g]?=some (.cells #[v0,v1,v2,v3,v4] t (0,0))):(w.setCell ⟨g,0,none⟩ u).heap[g]?=some (.cells #[u,v1,v2,v3,v4] t (0,0)):=dY h 0 u rfl
theorem fX {w:World} {g:Nat} {u v0 v1 v2 v3 v4:Value} {t:TypeId} (h:w.heap[g]?=some (.cells #[v0,v1,v2,v3,v4] t (0,0))):(w.setCell ⟨g,1,none⟩ u).heap[g]?=some (.cells #[v0,u,v2,v3,v4] t (0,0)):=dY h 1 u rfl
theorem fY {w:World} {g:Nat} {u v0 v1 v2 v3 v4:Value} {t:TypeId} (h:w.heap[g]?=some (.cells #[v0,v1,v2,v3,v4] t (0,0))):(w.setCell ⟨g,2,none⟩ u).heap[g]?=some (.cells #[v0,v1,u,v3,v4] t (0,0)):=dY h 2 u rfl
theorem fZ {w:World} {g:Nat} {u v0 v1 v2 v3 v4:Value} {t:TypeId} (h:w.heap[g]?=some (.cells #[v0,v1,v2,v3,v4] t (0,0))):(w.setCell ⟨g,3,none⟩ u).heap[g]?=some (.cells #[v0,v1,v2,u,v4] t (0,0)):=dY h 3 u rfl
theorem f5 {w:World} {g:Nat} {u v0 v1 v2 v3 v4:Value} {t:TypeId} (h:w.heap[g]?=some (.cells #[v0,v1,v2,v3,v4] t (0,0))):(w.setCell ⟨g,4,none⟩ u).heap[g]?=some (.cells #[v0,v1,v2,v3,u] t (0,0)):=dY h 4 u rfl
theorem o3 {w:World} {g:Nat} {t:TypeId} {cs:Array Value} (B:Aside0 (w.heap[g]?=some (.cells cs t (0,0)))):w.frozen? ⟨g,0,none⟩=false:=cL B.out 0
theorem o4 {w:World} {g:Nat} {t:TypeId} {cs:Array Value} (B:Aside0 (w.heap[g]?=some (.cells cs t (0,0)))):w.frozen? ⟨g,0,none⟩=false∧w.frozen? ⟨g,1,none⟩=false:=⟨cL B.out 0,cL B.out 1⟩
theorem o5 {w:World} {g:Nat} {t:TypeId} {cs:Array Value} (B:Aside0 (w.heap[g]?=some (.cells cs t (0,0)))):w.frozen? ⟨g,0,none⟩=false∧w.frozen? ⟨g,1,none⟩=false∧w.frozen? ⟨g,2,none⟩=false:=⟨cL B.out 0,cL B.out 1,cL B.out 2⟩
theorem oL {w:World} {g:Nat} {t:TypeId} {cs:Array Value} (B:Aside0 (w.heap[g]?=some (.cells cs t (0,0)))):w.frozen? ⟨g,0,none⟩=false∧w.frozen? ⟨g,1,none⟩=false∧w.frozen? ⟨g,2,none⟩=false∧w.frozen? ⟨g,3,none⟩=false∧w.frozen? ⟨g,4,none⟩=false:=⟨cL B.out 0,cL B.out 1,cL B.out 2,cL B.out 3,cL B.out 4⟩
theorem z1_ {w:World} {g:Nat} {v0:Value} {t:TypeId} (B:Aside0 (w.heap[g]?=some (.cells #[v0] t (0,0)))):(w.cell? ⟨g,0,none⟩=some v0)∧(w.frozen? ⟨g,0,none⟩=false):=⟨c1_ B,o3 B⟩
theorem z2_ {w:World} {g:Nat} {v0 v1:Value} {t:TypeId} (B:Aside0 (w.heap[g]?=some (.cells #[v0,v1] t (0,0)))):(w.cell? ⟨g,0,none⟩=some v0∧w.cell? ⟨g,1,none⟩=some v1)∧(w.frozen? ⟨g,0,none⟩=false∧w.frozen? ⟨g,1,none⟩=false):=⟨c2_ B,o4 B⟩
theorem z3_ {w:World} {g:Nat} {v0 v1 v2:Value} {t:TypeId} (B:Aside0 (w.heap[g]?=some (.cells #[v0,v1,v2] t (0,0)))):(w.cell? ⟨g,0,none⟩=some v0∧w.cell? ⟨g,1,none⟩=some v1∧w.cell? ⟨g,2,none⟩=some v2)∧(w.frozen? ⟨g,0,none⟩=false∧w.frozen? ⟨g,1,none⟩=false∧w.frozen? ⟨g,2,none⟩=false):=⟨c3_ B,o5 B⟩
theorem z5_ {w:World} {g:Nat} {v0 v1 v2 v3 v4:Value} {t:TypeId} (B:Aside0 (w.heap[g]?=some (.cells #[v0,v1,v2,v3,v4] t (0,0)))):(w.cell? ⟨g,0,none⟩=some v0∧w.cell? ⟨g,1,none⟩=some v1∧w.cell? ⟨g,2,none⟩=some v2∧w.cell? ⟨g,3,none⟩=some v3∧w.cell? ⟨g,4,none⟩=some v4)∧(w.frozen? ⟨g,0,none⟩=false∧w.frozen? ⟨g,1,none⟩=false∧w.frozen? ⟨g,2,none⟩=false∧w.frozen? ⟨g,3,none⟩=false∧w.frozen? ⟨g,4,none⟩=false):=⟨c5_ B,oL B⟩
abbrev no_ (v:Value) (k:Nat):Prop:=some k≠v.ownBlock
section
variable {P:Program} {ops:Array Oper} {Q:Exit→Act→World→Prop} {md:Region.Mode} {S:World→Prop} {ds:List Nat}
theorem pu_ (i:Nat) (n:Tmp) {oi:Oper} {v:Value} {bv:Nat} {l l':Array Bool} {a a':Act} {w:World} (h:aT P md ops Q S ds bv l' a' w) (hi:ops[i]?=some oi:=by exact rfl) (hN:oi.dst=some n:=by exact rfl) (hl:l.setIfInBounds i true=l':=by simp only [List.setIfInBounds_toArray,List.set_cons_zero,List.set_cons_succ];rfl) (hc:lq md ops l l' i=true:=by first|exact lN HT_.out (by kernel_rfl)|kernel_rfl) (hQ:∀ c a w,Q (.panic c) (a.put oi.dst v) w→Q (.panic c) a w:=by exact fun _ _ _ h=>h) (hy:Yields P ops oi v a:=by refine Or.inl ⟨by rfl,?_⟩;intro w';go_simp;with_reducible rfl) (ha:a.put (some n) v=a':=by simp only [Act.put,List.setIfInBounds_toArray,List.set_cons_zero,List.set_cons_succ,dD,dM];rfl):aT P md ops Q S ds (bv+1) l a w:=mO l' hi hN hc hQ hy ha h
theorem pv_ (i:Nat) (n:Tmp) {oi:Oper} {bv:Nat} {l l':Array Bool} {a a':Act} {w:World} (h:aT P md ops Q S ds bv l' a' w) (hi:ops[i]?=some oi:=by exact rfl) (hN:oi.dst=some n:=by exact rfl) (hl:l.setIfInBounds i true=l':=by simp only [List.setIfInBounds_toArray,List.set_cons_zero,List.set_cons_succ];rfl) (hc:lq md ops l l' i=true:=by first|exact lN HT_.out (by kernel_rfl)|kernel_rfl) (hQ:∀ c a w,Q (.panic c) (a.put oi.dst undef) w→Q (.panic c) a w:=by exact fun _ _ _ h=>h) (hy:Yields P ops oi undef a:=by exact Or.inr ⟨by rfl,rfl⟩) (ha:a.put (some n) undef=a':=by simp only [Act.put,List.setIfInBounds_toArray,List.set_cons_zero,List.set_cons_succ,dD,dM];rfl):aT P md ops Q S ds (bv+1) l a w:=mO l' hi hN hc hQ hy ha h
theorem tk_ (i:Nat) (n:Tmp) {oi:Oper} {v:Value} {bv:Nat} {l l':Array Bool} {a a':Act} {w:World} (hS:S w) (h:aT P md ops Q S ds bv l' a' w) (hi:ops[i]?=some oi:=by exact rfl) (hN:oi.dst=some n:=by exact rfl) (hl:l.setIfInBounds i true=l':=by simp only [List.setIfInBounds_toArray,List.set_cons_zero,List.set_cons_succ];rfl) (hc:jh md ops ds l l' i=true:=by first|exact lO HT_.out HW_.out (by kernel_rfl)|kernel_rfl) (hQ:∀ c a w,Q (.panic c) (a.put oi.dst v) w→Q (.panic c) a w:=by exact fun _ _ _ h=>h) (hy:YieldsIf P ops S oi v a:=by refine Or.inl ⟨by rfl,?_⟩;intro w' hs_;go_simp;with_reducible rfl) (ha:a.put (some n) v=a':=by simp only [Act.put,List.setIfInBounds_toArray,List.set_cons_zero,List.set_cons_succ,dD,dM];rfl):aT P md ops Q S ds (bv+1) l a w:=take_ l' hi hN hc hQ hy hS ha h
theorem on_ (i:Nat) (N:Option Tmp) {oi:Oper} {bv:Nat} {l l':Array Bool} {a:Act} {w:World} (h:∀ K:Act→World→Prop,Shut (∀ a' w',S w'→(S w'→aT P md ops Q S ds bv l' a' w')→K a' w')→if Region.wanted oi (yielded ops a.tmps)=true then Oper.wp P oi a w K Q else K (a.put N undef) w) (hi:ops[i]?=some oi:=by exact rfl) (hN:oi.dst=N:=by exact rfl) (hl:l.setIfInBounds i true=l':=by simp only [List.setIfInBounds_toArray,List.set_cons_zero,List.set_cons_succ];rfl) (hc:gw md ops l l' i=true:=by first|exact ft HT_.out (by kernel_rfl)|kernel_rfl) (hd:i ∉ ds:=by decide):aT P md ops Q S ds (bv+1) l a w:=o6 l' hi hN hc hd h
theorem dn_ {l:Array Bool} {a:Act} {w:World} {n:Nat} (h:Q .normal a w) (hr:(Region.ready md ops l == [])=true:=by first|exact my HT_.out (by kernel_rfl)|kernel_rfl):aT P md ops Q S ds n l a w:=mP hr h
theorem nm_ (n:Tmp) {v:Value} {bv:Nat} {l:Array Bool} {a a':Act} {w:World} (h:aT P md ops Q S ds bv l a' w) (ha:a.put (some n) v=a':=by simp only [Act.put,List.setIfInBounds_toArray,List.set_cons_zero,List.set_cons_succ,dD,dM];rfl):aT P md ops Q S ds bv l (a.put (some n) v) w:=dN ha h
theorem nq_ {bv:Nat} {l:Array Bool} {a a':Act} {w:World} (h:aT P md ops Q S ds bv l a' w) (ha:a=a':=by simp only [is,Act.put,List.setIfInBounds_toArray,List.set_cons_zero,List.set_cons_succ];rfl):aT P md ops Q S ds bv l a w:=dN ha h
theorem gs_ {oi:Oper} {N:Option Tmp} {a:Act} {w:World} {K:Act→World→Prop} {f:FuncId} {fn:Func} {ars:Array Operand} {ts:Array TypeId} (hf:P.funcs[f]?=some fn) (args:Array Value) (h:Calls P f args w fun e w'=>∃ v,e=.returned v∧K (a.put N v) w') (hname:(fn.name == "runtime.NumGoroutine")=false:=by kernel_rfl) (hb:fn.body.isSome=true:=by exact rfl) (hw:Region.wanted oi (yielded ops a.tmps)=true:=by rfl) (hN:oi.dst=N:=by exact rfl) (hop:oi.op=.call { callee:=.value (.func f),args:=ars,argTypes:=ts }:=by exact rfl) (hargs:ars.map a.eval=args:=by (try simp only [List.map_toArray,List.map_cons,List.map_nil]);first|done|rfl|(simp only [List.length_drop,List.length_take];rfl)):if Region.wanted oi (yielded ops a.tmps)=true then Oper.wp P oi a w K Q else K (a.put N undef) w:=oM hf hname hb args hw hN hop hargs h
theorem gl_ {rest:List Oper} {oi:Oper} {a:Act} {w:World} (N:Tmp) {f:FuncId} {fn:Func} {ars:Array Operand} {ts:Array TypeId} (hf:P.funcs[f]?=some fn) (args:Array Value) (h:Calls P f args w fun e w'=>∃ v,e=.returned v∧wpList P ops Q rest (a.put (some N) v) w') (hd:oi.dst=some N:=by exact rfl) (hg:oi.guard=none:=by exact rfl) (hname:(fn.name == "runtime.NumGoroutine")=false:=by kernel_rfl) (hb:fn.body.isSome=true:=by exact rfl) (hop:oi.op=.call { callee:=.value (.func f),args:=ars,argTypes:=ts }:=by exact rfl) (hargs:ars.map a.eval=args:=by (try simp only [List.map_toArray,List.map_cons,List.map_nil]);first|done|rfl|(simp only [List.length_drop,List.length_take];rfl)):wpList P ops Q (oi :: rest) a w:=lP (some N) hd hg hf hname hb args hop hargs h
theorem bx_ {o:Oper} {rest:List Oper} {a:Act} {W:World} (N:Tmp) (cs:Array Value) (t:TypeId) (h:∀ g,g=W.heap.size→∀ w1,Aside0 (w1.heap[g]?=some (.cells cs t (0,0)))→Below W.heap.size W w1→wpList P ops Q rest (a.put o.dst (.pointer (some ⟨g,0,none⟩))) w1) (hd:o.dst=some N:=by exact rfl) (hgd:o.guard=none:=by exact rfl) (hrun:(execOp a.eval o).run P W=.ok (.value (.pointer (some ⟨W.heap.size,0,none⟩))) (W.alloc (.cells cs t (0,0))):=by go_simp;first|done|rfl):wpList P ops Q (o :: rest) a W:=gQ hgd hd hrun (fun g hg w1 hb k=>h g hg w1 ⟨hb⟩ k)
end
theorem o7 {P:Prop} (h:P:=by first|exact NB0_1.out|exact NB0_2.out|exact NB0_3.out|exact NB0_4.out|exact NB0_5.out|exact NB1_0.out|exact NB1_2.out|exact NB1_3.out|exact NB1_4.out|exact NB1_5.out|exact NB1_6.out|exact NB1_7.out|exact NB1_8.out|exact NB1_9.out|exact NB2_0.out|exact NB2_1.out|exact NB2_3.out|exact NB2_4.out|exact NB2_5.out|exact NB2_6.out|exact NB2_7.out|exact NB2_8.out|exact NB2_9.out|exact NB3_0.out|exact NB3_1.out|exact NB3_2.out|exact NB3_4.out|exact NB3_5.out|exact NB3_6.out|exact NB3_7.out|exact NB3_8.out|exact NB3_9.out|exact NB3_10.out|exact NB3_11.out|exact NB3_12.out|exact NB3_13.out|exact NB4_0.out|exact NB4_1.out|exact NB4_2.out|exact NB4_3.out|exact NB4_5.out|exact NB4_6.out|exact NB4_7.out|exact NB4_8.out|exact NB4_9.out|exact NB4_10.out|exact NB4_12.out|exact NB4_13.out|exact NB5_0.out|exact NB5_1.out|exact NB5_2.out|exact NB5_3.out|exact NB5_4.out|exact NB5_6.out|exact NB5_7.out|exact NB5_8.out|exact NB5_9.out|exact NB5_10.out|exact NB5_11.out|exact NB5_12.out):P:=h
theorem o8 {P:Prop} (h:P:=by first|exact NB5_13.out|exact NB6_1.out|exact NB6_2.out|exact NB6_3.out|exact NB6_4.out|exact NB6_5.out|exact NB6_7.out|exact NB6_8.out|exact NB6_9.out|exact NB7_1.out|exact NB7_2.out|exact NB7_3.out|exact NB7_4.out|exact NB7_5.out|exact NB7_6.out|exact NB7_8.out|exact NB7_9.out|exact NB8_1.out|exact NB8_2.out|exact NB8_3.out|exact NB8_4.out|exact NB8_5.out|exact NB8_6.out|exact NB8_7.out|exact NB8_9.out|exact NB9_1.out|exact NB9_2.out|exact NB9_3.out|exact NB9_4.out|exact NB9_5.out|exact NB9_6.out|exact NB9_7.out|exact NB9_8.out|exact NB10_3.out|exact NB10_4.out|exact NB10_5.out|exact NB10_11.out|exact NB10_12.out|exact NB10_13.out|exact NB11_3.out|exact NB11_5.out|exact NB11_10.out|exact NB12_3.out|exact NB12_4.out|exact NB12_5.out|exact NB12_10.out|exact NB13_3.out|exact NB13_4.out|exact NB13_5.out|exact NB13_10.out):P:=h
theorem nb_ {P:Prop} (h:P:=by first|exact o7|exact o8):P:=h
theorem k1_ {w0 w1 w2:World} {g:Nat} {o:Obj} (B:Aside0 (w0.heap[g]?=some o)) (hb:Below w1.heap.size w1 w2) (h:w0.heap[g]?=some o→w1.heap[g]?=some o:=by intro h_;(with_reducible repeat (first|apply dk|apply dE|apply dl|apply fQ|apply fR|apply fS|apply fT|apply fU|apply fV|apply fW|apply fX|apply fY|apply fZ|apply f5|refine dm ?_ nb_ _));exact h_):Aside0 (w2.heap[g]?=some o):=⟨fF (h B.out) hb⟩
theorem hb_ {w W w2:World} (hb:Below W.heap.size W w2) (h:Below w.heap.size w W:=by repeat (with_reducible first|exact HB.out|apply cY|apply dy|apply eO)):Aside0 (Below w.heap.size w w2):=⟨gx h hb⟩
theorem ge_ {w W:World} {g:Nat} (hg:g=W.heap.size) (h:Below w.heap.size w W:=by repeat (with_reducible first|exact HB.out|apply cY|apply dy|apply eO)):Aside0 (w.heap.size≤g):=⟨by rw [hg];exact gy h⟩
theorem nl_ {w0 W:World} {g g2:Nat} {o:Obj} (hg:g2=W.heap.size) (B:Aside0 (w0.heap[g]?=some o)) (h:w0.heap[g]?=some o→W.heap[g]?=some o:=by intro h_;(with_reducible repeat (first|apply dk|apply dE|apply dl|apply fQ|apply fR|apply fS|apply fT|apply fU|apply fV|apply fW|apply fX|apply fY|apply fZ|apply f5|refine dm ?_ nb_ _));exact h_):Aside0 (g≠g2):=⟨by rw [hg];exact Nat.ne_of_lt (ev (h B.out))⟩
theorem ng_ {w0 W:World} {g g2:Nat} {o:Obj} (hg:g2=W.heap.size) (B:Aside0 (w0.heap[g]?=some o)) (h:w0.heap[g]?=some o→W.heap[g]?=some o:=by intro h_;(with_reducible repeat (first|apply dk|apply dE|apply dl|apply fQ|apply fR|apply fS|apply fT|apply fU|apply fV|apply fW|apply fX|apply fY|apply fZ|apply f5|refine dm ?_ nb_ _));exact h_):Aside0 (g2≠g):=⟨by rw [hg];exact Nat.ne_of_gt (ev (h B.out))⟩
theorem o1_ {α β:Type} {x:Option α} {f:α→Option β} {y:β} (h:x.bind f=some y):∃ t,Aside0 (x=some t)∧f t=some y:=by
 obtain ⟨t,h1,h2⟩:=Option.bind_eq_some_iff.mp h
 exact ⟨t,⟨h1⟩,h2⟩
theorem et_ {α:Type} [BEq α] [LawfulBEq α] {a b:α} (h:a=b):(a == b)=true∧(a != b)=false:=⟨beq_iff_eq.mpr h,bne_eq_false_iff_eq.mpr h⟩
theorem ef_ {α:Type} [BEq α] [LawfulBEq α] {a b:α} (h:¬ a=b):(a == b)=false∧(a != b)=true:=⟨beq_eq_false_iff_ne.mpr h,bne_iff_ne.mpr h⟩
theorem ft_:¬ (false=true):=by decide
theorem pd {a b:Nat} (h:a≤b):(a≤b)=True∧decide (a≤b)=true∧(b<a)=False:=⟨eq_true h,decide_eq_true h,eq_false (Nat.not_lt.2 h)⟩
theorem rf_:type_of% @Kd.R_far:=@Kd.R_far
theorem jC {P Q:Nat→Prop}:∀ k,P k∧Q k→Q k:=fun _ h=>h.2
theorem k2_ {w0 w1 w2:World} {g:Nat} {o0:Obj} (o:Obj) (B:Aside0 (w0.heap[g]?=some o0)) (hb:Below w1.heap.size w1 w2) (h:w0.heap[g]?=some o0→w1.heap[g]?=some o:=by intro h_;(with_reducible repeat (first|apply dk|apply dE|apply dl|apply fQ|apply fR|apply fS|apply fT|apply fU|apply fV|apply fW|apply fX|apply fY|apply fZ|apply f5|refine dm ?_ nb_ _));exact h_):Aside0 (w2.heap[g]?=some o):=⟨fF (h B.out) hb⟩
theorem kx_ {w0 w1:World} {g:Nat} {o:Obj} (B:Aside0 (w0.heap[g]?=some o)) (h:w0.heap[g]?=some o→w1.heap[g]?=some o:=by intro h_;(with_reducible repeat (first|apply dk|apply dE|apply dl|apply fQ|apply fR|apply fS|apply fT|apply fU|apply fV|apply fW|apply fX|apply fY|apply fZ|apply f5|refine dm ?_ nb_ _));exact h_):Aside0 (w1.heap[g]?=some o):=⟨h B.out⟩
theorem u1_ {P Q:Prop} (x:Aside0 Q) (h:Q→P:=by intro h_;(with_reducible repeat (first|apply dk|apply dE|apply dl|apply fQ|apply fR|apply fS|apply fT|apply fU|apply fV|apply fW|apply fX|apply fY|apply fZ|apply f5|refine dm ?_ nb_ _));exact h_):P:=h x.out
theorem bp_ {P:Program} {ops:Array Oper} {o:Oper} {a:Act} {W:World} {Q:Exit→Act→World→Prop} {Kc:Act→World→Prop} (N:Tmp) (cs:Array Value) (t:TypeId) (h:∀ g,g=W.heap.size→∀ w1,w1.heap[g]?=some (.cells cs t (0,0))→Below W.heap.size W w1→Kc (a.put o.dst (.pointer (some ⟨g,0,none⟩))) w1) (hd:o.dst=some N:=by exact rfl) (hw:Region.wanted o (yielded ops a.tmps)=true:=by exact rfl) (hrun:(execOp a.eval o).run P W=.ok (.value (.pointer (some ⟨W.heap.size,0,none⟩))) (W.alloc (.cells cs t (0,0))):=by go_simp;first|done|rfl):if Region.wanted o (yielded ops a.tmps)=true then Oper.wp P o a W Kc Q else Kc (a.put o.dst undef) W:=lQ hw hd hrun h
theorem bT {w0 w1 w2:World} {g g':Nat} {o:Obj} (B:Aside0 (w0.heap[g']?=some o)) (hk:af w1 w2 g none) (ne:Aside0 (g'≠g)) (h:w0.heap[g']?=some o→w1.heap[g']?=some o:=by intro h_;(with_reducible repeat (first|apply dk|apply dE|apply dl|apply fQ|apply fR|apply fS|apply fT|apply fU|apply fV|apply fW|apply fX|apply fY|apply fZ|apply f5|refine dm ?_ nb_ _));exact h_):Aside0 (w2.heap[g']?=some o):=⟨af.blk hk (h B.out) ne.out (by simp)⟩
theorem cf_ {P Q:Nat→Prop} (h:∀ k,P k→Q k:=by intro k_ h_;(try simp only [and_assoc] at h_);(repeat obtain ⟨_,h_⟩:=h_);(repeat' apply And.intro) <;> first|assumption|trivial):∀ k,P k→Q k:=h
theorem mQ {P:Prop} (h:P:=by rw [hg];exact Nat.ne_of_lt (aa.lt (show aa w0 _ g s0_0 x1001_1 x1002_1 from by repeat (with_reducible first|exact HI0.out|apply aa.alloc|apply aa.drewN|apply aa.drew|apply aa.set_1|apply aa.set_2|refine aa.far ?_ NB0_1.out _|refine aa.far ?_ NB0_2.out _)))):P:=h
theorem kL {P:Prop} (h:P:=by rw [hg];exact Nat.ne_of_gt (aa.lt (show aa w0 _ g s0_0 t19 t20 from by repeat (with_reducible first|exact HI0.out|apply aa.alloc|apply aa.drewN|apply aa.drew|apply aa.set_1|apply aa.set_2|refine aa.far ?_ NB0_1.out _|refine aa.far ?_ NB0_2.out _)))):P:=h
theorem mR {P:Prop} (h:P:=by rw [hg];exact (ba (w:=wB) (g:=g) (row:=none) (by repeat (with_reducible first|exact HK.out|apply af.set_|apply cG|apply ci|apply cH|refine bL ?_ GW1.out _)))):P:=h
theorem mS {P:Prop} (h:P:=by (with_reducible repeat (first|apply ra_|apply rn_|apply rd_));exact Kd.R_mono (d8 (Kd.R_mono HO_1.out (fun k_ hk=>(⟨hk,hk.2⟩:_∧k_≠gb4)))) (fun _ hk=>hk.1.2)):P:=h
theorem ji {P:Prop} (h:P:=by have:=HK1.out;first|omega|exact Nat.le_refl _):P:=h
theorem it {P:Prop} (h:P:=by first|(rw [hy3];with_reducible exact H)|(have H2_:=(Option.bind_some _ _).symm.trans H;rw [hy3];with_reducible exact H2_)|(have H2_:=(Option.bind_some _ _).symm.trans H;with_reducible exact H2_)|with_reducible exact H|(rw [hy3];exact H)|exact H):P:=h
theorem jU {P:Prop} (h:P:=by rw [← hq_];exact (by (with_reducible repeat (first|apply ra_|apply rn_|apply rd_));exact HO1.out)):P:=h
theorem mT {P:Prop} (h:P:=by (with_reducible repeat (first|apply ra_|apply rn_|apply rd_));exact Kd.R_mono (bw (rf_ (Kd.R_types (Kd.R_types HO_1.out BK2.out (by decide)) BK1.out (by decide)) (fun _ hk=>hk.1.2) (.int .i64 t19))) (fun _ hk=>hk.1.1.1)):P:=h
theorem mU {P:Prop} (h:P:=by repeat (with_reducible first|exact HB.out|apply ba_|apply bn_|apply bd_|refine bs_ ?_ GE3.out|refine bs_ ?_ GE4.out|refine bs_ ?_ GE5.out|refine bs_ ?_ GE10.out|refine bs_ ?_ GE12.out)):P:=h
theorem mV {P:Prop} (h:P:=by repeat (first|exact (rr_ HO6.out).2.2|(with_reducible refine ca_ ?_ _)|(with_reducible refine cn_ ?_ _)|(with_reducible refine cd_ ?_))):P:=h
theorem kM {P:Prop} (h:P:=by repeat (first|exact (cb_ HR0_2.out (by repeat (with_reducible first|exact HB.out|apply ba_|apply bn_|apply bd_|refine bs_ ?_ GE1.out)))|(with_reducible refine ca_ ?_ _)|(with_reducible refine cn_ ?_ _)|(with_reducible refine cd_ ?_))):P:=h
theorem mW {P:Prop} (h:P:=by (with_reducible repeat (first|apply ra_|apply rn_|apply rd_));exact (Kd.R_mono (eL (Kd.R_types HO_4.out BK10.out (by decide))) (fun _ h_=>h_.1))):P:=h
theorem kN {P:Prop} (h:P:=by rw [hg];exact (ba (w:=w) (g:=g) (row:=none) (by repeat (with_reducible first|exact HK.out|apply af.set_|apply cG|apply ci|apply cH|refine bL ?_ GW1.out _)))):P:=h
theorem lR {P:Prop} (h:P:=by repeat (first|exact (rr_ HO4.out).2.2|(with_reducible refine ca_ ?_ _)|(with_reducible refine cn_ ?_ _)|(with_reducible refine cd_ ?_))):P:=h
theorem hJ {P:Prop} (h:P:=by (with_reducible repeat (first|apply ra_|apply rn_|apply rd_));exact (Kd.R_mono (rf_ (rf_ (rf_ (Kd.R_types HO_1.out BK3.out (by decide)) (fun _ hk=>hk.2) (.int .i64 ((bf l1 x19_1).f0))) (fun _ hk=>hk.2) (.int .i64 ((bf l1 x19_1).f1))) (fun _ hk=>hk.2) (.int .i64 ((bf l1 x19_1).f2))) (fun _ h_=>h_.1))):P:=h
theorem ck {P:Prop} (h:P:=by repeat (first|exact Drawn0.refl _|apply Drawn0.step)):P:=h
theorem mX {P:Prop} (h:P:=by repeat (with_reducible first|exact HI0.out|apply aa.alloc|apply aa.drewN|apply aa.drew|apply aa.set_1|apply aa.set_2|refine aa.far ?_ NB0_1.out _|refine aa.far ?_ NB0_2.out _|refine aa.far ?_ NB0_3.out _|refine aa.far ?_ NB0_4.out _|refine aa.far ?_ NB0_5.out _)):P:=h
theorem iu {P:Prop} (h:P:=by (with_reducible repeat (first|apply ra_|apply rn_|apply rd_));exact Kd.R_mono HO1.out (fun _ hk=>hk.2)):P:=h
theorem mY {P:Prop} (h:P:=by (with_reducible repeat (first|apply ra_|apply rn_|apply rd_));exact Kd.R_mono HO4.out (fun _ hk=>trivial)):P:=h
theorem mZ {P:Prop} (h:P:=by (with_reducible repeat (first|apply ra_|apply rn_|apply rd_));exact (Kd.R_mono (eL (Kd.R_types HO_1.out BK12.out (by decide))) (fun _ h_=>h_.1))):P:=h
theorem lS {P:Prop} (h:P:=by (with_reducible repeat (first|apply ra_|apply rn_|apply rd_));exact Kd.R_mono (bw (Kd.R_types HO_2.out BK1.out (by decide))) (fun _ hk=>hk.1)):P:=h
theorem dZ {P:Prop} (h:P:=by simp only [is,Act.put,sa_,sz_,ss_]):P:=h
theorem m6 {P:Prop} (h:P:=by (with_reducible repeat (first|apply ra_|apply rn_|apply rd_));exact (Kd.R_mono (rf_ (Kd.R_types HO3.out BK4.out (by decide)) jC _) (fun _ h_=>h_.1))):P:=h
theorem eD {P:Prop} (h:P:=by repeat (first|exact (rr_ HO_2.out).2.2|(with_reducible refine ca_ ?_ _)|(with_reducible refine cn_ ?_ _)|(with_reducible refine cd_ ?_))):P:=h
theorem jV {P:Prop} (h:P:=by repeat (with_reducible first|exact HB.out|apply ba_|apply bn_|apply bd_|refine bs_ ?_ GE1.out|refine bs_ ?_ GE2.out|refine bs_ ?_ GE3.out|refine bs_ ?_ GE4.out|refine bs_ ?_ GE5.out|refine bs_ ?_ GE6.out|refine bs_ ?_ GE7.out|refine bs_ ?_ GE8.out)):P:=h
theorem ep {P:Prop} (h:P:=by repeat (with_reducible first|exact HI0.out|apply aa.alloc|apply aa.drewN|apply aa.drew|apply aa.set_1|apply aa.set_2|refine aa.far ?_ NB0_2.out _|refine aa.far ?_ NB0_3.out _)):P:=h
theorem cF {P:Prop} (h:P:=by repeat (with_reducible first|exact HK.out|apply af.set_|apply cG|apply ci|apply cH|refine bL ?_ GW1.out _)):P:=h
theorem dv {P:Prop} (h:P:=by first|rfl|(simp;done)|(simp [*];done)):P:=h
theorem dL {P:Prop} (h:P:=by (with_reducible repeat (first|apply ra_|apply rn_|apply rd_));exact (Kd.R_mono (rf_ (Kd.R_types HO1.out BK3.out (by decide)) jC _) (fun _ h_=>h_.1))):P:=h
theorem iv {P:Prop} (h:P:=by have:=HJ1.out;first|omega|exact Nat.le_refl _):P:=h
theorem m7 {P:Prop} (h:P:=by rw [hg];exact Nat.ne_of_gt (aa.lt (show aa w _ g l0 t14 t15 from by repeat (with_reducible first|exact HI0.out|apply aa.alloc|apply aa.drewN|apply aa.drew|apply aa.set_1|apply aa.set_2|refine aa.far ?_ NB0_1.out _|refine aa.far ?_ NB0_2.out _|refine aa.far ?_ NB0_3.out _|refine aa.far ?_ NB0_4.out _)))):P:=h
theorem m8 {P:Prop} (h:P:=by repeat (with_reducible first|exact HB.out|apply ba_|apply bn_|apply bd_|refine bs_ ?_ GE3.out|refine bs_ ?_ GE4.out|refine bs_ ?_ GE5.out|refine bs_ ?_ GE10.out|refine bs_ ?_ GE13.out)):P:=h
theorem ca {P:Prop} (h:P:=by repeat (with_reducible first|exact HB.out|apply ba_|apply bn_|apply bd_|refine bs_ ?_ GE1.out|refine bs_ ?_ GE2.out|refine bs_ ?_ GE3.out|refine bs_ ?_ GE4.out)):P:=h
theorem m9 {P:Prop} (h:P:=by repeat (first|exact HKC.out|(with_reducible refine ca_ ?_ _)|(with_reducible refine cn_ ?_ _)|(with_reducible refine cd_ ?_))):P:=h
theorem eP {P:Prop} (h:P:=by (with_reducible repeat (first|apply ra_|apply rn_|apply rd_));exact HO_4.out):P:=h
theorem na {P:Prop} (h:P:=by (with_reducible repeat (first|apply ra_|apply rn_|apply rd_));exact Kd.R_mono HO1.out (fun _ hk=>⟨hk,hk⟩)):P:=h
theorem kO {P:Prop} (h:P:=by repeat (first|exact HR0.out|(with_reducible refine ca_ ?_ _)|(with_reducible refine cn_ ?_ _)|(with_reducible refine cd_ ?_))):P:=h
theorem nb {P:Prop} (h:P:=by (with_reducible repeat (first|apply ra_|apply rn_|apply rd_));exact HO5.out):P:=h
theorem ct {P:Prop} (h:P:=by repeat (with_reducible first|exact HB.out|apply ba_|apply bn_|apply bd_|refine bs_ ?_ (aa.ge HI0.out)|refine bs_ ?_ GE1.out|refine bs_ ?_ GE2.out|refine bs_ ?_ GE3.out)):P:=h
theorem nc {P:Prop} (h:P:=by rw [hg];exact Nat.ne_of_gt (ev (g:=gb1) (o:=.cells #[.int .i64 0,.bool false,.slice none 0 0,.slice none 0 0,.int .i64 0] 32 (0,0)) (u1_ BK1))):P:=h
theorem fu {P:Prop} (h:P:=by (with_reducible repeat (first|apply ra_|apply rn_|apply rd_));exact Kd.R_mono HO2.out (fun _ hk=>hk.2)):P:=h
theorem fm {P:Prop} (h:P:=by injection e2):P:=h
theorem nf {P:Prop} (h:P:=by (with_reducible repeat (first|apply ra_|apply rn_|apply rd_));exact (Kd.R_mono (eL (Kd.R_types HO_2.out BK11.out (by decide))) (fun _ h_=>h_.1))):P:=h
theorem kP {P:Prop} (h:P:=by (with_reducible repeat (first|apply ra_|apply rn_|apply rd_));exact Kd.R_mono HO3.out (fun _ hk=>⟨hk.1.1,⟨hk.1.2,hk.2⟩⟩)):P:=h
theorem ag {P:Prop} (h:P:=by decide):P:=h
theorem iw {P:Prop} (h:P:=by (with_reducible repeat (first|apply ra_|apply rn_|apply rd_));exact (Kd.R_mono (bw (Kd.R_types HO2.out BK2.out (by decide))) (fun _ h_=>h_.1))):P:=h
theorem ng {P:Prop} (h:P:=by (with_reducible repeat (first|apply ra_|apply rn_|apply rd_));exact (Kd.R_mono (rf_ (bw (Kd.R_types HO2.out BK4.out (by decide))) (fun _ hk=>hk.2) (.int .i64 (wrap64 (a0_4+1)))) (fun _ h_=>h_.1))):P:=h
theorem kQ {P:Prop} (h:P:=by repeat (first|exact (cb_ HR1_2.out HB.out)|(with_reducible refine ca_ ?_ _)|(with_reducible refine cn_ ?_ _)|(with_reducible refine cd_ ?_))):P:=h
theorem f6 {P:Prop} (h:P:=by repeat (first|exact (rr_ HO2.out).2.2|(with_reducible refine ca_ ?_ _)|(with_reducible refine cn_ ?_ _)|(with_reducible refine cd_ ?_))):P:=h
theorem nh {P:Prop} (h:P:=by (with_reducible repeat (first|apply ra_|apply rn_|apply rd_));exact Kd.R_mono (bw (Kd.R_types HO2.out BK1.out (by decide))) (fun _ hk=>hk.1)):P:=h
theorem eE {P:Prop} (h:P:=by repeat (first|exact (rr_ HO_1.out).2.2|(with_reducible refine ca_ ?_ _)|(with_reducible refine cn_ ?_ _)|(with_reducible refine cd_ ?_))):P:=h
theorem ni {P:Prop} (h:P:=by (with_reducible repeat (first|apply ra_|apply rn_|apply rd_));exact (Kd.R_mono (d8 (Kd.R_types HO_5.out BK4.out (by decide))) (fun _ h_=>h_.1))):P:=h
theorem jj {P:Prop} (h:P:=by repeat (first|exact (rr_ HO_5.out).2.2|(with_reducible refine ca_ ?_ _)|(with_reducible refine cn_ ?_ _)|(with_reducible refine cd_ ?_))):P:=h
theorem oN {P:Prop} (h:P:=by (with_reducible repeat (first|apply ra_|apply rn_|apply rd_));exact HO16.out):P:=h
theorem jW {P:Prop} (h:P:=by first|exact TabOK.below HG0.out (by repeat (with_reducible first|exact HB.out|apply ba_|apply bn_|apply bd_|refine bs_ ?_ GE1.out|refine bs_ ?_ GE2.out|refine bs_ ?_ GE3.out))|(repeat (first|exact HG0.out|apply TabOK.drew|apply TabOK.drewN))|exact TabOK.drawn HG0.out (by assumption)):P:=h
theorem nj {P:Prop} (h:P:=by (with_reducible repeat (first|apply ra_|apply rn_|apply rd_));exact Kd.R_mono HO2.out (fun _ hk=>⟨hk,hk⟩)):P:=h
theorem nk {P:Prop} (h:P:=by (with_reducible repeat (first|apply ra_|apply rn_|apply rd_));exact Kd.R_mono (bw (Kd.R_types HO1.out BK1.out (by decide))) (fun _ hk=>hk.1)):P:=h
theorem dg {P:Prop} (h:P:=by repeat (with_reducible first|exact HK.out|apply af.set_|apply cG|apply ci|apply cH)):P:=h
theorem bx {P:Prop} (h:P:=by (with_reducible repeat (first|apply ra_|apply rn_|apply rd_));exact HO1.out):P:=h
theorem jk {P:Prop} (h:P:=by repeat (with_reducible first|exact HB.out|apply ba_|apply bn_|apply bd_|refine bs_ ?_ (aa.ge HI0.out)|refine bs_ ?_ GE1.out|refine bs_ ?_ GE2.out|refine bs_ ?_ GE3.out|refine bs_ ?_ GE4.out)):P:=h
theorem eQ {P:Prop} (h:P:=by rw [hg];exact (ba (w:=w) (g:=g) (row:=none) (by repeat (with_reducible first|exact HK.out|apply af.set_|apply cG|apply ci|apply cH|refine bL ?_ GW1.out _|refine bL ?_ GW2.out _)))):P:=h
theorem nl {P:Prop} (h:P:=by (with_reducible repeat (first|apply ra_|apply rn_|apply rd_));exact (Kd.R_mono (eL (Kd.R_types HO21.out BK11.out (by decide))) (fun _ h_=>h_.1))):P:=h
theorem nm {P:Prop} (h:P:=by rw [hg];exact Nat.ne_of_lt (aa.lt (show aa w _ g l0 t6 t7 from by repeat (with_reducible first|exact HI0.out|apply aa.alloc|apply aa.drewN|apply aa.drew|apply aa.set_1|apply aa.set_2|refine aa.far ?_ NB0_1.out _|refine aa.far ?_ NB0_2.out _)))):P:=h
theorem ix {P:Prop} (h:P:=by repeat (with_reducible first|exact HB.out|apply ba_|apply bn_|apply bd_|refine bs_ ?_ GE1.out|refine bs_ ?_ GE2.out|refine bs_ ?_ GE3.out|refine bs_ ?_ GE4.out|refine bs_ ?_ GE5.out|refine bs_ ?_ GE6.out|refine bs_ ?_ GE7.out|refine bs_ ?_ GE8.out|refine bs_ ?_ GE9.out)):P:=h
theorem lT {P:Prop} (h:P:=by (with_reducible repeat (first|apply ra_|apply rn_|apply rd_));exact Kd.R_mono (bw (Kd.R_types HO1.out BK3.out (by decide))) (fun _ hk=>hk.1)):P:=h
theorem eR {P:Prop} (h:P:=by (with_reducible repeat (first|apply ra_|apply rn_|apply rd_));exact HO_3.out):P:=h
theorem aX {P:Prop} (h:P:=by first|rfl|(simp [*];done)):P:=h
theorem bZ {P:Prop} (h:P:=by repeat (with_reducible first|exact HK.out|apply af.set_|apply cG|apply ci|apply cH|refine bL ?_ GW1.out _|refine bL ?_ GW2.out _|refine bL ?_ GW3.out _)):P:=h
theorem np {P:Prop} (h:P:=by repeat (first|exact (rr_ HO3.out).2.2|(with_reducible refine ca_ ?_ _)|(with_reducible refine cn_ ?_ _)|(with_reducible refine cd_ ?_))):P:=h
theorem nq {P:Prop} (h:P:=by (with_reducible repeat (first|apply ra_|apply rn_|apply rd_));exact (Kd.R_mono (bw (Kd.R_types HO15.out BK8.out (by decide))) (fun _ h_=>h_.1))):P:=h
theorem gD {P:Prop} (h:P:=by (with_reducible repeat (first|apply ra_|apply rn_|apply rd_));exact (Kd.R_mono (bw (Kd.R_types HO1.out BK4.out (by decide))) (fun _ h_=>h_.1))):P:=h
theorem hO {P:Prop} (h:P:=by (with_reducible repeat (first|apply ra_|apply rn_|apply rd_));exact (Kd.R_mono (rf_ (rf_ (rf_ (Kd.R_types HO_2.out BK3.out (by decide)) (fun _ hk=>hk.2) (.int .i64 ((bf l1 x19_1).f0))) (fun _ hk=>hk.2) (.int .i64 ((bf l1 x19_1).f1))) (fun _ hk=>hk.2) (.int .i64 ((bf l1 x19_1).f2))) (fun _ h_=>h_.1))):P:=h
theorem dw {P:Prop} (h:P:=by repeat (with_reducible first|exact HB.out|apply ba_|apply bn_|apply bd_|refine bs_ ?_ (aa.ge HI0.out)|refine bs_ ?_ GE1.out)):P:=h
theorem nr {P:Prop} (h:P:=by (with_reducible repeat (first|apply ra_|apply rn_|apply rd_));exact Kd.R_mono (bw (Kd.R_types HO_2.out BK2.out (by decide))) (fun _ hk=>hk.1)):P:=h
theorem b6 {P:Prop} (h:P:=by repeat (first|exact (cb_ HR0_3.out HB.out)|(with_reducible refine ca_ ?_ _)|(with_reducible refine cn_ ?_ _)|(with_reducible refine cd_ ?_))):P:=h
theorem dH {P:Prop} (h:P:=by first|(rw [hy2];with_reducible exact H)|(have H2_:=(Option.bind_some _ _).symm.trans H;rw [hy2];with_reducible exact H2_)|(have H2_:=(Option.bind_some _ _).symm.trans H;with_reducible exact H2_)|with_reducible exact H|(rw [hy2];exact H)|exact H):P:=h
theorem kR {P:Prop} (h:P:=by rw [hg];exact (ba (w:=wB) (g:=g) (row:=none) (by repeat (with_reducible first|exact HK.out|apply af.set_|apply cG|apply ci|apply cH|refine bL ?_ GW1.out _|refine bL ?_ GW2.out _)))):P:=h
theorem nt {P:Prop} (h:P:=by (with_reducible repeat (first|apply ra_|apply rn_|apply rd_));exact (Kd.R_mono (d8 (Kd.R_types HO_2.out BK4.out (by decide))) (fun _ h_=>h_.1))):P:=h
theorem kS {P:Prop} (h:P:=by rw [hg];exact Nat.ne_of_lt (aa.lt (show aa w0 _ g s0_0 t19 t20 from by repeat (with_reducible first|exact HI0.out|apply aa.alloc|apply aa.drewN|apply aa.drew|apply aa.set_1|apply aa.set_2|refine aa.far ?_ NB0_1.out _|refine aa.far ?_ NB0_2.out _)))):P:=h
theorem oO {P:Prop} (h:P:=by assumption):P:=h
theorem dx {P:Prop} (h:P:=by first|(rw [hy1];with_reducible exact H)|(have H2_:=(Option.bind_some _ _).symm.trans H;rw [hy1];with_reducible exact H2_)|(have H2_:=(Option.bind_some _ _).symm.trans H;with_reducible exact H2_)|with_reducible exact H|(rw [hy1];exact H)|exact H):P:=h
theorem oP {P:Prop} (h:P:=by (with_reducible repeat (first|apply ra_|apply rn_|apply rd_));exact HO7.out):P:=h
theorem nu {P:Prop} (h:P:=by (with_reducible repeat (first|apply ra_|apply rn_|apply rd_));exact (Kd.R_mono (eL (Kd.R_types HO20.out BK11.out (by decide))) (fun _ h_=>h_.1))):P:=h
theorem nv {P:Prop} (h:P:=by (with_reducible repeat (first|apply ra_|apply rn_|apply rd_));exact (Kd.R_mono (d8 (Kd.R_types HO_3.out BK4.out (by decide))) (fun _ h_=>h_.1))):P:=h
theorem aj {P:Prop} (h:P:=by repeat (with_reducible first|exact HB.out|apply ba_|apply bn_|apply bd_|refine bs_ ?_ GE1.out)):P:=h
theorem nw {P:Prop} (h:P:=by rw [hg];exact Nat.ne_of_lt (aa.lt (show aa w _ g l0 t14 t15 from by repeat (with_reducible first|exact HI0.out|apply aa.alloc|apply aa.drewN|apply aa.drew|apply aa.set_1|apply aa.set_2|refine aa.far ?_ NB0_1.out _|refine aa.far ?_ NB0_2.out _|refine aa.far ?_ NB0_3.out _)))):P:=h
theorem nx {P:Prop} (h:P:=by (with_reducible repeat (first|apply ra_|apply rn_|apply rd_));exact (Kd.R_mono (bw (Kd.R_types HO14.out BK8.out (by decide))) (fun _ h_=>h_.1))):P:=h
theorem ny {P:Prop} (h:P:=by (with_reducible repeat (first|apply ra_|apply rn_|apply rd_));exact (Kd.R_mono (eL (Kd.R_types HO21.out BK12.out (by decide))) (fun _ h_=>h_.1))):P:=h
theorem iy {P:Prop} (h:P:=by (with_reducible repeat (first|apply ra_|apply rn_|apply rd_));exact (Kd.R_mono (bw (Kd.R_types HO1.out BK2.out (by decide))) (fun _ h_=>h_.1))):P:=h
theorem nz {P:Prop} (h:P:=by (with_reducible repeat (first|apply ra_|apply rn_|apply rd_));exact (Kd.R_mono (bw (Kd.R_types HO13.out BK8.out (by decide))) (fun _ h_=>h_.1))):P:=h
theorem f8 {P:Prop} (h:P:=by first|exact Nat.ne_of_lt (Nat.lt_of_lt_of_le (by have:=World.block_lt_of_cell? _ _ hw330_1;first|rwa [bu] at this|exact this) GW4.out)|(rw [bu];exact Nat.ne_of_lt (Nat.lt_of_lt_of_le (by have:=World.block_lt_of_cell? _ _ hw330_1;first|rwa [bu] at this|exact this) GW4.out))|(show (Addr.add _ _).block≠_;rw [bu];exact Nat.ne_of_lt (Nat.lt_of_lt_of_le (by have:=World.block_lt_of_cell? _ _ hw330_1;first|rwa [bu] at this|exact this) GW4.out))|(dsimp only;exact Nat.ne_of_lt (Nat.lt_of_lt_of_le (by have:=World.block_lt_of_cell? _ _ hw330_1;first|rwa [bu] at this|exact this) GW4.out))):P:=h
theorem bN {P:Prop} (h:P:=by repeat (with_reducible first|exact HI0.out|apply aa.alloc|apply aa.drewN|apply aa.drew|apply aa.set_1|apply aa.set_2|refine aa.far ?_ NB0_1.out _|refine aa.far ?_ NB0_2.out _|refine aa.far ?_ NB0_3.out _)):P:=h
theorem jX {P:Prop} (h:P:=by repeat (with_reducible first|exact HB.out|apply ba_|apply bn_|apply bd_|refine bs_ ?_ GE3.out|refine bs_ ?_ GE5.out|refine bs_ ?_ GE10.out)):P:=h
theorem iz {P:Prop} (h:P:=by rw [hg];exact (bz_ (by repeat (with_reducible first|exact HB.out|apply ba_|apply bn_|apply bd_)))):P:=h
theorem kT {P:Prop} (h:P:=by (with_reducible repeat (first|apply ra_|apply rn_|apply rd_));exact (Kd.R_mono (rf_ (bw (Kd.R_types HO3.out BK4.out (by decide))) (fun _ hk=>hk.2) (.int .i64 (wrap64 (a0_4+1)))) (fun _ h_=>h_.1))):P:=h
theorem nA {P:Prop} (h:P:=by (with_reducible repeat (first|apply ra_|apply rn_|apply rd_));exact (Kd.R_mono (d8 (Kd.R_types HO_4.out BK4.out (by decide))) (fun _ h_=>h_.1))):P:=h
theorem nB {P:Prop} (h:P:=by first|(rw [bu];exact hf1_3 ad1 rfl (by omega))|(show (Addr.add _ _).block≠_;rw [bu];exact hf1_3 ad1 rfl (by omega))|exact hf1_3 ad1 rfl (by omega)):P:=h
theorem d9 {P:Prop} (h:P:=by (with_reducible repeat (first|apply ra_|apply rn_|apply rd_));exact HO3.out):P:=h
theorem nC {P:Prop} (h:P:=by rw [hg];exact Nat.ne_of_gt (aa.lt (show aa w _ g l0 t14 t15 from by repeat (with_reducible first|exact HI0.out|apply aa.alloc|apply aa.drewN|apply aa.drew|apply aa.set_1|apply aa.set_2|refine aa.far ?_ NB0_1.out _|refine aa.far ?_ NB0_2.out _|refine aa.far ?_ NB0_3.out _)))):P:=h
theorem nD {P:Prop} (h:P:=by repeat (with_reducible first|exact HB.out|apply ba_|apply bn_|apply bd_|refine bs_ ?_ GE3.out|refine bs_ ?_ GE5.out|refine bs_ ?_ GE10.out|refine bs_ ?_ GE11.out)):P:=h
theorem nE {P:Prop} (h:P:=by (with_reducible repeat (first|apply ra_|apply rn_|apply rd_));exact (Kd.R_mono (eL (Kd.R_types HO_2.out BK12.out (by decide))) (fun _ h_=>h_.1))):P:=h
theorem nF {P:Prop} (h:P:=by (with_reducible repeat (first|apply ra_|apply rn_|apply rd_));exact (Kd.R_mono (d8 (Kd.R_types HO_3.out BK10.out (by decide))) (fun _ h_=>h_.1))):P:=h
theorem nG {P:Prop} (h:P:=by repeat (first|exact (rr_ HO5.out).2.2|(with_reducible refine ca_ ?_ _)|(with_reducible refine cn_ ?_ _)|(with_reducible refine cd_ ?_))):P:=h
theorem jY {P:Prop} (h:P:=by repeat (with_reducible first|exact HB.out|apply ba_|apply bn_|apply bd_|refine bs_ ?_ GE1.out|refine bs_ ?_ GE2.out|refine bs_ ?_ GE3.out|refine bs_ ?_ GE4.out|refine bs_ ?_ GE5.out)):P:=h
theorem nH {P:Prop} (h:P:=by (with_reducible repeat (first|apply ra_|apply rn_|apply rd_));exact (Kd.R_mono (rf_ (bw (Kd.R_types HO1.out BK4.out (by decide))) (fun _ hk=>hk.2) (.int .i64 (wrap64 (a0_4+1)))) (fun _ h_=>h_.1))):P:=h
theorem nI {P:Prop} (h:P:=by (with_reducible repeat (first|apply ra_|apply rn_|apply rd_));exact (Kd.R_mono (bw (Kd.R_types HO15.out BK7.out (by decide))) (fun _ h_=>h_.1))):P:=h
theorem aD {P:Prop} (h:P:=by repeat (with_reducible first|exact HB.out|apply ba_|apply bn_|apply bd_|refine bs_ ?_ GE1.out|refine bs_ ?_ GE2.out|refine bs_ ?_ GE3.out)):P:=h
theorem di {P:Prop} (h:P:=by repeat (with_reducible first|exact HB.out|apply ba_|apply bn_|apply bd_|refine bs_ ?_ (aa.ge HI0.out))):P:=h
theorem eS {P:Prop} (h:P:=by repeat (with_reducible first|exact HB.out|apply ba_|apply bn_|apply bd_|refine bs_ ?_ GE3.out|refine bs_ ?_ GE4.out|refine bs_ ?_ GE5.out|refine bs_ ?_ GE10.out)):P:=h
theorem f9 {P:Prop} (h:P:=by (with_reducible repeat (first|apply ra_|apply rn_|apply rd_));exact Kd.R_mono HO_2.out (fun _ hk=>⟨hk.1.2,⟨hk.2,hk.1.1⟩⟩)):P:=h
theorem ga {P:Prop} (h:P:=by first|exact Nat.ne_of_lt (Nat.lt_of_lt_of_le (by have:=World.block_lt_of_cell? _ _ hw330_2;first|rwa [bu] at this|exact this) GW4.out)|(rw [bu];exact Nat.ne_of_lt (Nat.lt_of_lt_of_le (by have:=World.block_lt_of_cell? _ _ hw330_2;first|rwa [bu] at this|exact this) GW4.out))|(show (Addr.add _ _).block≠_;rw [bu];exact Nat.ne_of_lt (Nat.lt_of_lt_of_le (by have:=World.block_lt_of_cell? _ _ hw330_2;first|rwa [bu] at this|exact this) GW4.out))|(dsimp only;exact Nat.ne_of_lt (Nat.lt_of_lt_of_le (by have:=World.block_lt_of_cell? _ _ hw330_2;first|rwa [bu] at this|exact this) GW4.out))):P:=h
theorem nJ {P:Prop} (h:P:=by (with_reducible repeat (first|apply ra_|apply rn_|apply rd_));exact (Kd.R_mono (bw (Kd.R_types HO6.out BK5.out (by decide))) (fun _ h_=>h_.1))):P:=h
theorem nK {P:Prop} (h:P:=by (with_reducible repeat (first|apply ra_|apply rn_|apply rd_));exact Kd.R_mono (bw (Kd.R_types HO2.out BK4.out (by decide))) (fun _ hk=>hk.1)):P:=h
theorem iA {P:Prop} (h:P:=by have:=HK1.out;have:=HJ1.out;omega):P:=h
theorem nL {P:Prop} (h:P:=by (with_reducible repeat (first|apply ra_|apply rn_|apply rd_));exact Kd.R_mono (bw (rf_ (Kd.R_types (Kd.R_types HO_2.out BK2.out (by decide)) BK1.out (by decide)) (fun _ hk=>hk.1.2) (.int .i64 t19))) (fun _ hk=>hk.1.1.1)):P:=h
theorem fo {P:Prop} (h:P:=by rw [lt_];have h_:(x5_1:Int)≤(l0.length:Int):=od_ (by first|(with_reducible assumption)|assumption);omega):P:=h
theorem kU {P:Prop} (h:P:=by rw [hg];exact (ba (w:=wB) (g:=g) (row:=none) (by repeat (with_reducible first|exact HK.out|apply af.set_|apply cG|apply ci|apply cH|refine bL ?_ GW1.out _|refine bL ?_ GW2.out _|refine bL ?_ GW3.out _)))):P:=h
theorem nM {P:Prop} (h:P:=by repeat (with_reducible first|exact HB.out|apply ba_|apply bn_|apply bd_|refine bs_ ?_ (aa.ge HI0.out)|refine bs_ ?_ GE1.out|refine bs_ ?_ GE2.out|refine bs_ ?_ GE3.out|refine bs_ ?_ GE4.out|refine bs_ ?_ GE5.out)):P:=h
theorem nN {P:Prop} (h:P:=by first|(rw [hy5];with_reducible exact H)|(have H2_:=(Option.bind_some _ _).symm.trans H;rw [hy5];with_reducible exact H2_)|(have H2_:=(Option.bind_some _ _).symm.trans H;with_reducible exact H2_)|with_reducible exact H|(rw [hy5];exact H)|exact H):P:=h
theorem nO {P:Prop} (h:P:=by (with_reducible repeat (first|apply ra_|apply rn_|apply rd_));exact (Kd.R_mono (bw (Kd.R_types HO13.out BK7.out (by decide))) (fun _ h_=>h_.1))):P:=h
theorem kV {P:Prop} (h:P:=by (with_reducible repeat (first|apply ra_|apply rn_|apply rd_));exact (Kd.R_mono (rf_ (bw (Kd.R_types HO4.out BK4.out (by decide))) (fun _ hk=>hk.2) (.int .i64 (wrap64 (a0_4+1)))) (fun _ h_=>h_.1))):P:=h
theorem nP {P:Prop} (h:P:=by (with_reducible repeat (first|apply ra_|apply rn_|apply rd_));exact (Kd.R_mono (bw (Kd.R_types HO3.out BK2.out (by decide))) (fun _ h_=>h_.1))):P:=h
theorem bB {P:Prop} (h:P:=by simp):P:=h
theorem nQ {P:Prop} (h:P:=by rw [hg];exact Nat.ne_of_gt (aa.lt (show aa w _ g l0 t6 t7 from by repeat (with_reducible first|exact HI0.out|apply aa.alloc|apply aa.drewN|apply aa.drew|apply aa.set_1|apply aa.set_2|refine aa.far ?_ NB0_1.out _|refine aa.far ?_ NB0_2.out _)))):P:=h
theorem nR {P:Prop} (h:P:=by repeat (first|exact (cb_ HR1_3.out HB.out)|(with_reducible refine ca_ ?_ _)|(with_reducible refine cn_ ?_ _)|(with_reducible refine cd_ ?_))):P:=h
theorem ay {P:Prop} (h:P:=by first|(with_reducible assumption)|assumption):P:=h
theorem jZ {P:Prop} (h:P:=by first|rfl|(simp;done)|(simp only [← hji1] <;> (first|rfl|simp))|(simp [*];done)):P:=h
theorem nS {P:Prop} (h:P:=by (with_reducible repeat (first|apply ra_|apply rn_|apply rd_));exact Kd.R_mono (bw (Kd.R_types HO1.out BK4.out (by decide))) (fun _ hk=>hk.1)):P:=h
theorem bm {P:Prop} (h:P:=by omega):P:=h
theorem nT {P:Prop} (h:P:=by (with_reducible repeat (first|apply ra_|apply rn_|apply rd_));exact (Kd.R_mono (eL (Kd.R_types HO_2.out BK13.out (by decide))) (fun _ h_=>h_.1))):P:=h
theorem nU {P:Prop} (h:P:=by (with_reducible repeat (first|apply ra_|apply rn_|apply rd_));exact Kd.R_mono HO2.out (fun _ hk=>⟨trivial,hk⟩)):P:=h
theorem dF {P:Prop} (h:P:=by first|exact Kd.R_nil _ _ _ _ _|exact Kd.N_nil _ _ _ _ _|exact Kd.V_nil _ _ _ _ _|exact Kd.Q_nil _ _ _ _ _|exact Kd.S_nil _ _ _ _ _):P:=h
theorem lU {P:Prop} (h:P:=by first|(rw [hy4];with_reducible exact H)|(have H2_:=(Option.bind_some _ _).symm.trans H;rw [hy4];with_reducible exact H2_)|(have H2_:=(Option.bind_some _ _).symm.trans H;with_reducible exact H2_)|with_reducible exact H|(rw [hy4];exact H)|exact H):P:=h
theorem br {P:Prop} (h:P:=by (with_reducible repeat (first|apply ra_|apply rn_|apply rd_));exact HO_1.out):P:=h
theorem kW {P:Prop} (h:P:=by rw [hg];exact (ba (w:=wB) (g:=g) (row:=none) (by repeat (with_reducible first|exact HK.out|apply af.set_|apply cG|apply ci|apply cH|refine bL ?_ GW1.out _|refine bL ?_ GW2.out _|refine bL ?_ GW3.out _|refine bL ?_ GW4.out _)))):P:=h
theorem lV {P:Prop} (h:P:=by repeat (with_reducible first|exact HB.out|apply ba_|apply bn_|apply bd_|refine bs_ ?_ GE3.out|refine bs_ ?_ GE4.out|refine bs_ ?_ GE5.out|refine bs_ ?_ GE8.out)):P:=h
theorem jl {P:Prop} (h:P:=by first|simpa using c2|(simp at c2 ⊢;omega)):P:=h
theorem nV {P:Prop} (h:P:=by (with_reducible repeat (first|apply ra_|apply rn_|apply rd_));exact (Kd.R_mono (bw (Kd.R_types HO14.out BK7.out (by decide))) (fun _ h_=>h_.1))):P:=h
theorem iB {P:Prop} (h:P:=by repeat (first|exact (rr_ HO_4.out).2.2|(with_reducible refine ca_ ?_ _)|(with_reducible refine cn_ ?_ _)|(with_reducible refine cd_ ?_))):P:=h
theorem nW {P:Prop} (h:P:=by (with_reducible repeat (first|apply ra_|apply rn_|apply rd_));exact (Kd.R_mono (eL (Kd.R_types HO_1.out BK13.out (by decide))) (fun _ h_=>h_.1))):P:=h
theorem j4 {P:Prop} (h:P:=by rw [hg];exact Nat.ne_of_gt (aa.lt (show aa w0 _ g s0_0 s0_1 s0_2 from by repeat (with_reducible first|exact HI0.out|apply aa.alloc|apply aa.drewN|apply aa.drew|apply aa.set_1|apply aa.set_2)))):P:=h
theorem nX {P:Prop} (h:P:=by first|exact TabOK.below HG0.out (by repeat (with_reducible first|exact HB.out|apply ba_|apply bn_|apply bd_|refine bs_ ?_ GE1.out|refine bs_ ?_ GE2.out|refine bs_ ?_ GE3.out|refine bs_ ?_ GE4.out))|(repeat (first|exact HG0.out|apply TabOK.drew|apply TabOK.drewN))|exact TabOK.drawn HG0.out (by assumption)):P:=h
theorem lW {P:Prop} (h:P:=by (with_reducible repeat (first|apply ra_|apply rn_|apply rd_));exact Kd.R_mono HO3.out (fun _ hk=>hk.2)):P:=h
theorem j5 {P:Prop} (h:P:=by rw [← hq_];exact (by repeat (with_reducible first|exact HB.out|apply ba_|apply bn_|apply bd_|refine bs_ ?_ GE1.out|refine bs_ ?_ GE2.out|refine bs_ ?_ GE3.out))):P:=h
theorem nY {P:Prop} (h:P:=by (with_reducible repeat (first|apply ra_|apply rn_|apply rd_));exact (Kd.R_mono (eL (Kd.R_types HO21.out BK13.out (by decide))) (fun _ h_=>h_.1))):P:=h
theorem gc {P:Prop} (h:P:=by rw [hg];exact (ba (w:=w) (g:=g) (row:=none) (by repeat (with_reducible first|exact HK.out|apply af.set_|apply cG|apply ci|apply cH)))):P:=h
theorem kX {P:Prop} (h:P:=by (try simp only [Int.add_zero]);repeat (with_reducible first|exact HI0.out|apply aa.alloc|apply aa.drewN|apply aa.drew|apply aa.set_1|apply aa.set_2)):P:=h
theorem bz {P:Prop} (h:P:=by repeat (first|exact (cb_ HR0_2.out HB.out)|(with_reducible refine ca_ ?_ _)|(with_reducible refine cn_ ?_ _)|(with_reducible refine cd_ ?_))):P:=h
theorem nZ {P:Prop} (h:P:=by repeat (first|exact (rr_ HO7.out).2.2|(with_reducible refine ca_ ?_ _)|(with_reducible refine cn_ ?_ _)|(with_reducible refine cd_ ?_))):P:=h
theorem n0 {P:Prop} (h:P:=by (with_reducible repeat (first|apply ra_|apply rn_|apply rd_));exact (Kd.R_mono (eL (Kd.R_types HO_3.out BK10.out (by decide))) (fun _ h_=>h_.1))):P:=h
theorem lX {P:Prop} (h:P:=by (with_reducible repeat (first|apply ra_|apply rn_|apply rd_));exact Kd.R_mono HO2.out (fun _ hk=>trivial)):P:=h
theorem cd {P:Prop} (h:P:=by (with_reducible repeat (first|apply ra_|apply rn_|apply rd_));exact HO2.out):P:=h
theorem bI {P:Prop} (h:P:=by repeat (with_reducible first|exact HI0.out|apply aa.alloc|apply aa.drewN|apply aa.drew|apply aa.set_1|apply aa.set_2|refine aa.far ?_ NB0_1.out _|refine aa.far ?_ NB0_2.out _)):P:=h
theorem j6 {P:Prop} (h:P:=by (with_reducible repeat (first|apply ra_|apply rn_|apply rd_));exact HO4.out):P:=h
theorem lY {P:Prop} (h:P:=by (with_reducible repeat (first|apply ra_|apply rn_|apply rd_));exact Kd.R_mono (bw (Kd.R_types HO2.out BK3.out (by decide))) (fun _ hk=>hk.1)):P:=h
theorem oQ {P:Prop} (h:P:=by (with_reducible repeat (first|apply ra_|apply rn_|apply rd_));exact HO6.out):P:=h
theorem bG {P:Prop} (h:P:=by (with_reducible repeat (first|apply ra_|apply rn_|apply rd_));exact HO_2.out):P:=h
theorem j7 {P:Prop} (h:P:=by repeat (with_reducible first|exact HB.out|apply ba_|apply bn_|apply bd_|refine bs_ ?_ GE1.out|refine bs_ ?_ GE2.out|refine bs_ ?_ GE3.out|refine bs_ ?_ GE4.out|refine bs_ ?_ GE5.out|refine bs_ ?_ GE6.out|refine bs_ ?_ GE7.out)):P:=h
theorem j8 {P:Prop} (h:P:=by rw [hg];exact Nat.ne_of_lt (aa.lt (show aa w0 _ g s0_0 s0_1 s0_2 from by repeat (with_reducible first|exact HI0.out|apply aa.alloc|apply aa.drewN|apply aa.drew|apply aa.set_1|apply aa.set_2)))):P:=h
theorem n3 {P:Prop} (h:P:=by (with_reducible repeat (first|apply ra_|apply rn_|apply rd_));exact (Kd.R_mono (Kd.R_mono (d8 (rf_ (rf_ (rf_ (rf_ (rf_ (Kd.R_types (Kd.R_types HO7.out BK3.out (by decide)) BK4.out (by decide)) (fun _ hk=>hk.1.2) (.int .i64 t23)) (fun _ hk=>hk.1.2) (.bool t24)) (fun _ hk=>hk.1.2) (.slice Ao6 t25.length co6)) (fun _ hk=>hk.1.2) (.slice Ao7 t26.length co7)) (fun _ hk=>hk.1.2) (.int .i64 t27))) (fun _ h_=>h_.1)) (fun _ h_=>h_.1))):P:=h
theorem dW {P:Prop} (h:P:=by repeat (first|exact (rr_ HO1.out).2.2|(with_reducible refine ca_ ?_ _)|(with_reducible refine cn_ ?_ _)|(with_reducible refine cd_ ?_))):P:=h
theorem lZ {P:Prop} (h:P:=by (with_reducible repeat (first|apply ra_|apply rn_|apply rd_));exact (Kd.R_mono (d8 (Kd.R_types HO_4.out BK10.out (by decide))) (fun _ h_=>h_.1))):P:=h
theorem n4 {P:Prop} (h:P:=by (with_reducible repeat (first|apply ra_|apply rn_|apply rd_));exact (Kd.R_mono (rf_ (d8 (Kd.R_types HO_1.out BK10.out (by decide))) (fun _ hk=>hk.2) (.int .i64 (rd t34 (ji1)))) (fun _ h_=>h_.1))):P:=h
theorem eT {P:Prop} (h:P:=by repeat (with_reducible first|exact HB.out|apply ba_|apply bn_|apply bd_|refine bs_ ?_ (aa.ge HI0.out)|refine bs_ ?_ GE2.out|refine bs_ ?_ GE3.out)):P:=h
theorem dz {P:Prop} (h:P:=by repeat (with_reducible first|exact HI0.out|apply aa.alloc|apply aa.drewN|apply aa.drew|apply aa.set_1|apply aa.set_2)):P:=h
theorem n5 {P:Prop} (h:P:=by (with_reducible repeat (first|apply ra_|apply rn_|apply rd_));exact (Kd.R_mono (eL (Kd.R_types HO_1.out BK11.out (by decide))) (fun _ h_=>h_.1))):P:=h
theorem gg {P:Prop} (h:P:=by (with_reducible repeat (first|apply ra_|apply rn_|apply rd_));exact Kd.R_mono HO4.out (fun _ hk=>⟨hk.1.1,⟨hk.1.2,hk.2⟩⟩)):P:=h
theorem gE {P:Prop} (h:P:=by repeat (with_reducible first|exact HB.out|apply ba_|apply bn_|apply bd_|refine bs_ ?_ GE1.out|refine bs_ ?_ GE2.out|refine bs_ ?_ GE3.out|refine bs_ ?_ GE4.out|refine bs_ ?_ GE5.out|refine bs_ ?_ GE6.out)):P:=h
theorem n6 {P:Prop} (h:P:=by (with_reducible repeat (first|apply ra_|apply rn_|apply rd_));exact (Kd.R_mono (rf_ (Kd.R_types HO2.out BK4.out (by decide)) jC _) (fun _ h_=>h_.1))):P:=h
theorem aE {P:Prop} (h:P:=by first|rfl|(simp [*,eb,ec] <;> rfl)):P:=h
theorem cb {P:Prop} (h:P:=by repeat (with_reducible first|exact HK.out|apply af.set_|apply cG|apply ci|apply cH|refine bL ?_ GW1.out _|refine bL ?_ GW2.out _)):P:=h
theorem n7 {P:Prop} (h:P:=by (with_reducible repeat (first|apply ra_|apply rn_|apply rd_));exact (Kd.R_mono (eL (Kd.R_types HO20.out BK12.out (by decide))) (fun _ h_=>h_.1))):P:=h
theorem n8 {P:Prop} (h:P:=by first|(rw [bu];exact hf1_3 _ rfl (by omega))|exact hf1_3 _ rfl (by omega)|exact hf1_3 ad1 rfl (by omega)):P:=h
theorem iC {P:Prop} (h:P:=by first|exact TabOK.below HG0.out (by repeat (with_reducible first|exact HB.out|apply ba_|apply bn_|apply bd_|refine bs_ ?_ GE1.out|refine bs_ ?_ GE2.out|refine bs_ ?_ GE3.out|refine bs_ ?_ GE4.out|refine bs_ ?_ GE5.out|refine bs_ ?_ GE6.out|refine bs_ ?_ GE7.out|refine bs_ ?_ GE8.out|refine bs_ ?_ GE9.out|refine bs_ ?_ GE10.out|refine bs_ ?_ GE11.out|refine bs_ ?_ GE12.out|refine bs_ ?_ GE13.out))|(repeat (first|exact HG0.out|apply TabOK.drew|apply TabOK.drewN))|exact TabOK.drawn HG0.out (by assumption)):P:=h
theorem n9 {P:Prop} (h:P:=by (with_reducible repeat (first|apply ra_|apply rn_|apply rd_));exact (Kd.R_mono (eL (Kd.R_types HO20.out BK13.out (by decide))) (fun _ h_=>h_.1))):P:=h
theorem gF {P:Prop} (h:P:=by first|exact TabOK.below HG0.out (by repeat (with_reducible first|exact HB.out|apply ba_|apply bn_|apply bd_|refine bs_ ?_ GE1.out))|(repeat (first|exact HG0.out|apply TabOK.drew|apply TabOK.drewN))|exact TabOK.drawn HG0.out (by assumption)):P:=h
theorem oa {P:Prop} (h:P:=by (with_reducible repeat (first|apply ra_|apply rn_|apply rd_));exact Kd.R_mono (bw (Kd.R_types HO_1.out BK2.out (by decide))) (fun _ hk=>hk.1)):P:=h
theorem ai {P:Prop} (h:P:=by repeat (with_reducible first|exact HB.out|apply ba_|apply bn_|apply bd_)):P:=h
theorem aY {P:Prop} (h:P:=by kernel_rfl):P:=h
theorem ob {P:Prop} (h:P:=by rw [hg];exact Nat.ne_of_gt (aa.lt (show aa w0 _ g s0_0 x1001_1 x1002_1 from by repeat (with_reducible first|exact HI0.out|apply aa.alloc|apply aa.drewN|apply aa.drew|apply aa.set_1|apply aa.set_2|refine aa.far ?_ NB0_1.out _|refine aa.far ?_ NB0_2.out _)))):P:=h
theorem oc {P:Prop} (h:P:=by repeat (first|exact (cb_ HR0.out HB.out)|(with_reducible refine ca_ ?_ _)|(with_reducible refine cn_ ?_ _)|(with_reducible refine cd_ ?_))):P:=h
theorem jm {P:Prop} (h:P:=by repeat (with_reducible first|exact HI0.out|apply aa.alloc|apply aa.drewN|apply aa.drew|apply aa.set_1|apply aa.set_2|refine aa.far ?_ NB0_1.out _|refine aa.far ?_ NB0_2.out _|refine aa.far ?_ NB0_3.out _|refine aa.far ?_ NB0_4.out _)):P:=h
theorem j9 {P:Prop} (h:P:=by first|rfl|(simp [eb,ec] <;> rfl)|(simp only [← hji1];first|rfl|(simp [eb,ec] <;> rfl))|(simp [*,eb,ec] <;> rfl)):P:=h
theorem cJ {P:Prop} (h:P:=by repeat (with_reducible first|exact HB.out|apply ba_|apply bn_|apply bd_|refine bs_ ?_ (aa.ge HI0.out)|refine bs_ ?_ GE1.out|refine bs_ ?_ GE2.out)):P:=h
theorem jo {P:Prop} (h:P:=by (with_reducible repeat (first|apply ra_|apply rn_|apply rd_));exact Kd.R_mono HO5.out (fun _ hk=>⟨hk.1.1,⟨hk.1.2,hk.2⟩⟩)):P:=h
theorem oR {P:Prop} (h:P:=by (with_reducible repeat (first|apply ra_|apply rn_|apply rd_));exact HO8.out):P:=h
theorem oS {P:Prop} (h:P:=by (with_reducible repeat (first|apply ra_|apply rn_|apply rd_));exact HO9.out):P:=h
theorem fp {P:Prop} (h:P:=by repeat (with_reducible first|exact HK.out|apply af.set_|apply cG|apply ci|apply cH|refine bL ?_ GW1.out _|refine bL ?_ GW2.out _|refine bL ?_ GW3.out _|refine bL ?_ GW4.out _)):P:=h
theorem gh {P:Prop} (h:P:=by (with_reducible repeat (first|apply ra_|apply rn_|apply rd_));exact Kd.R_mono HO_1.out (fun _ hk=>⟨hk.1.2,⟨hk.2,hk.1.1⟩⟩)):P:=h
theorem od {P:Prop} (h:P:=by first|exact Nat.ne_of_lt (Nat.lt_of_lt_of_le (by have:=World.block_lt_of_cell? _ _ hw601_0;first|rwa [bu] at this|exact this) GW3.out)|(rw [bu];exact Nat.ne_of_lt (Nat.lt_of_lt_of_le (by have:=World.block_lt_of_cell? _ _ hw601_0;first|rwa [bu] at this|exact this) GW3.out))|(show (Addr.add _ _).block≠_;rw [bu];exact Nat.ne_of_lt (Nat.lt_of_lt_of_le (by have:=World.block_lt_of_cell? _ _ hw601_0;first|rwa [bu] at this|exact this) GW3.out))|(dsimp only;exact Nat.ne_of_lt (Nat.lt_of_lt_of_le (by have:=World.block_lt_of_cell? _ _ hw601_0;first|rwa [bu] at this|exact this) GW3.out))):P:=h
theorem cM {P:Prop} (h:P:=by repeat (with_reducible first|exact HI0.out|apply aa.alloc|apply aa.drewN|apply aa.drew|apply aa.set_1|apply aa.set_2|refine aa.far ?_ NB0_1.out _)):P:=h
theorem l2 {P:Prop} (h:P:=by repeat (first|exact (rr_ HO_3.out).2.2|(with_reducible refine ca_ ?_ _)|(with_reducible refine cn_ ?_ _)|(with_reducible refine cd_ ?_))):P:=h
theorem hU {P:Prop} (h:P:=by (with_reducible repeat (first|apply ra_|apply rn_|apply rd_));exact (Kd.R_mono (bw (Kd.R_types HO2.out BK4.out (by decide))) (fun _ h_=>h_.1))):P:=h
theorem l3 {P:Prop} (h:P:=by (with_reducible repeat (first|apply ra_|apply rn_|apply rd_));exact Kd.R_mono (bw (Kd.R_types HO_1.out BK1.out (by decide))) (fun _ hk=>hk.1)):P:=h
theorem hX {P:Prop} (h:P:=by (with_reducible repeat (first|apply ra_|apply rn_|apply rd_));exact (Kd.R_mono (d8 (Kd.R_mono HO_1.out (fun k_ hk=>(⟨hk,hk.2⟩:_∧k_≠gb4)))) (fun _ h_=>h_.1))):P:=h
theorem gG {P:Prop} (h:P:=by first|(rw [hji1] at H;exact H)|(simp only [hji1] at H ⊢;exact H)):P:=h
theorem fv {P:Prop} (h:P:=by first|omega|exact Nat.le_refl _):P:=h
theorem l4 {P:Prop} (h:P:=by (with_reducible repeat (first|apply ra_|apply rn_|apply rd_));exact (Kd.R_mono (d8 (Kd.R_types HO1.out BK3.out (by decide))) (fun _ h_=>h_.1))):P:=h
theorem ka {P:Prop} (h:P:=by (with_reducible repeat (first|apply ra_|apply rn_|apply rd_));exact Kd.R_mono (rf_ (Kd.R_types HO1.out BK3.out (by decide)) jC _) (fun _ hk=>trivial)):P:=h
theorem eq {P:Prop} (h:P:=by repeat (with_reducible first|exact HK.out|apply af.set_|apply cG|apply ci|apply cH|refine bL ?_ GW2.out _|refine bL ?_ GW3.out _)):P:=h
theorem oe {P:Prop} (h:P:=by repeat (with_reducible first|exact HK.out|apply af.set_|apply cG|apply ci|apply cH|refine bL ?_ GW1.out _|refine bL ?_ GW2.out _|refine bL ?_ GW3.out _|refine bL ?_ GW4.out _|refine bL ?_ GW5.out _)):P:=h
theorem oT {P:Prop} (h:P:=by (with_reducible repeat (first|apply ra_|apply rn_|apply rd_));exact HO17.out):P:=h
theorem eU {P:Prop} (h:P:=by repeat (with_reducible first|exact HB.out|apply ba_|apply bn_|apply bd_|refine bs_ ?_ GE3.out|refine bs_ ?_ GE4.out|refine bs_ ?_ GE5.out)):P:=h
theorem gi {P:Prop} (h:P:=by first|exact Nat.ne_of_lt (Nat.lt_of_lt_of_le (by have:=World.block_lt_of_cell? _ _ hw330_0;first|rwa [bu] at this|exact this) GW4.out)|(rw [bu];exact Nat.ne_of_lt (Nat.lt_of_lt_of_le (by have:=World.block_lt_of_cell? _ _ hw330_0;first|rwa [bu] at this|exact this) GW4.out))|(show (Addr.add _ _).block≠_;rw [bu];exact Nat.ne_of_lt (Nat.lt_of_lt_of_le (by have:=World.block_lt_of_cell? _ _ hw330_0;first|rwa [bu] at this|exact this) GW4.out))|(dsimp only;exact Nat.ne_of_lt (Nat.lt_of_lt_of_le (by have:=World.block_lt_of_cell? _ _ hw330_0;first|rwa [bu] at this|exact this) GW4.out))):P:=h
theorem oh {P:Prop} (h:P:=by (with_reducible repeat (first|apply ra_|apply rn_|apply rd_));exact (Kd.R_mono (bw (Kd.R_types HO7.out BK5.out (by decide))) (fun _ h_=>h_.1))):P:=h
theorem ol {P:Prop} (h:P:=by rw [hg];exact Nat.ne_of_lt (aa.lt (show aa w _ g l0 t14 t15 from by repeat (with_reducible first|exact HI0.out|apply aa.alloc|apply aa.drewN|apply aa.drew|apply aa.set_1|apply aa.set_2|refine aa.far ?_ NB0_1.out _|refine aa.far ?_ NB0_2.out _|refine aa.far ?_ NB0_3.out _|refine aa.far ?_ NB0_4.out _)))):P:=h
theorem gj {P:Prop} (h:P:=by (with_reducible repeat (first|apply ra_|apply rn_|apply rd_));exact HO_5.out):P:=h
theorem iD {P:Prop} (h:P:=by have:=HJ1.out;have:=HJ2.out;first|omega|exact Nat.le_refl _):P:=h
theorem om {P:Prop} (h:P:=by first|exact TabOK.below HG0.out (by repeat (with_reducible first|exact HB.out|apply ba_|apply bn_|apply bd_|refine bs_ ?_ GE1.out|refine bs_ ?_ GE2.out))|(repeat (first|exact HG0.out|apply TabOK.drew|apply TabOK.drewN))|exact TabOK.drawn HG0.out (by assumption)):P:=h
theorem oo {P:Prop} (h:P:=by (with_reducible repeat (first|apply ra_|apply rn_|apply rd_));exact (Kd.R_mono (rf_ (Kd.R_types HO1.out BK4.out (by decide)) jC _) (fun _ h_=>h_.1))):P:=h
theorem au {P:Prop} (h:P:=by repeat (with_reducible first|exact HB.out|apply ba_|apply bn_|apply bd_|refine bs_ ?_ GE1.out|refine bs_ ?_ GE2.out)):P:=h
theorem oq {P:Prop} (h:P:=by (with_reducible repeat (first|apply ra_|apply rn_|apply rd_));exact (Kd.R_mono (Kd.R_mono (d8 (rf_ (rf_ (rf_ (rf_ (rf_ (Kd.R_types (Kd.R_types HO6.out BK3.out (by decide)) BK4.out (by decide)) (fun _ hk=>hk.1.2) (.int .i64 t23)) (fun _ hk=>hk.1.2) (.bool t24)) (fun _ hk=>hk.1.2) (.slice Ao6 t25.length co6)) (fun _ hk=>hk.1.2) (.slice Ao7 t26.length co7)) (fun _ hk=>hk.1.2) (.int .i64 t27))) (fun _ h_=>h_.1)) (fun _ h_=>h_.1))):P:=h
theorem ot {P:Prop} (h:P:=by repeat (with_reducible first|exact HK.out|apply cN.alloc|apply cN.drewN|apply cN.drew|refine cN.setCell ?_ (.inr GW1.out) _)):P:=h
theorem dj {P:Prop} (h:P:=by have:=HK1.out;omega):P:=h
set_option maxHeartbeats 8000000
set_option maxRecDepth 100000

theorem is_ {c:Prop} [Decidable c] {α:Type} {x:Option α} {r:α} (h:(if c then x else none)=some r):c∧x=some r:=by
 by_cases e:c
 ·rw [if_pos e] at h;exact ⟨e,h⟩
 ·rw [if_neg e] at h;cases h
theorem i1_ {c:Prop} [Decidable c] {α:Type} {x:Option α} {r:α} (h:(if c then x else none)=some r):decide c=true∧x=some r:=⟨decide_eq_true (is_ h).1,(is_ h).2⟩
theorem i2_ {c:Prop} [Decidable c] {α:Type} {x:Option α} {r:α} (h:(if c then x else none)=some r):(c=True)∧decide c=true∧x=some r:=⟨eq_true (is_ h).1,decide_eq_true (is_ h).1,(is_ h).2⟩
theorem a3_ {w:World} {g:Nat} {v0 v1 v2:Value} {t:TypeId} {R:Prop} (B:Aside0 (w.heap[g]?=some (.cells #[v0,v1,v2] t (0,0)))) (r:R):w.cell? ⟨g,0,none⟩=some v0∧w.cell? ⟨g,1,none⟩=some v1∧w.cell? ⟨g,2,none⟩=some v2∧R:=⟨(cw B.out 0).trans rfl,(cw B.out 1).trans rfl,(cw B.out 2).trans rfl,r⟩
theorem a5_ {w:World} {g:Nat} {v0 v1 v2 v3 v4:Value} {t:TypeId} {R:Prop} (B:Aside0 (w.heap[g]?=some (.cells #[v0,v1,v2,v3,v4] t (0,0)))) (r:R):w.cell? ⟨g,0,none⟩=some v0∧w.cell? ⟨g,1,none⟩=some v1∧w.cell? ⟨g,2,none⟩=some v2∧w.cell? ⟨g,3,none⟩=some v3∧w.cell? ⟨g,4,none⟩=some v4∧R:=⟨(cw B.out 0).trans rfl,(cw B.out 1).trans rfl,(cw B.out 2).trans rfl,(cw B.out 3).trans rfl,(cw B.out 4).trans rfl,r⟩
theorem a1_ {w:World} {g:Nat} {v0:Value} {t:TypeId} {R:Prop} (B:Aside0 (w.heap[g]?=some (.cells #[v0] t (0,0)))) (r:R):w.cell? ⟨g,0,none⟩=some v0∧R:=⟨(cw B.out 0).trans rfl,r⟩
theorem eL {α:Type} {d:Kd α} {e:Nat} {w:World} {base:Nat} {P:Nat→Prop} {v:Value} {xs:List α} {g:Nat} {i0 i1 i2 i3 i4 i5:Nat} {x0 x1 x2 x3 x4 x5:Value} (h:d.R e w base (fun n=>P n∧n≠g) v xs):d.R e ((((((w.setCell ⟨g,i0,none⟩ x0).setCell ⟨g,i1,none⟩ x1).setCell ⟨g,i2,none⟩ x2).setCell ⟨g,i3,none⟩ x3).setCell ⟨g,i4,none⟩ x4).setCell ⟨g,i5,none⟩ x5) base (fun n=>P n∧n≠g) v xs:=(Kd.R_far (Kd.R_far (Kd.R_far (Kd.R_far (Kd.R_far (Kd.R_far h (fun _ h=>h.2) x0) (fun _ h=>h.2) x1) (fun _ h=>h.2) x2) (fun _ h=>h.2) x3) (fun _ h=>h.2) x4) (fun _ h=>h.2) x5)
theorem bw {α:Type} {d:Kd α} {e:Nat} {w:World} {base:Nat} {P:Nat→Prop} {v:Value} {xs:List α} {g:Nat} {i0 i1 i2 i3 i4:Nat} {x0 x1 x2 x3 x4:Value} (h:d.R e w base (fun n=>P n∧n≠g) v xs):d.R e (((((w.setCell ⟨g,i0,none⟩ x0).setCell ⟨g,i1,none⟩ x1).setCell ⟨g,i2,none⟩ x2).setCell ⟨g,i3,none⟩ x3).setCell ⟨g,i4,none⟩ x4) base (fun n=>P n∧n≠g) v xs:=(Kd.R_far (Kd.R_far (Kd.R_far (Kd.R_far (Kd.R_far h (fun _ h=>h.2) x0) (fun _ h=>h.2) x1) (fun _ h=>h.2) x2) (fun _ h=>h.2) x3) (fun _ h=>h.2) x4)
theorem d8 {α:Type} {d:Kd α} {e:Nat} {w:World} {base:Nat} {P:Nat→Prop} {v:Value} {xs:List α} {g:Nat} {i0 i1 i2:Nat} {x0 x1 x2:Value} (h:d.R e w base (fun n=>P n∧n≠g) v xs):d.R e (((w.setCell ⟨g,i0,none⟩ x0).setCell ⟨g,i1,none⟩ x1).setCell ⟨g,i2,none⟩ x2) base (fun n=>P n∧n≠g) v xs:=(Kd.R_far (Kd.R_far (Kd.R_far h (fun _ h=>h.2) x0) (fun _ h=>h.2) x1) (fun _ h=>h.2) x2)
theorem mz {α:Type} {d:Kd α} {e:Nat} {w:World} {base:Nat} {P:Nat→Prop} {v:Value} {xs:List α} {g:Nat} {i0 i1 i2 i3:Nat} {x0 x1 x2 x3:Value} (h:d.R e w base (fun n=>P n∧n≠g) v xs):d.R e ((((w.setCell ⟨g,i0,none⟩ x0).setCell ⟨g,i1,none⟩ x1).setCell ⟨g,i2,none⟩ x2).setCell ⟨g,i3,none⟩ x3) base (fun n=>P n∧n≠g) v xs:=(Kd.R_far (Kd.R_far (Kd.R_far (Kd.R_far h (fun _ h=>h.2) x0) (fun _ h=>h.2) x1) (fun _ h=>h.2) x2) (fun _ h=>h.2) x3)
theorem q1_ {α:Type} {d:Kd α} {e:Nat} {w0 w1 w2:World} {base:Nat} {ok:Nat→Prop} {v:Value} {xs:List α} (B:Aside0 (d.R e w0 base ok v xs)) (hb:Below w1.heap.size w1 w2) (h:d.R e w0 base ok v xs→d.R e w1 base ok v xs:=by intro h_;(with_reducible repeat (first|apply ra_|apply rn_|apply rd_));exact h_):Aside0 (d.R e w2 base ok v xs):=⟨Kd.R_below (h B.out) hb⟩
theorem n2_ {a b:Nat} (h:Aside0 (a≠b)):a≠b∧b≠a:=⟨h.out,h.out.symm⟩
theorem nn_ {w0 W:World} {g g2:Nat} {o:Obj} (hg:g2=W.heap.size) (B:Aside0 (w0.heap[g]?=some o)) (h:w0.heap[g]?=some o→W.heap[g]?=some o:=by intro h_;(with_reducible repeat (first|apply dk|apply dE|apply dl|apply fQ|apply fR|apply fS|apply fT|apply fU|apply fV|apply fW|apply fX|apply fY|apply fZ|apply f5|refine dm ?_ nb_ _));exact h_):Aside0 (g≠g2)∧Aside0 (g2≠g):=⟨nl_ hg B h,ng_ hg B h⟩
theorem y_ {w:World} {g:Nat} {vs:Array Value} {t:TypeId} {c:Value} (B:Aside0 (w.heap[g]?=some (.cells vs t (0,0)))) (i:Nat) (h:vs[i]?=some c:=by rfl):w.cell? ⟨g,i,none⟩=some c:=(cw B.out i).trans h
theorem kx {α:Type} {d:Kd α} {e:Nat} {w:World} {base:Nat} {ok:Nat→Prop} (ok':Nat→Prop) {v:Value} {xs:List α} {g t:Nat} {cs:Array Value} {W:World} {i0 i1 i2:Nat} {x0 x1 x2:Value} (hW:(((w.setCell ⟨g,i0,none⟩ x0).setCell ⟨g,i1,none⟩ x1).setCell ⟨g,i2,none⟩ x2)=W) (h:Aside0 (d.R e w base ok v xs)) (B:Aside0 (w.heap[g]?=some (.cells cs t (0,0)))) (hk:∀ k,ok k∧k≠g→ok' k) (ht:∀ q,q ∈ e :: d.E→q≠t:=by decide):Aside0 (d.R e W base ok' v xs):=⟨hW ▸ Kd.R_mono (Kd.R_far (Kd.R_far (Kd.R_far (Kd.R_types h.out B.out ht) (fun _ h=>h.2) x0) (fun _ h=>h.2) x1) (fun _ h=>h.2) x2) hk⟩
theorem v_ {w0 W W':World} {g:Nat} {o:Obj} (hW:W=W') (B:Aside0 (w0.heap[g]?=some o)) (h:w0.heap[g]?=some o→W.heap[g]?=some o:=by intro h_;(with_reducible repeat (first|apply dk|apply dE|apply dl|apply fQ|apply fR|apply fS|apply fT|apply fU|apply fV|apply fW|apply fX|apply fY|apply fZ|apply f5|refine dm ?_ nb_ _));exact h_):Aside0 (W'.heap[g]?=some o):=⟨hW ▸ h B.out⟩
theorem v2_ {w0 W W':World} {g:Nat} {o0:Obj} (o:Obj) (hW:W=W') (B:Aside0 (w0.heap[g]?=some o0)) (h:w0.heap[g]?=some o0→W.heap[g]?=some o:=by intro h_;(with_reducible repeat (first|apply dk|apply dE|apply dl|apply fQ|apply fR|apply fS|apply fT|apply fU|apply fV|apply fW|apply fX|apply fY|apply fZ|apply f5|refine dm ?_ nb_ _));exact h_):Aside0 (W'.heap[g]?=some o):=⟨hW ▸ h B.out⟩
theorem vb_ {B:Nat} {w W0 W W':World} (_:Aside0 (Below B w W0)) (hW:W=W') (h:Below B w W):Aside0 (Below B w W'):=⟨hW ▸ h⟩
theorem t5_ {α:Type} {d:Kd α} {e:Nat} {w:World} {base:Nat} {ok:Nat→Prop} {v:Value} {xs:List α} {g t:Nat} {cs:Array Value} {W:World} {i0 i1 i2 i3 i4:Nat} {x0 x1 x2 x3 x4:Value} (hW:(((((w.setCell ⟨g,i0,none⟩ x0).setCell ⟨g,i1,none⟩ x1).setCell ⟨g,i2,none⟩ x2).setCell ⟨g,i3,none⟩ x3).setCell ⟨g,i4,none⟩ x4)=W) (h:Aside0 (d.R e w base ok v xs)) (B:Aside0 (w.heap[g]?=some (.cells cs t (0,0)))) (ht:∀ q,q ∈ e :: d.E→q≠t:=by decide):Aside0 (d.R e W base (fun _=>True) v xs):=⟨hW ▸ Kd.R_mono (Kd.R_far (Kd.R_far (Kd.R_far (Kd.R_far (Kd.R_far (Kd.R_types h.out B.out ht) (fun _ h=>h.2) x0) (fun _ h=>h.2) x1) (fun _ h=>h.2) x2) (fun _ h=>h.2) x3) (fun _ h=>h.2) x4) (fun _ _=>trivial)⟩
theorem o9 {α:Type} {d:Kd α} {e:Nat} {w:World} {base:Nat} {ok:Nat→Prop} (ok':Nat→Prop) {v:Value} {xs:List α} {g t:Nat} {cs:Array Value} {W:World} {i0 i1 i2 i3 i4:Nat} {x0 x1 x2 x3 x4:Value} (hW:(((((w.setCell ⟨g,i0,none⟩ x0).setCell ⟨g,i1,none⟩ x1).setCell ⟨g,i2,none⟩ x2).setCell ⟨g,i3,none⟩ x3).setCell ⟨g,i4,none⟩ x4)=W) (h:Aside0 (d.R e w base ok v xs)) (B:Aside0 (w.heap[g]?=some (.cells cs t (0,0)))) (hk:∀ k,ok k∧k≠g→ok' k) (ht:∀ q,q ∈ e :: d.E→q≠t:=by decide):Aside0 (d.R e W base ok' v xs):=⟨hW ▸ Kd.R_mono (Kd.R_far (Kd.R_far (Kd.R_far (Kd.R_far (Kd.R_far (Kd.R_types h.out B.out ht) (fun _ h=>h.2) x0) (fun _ h=>h.2) x1) (fun _ h=>h.2) x2) (fun _ h=>h.2) x3) (fun _ h=>h.2) x4) hk⟩
def oU:Option Int→Value
 | none=>.nilIface
 | some c=>.iface 0 (.int .i64 c)
theorem eb:oU none=.nilIface:=rfl
theorem ec (c:Int):oU (some c)=.iface 0 (.int .i64 c):=rfl

theorem cW:(Tryz.prog.info? 3).map (fun i=>(i.zero,i.size,i.bytes))=some (some (.int .i64 0),1,8):=by kernel_rfl
theorem jp:(Tryz.prog.info? 5).map (fun i=>(i.zero,i.size,i.bytes))=some (some (.int .u8 0),1,1):=by kernel_rfl
theorem l5:(Tryz.prog.info? 50).map (fun i=>(i.zero,i.size,i.bytes))=some (some (.agg #[(.int .i64 0),(.int .i64 0),(.int .i64 0)]),3,24):=by kernel_rfl
-- the values' own types
/-! #### struct type 50 -/
structure S50 where
 f0:Int
 f1:Int
 f2:Int
def z50:S50:=⟨(0:Int),(0:Int),(0:Int)⟩
def k50:Kd S50:=Kd.iso (Kd.pair (Kd.int .i64) (Kd.pair (Kd.int .i64) (Kd.int .i64))) (fun x:S50=>(x.f0,x.f1,x.f2))
theorem oV:Kd.Heap k50:=Kd.heap_iso _ (Kd.heap_pair (Kd.heap_int .i64) (Kd.heap_pair (Kd.heap_int .i64) (Kd.heap_int .i64)))
theorem l6 {w:World} {x:S50} {cs:List Value} (h:k50.K w x cs):cs=[.int .i64 x.f0,.int .i64 x.f1,.int .i64 x.f2]:=by
 obtain ⟨_,_,rfl,rfl,⟨_,_,rfl,rfl,rfl⟩⟩:=h
 exact rfl
theorem oJ {w:World} {base:Nat} {ok:Nat→Prop} {x:S50} {cs:List Value} (h:k50.M w base ok x cs):cs=[.int .i64 x.f0,.int .i64 x.f1,.int .i64 x.f2]:=by
 obtain ⟨_,_,rfl,rfl,⟨_,_,rfl,rfl,rfl⟩⟩:=h
 exact rfl
theorem pb (w:World) (x:S50)  : k50.K w x [.int .i64 x.f0,.int .i64 x.f1,.int .i64 x.f2]:=⟨[.int .i64 x.f0],[.int .i64 x.f1,.int .i64 x.f2],rfl,rfl,⟨[.int .i64 x.f1],[.int .i64 x.f2],rfl,rfl,rfl⟩⟩
theorem kY (w:World) (base:Nat) (ok:Nat→Prop) (x:S50)  : k50.M w base ok x [.int .i64 x.f0,.int .i64 x.f1,.int .i64 x.f2]:=⟨[.int .i64 x.f0],[.int .i64 x.f1,.int .i64 x.f2],rfl,rfl,⟨[.int .i64 x.f1],[.int .i64 x.f2],rfl,rfl,rfl⟩⟩
def bf (xs:List S50) (i:Int):S50:=xs.getD i.toNat z50
theorem jD {w:World} {A:Option Addr} {n:Nat} {xs:List S50} (h:Kd.C k50 w A n xs) (i:Int) (h0:0≤i) (h1:i<n):∃ ad , A=some ad∧w.cell? (ad.add (i.toNat * 3))=some (.int .i64 (bf xs i).f0)∧w.cell? ⟨(ad.add (i.toNat * 3)).block,(ad.add (i.toNat * 3)).off+1,none⟩=some (.int .i64 (bf xs i).f1)∧w.cell? ⟨(ad.add (i.toNat * 3)).block,(ad.add (i.toNat * 3)).off+2,none⟩=some (.int .i64 (bf xs i).f2):=by
 obtain ⟨ad,c,e,_,hK,hc0⟩:=Kd.C_get h z50 i h0 h1;have hc:∀ j u,c[j]?=some u→w.cell? (ad.add (i.toNat * 3+j))=some u:=hc0;obtain rfl:=l6 hK
 exact ⟨ad,e,hc 0 _ rfl,by rw [← jq _ _ 1 bm];exact hc 1 _ rfl,by rw [← jq _ _ 2 bm];exact hc 2 _ rfl⟩

end Go.Proofs.YtbohmfnjgjijdaaGreatDoor.QFnHouses
-- packed
-- squeezed
