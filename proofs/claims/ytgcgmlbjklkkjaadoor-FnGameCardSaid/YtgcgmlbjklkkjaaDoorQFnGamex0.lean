-- Written by px.py, a program of this session, over the kit's printer: some functions have a definition and a proof of this session's own.
import Derived.Test.YtgcgmlbjklkkjaaDoorProg
import Derived.Below
import Derived.Deep.Draws
import Derived.Deep.AppendLies
import Derived.Maps.AppendAt
import Derived.OwnWalk
import Derived.Laws.BytesArg
import Derived.Laws.MakeOwn
import Derived.Laws.OwnMore
import Derived.Deep.OwnRows
import Derived.Tactics
import Derived.Lib.ConvBytes
import Derived.Laws.Slices
import Derived.WalkKit
import Derived.KernelRfl
import Derived.RowKit3
import Derived.Deep.LoopGhost
import Derived.Deep.QuietTactic
import Derived.BigQuiet
import Derived.WideLaws
import Derived.Deep.DeepCutAuto
import Derived.Deep.CutBlock
import Derived.Deep.RegionHeld3
import Derived.Laws.Rows
import Derived.Lib.AppendStr
import Derived.ArgAppend
import Derived.Laws.IdiomCopy
import Derived.OrdersHeld
import Derived.Laws.BitsLemmas
import Derived.RowKit
import Derived.Test.YtgcgmlbjklkkjaaDoorVGameWords
import Derived.Test.YtgcgmlbjklkkjaaDoorVGameLast
import Derived.Test.YtgcgmlbjklkkjaaDoorVGameTab
import Derived.Test.YtgcgmlbjklkkjaaDoorVGameFour
import Derived.Test.YtgcgmlbjklkkjaaDoorVGameQPut
import Derived.Test.YtgcgmlbjklkkjaaDoorVGameApart
import Derived.Test.YtgcgmlbjklkkjaaDoorVGameArr
import Derived.Test.YtgcgmlbjklkkjaaDoorVGameZeros
import Derived.Test.YtgcgmlbjklkkjaaDoorVGameFoot
import Derived.Test.YtgcgmlbjklkkjaaDoorVGameKept
import Derived.Test.YtgcgmlbjklkkjaaDoorVGameShare
import Derived.Test.YtgcgmlbjklkkjaaDoorVGameN
import Derived.Test.YtgcgmlbjklkkjaaDoorVGameFootNe
import Derived.Test.YtgcgmlbjklkkjaaDoorVGameAt
import Derived.Test.YtgcgmlbjklkkjaaDoorVGameEqStruct
import Derived.Test.YtgcgmlbjklkkjaaDoorVGameRepsOne
import Derived.Test.YtgcgmlbjklkkjaaDoorVGameInv
import Derived.Test.YtgcgmlbjklkkjaaDoorVGameInvWords
import Derived.Test.YtgcgmlbjklkkjaaDoorVGameGuard
import Derived.Test.YtgcgmlbjklkkjaaDoorVGameNEv
import Derived.Test.YtgcgmlbjklkkjaaDoorVGameMore
namespace Go.Proofs.YtgcgmlbjklkkjaaDoor.QFnGame
open Go.RowKit Go.Proofs.YtgcgmlbjklkkjaaDoorW.PrintWords Go.Proofs.YtgcgmlbjklkkjaaDoorW.PrintLast Go.Proofs.YtgcgmlbjklkkjaaDoorW.PrintMore
attribute [local go_sem] fq ft gc gf eW eX fu fv   -- for this text's walks alone
set_option linter.unusedVariables false
set_option linter.unusedSimpArgs false
theorem A0_:type_of% @Aside0.mk:=@Aside0.mk
theorem bn_:type_of% @dz:=@dz
theorem ba_:type_of% @dm:=@dm
theorem bd_:type_of% @gj:=@gj
theorem bs_:type_of% @lC:=@lC
theorem bt_:type_of% @iK:=@iK
theorem bz_:type_of% @iL:=@iL
theorem kn_:type_of% @dU:=@dU
theorem kd_:type_of% @ej:=@ej
theorem ka_:type_of% @dV:=@dV
theorem kb_:type_of% @hZ:=@hZ
theorem kc_:type_of% @ew:=@ew
theorem kf_:type_of% @eU:=@eU
theorem ra_:type_of% @Kd.R_alloc:=@Kd.R_alloc
theorem rn_:type_of% @Kd.R_drewN:=@Kd.R_drewN
theorem rd_:type_of% @Kd.R_drew:=@Kd.R_drew
theorem rr_:type_of% @Kd.R_reads':=@Kd.R_reads'
theorem ca_:type_of% @Kd.C_alloc:=@Kd.C_alloc
theorem cn_:type_of% @Kd.C_drewN:=@Kd.C_drewN
theorem cd_:type_of% @Kd.C_drew:=@Kd.C_drew
theorem ob_:type_of% @Option.bind_eq_some_iff:=@Option.bind_eq_some_iff
theorem bf_:type_of% @Bool.eq_false_iff:=@Bool.eq_false_iff
theorem be_:type_of% @jl:=@jl
theorem gc_:type_of% @jJ:=@jJ
theorem gd_:type_of% @mK:=@mK
theorem od_:type_of% @of_decide_eq_true:=@of_decide_eq_true
theorem dt_:type_of% @decide_eq_true:=@decide_eq_true
theorem si_:type_of% @Option.some.inj:=@Option.some.inj
theorem cb_:type_of% @Kd.C_below:=@Kd.C_below
theorem sa_:type_of% @List.setIfInBounds_toArray:=@List.setIfInBounds_toArray
theorem sz_:type_of% @List.set_cons_zero:=@List.set_cons_zero
theorem ss_:type_of% @List.set_cons_succ:=@List.set_cons_succ
theorem ma_:type_of% @List.map_toArray:=@List.map_toArray
theorem mc_:type_of% @List.map_cons:=@List.map_cons
theorem mn_:type_of% @List.map_nil:=@List.map_nil
theorem sj_:type_of% @Option.some.injEq:=@Option.some.injEq
theorem pj_:type_of% @Prod.mk.injEq:=@Prod.mk.injEq
theorem ld_:type_of% @List.length_drop:=@List.length_drop
theorem lt_:type_of% @List.length_take:=@List.length_take
theorem c2_ {w:World} {g:Nat} {v0 v1:Value} {t:TypeId} (B:Aside0 (w.heap[g]?=some (.cells #[v0,v1] t (0,0)))):w.cell? ⟨g,0,none⟩=some v0∧w.cell? ⟨g,1,none⟩=some v1:=⟨(ew B.out 0).trans rfl,(ew B.out 1).trans rfl⟩
theorem s2_ {P:Program} {ops:Array Oper} {Q:Exit→Act→World→Prop} {id:Nat} {a:Act} {w:World} {l:Array Bool} {g:Nat} {v0 v1:Value} {t:TypeId} {T:Bool × List (List Nat × List Nat)} {B:List Nat} (n:Nat) (ds:List Nat) (HB:Aside0 (w.drew.heap[g]?=some (.cells #[v0,v1] t (0,0)))) (hT:dx .any ops=T) (hB:cp T.2 B=true) (h:(w.drew.cell? ⟨g,0,none⟩=some v0∧w.drew.cell? ⟨g,1,none⟩=some v1)→Aside0 (dx .any ops=T)→Aside0 (cp T.2 B=true)→bk P .any ops Q (fun w'=>w'.cell? ⟨g,0,none⟩=some v0∧w'.cell? ⟨g,1,none⟩=some v1) ds n l a w.drew) (hm:P.follows .mixedOrders=true:=by kernel_rfl) (hn:ops.size=n:=by exact rfl) (hl:Array.replicate n false=l:=by show (List.replicate _ false).toArray=_;simp only [List.replicate_succ,List.replicate_zero];rfl):(Code.region id ops true).wp P Q a w:=dh (S:=fun w'=>w'.cell? ⟨g,0,none⟩=some v0∧w'.cell? ⟨g,1,none⟩=some v1) l hm hn hl (c2_ HB) (fun hS=>h hS ⟨hT⟩ ⟨hB⟩)
theorem c3_ {w:World} {g:Nat} {v0 v1 v2:Value} {t:TypeId} (B:Aside0 (w.heap[g]?=some (.cells #[v0,v1,v2] t (0,0)))):w.cell? ⟨g,0,none⟩=some v0∧w.cell? ⟨g,1,none⟩=some v1∧w.cell? ⟨g,2,none⟩=some v2:=⟨(ew B.out 0).trans rfl,(ew B.out 1).trans rfl,(ew B.out 2).trans rfl⟩
theorem s3_ {P:Program} {ops:Array Oper} {Q:Exit→Act→World→Prop} {id:Nat} {a:Act} {w:World} {l:Array Bool} {g:Nat} {v0 v1 v2:Value} {t:TypeId} {T:Bool × List (List Nat × List Nat)} {B:List Nat} (n:Nat) (ds:List Nat) (HB:Aside0 (w.drew.heap[g]?=some (.cells #[v0,v1,v2] t (0,0)))) (hT:dx .any ops=T) (hB:cp T.2 B=true) (h:(w.drew.cell? ⟨g,0,none⟩=some v0∧w.drew.cell? ⟨g,1,none⟩=some v1∧w.drew.cell? ⟨g,2,none⟩=some v2)→Aside0 (dx .any ops=T)→Aside0 (cp T.2 B=true)→bk P .any ops Q (fun w'=>w'.cell? ⟨g,0,none⟩=some v0∧w'.cell? ⟨g,1,none⟩=some v1∧w'.cell? ⟨g,2,none⟩=some v2) ds n l a w.drew) (hm:P.follows .mixedOrders=true:=by kernel_rfl) (hn:ops.size=n:=by exact rfl) (hl:Array.replicate n false=l:=by show (List.replicate _ false).toArray=_;simp only [List.replicate_succ,List.replicate_zero];rfl):(Code.region id ops true).wp P Q a w:=dh (S:=fun w'=>w'.cell? ⟨g,0,none⟩=some v0∧w'.cell? ⟨g,1,none⟩=some v1∧w'.cell? ⟨g,2,none⟩=some v2) l hm hn hl (c3_ HB) (fun hS=>h hS ⟨hT⟩ ⟨hB⟩)
theorem iw {w:World} {g:Nat} {u v0 v1:Value} {t:TypeId} (h:w.heap[g]?=some (.cells #[v0,v1] t (0,0))):(w.setCell ⟨g,0,none⟩ u).heap[g]?=some (.cells #[u,v1] t (0,0)):=fJ h 0 u rfl
theorem ix {w:World} {g:Nat} {u v0 v1:Value} {t:TypeId} (h:w.heap[g]?=some (.cells #[v0,v1] t (0,0))):(w.setCell ⟨g,1,none⟩ u).heap[g]?=some (.cells #[v0,u] t (0,0)):=fJ h 1 u rfl
theorem iy {w:World} {g:Nat} {u v0 v1 v2:Value} {t:TypeId} (h:w.heap[g]?=some (.cells #[v0,v1,v2] t (0,0))):(w.setCell ⟨g,0,none⟩ u).heap[g]?=some (.cells #[u,v1,v2] t (0,0)):=fJ h 0 u rfl
theorem iz {w:World} {g:Nat} {u v0 v1 v2:Value} {t:TypeId} (h:w.heap[g]?=some (.cells #[v0,v1,v2] t (0,0))):(w.setCell ⟨g,1,none⟩ u).heap[g]?=some (.cells #[v0,u,v2] t (0,0)):=fJ h 1 u rfl
theorem iA {w:World} {g:Nat} {u v0 v1 v2:Value} {t:TypeId} (h:w.heap[g]?=some (.cells #[v0,v1,v2] t (0,0))):(w.setCell ⟨g,2,none⟩ u).heap[g]?=some (.cells #[v0,v1,u] t (0,0)):=fJ h 2 u rfl
theorem sq {w:World} {g:Nat} {t:TypeId} {cs:Array Value} (B:Aside0 (w.heap[g]?=some (.cells cs t (0,0)))):w.frozen? ⟨g,0,none⟩=false∧w.frozen? ⟨g,1,none⟩=false:=⟨eU B.out 0,eU B.out 1⟩
theorem sr {w:World} {g:Nat} {t:TypeId} {cs:Array Value} (B:Aside0 (w.heap[g]?=some (.cells cs t (0,0)))):w.frozen? ⟨g,0,none⟩=false∧w.frozen? ⟨g,1,none⟩=false∧w.frozen? ⟨g,2,none⟩=false:=⟨eU B.out 0,eU B.out 1,eU B.out 2⟩
theorem z2_ {w:World} {g:Nat} {v0 v1:Value} {t:TypeId} (B:Aside0 (w.heap[g]?=some (.cells #[v0,v1] t (0,0)))):(w.cell? ⟨g,0,none⟩=some v0∧w.cell? ⟨g,1,none⟩=some v1)∧(w.frozen? ⟨g,0,none⟩=false∧w.frozen? ⟨g,1,none⟩=false):=⟨c2_ B,sq B⟩
theorem z3_ {w:World} {g:Nat} {v0 v1 v2:Value} {t:TypeId} (B:Aside0 (w.heap[g]?=some (.cells #[v0,v1,v2] t (0,0)))):(w.cell? ⟨g,0,none⟩=some v0∧w.cell? ⟨g,1,none⟩=some v1∧w.cell? ⟨g,2,none⟩=some v2)∧(w.frozen? ⟨g,0,none⟩=false∧w.frozen? ⟨g,1,none⟩=false∧w.frozen? ⟨g,2,none⟩=false):=⟨c3_ B,sr B⟩
abbrev no_ (v:Value) (k:Nat):Prop:=some k≠v.ownBlock
section
variable {P:Program} {ops:Array Oper} {Q:Exit→Act→World→Prop} {md:Region.Mode} {S:World→Prop} {ds:List Nat}
theorem pu_ (i:Nat) (n:Tmp) {oi:Oper} {v:Value} {bX:Nat} {l l':Array Bool} {a a':Act} {w:World} (h:bk P md ops Q S ds bX l' a' w) (hi:ops[i]?=some oi:=by exact rfl) (hN:oi.dst=some n:=by exact rfl) (hl:l.setIfInBounds i true=l':=by simp only [List.setIfInBounds_toArray,List.set_cons_zero,List.set_cons_succ];rfl) (hc:od md ops l l' i=true:=by first|exact o8 HT_.out (by kernel_rfl)|kernel_rfl) (hQ:∀ c a w,Q (.panic c) (a.put oi.dst v) w→Q (.panic c) a w:=by exact fun _ _ _ h=>h) (hy:Yields P ops oi v a:=by refine Or.inl ⟨by rfl,?_⟩;intro w';go_simp;with_reducible rfl) (ha:a.put (some n) v=a':=by simp only [Act.put,List.setIfInBounds_toArray,List.set_cons_zero,List.set_cons_succ,cH,dC];rfl):bk P md ops Q S ds (bX+1) l a w:=rv l' hi hN hc hQ hy ha h
theorem pv_ (i:Nat) (n:Tmp) {oi:Oper} {bX:Nat} {l l':Array Bool} {a a':Act} {w:World} (h:bk P md ops Q S ds bX l' a' w) (hi:ops[i]?=some oi:=by exact rfl) (hN:oi.dst=some n:=by exact rfl) (hl:l.setIfInBounds i true=l':=by simp only [List.setIfInBounds_toArray,List.set_cons_zero,List.set_cons_succ];rfl) (hc:od md ops l l' i=true:=by first|exact o8 HT_.out (by kernel_rfl)|kernel_rfl) (hQ:∀ c a w,Q (.panic c) (a.put oi.dst undef) w→Q (.panic c) a w:=by exact fun _ _ _ h=>h) (hy:Yields P ops oi undef a:=by exact Or.inr ⟨by rfl,rfl⟩) (ha:a.put (some n) undef=a':=by simp only [Act.put,List.setIfInBounds_toArray,List.set_cons_zero,List.set_cons_succ,cH,dC];rfl):bk P md ops Q S ds (bX+1) l a w:=rv l' hi hN hc hQ hy ha h
theorem tk_ (i:Nat) (n:Tmp) {oi:Oper} {v:Value} {bX:Nat} {l l':Array Bool} {a a':Act} {w:World} (hS:S w) (h:bk P md ops Q S ds bX l' a' w) (hi:ops[i]?=some oi:=by exact rfl) (hN:oi.dst=some n:=by exact rfl) (hl:l.setIfInBounds i true=l':=by simp only [List.setIfInBounds_toArray,List.set_cons_zero,List.set_cons_succ];rfl) (hc:ly md ops ds l l' i=true:=by first|exact o9 HT_.out HW_.out (by kernel_rfl)|kernel_rfl) (hQ:∀ c a w,Q (.panic c) (a.put oi.dst v) w→Q (.panic c) a w:=by exact fun _ _ _ h=>h) (hy:YieldsIf P ops S oi v a:=by refine Or.inl ⟨by rfl,?_⟩;intro w' hs_;go_simp;with_reducible rfl) (ha:a.put (some n) v=a':=by simp only [Act.put,List.setIfInBounds_toArray,List.set_cons_zero,List.set_cons_succ,cH,dC];rfl):bk P md ops Q S ds (bX+1) l a w:=take_ l' hi hN hc hQ hy hS ha h
theorem on_ (i:Nat) (N:Option Tmp) {oi:Oper} {bX:Nat} {l l':Array Bool} {a:Act} {w:World} (h:∀ K:Act→World→Prop,Shut (∀ a' w',S w'→(S w'→bk P md ops Q S ds bX l' a' w')→K a' w')→if Region.wanted oi (yielded ops a.tmps)=true then Oper.wp P oi a w K Q else K (a.put N undef) w) (hi:ops[i]?=some oi:=by exact rfl) (hN:oi.dst=N:=by exact rfl) (hl:l.setIfInBounds i true=l':=by simp only [List.setIfInBounds_toArray,List.set_cons_zero,List.set_cons_succ];rfl) (hc:iJ md ops l l' i=true:=by first|exact gD HT_.out (by kernel_rfl)|kernel_rfl) (hd:i ∉ ds:=by decide):bk P md ops Q S ds (bX+1) l a w:=ss l' hi hN hc hd h
theorem dn_ {l:Array Bool} {a:Act} {w:World} {n:Nat} (h:Q .normal a w) (hr:(Region.ready md ops l == [])=true:=by first|exact pV HT_.out (by kernel_rfl)|kernel_rfl):bk P md ops Q S ds n l a w:=gU hr h
theorem nm_ (n:Tmp) {v:Value} {bX:Nat} {l:Array Bool} {a a':Act} {w:World} (h:bk P md ops Q S ds bX l a' w) (ha:a.put (some n) v=a':=by simp only [Act.put,List.setIfInBounds_toArray,List.set_cons_zero,List.set_cons_succ,cH,dC];rfl):bk P md ops Q S ds bX l (a.put (some n) v) w:=fD ha h
theorem nq_ {bX:Nat} {l:Array Bool} {a a':Act} {w:World} (h:bk P md ops Q S ds bX l a' w) (ha:a=a':=by simp only [kn,Act.put,List.setIfInBounds_toArray,List.set_cons_zero,List.set_cons_succ];rfl):bk P md ops Q S ds bX l a w:=fD ha h
theorem gs_ {oi:Oper} {N:Option Tmp} {a:Act} {w:World} {K:Act→World→Prop} {f:FuncId} {fn:Func} {ars:Array Operand} {ts:Array TypeId} (hf:P.funcs[f]?=some fn) (args:Array Value) (h:Calls P f args w fun e w'=>∃ v,e=.returned v∧K (a.put N v) w') (hname:(fn.name == "runtime.NumGoroutine")=false:=by kernel_rfl) (hb:fn.body.isSome=true:=by exact rfl) (hw:Region.wanted oi (yielded ops a.tmps)=true:=by rfl) (hN:oi.dst=N:=by exact rfl) (hop:oi.op=.call { callee:=.value (.func f),args:=ars,argTypes:=ts }:=by exact rfl) (hargs:ars.map a.eval=args:=by (try simp only [List.map_toArray,List.map_cons,List.map_nil]);first|done|rfl|(simp only [List.length_drop,List.length_take];rfl)):if Region.wanted oi (yielded ops a.tmps)=true then Oper.wp P oi a w K Q else K (a.put N undef) w:=sa hf hname hb args hw hN hop hargs h
theorem gl_ {rest:List Oper} {oi:Oper} {a:Act} {w:World} (N:Tmp) {f:FuncId} {fn:Func} {ars:Array Operand} {ts:Array TypeId} (hf:P.funcs[f]?=some fn) (args:Array Value) (h:Calls P f args w fun e w'=>∃ v,e=.returned v∧wpList P ops Q rest (a.put (some N) v) w') (hd:oi.dst=some N:=by exact rfl) (hg:oi.guard=none:=by exact rfl) (hname:(fn.name == "runtime.NumGoroutine")=false:=by kernel_rfl) (hb:fn.body.isSome=true:=by exact rfl) (hop:oi.op=.call { callee:=.value (.func f),args:=ars,argTypes:=ts }:=by exact rfl) (hargs:ars.map a.eval=args:=by (try simp only [List.map_toArray,List.map_cons,List.map_nil]);first|done|rfl|(simp only [List.length_drop,List.length_take];rfl)):wpList P ops Q (oi :: rest) a w:=rM (some N) hd hg hf hname hb args hop hargs h
theorem bx_ {o:Oper} {rest:List Oper} {a:Act} {W:World} (N:Tmp) (cs:Array Value) (t:TypeId) (h:∀ g,g=W.heap.size→∀ w1,Aside0 (w1.heap[g]?=some (.cells cs t (0,0)))→Below W.heap.size W w1→wpList P ops Q rest (a.put o.dst (.pointer (some ⟨g,0,none⟩))) w1) (hd:o.dst=some N:=by exact rfl) (hgd:o.guard=none:=by exact rfl) (hrun:(execOp a.eval o).run P W=.ok (.value (.pointer (some ⟨W.heap.size,0,none⟩))) (W.alloc (.cells cs t (0,0))):=by go_simp;first|done|rfl):wpList P ops Q (o :: rest) a W:=jl hgd hd hrun (fun g hg w1 hb k=>h g hg w1 ⟨hb⟩ k)
end
theorem st {P:Prop} (h:P:=by first|exact NB0_1.out|exact NB0_2.out|exact NB1_0.out|exact NB1_2.out|exact NB1_3.out|exact NB1_4.out|exact NB1_5.out|exact NB1_6.out|exact NB1_7.out|exact NB1_8.out|exact NB1_9.out|exact NB1_10.out|exact NB2_0.out|exact NB2_1.out|exact NB2_3.out|exact NB2_4.out|exact NB2_5.out|exact NB2_6.out|exact NB2_7.out|exact NB2_8.out|exact NB2_9.out|exact NB2_10.out|exact NB3_1.out|exact NB3_2.out|exact NB3_4.out|exact NB3_5.out|exact NB3_6.out|exact NB3_7.out|exact NB3_8.out|exact NB3_9.out|exact NB3_10.out|exact NB4_1.out|exact NB4_2.out|exact NB4_3.out|exact NB4_5.out|exact NB4_6.out|exact NB4_7.out|exact NB4_8.out|exact NB4_9.out|exact NB4_10.out|exact NB5_1.out|exact NB5_2.out|exact NB5_3.out|exact NB5_4.out|exact NB5_6.out|exact NB5_7.out|exact NB5_8.out|exact NB5_9.out|exact NB5_10.out|exact NB6_1.out|exact NB6_2.out|exact NB6_3.out|exact NB6_4.out|exact NB6_5.out|exact NB7_1.out|exact NB7_2.out|exact NB7_3.out|exact NB7_4.out|exact NB7_5.out|exact NB7_8.out):P:=h
theorem su {P:Prop} (h:P:=by first|exact NB7_9.out|exact NB7_10.out|exact NB8_1.out|exact NB8_2.out|exact NB8_3.out|exact NB8_4.out|exact NB8_5.out|exact NB8_7.out|exact NB9_1.out|exact NB9_2.out|exact NB9_3.out|exact NB9_4.out|exact NB9_5.out|exact NB9_7.out|exact NB9_10.out|exact NB10_1.out|exact NB10_2.out|exact NB10_3.out|exact NB10_4.out|exact NB10_5.out|exact NB10_7.out|exact NB10_9.out):P:=h
theorem nb_ {P:Prop} (h:P:=by first|exact st|exact su):P:=h
theorem k1_ {w0 w1 w2:World} {g:Nat} {o:Obj} (B:Aside0 (w0.heap[g]?=some o)) (hb:Below w1.heap.size w1 w2) (h:w0.heap[g]?=some o→w1.heap[g]?=some o:=by intro h_;(with_reducible repeat (first|apply dU|apply ej|apply dV|apply iw|apply ix|apply iy|apply iz|apply iA|refine ec ?_ nb_ _));exact h_):Aside0 (w2.heap[g]?=some o):=⟨hZ (h B.out) hb⟩
theorem hb_ {w W w2:World} (hb:Below W.heap.size W w2) (h:Below w.heap.size w W:=by repeat (with_reducible first|exact HB.out|apply dm|apply dz|apply gj)):Aside0 (Below w.heap.size w w2):=⟨iK h hb⟩
theorem ge_ {w W:World} {g:Nat} (hg:g=W.heap.size) (h:Below w.heap.size w W:=by repeat (with_reducible first|exact HB.out|apply dm|apply dz|apply gj)):Aside0 (w.heap.size≤g):=⟨by rw [hg];exact iL h⟩
theorem nl_ {w0 W:World} {g g2:Nat} {o:Obj} (hg:g2=W.heap.size) (B:Aside0 (w0.heap[g]?=some o)) (h:w0.heap[g]?=some o→W.heap[g]?=some o:=by intro h_;(with_reducible repeat (first|apply dU|apply ej|apply dV|apply iw|apply ix|apply iy|apply iz|apply iA|refine ec ?_ nb_ _));exact h_):Aside0 (g≠g2):=⟨by rw [hg];exact Nat.ne_of_lt (fU (h B.out))⟩
theorem ng_ {w0 W:World} {g g2:Nat} {o:Obj} (hg:g2=W.heap.size) (B:Aside0 (w0.heap[g]?=some o)) (h:w0.heap[g]?=some o→W.heap[g]?=some o:=by intro h_;(with_reducible repeat (first|apply dU|apply ej|apply dV|apply iw|apply ix|apply iy|apply iz|apply iA|refine ec ?_ nb_ _));exact h_):Aside0 (g2≠g):=⟨by rw [hg];exact Nat.ne_of_gt (fU (h B.out))⟩
theorem o1_ {α β:Type} {x:Option α} {f:α→Option β} {y:β} (h:x.bind f=some y):∃ t,Aside0 (x=some t)∧f t=some y:=by
 obtain ⟨t,h1,h2⟩:=Option.bind_eq_some_iff.mp h
 exact ⟨t,⟨h1⟩,h2⟩
theorem et_ {α:Type} [BEq α] [LawfulBEq α] {a b:α} (h:a=b):(a == b)=true∧(a != b)=false:=⟨beq_iff_eq.mpr h,bne_eq_false_iff_eq.mpr h⟩
theorem ef_ {α:Type} [BEq α] [LawfulBEq α] {a b:α} (h:¬ a=b):(a == b)=false∧(a != b)=true:=⟨beq_eq_false_iff_ne.mpr h,bne_iff_ne.mpr h⟩
theorem ft_:¬ (false=true):=by decide
theorem sw {a b:Nat} (h:a≤b):(a≤b)=True∧decide (a≤b)=true∧(b<a)=False:=⟨eq_true h,decide_eq_true h,eq_false (Nat.not_lt.2 h)⟩
theorem rf_:type_of% @Kd.R_far:=@Kd.R_far
theorem kR {P Q:Nat→Prop}:∀ k,P k∧Q k→Q k:=fun _ h=>h.2
theorem k2_ {w0 w1 w2:World} {g:Nat} {o0:Obj} (o:Obj) (B:Aside0 (w0.heap[g]?=some o0)) (hb:Below w1.heap.size w1 w2) (h:w0.heap[g]?=some o0→w1.heap[g]?=some o:=by intro h_;(with_reducible repeat (first|apply dU|apply ej|apply dV|apply iw|apply ix|apply iy|apply iz|apply iA|refine ec ?_ nb_ _));exact h_):Aside0 (w2.heap[g]?=some o):=⟨hZ (h B.out) hb⟩
theorem kx_ {w0 w1:World} {g:Nat} {o:Obj} (B:Aside0 (w0.heap[g]?=some o)) (h:w0.heap[g]?=some o→w1.heap[g]?=some o:=by intro h_;(with_reducible repeat (first|apply dU|apply ej|apply dV|apply iw|apply ix|apply iy|apply iz|apply iA|refine ec ?_ nb_ _));exact h_):Aside0 (w1.heap[g]?=some o):=⟨h B.out⟩
theorem u1_ {P Q:Prop} (x:Aside0 Q) (h:Q→P:=by intro h_;(with_reducible repeat (first|apply dU|apply ej|apply dV|apply iw|apply ix|apply iy|apply iz|apply iA|refine ec ?_ nb_ _));exact h_):P:=h x.out
theorem bp_ {P:Program} {ops:Array Oper} {o:Oper} {a:Act} {W:World} {Q:Exit→Act→World→Prop} {Kc:Act→World→Prop} (N:Tmp) (cs:Array Value) (t:TypeId) (h:∀ g,g=W.heap.size→∀ w1,w1.heap[g]?=some (.cells cs t (0,0))→Below W.heap.size W w1→Kc (a.put o.dst (.pointer (some ⟨g,0,none⟩))) w1) (hd:o.dst=some N:=by exact rfl) (hw:Region.wanted o (yielded ops a.tmps)=true:=by exact rfl) (hrun:(execOp a.eval o).run P W=.ok (.value (.pointer (some ⟨W.heap.size,0,none⟩))) (W.alloc (.cells cs t (0,0))):=by go_simp;first|done|rfl):if Region.wanted o (yielded ops a.tmps)=true then Oper.wp P o a W Kc Q else Kc (a.put o.dst undef) W:=pb hw hd hrun h
theorem da {w0 w1 w2:World} {g g':Nat} {o:Obj} (B:Aside0 (w0.heap[g']?=some o)) (hk:ah w1 w2 g none) (ne:Aside0 (g'≠g)) (h:w0.heap[g']?=some o→w1.heap[g']?=some o:=by intro h_;(with_reducible repeat (first|apply dU|apply ej|apply dV|apply iw|apply ix|apply iy|apply iz|apply iA|refine ec ?_ nb_ _));exact h_):Aside0 (w2.heap[g']?=some o):=⟨ah.blk hk (h B.out) ne.out (by simp)⟩
theorem cf_ {P Q:Nat→Prop} (h:∀ k,P k→Q k:=by intro k_ h_;(try simp only [and_assoc] at h_);(repeat obtain ⟨_,h_⟩:=h_);(repeat' apply And.intro) <;> first|assumption|trivial):∀ k,P k→Q k:=h
theorem qA {P:Prop} (h:P:=by (with_reducible repeat (first|apply ra_|apply rn_|apply rd_));exact Kd.R_mono HO_1.out (fun _ hk=>⟨hk.1.2,hk.2⟩)):P:=h
theorem lm {P:Prop} (h:P:=by repeat (first|exact (cb_ HR0_2.out (by repeat (with_reducible first|exact HB.out|apply ba_|apply bn_|apply bd_|refine bs_ ?_ GE1.out)))|(with_reducible refine ca_ ?_ _)|(with_reducible refine cn_ ?_ _)|(with_reducible refine cd_ ?_))):P:=h
theorem qK {P:Prop} (h:P:=by (with_reducible repeat (first|apply ra_|apply rn_|apply rd_));exact Kd.R_mono (cf (Kd.R_types HO5.out BK2.out (by decide))) (fun _ hk=>hk.1.1.1)):P:=h
theorem ke {P:Prop} (h:P:=by (with_reducible repeat (first|apply ra_|apply rn_|apply rd_));exact Kd.R_mono HO_3.out (fun _ hk=>⟨hk.2,hk.1⟩)):P:=h
theorem pc {P:Prop} (h:P:=by simpa using kb_ (fK (w.alloc (Obj.cells #[.int .i64 a0_0,.bool a0_1,.slice A0_2 l0_2.length c0_2] 26)) (Obj.cells #[.int .i64 a1] 3)) hb3):P:=h
theorem qx {P:Prop} (h:P:=by (with_reducible repeat (first|apply ra_|apply rn_|apply rd_));exact Kd.R_mono HO2.out (fun _ hk=>⟨trivial,hk⟩)):P:=h
theorem fT {P:Prop} (h:P:=by (with_reducible repeat (first|apply ra_|apply rn_|apply rd_));exact Kd.R_mono HO2.out (fun _ hk=>hk.2)):P:=h
theorem gQ {P:Prop} (h:P:=by (with_reducible repeat (first|apply ra_|apply rn_|apply rd_));exact Kd.R_mono HO1.out (fun _ hk=>hk.2)):P:=h
theorem o6 {P:Prop} (h:P:=by first|exact Kd.own_blk (Kd.R_ne HO_3.out BK10.out (by decide))|(rw [dd];exact Kd.own_blk (Kd.R_ne HO_3.out BK10.out (by decide)))|(show (Addr.add _ _).block≠_;rw [dd];exact Kd.own_blk (Kd.R_ne HO_3.out BK10.out (by decide)))|(dsimp only;exact Kd.own_blk (Kd.R_ne HO_3.out BK10.out (by decide)))):P:=h
theorem am {P:Prop} (h:P:=by repeat (with_reducible first|exact HB.out|apply ba_|apply bn_|apply bd_)):P:=h
theorem eZ {P:Prop} (h:P:=by (with_reducible repeat (first|apply ra_|apply rn_|apply rd_));exact Kd.R_mono HO_1.out cf_):P:=h
theorem qQ {P:Prop} (h:P:=by (with_reducible repeat (first|apply ra_|apply rn_|apply rd_));exact (Kd.R_mono (rf_ (Kd.R_types HO_1.out BK2.out (by decide)) (fun _ hk=>hk.2) (.int .i64 (wrap64 (3+t6)))) (fun _ h_=>h_.1))):P:=h
theorem qO {P:Prop} (h:P:=by (with_reducible repeat (first|apply ra_|apply rn_|apply rd_));exact Kd.R_mono HO2.out (fun _ hk=>trivial)):P:=h
theorem qX {P:Prop} (h:P:=by (with_reducible repeat (first|apply ra_|apply rn_|apply rd_));exact (Kd.R_mono (cf (Kd.R_types HO_2.out BK2.out (by decide))) (fun _ h_=>h_.1))):P:=h
theorem lx {P:Prop} (h:P:=by (with_reducible repeat (first|apply ra_|apply rn_|apply rd_));exact Kd.R_mono HO_10.out cf_):P:=h
theorem qL {P:Prop} (h:P:=by (with_reducible repeat (first|apply Kd.V_alloc|apply Kd.V_drewN|apply Kd.V_drew));exact Kd.V_mono (Kd.V_far (p:=⟨gb2,2,none⟩) (Kd.V_far (p:=⟨gb2,1,none⟩) (Kd.V_far (p:=⟨gb2,0,none⟩) (Kd.V_mono HO_2.out (fun k_ hk=>(⟨hk,hk.1.1.2.2.2.2⟩:_∧k_≠gb2))) kR _) kR _) kR _) (fun _ hk=>⟨hk.1.1.1.1,⟨hk.1.1.2,⟨hk.1.1.1.2.2.2.1,hk.1.1.1.2.2.2.2⟩⟩⟩)):P:=h
theorem rt {P:Prop} (h:P:=by rw [hg];exact Nat.ne_of_lt (al.lt (show al w _ g l0 t4 t5 from by repeat (with_reducible first|exact HI0.out|apply al.alloc|apply al.drewN|apply al.drew|apply al.set_1|apply al.set_2|refine al.far ?_ NB0_1.out _)))):P:=h
theorem mr {P:Prop} (h:P:=by (with_reducible repeat (first|apply ra_|apply rn_|apply rd_));exact (Kd.R_mono (cf (Kd.R_types HO1.out BK2.out (by decide))) (fun _ h_=>h_.1))):P:=h
theorem qY {P:Prop} (h:P:=by (with_reducible repeat (first|apply ra_|apply rn_|apply rd_));exact (Kd.R_mono (cf (Kd.R_types HO_1.out BK3.out (by decide))) (fun _ h_=>h_.1))):P:=h
theorem rg {P:Prop} (h:P:=by (with_reducible repeat (first|apply ra_|apply rn_|apply rd_));exact (Kd.R_mono (cf (Kd.R_types HO_2.out BK6.out (by decide))) (fun _ h_=>h_.1))):P:=h
theorem qM {P:Prop} (h:P:=by (with_reducible repeat (first|apply ra_|apply rn_|apply rd_));exact (cf (Kd.R_types (Kd.R_types (Kd.R_types HO6.out BK1.out (by decide)) BK2.out (by decide)) BK2.out (by decide)))):P:=h
theorem nP {P:Prop} (h:P:=by rw [hg];exact (cr (w:=wB) (g:=g) (row:=none) (by repeat (with_reducible first|exact HK.out|apply ah.set_|apply fg|apply dD|apply fh|refine gW ?_ GW1.out _)))):P:=h
theorem qw {P:Prop} (h:P:=by first|(rw [hy5];with_reducible exact H)|(have H2_:=(Option.bind_some _ _).symm.trans H;rw [hy5];with_reducible exact H2_)|(have H2_:=(Option.bind_some _ _).symm.trans H;with_reducible exact H2_)|with_reducible exact H|(rw [hy5];exact H)|exact H):P:=h
theorem lr {P:Prop} (h:P:=by rw [← hq_];exact (u1_ BK1)):P:=h
theorem mz {P:Prop} (h:P:=by (with_reducible repeat (first|apply ra_|apply rn_|apply rd_));exact Kd.R_mono HO13.out cf_):P:=h
theorem de {P:Prop} (h:P:=by have:=HK1.out;omega):P:=h
theorem nR {P:Prop} (h:P:=by have:=HJ1.out;have:=HK1.out;have:=HJ2.out;omega):P:=h
theorem eH {P:Prop} (h:P:=by first|omega|exact Nat.le_refl _):P:=h
theorem qZ {P:Prop} (h:P:=by (with_reducible repeat (first|apply ra_|apply rn_|apply rd_));exact (Kd.R_mono (cf (Kd.R_types HO_3.out BK3.out (by decide))) (fun _ h_=>h_.1))):P:=h
theorem bc {P:Prop} (h:P:=by first|rfl|(simp [*,fi,fj] <;> rfl)):P:=h
theorem ab {P:Prop} (h:P:=by repeat (with_reducible first|exact HB.out|apply ba_|apply bn_|apply bd_|refine bs_ ?_ GE1.out)):P:=h
theorem iv {P:Prop} (h:P:=by first|exact TabOK.below HG0.out (by repeat (with_reducible first|exact HB.out|apply ba_|apply bn_|apply bd_|refine bs_ ?_ GE1.out|refine bs_ ?_ GE2.out|refine bs_ ?_ GE3.out|refine bs_ ?_ GE4.out|refine bs_ ?_ GE5.out|refine bs_ ?_ GE6.out|refine bs_ ?_ GE7.out|refine bs_ ?_ GE8.out|refine bs_ ?_ GE9.out|refine bs_ ?_ GE10.out))|(repeat (first|exact HG0.out|apply TabOK.drew|apply TabOK.drewN))|exact TabOK.drawn HG0.out (by assumption)):P:=h
theorem mu {P:Prop} (h:P:=by repeat (first|exact (rr_ HO_1.out).2.2|(with_reducible refine ca_ ?_ _)|(with_reducible refine cn_ ?_ _)|(with_reducible refine cd_ ?_))):P:=h
theorem kg {P:Prop} (h:P:=by (with_reducible repeat (first|apply Kd.V_alloc|apply Kd.V_drewN|apply Kd.V_drew));exact HO_3.out):P:=h
theorem eY {P:Prop} (h:P:=by first|(rw [hji1] at H;exact H)|(simp only [hji1] at H ⊢;exact H)):P:=h
theorem dP {P:Prop} (h:P:=by (with_reducible repeat (first|apply ra_|apply rn_|apply rd_));exact HO_5.out):P:=h
theorem pd {P:Prop} (h:P:=by repeat (first|exact hr0_2|refine ca_ ?_ _|refine cn_ ?_ _|refine cd_ ?_)):P:=h
theorem dR {P:Prop} (h:P:=by (with_reducible repeat (first|apply ra_|apply rn_|apply rd_));exact HO_7.out):P:=h
theorem nS {P:Prop} (h:P:=by have:=HJ1.out;have:=HK1.out;have:=HJ2.out;have:=HK2.out;omega):P:=h
theorem nQ {P:Prop} (h:P:=by have:=HJ1.out;have:=HK1.out;have:=HJ2.out;have:=HJ3.out;have:=HJ4.out;have:=HK2.out;omega):P:=h
theorem e8 {P:Prop} (h:P:=by (with_reducible repeat (first|apply ra_|apply rn_|apply rd_));exact Kd.R_mono HO_3.out cf_):P:=h
theorem iV {P:Prop} (h:P:=by repeat (with_reducible first|exact HB.out|apply ba_|apply bn_|apply bd_|refine bs_ ?_ GE1.out|refine bs_ ?_ GE2.out|refine bs_ ?_ GE3.out)):P:=h
theorem pe {P:Prop} (h:P:=by (with_reducible repeat (first|apply ra_|apply rn_|apply rd_));exact Kd.R_mono HO4.out (fun _ hk=>⟨hk.2,hk.1.2⟩)):P:=h
theorem bn {P:Prop} (h:P:=by repeat (first|exact (cb_ HR0_2.out HB.out)|(with_reducible refine ca_ ?_ _)|(with_reducible refine cn_ ?_ _)|(with_reducible refine cd_ ?_))):P:=h
theorem cT {P:Prop} (h:P:=by repeat (first|exact Drawn0.refl _|apply Drawn0.step)):P:=h
theorem gg {P:Prop} (h:P:=by have:=HK1.out;have:=HK2.out;omega):P:=h
theorem jH {P:Prop} (h:P:=by repeat (with_reducible first|exact HB.out|apply ba_|apply bn_|apply bd_|refine bs_ ?_ GE1.out|refine bs_ ?_ GE2.out|refine bs_ ?_ GE3.out|refine bs_ ?_ GE4.out|refine bs_ ?_ GE5.out|refine bs_ ?_ GE7.out|refine bs_ ?_ GE9.out|refine bs_ ?_ GE10.out)):P:=h
theorem rc {P:Prop} (h:P:=by (with_reducible repeat (first|apply ra_|apply rn_|apply rd_));exact (Kd.R_mono (cf (Kd.R_types HO_3.out BK6.out (by decide))) (fun _ h_=>h_.1))):P:=h
theorem fc {P:Prop} (h:P:=by (with_reducible repeat (first|apply ra_|apply rn_|apply rd_));exact Kd.R_mono HO_5.out cf_):P:=h
theorem fe {P:Prop} (h:P:=by (with_reducible repeat (first|apply ra_|apply rn_|apply rd_));exact Kd.R_mono HO_7.out cf_):P:=h
theorem aE {P:Prop} (h:P:=by first|(with_reducible assumption)|assumption):P:=h
theorem qE {P:Prop} (h:P:=by (with_reducible repeat (first|apply Kd.V_alloc|apply Kd.V_drewN|apply Kd.V_drew));exact Kd.V_mono (Kd.V_far (p:=⟨gb2,2,none⟩) (Kd.V_far (p:=⟨gb2,1,none⟩) (Kd.V_far (p:=⟨gb2,0,none⟩) (Kd.V_mono HO_2.out (fun k_ hk=>(⟨hk,hk.2⟩:_∧k_≠gb2))) kR _) kR _) kR _) (fun _ hk=>⟨hk.1.1.1,⟨hk.1.1.2.1,⟨hk.1.1.2.2,hk.1.2⟩⟩⟩)):P:=h
theorem dY {P:Prop} (h:P:=by repeat (with_reducible first|exact HB.out|apply ba_|apply bn_|apply bd_|refine bs_ ?_ GE1.out|refine bs_ ?_ GE2.out|refine bs_ ?_ GE3.out|refine bs_ ?_ GE4.out|refine bs_ ?_ GE5.out)):P:=h
theorem oU {P:Prop} (h:P:=by first|exact Kd.own_blk (Kd.R_ne HO_1.out BK1.out (by decide))|(rw [dd];exact Kd.own_blk (Kd.R_ne HO_1.out BK1.out (by decide)))|(show (Addr.add _ _).block≠_;rw [dd];exact Kd.own_blk (Kd.R_ne HO_1.out BK1.out (by decide)))|(dsimp only;exact Kd.own_blk (Kd.R_ne HO_1.out BK1.out (by decide)))):P:=h
theorem q7 {P:Prop} (h:P:=by (with_reducible repeat (first|apply ra_|apply rn_|apply rd_));exact (Kd.R_mono (cf (Kd.R_types HO9.out BK3.out (by decide))) (fun _ h_=>h_.1))):P:=h
theorem ri {P:Prop} (h:P:=by (with_reducible repeat (first|apply ra_|apply rn_|apply rd_));exact (Kd.R_mono (cf (Kd.R_types HO_6.out BK6.out (by decide))) (fun _ h_=>h_.1))):P:=h
theorem ir {P:Prop} (h:P:=by first|(rw [hy3];with_reducible exact H)|(have H2_:=(Option.bind_some _ _).symm.trans H;rw [hy3];with_reducible exact H2_)|(have H2_:=(Option.bind_some _ _).symm.trans H;with_reducible exact H2_)|with_reducible exact H|(rw [hy3];exact H)|exact H):P:=h
theorem rj {P:Prop} (h:P:=by (with_reducible repeat (first|apply ra_|apply rn_|apply rd_));exact (Kd.R_mono (cf (Kd.R_types HO_7.out BK6.out (by decide))) (fun _ h_=>h_.1))):P:=h
theorem re {P:Prop} (h:P:=by (with_reducible repeat (first|apply ra_|apply rn_|apply rd_));exact (Kd.R_mono (cf (Kd.R_types HO_4.out BK6.out (by decide))) (fun _ h_=>h_.1))):P:=h
theorem nH {P:Prop} (h:P:=by have:=HJ1.out;have:=HJ2.out;have:=HK1.out;have:=HJ3.out;omega):P:=h
theorem jD {P:Prop} (h:P:=by rw [hg];exact Nat.ne_of_lt (al.lt (show al w0 _ g s0_0 s0_1 s0_2 from by repeat (with_reducible first|exact HI0.out|apply al.alloc|apply al.drewN|apply al.drew|apply al.set_1|apply al.set_2)))):P:=h
theorem fW {P:Prop} (h:P:=by repeat (with_reducible first|exact HB.out|apply ba_|apply bn_|apply bd_|refine bs_ ?_ GE1.out|refine bs_ ?_ GE2.out|refine bs_ ?_ GE3.out|refine bs_ ?_ GE4.out|refine bs_ ?_ GE5.out|refine bs_ ?_ GE7.out)):P:=h
theorem jI {P:Prop} (h:P:=by have:=HJ1.out;have:=HK1.out;first|omega|exact Nat.le_refl _):P:=h
theorem q8 {P:Prop} (h:P:=by (with_reducible repeat (first|apply ra_|apply rn_|apply rd_));exact (Kd.R_mono (cf (Kd.R_types HO9.out BK4.out (by decide))) (fun _ h_=>h_.1))):P:=h
theorem rk {P:Prop} (h:P:=by (with_reducible repeat (first|apply ra_|apply rn_|apply rd_));exact (Kd.R_mono (cf (Kd.R_types HO_8.out BK6.out (by decide))) (fun _ h_=>h_.1))):P:=h
theorem dq {P:Prop} (h:P:=by repeat (with_reducible first|exact HB.out|apply ba_|apply bn_|apply bd_|refine bs_ ?_ (al.ge HI0.out))):P:=h
theorem gh {P:Prop} (h:P:=by simp only [kn,Act.put,sa_,sz_,ss_]):P:=h
theorem eu {P:Prop} (h:P:=by (with_reducible repeat (first|apply ra_|apply rn_|apply rd_));exact HO_9.out):P:=h
theorem nE {P:Prop} (h:P:=by (with_reducible repeat (first|apply ra_|apply rn_|apply rd_));exact Kd.R_mono HO4.out (fun _ hk=>trivial)):P:=h
theorem eJ {P:Prop} (h:P:=by (with_reducible repeat (first|apply ra_|apply rn_|apply rd_));exact Kd.R_mono HO_2.out cf_):P:=h
theorem o5 {P:Prop} (h:P:=by (with_reducible repeat (first|apply ra_|apply rn_|apply rd_));exact Kd.R_mono HO15.out cf_):P:=h
theorem my {P:Prop} (h:P:=by repeat (first|exact (rr_ HO_8.out).2.2|(with_reducible refine ca_ ?_ _)|(with_reducible refine cn_ ?_ _)|(with_reducible refine cd_ ?_))):P:=h
theorem kj {P:Prop} (h:P:=by (with_reducible repeat (first|apply ra_|apply rn_|apply rd_));exact Kd.R_mono (cf (Kd.R_types HO1.out BK2.out (by decide))) (fun _ hk=>trivial)):P:=h
theorem o7 {P:Prop} (h:P:=by have:=HJ1.out;have:=HK1.out;have:=HJ2.out;have:=HJ3.out;first|omega|exact Nat.le_refl _):P:=h
theorem qJ {P:Prop} (h:P:=by (with_reducible repeat (first|apply ra_|apply rn_|apply rd_));exact Kd.R_mono HO4.out (fun _ hk=>⟨⟨hk.1.1.1,hk.2⟩,hk.1.2⟩)):P:=h
theorem mA {P:Prop} (h:P:=by repeat (with_reducible first|exact HB.out|apply ba_|apply bn_|apply bd_|refine bs_ ?_ GE1.out|refine bs_ ?_ GE2.out|refine bs_ ?_ GE3.out|refine bs_ ?_ GE4.out|refine bs_ ?_ GE5.out|refine bs_ ?_ GE7.out|refine bs_ ?_ GE8.out)):P:=h
theorem rq {P:Prop} (h:P:=by (with_reducible repeat (first|apply ra_|apply rn_|apply rd_));exact (Kd.R_mono (cf (Kd.R_types HO15.out BK10.out (by decide))) (fun _ h_=>h_.1))):P:=h
theorem oZ {P:Prop} (h:P:=by (with_reducible repeat (first|apply ra_|apply rn_|apply rd_));exact Kd.R_mono HO12.out cf_):P:=h
theorem dp {P:Prop} (h:P:=by first|(rw [hy1];with_reducible exact H)|(have H2_:=(Option.bind_some _ _).symm.trans H;rw [hy1];with_reducible exact H2_)|(have H2_:=(Option.bind_some _ _).symm.trans H;with_reducible exact H2_)|with_reducible exact H|(rw [hy1];exact H)|exact H):P:=h
theorem jG {P:Prop} (h:P:=by (with_reducible repeat (first|apply ra_|apply rn_|apply rd_));exact HO_10.out):P:=h
theorem nT {P:Prop} (h:P:=by (try simp only [hl5_1]);(try simp only [hl5_36]);(try simp only [hl5_4]);(with_reducible repeat (first|apply kn_|apply kd_|apply ka_));exact BK2.out):P:=h
theorem qy {P:Prop} (h:P:=by (with_reducible repeat (first|apply ra_|apply rn_|apply rd_));exact Kd.R_mono (cf (Kd.R_types HO3.out BK2.out (by decide))) (fun _ hk=>trivial)):P:=h
theorem jE {P:Prop} (h:P:=by rw [hg];exact Nat.ne_of_gt (al.lt (show al w0 _ g s0_0 s0_1 s0_2 from by repeat (with_reducible first|exact HI0.out|apply al.alloc|apply al.drewN|apply al.drew|apply al.set_1|apply al.set_2)))):P:=h
theorem q5 {P:Prop} (h:P:=by (with_reducible repeat (first|apply ra_|apply rn_|apply rd_));exact (Kd.R_mono (cf (Kd.R_types HO_4.out BK3.out (by decide))) (fun _ h_=>h_.1))):P:=h
theorem e7 {P:Prop} (h:P:=by repeat (first|exact (rr_ HO_2.out).2.2|(with_reducible refine ca_ ?_ _)|(with_reducible refine cn_ ?_ _)|(with_reducible refine cd_ ?_))):P:=h
theorem qu {P:Prop} (h:P:=by rw [hg];exact (bz_ (by repeat (with_reducible first|exact HB.out|apply ba_|apply bn_|apply bd_|refine bs_ ?_ GE1.out)))):P:=h
theorem pf {P:Prop} (h:P:=by (try simp only [hl5_1]);(with_reducible repeat (first|apply kn_|apply kd_|apply ka_));exact BK1.out):P:=h
theorem oQ {P:Prop} (h:P:=by (with_reducible repeat (first|apply ra_|apply rn_|apply rd_));exact Kd.R_mono HO_1.out (fun _ hk=>hk.1)):P:=h
theorem kf {P:Prop} (h:P:=by repeat (first|exact (Kd.V_reads' HO_3.out).2.2|(with_reducible refine ca_ ?_ _)|(with_reducible refine cn_ ?_ _)|(with_reducible refine cd_ ?_))):P:=h
theorem oW {P:Prop} (h:P:=by (with_reducible repeat (first|apply ra_|apply rn_|apply rd_));exact (Kd.R_mono (cf (Kd.R_types HO1.out BK1.out (by decide))) (fun _ h_=>h_.1))):P:=h
theorem qH {P:Prop} (h:P:=by (with_reducible repeat (first|apply Kd.V_alloc|apply Kd.V_drewN|apply Kd.V_drew));exact Kd.V_mono HO_3.out (fun _ hk=>⟨⟨hk.1.1.1,⟨hk.1.2,⟨hk.2,⟨hk.1.1.2.2.1,hk.1.1.2.2.2⟩⟩⟩⟩,hk.1.1.2.1⟩)):P:=h
theorem gw {P:Prop} (h:P:=by repeat (with_reducible first|exact HI1.out|apply al.alloc|apply al.drewN|apply al.drew|apply al.set_1|apply al.set_2|refine al.far ?_ NB3_1.out _|refine al.far ?_ NB3_2.out _)):P:=h
theorem i3 {P:Prop} (h:P:=by rw [hw,Ny3.out];exact HP1.1):P:=h
theorem q9 {P:Prop} (h:P:=by (with_reducible repeat (first|apply ra_|apply rn_|apply rd_));exact (Kd.R_mono (cf (Kd.R_types HO10.out BK4.out (by decide))) (fun _ h_=>h_.1))):P:=h
theorem rx {P:Prop} (h:P:=by (try simp only [hl5_1]);(with_reducible repeat (first|apply ra_|apply rn_|apply rd_));exact Kd.R_mono HO_1.out (fun _ hk=>⟨hk.2,hk.1⟩)):P:=h
theorem iX {P:Prop} (h:P:=by first|rfl|(simp [fi,fj] <;> rfl)|(simp only [← hji1];first|rfl|(simp [fi,fj] <;> rfl))|(simp [*,fi,fj] <;> rfl)):P:=h
theorem nU {P:Prop} (h:P:=by (try simp only [hl5_1]);(try simp only [hl5_36]);(try simp only [hl5_4]);(with_reducible repeat (first|apply ra_|apply rn_|apply rd_));exact HO_1.out):P:=h
theorem df {P:Prop} (h:P:=by repeat (with_reducible first|exact HK.out|apply ah.set_|apply fg|apply dD|apply fh)):P:=h
theorem ro {P:Prop} (h:P:=by (with_reducible repeat (first|apply ra_|apply rn_|apply rd_));exact (Kd.R_mono (cf (Kd.R_types HO13.out BK9.out (by decide))) (fun _ h_=>h_.1))):P:=h
theorem dg {P:Prop} (h:P:=by repeat (with_reducible first|exact HI0.out|apply al.alloc|apply al.drewN|apply al.drew|apply al.set_1|apply al.set_2|refine al.far ?_ NB0_1.out _)):P:=h
theorem nM {P:Prop} (h:P:=by rw [hg];exact Nat.ne_of_lt (al.lt (show al w0 _ g s0_0 t5 t6 from by repeat (with_reducible first|exact HI0.out|apply al.alloc|apply al.drewN|apply al.drew|apply al.set_1|apply al.set_2|refine al.far ?_ NB0_1.out _)))):P:=h
theorem dv {P:Prop} (h:P:=by repeat (with_reducible first|exact HI0.out|apply al.alloc|apply al.drewN|apply al.drew|apply al.set_1|apply al.set_2)):P:=h
theorem rf {P:Prop} (h:P:=by (with_reducible repeat (first|apply ra_|apply rn_|apply rd_));exact (Kd.R_mono (cf (Kd.R_types HO_9.out BK6.out (by decide))) (fun _ h_=>h_.1))):P:=h
theorem nO {P:Prop} (h:P:=by (with_reducible repeat (first|apply ra_|apply rn_|apply rd_));exact Kd.R_mono HO_1.out (fun _ hk=>hk.2)):P:=h
theorem mB {P:Prop} (h:P:=by (with_reducible repeat (first|apply ra_|apply rn_|apply rd_));exact HO_11.out):P:=h
theorem qv {P:Prop} (h:P:=by first|(rw [hy4];with_reducible exact H)|(have H2_:=(Option.bind_some _ _).symm.trans H;rw [hy4];with_reducible exact H2_)|(have H2_:=(Option.bind_some _ _).symm.trans H;with_reducible exact H2_)|with_reducible exact H|(rw [hy4];exact H)|exact H):P:=h
theorem nF {P:Prop} (h:P:=by (with_reducible repeat (first|apply Kd.V_alloc|apply Kd.V_drewN|apply Kd.V_drew));exact HO1_2.out):P:=h
theorem lw {P:Prop} (h:P:=by first|exact Kd.own_blk (Kd.R_ne HO_9.out BK6.out (by decide))|(rw [dd];exact Kd.own_blk (Kd.R_ne HO_9.out BK6.out (by decide)))|(show (Addr.add _ _).block≠_;rw [dd];exact Kd.own_blk (Kd.R_ne HO_9.out BK6.out (by decide)))|(dsimp only;exact Kd.own_blk (Kd.R_ne HO_9.out BK6.out (by decide)))):P:=h
theorem nL {P:Prop} (h:P:=by (try simp only [Int.add_zero]);repeat (with_reducible first|exact HI0.out|apply al.alloc|apply al.drewN|apply al.drew|apply al.set_1|apply al.set_2)):P:=h
theorem cU {P:Prop} (h:P:=by repeat (with_reducible first|exact HK.out|apply ah.set_|apply fg|apply dD|apply fh|refine gW ?_ GW1.out _)):P:=h
theorem aY {P:Prop} (h:P:=by repeat (with_reducible first|exact HB.out|apply ba_|apply bn_|apply bd_|refine bs_ ?_ GE1.out|refine bs_ ?_ GE2.out)):P:=h
theorem lu {P:Prop} (h:P:=by first|(rw [hji2] at H;exact H)|(simp only [hji2] at H ⊢;exact H)):P:=h
theorem dO {P:Prop} (h:P:=by first|(rw [hy2];with_reducible exact H)|(have H2_:=(Option.bind_some _ _).symm.trans H;rw [hy2];with_reducible exact H2_)|(have H2_:=(Option.bind_some _ _).symm.trans H;with_reducible exact H2_)|with_reducible exact H|(rw [hy2];exact H)|exact H):P:=h
theorem ce {P:Prop} (h:P:=by repeat (with_reducible first|exact HB.out|apply ba_|apply bn_|apply bd_|refine bs_ ?_ (al.ge HI0.out)|refine bs_ ?_ GE1.out|refine bs_ ?_ GE2.out)):P:=h
theorem qC {P:Prop} (h:P:=by repeat (first|exact (Kd.V_reads' HO1_2.out).2.2|(with_reducible refine ca_ ?_ _)|(with_reducible refine cn_ ?_ _)|(with_reducible refine cd_ ?_))):P:=h
theorem i4 {P:Prop} (h:P:=by rw [hw];exact HP1.2):P:=h
theorem ln {P:Prop} (h:P:=by (with_reducible repeat (first|apply ra_|apply rn_|apply rd_));exact Kd.R_mono HO_1.out (fun _ hk=>trivial)):P:=h
theorem qF {P:Prop} (h:P:=by (with_reducible repeat (first|apply ra_|apply rn_|apply rd_));exact Kd.R_mono HO_1.out (fun _ hk=>⟨hk.1.1,⟨hk.1.2,hk.2⟩⟩)):P:=h
theorem fw {P:Prop} (h:P:=by (with_reducible repeat (first|apply ra_|apply rn_|apply rd_));exact Kd.R_mono HO_8.out cf_):P:=h
theorem nC {P:Prop} (h:P:=by (with_reducible repeat (first|apply ra_|apply rn_|apply rd_));exact Kd.R_mono HO_2.out (fun _ hk=>hk.2)):P:=h
theorem qP {P:Prop} (h:P:=by (with_reducible repeat (first|apply ra_|apply rn_|apply rd_));exact Kd.R_mono (cf (Kd.R_types HO_2.out BK1.out (by decide))) (fun _ hk=>trivial)):P:=h
theorem nG {P:Prop} (h:P:=by (with_reducible repeat (first|apply ra_|apply rn_|apply rd_));exact HO5.out):P:=h
theorem o3 {P:Prop} (h:P:=by repeat (first|exact (rr_ HO_9.out).2.2|(with_reducible refine ca_ ?_ _)|(with_reducible refine cn_ ?_ _)|(with_reducible refine cd_ ?_))):P:=h
theorem gM {P:Prop} (h:P:=by repeat (with_reducible first|exact HB.out|apply ba_|apply bn_|apply bd_|refine bs_ ?_ GE1.out|refine bs_ ?_ GE2.out|refine bs_ ?_ GE3.out|refine bs_ ?_ GE4.out|refine bs_ ?_ GE5.out|refine bs_ ?_ GE6.out)):P:=h
theorem lv {P:Prop} (h:P:=by repeat (with_reducible first|exact HB.out|apply ba_|apply bn_|apply bd_|refine bs_ ?_ GE1.out|refine bs_ ?_ GE2.out|refine bs_ ?_ GE3.out|refine bs_ ?_ GE4.out)):P:=h
theorem ru {P:Prop} (h:P:=by rw [hg];exact Nat.ne_of_gt (al.lt (show al w _ g l0 t4 t5 from by repeat (with_reducible first|exact HI0.out|apply al.alloc|apply al.drewN|apply al.drew|apply al.set_1|apply al.set_2|refine al.far ?_ NB0_1.out _)))):P:=h
theorem fV {P:Prop} (h:P:=by (with_reducible repeat (first|apply ra_|apply rn_|apply rd_));exact Kd.R_mono HO_9.out cf_):P:=h
theorem bW {P:Prop} (h:P:=by (with_reducible repeat (first|apply ra_|apply rn_|apply rd_));exact HO_2.out):P:=h
theorem bV {P:Prop} (h:P:=by repeat (with_reducible first|exact HK.out|apply ah.set_|apply fg|apply dD|apply fh|refine gW ?_ GW1.out _|refine gW ?_ GW2.out _)):P:=h
theorem iZ {P:Prop} (h:P:=by repeat (with_reducible first|exact HB.out|apply ba_|apply bn_|apply bd_|refine bs_ ?_ (al.ge HI1.out)|refine bs_ ?_ GE1.out|refine bs_ ?_ GE2.out)):P:=h
theorem kd {P:Prop} (h:P:=by first|rfl|(simp;done)|(simp only [← hji1] <;> (first|rfl|simp))|(simp [*];done)):P:=h
theorem ra {P:Prop} (h:P:=by (with_reducible repeat (first|apply ra_|apply rn_|apply rd_));exact (Kd.R_mono (cf (Kd.R_types HO11.out BK5.out (by decide))) (fun _ h_=>h_.1))):P:=h
theorem nI {P:Prop} (h:P:=by (with_reducible repeat (first|apply ra_|apply rn_|apply rd_));exact (Kd.R_mono (cf (Kd.R_types HO13.out BK6.out (by decide))) (fun _ h_=>h_.1))):P:=h
theorem fH {P:Prop} (h:P:=by repeat (with_reducible first|exact HB.out|apply ba_|apply bn_|apply bd_|refine bs_ ?_ GE1.out|refine bs_ ?_ GE2.out|refine bs_ ?_ GE3.out|refine bs_ ?_ GE4.out|refine bs_ ?_ GE5.out|refine bs_ ?_ GE7.out|refine bs_ ?_ GE9.out)):P:=h
theorem rp {P:Prop} (h:P:=by repeat (first|exact (rr_ HO_11.out).2.2|(with_reducible refine ca_ ?_ _)|(with_reducible refine cn_ ?_ _)|(with_reducible refine cd_ ?_))):P:=h
theorem rb {P:Prop} (h:P:=by (with_reducible repeat (first|apply ra_|apply rn_|apply rd_));exact (Kd.R_mono (cf (Kd.R_types HO_1.out BK6.out (by decide))) (fun _ h_=>h_.1))):P:=h
theorem rr {P:Prop} (h:P:=by (with_reducible repeat (first|apply ra_|apply rn_|apply rd_));exact Kd.R_mono (cf (Kd.R_types HO1.out BK1.out (by decide))) (fun _ hk=>trivial)):P:=h
theorem mw {P:Prop} (h:P:=by repeat (first|exact HR0.out|(with_reducible refine ca_ ?_ _)|(with_reducible refine cn_ ?_ _)|(with_reducible refine cd_ ?_))):P:=h
theorem qS {P:Prop} (h:P:=by (with_reducible repeat (first|apply ra_|apply rn_|apply rd_));exact Kd.R_mono (cf (Kd.R_types HO_1.out BK1.out (by decide))) (fun _ hk=>trivial)):P:=h
theorem qz {P:Prop} (h:P:=by first|rfl|(simp [fi,fj] <;> rfl)|(simp only [← hji1,← hji2];first|rfl|(simp [fi,fj] <;> rfl))|(simp [*,fi,fj] <;> rfl)):P:=h
theorem oV {P:Prop} (h:P:=by have:=HJ1.out;have:=HJ2.out;first|omega|exact Nat.le_refl _):P:=h
theorem ao {P:Prop} (h:P:=by decide):P:=h
theorem d9 {P:Prop} (h:P:=by (with_reducible repeat (first|apply ra_|apply rn_|apply rd_));exact HO3.out):P:=h
theorem aC {P:Prop} (h:P:=by first|rfl|(simp [*];done)):P:=h
theorem fG {P:Prop} (h:P:=by rw [hg];exact (cr (w:=w) (g:=g) (row:=none) (by repeat (with_reducible first|exact HK.out|apply ah.set_|apply fg|apply dD|apply fh)))):P:=h
theorem pg {P:Prop} (h:P:=by (with_reducible repeat (first|apply ra_|apply rn_|apply rd_));exact Kd.R_mono HO_2.out (fun _ hk=>⟨trivial,hk⟩)):P:=h
theorem ry {P:Prop} (h:P:=by (try simp only [hl5_1]);(try simp only [hl5_36]);(try simp only [hl5_4]);(with_reducible repeat (first|apply ra_|apply rn_|apply rd_));exact HO_2.out):P:=h
theorem qW {P:Prop} (h:P:=by (with_reducible repeat (first|apply ra_|apply rn_|apply rd_));exact (Kd.R_mono (cf (Kd.R_types HO_4.out BK2.out (by decide))) (fun _ h_=>h_.1))):P:=h
theorem iY {P:Prop} (h:P:=by (with_reducible repeat (first|apply ra_|apply rn_|apply rd_));exact HO4.out):P:=h
theorem oR {P:Prop} (h:P:=by (with_reducible repeat (first|apply ra_|apply rn_|apply rd_));exact Kd.R_mono (cf (Kd.R_types HO2.out BK2.out (by decide))) (fun _ hk=>trivial)):P:=h
theorem nD {P:Prop} (h:P:=by repeat (first|exact (rr_ HO2.out).2.2|(with_reducible refine ca_ ?_ _)|(with_reducible refine cn_ ?_ _)|(with_reducible refine cd_ ?_))):P:=h
theorem gL {P:Prop} (h:P:=by (with_reducible repeat (first|apply ra_|apply rn_|apply rd_));exact Kd.R_mono HO_4.out cf_):P:=h
theorem mC {P:Prop} (h:P:=by (try simp only [hl5_1]);(try simp only [hl5_36]);(try simp only [hl5_4]);(with_reducible repeat (first|apply kn_|apply kd_|apply ka_));exact BK1.out):P:=h
theorem oT {P:Prop} (h:P:=by rw [hg];exact Nat.ne_of_gt (fU (g:=gb1) (o:=.cells #[.int .i64 0,.bool false,.slice none 0 0] 26 (0,0)) (u1_ BK1))):P:=h
theorem qt {P:Prop} (h:P:=by repeat (with_reducible first|exact HK.out|apply dn.alloc|apply dn.drewN|apply dn.drew|refine dn.setCell ?_ (.inr GW1.out) _)):P:=h
theorem bS {P:Prop} (h:P:=by kernel_rfl):P:=h
theorem mD {P:Prop} (h:P:=by (with_reducible repeat (first|apply ra_|apply rn_|apply rd_));exact Kd.R_mono HO_1.out (fun _ hk=>⟨trivial,hk⟩)):P:=h
theorem gK {P:Prop} (h:P:=by rw [hg];exact (cr (w:=w) (g:=g) (row:=none) (by repeat (with_reducible first|exact HK.out|apply ah.set_|apply fg|apply dD|apply fh|refine gW ?_ GW1.out _)))):P:=h
theorem gJ {P:Prop} (h:P:=by rw [lt_];have h_:(x5_1:Int)≤(l0.length:Int):=od_ (by first|(with_reducible assumption)|assumption);omega):P:=h
theorem d6 {P:Prop} (h:P:=by (with_reducible repeat (first|apply ra_|apply rn_|apply rd_));exact HO_8.out):P:=h
theorem eq {P:Prop} (h:P:=by first|rfl|(simp;done)|(simp [*];done)):P:=h
theorem gR {P:Prop} (h:P:=by (with_reducible repeat (first|apply ra_|apply rn_|apply rd_));exact Kd.R_mono HO_2.out (fun _ hk=>⟨hk.2,hk.1⟩)):P:=h
theorem mE {P:Prop} (h:P:=by have:=HK1.out;have:=HK2.out;have:=HJ1.out;have:=HK3.out;omega):P:=h
theorem qT {P:Prop} (h:P:=by (with_reducible repeat (first|apply ra_|apply rn_|apply rd_));exact Kd.R_mono (cf (rf_ (Kd.R_types (Kd.R_types HO2.out BK2.out (by decide)) BK1.out (by decide)) (fun _ hk=>hk.1.2) (.slice Ao3 y1.length co3))) (fun _ hk=>trivial)):P:=h
theorem qU {P:Prop} (h:P:=by (with_reducible repeat (first|apply ra_|apply rn_|apply rd_));exact (Kd.R_mono (cf (Kd.R_types HO_1.out BK2.out (by decide))) (fun _ h_=>h_.1))):P:=h
theorem aD {P:Prop} (h:P:=by (with_reducible repeat (first|apply ra_|apply rn_|apply rd_));exact HO_1.out):P:=h
theorem qN {P:Prop} (h:P:=by (with_reducible repeat (first|apply ra_|apply rn_|apply rd_));exact Kd.R_mono (rf_ (rf_ (Kd.R_mono HO_1.out (fun k_ hk=>(⟨hk,hk.2⟩:_∧k_≠gb2))) (fun _ hk=>hk.2) (.int .i64 ((ci t5 x37_1).f0))) (fun _ hk=>hk.2) (.int .i64 ((ci t5 x37_1).f1))) (fun _ hk=>trivial)):P:=h
theorem ei {P:Prop} (h:P:=by (with_reducible repeat (first|apply ra_|apply rn_|apply rd_));exact HO_4.out):P:=h
theorem oX {P:Prop} (h:P:=by (with_reducible repeat (first|apply ra_|apply rn_|apply rd_));exact (Kd.R_mono (cf (Kd.R_types HO8.out BK2.out (by decide))) (fun _ h_=>h_.1))):P:=h
theorem rn {P:Prop} (h:P:=by (with_reducible repeat (first|apply ra_|apply rn_|apply rd_));exact HO12.out):P:=h
theorem dQ {P:Prop} (h:P:=by (with_reducible repeat (first|apply ra_|apply rn_|apply rd_));exact HO_6.out):P:=h
theorem rl {P:Prop} (h:P:=by have:=HJ1.out;have:=HJ2.out;have:=HJ3.out;have:=HJ4.out;have:=HJ5.out;have:=HJ6.out;have:=HJ7.out;have:=HJ8.out;have:=HK1.out;omega):P:=h
theorem fd {P:Prop} (h:P:=by (with_reducible repeat (first|apply ra_|apply rn_|apply rd_));exact Kd.R_mono HO_6.out cf_):P:=h
theorem nN {P:Prop} (h:P:=by rw [hg];exact Nat.ne_of_gt (al.lt (show al w0 _ g s0_0 t5 t6 from by repeat (with_reducible first|exact HI0.out|apply al.alloc|apply al.drewN|apply al.drew|apply al.set_1|apply al.set_2|refine al.far ?_ NB0_1.out _)))):P:=h
theorem jC {P:Prop} (h:P:=by (with_reducible repeat (first|apply Kd.V_alloc|apply Kd.V_drewN|apply Kd.V_drew));exact HO_2.out):P:=h
theorem qB {P:Prop} (h:P:=by (with_reducible repeat (first|apply ra_|apply rn_|apply rd_));exact Kd.R_mono HO2.out (fun _ hk=>⟨hk.2,hk.1.2⟩)):P:=h
theorem bL {P:Prop} (h:P:=by omega):P:=h
theorem bx {P:Prop} (h:P:=by simp):P:=h
theorem rz {P:Prop} (h:P:=by (try simp only [hl5_1]);(try simp only [hl5_36]);(try simp only [hl5_4]);(with_reducible repeat (first|apply ra_|apply rn_|apply rd_));exact Kd.R_mono HO_2.out (fun _ hk=>⟨hk.2,hk.1⟩)):P:=h
theorem rm {P:Prop} (h:P:=by (with_reducible repeat (first|apply ra_|apply rn_|apply rd_));exact Kd.R_mono (cf (Kd.R_types HO_2.out BK7.out (by decide))) cf_):P:=h
theorem dG {P:Prop} (h:P:=by repeat (with_reducible first|exact HB.out|apply ba_|apply bn_|apply bd_|refine bs_ ?_ (al.ge HI0.out)|refine bs_ ?_ GE1.out)):P:=h
theorem bQ {P:Prop} (h:P:=by repeat (with_reducible first|exact HI0.out|apply al.alloc|apply al.drewN|apply al.drew|apply al.set_1|apply al.set_2|refine al.far ?_ NB0_1.out _|refine al.far ?_ NB0_2.out _)):P:=h
theorem oS {P:Prop} (h:P:=by (with_reducible repeat (first|apply ra_|apply rn_|apply rd_));exact Kd.R_mono HO3.out (fun _ hk=>⟨hk.2,hk.1.2⟩)):P:=h
theorem qV {P:Prop} (h:P:=by (with_reducible repeat (first|apply ra_|apply rn_|apply rd_));exact (Kd.R_mono (cf (Kd.R_types HO_3.out BK2.out (by decide))) (fun _ h_=>h_.1))):P:=h
theorem oY {P:Prop} (h:P:=by (with_reducible repeat (first|apply ra_|apply rn_|apply rd_));exact (Kd.R_mono (cf (Kd.R_types HO8.out BK3.out (by decide))) (fun _ h_=>h_.1))):P:=h
theorem mm {P:Prop} (h:P:=by repeat (first|exact (cb_ HR0.out HB.out)|(with_reducible refine ca_ ?_ _)|(with_reducible refine cn_ ?_ _)|(with_reducible refine cd_ ?_))):P:=h
theorem o4 {P:Prop} (h:P:=by first|exact Kd.own_blk (Kd.R_ne HO_4.out BK8.out (by decide))|(rw [dd];exact Kd.own_blk (Kd.R_ne HO_4.out BK8.out (by decide)))|(show (Addr.add _ _).block≠_;rw [dd];exact Kd.own_blk (Kd.R_ne HO_4.out BK8.out (by decide)))|(dsimp only;exact Kd.own_blk (Kd.R_ne HO_4.out BK8.out (by decide)))):P:=h
theorem bR {P:Prop} (h:P:=by (with_reducible repeat (first|apply ra_|apply rn_|apply rd_));exact HO1.out):P:=h
theorem rA {P:Prop} (h:P:=by (with_reducible repeat (first|apply ra_|apply rn_|apply rd_));exact Kd.R_mono HO3.out (fun _ hk=>trivial)):P:=h
theorem qD {P:Prop} (h:P:=by (with_reducible repeat (first|apply Kd.V_alloc|apply Kd.V_drewN|apply Kd.V_drew));exact Kd.V_mono HO1_2.out (fun _ hk=>⟨hk.1.1,⟨hk.2,hk.1.2⟩⟩)):P:=h
theorem rB {P:Prop} (h:P:=by (try simp only [hl5_1]);(try simp only [hl5_36]);(try simp only [hl5_4]);(with_reducible repeat (first|apply ra_|apply rn_|apply rd_));exact Kd.R_mono HO_3.out (fun _ hk=>⟨hk.2,hk.1⟩)):P:=h
theorem nK {P:Prop} (h:P:=by first|exact TabOK.below HG0.out (by repeat (with_reducible first|exact HB.out|apply ba_|apply bn_|apply bd_|refine bs_ ?_ GE1.out|refine bs_ ?_ GE2.out))|(repeat (first|exact HG0.out|apply TabOK.drew|apply TabOK.drewN))|exact TabOK.drawn HG0.out (by assumption)):P:=h
theorem q6 {P:Prop} (h:P:=by (with_reducible repeat (first|apply ra_|apply rn_|apply rd_));exact (Kd.R_mono (cf (Kd.R_types HO_2.out BK3.out (by decide))) (fun _ h_=>h_.1))):P:=h
theorem e5 {P:Prop} (h:P:=by injection e2):P:=h
theorem qG {P:Prop} (h:P:=by (with_reducible repeat (first|apply Kd.V_alloc|apply Kd.V_drewN|apply Kd.V_drew));exact Kd.V_mono HO_2.out (fun _ hk=>⟨⟨hk.1.1.1,⟨hk.1.2,⟨hk.2,⟨hk.1.1.2.2.1,hk.1.1.2.2.2⟩⟩⟩⟩,hk.1.1.2.1⟩)):P:=h
theorem ki {P:Prop} (h:P:=by have:=HJ1.out;first|omega|exact Nat.le_refl _):P:=h
theorem lp {P:Prop} (h:P:=by rw [hg];exact (bz_ (by repeat (with_reducible first|exact HB.out|apply ba_|apply bn_|apply bd_)))):P:=h
theorem di {P:Prop} (h:P:=by (with_reducible repeat (first|apply ra_|apply rn_|apply rd_));exact HO_3.out):P:=h
theorem rh {P:Prop} (h:P:=by (with_reducible repeat (first|apply ra_|apply rn_|apply rd_));exact (Kd.R_mono (cf (Kd.R_types HO_5.out BK6.out (by decide))) (fun _ h_=>h_.1))):P:=h
theorem iu {P:Prop} (h:P:=by first|exact Kd.R_nil _ _ _ _ _|exact Kd.N_nil _ _ _ _ _|exact Kd.V_nil _ _ _ _ _|exact Kd.Q_nil _ _ _ _ _|exact Kd.S_nil _ _ _ _ _):P:=h
theorem qR {P:Prop} (h:P:=by (with_reducible repeat (first|apply ra_|apply rn_|apply rd_));exact Kd.R_mono (rf_ (Kd.R_types HO2.out BK2.out (by decide)) kR _) (fun _ hk=>trivial)):P:=h
theorem rC {P:Prop} (h:P:=by (try simp only [hl5_1]);(try simp only [hl5_36]);(try simp only [hl5_4]);(with_reducible repeat (first|apply ra_|apply rn_|apply rd_));exact HO_3.out):P:=h
theorem r9 {P:Prop} (h:P:=by assumption):P:=h
theorem kk {P:Prop} (h:P:=by repeat (first|exact (rr_ HO3.out).2.2|(with_reducible refine ca_ ?_ _)|(with_reducible refine cn_ ?_ _)|(with_reducible refine cd_ ?_))):P:=h
theorem nJ {P:Prop} (h:P:=by (with_reducible repeat (first|apply ra_|apply rn_|apply rd_));exact Kd.R_mono HO_11.out cf_):P:=h
theorem mq {P:Prop} (h:P:=by rw [← hq_];exact (by repeat (with_reducible first|exact HB.out|apply ba_|apply bn_|apply bd_|refine bs_ ?_ GE1.out|refine bs_ ?_ GE2.out))):P:=h
theorem qI {P:Prop} (h:P:=by (with_reducible repeat (first|apply ra_|apply rn_|apply rd_));exact Kd.R_mono HO3.out (fun _ hk=>⟨⟨hk.1.1.1,hk.2⟩,hk.1.2⟩)):P:=h
theorem fE {P:Prop} (h:P:=by repeat (first|exact (rr_ HO1.out).2.2|(with_reducible refine ca_ ?_ _)|(with_reducible refine cn_ ?_ _)|(with_reducible refine cd_ ?_))):P:=h
theorem cQ {P:Prop} (h:P:=by (with_reducible repeat (first|apply ra_|apply rn_|apply rd_));exact HO2.out):P:=h
theorem ph {P:Prop} (h:P:=by (try simp only [hl5_1]);(with_reducible repeat (first|apply kn_|apply kd_|apply ka_));exact BK2.out):P:=h
set_option maxHeartbeats 8000000
set_option maxRecDepth 100000

theorem is_ {c:Prop} [Decidable c] {α:Type} {x:Option α} {r:α} (h:(if c then x else none)=some r):c∧x=some r:=by
 by_cases e:c
 ·rw [if_pos e] at h;exact ⟨e,h⟩
 ·rw [if_neg e] at h;cases h
theorem i1_ {c:Prop} [Decidable c] {α:Type} {x:Option α} {r:α} (h:(if c then x else none)=some r):decide c=true∧x=some r:=⟨decide_eq_true (is_ h).1,(is_ h).2⟩
theorem i2_ {c:Prop} [Decidable c] {α:Type} {x:Option α} {r:α} (h:(if c then x else none)=some r):(c=True)∧decide c=true∧x=some r:=⟨eq_true (is_ h).1,decide_eq_true (is_ h).1,(is_ h).2⟩
theorem a3_ {w:World} {g:Nat} {v0 v1 v2:Value} {t:TypeId} {R:Prop} (B:Aside0 (w.heap[g]?=some (.cells #[v0,v1,v2] t (0,0)))) (r:R):w.cell? ⟨g,0,none⟩=some v0∧w.cell? ⟨g,1,none⟩=some v1∧w.cell? ⟨g,2,none⟩=some v2∧R:=⟨(ew B.out 0).trans rfl,(ew B.out 1).trans rfl,(ew B.out 2).trans rfl,r⟩
theorem cf {α:Type} {d:Kd α} {e:Nat} {w:World} {base:Nat} {P:Nat→Prop} {v:Value} {xs:List α} {g:Nat} {i0 i1 i2:Nat} {x0 x1 x2:Value} (h:d.R e w base (fun n=>P n∧n≠g) v xs):d.R e (((w.setCell ⟨g,i0,none⟩ x0).setCell ⟨g,i1,none⟩ x1).setCell ⟨g,i2,none⟩ x2) base (fun n=>P n∧n≠g) v xs:=(Kd.R_far (Kd.R_far (Kd.R_far h (fun _ h=>h.2) x0) (fun _ h=>h.2) x1) (fun _ h=>h.2) x2)
theorem sp {α:Type} {d:Kd α} {e:Nat} {w:World} {base:Nat} {P:Nat→Prop} {v:Value} {xs:List α} {g:Nat} {i0 i1:Nat} {x0 x1:Value} (h:d.R e w base (fun n=>P n∧n≠g) v xs):d.R e ((w.setCell ⟨g,i0,none⟩ x0).setCell ⟨g,i1,none⟩ x1) base (fun n=>P n∧n≠g) v xs:=(Kd.R_far (Kd.R_far h (fun _ h=>h.2) x0) (fun _ h=>h.2) x1)
theorem q1_ {α:Type} {d:Kd α} {e:Nat} {w0 w1 w2:World} {base:Nat} {ok:Nat→Prop} {v:Value} {xs:List α} (B:Aside0 (d.R e w0 base ok v xs)) (hb:Below w1.heap.size w1 w2) (h:d.R e w0 base ok v xs→d.R e w1 base ok v xs:=by intro h_;(with_reducible repeat (first|apply ra_|apply rn_|apply rd_));exact h_):Aside0 (d.R e w2 base ok v xs):=⟨Kd.R_below (h B.out) hb⟩
theorem n2_ {a b:Nat} (h:Aside0 (a≠b)):a≠b∧b≠a:=⟨h.out,h.out.symm⟩
theorem nn_ {w0 W:World} {g g2:Nat} {o:Obj} (hg:g2=W.heap.size) (B:Aside0 (w0.heap[g]?=some o)) (h:w0.heap[g]?=some o→W.heap[g]?=some o:=by intro h_;(with_reducible repeat (first|apply dU|apply ej|apply dV|apply iw|apply ix|apply iy|apply iz|apply iA|refine ec ?_ nb_ _));exact h_):Aside0 (g≠g2)∧Aside0 (g2≠g):=⟨nl_ hg B h,ng_ hg B h⟩
theorem y_ {w:World} {g:Nat} {vs:Array Value} {t:TypeId} {c:Value} (B:Aside0 (w.heap[g]?=some (.cells vs t (0,0)))) (i:Nat) (h:vs[i]?=some c:=by rfl):w.cell? ⟨g,i,none⟩=some c:=(ew B.out i).trans h
theorem t3_ {α:Type} {d:Kd α} {e:Nat} {w:World} {base:Nat} {ok:Nat→Prop} {v:Value} {xs:List α} {g t:Nat} {cs:Array Value} {W:World} {i0 i1 i2:Nat} {x0 x1 x2:Value} (hW:(((w.setCell ⟨g,i0,none⟩ x0).setCell ⟨g,i1,none⟩ x1).setCell ⟨g,i2,none⟩ x2)=W) (h:Aside0 (d.R e w base ok v xs)) (B:Aside0 (w.heap[g]?=some (.cells cs t (0,0)))) (ht:∀ q,q ∈ e :: d.E→q≠t:=by decide):Aside0 (d.R e W base (fun _=>True) v xs):=⟨hW ▸ Kd.R_mono (Kd.R_far (Kd.R_far (Kd.R_far (Kd.R_types h.out B.out ht) (fun _ h=>h.2) x0) (fun _ h=>h.2) x1) (fun _ h=>h.2) x2) (fun _ _=>trivial)⟩
theorem v_ {w0 W W':World} {g:Nat} {o:Obj} (hW:W=W') (B:Aside0 (w0.heap[g]?=some o)) (h:w0.heap[g]?=some o→W.heap[g]?=some o:=by intro h_;(with_reducible repeat (first|apply dU|apply ej|apply dV|apply iw|apply ix|apply iy|apply iz|apply iA|refine ec ?_ nb_ _));exact h_):Aside0 (W'.heap[g]?=some o):=⟨hW ▸ h B.out⟩
theorem v2_ {w0 W W':World} {g:Nat} {o0:Obj} (o:Obj) (hW:W=W') (B:Aside0 (w0.heap[g]?=some o0)) (h:w0.heap[g]?=some o0→W.heap[g]?=some o:=by intro h_;(with_reducible repeat (first|apply dU|apply ej|apply dV|apply iw|apply ix|apply iy|apply iz|apply iA|refine ec ?_ nb_ _));exact h_):Aside0 (W'.heap[g]?=some o):=⟨hW ▸ h B.out⟩
theorem vb_ {B:Nat} {w W0 W W':World} (_:Aside0 (Below B w W0)) (hW:W=W') (h:Below B w W):Aside0 (Below B w W'):=⟨hW ▸ h⟩
def sb:Option Int→Value
 | none=>.nilIface
 | some c=>.iface 0 (.int .i64 c)
theorem fi:sb none=.nilIface:=rfl
theorem fj (c:Int):sb (some c)=.iface 0 (.int .i64 c):=rfl

theorem cP:(Tryd.prog.info? 3).map (fun i=>(i.zero,i.size,i.bytes))=some (some (.int .i64 0),1,8):=by kernel_rfl
theorem km:(Tryd.prog.info? 72).map (fun i=>(i.zero,i.size,i.bytes))=some (some (.agg #[(.int .i64 0),(.int .i64 0)]),2,16):=by kernel_rfl
-- the values' own types
/-! #### struct type 72 -/
structure S72 where
 f0:Int
 f1:Int
def z72:S72:=⟨(0:Int),(0:Int)⟩
def k72:Kd S72:=Kd.iso (Kd.pair (Kd.int .i64) (Kd.int .i64)) (fun x:S72=>(x.f0,x.f1))
theorem sc:Kd.Heap k72:=Kd.heap_iso _ (Kd.heap_pair (Kd.heap_int .i64) (Kd.heap_int .i64))
theorem pi {w:World} {x:S72} {cs:List Value} (h:k72.K w x cs):cs=[.int .i64 x.f0,.int .i64 x.f1]:=by
 obtain ⟨_,_,rfl,rfl,rfl⟩:=h
 exact rfl
theorem rZ {w:World} {base:Nat} {ok:Nat→Prop} {x:S72} {cs:List Value} (h:k72.M w base ok x cs):cs=[.int .i64 x.f0,.int .i64 x.f1]:=by
 obtain ⟨_,_,rfl,rfl,rfl⟩:=h
 exact rfl
theorem rN (w:World) (x:S72)  : k72.K w x [.int .i64 x.f0,.int .i64 x.f1]:=⟨[.int .i64 x.f0],[.int .i64 x.f1],rfl,rfl,rfl⟩
theorem hY (w:World) (base:Nat) (ok:Nat→Prop) (x:S72)  : k72.M w base ok x [.int .i64 x.f0,.int .i64 x.f1]:=⟨[.int .i64 x.f0],[.int .i64 x.f1],rfl,rfl,rfl⟩
theorem so (W:World) (ok:Nat→Prop) (x:S72):Kd.FK k72 W ok x [.int .i64 x.f0,.int .i64 x.f1]:=fun W2 _=>rN W2 x
def ci (xs:List S72) (i:Int):S72:=xs.getD i.toNat z72
theorem gT {w:World} {A:Option Addr} {n:Nat} {xs:List S72} (h:Kd.C k72 w A n xs) (i:Int) (h0:0≤i) (h1:i<n):∃ ad , A=some ad∧w.cell? (ad.add (i.toNat * 2))=some (.int .i64 (ci xs i).f0)∧w.cell? ⟨(ad.add (i.toNat * 2)).block,(ad.add (i.toNat * 2)).off+1,none⟩=some (.int .i64 (ci xs i).f1):=by
 obtain ⟨ad,c,e,_,hK,hc0⟩:=Kd.C_get h z72 i h0 h1;have hc:∀ j u,c[j]?=some u→w.cell? (ad.add (i.toNat * 2+j))=some u:=hc0;obtain rfl:=pi hK
 exact ⟨ad,e,hc 0 _ rfl,by rw [← oe _ _ 1 bL];exact hc 1 _ rfl⟩

end Go.Proofs.YtgcgmlbjklkkjaaDoor.QFnGame
-- packed
-- squeezed
