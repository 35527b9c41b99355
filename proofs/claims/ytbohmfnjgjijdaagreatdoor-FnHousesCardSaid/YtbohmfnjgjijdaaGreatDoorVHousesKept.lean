-- Out of what the kit's print.sh wrote for this seat: the part that this law's texts use (squeeze.py, a program of this session).
import Derived.Test.YtbohmfnjgjijdaaGreatDoorVHousesFoot
namespace Go.Proofs.YtbohmfnjgjijdaaGreatDoorW.PrintWords
open Go.RowKit
def cN (w W:World) (S:Nat→Prop):Prop:=w.heap.size≤W.heap.size∧∀ i,i<w.heap.size→¬ S i→W.heap[i]?=w.heap[i]?
section
variable {w W W2:World} {S S2 S':Nat→Prop}
theorem cN.refl (w:World) (S:Nat→Prop):cN w w S:=⟨Nat.le_refl _,fun _ _ _=>rfl⟩
theorem cN.of_below (h:Below w.heap.size w W) (S:Nat→Prop):cN w W S:=⟨h.size,fun i hi _=>h.block i hi⟩
theorem cN.mono (h:cN w W S) (hs:∀ k,S k→S' k):cN w W S':=⟨h.1,fun i hi hn=>h.2 i hi (fun hk=>hn (hs i hk))⟩
theorem cN.then_ (h:cN w W S) (k:cN W W2 S2) (hs:∀ k,S2 k→S k ∨ w.heap.size≤k):cN w W2 S :=
 ⟨Nat.le_trans h.1 k.1,fun i hi hn=>(k.2 i (Nat.lt_of_lt_of_le hi h.1) (fun h2=>(hs i h2).elim hn (fun h3=>by omega))).trans (h.2 i hi hn)⟩
theorem cN.of_grown {row:Option Nat} (hg:W.grownBy W2 row) (h:cN w W S) (hr:∀ k,row=some k→S k ∨ w.heap.size≤k):cN w W2 S :=
 h.then_ (S2:=fun k=>row=some k) ⟨hg.size,fun i hi hn=>hg.block i hi (fun he=>hn he.symm)⟩ hr
theorem cN.below (h:cN w W S) (hb:Below W.heap.size W W2):cN w W2 S:=h.then_ (cN.of_below hb (fun _=>False)) (fun _ hk=>hk.elim)
theorem cN.alloc (h:cN w W S) (o:Obj):cN w (W.alloc o) S:=h.below (cY (Below.refl _ _) o)
theorem cN.drew (h:cN w W S):cN w W.drew S:=h
theorem cN.drewN (h:cN w W S) (m:Nat):cN w (W.drewN m) S:=h
theorem cN.setCell (h:cN w W S) {p:Addr} (hp:S p.block ∨ w.heap.size≤p.block) (u:Value):cN w (W.setCell p u) S :=
 h.then_ (S2:=fun k=>k=p.block) ⟨by simp [World.setCell],fun i _ hn=>Below.heap_setCell W p u i hn⟩ (fun k hk=>by rw [hk];exact hp)
theorem cN.keep {g:Nat} (h:af w W g none) (k:cN W W2 S2) (hs:∀ k,S2 k→w.heap.size≤k):af w W2 g none :=
 ⟨Nat.le_trans h.1 k.1,fun i hi hg hr=>(k.2 i (Nat.lt_of_lt_of_le hi h.1) (fun h2=>by have:=hs i h2;omega)).trans (h.2 i hi hg hr)⟩
theorem fw {g:Nat} {o:Obj} (hb:W.heap[g]?=some o) (hk:cN W W2 S) (hne:¬ S g):W2.heap[g]?=some o:=(hk.2 g (ev hb) hne).trans hb
end
namespace Kd
section
variable {α:Type} {d:Kd α} {e base n c:Nat} {ok oki S S2:Nat→Prop} {w w0 W W1 W2:World} {v:Value} {A:Option Addr} {xs:List α} {i:Int} {cs:List Value}
theorem oA (h:d.R e W base ok v xs) (hk:cN W W2 S) (hne:∀ k,ok k→¬ S k):d.R e W2 base ok v xs:=jF h (fun k ho hlt=>hk.2 k hlt (hne k ho))
theorem C_kept_came (hd:Heap d) (h:d.C w0 A n xs) (hb:Below w0.heap.size w0 W) (hS:∀ k,S k→w0.heap.size≤k):∀ W',cN W W' S→d.C W' A n xs:=fun W' hk =>
 hd.C (fun k hlt=>(hk.2 k (Nat.lt_of_lt_of_le hlt hb.size) (fun h2=>by have:=hS k h2;omega)).trans (hb.block k hlt)) h
end
end Kd
end Go.Proofs.YtbohmfnjgjijdaaGreatDoorW.PrintWords
