/- Small laws for short walks: what a test says, what is held at a later world. No condition beyond those each states. -/
import Derived.Lib.QuietBelow
import Derived.Below
import Derived.WalkKit
import Derived.Deep.RegionHeld3
import Derived.Test.YtckpikfbhlhhjaaGreatDoorCompact
namespace Go.Proofs.YtckpikfbhlhhjaaGreatDoor
open Go.Sort (grow)
open Go.RowKit
open Go.Proofs.YtckpikfbhlhhjaaGreatDoorW.PrintWords

section
variable {α β:Type} {x y:Option α} {r:α}
theorem bs {x:Option β} {f:β→Option α} (h:x.bind f=some r): ∃a,x=some a∧f a=some r:=Option.bind_eq_some_iff.mp h
theorem si {a b:α} (h:some a=some b):a=b:=Option.some.inj h
theorem ib {b:Bool} (h:(if b=true then x else y)=some r):(b=true∧x=some r)∨(b=false∧y=some r):=by
  cases b<;>simp_all
theorem ip {p:Prop} [Decidable p] (h:(if p then x else y)=some r):(p∧x=some r)∨(¬p∧y=some r):=by
  by_cases c:p<;>simp_all
theorem il {a b:Int} (h:(if a<b then x else y)=some r):(Aside0 (a<b)∧decide (a<b)=true∧x=some r)∨(Aside0 (¬a<b)∧decide (a<b)=false∧y=some r):=by
  by_cases c:a<b
  ·exact .inl ⟨⟨c⟩,decide_eq_true c,(if_pos (show _ from c)).symm.trans h⟩
  ·exact .inr ⟨⟨c⟩,decide_eq_false c,(if_neg (show¬_ from c)).symm.trans h⟩
theorem ig {a b:Int} (h:(if a>b then x else y)=some r):(Aside0 (b<a)∧decide (b<a)=true∧x=some r)∨(Aside0 (¬b<a)∧decide (b<a)=false∧y=some r):=by
  by_cases c:b<a
  ·exact .inl ⟨⟨c⟩,decide_eq_true c,(if_pos (show _ from c)).symm.trans h⟩
  ·exact .inr ⟨⟨c⟩,decide_eq_false c,(if_neg (show¬_ from c)).symm.trans h⟩
theorem ie {a b:Int} (h:(if a≤b then x else y)=some r):(Aside0 (a≤b)∧decide (a≤b)=true∧x=some r)∨(Aside0 (¬a≤b)∧decide (a≤b)=false∧y=some r):=by
  by_cases c:a≤b
  ·exact .inl ⟨⟨c⟩,decide_eq_true c,(if_pos (show _ from c)).symm.trans h⟩
  ·exact .inr ⟨⟨c⟩,decide_eq_false c,(if_neg (show¬_ from c)).symm.trans h⟩
theorem ih {a b:Int} (h:(if a≥b then x else y)=some r):(Aside0 (b≤a)∧decide (b≤a)=true∧x=some r)∨(Aside0 (¬b≤a)∧decide (b≤a)=false∧y=some r):=by
  by_cases c:b≤a
  ·exact .inl ⟨⟨c⟩,decide_eq_true c,(if_pos (show _ from c)).symm.trans h⟩
  ·exact .inr ⟨⟨c⟩,decide_eq_false c,(if_neg (show¬_ from c)).symm.trans h⟩
theorem ieN {α:Type} {a b:Nat} {x y:Option α} {r:α} (h:(if a≤b then x else y)=some r):(Aside0 (a≤b)∧(a≤b)=True∧x=some r)∨(Aside0 (¬a≤b)∧(a≤b)=False∧y=some r):=by
  by_cases c:a≤b
  ·rw[if_pos c] at h;exact .inl ⟨⟨c⟩,eq_true c,h⟩
  ·rw[if_neg c] at h;exact .inr ⟨⟨c⟩,eq_false c,h⟩
theorem ilN {α:Type} {a b:Nat} {x y:Option α} {r:α} (h:(if a<b then x else y)=some r):(Aside0 (a<b)∧(a<b)=True∧x=some r)∨(Aside0 (¬a<b)∧(a<b)=False∧y=some r):=by
  by_cases c:a<b
  ·rw[if_pos c] at h;exact .inl ⟨⟨c⟩,eq_true c,h⟩
  ·rw[if_neg c] at h;exact .inr ⟨⟨c⟩,eq_false c,h⟩
theorem iq {τ:Type} [BEq τ] [LawfulBEq τ] {a b:τ} [Decidable (a=b)] (h:(if a=b then x else y)=some r):(Aside0 (a=b)∧((a==b)=true∧(a !=b)=false)∧x=some r)∨(Aside0 (¬a=b)∧((a==b)=false∧(a !=b)=true)∧y=some r):=by
  by_cases c:a=b
  ·rw[if_pos c] at h
   exact .inl ⟨⟨c⟩,⟨beq_iff_eq.mpr c,bne_eq_false_iff_eq.mpr c⟩,h⟩
  ·rw[if_neg c] at h
   exact .inr ⟨⟨c⟩,⟨beq_eq_false_iff_ne.mpr c,bne_iff_ne.mpr c⟩,h⟩
theorem itt (h:(if true=true then x else y)=some r):x=some r:=by simpa using h
theorem iff_ (h:(if false=true then x else y)=some r):y=some r:=by simpa using h
end
/-! what holds of a later world: a default proof, run where it is used -/
theorem zB {w w':World} (h:Below w.heap.size w w':=by repeat(first|(with_reducible first|exact Below.refl _ _|assumption|apply below_alloc|apply pw_below_drewN|apply below_drew1)|(refine below_step ?_ (Aside0.out (by assumption))))):Below w.heap.size w w':=h
theorem zC {α:Type} {d:Kd α} {w:World} {A:Option Addr} {n:Nat} {xs:List α} (h:d.C w A n xs:=by first|(with_reducible assumption)|(refine Kd.C_below (by assumption) ?_;repeat(first|(with_reducible first|exact Below.refl _ _|assumption|apply below_alloc|apply pw_below_drewN|apply below_drew1)|(refine below_step ?_ (Aside0.out (by assumption)))))):d.C w A n xs:=h
theorem gw {P:Program} {c:Code} {Q:Exit→Act→World→Prop} {a:Act} {W0:World} (h: ∀W,W=W0→c.wp P Q a W):c.wp P Q a W0:=h _ rfl
theorem nw {P:Program} {c:Code} {Q:Exit→Act→World→Prop} {a:Act} {w0 W:World} (hb:Below w0.heap.size w0 W) (h: ∀W',Below w0.heap.size w0 W'→Aside0 (Below W.heap.size W W')→Drawn0 W W'→c.wp P Q a W'):c.wp P Q a W:=h W hb ⟨Below.refl _ _⟩ (Drawn0.refl _)
theorem qc {W:World} {p:Addr} {v:Value} (h:W.cell? p=some v) (d:Nat) (os:Array Obj):(grow (redrawn W d) os).cell? p=some v:=cell_regrown h d os
theorem zS {w w':World} (h:Below w.heap.size w w':=by repeat(first|(with_reducible first|exact Below.refl _ _|assumption|apply below_alloc|apply pw_below_drewN|apply below_drew1)|(refine below_step ?_ (Aside0.out (by assumption))))): ∃p:Regrown,w'=grow (redrawn w p.d) p.os:=regrown_of_below h
theorem qa {w:World} {p:Addr} {v:Value} (h:w.cell? p=some v) (W:World) (hb:Below w.heap.size w W):W.cell? p=some v:=pw_cell_below hb h
theorem bcl {w W:World} (h:Below w.heap.size w W) (d:Nat) (os:Array Obj):Below w.heap.size w (grow (redrawn W d) os):=below_then h h.size (below_regrown W d os)
theorem bdr {w W:World} (h:Below w.heap.size w W):Below w.heap.size w W.drew:=h.drew
theorem dtr {a b c:World} (h:Drawn0 a b) (k:Drawn0 b c):Drawn0 a c:=by
  obtain⟨n,rfl⟩:=h
  obtain⟨m,rfl⟩:=k
  exact⟨⟨n+m,World.drewN_drewN ..⟩⟩
theorem ddr {a b:World} (h:Drawn0 a b):Drawn0 a b.drew:=dtr h ⟨⟨1,rfl⟩⟩
theorem zD {w w':World} (h:Drawn0 w w':=by repeat(first|(with_reducible first|exact Drawn0.refl _|assumption|apply ddr|apply Drawn0.step)|(refine dtr ?_ (by assumption)))):Drawn0 w w':=h
theorem zR {α:Type} {a b:α} (h:a=b:=by first|rfl|(simp;done)|(simp[*];done)):a=b:=h
theorem zA {P:Prop} (h:P:=by first|(with_reducible assumption)|assumption):P:=h
theorem zE {P Q:Prop} (k:Q) (h:P:=by first|rfl|(simp;done)|(simp[*];done)):P∧Q:=⟨h,k⟩
/-! rows of the call's own, by where they lie and what their blocks hold -/
def Iv (lo hi k:Nat):Prop:=lo≤k∧k<hi
def Ty (W:World) (E:List Nat) (k:Nat):Prop:= ∃q,q∈E∧ ∃cells,W.heap[k]? =some (.cells cells q (0,0))
theorem Ty.ne {W:World} {E E':List Nat} {k:Nat} (h:Ty W E k) (h':Ty W E' k) (hd: ∀q,q∈E→q ∉ E'):False:=by
  obtain⟨q,hq,cells,hc⟩:=h
  obtain⟨q',hq',cells',hc'⟩:=h'
  rw[hc] at hc'
  injection hc' with hc'
  injection hc' with _ ht
  subst ht
  exact hd _ hq hq'
section
variable {α:Type} {d:Kd α} {e:Nat} {w w1 W W2:World} {v:Value} {xs:List α} {base lo hi:Nat} {ok:Nat→Prop}
theorem R_iv (h:d.R e w1 w.heap.size ok v xs) (hb:Below w1.heap.size w1 W):d.R e W w.heap.size (fun k=>Iv w.heap.size w1.heap.size k∧Ty W (e::d.E) k) v xs:=by
  refine Kd.R_below (Kd.R_mono (Kd.R_bound h) (fun k hk=>⟨⟨hk.2.1,hk.2.2.1⟩,?_⟩)) hb
  obtain⟨_,_,hlt,q,hq,cells,hc⟩:=hk
  exact⟨q,hq,cells,(hb.block k hlt).trans hc⟩
theorem S_iv (h:Kd.S d e w1 w.heap.size ok v xs) (hb:Below w1.heap.size w1 W):Kd.S d e W w.heap.size (fun k=>Iv w.heap.size w1.heap.size k∧Ty W (e::d.E) k) v xs:=by
  refine Kd.S_below (Kd.S_mono (Kd.S_bound h) (fun k hk=>⟨⟨hk.2.1,hk.2.2.1⟩,?_⟩)) hb
  obtain⟨_,_,hlt,q,hq,cells,hc⟩:=hk
  exact⟨q,hq,cells,(hb.block k hlt).trans hc⟩
/-- A row told by its place, over a call that writes in another place. -/
theorem R_past (h:d.R e W base (fun k=>Iv lo hi k∧ok k) v xs) {l h':Nat} (hk:Kept W W2 (Iv l h')) (hd:hi≤l∨h'≤lo):d.R e W2 base (Iv lo hi) v xs:=
  Kd.R_mono (Kd.R_kept h hk (fun k a b=>by have:=a.1.1;have:=a.1.2;have:=b.1;have:=b.2;omega)) (fun k a=>a.1)
theorem S_past (h:Kd.S d e W base (fun k=>Iv lo hi k∧ok k) v xs) {l h':Nat} (hk:Kept W W2 (Iv l h')) (hd:hi≤l∨h'≤lo):Kd.S d e W2 base (Iv lo hi) v xs:=
  Kd.S_mono (Kd.S_kept h hk (fun k a b=>by have:=a.1.1;have:=a.1.2;have:=b.1;have:=b.2;omega)) (fun k a=>a.1)
/-- Later, the blocks' types told anew. -/
theorem R_at (h:d.R e w1 base (Iv lo hi) v xs) (hb:Below w1.heap.size w1 W):d.R e W base (fun k=>Iv lo hi k∧Ty W (e::d.E) k) v xs:=by
  refine Kd.R_below (Kd.R_mono (Kd.R_bound h) (fun k hk=>⟨hk.1,?_⟩)) hb
  obtain⟨_,_,hlt,q,hq,cells,hc⟩:=hk
  exact⟨q,hq,cells,(hb.block k hlt).trans hc⟩
theorem S_at (h:Kd.S d e w1 base (Iv lo hi) v xs) (hb:Below w1.heap.size w1 W):Kd.S d e W base (fun k=>Iv lo hi k∧Ty W (e::d.E) k) v xs:=by
  refine Kd.S_below (Kd.S_mono (Kd.S_bound h) (fun k hk=>⟨hk.1,?_⟩)) hb
  obtain⟨_,_,hlt,q,hq,cells,hc⟩:=hk
  exact⟨q,hq,cells,(hb.block k hlt).trans hc⟩
theorem kept_iv {P:Nat→Prop} (hk:Kept W W2 P) (h: ∀k,P k→Iv lo hi k):Kept W W2 (Iv lo hi):=hk.mono h
theorem blk_past {g:Nat} {o:Obj} (h:W.heap[g]? =some o) (hk:Kept W W2 (Iv lo hi)) (hd:g<lo∨hi≤g):W2.heap[g]? =some o:=blk_kept h hk (fun a=>by have:=a.1;have:=a.2;omega)
end
end Go.Proofs.YtckpikfbhlhhjaaGreatDoor
