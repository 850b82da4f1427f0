/- Small laws for a region that only reads and calls what reads: it is walked once, in the order of the text. No condition beyond those each states. -/
import Derived.Lib.QuietBelow
import Derived.Below
import Derived.WalkKit
import Derived.Test.YtckpikfbhlhhjaaGreatDoorWMore
namespace Go.Proofs.YtckpikfbhlhhjaaGreatDoor
open Go.Sort (grow)
open Go.RowKit
open Go.Proofs.YtckpikfbhlhhjaaGreatDoorW.PrintWords

theorem below_regrown_drew (w:World) (d:Nat) (os:Array Obj):Below w.drew.heap.size w.drew (grow (redrawn w d) os):=by
  have h:=below_regrown w d os
  exact⟨h.os,h.tape,h.output,h.size,h.block⟩
theorem cell_regrown_drew {w:World} {a:Addr} {v:Value} (h:w.drew.cell? a=some v) (d:Nat) (os:Array Obj):(grow (redrawn w d) os).cell? a=some v:=
  cell_regrown (w:=w) (show w.cell? a=some v from h) d os
theorem below_class {w W:World} (h:Below w.heap.size w W.drew) (d:Nat) (os:Array Obj):Below w.heap.size w (grow (redrawn W d) os):=
  below_then h h.size (below_regrown_drew W d os)
theorem with_class {w W:World} {d:Nat} {os:Array Obj} {P:Program} {f:FuncId} {args:Array Value} {Q:Ending→World→Prop} (h: ∀(d:Nat) (os:Array Obj),Below w.heap.size w (grow (redrawn W d) os))
    (k:Below w.heap.size w (grow (redrawn W d) os)→Calls P f args (grow (redrawn W d) os) Q):Calls P f args (grow (redrawn W d) os) Q:=k (h d os)
theorem calls_below_of_drawn {P:Program} {f:FuncId} {args:Array Value} {w:World} {v:Value} (h:Calls P f args w fun e w'=>e= .returned v∧Drawn0 w w'):Calls P f args w fun e w'=>e= .returned v∧Below w.heap.size w w':=
  h.mono fun _ _ ⟨a,b⟩=>⟨a,b.below⟩
/-! what the printed walks say over and over: a default proof, run where it is used -/
theorem aB {b:Nat} {w W:World} (h:Below b w W:=by repeat(first|(with_reducible first|exact HB.out|apply below_alloc|apply pw_below_drewN|apply below_drew1)|exact HB.out)):Below b w W:=h
theorem aG {b:Nat} {w W:World} (h:Below b w W:=by repeat(first|(with_reducible first|exact HB.out|apply below_alloc|apply pw_below_drewN|apply below_drew1|refine below_set ?_ (Aside0.out (by assumption)))|exact HB.out)):Below b w W:=h
theorem aK {P:Prop} (h:P:=by((with_reducible repeat(first|refine blk_drewN ?_ _|refine blk_drew ?_|refine blk_alloc ?_ _));exact Aside0.out (by assumption))):P:=h
theorem aC {α:Type} {d:Kd α} {w:World} {A:Option Addr} {n:Nat} {xs:List α} (h:d.C w A n xs:=by repeat(first|exact(Kd.C_below (Aside0.out (by assumption)) HB.out)|(with_reducible refine Kd.C_alloc ?_ _)|(with_reducible refine Kd.C_drewN ?_ _)|(with_reducible refine Kd.C_drew ?_))):d.C w A n xs:=h
theorem aD {p:Prop} [Decidable p] (h:decide p=true:=by first|(with_reducible assumption)|assumption):p:=of_decide_eq_true h
theorem aR {P Q:Prop} (h0:Aside0 P) (h:P→Q:=by(intro h_;(with_reducible repeat(first|apply Kd.R_alloc|apply Kd.R_drewN|apply Kd.R_drew));exact h_)):Q:=h h0.out
theorem aS {P Q:Prop} (h0:Aside0 P) (h:P→Q:=by(intro h_;(with_reducible repeat(first|apply Kd.S_alloc|apply Kd.S_drewN|apply Kd.S_drew));exact h_)):Q:=h h0.out
theorem aM {P:Prop} (h:P):Aside0 P:=⟨h⟩
theorem aP {P:Prop} (h:P:=by(simp only[Act.put,List.setIfInBounds_toArray,List.set_cons_zero,List.set_cons_succ,i64_w,i32_w];rfl)):P:=h
theorem aI {P:Prop} (h:P:=by(intro w';go_simp;with_reducible rfl)):P:=h
end Go.Proofs.YtckpikfbhlhhjaaGreatDoor
