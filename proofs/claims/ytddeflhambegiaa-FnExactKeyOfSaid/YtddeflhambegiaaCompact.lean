/- Small laws for a region that only reads and calls what reads: it is walked once, in the order of the text. No condition beyond those each states. -/
import Derived.Lib.QuietBelow
import Derived.Below
import Derived.WalkKit
import Derived.Test.YtddeflhambegiaaWMore
namespace Go.Proofs.Ytddeflhambegiaa
open Go.Sort (grow)
open Go.RowKit
open Go.Proofs.YtddeflhambegiaaW.PrintWords

theorem below_regrown_drew (w : World) (d : Nat) (os : Array Obj) : Below w.drew.heap.size w.drew (grow (redrawn w d) os) := by
  have h := below_regrown w d os
  exact ⟨h.os, h.tape, h.output, h.size, h.block⟩
theorem cell_regrown_drew {w : World} {a : Addr} {v : Value} (h : w.drew.cell? a = some v) (d : Nat) (os : Array Obj) : (grow (redrawn w d) os).cell? a = some v :=
  cell_regrown (w := w) (show w.cell? a = some v from h) d os
theorem below_class {w W : World} (h : Below w.heap.size w W.drew) (d : Nat) (os : Array Obj) : Below w.heap.size w (grow (redrawn W d) os) :=
  below_then h h.size (below_regrown_drew W d os)
theorem with_class {w W : World} {d : Nat} {os : Array Obj} {P : Program} {f : FuncId} {args : Array Value} {Q : Ending → World → Prop} (h : ∀ (d : Nat) (os : Array Obj), Below w.heap.size w (grow (redrawn W d) os))
    (k : Below w.heap.size w (grow (redrawn W d) os) → Calls P f args (grow (redrawn W d) os) Q) : Calls P f args (grow (redrawn W d) os) Q := k (h d os)
theorem calls_below_of_drawn {P : Program} {f : FuncId} {args : Array Value} {w : World} {v : Value} (h : Calls P f args w fun e w' => e = .returned v ∧ Drawn0 w w') : Calls P f args w fun e w' => e = .returned v ∧ Below w.heap.size w w' :=
  h.mono fun _ _ ⟨a, b⟩ => ⟨a, b.below⟩
end Go.Proofs.Ytddeflhambegiaa
