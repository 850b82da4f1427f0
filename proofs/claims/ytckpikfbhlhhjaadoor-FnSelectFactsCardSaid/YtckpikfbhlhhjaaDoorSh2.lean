/- One name for the steps that only lengthen the heap: what held below holds behind them. No condition beyond those each states. -/
import Derived.Test.YtckpikfbhlhhjaaDoorSh
namespace Go.Proofs.YtckpikfbhlhhjaaDoor
open Go.RowKit
open Go.Proofs.YtckpikfbhlhhjaaDoorW.PrintWords Go.Proofs.YtckpikfbhlhhjaaDoorW.PrintLast Go.Proofs.YtckpikfbhlhhjaaDoorW.PrintMore
class St (w : outParam World) (w' : World) : Prop where
  up : Below w.heap.size w w'
instance st_alloc (w : World) (o : Obj) : St w (w.alloc o) := ⟨below_alloc (Below.refl _ _) o⟩
instance st_drew (w : World) : St w w.drew := ⟨below_drew (Below.refl _ _)⟩
instance st_drewN (w : World) (n : Nat) : St w (w.drewN n) := ⟨pw_below_drewN (Below.refl _ _) n⟩
section
variable {w w' : World} [u : St w w'] {α : Type} {d : Kd α} {e base : Nat} {ok : Nat → Prop} {v : Value} {xs : List α}
theorem pB {g : Nat} {o : Obj} (h : w.heap[g]? = some o) : w'.heap[g]? = some o := blk_below h u.up
theorem pR (h : d.R e w base ok v xs) : d.R e w' base ok v xs := Kd.R_below h u.up
theorem pN (h : Kd.N d e w base ok v xs) : Kd.N d e w' base ok v xs := Kd.N_below h u.up
theorem pV (h : Kd.V d e w base ok v xs) : Kd.V d e w' base ok v xs := Kd.V_below h u.up
theorem pC {A : Option Addr} {n : Nat} (h : d.C w A n xs) : d.C w' A n xs := Kd.C_below h u.up
theorem pS (h : Kd.S d e w base ok v xs) : Kd.S d e w' base ok v xs := Kd.S_below h u.up
end
theorem kB (g : Nat) (cs : Array Value) (t : TypeId) {w w1 : World} (hb : Below w.heap.size w w1) (h : w.heap[g]? = some (.cells cs t (0, 0)) := by ((with_reducible repeat (first | refine blk_drewN ?_ _ | refine blk_drew ?_ | refine blk_alloc ?_ _)); exact Aside0.out (by assumption))) : w1.heap[g]? = some (.cells cs t (0, 0)) := blk_below h hb
end Go.Proofs.YtckpikfbhlhhjaaDoor
