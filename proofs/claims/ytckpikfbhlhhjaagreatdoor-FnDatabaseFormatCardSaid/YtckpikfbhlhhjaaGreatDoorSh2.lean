/- One name for the steps that only lengthen the heap: what held below holds behind them. No condition beyond those each states. -/
import Derived.Test.YtckpikfbhlhhjaaGreatDoorSh
namespace Go.Proofs.YtckpikfbhlhhjaaGreatDoor
open Go.RowKit
open Go.Proofs.YtckpikfbhlhhjaaGreatDoorW.PrintWords Go.Proofs.YtckpikfbhlhhjaaGreatDoorW.PrintLast Go.Proofs.YtckpikfbhlhhjaaGreatDoorW.PrintMore
class St (w:outParam World) (w':World):Prop where
  up:Below w.heap.size w w'
instance st_alloc (w:World) (o:Obj):St w (w.alloc o):=⟨below_alloc (Below.refl _ _) o⟩
instance st_drew (w:World):St w w.drew:=⟨below_drew (Below.refl _ _)⟩
instance st_drewN (w:World) (n:Nat):St w (w.drewN n):=⟨pw_below_drewN (Below.refl _ _) n⟩
section
variable {w w':World} [u:St w w'] {α:Type} {d:Kd α} {e base:Nat} {ok:Nat→Prop} {v:Value} {xs:List α}
theorem pB {g:Nat} {o:Obj} (h:w.heap[g]? =some o):w'.heap[g]? =some o:=blk_below h u.up
theorem pR (h:d.R e w base ok v xs):d.R e w' base ok v xs:=Kd.R_below h u.up
theorem pN (h:Kd.N d e w base ok v xs):Kd.N d e w' base ok v xs:=Kd.N_below h u.up
theorem pV (h:Kd.V d e w base ok v xs):Kd.V d e w' base ok v xs:=Kd.V_below h u.up
theorem pC {A:Option Addr} {n:Nat} (h:d.C w A n xs):d.C w' A n xs:=Kd.C_below h u.up
theorem pS (h:Kd.S d e w base ok v xs):Kd.S d e w' base ok v xs:=Kd.S_below h u.up
end
theorem rF2 {α:Type} {d:Kd α} {e base g1 g2 t1 t2:Nat} {w:World} {ok:Nat→Prop} {v:Value} {xs:List α} {c1 c2:Array Value} (h:d.R e w base ok v xs) (b1:w.heap[g1]? =some (.cells c1 t1 (0,0))) (b2:w.heap[g2]? =some (.cells c2 t2 (0,0))) (u1 u2 u3 u4:Value) (e1: ∀q,q∈e::d.E→q≠t1:=by decide) (e2: ∀q,q∈e::d.E→q≠t2:=by decide):
    d.R e ((((w.setCell ⟨g1,0,none⟩ u1).setCell ⟨g1,1,none⟩ u2).setCell ⟨g2,0,none⟩ u3).setCell ⟨g2,1,none⟩ u4) base ok v xs:=
 Kd.R_mono (Kd.R_mono (Kd.R_far (p:=⟨g2,1,none⟩) (Kd.R_far (p:=⟨g2,0,none⟩) (Kd.R_far (p:=⟨g1,1,none⟩) (Kd.R_far (p:=⟨g1,0,none⟩) (Kd.R_types (Kd.R_types h b1 e1) b2 e2) (fun _ hk=>hk.1.2) u1) (fun _ hk=>hk.1.2) u2) (fun _ hk=>hk.2) u3) (fun _ hk=>hk.2) u4) (fun _ h_=>h_.1)) (fun _ h_=>h_.1)
theorem kB (g:Nat) (cs:Array Value) (t:TypeId) {w w1:World} (hb:Below w.heap.size w w1) (h:w.heap[g]? =some (.cells cs t (0,0)):=by((with_reducible repeat(first|refine blk_drewN ?_ _|refine blk_drew ?_|refine blk_alloc ?_ _));exact Aside0.out (by assumption))):w1.heap[g]? =some (.cells cs t (0,0)):=blk_below h hb
end Go.Proofs.YtckpikfbhlhhjaaGreatDoor
