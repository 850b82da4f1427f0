/- A variable of two cells, written whole: what lives beside it. -/
import Derived.Test.YtckpikfbhlhhjaaGreatDoorSh2
namespace Go.Proofs.YtckpikfbhlhhjaaGreatDoor
open Go.RowKit
open Go.Proofs.YtckpikfbhlhhjaaGreatDoorW.PrintWords Go.Proofs.YtckpikfbhlhhjaaGreatDoorW.PrintLast Go.Proofs.YtckpikfbhlhhjaaGreatDoorW.PrintMore
section
variable {α:Type} {d:Kd α} {e base g g1 t1:Nat} {w:World} {ok:Nat→Prop} {v:Value} {xs:List α} {c1:Array Value} {o:Obj}
theorem rF1 (h:d.R e w base ok v xs) (b1:w.heap[g1]? =some (.cells c1 t1 (0,0))) (u1 u2:Value) (e1: ∀q,q∈e::d.E→q≠t1:=by decide):d.R e ((w.setCell ⟨g1,0,none⟩ u1).setCell ⟨g1,1,none⟩ u2) base ok v xs:=
  Kd.R_mono (Kd.R_far (p:=⟨g1,1,none⟩) (Kd.R_far (p:=⟨g1,0,none⟩) (Kd.R_types h b1 e1) (fun _ hk=>hk.2) u1) (fun _ hk=>hk.2) u2) (fun _ hk=>hk.1)
theorem nF1 (g1:Nat) (h:Kd.N d e w base ok v xs) (hne: ∀k,ok k→k≠g1) (u1 u2:Value):Kd.N d e ((w.setCell ⟨g1,0,none⟩ u1).setCell ⟨g1,1,none⟩ u2) base ok v xs:=Kd.N_far (p:=⟨g1,1,none⟩) (Kd.N_far (p:=⟨g1,0,none⟩) h hne u1) hne u2
theorem bF2 {cs:Array Value} {t:TypeId} (ne:g≠g1) (h:w.heap[g]? =some (.cells cs t (0,0))) {u1 u2:Value} :((w.setCell ⟨g1,0,none⟩ u1).setCell ⟨g1,1,none⟩ u2).heap[g]? =some (.cells cs t (0,0)):=blk_far (blk_far h ne _) ne _
theorem bP2 {a b u1 u2:Value} {t:TypeId} (h:w.heap[g]? =some (.cells #[a,b] t (0,0))):((w.setCell ⟨g,0,none⟩ u1).setCell ⟨g,1,none⟩ u2).heap[g]? =some (.cells #[u1,u2] t (0,0)):=blk_put (cs:=#[u1,b]) (blk_put (cs:=#[a,b]) h 0 _ rfl) 1 _ rfl
end
end Go.Proofs.YtckpikfbhlhhjaaGreatDoor
