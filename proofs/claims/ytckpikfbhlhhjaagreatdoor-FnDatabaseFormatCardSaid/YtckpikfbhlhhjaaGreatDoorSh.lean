/- Short names for what the printed walks say over and over: a default proof, run where it is used. No condition beyond those each states. -/
import Derived.Lib.QuietBelow
import Derived.Below
import Derived.WalkKit
import Derived.Test.YtckpikfbhlhhjaaGreatDoorWMore
import Derived.Test.YtckpikfbhlhhjaaGreatDoorWTab
import Derived.Test.YtckpikfbhlhhjaaGreatDoorCompact
namespace Go.Proofs.YtckpikfbhlhhjaaGreatDoor
open Go.Sort (grow)
open Go.RowKit
open Go.Proofs.YtckpikfbhlhhjaaGreatDoorW.PrintWords Go.Proofs.YtckpikfbhlhhjaaGreatDoorW.PrintLast Go.Proofs.YtckpikfbhlhhjaaGreatDoorW.PrintMore

theorem aQ {P:Prop} (h:P:=by repeat(first|(with_reducible first|exact HK.out|apply KeepBut.set_|apply keep_drewN|apply keep_drew|apply keep_alloc|refine keep_far (w:=w) ?_ (Aside0.out (by assumption)) _)|exact HK.out)):P:=h
theorem kS {w W:World} {g:Nat} (h:KeepBut w W g none:=by repeat(first|(with_reducible first|exact HK.out|apply KeepBut.set_|apply keep_drewN|apply keep_drew|apply keep_alloc|refine keep_far (w:=w) ?_ (Aside0.out (by assumption)) _)|exact HK.out)):w.heap.size≤W.heap.size:=keep_size h
theorem aN {P Q:Prop} (h0:Aside0 P) (h:P→Q:=by(intro h_;(with_reducible repeat(first|apply Kd.N_alloc|apply Kd.N_drewN|apply Kd.N_drew));exact h_)):Q:=h h0.out
theorem aV {P Q:Prop} (h0:Aside0 P) (h:P→Q:=by(intro h_;(with_reducible repeat(first|apply Kd.V_alloc|apply Kd.V_drewN|apply Kd.V_drew));exact h_)):Q:=h h0.out
theorem aA {P:Prop} (h:P:=by((try simp only[List.map_toArray,List.map_cons,List.map_nil]);first|done|rfl|(simp only[List.length_drop,List.length_take];rfl))):P:=h
theorem aE {P:Prop} (h:P:=by first|rfl|(simp[errW_none,errW_some] <;>rfl)|(simp[*,errW_none,errW_some] <;>rfl)):P:=h
theorem aX {P:Prop} (h:P:=by first|rfl|(simp;done)|(simp[*];done)):P:=h
theorem obn {k:Nat} {A:Option Addr} {n m c d:Nat} (h:some k≠(Value.slice A n c).ownBlock):some k≠(Value.slice A m d).ownBlock:=by
  cases A<;>exact h
section
variable {α β:Type} {r:α}
theorem bM {x:Option β} {f:β→Option α} (h:x.bind f=some r): ∃a,x=some a∧f a=some r:=Option.bind_eq_some_iff.mp h
theorem bY {x y:β} {f:β→Option α} (hy:y=x) (h:(some x).bind f=some r):f y=some r:=by
  subst hy
  exact h
theorem iT {x y:Option α} (h:(if true=true then x else y)=some r):x=some r:=by simpa using h
end
section
variable {P:Program} {ops:Array Oper} {o:Oper} {rest:List Oper} {a:Act} {Q:Exit→Act→World→Prop} {W:World}
theorem bE (N:Tmp) {cs:Array Value} {t:TypeId} (h: ∀g,g=W.heap.size→ ∀w1,w1.heap[g]? =some (.cells cs t (0,0))→Below W.heap.size W w1→wpList P ops Q rest (a.put o.dst (.pointer (some ⟨g,0,none⟩))) w1)
    (hgd:o.guard=none:=by rfl) (hd:o.dst=some N:=by rfl) (hrun:(execOp a.eval o).run P W= .ok (.value (.pointer (some ⟨W.heap.size,0,none⟩))) (W.alloc (.cells cs t (0,0))):=by first|(go_simp;done)|(go_simp;rfl)):wpList P ops Q (o::rest) a W:=
 box_event hgd hd hrun h
end
section
variable {P:Program} {ops:Array Oper} {Q:Exit→Act→World→Prop} {md:Region.Mode} {S:World→Prop} {ds:List Nat} {T:Bool×List (List Nat×List Nat)} {B:List Nat}
theorem pU (i:Nat) (N:Nat) {oi:Oper} {v:Value} {fuel:Nat} {l:Array Bool} {a a':Act} {w:World} (h:wpAnyLast P md ops Q S ds fuel (l.setIfInBounds i true) a' w)
    (hi:ops[i]? =some oi:=by rfl) (hN:oi.dst=some N:=by rfl) (hT:Aside0 (rtab md ops=T):=by assumption) (hc:anyT T l.toList (l.setIfInBounds i true).toList i=true:=by kernel_rfl) (hQ: ∀c (a:Act) (v:Value) w,Q (.panic c) (a.put (some N) v) w→Q (.panic c) a w:=by exact fun _ _ _ _ h=>h)
    (hw:Region.wanted oi (yielded ops a.tmps)=true:=by rfl) (hy: ∀w',(execOp a.eval oi).run P w'= .ok (.value v) w':=by(intro w';go_simp;with_reducible rfl)) (ha:a.put (some N) v=a':=by(simp only[Act.put,List.setIfInBounds_toArray,List.set_cons_zero,List.set_cons_succ,i64_w,i32_w];rfl)):wpAnyLast P md ops Q S ds (fuel+1) l a w:=
 pure_ _ hi hN (any_of hT.out hc) (fun c a w hh=>by rw[hN] at hh;exact hQ c a v w hh) (.inl ⟨hw,hy⟩) ha h
theorem oU (i:Nat) (N:Nat) {oi:Oper} {fuel:Nat} {l:Array Bool} {a:Act} {w:World}
    (h: ∀K:Act→World→Prop,Shut (∀a' w',S w'→(S w'→wpAnyLast P md ops Q S ds fuel (l.setIfInBounds i true) a' w')→K a' w')→if Region.wanted oi (yielded ops a.tmps)=true then Oper.wp P oi a w K Q else K (a.put (some N) undef) w)
    (hi:ops[i]? =some oi:=by rfl) (hN:oi.dst=some N:=by rfl) (hT:Aside0 (rtab md ops=T):=by assumption) (hc:(readyT T.2 l.toList== [i] &&l.toList.set i true==(l.setIfInBounds i true).toList)=true:=by kernel_rfl) (hd:i ∉ ds:=by decide):wpAnyLast P md ops Q S ds (fuel+1) l a w:=
 one_ _ hi hN (one_of hT.out hc) hd h
theorem nU (N:Nat) {d:Option Tmp} {v:Value} {fuel:Nat} {l:Array Bool} {a a':Act} {w:World} (h:wpAnyLast P md ops Q S ds fuel l a' w) (hd:d=some N:=by rfl) (ha:a.put (some N) v=a':=by(simp only[Act.put,List.setIfInBounds_toArray,List.set_cons_zero,List.set_cons_succ,i64_w,i32_w];rfl)):wpAnyLast P md ops Q S ds fuel l (a.put d v) w:=by
  subst hd
  exact norm_ ha h
theorem tU1 (i:Nat) (N:Nat) {oi:Oper} {v:Value} {fuel:Nat} {l:Array Bool} {a a':Act} {w:World} (hS:S w) (h:wpAnyLast P md ops Q S ds fuel (l.setIfInBounds i true) a' w)
    (hi:ops[i]? =some oi:=by rfl) (hN:oi.dst=some N:=by rfl) (hT:Aside0 (rtab md ops=T):=by assumption) (hB:Aside0 (waitsOk T.2 B=true):=by assumption) (hc:takeW T B ds l.toList (l.setIfInBounds i true).toList i=true:=by kernel_rfl) (hQ: ∀c (a:Act) (v:Value) w,Q (.panic c) (a.put (some N) v) w→Q (.panic c) a w:=by exact fun _ _ _ _ h=>h)
    (hw:Region.wanted oi (yielded ops a.tmps)=true:=by rfl) (hy: ∀w',S w'→(execOp a.eval oi).run P w'= .ok (.value v) w':=by(rintro w' s0;go_simp;with_reducible rfl)) (ha:a.put (some N) v=a':=by(simp only[Act.put,List.setIfInBounds_toArray,List.set_cons_zero,List.set_cons_succ,i64_w,i32_w];rfl)):wpAnyLast P md ops Q S ds (fuel+1) l a w:=
 take_ _ hi hN (take_ofW hT.out hB.out hc) (fun c a w hh=>by rw[hN] at hh;exact hQ c a v w hh) (.inl ⟨hw,hy⟩) hS ha h
theorem tU2 (i:Nat) (N:Nat) {oi:Oper} {v:Value} {fuel:Nat} {l:Array Bool} {a a':Act} {w:World} (hS:S w) (h:wpAnyLast P md ops Q S ds fuel (l.setIfInBounds i true) a' w)
    (hi:ops[i]? =some oi:=by rfl) (hN:oi.dst=some N:=by rfl) (hT:Aside0 (rtab md ops=T):=by assumption) (hB:Aside0 (waitsOk T.2 B=true):=by assumption) (hc:takeW T B ds l.toList (l.setIfInBounds i true).toList i=true:=by kernel_rfl) (hQ: ∀c (a:Act) (v:Value) w,Q (.panic c) (a.put (some N) v) w→Q (.panic c) a w:=by exact fun _ _ _ _ h=>h)
    (hw:Region.wanted oi (yielded ops a.tmps)=true:=by rfl) (hy: ∀w',S w'→(execOp a.eval oi).run P w'= .ok (.value v) w':=by(rintro w' ⟨s0,s1⟩;go_simp;with_reducible rfl)) (ha:a.put (some N) v=a':=by(simp only[Act.put,List.setIfInBounds_toArray,List.set_cons_zero,List.set_cons_succ,i64_w,i32_w];rfl)):wpAnyLast P md ops Q S ds (fuel+1) l a w:=
 take_ _ hi hN (take_ofW hT.out hB.out hc) (fun c a w hh=>by rw[hN] at hh;exact hQ c a v w hh) (.inl ⟨hw,hy⟩) hS ha h
theorem tU3 (i:Nat) (N:Nat) {oi:Oper} {v:Value} {fuel:Nat} {l:Array Bool} {a a':Act} {w:World} (hS:S w) (h:wpAnyLast P md ops Q S ds fuel (l.setIfInBounds i true) a' w)
    (hi:ops[i]? =some oi:=by rfl) (hN:oi.dst=some N:=by rfl) (hT:Aside0 (rtab md ops=T):=by assumption) (hB:Aside0 (waitsOk T.2 B=true):=by assumption) (hc:takeW T B ds l.toList (l.setIfInBounds i true).toList i=true:=by kernel_rfl) (hQ: ∀c (a:Act) (v:Value) w,Q (.panic c) (a.put (some N) v) w→Q (.panic c) a w:=by exact fun _ _ _ _ h=>h)
    (hw:Region.wanted oi (yielded ops a.tmps)=true:=by rfl) (hy: ∀w',S w'→(execOp a.eval oi).run P w'= .ok (.value v) w':=by(rintro w' ⟨s0,s1,s2⟩;go_simp;with_reducible rfl)) (ha:a.put (some N) v=a':=by(simp only[Act.put,List.setIfInBounds_toArray,List.set_cons_zero,List.set_cons_succ,i64_w,i32_w];rfl)):wpAnyLast P md ops Q S ds (fuel+1) l a w:=
 take_ _ hi hN (take_ofW hT.out hB.out hc) (fun c a w hh=>by rw[hN] at hh;exact hQ c a v w hh) (.inl ⟨hw,hy⟩) hS ha h
theorem tU4 (i:Nat) (N:Nat) {oi:Oper} {v:Value} {fuel:Nat} {l:Array Bool} {a a':Act} {w:World} (hS:S w) (h:wpAnyLast P md ops Q S ds fuel (l.setIfInBounds i true) a' w)
    (hi:ops[i]? =some oi:=by rfl) (hN:oi.dst=some N:=by rfl) (hT:Aside0 (rtab md ops=T):=by assumption) (hB:Aside0 (waitsOk T.2 B=true):=by assumption) (hc:takeW T B ds l.toList (l.setIfInBounds i true).toList i=true:=by kernel_rfl) (hQ: ∀c (a:Act) (v:Value) w,Q (.panic c) (a.put (some N) v) w→Q (.panic c) a w:=by exact fun _ _ _ _ h=>h)
    (hw:Region.wanted oi (yielded ops a.tmps)=true:=by rfl) (hy: ∀w',S w'→(execOp a.eval oi).run P w'= .ok (.value v) w':=by(rintro w' ⟨s0,s1,s2,s3⟩;go_simp;with_reducible rfl)) (ha:a.put (some N) v=a':=by(simp only[Act.put,List.setIfInBounds_toArray,List.set_cons_zero,List.set_cons_succ,i64_w,i32_w];rfl)):wpAnyLast P md ops Q S ds (fuel+1) l a w:=
 take_ _ hi hN (take_ofW hT.out hB.out hc) (fun c a w hh=>by rw[hN] at hh;exact hQ c a v w hh) (.inl ⟨hw,hy⟩) hS ha h
theorem tU5 (i:Nat) (N:Nat) {oi:Oper} {v:Value} {fuel:Nat} {l:Array Bool} {a a':Act} {w:World} (hS:S w) (h:wpAnyLast P md ops Q S ds fuel (l.setIfInBounds i true) a' w)
    (hi:ops[i]? =some oi:=by rfl) (hN:oi.dst=some N:=by rfl) (hT:Aside0 (rtab md ops=T):=by assumption) (hB:Aside0 (waitsOk T.2 B=true):=by assumption) (hc:takeW T B ds l.toList (l.setIfInBounds i true).toList i=true:=by kernel_rfl) (hQ: ∀c (a:Act) (v:Value) w,Q (.panic c) (a.put (some N) v) w→Q (.panic c) a w:=by exact fun _ _ _ _ h=>h)
    (hw:Region.wanted oi (yielded ops a.tmps)=true:=by rfl) (hy: ∀w',S w'→(execOp a.eval oi).run P w'= .ok (.value v) w':=by(rintro w' ⟨s0,s1,s2,s3,s4⟩;go_simp;with_reducible rfl)) (ha:a.put (some N) v=a':=by(simp only[Act.put,List.setIfInBounds_toArray,List.set_cons_zero,List.set_cons_succ,i64_w,i32_w];rfl)):wpAnyLast P md ops Q S ds (fuel+1) l a w:=
 take_ _ hi hN (take_ofW hT.out hB.out hc) (fun c a w hh=>by rw[hN] at hh;exact hQ c a v w hh) (.inl ⟨hw,hy⟩) hS ha h
theorem tU6 (i:Nat) (N:Nat) {oi:Oper} {v:Value} {fuel:Nat} {l:Array Bool} {a a':Act} {w:World} (hS:S w) (h:wpAnyLast P md ops Q S ds fuel (l.setIfInBounds i true) a' w)
    (hi:ops[i]? =some oi:=by rfl) (hN:oi.dst=some N:=by rfl) (hT:Aside0 (rtab md ops=T):=by assumption) (hB:Aside0 (waitsOk T.2 B=true):=by assumption) (hc:takeW T B ds l.toList (l.setIfInBounds i true).toList i=true:=by kernel_rfl) (hQ: ∀c (a:Act) (v:Value) w,Q (.panic c) (a.put (some N) v) w→Q (.panic c) a w:=by exact fun _ _ _ _ h=>h)
    (hw:Region.wanted oi (yielded ops a.tmps)=true:=by rfl) (hy: ∀w',S w'→(execOp a.eval oi).run P w'= .ok (.value v) w':=by(rintro w' ⟨s0,s1,s2,s3,s4,s5⟩;go_simp;with_reducible rfl)) (ha:a.put (some N) v=a':=by(simp only[Act.put,List.setIfInBounds_toArray,List.set_cons_zero,List.set_cons_succ,i64_w,i32_w];rfl)):wpAnyLast P md ops Q S ds (fuel+1) l a w:=
 take_ _ hi hN (take_ofW hT.out hB.out hc) (fun c a w hh=>by rw[hN] at hh;exact hQ c a v w hh) (.inl ⟨hw,hy⟩) hS ha h
theorem tU7 (i:Nat) (N:Nat) {oi:Oper} {v:Value} {fuel:Nat} {l:Array Bool} {a a':Act} {w:World} (hS:S w) (h:wpAnyLast P md ops Q S ds fuel (l.setIfInBounds i true) a' w)
    (hi:ops[i]? =some oi:=by rfl) (hN:oi.dst=some N:=by rfl) (hT:Aside0 (rtab md ops=T):=by assumption) (hB:Aside0 (waitsOk T.2 B=true):=by assumption) (hc:takeW T B ds l.toList (l.setIfInBounds i true).toList i=true:=by kernel_rfl) (hQ: ∀c (a:Act) (v:Value) w,Q (.panic c) (a.put (some N) v) w→Q (.panic c) a w:=by exact fun _ _ _ _ h=>h)
    (hw:Region.wanted oi (yielded ops a.tmps)=true:=by rfl) (hy: ∀w',S w'→(execOp a.eval oi).run P w'= .ok (.value v) w':=by(rintro w' ⟨s0,s1,s2,s3,s4,s5,s6⟩;go_simp;with_reducible rfl)) (ha:a.put (some N) v=a':=by(simp only[Act.put,List.setIfInBounds_toArray,List.set_cons_zero,List.set_cons_succ,i64_w,i32_w];rfl)):wpAnyLast P md ops Q S ds (fuel+1) l a w:=
 take_ _ hi hN (take_ofW hT.out hB.out hc) (fun c a w hh=>by rw[hN] at hh;exact hQ c a v w hh) (.inl ⟨hw,hy⟩) hS ha h
theorem tU8 (i:Nat) (N:Nat) {oi:Oper} {v:Value} {fuel:Nat} {l:Array Bool} {a a':Act} {w:World} (hS:S w) (h:wpAnyLast P md ops Q S ds fuel (l.setIfInBounds i true) a' w)
    (hi:ops[i]? =some oi:=by rfl) (hN:oi.dst=some N:=by rfl) (hT:Aside0 (rtab md ops=T):=by assumption) (hB:Aside0 (waitsOk T.2 B=true):=by assumption) (hc:takeW T B ds l.toList (l.setIfInBounds i true).toList i=true:=by kernel_rfl) (hQ: ∀c (a:Act) (v:Value) w,Q (.panic c) (a.put (some N) v) w→Q (.panic c) a w:=by exact fun _ _ _ _ h=>h)
    (hw:Region.wanted oi (yielded ops a.tmps)=true:=by rfl) (hy: ∀w',S w'→(execOp a.eval oi).run P w'= .ok (.value v) w':=by(rintro w' ⟨s0,s1,s2,s3,s4,s5,s6,s7⟩;go_simp;with_reducible rfl)) (ha:a.put (some N) v=a':=by(simp only[Act.put,List.setIfInBounds_toArray,List.set_cons_zero,List.set_cons_succ,i64_w,i32_w];rfl)):wpAnyLast P md ops Q S ds (fuel+1) l a w:=
 take_ _ hi hN (take_ofW hT.out hB.out hc) (fun c a w hh=>by rw[hN] at hh;exact hQ c a v w hh) (.inl ⟨hw,hy⟩) hS ha h
end
end Go.Proofs.YtckpikfbhlhhjaaGreatDoor
