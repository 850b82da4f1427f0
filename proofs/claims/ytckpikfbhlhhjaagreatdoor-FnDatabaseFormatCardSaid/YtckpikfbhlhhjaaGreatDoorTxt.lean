/- A region that draws its order, walked once, in the order of the text: what only reads is taken first, a call comes up alone. No condition beyond those each states. -/
import Derived.Deep.RegionHeld
import Derived.Deep.Quiet
import Derived.BigQuiet
import Derived.Lib.QuietBelow
namespace Go.Proofs.YtckpikfbhlhhjaaGreatDoor.Txt
open Go

/-- What the operation is: it only reads and yields a value. -/
def still (o:Oper):Bool:=match o.op with
  | .move _| .assign _| .pick _ _ _| .load _ _| .binOp _ _ _ _ _| .unOp _ _ _| .convert _ _ _| .fieldAddr _ _ _| .field _ _ _| .indexAddr _ _ _| .index _ _ _| .extract _ _| .slice _ _ _ _ _=>true
  | .call c=>match c.callee with
    | .builtin .len| .builtin .min| .builtin .max=>true
    |_=>false
  |_=>false
theorem value_of {β:Type} {P:Program} {s:Sem β} {f:β→Value} {w w':World} {n:Next} (h:((do let x←s;pure (Next.value (f x))):Sem Next).run P w= .ok n w'): ∃u,n= .value u:=by
  rw[Sem.run_bind] at h
  cases hr:s.run P w with
  |ok x w1=>
   rw[hr] at h
   simp only[Result.andThen_ok,Sem.run_pure] at h
   injection h with h1 h2
   exact⟨_,h1.symm⟩
  |halt x w1=>
   rw[hr] at h
   simp[Result.andThen] at h
theorem value_id {P:Program} {s:Sem Value} {w w':World} {n:Next} (h:((do let x←s;pure (Next.value x)):Sem Next).run P w= .ok n w'): ∃u,n= .value u:=value_of (f:=fun x=>x) h
theorem value_then {r:Result Value} {w':World} {n:Next} (h:(r.andThen fun a w'=>Result.ok (Next.value a) w')= .ok n w'): ∃u,n= .value u:=by
  cases r with
  |ok x w1=>
   simp only[Result.andThen_ok] at h
   injection h with h1 h2
   exact⟨_,h1.symm⟩
  |halt x w1=>simp[Result.andThen] at h
theorem still_value {P:Program} {ρ:Operand→Value} {o:Oper} {w w':World} {n:Next} (hs:still o=true) (h:(execOp ρ o).run P w= .ok n w'): ∃u,n= .value u:=by
  unfold still at hs
  unfold execOp at h
  split at hs
  all_goals first|(cases hs;done)|skip
  all_goals rename_i hop
  all_goals rw[hop] at h
  all_goals first
    |exact value_id h
    |exact value_of (f:=fun x:Bool=>if x=true then _ else _) h
    |(simp only[Sem.run_pure] at h;injection h with h1 h2;exact⟨_,h1.symm⟩)
    |skip
  ·rename_i c
   split at hs
   all_goals first|(cases hs;done)|skip
   all_goals rename_i hc
   all_goals (simp only[resolve,hc,Sem.run_bind,Sem.run_pure,Result.andThen_ok,invoke,builtin] at h)
   all_goals exact value_then h

section
variable {P:Program} {ops:Array Oper} {Q:Exit→Act→World→Prop} {S:World→Prop}
def ok1 (ops:Array Oper) (l:Array Bool) (i:Nat):Bool:=match ops[i]? with
  |some o=>if still o then Region.free .any ops l i&&(Region.ready .any ops l).contains i else Region.ready .any ops l== [i]
  |none=>false
def okA (ops:Array Oper):List Nat→Array Bool→Bool
  | [],l=>Region.ready .any ops l== []
  |i::is,l=>ok1 ops l i&&okA ops is (l.setIfInBounds i true)
def okR (ops:Array Oper) (is:List Nat):Bool:=Region.noSelect ops&&is.length==ops.size&&okA ops is (Array.replicate ops.size false)
def walk (P:Program) (ops:Array Oper) (Q:Exit→Act→World→Prop) (S:World→Prop):List Oper→Act→World→Prop
  | [],a,w=>Q .normal a w
  |o::rest,a,w=>if Region.wanted o (yielded ops a.tmps)=true then(if still o=true then o.quiet P a S (fun a'=>walk P ops Q S rest a' w) else o.wp P a w (fun a' w'=>S w'∧walk P ops Q S rest a' w') Q) else walk P ops Q S rest (a.put o.dst undef) w
theorem any_of_walk (hsel:Region.noSelect ops=true) (hQ: ∀c (a:Act) d v w,Q (.panic c) (a.put d v) w→Q (.panic c) a w): ∀(is:List Nat) (l:Array Bool),okA ops is l=true→ ∀(a:Act) (w:World),S w→walk P ops Q S (is.map (fun i=>ops.getD i default)) a w→wpAnyH P .any ops Q S is.length l a w:=by
  intro is
  induction is with
  |nil=>
   intro l hk a w hS h
   exact wpAnyH_done (by simpa [okA] using hk) h 0
  |cons i is ih=>
   intro l hk a w hS h
   rw[okA,Bool.and_eq_true] at hk
   obtain⟨hk,hr⟩:=hk
   unfold ok1 at hk
   rw[List.map_cons,walk] at h
   cases ho:ops[i]? with
   |none=>rw[ho] at hk;cases hk
   |some o=>
    have hg:ops.getD i default=o:=by rw[Array.getD_eq_getD_getElem?,ho];rfl
    rw[ho] at hk
    rw[hg] at h
    simp only at hk
    by_cases hw:Region.wanted o (yielded ops a.tmps)=true
    ·rw[if_pos hw] at h
     by_cases hs:still o=true
     ·rw[if_pos hs] at h hk
      rw[Bool.and_eq_true] at hk
      obtain⟨v,hv,hn⟩:=h
      refine wpAnyH_take (v:=v) ho hsel hk.1 hk.2 (fun c a w h=>hQ c a _ _ w h) (.inl ⟨hw,fun w' hw'=>?_⟩) hS (ih _ hr _ _ hS hn)
      have h1:=hv w' hw'
      unfold Oper.quietAt at h1
      cases hr:(execOp a.eval o).run P w' with
      |ok n w1=>
       obtain⟨u,rfl⟩:=still_value hs hr
       rw[hr] at h1
       obtain⟨e1,e2⟩:=h1
       rw[e1,e2]
      |halt x w1=>
       rw[hr] at h1
       exact h1.elim
     ·rw[if_neg hs] at h hk
      refine wpAnyH_ready (by simpa using hk) (by simp) (AllReadyH.cons ho (fun K hK=>?_) AllReadyH.nil)
      rw[if_pos hw]
      exact Oper.wp_mono (fun a' w' hh=>hK.out a' w' hh.1 (fun hS'=>ih _ hr _ _ hS' hh.2)) h
    ·rw[if_neg hw] at h
     have hw':Region.wanted o (yielded ops a.tmps)=false:=by simpa using hw
     by_cases hs:still o=true
     ·rw[if_pos hs,Bool.and_eq_true] at hk
      exact wpAnyH_take (v:=undef) ho hsel hk.1 hk.2 (fun c a w h=>hQ c a _ _ w h) (.inr ⟨hw',rfl⟩) hS (ih _ hr _ _ hS h)
     ·rw[if_neg hs] at hk
      refine wpAnyH_ready (by simpa using hk) (by simp) (AllReadyH.cons ho (fun K hK=>?_) AllReadyH.nil)
      rw[if_neg hw]
      exact hK.out _ _ hS (fun hS'=>ih _ hr _ _ hS' h)
/-- The same, behind a name that nothing opens by itself. -/
structure Walk (P:Program) (ops:Array Oper) (Q:Exit→Act→World→Prop) (S:World→Prop) (l:List Oper) (a:Act) (w:World):Prop where mk::(out:walk P ops Q S l a w)
/-- THE REGION, in the order that is told: what only reads as soon as it may come up, else the one that may. -/
theorem region {id:Nat} {a:Act} {w:World} {l:List Oper} (is:List Nat) (hm:P.follows .mixedOrders=true) (hB:okR l.toArray is=true) (hQ: ∀c (a:Act) d v w,Q (.panic c) (a.put d v) w→Q (.panic c) a w) (hS:S w.drew)
    (h:Walk P l.toArray Q S (is.map (fun i=>l.getD i default)) a w.drew):(Code.region id l.toArray true).wp P Q a w:=by
 unfold okR at hB
 rw[Bool.and_eq_true,Bool.and_eq_true] at hB
 obtain⟨⟨h1,h2⟩,h3⟩:=hB
 refine wp_region_held_drew hm hS (fun _=>?_)
 rw[←beq_iff_eq.1 h2]
 rw[←beq_iff_eq.1 h2] at h3
 refine any_of_walk h1 hQ is _ h3 a _ hS ?_
 simpa [Array.getD_eq_getD_getElem?,List.getD_eq_getElem?_getD] using h.out
variable {a:Act} {w:World} {o:Oper} {rest:List Oper}
theorem rg {id:Nat} {l:List Oper} (is:List Nat) (hm:P.follows .mixedOrders=true) (hB:okR l.toArray is=true)
    (h:Walk P l.toArray Q (fun w'=> ∃p:Regrown,w'=Go.Sort.grow (redrawn w p.d) p.os) (is.map (fun i=>l.getD i default)) a w.drew) (hQ: ∀c (a:Act) d v w,Q (.panic c) (a.put d v) w→Q (.panic c) a w:=by(intro _ _ d _ _ h;cases d<;>exact h)):(Code.region id l.toArray true).wp P Q a w:=
 region is hm hB hQ (regrown_of_below ⟨rfl,rfl,rfl,Nat.le_refl _,fun _ _=>rfl⟩) h
theorem nil (h:Q .normal a w):Walk P ops Q S [] a w:=⟨h⟩
theorem off (hw:Region.wanted o (yielded ops a.tmps)=false) (h:Walk P ops Q S rest (a.put o.dst undef) w):Walk P ops Q S (o::rest) a w:=by
  refine⟨?_⟩
  rw[walk,if_neg (by rw[hw];exact Bool.false_ne_true)]
  exact h.out
theorem take (hw:Region.wanted o (yielded ops a.tmps)=true) (hs:still o=true) (h: ∀K:Act→Prop,(∀a',Walk P ops Q S rest a' w→K a')→o.quiet P a S K):Walk P ops Q S (o::rest) a w:=by
  refine⟨?_⟩
  rw[walk,if_pos hw,if_pos hs]
  exact h _ (fun _ h=>h.out)
theorem call {f:FuncId} {fn:Func} {as:List Operand} {ts:Array TypeId} {args:List Value} {R:Ending→World→Prop} (hop:o.op= .call {callee:= .value (.func f),args:=as.toArray,argTypes:=ts}) (hw:Region.wanted o (yielded ops a.tmps)=true) (hf:P.funcs[f]? =some fn) (hname:(fn.name== "runtime.NumGoroutine")=false) (hb:fn.body.isSome=true)
    (hc:Calls P f args.toArray w R) (hargs:as.map a.eval=args)
    (h: ∀e w',R e w'→ ∃v,e= .returned v∧S w'∧Walk P ops Q S rest (a.put o.dst v) w'):Walk P ops Q S (o::rest) a w:=by
 refine⟨?_⟩
 rw[walk,if_pos hw,if_neg (by simp[still,hop])]
 have h1:fn.name≠ "runtime.NumGoroutine" :=by simpa using hname
 obtain⟨c,hcb⟩:=Option.isSome_iff_exists.1 hb
 have he:(callFunc f args.toArray).run P w= .ok (.enter f args.toArray) w:=by simp[callFunc,hf,h1,hcb]
 have hrun:(execOp a.eval o).run P w= .ok (.enter f args.toArray) w:=by
   unfold execOp
   subst hargs
   simp[hop,resolve,Deferred.ofValue,invoke,Act.eval,he]
 unfold Oper.wp
 rw[hrun,Oper.upon_enter]
 refine hc.mono fun e w'' hh=>?_
 obtain⟨v,rfl,hk⟩:=h e w'' hh
 exact⟨hk.1,hk.2.out⟩
end
end Go.Proofs.YtckpikfbhlhhjaaGreatDoor.Txt
