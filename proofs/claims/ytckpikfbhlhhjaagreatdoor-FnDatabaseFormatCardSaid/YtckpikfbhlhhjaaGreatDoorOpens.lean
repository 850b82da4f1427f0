/- What a reading of a datum (ints, strings, slices, structs of two or three one-cell fields) says of the memory it was read from, in the print's own kinds. No condition. -/
import Derived.Test.YtckpikfbhlhhjaaGreatDoorWMore
import Derived.Deep.Slices
import Derived.Deep.Strs
import Derived.Carry
import Derived.OpenShut
import Derived.ShutString
import Derived.ChangeOld
namespace Go.Proofs.YtckpikfbhlhhjaaGreatDoor.Opens
open Go.RowKit Go.ChangeShapes Go.WideShapes Go.Deep Go.Proofs.YtckpikfbhlhhjaaGreatDoorW.PrintWords
set_option linter.unusedVariables false

/-- Whatever reads as a datum of type t holds a value of the kind d that is good. -/
def OpensAs {α:Type} (P:Program) (t:TypeId) (d:Kd α) (g:α→Prop):Prop:=
  ∀(H:Type) (enc:TypeId×Value→H) (w:World) (base:Nat) (spare:Nat→Bool) (held:Bool) (fuel:Nat) (cs:List Value) (x:DataW H×List MemPlace),
   DataW.trod enc P w base spare held fuel t cs=some x→ ∃a,d.K w a cs∧g a

theorem opens_int {P:Program} {t:TypeId} {k:IntKind} (ht:P.underlying t=some (.int k)):OpensAs P t (Kd.int k) (fun n=>(Lit.int k n).wf=true):=by
  intro H enc w base spare held fuel cs x h
  obtain⟨n,rfl,_,hw⟩:=DataW.trod_int ht h
  exact⟨n,rfl,hw⟩

theorem opens_string {P:Program} {t:TypeId} (ht:P.underlying t=some .string):OpensAs P t Kd.string (fun s=>s.size≤maxLen):=by
  intro H enc w base spare held fuel cs x h
  obtain⟨s,rfl,_,hw⟩:=DataW.trod_string ht h
  exact⟨s,rfl,hw⟩

theorem opens_slice {α:Type} {P:Program} {t e:TypeId} {d:Kd α} {g:α→Prop} (ht:P.underlying t=some (.slice e)) (hc:P.cellsOf e=d.sz) (ho:OpensAs P e d g):
    OpensAs P t (Kd.slice e d) (fun xs=>xs.length≤maxLen∧ ∀x∈xs,g x):=by
 intro H enc w base spare held fuel cs x h
 rcases open_slice ht h with ⟨rfl,_⟩|⟨a,len,cap,m,n,D,Pl,rfl,_,hl,hm,hmm,_,hi⟩
 ·exact⟨[],⟨none,0,rfl,Nat.le_refl _,rfl,by simp,fun hn=>absurd hn (by simp)⟩,by simp[maxLen],by simp⟩
 ·have hlm:len≤m:=by rw[hmm];split<;>omega
  have hel: ∀i,i<len→ ∃p:α×List Value,p.2.length=d.sz∧d.K w p.1 p.2∧g p.1∧ ∀j u,p.2[j]? =some u→w.cell? (a.add (i*d.sz+j))=some u:=by
    intro i hil
    obtain⟨cs',hcs,htr⟩:=hi i (by omega)
    obtain⟨p,hp,hg⟩:=ho H enc w base spare held n cs' _ htr
    obtain⟨_,hcl,hat⟩:=World.cells?_some hcs
    refine⟨(p,cs'),d.K_len hp,hp,hg,fun j u hj=>?_⟩
    have hjl:j<P.cellsOf e:=by
      have:=(List.getElem?_eq_some_iff.1 hj).1
      have h2:=d.K_len hp
      simp only at this
      omega
    have:=hat j hjl
    rw[Go.Deep.add_add,hc] at this
    rw[this]
    exact hj
  rcases Nat.eq_zero_or_pos len with h0|h0
  ·subst h0
   exact⟨[],⟨some a,cap,rfl,by simp,rfl,by simp,fun hn=>absurd hn (by simp)⟩,by simp[maxLen],by simp⟩
  ·obtain⟨p0,_⟩:=hel 0 h0
   haveI:Inhabited (α×List Value):=⟨p0⟩
   obtain⟨f,hf⟩:=choose_lt hel
   refine⟨(List.range len).map fun i=>(f i).1,⟨some a,cap,by simp,by simpa using hl,by simp,by simp only[List.length_map,List.length_range];unfold maxLen at hm;omega,fun _=>⟨a,rfl,fun j p hj=>?_⟩⟩,by simp only[List.length_map,List.length_range];omega,fun x hx=>?_⟩
   ·have hjl:j<len:=by
      have:=(List.getElem?_eq_some_iff.1 hj).1
      simpa using this
    have hp:(f j).1=p:=by
      rw[List.getElem?_map,List.getElem?_range hjl] at hj
      simpa using hj
    subst hp
    obtain⟨h1,h2,_,h4⟩:=hf j hjl
    exact⟨(f j).2,h1,h2,h4⟩
   ·obtain⟨i,hi',rfl⟩:=List.mem_map.1 hx
    exact(hf i (List.mem_range.1 hi')).2.2.1

theorem opens_iso {α β:Type} {P:Program} {t:TypeId} {d:Kd α} {g:α→Prop} (f:β→α) (f':α→β) (hf: ∀a,f (f' a)=a) (ho:OpensAs P t d g):OpensAs P t (Kd.iso d f) (fun x=>g (f x)):=by
  intro H enc w base spare held fuel cs x h
  obtain⟨a,hk,hg⟩:=ho H enc w base spare held fuel cs x h
  exact⟨f' a,by show d.K w (f (f' a)) cs;rw[hf];exact hk,by show g (f (f' a));rw[hf];exact hg⟩

theorem opens_two {α β:Type} {P:Program} {t:TypeId} {f0 f1:Field} {d0:Kd α} {d1:Kd β} {g0:α→Prop} {g1:β→Prop} (ht:P.underlying t=some (.struct #[f0,f1]))
    (o0:f0.offset=0) (o1:f1.offset=d0.sz) (c0:P.cellsOf f0.type=d0.sz) (c1:P.cellsOf f1.type=d1.sz) (hc:P.cellsOf t=d0.sz+d1.sz)
    (h0:OpensAs P f0.type d0 g0) (h1:OpensAs P f1.type d1 g1):OpensAs P t (Kd.pair d0 d1) (fun x=>g0 x.1∧g1 x.2):=by
 intro H enc w base spare held fuel cs x h
 obtain⟨y0,y1,n,_,hl,ht0,ht1⟩:=trod_struct2 ht h
 obtain⟨a0,k0,w0⟩:=h0 H enc w base spare held n _ _ ht0
 obtain⟨a1,k1,w1⟩:=h1 H enc w base spare held n _ _ ht1
 refine⟨(a0,a1),⟨_,_,?_,k0,k1⟩,w0,w1⟩
 rw[o0,o1,c0,c1,List.drop_zero]
 rw[List.take_of_length_le (l:=List.drop _ cs) (by rw[List.length_drop];omega),List.take_append_drop]

theorem opens_three {α β γ:Type} {P:Program} {t:TypeId} {f0 f1 f2:Field} {d0:Kd α} {d1:Kd β} {d2:Kd γ} {g0:α→Prop} {g1:β→Prop} {g2:γ→Prop} (ht:P.underlying t=some (.struct #[f0,f1,f2]))
    (o0:f0.offset=0) (o1:f1.offset=d0.sz) (o2:f2.offset=d0.sz+d1.sz) (c0:P.cellsOf f0.type=d0.sz) (c1:P.cellsOf f1.type=d1.sz) (c2:P.cellsOf f2.type=d2.sz) (hc:P.cellsOf t=d0.sz+(d1.sz+d2.sz))
    (h0:OpensAs P f0.type d0 g0) (h1:OpensAs P f1.type d1 g1) (h2:OpensAs P f2.type d2 g2):OpensAs P t (Kd.pair d0 (Kd.pair d1 d2)) (fun x=>g0 x.1∧g1 x.2.1∧g2 x.2.2):=by
 intro H enc w base spare held fuel cs x h
 obtain⟨y0,y1,y2,n,_,hl,ht0,ht1,ht2⟩:=trod_struct3 ht h
 obtain⟨a0,k0,w0⟩:=h0 H enc w base spare held n _ _ ht0
 obtain⟨a1,k1,w1⟩:=h1 H enc w base spare held n _ _ ht1
 obtain⟨a2,k2,w2⟩:=h2 H enc w base spare held n _ _ ht2
 refine⟨(a0,a1,a2),⟨_,_,?_,k0,⟨_,_,rfl,k1,k2⟩⟩,w0,w1,w2⟩
 rw[o0,o1,o2,c0,c1,c2,List.drop_zero]
 have e2:List.take d2.sz (List.drop (d0.sz+d1.sz) cs)=List.drop d1.sz (List.drop d0.sz cs):=by
   rw[List.drop_drop,List.take_of_length_le (by rw[List.length_drop];omega)]
 rw[e2,List.take_append_drop,List.take_append_drop]

/-- A slice that is a parameter. -/
theorem opens_slice_arg {α:Type} {P:Program} {t e:TypeId} {d:Kd α} {g:α→Prop} (ht:P.underlying t=some (.slice e)) (hc:P.cellsOf e=d.sz) (ho:OpensAs P e d g) {H:Type} {enc:TypeId×Value→H} {w:World} {r:Reach} {b0:Nat} {base:Nat} {spare:Nat→Bool} {held:Bool} {v:Value} {D:DataW H} {p:List MemPlace}
    (hv:Value.okWide P w r b0 t v) (h:DataW.Trod enc P w base spare held t v D p):
    ∃A c xs,v= .slice A xs.length c∧xs.length≤c∧d.C w A xs.length xs∧xs.length≤maxLen∧ ∀x∈xs,g x:=by
 obtain⟨A,len,cap,rfl⟩:=okWide_slice ht hv
 obtain⟨fuel,hf⟩:=h
 obtain⟨xs,⟨A',c',hcs,hle,hC⟩,hg⟩:=opens_slice ht hc ho H enc w base spare held fuel _ _ hf
 simp[Value.cells] at hcs
 obtain⟨rfl,rfl,rfl⟩:=hcs
 exact⟨_,_,xs,rfl,hle,hC,hg.1,hg.2⟩

/-- A struct that is a parameter. -/
theorem opens_struct_arg {α:Type} {P:Program} {t:TypeId} {fs:Array Field} {d:Kd α} {g:α→Prop} (ht:P.underlying t=some (.struct fs)) (ho:OpensAs P t d g) {H:Type} {enc:TypeId×Value→H} {w:World} {r:Reach} {b0:Nat} {base:Nat} {spare:Nat→Bool} {held:Bool} {v:Value} {D:DataW H} {p:List MemPlace}
    (hv:Value.okWide P w r b0 t v) (h:DataW.Trod enc P w base spare held t v D p):
    ∃cs x,v= .agg (List.toArray cs)∧d.K w x cs∧g x:=by
 obtain⟨cs,rfl,_⟩:=okWide_struct ht hv
 obtain⟨fuel,hf⟩:=h
 obtain⟨x,hk,hg⟩:=ho H enc w base spare held fuel _ _ hf
 exact⟨_,x,by simp[Value.cells],hk,hg⟩

#print axioms opens_slice
end Go.Proofs.YtckpikfbhlhhjaaGreatDoor.Opens
