/- Small laws on numbers, bytes and lists that the pure statements share. No condition beyond those each states. -/
import Derived.Test.YtckpikfbhlhhjaaGreatDoorWMore
import Derived.Laws.BitsLemmas
import Derived.OpenShut
import Derived.Lib.Strings
namespace Go.Proofs.YtckpikfbhlhhjaaGreatDoor.Base
open Go.RowKit Go.Proofs.YtckpikfbhlhhjaaGreatDoorW.PrintWords Go.Proofs.YtckpikfbhlhhjaaGreatDoorW.PrintLast Go.Proofs.YtckpikfbhlhhjaaGreatDoorW.PrintMore
set_option linter.unusedVariables false

theorem w64 {n:Int} (h0: -9223372036854775808≤n) (h1:n≤9223372036854775807):wrap64 n=n:=by
  unfold wrap64
  omega

theorem btr (s:ByteArray) (i:Int):0≤bt s i∧bt s i≤255:=bt_range s i

theorem td {a b:Int} (h:0≤a):Int.tdiv a b=a/b:=Int.tdiv_eq_ediv_of_nonneg h
theorem tm {a b:Int} (h:0≤a):Int.tmod a b=a%b:=Int.tmod_eq_emod_of_nonneg h

/-- bits of two numbers that share none, in either order. -/
theorem or_join (i:Nat) (hi:i≤62) (x y:Int) (hx0:0≤x) (hx:x%2^i=0) (hx1:x<2^62) (hy0:0≤y) (hy:y<2^i):bits .or .i64 x y=x+y:=by
  refine bits_join .i64 62 (by decide) (fun n h0 h1=>?_) i x y hx0 hx hx1 hy0 hy ?_
  ·rw[IntKind.wrap_i64]
   have:(2:Int)^62=4611686018427387904:=by decide
   omega
  ·have h2:(2:Nat)^i≤2^62:=Nat.pow_le_pow_right (by decide) hi
   have h3:((2:Int)^i)≤2^62:=by exact_mod_cast h2
   omega
theorem or_comm64 (x y:Int) (hx0:0≤x) (hy0:0≤y) (hx1:x<2^62) (hy1:y<2^62):bits .or .i64 x y=bits .or .i64 y x:=by
  obtain⟨a,rfl⟩:=Int.eq_ofNat_of_zero_le hx0
  obtain⟨b,rfl⟩:=Int.eq_ofNat_of_zero_le hy0
  have hk: ∀n:Int,0≤n→n<2^62→IntKind.i64.wrap n=n:=fun n h0 h1=>by
    rw[IntKind.wrap_i64]
    have:(2:Int)^62=4611686018427387904:=by decide
    omega
  have ha:a<2^62:=by exact_mod_cast hx1
  have hb:b<2^62:=by exact_mod_cast hy1
  rw[(bits_nat .i64 62 (by decide) hk a b ha hb).2,(bits_nat .i64 62 (by decide) hk b a hb ha).2,Nat.or_comm]

/-- Fuel from a bound below. -/
theorem fuel {k m:Nat} (h:m<k): ∃k',k=k'+1∧m≤k':=⟨k-1,by omega,by omega⟩

theorem sn_toList (xs:List Int):(strOfNums xs).data.toList=xs.map fun n=>UInt8.ofNat n.toNat:=by simp[strOfNums]
theorem sn_size (xs:List Int):(strOfNums xs).size=xs.length:=by
  show(strOfNums xs).data.size=_
  rw[←Array.length_toList,sn_toList,List.length_map]
theorem sn_append (xs ys:List Int):strOfNums xs++strOfNums ys=strOfNums (xs++ys):=by
  apply ByteArray.ext
  rw[ByteArray.data_append]
  apply Array.ext'
  simp[strOfNums]
theorem sn_bt (xs:List Int) (i:Int) (h0:0≤i) (h1:i<xs.length):bt (strOfNums xs) i=((UInt8.ofNat (rd xs i).toNat).toNat:Int):=by
  have hs:i.toNat<(strOfNums xs).size:=by rw[sn_size];omega
  have hl:i.toNat<xs.length:=by omega
  unfold bt rd
  rw[dif_pos hs]
  have:(strOfNums xs)[i.toNat] =UInt8.ofNat (xs[i.toNat]).toNat:=by
    show(strOfNums xs).data[i.toNat] =_
    simp[strOfNums]
  rw[this]
  simp[List.getD_eq_getElem?_getD,hl]
/-- Two strings of the same bytes are one. -/
theorem ba_ext {a b:ByteArray} (hs:a.size=b.size) (h: ∀i:Nat,i<a.size→bt a i=bt b i):a=b:=by
  apply ByteArray.ext
  apply Array.ext
  ·exact hs
  ·intro i h1 h2
   have h1':i<a.size:=h1
   have h2':i<b.size:=h2
   have:=h i h1'
   unfold bt at this
   simp only[Int.toNat_natCast] at this
   rw[dif_pos h1',dif_pos h2'] at this
   have e:(a[i]).toNat=(b[i]).toNat:=by exact_mod_cast this
   exact UInt8.toNat_inj.1 e
theorem tl_eq (s:ByteArray):s.toList=s.data.toList:=ByteArray.toList_eq s
theorem tl_inj {a b:ByteArray} :a.toList=b.toList↔a=b:=by
  constructor
  ·intro h
   rw[tl_eq,tl_eq] at h
   exact ByteArray.ext (Array.ext' h)
  ·rintro rfl
   rfl
theorem ex_size (s:ByteArray) (m:Nat) (h:m≤s.size):(s.extract 0 m).size=m:=by
  rw[ByteArray.size_extract]
  omega
theorem ex_bt (s:ByteArray) (m i:Nat) (h:m≤s.size) (hi:i<m):bt (s.extract 0 m) i=bt s i:=by
  unfold bt
  simp only[Int.toNat_natCast]
  rw[dif_pos (show i<(s.extract 0 m).size by rw[ex_size s m h];exact hi),dif_pos (show i<s.size by omega)]
  have e:(s.extract 0 m)[i]'(by rw[ex_size s m h];exact hi)=s[i]'(by omega):=by
    rw[ByteArray.getElem_extract]
    simp
  rw[e]
theorem wfb {n:Int} (h:(Lit.int .i64 n).wf=true): -9223372036854775808≤n∧n≤9223372036854775807:=bounds_i64 h
theorem take_set_succ {α:Type} (xs:List α) (i:Nat) (v:α) (h:i<xs.length):(xs.set i v).take (i+1)=xs.take i++ [v] :=by
  rw[List.take_succ_eq_append_getElem (by simpa using h)]
  simp[List.take_set_of_le]
theorem take_map_succ {α β:Type} (f:α→β) (d:α) (l:List α) (i:Nat) (h:i<l.length):(l.take (i+1)).map f=(l.take i).map f++ [f (l.getD i d)] :=by
  rw[List.take_succ_eq_append_getElem h,List.map_append,List.getD_eq_getElem?_getD,List.getElem?_eq_getElem h]
  rfl
theorem getD_lt {α:Type} (l:List α) (d:α) (i:Nat) (h:i<l.length):l.getD i d=l[i] :=by
  rw[List.getD_eq_getElem?_getD,List.getElem?_eq_getElem h]
  rfl
theorem getD_mem {α:Type} (l:List α) (d:α) (i:Nat) (h:i<l.length):l.getD i d∈l:=by
  rw[getD_lt l d i h]
  exact List.getElem_mem h
theorem getD_map {α β:Type} (f:α→β) (l:List α) (d:α) (d':β) (i:Nat) (h:i<l.length):(l.map f).getD i d'=f (l.getD i d):=by
  rw[getD_lt l d i h,getD_lt _ d' i (by simpa using h)]
  simp
def cmpI:List Int→List Int→Int
  | [],[] =>0
  | [],_::_=> -1
  |_::_,[] =>1
  |x::xs,y::ys=>if x<y then-1 else if x>y then 1 else cmpI xs ys
def cmpF (a:Int) (la:List Int) (b:Int) (lb:List Int):Int:=if a<b then-1 else if a>b then 1 else cmpI la lb
theorem cmpI_end {xs ys:List Int} (h:xs= [] ∨ys= []):cmpI xs ys=if xs.length<ys.length then-1 else if xs.length>ys.length then 1 else 0:=by
  rcases h with rfl|rfl
  ·cases ys with
   |nil=>rfl
   |cons y ys=>simp[cmpI]
  ·cases xs with
   |nil=>rfl
   |cons x xs=>simp[cmpI]
/-- The place of the first element of which p holds, counted from i on; -1 if there is none. -/
def idxW {α:Type} (p:α→Bool):List α→Int→Int
  | [],_=> -1
  |x::xs,i=>if p x=true then i else idxW p xs (i+1)
theorem idxW_hit {α:Type} (p:α→Bool) (d:α): ∀(l:List α) (k:Nat) (i:Int),k<l.length→(∀j,j<k→p (l.getD j d)=false)→p (l.getD k d)=true→idxW p l i=i+k
  | [],k,_,h,_,_=>absurd h (Nat.not_lt_zero _)
  |x::xs,0,i,_,_,h=>by
   have h':p x=true:=h
   simp[idxW,h']
  |x::xs,k+1,i,hk,ha,h=>by
   have h0:p x=false:=ha 0 (by omega)
   have:=idxW_hit p d xs k (i+1) (by simpa using hk) (fun j hj=>by simpa using ha (j+1) (by omega)) (by simpa using h)
   simp only[idxW,h0,Bool.false_eq_true,if_false,this]
   omega
theorem idxW_miss {α:Type} (p:α→Bool) (d:α): ∀(l:List α) (i:Int),(∀j,j<l.length→p (l.getD j d)=false)→idxW p l i= -1
  | [],_,_=>rfl
  |x::xs,i,h=>by
   have h0:p x=false:=h 0 (by simp)
   simp only[idxW,h0,Bool.false_eq_true,if_false]
   exact idxW_miss p d xs (i+1) fun j hj=>by simpa using h (j+1) (by simpa using hj)
/-- The lists go alike under p. -/
def eqW {α:Type} (p:α→α→Bool):List α→List α→Bool
  | [],[] =>true
  |x::xs,y::ys=>p x y&&eqW p xs ys
  |_,_=>false
theorem eqW_len {α:Type} (p:α→α→Bool): ∀(xs ys:List α),xs.length≠ys.length→eqW p xs ys=false
  | [],[],h=>absurd rfl h
  | [],_::_,_=>rfl
  |_::_,[],_=>rfl
  |x::xs,y::ys,h=>by rw[eqW,eqW_len p xs ys (by simpa using h),Bool.and_false]
theorem eqW_miss {α:Type} (p:α→α→Bool) (d:α): ∀(xs ys:List α) (k:Nat),xs.length=ys.length→k<xs.length→p (xs.getD k d) (ys.getD k d)=false→eqW p xs ys=false
  | [],_,k,_,hk,_=>absurd hk (Nat.not_lt_zero _)
  |_::_,[],_,h,_,_=>by simp at h
  |x::xs,y::ys,0,_,_,hp=>by
   have hp':p x y=false:=hp
   rw[eqW,hp',Bool.false_and]
  |x::xs,y::ys,k+1,h,hk,hp=>by rw[eqW,eqW_miss p d xs ys k (by simpa using h) (by simpa using hk) (by simpa using hp),Bool.and_false]
theorem eqW_hit {α:Type} (p:α→α→Bool) (d:α): ∀(xs ys:List α),xs.length=ys.length→(∀k,k<xs.length→p (xs.getD k d) (ys.getD k d)=true)→eqW p xs ys=true
  | [],[],_,_=>rfl
  | [],_::_,h,_=>by simp at h
  |_::_,[],h,_=>by simp at h
  |x::xs,y::ys,h,hp=>by
   have h0:p x y=true:=hp 0 (by simp)
   rw[eqW,h0,eqW_hit p d xs ys (by simpa using h) (fun k hk=>by simpa using hp (k+1) (by simpa using hk)),Bool.true_and]
end Go.Proofs.YtckpikfbhlhhjaaGreatDoor.Base
