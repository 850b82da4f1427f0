/- The law FnDatabaseFormat answers true for every code: a drawn database's text is read back, a text that is read is the text of what was read, both texts compare databases alike. -/
import Derived.Test.YtckpikfbhlhhjaaGreatDoorGFnDatabaseFormat
import Derived.Test.YtckpikfbhlhhjaaGreatDoorBase
import Derived.Lib.ItoaLen
namespace Go.Proofs.YtckpikfbhlhhjaaGreatDoor.Pure
open Go.RowKit Go.Proofs.YtckpikfbhlhhjaaGreatDoor.PFnDatabaseFormat Go.Proofs.YtckpikfbhlhhjaaGreatDoorW.PrintWords Go.Proofs.YtckpikfbhlhhjaaGreatDoorW.PrintLast Go.Proofs.YtckpikfbhlhhjaaGreatDoorW.PrintMore Go.Proofs.YtckpikfbhlhhjaaGreatDoor.Base
set_option linter.unusedVariables false
set_option linter.unusedSimpArgs false
theorem cmpSl (a b:List Int) (ha:a.length≤1048576) (hb:b.length≤1048576) (d:Nat): ∀(i:Nat),i+d=a.length→ ∀k,2*d+1<k→spec_l3Ints.l0 k a b i=some (cmpI (a.drop i) (b.drop i))∨b.length<i:=by
 induction d with
 |zero=>
  intro i hd k hk
  by_cases hbi:b.length<i
  ·exact .inr hbi
  left
  obtain⟨k,rfl⟩: ∃z,k=z+2:=⟨k-2,by omega⟩;rw[spec_l3Ints.l0,if_neg (by omega),spec_l3Ints.j1,if_neg (by decide),cmpI_end (.inl (List.drop_of_length_le (by omega))),List.length_drop,List.length_drop]
  by_cases h1:(a.length:Int)<(b.length:Int)
  ·rw[if_pos h1,if_pos (show a.length-i<b.length-i by omega)]
  ·rw[if_neg h1,if_neg (show¬(a.length:Int)>(b.length:Int) by omega),if_neg (show¬a.length-i<b.length-i by omega),if_neg (show¬a.length-i>b.length-i by omega)]
 |succ d ih=>
  intro i hd k hk
  by_cases hbi:b.length<i
  ·exact .inr hbi
  left
  obtain⟨k,rfl⟩: ∃z,k=z+2:=⟨k-2,by omega⟩;rw[spec_l3Ints.l0,if_pos (by omega)]
  by_cases hlt:i<b.length
  ·have e1:wrap64 ((i:Int)+1)=((i+1:Nat):Int):=by rw[w64 (by omega) (by omega)];omega
   have e2:rd a (i:Int)=a[i] :=by unfold rd;rw[Int.toNat_natCast,getD_lt a _ i (by omega)]
   have e3:rd b (i:Int)=b[i] :=by unfold rd;rw[Int.toNat_natCast,getD_lt b _ i (by omega)]
   rw[decide_eq_true (by omega),spec_l3Ints.j1,if_pos rfl,if_pos (by omega),if_pos (by omega),if_pos (by omega),e1,e2,e3];rw[List.drop_eq_getElem_cons (i:=i) (l:=a) (by omega),List.drop_eq_getElem_cons (i:=i) (l:=b) (by omega),cmpI]
   by_cases h1:a[i] <b[i]
   ·rw[if_pos h1,if_pos h1]
   ·rw[if_neg h1,if_neg h1]
    by_cases h2:a[i] >b[i]
    ·rw[if_pos h2,if_pos h2]
    ·rw[if_neg h2,if_neg h2]
     rcases ih (i+1) (by omega) k (by omega) with h|h
     ·exact h
     ·omega
  ·rw[decide_eq_false (by omega),spec_l3Ints.j1,if_neg (by decide),cmpI_end (.inr (List.drop_of_length_le (by omega))),List.length_drop,List.length_drop];rw[if_neg (show¬(a.length:Int)<(b.length:Int) by omega),if_pos (show(a.length:Int)>(b.length:Int) by omega),if_neg (show¬a.length-i<b.length-i by omega),if_pos (show a.length-i>b.length-i by omega)]
theorem cmpS (a b:List Int) (ha:a.length≤1048576) (hb:b.length≤1048576) (k:Nat) (hk:2*a.length+1<k):spec_l3Ints.f k a b=some (cmpI a b):=by
 rcases cmpSl a b ha hb a.length 0 (by omega) k hk with h|h
 ·exact h
 ·omega
theorem cmpFS (x:Int) (a:List Int) (y:Int) (b:List Int) (ha:a.length≤1048576) (hb:b.length≤1048576) (k:Nat) (hk:2*a.length+1<k):spec_CompareFacts.f k x a y b=some (cmpF x a y b):=by
 unfold spec_CompareFacts.f cmpF
 by_cases h1:x<y
 ·rw[if_pos h1,if_pos h1]
 ·rw[if_neg h1,if_neg h1]
  by_cases h2:x>y
  ·rw[if_pos h2,if_pos h2]
  ·rw[if_neg h2,if_neg h2,cmpS a b ha hb k hk];rfl
theorem in1 (x a b:Int):spec_l1In.f x a b=some (decide (a≤x∧x≤b)):=by
 unfold spec_l1In.f
 by_cases h:a≤x
 ·rw[if_pos h];simp[h]
 ·rw[if_neg h];simp[h]
theorem vFSl (a:Int) (vs:List Int) (hs:vs.length≤1048576) (d:Nat): ∀(i:Nat),i+d=vs.length→ ∀k,d<k→spec_IsValidFact.l0 k i a vs=some (!(vs.drop i).any noVal):=by
 induction d with
 |zero=>
  intro i hd k hk;obtain⟨k,rfl,hk⟩:=fuel hk;rw[spec_IsValidFact.l0,if_neg (by omega),List.drop_of_length_le (by omega)];rfl
 |succ d ih=>
  intro i hd k hk;obtain⟨k,rfl,hk⟩:=fuel hk;rw[spec_IsValidFact.l0,if_pos (by omega),if_pos (by omega),in1,Option.bind_some,List.drop_eq_getElem_cons (i:=i) (l:=vs) (by omega),List.any_cons];rw[show wrap64 ((i:Int)+1)=((i+1:Nat):Int) by rw[w64 (by omega) (by omega)];omega,show rd vs (i:Int)=vs[i] by unfold rd;rw[Int.toNat_natCast,getD_lt vs _ i (by omega)]]
  by_cases h:0≤vs[i] ∧vs[i] ≤9
  ·rw[if_pos (by simpa using h),ih (i+1) (by omega) k (by omega)];have:noVal vs[i] =false:=by simp[noVal,h]
   rw[this,Bool.false_or]
  ·rw[if_neg (by simpa using h)];have:noVal vs[i] =true:=by
    unfold noVal
    by_cases h1:0≤vs[i]
    ·have h2: ¬vs[i] ≤9:=fun h2=>h ⟨h1,h2⟩;simp[h2]
    ·simp[h1]
   rw[this,Bool.true_or];rfl
theorem vFS (l:List S42) (hl:l.length≤1048576) (a:Int) (vs:List Int) (hs:vs.length≤1048576) (k:Nat) (hk:vs.length+1<k):spec_IsValidFact.f k l a vs=some (vFact l a vs):=by
 obtain⟨k,rfl⟩: ∃z,k=z+1:=⟨k-1,by omega⟩;unfold spec_IsValidFact.f spec_AreValidRelations.f vFact fits;rw[Option.bind_some,in1,Option.bind_some,w64 (by omega) (by omega)]
 by_cases h0:vRels l=true
 ·rw[if_pos h0]
  by_cases h1:0≤a∧a<(l.length:Int)
  ·rw[if_pos (by simpa using (by omega:0≤a∧a≤(l.length:Int)-1)),if_pos h1.1,if_pos h1.2,spec_IsValidFact.j0]
   by_cases h2:(vs.length:Int)=(rd_T42 l a).f1
   ·rw[if_neg (by simpa using h2),show(0:Int)=((0:Nat):Int) from rfl,vFSl a vs hs vs.length 0 (by omega) k (by omega),h0,decide_eq_true (by exact⟨h1.1,h1.2,h2⟩)];simp
   ·rw[if_pos (by simpa using h2),decide_eq_false (by intro h;exact h2 h.2.2)];simp
  ·rw[if_neg (by simpa using (by omega:0≤a→ ¬a≤(l.length:Int)-1)),spec_IsValidFact.j0,if_pos rfl,decide_eq_false (by intro h;exact h1 ⟨h.1,h.2.1⟩)];simp
 ·rw[if_neg h0,spec_IsValidFact.j0,if_pos rfl];simp[h0]
theorem vFI (l:List S42) (hl:l.length≤1048576) (a:Int) (vs:List Int):impl_IsValidFact.f l a vs=some (vFact l a vs):=by
 unfold impl_IsValidFact.f impl_AreValidRelations.f vFact;rw[Option.bind_some,fitI l (by omega),Option.bind_some]
 by_cases h0:vRels l=true
 ·rw[if_pos h0,h0];rfl
 ·rw[if_neg h0];simp[h0]
theorem vDSl (l:List S42) (hl:l.length≤1048576) (fs:List S47) (hf:fs.length≤1048576) (hg: ∀y∈fs,y.f1.length≤1048576) (d:Nat): ∀(i:Nat),i+d=fs.length→ ∀k,d+4000000<k→spec_IsValidDatabase.l0 k i l fs=some (vRels l&&decide (fs.length≤14)&&okFrom l fs d i):=by
 induction d with
 |zero=>
  intro i hd k hk;obtain⟨k,rfl,hk⟩:=fuel hk;rw[spec_IsValidDatabase.l0,if_neg (by omega)];unfold spec_AreValidRelations.f;rw[Option.bind_some]
  by_cases h:vRels l=true
  ·rw[if_pos h,h,okFrom];simp only[Bool.true_and,Bool.and_true]
   congr 2
   exact propext (by omega)
  ·rw[if_neg h];simp[h]
 |succ d ih=>
  intro i hd k hk;obtain⟨k,rfl,hk⟩:=fuel hk;have hy:=hg _ (getD_mem fs z47 i (by omega));rw[spec_IsValidDatabase.l0,if_pos (by omega),if_pos (by omega)];unfold rd_T47;rw[Int.toNat_natCast,vFS l hl _ _ hy k (by omega),Option.bind_some,okFrom];unfold vFact
  by_cases h0:vRels l=true
  ·by_cases h1:fits l (fs.getD i z47).f0 (fs.getD i z47).f1=true
   ·rw[h0,h1,Bool.true_and,if_pos rfl]
    by_cases hi:i=0
    ·rw[if_neg (by omega),show wrap64 ((i:Int)+1)=((i+1:Nat):Int) by rw[w64 (by omega) (by omega)];omega,ih (i+1) (by omega) k (by omega),h0,decide_eq_true hi];simp
    ·have hy':=hg _ (getD_mem fs z47 (i-1) (by omega));have ew:wrap64 ((i:Int)-1)=((i-1:Nat):Int):=by rw[w64 (by omega) (by omega)];omega
     rw[if_pos (by omega),ew,if_pos (by omega),if_pos (by omega),Int.toNat_natCast,cmpFS _ _ _ _ hy' hy k (by omega),Option.bind_some,decide_eq_false hi]
     by_cases hc:cmpF (fs.getD (i-1) z47).f0 (fs.getD (i-1) z47).f1 (fs.getD i z47).f0 (fs.getD i z47).f1<0
     ·rw[if_neg (by omega),show wrap64 ((i:Int)+1)=((i+1:Nat):Int) by rw[w64 (by omega) (by omega)];omega,ih (i+1) (by omega) k (by omega),h0,decide_eq_true hc];simp
     ·rw[if_pos (by omega),decide_eq_false hc];simp
   ·rw[Bool.eq_false_iff.2 h1,Bool.and_false,if_neg (by decide)];simp
  ·rw[if_neg (by simp[h0])];simp[h0]
theorem vDS (l:List S42) (hl:l.length≤1048576) (fs:List S47) (hf:fs.length≤1048576) (hg: ∀y∈fs,y.f1.length≤1048576) (k:Nat) (hk:6000000<k):spec_IsValidDatabase.f k l fs=some (vDb l fs):=by
 unfold spec_IsValidDatabase.f vDb;exact vDSl l hl fs hf hg fs.length 0 (by omega) k (by omega)
theorem inB_iff (x a b:Int):inB x a b=true↔a≤x∧x≤b:=by unfold inB;exact decide_eq_true_iff
theorem vRelsFrom_at (l:List S42): ∀(d i:Nat),vRelsFrom l d i=true→ ∀j,i≤j→j<i+d→vRel (l.getD j z42)=true
 |0,i,_,j,h1,h2=>by omega
 |d+1,i,h,j,h1,h2=>by
  rw[vRelsFrom,Bool.and_eq_true,Bool.and_eq_true] at h
  by_cases hj:j=i
  ·subst hj;exact h.1.1
  ·exact vRelsFrom_at l d (i+1) h.2 j (by omega) (by omega)
theorem vRels_at (l:List S42) (h:vRels l=true) (a:Int) (h0:0≤a) (h1:a<(l.length:Int)):vRel (rd_T42 l a)=true:=by
 unfold rd_T42;exact vRelsFrom_at l l.length 0 h a.toNat (by omega) (by omega)
theorem fits_iff (l:List S42) (a:Int) (vs:List Int):fits l a vs=true↔(0≤a∧a<(l.length:Int)∧(vs.length:Int)=(rd_T42 l a).f1)∧vs.any noVal=false:=by
 unfold fits;rw[Bool.and_eq_true,decide_eq_true_iff,Bool.not_eq_true']
theorem key_ok (l:List S42) (hr:vRels l=true) (a:Int) (vs:List Int) (h:fits l a vs=true):
  0≤a∧a<(l.length:Int)∧0≤(rd_T42 l a).f2∧(rd_T42 l a).f2≤(vs.length:Int)∧(vs.length:Int)=(rd_T42 l a).f1∧vs.length≤3:=by
 obtain⟨⟨h0,h1,h2⟩,_⟩:=(fits_iff l a vs).1 h;have hv:=vRels_at l hr a h0 h1;unfold vRel at hv;rw[Bool.and_eq_true,Bool.and_eq_true,inB_iff,inB_iff] at hv;exact⟨h0,h1,by omega,by omega,h2,by omega⟩
def dig (u:Nat):List UInt8:=if u=0 then [] else Lib.decDigits u
theorem dig_step (u:Nat) (h:0<u):dig u=dig (u/10)++ [UInt8.ofNat (48+u%10)] :=by
 unfold dig;rw[if_neg (by omega),Lib.decDigits]
 by_cases c:u<10
 ·rw[dif_pos c,if_pos (by omega),List.nil_append,Nat.mod_eq_of_lt c]
 ·rw[dif_neg c,if_neg (by omega)]
theorem sn_cons (z:Int) (l:List UInt8):strOfNums [z] ++(⟨l.toArray⟩:ByteArray)=⟨(UInt8.ofNat z.toNat::l).toArray⟩:=by
 apply ByteArray.ext;apply Array.ext';rw[ByteArray.data_append,Array.toList_append,sn_toList];simp
theorem sz_mk (l:List UInt8):(⟨l.toArray⟩:ByteArray).size=l.length:=by
 rw[show(⟨l.toArray⟩:ByteArray).size=(⟨l.toArray⟩:ByteArray).data.size from rfl];simp
def fin (neg:Bool) (l:List UInt8):ByteArray:=if neg=true then⟨(45::l).toArray⟩ else⟨l.toArray⟩
theorem fil (d:Nat): ∀(u:Nat) (x:Int) (neg:Bool) (l:List UInt8),(x=u∨x= -(u:Int))→u<10^d→u≤9223372036854775808→l.length+d≤1000→ ∀k,d<k→spec_FormatInt.l0 k x ⟨l.toArray⟩ neg=some (fin neg (dig u++l)):=by
 induction d with
 |zero=>
  intro u x neg l hx hu _ hl k hk;obtain⟨k,rfl,hk⟩:=fuel hk;rw[Nat.pow_zero] at hu;rw[spec_FormatInt.l0,if_pos (by omega),show u=0 by omega];unfold fin dig;rw[if_pos rfl,List.nil_append]
  by_cases h:neg=true
  ·rw[if_pos h,if_pos h,if_pos (by rw[sz_mk];omega)]
   congr 1
  ·rw[if_neg h,if_neg h]
 |succ d ih=>
  intro u x neg l hx hu hb hl k hk;obtain⟨k,rfl,hk⟩:=fuel hk
  by_cases h0:u=0
  ·rw[spec_FormatInt.l0,if_pos (by omega),h0];unfold fin dig;rw[if_pos rfl,List.nil_append]
   by_cases h:neg=true
   ·rw[if_pos h,if_pos h,if_pos (by rw[sz_mk];omega)]
    congr 1
   ·rw[if_neg h,if_neg h]
  ·have hm:Int.tmod x 10=(u%10:Nat)∨Int.tmod x 10= -((u%10:Nat):Int):=by
    rcases hx with rfl|rfl
    ·left;rw[Int.tmod_eq_emod_of_nonneg (by omega)];omega
    ·right;rw[Int.neg_tmod,Int.tmod_eq_emod_of_nonneg (by omega)];omega
   have hd:Int.tdiv x 10=(u/10:Nat)∨Int.tdiv x 10= -((u/10:Nat):Int):=by
    rcases hx with rfl|rfl
    ·left;rw[Int.tdiv_eq_ediv_of_nonneg (by omega)];omega
    ·right;rw[Int.neg_tdiv,Int.tdiv_eq_ediv_of_nonneg (by omega)];omega
   have h1:(strOfNums [((48+u%10:Nat):Int)]).size=1:=by rw[sn_size];rfl
   have hs:=ih (u/10) (Int.tdiv x 10) neg (UInt8.ofNat (48+u%10)::l) hd (by rw[Nat.pow_succ] at hu;omega) (by omega) (by simp only[List.length_cons];omega) k (by omega);have hz:wrap64 (Int.tdiv x 10)=Int.tdiv x 10:=w64 (by omega) (by omega);have hn: ∀z:Int,z=((u%10:Nat):Int)→wrap64 (48+z)%256=((48+u%10:Nat):Int):=by
    intro z e;rw[w64 (by omega) (by omega)];omega
   have hfin:spec_FormatInt.l0 k (wrap64 (Int.tdiv x 10)) (strOfNums [((48+u%10:Nat):Int)] ++⟨l.toArray⟩) neg=some (fin neg (dig u++l)):=by
    rw[hz,sn_cons,Int.toNat_natCast,hs,dig_step u (by omega),List.append_assoc];rfl
   rw[spec_FormatInt.l0,if_neg (by omega)]
   by_cases hc:Int.tmod x 10<0
   ·rw[if_pos hc,Option.bind_some,hn _ (by rw[w64 (by omega) (by omega)];omega),if_pos (by rw[h1,sz_mk];omega)];exact hfin
   ·rw[if_neg hc,Option.bind_some,hn _ (by omega),if_pos (by rw[h1,sz_mk];omega)];exact hfin
theorem fiS (n:Int) (h0: -9223372036854775808≤n) (h1:n≤9223372036854775807) (k:Nat) (hk:30<k):spec_FormatInt.f k n=some ⟨(Lib.itoa n).toArray⟩:=by
 unfold spec_FormatInt.f
 by_cases h:n=0
 ·rw[if_pos h,h];unfold Lib.itoa;rw[if_neg (by omega),show(0:Int).toNat=0 from rfl,Lib.decDigits,dif_pos (by omega)];rfl
 ·rw[if_neg h];have hp:(10:Nat)^20=100000000000000000000:=by decide
  have:=fil 20 n.natAbs n (decide (n<0)) [] (by omega) (by omega) (by omega) (by simp) k (by omega);rw[show(⟨#[]⟩:ByteArray)=⟨([] :List UInt8).toArray⟩ from rfl,this,List.append_nil];unfold fin dig Lib.itoa;rw[if_neg (show¬n.natAbs=0 by omega)]
  by_cases hn:n<0
  ·rw[if_pos (decide_eq_true hn),if_pos hn]
  ·rw[if_neg (by simpa using hn),if_neg hn,show n.natAbs=n.toNat by omega]
theorem vRel_sz (x:S42) (h:vRel x=true):x.f0.size≤1048576:=by
 unfold vRel at h;rw[Bool.and_eq_true,Bool.and_eq_true,decide_eq_true_iff] at h;have:=h.1.1.1;omega
theorem fiI (n:Int) (h0: -9223372036854775808≤n) (h1:n≤9223372036854775807):impl_FormatInt.f n=some ⟨(Lib.itoa n).toArray⟩:=by
 unfold impl_FormatInt.f strconv_Itoa_96.f;rw[if_pos h0,if_pos h1,Option.bind_some]
def numB (v:Int):ByteArray:=⟨(Lib.itoa v).toArray⟩
theorem numB_sz (v:Int) (h0: -9223372036854775808≤v) (h1:v≤9223372036854775807):(numB v).size≤21:=by
 unfold numB;rw[sz_mk];exact Lib.itoa_length_le v h0 h1
def ffs (f2:Nat):Nat→List Int→ByteArray→ByteArray
 |_,[],s=>s
 |i,v::vs,s=>ffs f2 (i+1) vs ((if i=f2 then s++(⟨#[124]⟩:ByteArray) else s)++numB v)
theorem ffSl (l:List S42) (a:Int) (ha:0≤a) (ha':a<(l.length:Int)) (f2:Nat) (h2:(rd_T42 l a).f2=f2) (vs:List Int) (hn:vs.length≤3) (hb: ∀v∈vs,-9223372036854775808≤v∧v≤9223372036854775807) (d:Nat): ∀(i:Nat) (s:ByteArray),i+d=vs.length→s.size+30*d≤1000000000→ ∀k,d+40<k→spec_FormatFact.l0 k l s i a vs=some (ffs f2 i (vs.drop i) s):=by
 induction d with
 |zero=>
  intro i s hd _ k hk;obtain⟨k,rfl,hk⟩:=fuel hk;rw[spec_FormatFact.l0,if_neg (by omega),List.drop_eq_nil_of_le (by omega),ffs]
 |succ d ih=>
  intro i s hd hs k hk;obtain⟨k,rfl,hk⟩:=fuel hk;have hv:=hb vs[i] (List.getElem_mem _);have hz:=numB_sz vs[i] hv.1 hv.2;have hr:rd vs (i:Int)=vs[i] :=by unfold rd;rw[Int.toNat_natCast,getD_lt _ _ i (by omega)]
  have l1:(⟨#[124]⟩:ByteArray).size=1:=rfl;have hf:spec_FormatInt.f k vs[i] =some (numB vs[i]):=fiS _ hv.1 hv.2 k (by omega);rw[spec_FormatFact.l0,if_pos (by omega),if_pos ha,if_pos ha',h2,hr,hf,List.drop_eq_getElem_cons (by omega),ffs,show wrap64 ((i:Int)+1)=((i+1:Nat):Int) by rw[w64 (by omega) (by omega)];omega];simp only[Option.bind_some]
  by_cases c:i=f2
  ·rw[if_pos (by omega),if_pos (by omega),if_pos (by omega),if_pos (by rw[ByteArray.size_append];omega),if_pos c];exact ih (i+1) _ (by omega) (by rw[ByteArray.size_append,ByteArray.size_append];omega) k (by omega)
  ·rw[if_neg (by omega),if_pos (by omega),if_pos (by omega),if_neg c];exact ih (i+1) _ (by omega) (by rw[ByteArray.size_append];omega) k (by omega)
def bar (xs:List ByteArray) (f2:Nat):ByteArray:=if(f2:Int)<(xs.length:Int) then(⟨(Shelf.cat_ (xs.take f2)).toArray⟩:ByteArray)++((⟨#[124]⟩:ByteArray)++(⟨(Shelf.cat_ (xs.drop f2)).toArray⟩:ByteArray)) else(⟨(Shelf.cat_ (xs.take f2)).toArray⟩:ByteArray)
theorem cat_sz: ∀xs:List ByteArray,(∀x∈xs,x.size≤21)→(Shelf.cat_ xs).length≤21*xs.length
 | [],_=>by rw[Shelf.cat_];simp
 |x::xs,h=>by
  have:=cat_sz xs fun y hy=>h y (List.mem_cons_of_mem _ hy);have hx:=h x (List.mem_cons_self ..);have e:x.toList.length=x.size:=by rw[tl_eq,Array.length_toList];rfl
  rw[Shelf.cat_,List.length_append,List.length_cons,e];omega
theorem bar_sz (xs:List ByteArray) (f2:Nat) (hn:xs.length≤3) (h: ∀x∈xs,x.size≤21):(bar xs f2).size≤1000:=by
 have h1:=cat_sz xs h;have h2:=Shelf.cat_len xs f2;have l1:(⟨#[124]⟩:ByteArray).size=1:=rfl;unfold bar
 split
 ·rw[ByteArray.size_append,ByteArray.size_append,sz_mk,l1,sz_mk];omega
 ·rw[sz_mk];omega
theorem ffIl (l:List S42) (a:Int) (ha:0≤a) (ha':a<(l.length:Int)) (f2:Nat) (h2:(rd_T42 l a).f2=f2) (vs:List Int) (hn:vs.length≤3) (hf:f2≤vs.length) (hsz:(rd_T42 l a).f0.size≤1048576) (hb: ∀v∈vs,-9223372036854775808≤v∧v≤9223372036854775807) (d:Nat): ∀(i:Nat),i+d=vs.length→ ∀k,d<k→impl_FormatFact.l0 k l ((vs.take i).map numB) vs vs.length i a vs=some ((rd_T42 l a).f0++bar (vs.map numB) f2):=by
 have hm: ∀x∈vs.map numB,x.size≤21:=by
  intro x hx;obtain⟨v,hv,rfl⟩:=List.mem_map.1 hx;exact numB_sz v (hb v hv).1 (hb v hv).2
 have hml:(vs.map numB).length=vs.length:=List.length_map ..
 induction d with
 |zero=>
  intro i hd k hk;obtain⟨k,rfl,hk⟩:=fuel hk;have hc:=cat_sz _ hm;have hbz:=bar_sz (vs.map numB) f2 (by omega) hm;have hbr:impl_barred.f (vs.map numB) f2=some (bar (vs.map numB) f2):=by
   unfold impl_barred.f bar;rw[if_pos (by omega),if_pos (by omega),Int.toNat_natCast]
  rw[impl_FormatFact.l0,if_neg (by omega),if_pos ha,if_pos ha',h2,List.take_of_length_le (by omega),hbr,Option.bind_some,if_pos (by omega)]
 |succ d ih=>
  intro i hd k hk;obtain⟨k,rfl,hk⟩:=fuel hk;have hv:=hb vs[i] (List.getElem_mem _);have hr:rd vs (i:Int)=vs[i] :=by unfold rd;rw[Int.toNat_natCast,getD_lt _ _ i (by omega)]
  have hfi:impl_FormatInt.f vs[i] =some (numB vs[i]):=fiI _ hv.1 hv.2;rw[impl_FormatFact.l0,if_pos (by omega),if_pos (by omega),if_pos (by omega),hr,hfi,Option.bind_some,if_pos (by rw[List.length_map,List.length_take];omega),show wrap64 ((i:Int)+1)=((i+1:Nat):Int) by rw[w64 (by omega) (by omega)];omega,show(vs.take i).map numB++ [numB vs[i]] =(vs.take (i+1)).map numB by rw[List.take_succ_eq_append_getElem (by omega),List.map_append];rfl];exact ih (i+1) (by omega) k (by omega)
theorem ba_app (s:ByteArray) (l m:List UInt8):s++(⟨(l++m).toArray⟩:ByteArray)=(s++(⟨l.toArray⟩:ByteArray))++(⟨m.toArray⟩:ByteArray):=by
 apply ByteArray.ext;apply Array.ext';simp[ByteArray.data_append]
theorem ba_num (s x:ByteArray) (l:List UInt8):s++(⟨(x.toList++l).toArray⟩:ByteArray)=(s++x)++(⟨l.toArray⟩:ByteArray):=by
 rw[ba_app,tl_eq]
theorem ffs_past (f2:Nat): ∀(vs:List Int) (i:Nat) (s:ByteArray),f2<i→ffs f2 i vs s=s++(⟨(Shelf.cat_ (vs.map numB)).toArray⟩:ByteArray)
 | [],i,s,_=>by
  rw[ffs,List.map_nil,Shelf.cat_];apply ByteArray.ext;apply Array.ext';simp[ByteArray.data_append]
 |v::vs,i,s,h=>by rw[ffs,if_neg (by omega),ffs_past f2 vs (i+1) _ (by omega),List.map_cons,Shelf.cat_,ba_num]
theorem ffs_bar: ∀(vs:List Int) (i f2:Nat) (s:ByteArray),i≤f2→ffs f2 i vs s=s++bar (vs.map numB) (f2-i)
 | [],i,f2,s,h=>by
  rw[ffs,List.map_nil];unfold bar;rw[if_neg (by simp),List.take_nil,Shelf.cat_];apply ByteArray.ext;apply Array.ext';simp[ByteArray.data_append]
 |v::vs,i,f2,s,h=>by
  rw[ffs]
  by_cases c:i=f2
  ·rw[if_pos c,ffs_past f2 vs (i+1) _ (by omega),show f2-i=0 by omega];unfold bar;rw[if_pos (by simp),List.take_zero,List.drop_zero,List.map_cons,Shelf.cat_,Shelf.cat_,tl_eq];apply ByteArray.ext;apply Array.ext';simp[ByteArray.data_append]
  ·rw[if_neg c,ffs_bar vs (i+1) f2 _ (by omega),show f2-i=(f2-(i+1))+1 by omega];unfold bar;rw[List.map_cons,List.take_succ_cons,List.drop_succ_cons,List.length_cons,Shelf.cat_,tl_eq]
   by_cases q:((f2-(i+1):Nat):Int)<((vs.map numB).length:Int)
   ·rw[if_pos q,if_pos (by push_cast;omega)];apply ByteArray.ext;apply Array.ext';simp[ByteArray.data_append]
   ·rw[if_neg q,if_neg (by push_cast;omega)];apply ByteArray.ext;apply Array.ext';simp[ByteArray.data_append]
def ascFrom (xs:List Int) (n:Int):Nat→Nat→Bool
 |0,_=>true
 |d+1,i=>decide (0≤xs.getD i 0∧xs.getD i 0≤n-1)&&(decide (i=0)||decide (xs.getD (i-1) 0<xs.getD i 0))&&ascFrom xs n d (i+1)
def asc (xs:List Int) (n:Int):Bool:=ascFrom xs n xs.length 0
def sel (fs:List S47) (xs:List Int):List S47:=xs.map fun i=>fs.getD i.toNat z47
theorem rdD (xs:List Int) (i:Nat):rd xs (i:Int)=xs.getD i 0:=by unfold rd;rw[Int.toNat_natCast]
theorem ascFrom_at (xs:List Int) (n:Int): ∀(d i:Nat),ascFrom xs n d i=true→ ∀j,i≤j→j<i+d→(0≤xs.getD j 0∧xs.getD j 0≤n-1)∧(j=0∨xs.getD (j-1) 0<xs.getD j 0)
 |0,i,_,j,h1,h2=>by omega
 |d+1,i,h,j,h1,h2=>by
  rw[ascFrom,Bool.and_eq_true,Bool.and_eq_true,Bool.or_eq_true,decide_eq_true_iff,decide_eq_true_iff,decide_eq_true_iff] at h
  by_cases hj:j=i
  ·subst hj;exact h.1
  ·exact ascFrom_at xs n d (i+1) h.2 j (by omega) (by omega)
theorem asc_at (xs:List Int) (n:Int) (h:asc xs n=true) (j:Nat) (hj:j<xs.length):(0≤xs.getD j 0∧xs.getD j 0≤n-1)∧(j=0∨xs.getD (j-1) 0<xs.getD j 0):=
 ascFrom_at xs n xs.length 0 h j (by omega) (by omega)
theorem sel_len (fs:List S47) (xs:List Int):(sel fs xs).length=xs.length:=by unfold sel;simp
theorem ascSl (l:List S42) (fs:List S47) (hf:fs.length≤1048576) (xs:List Int) (hx:xs.length≤1048576) (d:Nat): ∀(i:Nat),i+d=xs.length→ ∀k,d<k→spec_l4Set.l0 k xs i l fs=some (ascFrom xs fs.length d i):=by
 induction d with
 |zero=>
  intro i hd k hk;obtain⟨k,rfl,hk⟩:=fuel hk;rw[spec_l4Set.l0,if_neg (by omega),ascFrom]
 |succ d ih=>
  intro i hd k hk;obtain⟨k,rfl,hk⟩:=fuel hk;have e1:wrap64 ((i:Int)+1)=((i+1:Nat):Int):=by rw[w64 (by omega) (by omega)];omega
  rw[spec_l4Set.l0,if_pos (by omega),if_pos (by omega),in1,Option.bind_some,w64 (by omega) (by omega),rdD,ascFrom,e1]
  by_cases h:0≤xs.getD i 0∧xs.getD i 0≤(fs.length:Int)-1
  ·rw[decide_eq_true h,if_pos rfl]
   by_cases hi:i=0
   ·rw[if_neg (by omega),ih (i+1) (by omega) k (by omega),decide_eq_true hi];simp
   ·rw[if_pos (by omega),show wrap64 ((i:Int)-1)=((i-1:Nat):Int) by rw[w64 (by omega) (by omega)];omega,if_pos (by omega),if_pos (by omega),rdD,decide_eq_false hi]
    by_cases hc:xs.getD (i-1) 0<xs.getD i 0
    ·rw[if_neg (by omega),ih (i+1) (by omega) k (by omega),decide_eq_true hc];simp
    ·rw[if_pos (by omega),decide_eq_false hc];simp
  ·rw[decide_eq_false h,if_neg (by decide)];simp
theorem ascS (l:List S42) (fs:List S47) (hf:fs.length≤1048576) (xs:List Int) (hx:xs.length≤1048576) (k:Nat) (hk:xs.length<k):spec_l4Set.f k l fs xs=some (asc xs fs.length):=by
 unfold spec_l4Set.f asc;exact ascSl l fs hf xs hx xs.length 0 (by omega) k hk
def fTx (l:List S42) (a:Int) (vs:List Int):ByteArray:=if vFact l a vs=true then(rd_T42 l a).f0++bar (vs.map numB) (rd_T42 l a).f2.toNat else(⟨#[]⟩:ByteArray)
theorem fTx_sz (l:List S42) (a:Int) (vs:List Int) (hb: ∀v∈vs,-9223372036854775808≤v∧v≤9223372036854775807):(fTx l a vs).size≤1049576:=by
 unfold fTx
 by_cases h:vFact l a vs=true
 ·have hv:=h;unfold vFact at hv;rw[Bool.and_eq_true] at hv;obtain⟨h0,h1,h2,h3,h4,h5⟩:=key_ok l hv.1 a vs hv.2;have hsz:(rd_T42 l a).f0.size≤1048576:=vRel_sz _ (vRels_at l hv.1 a h0 h1);have hm: ∀x∈vs.map numB,x.size≤21:=by
   intro x hx;obtain⟨v,hv,rfl⟩:=List.mem_map.1 hx;exact numB_sz v (hb v hv).1 (hb v hv).2
  have hbz:=bar_sz (vs.map numB) (rd_T42 l a).f2.toNat (by rw[List.length_map];exact h5) hm;rw[if_pos h,ByteArray.size_append];omega
 ·rw[if_neg h];exact Nat.zero_le _
theorem ffB2 (l:List S42) (hl:l.length≤1048576) (a:Int) (vs:List Int) (hs:vs.length≤1048576) (hb: ∀v∈vs,-9223372036854775808≤v∧v≤9223372036854775807) (k:Nat) (hk:2000000<k):spec_FormatFact.f k l a vs=some (fTx l a vs)∧impl_FormatFact.f k l a vs=some (fTx l a vs):=by
 unfold spec_FormatFact.f impl_FormatFact.f fTx;rw[vFS l hl a vs hs k (by omega),vFI l hl a vs,Option.bind_some,Option.bind_some]
 by_cases h:vFact l a vs=true
 ·have hv:=h;unfold vFact at hv;rw[Bool.and_eq_true] at hv;obtain⟨h0,h1,h2,h3,h4,h5⟩:=key_ok l hv.1 a vs hv.2;have hn:=vRels_at l hv.1 a h0 h1;have hsz:(rd_T42 l a).f0.size≤1048576:=vRel_sz _ hn;rw[if_pos h,if_pos h,if_pos h0,if_pos h1,if_pos h];have e1:=ffSl l a h0 h1 (rd_T42 l a).f2.toNat (by omega) vs h5 hb vs.length 0 (rd_T42 l a).f0 (by omega) (by omega) k (by omega);have e2:=ffIl l a h0 h1 (rd_T42 l a).f2.toNat (by omega) vs h5 (by omega) hsz hb vs.length 0 (by omega) k (by omega);rw[List.drop_zero,ffs_bar vs 0 _ _ (by omega),Nat.sub_zero] at e1;exact⟨e1,e2⟩
 ·rw[if_neg h,if_neg h,if_neg h];exact⟨rfl,rfl⟩
def spj (b:ByteArray):Nat→List ByteArray→ByteArray→ByteArray
 |_,[],s=>s
 |i,x::xs,s=>spj b (i+1) xs ((if 0<i then s++b else s)++x)
theorem spj_tail (b:ByteArray): ∀(xs:List ByteArray) (i:Nat) (s:ByteArray),0<i→spj b i xs s=s++(⟨(Lib.joinTail b.data.toList (xs.map fun x=>x.data.toList)).toArray⟩:ByteArray)
 | [],i,s,_=>by
  rw[spj];apply ByteArray.ext;apply Array.ext';simp[ByteArray.data_append,Lib.joinTail]
 |x::xs,i,s,h=>by
  rw[spj,if_pos h,spj_tail b xs (i+1) _ (by omega)];apply ByteArray.ext;apply Array.ext';simp[ByteArray.data_append,Lib.joinTail]
theorem spj_join (b:ByteArray): ∀(xs:List ByteArray),spj b 0 xs (⟨#[]⟩:ByteArray)=(⟨(Shelf.jn_ xs b).toArray⟩:ByteArray)
 | [] =>by
  rw[spj];unfold Shelf.jn_;rw[List.map_nil,Lib.join_nil]
 |x::xs=>by
  rw[spj,if_neg (by omega),spj_tail b xs 1 _ (by omega)];unfold Shelf.jn_;rw[List.map_cons,Lib.join_cons];apply ByteArray.ext;apply Array.ext';simp[ByteArray.data_append]
theorem spj_sz (b:ByteArray) (B:Nat) (hB:b.size≤1): ∀(xs:List ByteArray) (i:Nat) (s:ByteArray),(∀x∈xs,x.size≤B)→(spj b i xs s).size≤s.size+xs.length*(B+1)
 | [],i,s,_=>by rw[spj];simp
 |x::xs,i,s,h=>by
  have h1:=spj_sz b B hB xs (i+1) ((if 0<i then s++b else s)++x) fun y hy=>h y (List.mem_cons_of_mem _ hy);have h2:=h x (List.mem_cons_self ..);rw[spj];have h3:(if 0<i then s++b else s).size≤s.size+1:=by
   split
   ·rw[ByteArray.size_append];omega
   ·omega
  rw[ByteArray.size_append] at h1;rw[List.length_cons,Nat.succ_mul];omega
def fTxs (l:List S42) (ys:List S47):List ByteArray:=ys.map fun y=>fTx l y.f0 y.f1
theorem faIl (l:List S42) (hl:l.length≤1048576) (ys:List S47) (hn:ys.length≤14) (hg: ∀y∈ys,y.f1.length≤1048576) (hb: ∀y∈ys,∀v∈y.f1,-9223372036854775808≤v∧v≤9223372036854775807) (d:Nat): ∀(i:Nat),i+d=ys.length→ ∀k,2000100+d<k→impl_formatAll.l0 k (fTxs l (ys.take i)) ys ys.length i l ys=some (⟨(Shelf.jn_ (fTxs l ys) (⟨#[32]⟩:ByteArray)).toArray⟩:ByteArray):=by
 have hz: ∀x∈fTxs l ys,x.size≤1049576:=by
  intro x hx;obtain⟨y,hy,rfl⟩:=List.mem_map.1 hx;exact fTx_sz l y.f0 y.f1 (hb y hy)
 have hq:=spj_sz (⟨#[32]⟩:ByteArray) 1049576 (by decide) (fTxs l ys) 0 (⟨#[]⟩:ByteArray) hz;have hlen:(fTxs l ys).length=ys.length:=by unfold fTxs;simp
 rw[spj_join,sz_mk,hlen,show(⟨#[]⟩:ByteArray).size=0 from rfl] at hq;have hq':(Shelf.jn_ (fTxs l ys) (⟨#[32]⟩:ByteArray)).length≤1000000000:=by omega
 induction d with
 |zero=>
  intro i hd k hk;obtain⟨k,rfl,hk⟩:=fuel hk;rw[impl_formatAll.l0,if_neg (by omega),List.take_of_length_le (by omega)];unfold strings_Join.f;rw[if_pos ⟨by omega,hq'⟩,Option.bind_some]
 |succ d ih=>
  intro i hd k hk;obtain⟨k,rfl,hk⟩:=fuel hk;have hm:=getD_mem ys z47 i (by omega);rw[impl_formatAll.l0,if_pos (by omega),if_pos (by omega),if_pos (by omega)];unfold rd_T47;rw[Int.toNat_natCast,(ffB2 l hl _ _ (hg _ hm) (hb _ hm) k (by omega)).2,Option.bind_some,if_pos (by unfold fTxs;rw[List.length_map,List.length_take];omega),show wrap64 ((i:Int)+1)=((i+1:Nat):Int) by rw[w64 (by omega) (by omega)];omega];rw[show fTxs l (ys.take i)++ [fTx l (ys.getD i z47).f0 (ys.getD i z47).f1] =fTxs l (ys.take (i+1)) by unfold fTxs;rw[List.take_succ_eq_append_getElem (by omega),List.map_append,getD_lt ys _ i (by omega)];rfl];exact ih (i+1) (by omega) k (by omega)
theorem faI (l:List S42) (hl:l.length≤1048576) (ys:List S47) (hn:ys.length≤14) (hg: ∀y∈ys,y.f1.length≤1048576) (hb: ∀y∈ys,∀v∈y.f1,-9223372036854775808≤v∧v≤9223372036854775807) (k:Nat) (hk:2000200<k):impl_formatAll.f k l ys=some (⟨(Shelf.jn_ (fTxs l ys) (⟨#[32]⟩:ByteArray)).toArray⟩:ByteArray):=by
 unfold impl_formatAll.f;exact faIl l hl ys hn hg hb ys.length 0 (by omega) k (by omega)
theorem ffsSl (l:List S42) (hl:l.length≤1048576) (fs:List S47) (hf:fs.length≤1048576) (hg: ∀y∈fs,y.f1.length≤1048576) (hb: ∀y∈fs,∀v∈y.f1,-9223372036854775808≤v∧v≤9223372036854775807) (xs:List Int) (hx:xs.length≤14) (hv:vDb l fs=true) (ha:asc xs fs.length=true) (d:Nat): ∀(i:Nat) (s:ByteArray),i+d=xs.length→s.size+2000000*d≤1000000000→ ∀k,7000000+2*d<k→spec_FormatFacts.l0 k xs s i l fs=some (spj (⟨#[32]⟩:ByteArray) i ((fTxs l (sel fs xs)).drop i) s):=by
 have hlen:(fTxs l (sel fs xs)).length=xs.length:=by unfold fTxs sel;simp
 induction d with
 |zero=>
  intro i s hd _ k hk;obtain⟨k,rfl,hk⟩:=fuel hk;obtain⟨k,rfl⟩: ∃z,k=z+1:=⟨k-1,by omega⟩;rw[spec_FormatFacts.l0,if_neg (by omega),spec_FormatFacts.j1,if_neg (by decide),List.drop_eq_nil_of_le (by omega),spj]
 |succ d ih=>
  intro i s hd hs k hk;obtain⟨k,rfl,hk⟩:=fuel hk;obtain⟨k,rfl⟩: ∃z,k=z+1:=⟨k-1,by omega⟩;have hi:=(asc_at xs fs.length ha i (by omega)).1;have hm:=getD_mem fs z47 (xs.getD i 0).toNat (by omega);have hz:=fTx_sz l (fs.getD (xs.getD i 0).toNat z47).f0 (fs.getD (xs.getD i 0).toNat z47).f1 (hb _ hm);have l1:(⟨#[32]⟩:ByteArray).size=1:=rfl;have he:(fTxs l (sel fs xs)).drop i=fTx l (fs.getD (xs.getD i 0).toNat z47).f0 (fs.getD (xs.getD i 0).toNat z47).f1::(fTxs l (sel fs xs)).drop (i+1):=by
   rw[List.drop_eq_getElem_cons (by omega)]
   congr 1
   unfold fTxs sel;rw[List.getElem_map,List.getElem_map,getD_lt xs 0 i (by omega)]
  rw[spec_FormatFacts.l0,if_pos (by omega),vDS l hl fs hf hg _ (by omega),Option.bind_some,if_pos hv,ascS l fs hf xs (by omega) _ (by omega),Option.bind_some,ha,spec_FormatFacts.j1,if_pos rfl,he,spj,rdD,show wrap64 ((i:Int)+1)=((i+1:Nat):Int) by rw[w64 (by omega) (by omega)];omega];unfold rd_T47;rw[(ffB2 l hl _ _ (hg _ hm) (hb _ hm) k (by omega)).1];simp only[Option.bind_some]
  by_cases h0:i=0
  ·rw[if_neg (by omega),if_pos (by omega),if_pos (by omega),if_pos (by omega),if_pos (by omega),if_pos (by omega),if_neg (by omega)];exact ih (i+1) _ (by omega) (by rw[ByteArray.size_append];omega) k (by omega)
  ·rw[if_pos (by omega),if_pos (by omega),if_pos (by omega),if_pos (by omega),if_pos (by omega),if_pos (by omega),if_pos (by rw[ByteArray.size_append];omega),if_pos (by omega)];exact ih (i+1) _ (by omega) (by rw[ByteArray.size_append,ByteArray.size_append];omega) k (by omega)
theorem vDb_14 (l:List S42) (fs:List S47) (h:vDb l fs=true):fs.length≤14:=by
 unfold vDb at h;rw[Bool.and_eq_true,Bool.and_eq_true] at h;exact of_decide_eq_true h.1.2
def rTx (r:S42):ByteArray:=if vRel r=true then((r.f0++numB r.f2)++(⟨#[47]⟩:ByteArray))++numB r.f1 else(⟨#[]⟩:ByteArray)
def okN (v:Int):Prop:= -9223372036854775808≤v∧v≤9223372036854775807
theorem rTx_sz (r:S42) (h1:okN r.f1) (h2:okN r.f2):(rTx r).size≤50:=by
 unfold rTx
 by_cases h:vRel r=true
 ·have hs:=h;unfold vRel at hs;rw[Bool.and_eq_true,Bool.and_eq_true,decide_eq_true_iff] at hs;have:=hs.1.1.1;have l1:(⟨#[47]⟩:ByteArray).size=1:=rfl;have a:=numB_sz r.f1 h1.1 h1.2;have b:=numB_sz r.f2 h2.1 h2.2;rw[if_pos h,ByteArray.size_append,ByteArray.size_append,ByteArray.size_append];omega
 ·rw[if_neg h];exact Nat.zero_le _
theorem frB2 (r:S42) (h1:okN r.f1) (h2:okN r.f2) (k:Nat) (hk:30<k):spec_FormatRelation.f k r.f0 r.f1 r.f2=some (rTx r)∧impl_FormatRelation.f r.f0 r.f1 r.f2=some (rTx r):=by
 unfold spec_FormatRelation.f impl_FormatRelation.f rTx;rw[vRelS,vRelI,Option.bind_some,Option.bind_some]
 by_cases h:vRel r=true
 ·have hs:=h;unfold vRel at hs;rw[Bool.and_eq_true,Bool.and_eq_true,decide_eq_true_iff] at hs;have:=hs.1.1.1;have l1:(⟨#[47]⟩:ByteArray).size=1:=rfl;have a:=numB_sz r.f1 h1.1 h1.2;have b:=numB_sz r.f2 h2.1 h2.2;have e1:spec_FormatInt.f k r.f2=some (numB r.f2):=fiS _ h2.1 h2.2 k (by omega);have e2:spec_FormatInt.f k r.f1=some (numB r.f1):=fiS _ h1.1 h1.2 k (by omega);have e3:impl_FormatInt.f r.f2=some (numB r.f2):=fiI _ h2.1 h2.2;have e4:impl_FormatInt.f r.f1=some (numB r.f1):=fiI _ h1.1 h1.2;rw[if_pos h,if_pos h,if_pos h,e1,e2,e3,e4];simp only[Option.bind_some];rw[if_pos (by omega),if_pos (by rw[ByteArray.size_append];omega),if_pos (by rw[ByteArray.size_append,ByteArray.size_append];omega)];exact⟨rfl,rfl⟩
 ·rw[if_neg h,if_neg h,if_neg h];exact⟨rfl,rfl⟩
def rng (n:Nat):List Int:=(List.range n).map fun(i:Nat)=>(i:Int)
theorem rng_len (n:Nat):(rng n).length=n:=by unfold rng;simp
theorem rng_at (n j:Nat) (h:j<n):(rng n).getD j 0=(j:Int):=by
 rw[getD_lt _ _ j (by rw[rng_len];exact h)];unfold rng;rw[List.getElem_map,List.getElem_range]
theorem rng_asc (n:Nat):asc (rng n) n=true:=by
 have go: ∀(d i:Nat),i+d=n→ascFrom (rng n) n d i=true:=by
  intro d
  induction d with
  |zero=>intro i _;rfl
  |succ d ih=>
   intro i hd;rw[ascFrom,ih (i+1) (by omega),rng_at n i (by omega),Bool.and_true,Bool.and_eq_true,Bool.or_eq_true,decide_eq_true_iff,decide_eq_true_iff,decide_eq_true_iff];refine⟨by omega,?_⟩
   by_cases h:i=0
   ·exact .inl h
   ·right
    rw[rng_at n (i-1) (by omega)];omega
 have:=go n 0 (by omega);unfold asc;rw[rng_len];exact this
theorem rng_sel (fs:List S47):sel fs (rng fs.length)=fs:=by
 apply List.ext_getElem
 ·rw[sel_len,rng_len]
 ·intro i h1 h2;simp only[sel,rng,List.getElem_map,List.getElem_range,Int.toNat_natCast];exact getD_lt fs _ i h2
theorem rng_succ (n:Nat):rng n++ [(n:Int)] =rng (n+1):=by
 unfold rng;rw[List.range_succ,List.map_append];rfl
theorem l6l (l:List S42) (fs:List S47) (hf:fs.length≤1048576) (d:Nat): ∀(i:Nat),i+d=fs.length→ ∀k,d<k→spec_l6All.l0 k (rng i) l fs=some (rng fs.length):=by
 induction d with
 |zero=>
  intro i hd k hk;obtain⟨k,rfl,hk⟩:=fuel hk;rw[spec_l6All.l0,rng_len,if_neg (by omega),show i=fs.length by omega]
 |succ d ih=>
  intro i hd k hk;obtain⟨k,rfl,hk⟩:=fuel hk;rw[spec_l6All.l0,rng_len,if_pos (by omega),if_pos (by omega),rng_succ];exact ih (i+1) (by omega) k (by omega)
theorem l6 (l:List S42) (fs:List S47) (hf:fs.length≤1048576) (k:Nat) (hk:fs.length<k):spec_l6All.f k l fs=some (rng fs.length):=by
 unfold spec_l6All.f;exact l6l l fs hf fs.length 0 (by omega) k hk
def rTxs (l:List S42):List ByteArray:=l.map rTx
def dTx (l:List S42) (fs:List S47):ByteArray:=(spj (⟨#[32]⟩:ByteArray) 0 (rTxs l) (⟨#[]⟩:ByteArray)++(⟨#[58]⟩:ByteArray))++spj (⟨#[32]⟩:ByteArray) 0 (fTxs l fs) (⟨#[]⟩:ByteArray)
theorem fdSl (l:List S42) (hl:l.length≤1048576) (hr: ∀y∈l,okN y.f1∧okN y.f2) (fs:List S47) (hf:fs.length≤1048576) (hg: ∀y∈fs,y.f1.length≤1048576) (hb: ∀y∈fs,∀v∈y.f1,-9223372036854775808≤v∧v≤9223372036854775807) (hv:vDb l fs=true) (d:Nat): ∀(i:Nat) (s:ByteArray),i+d=l.length→s.size+60*d≤1000000000→ ∀k,8000000+d<k→spec_FormatDatabase.l0 k s i l fs=some ((spj (⟨#[32]⟩:ByteArray) i ((rTxs l).drop i) s++(⟨#[58]⟩:ByteArray))++spj (⟨#[32]⟩:ByteArray) 0 (fTxs l fs) (⟨#[]⟩:ByteArray)):=by
 have hlen:(rTxs l).length=l.length:=by unfold rTxs;simp
 have h14:=vDb_14 l fs hv;have hz: ∀x∈fTxs l fs,x.size≤1049576:=by
  intro x hx;obtain⟨y,hy,rfl⟩:=List.mem_map.1 hx;exact fTx_sz l y.f0 y.f1 (hb y hy)
 have hq:=spj_sz (⟨#[32]⟩:ByteArray) 1049576 (by decide) (fTxs l fs) 0 (⟨#[]⟩:ByteArray) hz;have hlf:(fTxs l fs).length=fs.length:=by unfold fTxs;simp
 rw[hlf,show(⟨#[]⟩:ByteArray).size=0 from rfl] at hq;have l1:(⟨#[58]⟩:ByteArray).size=1:=rfl;have l2:(⟨#[32]⟩:ByteArray).size=1:=rfl
 induction d with
 |zero=>
  intro i s hd hs k hk;obtain⟨k,rfl,hk⟩:=fuel hk;have e1:=ffsSl l hl fs hf hg hb (rng fs.length) (by rw[rng_len];exact h14) hv (rng_asc _) (rng fs.length).length 0 (⟨#[]⟩:ByteArray) (by omega) (by rw[rng_len,show(⟨#[]⟩:ByteArray).size=0 from rfl];omega) k (by rw[rng_len];omega);rw[rng_sel,List.drop_zero] at e1;rw[spec_FormatDatabase.l0,if_neg (by omega),if_pos (by omega),l6 l fs hf k (by omega),Option.bind_some,show spec_FormatFacts.f k l fs (rng fs.length)=_ from e1,Option.bind_some,if_pos (by rw[ByteArray.size_append];omega),List.drop_eq_nil_of_le (by omega),spj]
 |succ d ih=>
  intro i s hd hs k hk;obtain⟨k,rfl,hk⟩:=fuel hk;have hm:=getD_mem l z42 i (by omega);have hz:=rTx_sz _ (hr _ hm).1 (hr _ hm).2;have he:(rTxs l).drop i=rTx (l.getD i z42)::(rTxs l).drop (i+1):=by
   rw[List.drop_eq_getElem_cons (by omega)]
   congr 1
   unfold rTxs;rw[List.getElem_map,getD_lt l _ i (by omega)]
  rw[spec_FormatDatabase.l0,if_pos (by omega),he,spj,show wrap64 ((i:Int)+1)=((i+1:Nat):Int) by rw[w64 (by omega) (by omega)];omega];unfold rd_T42;rw[Int.toNat_natCast,(frB2 _ (hr _ hm).1 (hr _ hm).2 k (by omega)).1];simp only[Option.bind_some]
  by_cases h0:i=0
  ·rw[if_neg (by omega),if_pos (by omega),if_pos (by omega),if_neg (by omega)];exact ih (i+1) _ (by omega) (by rw[ByteArray.size_append];omega) k (by omega)
  ·rw[if_pos (by omega),if_pos (by omega),if_pos (by omega),if_pos (by rw[ByteArray.size_append];omega),if_pos (by omega)];exact ih (i+1) _ (by omega) (by rw[ByteArray.size_append,ByteArray.size_append];omega) k (by omega)
theorem fdIl (l:List S42) (hl:l.length≤1048576) (hr: ∀y∈l,okN y.f1∧okN y.f2) (fs:List S47) (hf:fs.length≤1048576) (hg: ∀y∈fs,y.f1.length≤1048576) (hb: ∀y∈fs,∀v∈y.f1,-9223372036854775808≤v∧v≤9223372036854775807) (hv:vDb l fs=true) (d:Nat): ∀(i:Nat),i+d=l.length→ ∀k,8000000+d<k→impl_FormatDatabase.l0 k (rTxs (l.take i)) l l.length i l fs=some (dTx l fs):=by
 have hlen:(rTxs l).length=l.length:=by unfold rTxs;simp
 have h14:=vDb_14 l fs hv;have hz: ∀x∈fTxs l fs,x.size≤1049576:=by
  intro x hx;obtain⟨y,hy,rfl⟩:=List.mem_map.1 hx;exact fTx_sz l y.f0 y.f1 (hb y hy)
 have hzr: ∀x∈rTxs l,x.size≤50:=by
  intro x hx;obtain⟨y,hy,rfl⟩:=List.mem_map.1 hx;exact rTx_sz y (hr y hy).1 (hr y hy).2
 have hq:=spj_sz (⟨#[32]⟩:ByteArray) 1049576 (by decide) (fTxs l fs) 0 (⟨#[]⟩:ByteArray) hz;have hqr:=spj_sz (⟨#[32]⟩:ByteArray) 50 (by decide) (rTxs l) 0 (⟨#[]⟩:ByteArray) hzr;have hlf:(fTxs l fs).length=fs.length:=by unfold fTxs;simp
 rw[hlf,show(⟨#[]⟩:ByteArray).size=0 from rfl] at hq;rw[hlen,show(⟨#[]⟩:ByteArray).size=0 from rfl] at hqr;have l1:(⟨#[58]⟩:ByteArray).size=1:=rfl;have hjr:(Shelf.jn_ (rTxs l) (⟨#[32]⟩:ByteArray)).length≤1000000000:=by
  rw[spj_join,sz_mk] at hqr;omega
 induction d with
 |zero=>
  intro i hd k hk;obtain⟨k,rfl,hk⟩:=fuel hk;rw[impl_FormatDatabase.l0,if_neg (by omega),List.take_of_length_le (by omega)];unfold strings_Join.f;rw[if_pos ⟨by omega,hjr⟩,Option.bind_some,faI l hl fs h14 hg hb k (by omega),←spj_join,←spj_join,Option.bind_some,if_pos (by omega),if_pos (by rw[ByteArray.size_append];omega)];rfl
 |succ d ih=>
  intro i hd k hk;obtain⟨k,rfl,hk⟩:=fuel hk;have hm:=getD_mem l z42 i (by omega);rw[impl_FormatDatabase.l0,if_pos (by omega),if_pos (by omega),if_pos (by omega)];unfold rd_T42;rw[Int.toNat_natCast,(frB2 _ (hr _ hm).1 (hr _ hm).2 31 (by omega)).2,Option.bind_some,if_pos (by unfold rTxs;rw[List.length_map,List.length_take];omega),show wrap64 ((i:Int)+1)=((i+1:Nat):Int) by rw[w64 (by omega) (by omega)];omega];rw[show rTxs (l.take i)++ [rTx (l.getD i z42)] =rTxs (l.take (i+1)) by unfold rTxs;rw[List.take_succ_eq_append_getElem (by omega),List.map_append,getD_lt l _ i (by omega)];rfl];exact ih (i+1) (by omega) k (by omega)
theorem relIdxSl (l:List S42) (nm:ByteArray) (hl:l.length≤1048576) (d:Nat): ∀(i:Nat),i+d=l.length→ ∀k,d<k→spec_RelationIndex.l0 k l nm i=some (idxW (nameIs nm) (l.drop i) i):=by
 induction d with
 |zero=>
  intro i hd k hk;obtain⟨k,rfl,hk⟩:=fuel hk;rw[spec_RelationIndex.l0,if_neg (by omega),List.drop_of_length_le (by omega)];rfl
 |succ d ih=>
  intro i hd k hk;obtain⟨k,rfl,hk⟩:=fuel hk;have e1:wrap64 ((i:Int)+1)=((i+1:Nat):Int):=by rw[w64 (by omega) (by omega)];omega
  have e2:rd_T42 l (i:Int)=l[i] :=by unfold rd_T42;rw[Int.toNat_natCast,getD_lt l _ i (by omega)]
  rw[spec_RelationIndex.l0,if_pos (by omega),if_pos (by omega),e2,e1,List.drop_eq_getElem_cons (by omega)];simp only[idxW,nameIs,beq_iff_eq]
  by_cases h:l[i].f0.toList=nm.toList
  ·rw[if_pos h,if_pos h]
  ·rw[if_neg h,if_neg h,ih (i+1) (by omega) k (by omega)];rfl
theorem relIdxS (l:List S42) (nm:ByteArray) (hl:l.length≤1048576) (k:Nat) (hk:l.length<k):spec_RelationIndex.f k l nm=some (idxW (nameIs nm) l 0):=
 relIdxSl l nm hl l.length 0 (by omega) k hk
theorem numB_dig (d:Nat) (h:d<10):numB (d:Int)=(⟨#[UInt8.ofNat (48+d)]⟩:ByteArray):=by
 unfold numB Lib.itoa;rw[if_neg (by omega),Int.toNat_natCast,Lib.decDigits,dif_pos h]
theorem one_byte (s:ByteArray) (h:s.size=1): ∃c,s=(⟨#[c]⟩:ByteArray):=by
 obtain⟨⟨l⟩⟩:=s;have h':l.length=1:=h
 match l,h' with
 | [c],_=>exact⟨c,rfl⟩
theorem vRel_shape (r:S42) (h:vRel r=true): ∃(c:UInt8) (d1 d2:Nat),d1<10∧d2<10∧r=(⟨(⟨#[c]⟩:ByteArray),(d1:Int),(d2:Int)⟩:S42):=by
 unfold vRel at h;rw[Bool.and_eq_true,Bool.and_eq_true,decide_eq_true_iff] at h;unfold inB at h;rw[decide_eq_true_iff,decide_eq_true_iff] at h;obtain⟨n,a,b⟩:=r;dsimp only at h;obtain⟨⟨⟨h0,_⟩,h1⟩,h2⟩:=h;obtain⟨c,rfl⟩:=one_byte n (by omega);refine⟨c,a.toNat,b.toNat,by omega,by omega,?_⟩;rw[Int.toNat_of_nonneg (by omega),Int.toNat_of_nonneg (by omega)]
theorem rTx4 (c:UInt8) (d1 d2:Nat) (h1:d1<10) (h2:d2<10) (hv:vRel (⟨(⟨#[c]⟩:ByteArray),(d1:Int),(d2:Int)⟩:S42)=true):rTx (⟨(⟨#[c]⟩:ByteArray),(d1:Int),(d2:Int)⟩:S42)=(⟨#[c,UInt8.ofNat (48+d2),47,UInt8.ofNat (48+d1)]⟩:ByteArray):=by
 unfold rTx;rw[if_pos hv,numB_dig d1 h1,numB_dig d2 h2];rfl
theorem bt4 (c a b e:UInt8):bt (⟨#[c,a,b,e]⟩:ByteArray) 3=(e.toNat:Int)∧bt (⟨#[c,a,b,e]⟩:ByteArray) 1=(a.toNat:Int):=⟨rfl,rfl⟩
theorem prT (r:S42) (h:vRel r=true):impl_ParseRelation.f (rTx r)=some (r.f0,r.f1,r.f2,true):=by
 obtain⟨c,d1,d2,h1,h2,rfl⟩:=vRel_shape r h;have e:=rTx4 c d1 d2 h1 h2 h;have u1:(UInt8.ofNat (48+d1)).toNat=48+d1:=by rw[UInt8.toNat_ofNat'];omega
 have u2:(UInt8.ofNat (48+d2)).toNat=48+d2:=by rw[UInt8.toNat_ofNat'];omega
 obtain⟨b3,b1⟩:=bt4 c (UInt8.ofNat (48+d2)) 47 (UInt8.ofNat (48+d1));have w1:wrap64 ((wrap64 (((UInt8.ofNat (48+d1)).toNat:Nat):Int))-48)=(d1:Int):=by rw[u1,w64 (n:=((48+d1:Nat):Int)) (by omega) (by omega),w64 (by omega) (by omega)];omega
 have w2:wrap64 ((wrap64 (((UInt8.ofNat (48+d2)).toNat:Nat):Int))-48)=(d2:Int):=by rw[u2,w64 (n:=((48+d2:Nat):Int)) (by omega) (by omega),w64 (by omega) (by omega)];omega
 have f:=(frB2 (⟨(⟨#[c]⟩:ByteArray),(d1:Int),(d2:Int)⟩:S42) (show okN (d1:Int) from⟨by omega,by omega⟩) (show okN (d2:Int) from⟨by omega,by omega⟩) 31 (by omega)).2;have x0:(⟨#[c,UInt8.ofNat (48+d2),47,UInt8.ofNat (48+d1)]⟩:ByteArray).extract 0 1=(⟨#[c]⟩:ByteArray):=by
  apply ByteArray.ext;rfl
 have sz:(⟨#[c,UInt8.ofNat (48+d2),47,UInt8.ofNat (48+d1)]⟩:ByteArray).size=4:=rfl;rw[e] at f ⊢;unfold impl_ParseRelation.f;rw[b3,b1,w1,w2,x0,sz,if_pos (by decide),if_pos (by decide),if_pos (by decide),if_pos (by decide),if_pos (by decide)];rw[show impl_FormatRelation.f (⟨#[c]⟩:ByteArray) (d1:Int) (d2:Int)=_ from f,Option.bind_some,if_pos rfl]
theorem vRelsFrom_less (l:List S42): ∀(d i:Nat),vRelsFrom l d i=true→ ∀j,i≤j→j<i+d→j=0∨Op.bytesLess (l.getD (j-1) z42).f0.toList (l.getD j z42).f0.toList=true
 |0,i,_,j,h1,h2=>by omega
 |d+1,i,h,j,h1,h2=>by
  rw[vRelsFrom,Bool.and_eq_true,Bool.and_eq_true,Bool.or_eq_true,decide_eq_true_iff] at h
  by_cases hj:j=i
  ·subst hj;exact h.1.2
  ·exact vRelsFrom_less l d (i+1) h.2 j (by omega) (by omega)
theorem one_toList (c:UInt8):(⟨#[c]⟩:ByteArray).toList= [c] :=by rw[tl_eq]
theorem name_lt (l:List S42) (h:vRels l=true) (i:Nat) (hi:i<l.length): ∀j,j<i→bt (l.getD j z42).f0 0<bt (l.getD i z42).f0 0:=by
 induction i with
 |zero=>intro j hj;omega
 |succ i ih=>
  have v1:=vRelsFrom_at l l.length 0 h i (by omega) (by omega);have v2:=vRelsFrom_at l l.length 0 h (i+1) (by omega) (by omega);have hs:bt (l.getD i z42).f0 0<bt (l.getD (i+1) z42).f0 0:=by
   rcases vRelsFrom_less l l.length 0 h (i+1) (by omega) (by omega) with q|q
   ·omega
   ·rw[show i+1-1=i from rfl] at q;obtain⟨c1,_,_,_,_,e1⟩:=vRel_shape _ v1;obtain⟨c2,_,_,_,_,e2⟩:=vRel_shape _ v2;rw[e1,e2] at q ⊢;simp only[one_toList,Op.bytesLess,Bool.and_false,Bool.or_false,decide_eq_true_iff] at q
    show((c1.toNat:Nat):Int)<((c2.toNat:Nat):Int)
    have:=UInt8.lt_iff_toNat_lt.1 q;omega
  intro j hj
  by_cases c:j=i
  ·rw[c];exact hs
  ·have:=ih (by omega) j (by omega);omega
theorem idxOwn (l:List S42) (h:vRels l=true) (i:Nat) (hi:i<l.length):impl_RelationIndex.f l (rd_T42 l (i:Int)).f0=some (i:Int):=by
 unfold impl_RelationIndex.f rd_T42;rw[Int.toNat_natCast,idxW_hit (nameIs (l.getD i z42).f0) z42 l i 0 hi ?_ ?_]
 ·simp
 ·intro j hj;unfold nameIs;rw[Bool.eq_false_iff,ne_eq,beq_iff_eq,tl_inj];intro e;have:=name_lt l h i hi j hj;rw[e] at this;omega
 ·unfold nameIs;simp
theorem bt_app (a b:ByteArray) (i:Nat) (h:i<a.size):bt (a++b) i=bt a i:=by
 unfold bt;rw[Int.toNat_natCast,dif_pos (by rw[ByteArray.size_append];omega),dif_pos h];have h':i<a.data.size:=h;have h2:i<(a++b).data.size:=by rw[ByteArray.data_append,Array.size_append];omega
 have e:(a++b).data[i] =a.data[i] :=by simp only[ByteArray.data_append,Array.getElem_append_left h']
 exact congrArg (fun c:UInt8=>((c.toNat:Nat):Int)) e
def digs:List UInt8→List Int
 | [] => []
 |b::r=>if b.toNat=124 then digs r else wrap64 ((wrap64 ((b.toNat:Nat):Int))-48)::digs r
theorem digs_app: ∀a b:List UInt8,digs (a++b)=digs a++digs b
 | [],b=>rfl
 |x::a,b=>by
  rw[List.cons_append,digs,digs,digs_app a b]
  split
  ·rfl
  ·rfl
theorem digs_len: ∀a:List UInt8,(digs a).length≤a.length
 | [] =>Nat.le_refl _
 |x::a=>by
  have:=digs_len a;rw[digs]
  split
  ·simp only[List.length_cons];omega
  ·simp only[List.length_cons];omega
theorem wb (x:Int): -9223372036854775808≤wrap64 x∧wrap64 x≤9223372036854775807:=by unfold wrap64;omega
theorem digs_b: ∀a:List UInt8,∀v∈digs a,-9223372036854775808≤v∧v≤9223372036854775807
 | [],v,h=>by cases h
 |x::a,v,h=>by
  rw[digs] at h
  split at h
  ·exact digs_b a v h
  ·rcases List.mem_cons.1 h with rfl|h
   ·exact wb _
   ·exact digs_b a v h
theorem bt_tl (s:ByteArray) (i:Nat) (h:i<s.size): ∃b,s.toList.drop i=b::s.toList.drop (i+1)∧bt s i=((b.toNat:Nat):Int):=by
 have h':i<s.toList.length:=by rw[tl_eq,Array.length_toList];exact h
 refine⟨s.toList[i],List.drop_eq_getElem_cons h',?_⟩;unfold bt;rw[Int.toNat_natCast,dif_pos h];have:s[i] =s.toList[i] :=by
  simp only[tl_eq];rfl
 rw[this]
def pFx (l:List S42) (t:ByteArray):Int×List Int×Bool:=
 if t.toList=([] :List UInt8) then(0,[],false)
 else if fTx l (idxW (nameIs (t.extract 0 1)) l 0) (digs (t.toList.drop 1))=t then(idxW (nameIs (t.extract 0 1)) l 0,digs (t.toList.drop 1),true) else(0,[],false)
theorem pfSl (l:List S42) (hl:l.length≤1048576) (t:ByteArray) (ht:t.size≤1048576) (a:Int) (d:Nat): ∀(i:Nat) (vs:List Int),i+d=t.size→vs.length≤i→(∀v∈vs,-9223372036854775808≤v∧v≤9223372036854775807)→ ∀k,2000100+d<k→spec_ParseFact.l0 k l t i a vs=some (if fTx l a (vs++digs (t.toList.drop i))=t then(a,vs++digs (t.toList.drop i),true) else(0,[],false))∧impl_ParseFact.l0 k l t i a vs=some (if fTx l a (vs++digs (t.toList.drop i))=t then(a,vs++digs (t.toList.drop i),true) else(0,[],false)):=by
 have hlen:t.toList.length=t.size:=by rw[tl_eq,Array.length_toList];rfl
 induction d with
 |zero=>
  intro i vs hd hv hb k hk;obtain⟨k,rfl,hk⟩:=fuel hk;obtain⟨f1,f2⟩:=ffB2 l hl a vs (by omega) hb k (by omega);rw[List.drop_eq_nil_of_le (by omega),digs,List.append_nil];refine⟨?_,?_⟩
  ·rw[spec_ParseFact.l0,if_neg (by omega),f1,Option.bind_some]
   by_cases c:fTx l a vs=t
   ·rw[if_pos c,if_pos (tl_inj.2 c)]
   ·rw[if_neg c,if_neg (fun g=>c (tl_inj.1 g))]
  ·rw[impl_ParseFact.l0,if_neg (by omega),f2,Option.bind_some]
   by_cases c:fTx l a vs=t
   ·rw[if_pos c,if_pos (tl_inj.2 c)]
   ·rw[if_neg c,if_neg (fun g=>c (tl_inj.1 g))]
 |succ d ih=>
  intro i vs hd hv hb k hk;obtain⟨k,rfl,hk⟩:=fuel hk;obtain⟨b,hb1,hb2⟩:=bt_tl t i (by omega);have e1:wrap64 ((i:Int)+1)=((i+1:Nat):Int):=by rw[w64 (by omega) (by omega)];omega
  have hn: ∀v∈vs++ [wrap64 ((wrap64 ((b.toNat:Nat):Int))-48)],-9223372036854775808≤v∧v≤9223372036854775807:=fun v h=>by
   rcases List.mem_append.1 h with h|h
   ·exact hb v h
   ·rw[List.mem_singleton] at h;subst h;exact wb _
  rw[hb1,digs]
  by_cases c:b.toNat=124
  ·have st:=ih (i+1) vs (by omega) (by omega) hb k (by omega);rw[if_pos c];refine⟨?_,?_⟩
   ·rw[spec_ParseFact.l0,if_pos (by omega),if_pos (by omega),hb2,e1,if_pos (by omega)];exact st.1
   ·rw[impl_ParseFact.l0,if_pos (by omega),if_pos (by omega),hb2,e1,if_pos (by omega)];exact st.2
  ·have st:=ih (i+1) (vs++ [wrap64 ((wrap64 ((b.toNat:Nat):Int))-48)]) (by omega) (by simp only[List.length_append,List.length_singleton];omega) hn k (by omega);rw[List.append_assoc,List.singleton_append] at st;rw[if_neg c];refine⟨?_,?_⟩
   ·rw[spec_ParseFact.l0,if_pos (by omega),if_pos (by omega),hb2,e1,if_neg (by omega),if_pos (by omega)];exact st.1
   ·rw[impl_ParseFact.l0,if_pos (by omega),if_pos (by omega),hb2,e1,if_neg (by omega),if_pos (by omega)];exact st.2
theorem pfB (l:List S42) (hl:l.length≤1048576) (t:ByteArray) (ht:t.size≤1048576) (k:Nat) (hk:4000000<k):spec_ParseFact.f k l t=some (pFx l t)∧impl_ParseFact.f k l t=some (pFx l t):=by
 unfold spec_ParseFact.f impl_ParseFact.f pFx
 by_cases c:t.toList=([] :List UInt8)
 ·rw[if_pos c,if_pos c,if_pos c];exact⟨rfl,rfl⟩
 ·have hs:0<t.size:=by
   rcases Nat.eq_zero_or_pos t.size with h|h
   ·exfalso
    apply c;apply List.eq_nil_of_length_eq_zero;rw[tl_eq,Array.length_toList];exact h
   ·exact h
  obtain⟨p1,p2⟩:=pfSl l hl t ht (idxW (nameIs (t.extract 0 1)) l 0) (t.size-1) 1 [] (by omega) (by simp) (fun v h=>by cases h) k (by omega);rw[List.nil_append] at p1 p2;rw[if_neg c,if_neg c,if_neg c];refine⟨?_,?_⟩
  ·rw[if_pos (show(0:Nat)≤1 by decide),if_pos (show(1:Int)≤(t.size:Int) by omega),relIdxS l (t.extract 0 1) hl k (by omega),Option.bind_some];exact p1
  ·unfold impl_RelationIndex.f;rw[if_pos (show(0:Nat)≤1 by decide),if_pos (show(1:Int)≤(t.size:Int) by omega),Option.bind_some];exact p2
theorem digs_cat: ∀vs:List Int,(∀v∈vs,0≤v∧v≤9)→digs (Shelf.cat_ (vs.map numB))=vs
 | [],_=>rfl
 |v::vs,h=>by
  have hv:=h v (List.mem_cons_self ..);obtain⟨d,rfl⟩:=Int.eq_ofNat_of_zero_le hv.1;have u:(UInt8.ofNat (48+d)).toNat=48+d:=by rw[UInt8.toNat_ofNat'];omega
  rw[List.map_cons,Shelf.cat_,digs_app,digs_cat vs (fun z hz=>h z (List.mem_cons_of_mem _ hz)),numB_dig d (by omega),one_toList,digs,if_neg (by omega),u,digs,w64 (n:=((48+d:Nat):Int)) (by omega) (by omega),w64 (by omega) (by omega)];rw[show((48+d:Nat):Int)-48=(d:Int) by omega];rfl
theorem digs_bar (vs:List Int) (h: ∀v∈vs,0≤v∧v≤9) (f:Nat) (hf:f≤vs.length):digs (bar (vs.map numB) f).toList=vs:=by
 have ht:=digs_cat (vs.take f) (fun v hv=>h v (List.mem_of_mem_take hv));have hd:=digs_cat (vs.drop f) (fun v hv=>h v (List.mem_of_mem_drop hv));rw[List.map_take] at ht;rw[List.map_drop] at hd;unfold bar
 by_cases c:(f:Int)<((vs.map numB).length:Int)
 ·rw[if_pos c];have e:((⟨(Shelf.cat_ ((vs.map numB).take f)).toArray⟩:ByteArray)++((⟨#[124]⟩:ByteArray)++(⟨(Shelf.cat_ ((vs.map numB).drop f)).toArray⟩:ByteArray))).toList=Shelf.cat_ ((vs.map numB).take f)++([124] ++Shelf.cat_ ((vs.map numB).drop f)):=by
   rw[tl_eq];simp[ByteArray.data_append]
  rw[e,digs_app,digs_app,ht,hd,show digs [124] = [] from rfl,List.nil_append,List.take_append_drop]
 ·rw[if_neg c,tl_eq];rw[List.length_map] at c;rw[show(⟨(Shelf.cat_ ((vs.map numB).take f)).toArray⟩:ByteArray).data.toList=Shelf.cat_ ((vs.map numB).take f) by simp,ht,List.take_of_length_le (by omega)]
theorem val_b (l:List S42) (a:Int) (vs:List Int) (h:fits l a vs=true): ∀v∈vs,0≤v∧v≤9:=by
 intro v hv;have hn:=((fits_iff l a vs).1 h).2;rw[List.any_eq_false] at hn;have hz:=hn v hv;unfold noVal at hz;have h3:(decide (0≤v)&&decide (v≤9))=true:=by
  cases hq:(decide (0≤v)&&decide (v≤9)) with
  |true=>rfl
  |false=>exact absurd (by rw[hq];rfl) hz
 rw[Bool.and_eq_true,decide_eq_true_iff,decide_eq_true_iff] at h3;exact h3
theorem pFx_valid (l:List S42) (a:Int) (vs:List Int) (h:vFact l a vs=true):pFx l (fTx l a vs)=(a,vs,true):=by
 have hv:=h;unfold vFact at hv;rw[Bool.and_eq_true] at hv;obtain⟨h0,h1,h2,h3,h4,h5⟩:=key_ok l hv.1 a vs hv.2;obtain⟨c,d1,d2,_,_,er⟩:=vRel_shape _ (vRels_at l hv.1 a h0 h1);have e0:(rd_T42 l a).f0=(⟨#[c]⟩:ByteArray):=by rw[er]
 have ha:((a.toNat:Nat):Int)=a:=Int.toNat_of_nonneg h0;have hi:=idxOwn l hv.1 a.toNat (by omega);rw[ha] at hi;unfold impl_RelationIndex.f at hi;have hi':=Option.some.inj hi;rw[e0] at hi';have et:fTx l a vs=(⟨#[c]⟩:ByteArray)++bar (vs.map numB) (rd_T42 l a).f2.toNat:=by unfold fTx;rw[if_pos h,e0]
 have el:(fTx l a vs).toList=c::(bar (vs.map numB) (rd_T42 l a).f2.toNat).toList:=by
  rw[et,tl_eq,tl_eq];simp[ByteArray.data_append]
 have ex:(fTx l a vs).extract 0 1=(⟨#[c]⟩:ByteArray):=by
  rw[et];have hz:((⟨#[c]⟩:ByteArray)++bar (vs.map numB) (rd_T42 l a).f2.toNat).size≥1:=by rw[ByteArray.size_append,show(⟨#[c]⟩:ByteArray).size=1 from rfl];omega
  refine ba_ext (by rw[ex_size _ 1 hz];rfl) fun i hi=>?_;rw[ex_size _ 1 hz] at hi;rw[ex_bt _ 1 i hz hi,bt_app _ _ i (by rw[show(⟨#[c]⟩:ByteArray).size=1 from rfl];omega)]
 have hb:=digs_bar vs (val_b l a vs hv.2) (rd_T42 l a).f2.toNat (by omega);unfold pFx;rw[if_neg (by rw[el];simp),ex,hi',el,List.drop_succ_cons,List.drop_zero,hb,if_pos rfl]
theorem pFx_nil (l:List S42):pFx l (⟨#[]⟩:ByteArray)=(0,[],false):=by
 unfold pFx;rw[if_pos (by rw[tl_eq])]
theorem pFx_b (l:List S42) (t:ByteArray):(∀v∈(pFx l t).2.1,-9223372036854775808≤v∧v≤9223372036854775807)∧(pFx l t).2.1.length≤t.size:=by
 have hlen:t.toList.length=t.size:=by rw[tl_eq,Array.length_toList];rfl
 unfold pFx
 split
 ·exact⟨fun v h=>(by cases h),Nat.zero_le _⟩
 ·split
  ·refine⟨digs_b _,?_⟩;have:=digs_len (t.toList.drop 1);rw[List.length_drop] at this
   show(digs (t.toList.drop 1)).length≤t.size
   omega
  ·exact⟨fun v h=>(by cases h),Nat.zero_le _⟩
theorem okFrom_at (l:List S42) (fs:List S47): ∀(d i:Nat),okFrom l fs d i=true→ ∀j,i≤j→j<i+d→fits l (fs.getD j z47).f0 (fs.getD j z47).f1=true∧(j=0∨cmpF (fs.getD (j-1) z47).f0 (fs.getD (j-1) z47).f1 (fs.getD j z47).f0 (fs.getD j z47).f1<0)
 |0,i,_,j,h1,h2=>by omega
 |d+1,i,h,j,h1,h2=>by
  rw[okFrom,Bool.and_eq_true,Bool.and_eq_true,Bool.or_eq_true,decide_eq_true_iff,decide_eq_true_iff] at h
  by_cases hj:j=i
  ·subst hj;exact h.1
  ·exact okFrom_at l fs d (i+1) h.2 j (by omega) (by omega)
theorem vDb_parts (l:List S42) (fs:List S47) (h:vDb l fs=true):vRels l=true∧fs.length≤14∧(∀j,j<fs.length→fits l (fs.getD j z47).f0 (fs.getD j z47).f1=true)∧ ∀j,0<j→j<fs.length→cmpF (fs.getD (j-1) z47).f0 (fs.getD (j-1) z47).f1 (fs.getD j z47).f0 (fs.getD j z47).f1<0:=by
 unfold vDb at h;rw[Bool.and_eq_true,Bool.and_eq_true,decide_eq_true_iff] at h;refine⟨h.1.1,h.1.2,fun j hj=>(okFrom_at l fs _ 0 h.2 j (by omega) (by omega)).1,fun j h0 hj=>?_⟩
 rcases(okFrom_at l fs _ 0 h.2 j (by omega) (by omega)).2 with e|e
 ·omega
 ·exact e
def cutL (c:UInt8):List UInt8→List (List UInt8)
 | [] => [[]]
 |b::l=>if b=c then [] ::cutL c l else(b::(cutL c l).headD [])::(cutL c l).tail
theorem cutL_cons (c:UInt8): ∀l,∃x xs,cutL c l=x::xs
 | [] =>⟨_,_,rfl⟩
 |b::l=>by
  rw[cutL]
  split
  ·exact⟨_,_,rfl⟩
  ·exact⟨_,_,rfl⟩
theorem cutL_hit (c:UInt8) (l:List UInt8):cutL c (c::l)= [] ::cutL c l:=by rw[cutL,if_pos rfl]
theorem cutL_miss {c b:UInt8} (h:b≠c) {l x:List UInt8} {xs:List (List UInt8)} (e:cutL c l=x::xs):cutL c (b::l)=(b::x)::xs:=by rw[cutL,if_neg h,e];rfl
theorem cutL_free {c:UInt8} : ∀ {l:List UInt8},(∀b∈l,b≠c)→cutL c l= [l]
 | [],_=>rfl
 |b::l,h=>cutL_miss (h b (List.mem_cons_self ..)) (cutL_free fun z hz=>h z (List.mem_cons_of_mem _ hz))
theorem cutL_app {c:UInt8} (r:List UInt8): ∀ {l:List UInt8},(∀b∈l,b≠c)→cutL c (l++c::r)=l::cutL c r
 | [],_=>cutL_hit c r
 |b::l,h=>cutL_miss (h b (List.mem_cons_self ..)) (cutL_app r fun z hz=>h z (List.mem_cons_of_mem _ hz))
def glue (c:UInt8):List (List UInt8)→List UInt8
 | [] => []
 | [x] =>x
 |x::y::r=>x++c::glue c (y::r)
theorem glue_cons (c b:UInt8) (x:List UInt8): ∀xs,glue c ((b::x)::xs)=b::glue c (x::xs)
 | [] =>rfl
 |y::r=>rfl
theorem glue_cutL (c:UInt8): ∀l,glue c (cutL c l)=l
 | [] =>rfl
 |b::l=>by
  obtain⟨x,xs,e⟩:=cutL_cons c l;have ih:=glue_cutL c l
  by_cases h:b=c
  ·subst h;rw[cutL_hit,e,glue,←e,ih];rfl
  ·rw[cutL_miss h e,glue_cons,←e,ih]
theorem cutL_len (c:UInt8): ∀l,(cutL c l).length=l.count c+1
 | [] =>rfl
 |b::l=>by
  have ih:=cutL_len c l
  by_cases h:b=c
  ·subst h;rw[cutL_hit,List.length_cons,ih,List.count_cons_self]
  ·obtain⟨x,xs,e⟩:=cutL_cons c l;rw[e,List.length_cons] at ih;rw[cutL_miss h e,List.length_cons,ih,List.count_cons_of_ne (by simpa using h)]
theorem ix_hit (c:UInt8) (l:List UInt8):Lib.index (c::l) [c] =((0:Nat):Int):=by rw[Lib.index];simp[List.isPrefixOf]
theorem ix_miss {c b:UInt8} (h:b≠c) (l:List UInt8):Lib.index (b::l) [c] =if Lib.index l [c] == -1 then-1 else Lib.index l [c] +1:=by
 have hp:([c] :List UInt8).isPrefixOf (b::l)=false:=by simp[List.isPrefixOf,Ne.symm h]
 rw[Lib.index,hp];simp
theorem splitK_cutL (c:UInt8): ∀l,Lib.splitK [c] 0 (Lib.count l [c]) l=cutL c l
 | [] =>by rw[Lib.count_miss (by rfl)];rfl
 |b::l=>by
  have ih:=splitK_cutL c l
  by_cases h:b=c
  ·subst h;rw[Lib.count_cons_eq,Nat.add_comm,Lib.splitK,ix_hit,if_neg (by simp),cutL_hit,←ih];simp
  ·obtain⟨x,xs,e⟩:=cutL_cons c l;rw[Lib.count_cons_ne b c l h,cutL_miss h e];rw[e] at ih
   by_cases hm:Lib.index l [c] = -1
   ·have hc:=Lib.count_miss hm;rw[hc] at ih ⊢;rw[Lib.splitK] at ih ⊢
    cases ih
    rfl
   ·have hge:=Lib.index_ge l [c];obtain⟨j,hj⟩: ∃j:Nat,Lib.index l [c] =j:=⟨(Lib.index l [c]).toNat,by omega⟩;have hix:Lib.index (b::l) [c] =((j+1:Nat):Int):=by rw[ix_miss h,if_neg (fun e=>hm (beq_iff_eq.1 e)),hj];omega
    have hc:=Lib.count_hit (by simp) hj;obtain⟨n,hn⟩: ∃n,Lib.count l [c] =n+1:=⟨_,by rw[hc,Nat.add_comm]⟩;rw[hn] at ih ⊢;rw[Lib.splitK,if_neg (fun e=>hm (beq_iff_eq.1 e)),hj] at ih;rw[Lib.splitK,hix,if_neg (by rw[beq_iff_eq];omega)];simp only[Int.toNat_natCast,Nat.add_zero,List.length_singleton,List.take_succ_cons,List.drop_succ_cons] at ih ⊢
    cases ih
    rfl
theorem cut_cutL (c:UInt8): ∀(l x:List UInt8) (xs:List (List UInt8)),cutL c l=x::xs→
  (Lib.cut l [c]).1=x∧((Lib.cut l [c]).2.2=true↔xs≠ [])∧(xs≠ [] →cutL c (Lib.cut l [c]).2.1=xs)
 | [],x,xs,e=>by
  rw[cutL] at e
  cases e
  exact⟨rfl,by simp[Lib.cut,Lib.index],fun h=>absurd rfl h⟩
 |b::l,x,xs,e=>by
  by_cases h:b=c
  ·subst h;rw[cutL_hit] at e
   cases e
   obtain⟨y,ys,e⟩:=cutL_cons b l;unfold Lib.cut;rw[ix_hit,if_pos (by omega),e];refine⟨rfl,by simp,fun _=>?_⟩;rw[←e];rfl
  ·obtain⟨y,ys,e'⟩:=cutL_cons c l;rw[cutL_miss h e'] at e
   cases e
   obtain⟨i1,i2,i3⟩:=cut_cutL c l y xs e';unfold Lib.cut at i1 i2 i3 ⊢;rw[ix_miss h]
   by_cases hm:Lib.index l [c] = -1
   ·rw[hm] at i1 i2 i3 ⊢;rw[if_neg (by omega)] at i1 i2 i3;rw[show(if((-1:Int)== -1)=true then(-1:Int) else-1+1)= -1 from rfl,if_neg (by omega)];dsimp only at i1 i2 i3 ⊢;exact⟨by rw[i1],i2,i3⟩
   ·have hge:=Lib.index_ge l [c];obtain⟨j,hj⟩: ∃j:Nat,Lib.index l [c] =j:=⟨(Lib.index l [c]).toNat,by omega⟩;rw[if_neg (fun e=>hm (beq_iff_eq.1 e))];rw[hj,if_pos (by omega)] at i1 i2 i3;rw[hj,if_pos (by omega)];rw[show((j:Int)+1).toNat=j+1 by omega];rw[Int.toNat_natCast] at i1 i2 i3;dsimp only[List.length_singleton] at i1 i2 i3 ⊢;refine⟨by rw[List.take_succ_cons,i1],i2,fun hx=>?_⟩;rw[show j+1+1=(j+1)+1 from rfl,List.drop_succ_cons];exact i3 hx
def mkB (l:List UInt8):ByteArray:=⟨l.toArray⟩
theorem mkB_dl (l:List UInt8):(mkB l).data.toList=l:=by simp[mkB]
theorem mkB_eta (s:ByteArray):mkB s.data.toList=s:=by obtain⟨⟨l⟩⟩:=s;rfl
theorem mkB_sz (l:List UInt8):(mkB l).size=l.length:=by rw[Lib.size_eq,mkB_dl]
theorem ext_mk (s:ByteArray) (a b:Nat):s.extract a b=mkB ((s.data.toList.take b).drop a):=by
 rw[←mkB_eta (s.extract a b),Lib.extract_data,List.drop_take]
def cutB (c:UInt8) (s:ByteArray):List ByteArray:=(cutL c s.data.toList).map mkB
theorem l6cutl (s:ByteArray) (hs:s.size≤1048576) (c:UInt8) (d:Nat): ∀(i f:Nat) (out:List ByteArray) (x:List UInt8) (xs:List (List UInt8)),i+d=s.size→f≤i→out.length≤i→cutL c (s.data.toList.drop i)=x::xs→ ∀k,d<k→spec_l6Cut.l0 k s ((c.toNat:Nat):Int) out f i=some (out++mkB ((s.data.toList.take i).drop f++x)::xs.map mkB):=by
 have hlen:s.data.toList.length=s.size:=(Lib.size_eq s).symm
 induction d with
 |zero=>
  intro i f out x xs hd hf ho hc k hk;obtain⟨k,rfl,hk⟩:=fuel hk;rw[List.drop_eq_nil_of_le (by omega),cutL] at hc
  cases hc
  rw[spec_l6Cut.l0,if_neg (by omega),if_pos (by omega),if_pos (by omega),if_pos (by omega),Int.toNat_natCast,ext_mk,List.append_nil,show i=s.size by omega];rfl
 |succ d ih=>
  intro i f out x xs hd hf ho hc k hk;obtain⟨k,rfl,hk⟩:=fuel hk;obtain⟨b,hb1,hb2⟩:=bt_tl s i (by omega);rw[tl_eq] at hb1;obtain⟨y,ys,hy⟩:=cutL_cons c (s.data.toList.drop (i+1));have e1:wrap64 ((i:Int)+1)=((i+1:Nat):Int):=by rw[w64 (by omega) (by omega)];omega
  rw[hb1] at hc
  by_cases h:b=c
  ·subst h;rw[cutL_hit] at hc
   cases hc
   have st:=ih (i+1) (i+1) (out++ [s.extract f i]) y ys (by omega) (by omega) (by simp only[List.length_append,List.length_singleton];omega) hy k (by omega);rw[spec_l6Cut.l0,if_pos (by omega),if_pos (by omega),if_pos hb2,if_pos (by omega),if_pos (by omega),if_pos (by omega),if_pos (by omega),e1,Int.toNat_natCast,Int.toNat_natCast,st,hy,ext_mk,List.append_nil];rw[show((s.data.toList.take (i+1)).drop (i+1))= [] from List.drop_eq_nil_of_le (by rw[List.length_take];omega),List.nil_append,List.append_assoc];rfl
  ·rw[cutL_miss h hy] at hc
   cases hc
   have hne: ¬bt s (i:Int)=((c.toNat:Nat):Int):=by
    rw[hb2];intro e;exact h (UInt8.toNat_inj.1 (by omega))
   have st:=ih (i+1) f out y xs (by omega) (by omega) (by omega) hy k (by omega);rw[spec_l6Cut.l0,if_pos (by omega),if_pos (by omega),if_neg hne,e1,st]
   congr 3
   have hi:i<s.data.toList.length:=by omega
   have hbe:s.data.toList[i] =b:=by
    have:=List.drop_eq_getElem_cons hi;rw[hb1] at this
    exact(List.cons.inj this).1.symm
   rw[List.take_succ_eq_append_getElem hi,List.drop_append_of_le_length (by rw[List.length_take];omega),List.append_assoc,hbe];rfl
theorem l6cut (s:ByteArray) (hs:s.size≤1048576) (c:UInt8) (k:Nat) (hk:s.size<k):spec_l6Cut.f k s ((c.toNat:Nat):Int)=some (cutB c s):=by
 obtain⟨x,xs,e⟩:=cutL_cons c s.data.toList;have:=l6cutl s hs c s.size 0 0 [] x xs (by omega) (by omega) (by simp) (by rw[List.drop_zero];exact e) k hk;unfold spec_l6Cut.f cutB;rw[e,List.map_cons];rw[List.take_zero,List.drop_nil,List.nil_append,List.nil_append] at this;exact this
theorem pcsE (s:ByteArray):Shelf.pcs s (⟨#[32]⟩:ByteArray)=cutB 32 s:=by
 unfold Shelf.pcs cutB;rw[←splitK_cutL 32 s.data.toList];have h:=Lib.splitB_data (⟨#[32]⟩:ByteArray) 0 (Lib.countB s (⟨#[32]⟩:ByteArray)) s;rw[show(⟨#[32]⟩:ByteArray).data.toList= [32] from rfl] at h;rw[←h,List.map_map]
 conv=>lhs;rw[←List.map_id (Lib.splitB _ _ _ _)]
 apply List.map_congr_left;intro y _
 exact(mkB_eta y).symm
def wds (s:ByteArray):List ByteArray:=if s.toList=([] :List UInt8) then [] else cutB 32 s
theorem wdsI (s:ByteArray) (hs:s.size≤1048576):impl_words.f s=some (wds s):=by
 unfold impl_words.f wds
 by_cases h:s.toList=([] :List UInt8)
 ·rw[if_pos h,if_pos h]
 ·rw[if_neg h,if_neg h];unfold strings_Split.f;rw[if_pos ⟨by omega,by decide⟩,Option.bind_some,pcsE]
theorem cutL_sub (c:UInt8): ∀(l:List UInt8),∀x∈cutL c l,x.length≤l.length
 | [],x,h=>by rw[cutL,List.mem_singleton] at h;subst h;exact Nat.le_refl _
 |b::l,x,h=>by
  have ih:=cutL_sub c l
  by_cases hb:b=c
  ·subst hb;rw[cutL_hit] at h
   rcases List.mem_cons.1 h with rfl|h
   ·exact Nat.zero_le _
   ·have:=ih x h;rw[List.length_cons];omega
  ·obtain⟨y,ys,e⟩:=cutL_cons c l;rw[cutL_miss hb e] at h;rw[e] at ih
   rcases List.mem_cons.1 h with rfl|h
   ·have:=ih y (List.mem_cons_self ..);rw[List.length_cons,List.length_cons];omega
   ·have:=ih x (List.mem_cons_of_mem _ h);rw[List.length_cons];omega
theorem wds_len (s:ByteArray):(wds s).length≤s.size+1∧ ∀t∈wds s,t.size≤s.size:=by
 unfold wds
 by_cases h:s.toList=([] :List UInt8)
 ·rw[if_pos h];exact⟨Nat.zero_le _,fun t ht=>by cases ht⟩
 ·rw[if_neg h];unfold cutB;have hl:=(Lib.size_eq s).symm;have hc:s.data.toList.count 32≤s.data.toList.length:=List.count_le_length;refine⟨by rw[List.length_map,cutL_len];omega,fun t ht=>?_⟩;obtain⟨x,hx,rfl⟩:=List.mem_map.1 ht;have:=cutL_sub 32 _ x hx;rw[mkB_sz];omega
def cln (t:ByteArray):Prop:= ∀b∈t.data.toList,b≠58∧b≠32
theorem ne_num {b:UInt8} {n:Nat} (h:b.toNat≠n) (hn:n<256):b≠UInt8.ofNat n:=by
 rintro rfl;apply h;rw[UInt8.toNat_ofNat'];omega
theorem cln_b {b:UInt8} (h:b.toNat≠58∧b.toNat≠32):b≠58∧b≠32:=⟨ne_num (n:=58) h.1 (by omega),ne_num (n:=32) h.2 (by omega)⟩
theorem cln_nil:cln (⟨#[]⟩:ByteArray):=fun b h=>by cases h
theorem cln_app {a b:ByteArray} (ha:cln a) (hb:cln b):cln (a++b):=fun c h=>by
 rw[ByteArray.data_append,Array.toList_append,List.mem_append] at h;exact h.elim (ha c) (hb c)
theorem vRel_name (r:S42) (h:vRel r=true):cln r.f0:=by
 have h':=h;obtain⟨c,d1,d2,h1,h2,rfl⟩:=vRel_shape r h;unfold vRel at h';rw[Bool.and_eq_true,Bool.and_eq_true,decide_eq_true_iff] at h';have hb:97≤((c.toNat:Nat):Int):=h'.1.1.2.1;intro b hb';have:b=c:=by simpa using hb'
 subst this;exact cln_b (by omega)
theorem numB_cln (d:Nat) (h:d<10):cln (numB (d:Int)):=by
 rw[numB_dig d h];intro b hb;have:b=UInt8.ofNat (48+d):=by simpa using hb
 subst this;have u:(UInt8.ofNat (48+d)).toNat=48+d:=by rw[UInt8.toNat_ofNat'];omega
 exact cln_b (by omega)
theorem rTx_cln (r:S42):cln (rTx r):=by
 unfold rTx
 by_cases h:vRel r=true
 ·rw[if_pos h];have hn:=vRel_name r h;obtain⟨c,d1,d2,h1,h2,rfl⟩:=vRel_shape r h;refine cln_app (cln_app (cln_app hn (numB_cln d2 h2)) ?_) (numB_cln d1 h1);intro b hb;have:b=47:=by simpa using hb
  subst this
  decide
 ·rw[if_neg h];exact cln_nil
theorem cat_cln: ∀xs:List ByteArray,(∀x∈xs,cln x)→ ∀b∈Shelf.cat_ xs,b≠58∧b≠32
 | [],_,b,h=>by rw[Shelf.cat_] at h;cases h
 |x::xs,hx,b,h=>by
  rw[Shelf.cat_,List.mem_append,tl_eq] at h;exact h.elim (hx x (List.mem_cons_self ..) b) (cat_cln xs (fun y hy=>hx y (List.mem_cons_of_mem _ hy)) b)
theorem bar_cln (xs:List ByteArray) (f:Nat) (h: ∀x∈xs,cln x):cln (bar xs f):=by
 have ht:cln (⟨(Shelf.cat_ (xs.take f)).toArray⟩:ByteArray):=fun b hb=>cat_cln _ (fun x hx=>h x (List.mem_of_mem_take hx)) b (by simpa using hb);have hd:cln (⟨(Shelf.cat_ (xs.drop f)).toArray⟩:ByteArray):=fun b hb=>cat_cln _ (fun x hx=>h x (List.mem_of_mem_drop hx)) b (by simpa using hb);unfold bar
 split
 ·refine cln_app ht (cln_app ?_ hd);intro b hb;have:b=124:=by simpa using hb
  subst this
  decide
 ·exact ht
theorem fTx_cln (l:List S42) (a:Int) (vs:List Int):cln (fTx l a vs):=by
 unfold fTx
 by_cases h:vFact l a vs=true
 ·rw[if_pos h];have hv:=h;unfold vFact at hv;rw[Bool.and_eq_true] at hv;obtain⟨h0,h1,_⟩:=key_ok l hv.1 a vs hv.2;refine cln_app (vRel_name _ (vRels_at l hv.1 a h0 h1)) (bar_cln _ _ fun x hx=>?_);obtain⟨v,hv',rfl⟩:=List.mem_map.1 hx;have hb:=val_b l a vs hv.2 v hv';have:=numB_cln v.toNat (by omega)
  rwa [Int.toNat_of_nonneg hb.1] at this
 ·rw[if_neg h];exact cln_nil
theorem tail_glue (c:UInt8): ∀(x:List UInt8) (xs:List (List UInt8)),x++Lib.joinTail [c] xs=glue c (x::xs)
 |x,[] =>by show x++ [] =x;rw[List.append_nil]
 |x,y::r=>by
  rw[show Lib.joinTail [c] (y::r)= [c] ++y++Lib.joinTail [c] r by simp[Lib.joinTail],List.append_assoc,tail_glue c y r];rfl
theorem spj_glue (c:UInt8) (xs:List ByteArray):(spj (⟨#[c]⟩:ByteArray) 0 xs (⟨#[]⟩:ByteArray)).data.toList=glue c (xs.map fun x=>x.data.toList):=by
 rw[spj_join];unfold Shelf.jn_
 cases xs with
 |nil=>rw[List.map_nil,Lib.join_nil];rfl
 |cons x xs=>rw[List.map_cons,Lib.join_cons,←tail_glue]
theorem glue_mem (c:UInt8): ∀(xs:List (List UInt8)),∀b∈glue c xs,b=c∨ ∃x∈xs,b∈x
 | [],b,h=>by cases h
 | [x],b,h=> .inr ⟨x,List.mem_singleton.2 rfl,h⟩
 |x::y::r,b,h=>by
  rw[glue,List.mem_append,List.mem_cons] at h
  rcases h with h|h|h
  ·exact .inr ⟨x,List.mem_cons_self ..,h⟩
  ·exact .inl h
  ·rcases glue_mem c (y::r) b h with h|⟨z,hz,h⟩
   ·exact .inl h
   ·exact .inr ⟨z,List.mem_cons_of_mem _ hz,h⟩
theorem glue_free (xs:List ByteArray) (h: ∀x∈xs,cln x): ∀b∈glue 32 (xs.map fun x=>x.data.toList),b≠58:=by
 intro b hb
 rcases glue_mem 32 _ b hb with rfl|⟨z,hz,hb⟩
 ·decide
 ·obtain⟨x,hx,rfl⟩:=List.mem_map.1 hz
  exact(h x hx b hb).1
theorem rTxs_cln (l:List S42): ∀x∈rTxs l,cln x:=fun x hx=>by
 obtain⟨y,_,rfl⟩:=List.mem_map.1 hx;exact rTx_cln y
theorem fTxs_cln (l:List S42) (fs:List S47): ∀x∈fTxs l fs,cln x:=fun x hx=>by
 obtain⟨y,_,rfl⟩:=List.mem_map.1 hx;exact fTx_cln l _ _
theorem dTx_cut (l:List S42) (fs:List S47):cutL 58 (dTx l fs).data.toList= [glue 32 ((rTxs l).map fun x=>x.data.toList),glue 32 ((fTxs l fs).map fun x=>x.data.toList)] :=by
 unfold dTx;rw[ByteArray.data_append,Array.toList_append,ByteArray.data_append,Array.toList_append,spj_glue,spj_glue,List.append_assoc,show(⟨#[58]⟩:ByteArray).data.toList= [58] from rfl,List.singleton_append,cutL_app _ (glue_free _ (rTxs_cln l)),cutL_free (glue_free _ (fTxs_cln l fs))]
def prC (t:ByteArray):S42:=⟨t.extract 0 1,wrap64 ((wrap64 (bt t 3))-48),wrap64 ((wrap64 (bt t 1))-48)⟩
def pRx (t:ByteArray):S42×Bool:=if(t.size:Int)=4 then(if rTx (prC t)=t then(prC t,true) else(⟨(⟨#[]⟩:ByteArray),0,0⟩,false)) else(⟨(⟨#[]⟩:ByteArray),0,0⟩,false)
theorem prR (t:ByteArray) (k:Nat) (hk:30<k):spec_ParseRelation.f k t=some ((pRx t).1.f0,(pRx t).1.f1,(pRx t).1.f2,(pRx t).2)∧impl_ParseRelation.f t=some ((pRx t).1.f0,(pRx t).1.f1,(pRx t).1.f2,(pRx t).2):=by
 have w64b: ∀x:Int,okN (wrap64 x):=fun x=>by unfold okN wrap64;omega
 unfold spec_ParseRelation.f impl_ParseRelation.f pRx
 by_cases h:(t.size:Int)=4
 ·have f:=frB2 (prC t) (w64b _) (w64b _) k hk;have f1:spec_FormatRelation.f k (t.extract 0 1) (wrap64 ((wrap64 (bt t 3))-48)) (wrap64 ((wrap64 (bt t 1))-48))=_:=f.1;have f2:impl_FormatRelation.f (t.extract 0 1) (wrap64 ((wrap64 (bt t 3))-48)) (wrap64 ((wrap64 (bt t 1))-48))=_:=f.2;rw[f1,f2];simp only[h,Option.bind_some]
  by_cases g:(rTx (prC t)).toList=t.toList
  ·rw[if_pos (tl_inj.1 g)];rw[if_pos g];constructor
   ·simp[prC]
   ·simp[prC]
  ·rw[if_neg (fun e=>g (tl_inj.2 e)),if_neg g];constructor
   ·simp
   ·simp
 ·rw[if_neg h,if_neg h,if_neg h];exact⟨rfl,rfl⟩
theorem pRx_ok (t:ByteArray):okN (pRx t).1.f1∧okN (pRx t).1.f2:=by
 have w64b: ∀x:Int,okN (wrap64 x):=fun x=>by unfold okN wrap64;omega
 have z:okN (0:Int):=⟨by omega,by omega⟩;unfold pRx
 split
 ·split
  ·exact⟨w64b _,w64b _⟩
  ·exact⟨z,z⟩
 ·exact⟨z,z⟩
theorem pRx_fell (t:ByteArray) (h:(pRx t).2=false):vRel (pRx t).1=false:=by
 have z:vRel (⟨(⟨#[]⟩:ByteArray),0,0⟩:S42)=false:=rfl;unfold pRx at h ⊢
 by_cases c:(t.size:Int)=4
 ·rw[if_pos c] at h ⊢
  by_cases g:rTx (prC t)=t
  ·rw[if_pos g] at h;cases h
  ·rw[if_neg g];exact z
 ·rw[if_neg c];exact z
def pF (l:List S42) (t:ByteArray):S47:=⟨(pFx l t).1,(pFx l t).2.1⟩
theorem pFx_fell (l:List S42) (t:ByteArray) (h:(pFx l t).2.2=false):pF l t=(⟨0,[]⟩:S47):=by
 unfold pF;unfold pFx at h ⊢
 by_cases c:t.toList=([] :List UInt8)
 ·rw[if_pos c]
 ·rw[if_neg c] at h ⊢
  by_cases g:fTx l (idxW (nameIs (t.extract 0 1)) l 0) (digs (t.toList.drop 1))=t
  ·rw[if_pos g] at h;cases h
  ·rw[if_neg g]
def dT (l:List S42) (fs:List S47):ByteArray:=if vDb l fs=true then dTx l fs else(⟨#[]⟩:ByteArray)
theorem fdE (l:List S42) (hl:l.length≤1048576) (hr: ∀y∈l,okN y.f1∧okN y.f2) (fs:List S47) (hf:fs.length≤1048576) (hg: ∀y∈fs,y.f1.length≤1048576) (hb: ∀y∈fs,∀v∈y.f1,-9223372036854775808≤v∧v≤9223372036854775807) (k:Nat) (hk:9100000<k):spec_FormatDatabase.f k l fs=some (dT l fs)∧impl_FormatDatabase.f k l fs=some (dT l fs):=by
 unfold spec_FormatDatabase.f impl_FormatDatabase.f dT;rw[vDS l hl fs hf hg k (by omega),vDI l hl fs hf hg k (by omega),Option.bind_some,Option.bind_some]
 by_cases h:vDb l fs=true
 ·have e1:=fdSl l hl hr fs hf hg hb h l.length 0 (⟨#[]⟩:ByteArray) (by omega) (by rw[show(⟨#[]⟩:ByteArray).size=0 from rfl];omega) k (by omega);have e2:=fdIl l hl hr fs hf hg hb h l.length 0 (by omega) k (by omega);rw[List.drop_zero] at e1;rw[if_pos h,if_pos h,if_pos h];exact⟨e1,e2⟩
 ·rw[if_neg h,if_neg h,if_neg h];exact⟨rfl,rfl⟩
def pdF (s:ByteArray) (l:List S42) (fs:List S47):List S42×List S47×Bool:=if dT l fs=s then(l,fs,true) else([],[],false)
structure PdOk (l:List S42) (fs:List S47):Prop where
 hl:l.length≤1048576
 hr: ∀y∈l,okN y.f1∧okN y.f2
 hf:fs.length≤1048576
 hg: ∀y∈fs,y.f1.length≤1048576
 hb: ∀y∈fs,∀v∈y.f1,-9223372036854775808≤v∧v≤9223372036854775807
theorem pdok (ws:List ByteArray) (hw:ws.length≤1048576) (us:List ByteArray) (hu:us.length≤1048576) (hz: ∀t∈us,t.size≤1048576):PdOk (ws.map fun t=>(pRx t).1) (us.map (pF (ws.map fun t=>(pRx t).1))):=by
 refine⟨by rw[List.length_map];exact hw,fun y hy=>?_,by rw[List.length_map];exact hu,fun y hy=>?_,fun y hy=>?_⟩
 ·obtain⟨t,_,rfl⟩:=List.mem_map.1 hy;exact pRx_ok t
 ·obtain⟨t,ht,rfl⟩:=List.mem_map.1 hy;exact Nat.le_trans (pFx_b _ t).2 (hz t ht)
 ·obtain⟨t,ht,rfl⟩:=List.mem_map.1 hy
  exact(pFx_b _ t).1
theorem all_drop {α:Type} (p:α→Bool) (ws:List α) (i:Nat) (h:i<ws.length):(ws.drop i).all p=(p ws[i] &&(ws.drop (i+1)).all p):=by rw[List.drop_eq_getElem_cons h,List.all_cons]
theorem rdE (ws:List ByteArray) (i:Nat) (h:i<ws.length):rdOf ByteArray.empty ws (i:Int)=ws[i] :=by unfold rdOf;rw[Int.toNat_natCast,getD_lt _ _ i h]
theorem map_snoc {α β:Type} (f:α→β) (ws:List α) (i:Nat) (h:i<ws.length):(ws.take i).map f++ [f ws[i]] =(ws.take (i+1)).map f:=by rw[List.take_succ_eq_append_getElem h,List.map_append];rfl
theorem pdIf (s:ByteArray) (l:List S42) (hl:l.length≤1048576) (us:List ByteArray) (hu:us.length≤1048576) (hz: ∀t∈us,t.size≤1048576) (ho:PdOk l (us.map (pF l))) (d:Nat): ∀(i:Nat),i+d=us.length→ ∀k,9200000+d<k→impl_ParseDatabase.l1 k s us us.length i l ((us.take i).map (pF l))=some (if(us.drop i).all (fun t=>(pFx l t).2.2)=true then pdF s l (us.map (pF l)) else([],[],false)):=by
 induction d with
 |zero=>
  intro i hd k hk;obtain⟨k,rfl,hk⟩:=fuel hk;rw[impl_ParseDatabase.l1,if_neg (by omega),List.take_of_length_le (by omega),List.drop_eq_nil_of_le (by omega),(fdE l hl ho.hr _ ho.hf ho.hg ho.hb k (by omega)).2,Option.bind_some,List.all_nil,if_pos rfl];unfold pdF
  by_cases c:dT l (us.map (pF l))=s
  ·rw[if_pos c,if_pos (tl_inj.2 c)]
  ·rw[if_neg c,if_neg (fun g=>c (tl_inj.1 g))]
 |succ d ih=>
  intro i hd k hk;obtain⟨k,rfl,hk⟩:=fuel hk;rw[impl_ParseDatabase.l1,if_pos (by omega),if_pos (by omega),if_pos (by omega),rdE us i (by omega),(pfB l hl _ (hz _ (List.getElem_mem _)) k (by omega)).2,Option.bind_some,all_drop _ us i (by omega)]
  by_cases c:(pFx l us[i]).2.2=true
  ·rw[if_pos c,c,if_pos (by rw[List.length_map,List.length_take];omega),show wrap64 ((i:Int)+1)=((i+1:Nat):Int) by rw[w64 (by omega) (by omega)];omega];rw[show(us.take i).map (pF l)++ [(⟨(pFx l us[i]).1,(pFx l us[i]).2.1⟩:S47)] =(us.take (i+1)).map (pF l) from map_snoc (pF l) us i (by omega)];rw[Bool.true_and];exact ih (i+1) (by omega) k (by omega)
  ·rw[if_neg c,Bool.eq_false_iff.2 c,Bool.false_and,if_neg (by decide)]
theorem pdIr (s tail:ByteArray) (ht:tail.size≤1048575) (ws:List ByteArray) (hw:ws.length≤1048576) (d:Nat): ∀(i:Nat),i+d=ws.length→ ∀k,10400000+d<k→impl_ParseDatabase.l0 k s tail ws ws.length i ((ws.take i).map fun t=>(pRx t).1)=some (if(ws.drop i).all (fun t=>(pRx t).2)=true then(if(wds tail).all (fun t=>(pFx (ws.map fun t=>(pRx t).1) t).2.2)=true then pdF s (ws.map fun t=>(pRx t).1) ((wds tail).map (pF (ws.map fun t=>(pRx t).1))) else([],[],false)) else([],[],false)):=by
 obtain⟨hu,hz⟩:=wds_len tail
 induction d with
 |zero=>
  intro i hd k hk;obtain⟨k,rfl,hk⟩:=fuel hk;have st:=pdIf s (ws.map fun t=>(pRx t).1) (by rw[List.length_map];exact hw) (wds tail) (by omega) (fun t h=>by have:=hz t h;omega) (pdok ws hw (wds tail) (by omega) (fun t h=>by have:=hz t h;omega)) (wds tail).length 0 (by omega) k (by omega);rw[List.drop_zero] at st;rw[impl_ParseDatabase.l0,if_neg (by omega),List.take_of_length_le (by omega),List.drop_eq_nil_of_le (by omega),wdsI tail (by omega),Option.bind_some,List.all_nil,if_pos rfl];exact st
 |succ d ih=>
  intro i hd k hk;obtain⟨k,rfl,hk⟩:=fuel hk;rw[impl_ParseDatabase.l0,if_pos (by omega),if_pos (by omega),if_pos (by omega),rdE ws i (by omega),(prR ws[i] 31 (by omega)).2,Option.bind_some,all_drop _ ws i (by omega)];dsimp only
  by_cases c:(pRx ws[i]).2=true
  ·rw[if_pos c,c,if_pos (by rw[List.length_map,List.length_take];omega),show wrap64 ((i:Int)+1)=((i+1:Nat):Int) by rw[w64 (by omega) (by omega)];omega];rw[show(ws.take i).map (fun t=>(pRx t).1)++ [(⟨(pRx ws[i]).1.f0,(pRx ws[i]).1.f1,(pRx ws[i]).1.f2⟩:S42)] =(ws.take (i+1)).map (fun t=>(pRx t).1) from map_snoc (fun t=>(pRx t).1) ws i (by omega)];rw[Bool.true_and];exact ih (i+1) (by omega) k (by omega)
  ·rw[if_neg c,Bool.eq_false_iff.2 c,Bool.false_and,if_neg (by decide)]
theorem cutB_nil (c:UInt8) (s:ByteArray) (h:s.toList=([] :List UInt8)):(cutB c s).length=1:=by
 unfold cutB;rw[←tl_eq,h];rfl
theorem pdSf (s:ByteArray) (l:List S42) (hl:l.length≤1048576) (a b:ByteArray) (hb0: ¬b.toList=([] :List UInt8)) (us:List ByteArray) (hu:us.length≤1048576) (hz: ∀t∈us,t.size≤1048576) (ho:PdOk l (us.map (pF l))) (d:Nat): ∀(i:Nat),i+d=us.length→ ∀k,9200000+d<k→spec_ParseDatabase.l1 k s [a,b] us i l ((us.take i).map (pF l))=some (pdF s l (us.map (pF l))):=by
 induction d with
 |zero=>
  intro i hd k hk;obtain⟨k,rfl,hk⟩:=fuel hk;rw[spec_ParseDatabase.l1,if_neg (by omega),List.take_of_length_le (by omega),(fdE l hl ho.hr _ ho.hf ho.hg ho.hb k (by omega)).1,Option.bind_some];unfold pdF
  by_cases c:dT l (us.map (pF l))=s
  ·rw[if_pos c,if_pos (tl_inj.2 c)]
  ·rw[if_neg c,if_neg (fun g=>c (tl_inj.1 g))]
 |succ d ih=>
  intro i hd k hk;obtain⟨k,rfl,hk⟩:=fuel hk;rw[spec_ParseDatabase.l1,if_pos (by omega),if_pos (by simp),if_neg (show¬(rdOf ByteArray.empty [a,b] 1).toList=([] :List UInt8) from hb0),if_pos (by omega),rdE us i (by omega),(pfB l hl _ (hz _ (List.getElem_mem _)) k (by omega)).1,Option.bind_some];rw[if_pos (by rw[List.length_map,List.length_take];omega),show wrap64 ((i:Int)+1)=((i+1:Nat):Int) by rw[w64 (by omega) (by omega)];omega];rw[show(us.take i).map (pF l)++ [(⟨(pFx l us[i]).1,(pFx l us[i]).2.1⟩:S47)] =(us.take (i+1)).map (pF l) from map_snoc (pF l) us i (by omega)];exact ih (i+1) (by omega) k (by omega)
theorem pdSj (s:ByteArray) (l:List S42) (hl:l.length≤1048576) (hr: ∀y∈l,okN y.f1∧okN y.f2) (a b:ByteArray) (hb:b.size≤1048575) (ho:PdOk l ((wds b).map (pF l))) (k:Nat) (hk:10400000<k):spec_ParseDatabase.j1 k s [a,b] l=some (pdF s l ((wds b).map (pF l))):=by
 obtain⟨hu,hz⟩:=wds_len b;obtain⟨k,rfl,hk⟩:=fuel hk;have hc:=l6cut b (by omega) 32 k (by omega);rw[spec_ParseDatabase.j1,if_pos (by simp),show rdOf ByteArray.empty [a,b] 1=b from rfl,show(32:Int)=(((32:UInt8).toNat:Nat):Int) from rfl,hc,Option.bind_some,show(0:Int)=((0:Nat):Int) from rfl];unfold wds at ho hu hz ⊢
 by_cases h:b.toList=([] :List UInt8)
 ·rw[if_pos h] at ho ⊢;have hn:=cutB_nil 32 b h;obtain⟨k,rfl⟩: ∃z,k=z+1:=⟨k-1,by omega⟩;rw[spec_ParseDatabase.l1,if_pos (by omega),if_pos (by simp),if_pos (show(rdOf ByteArray.empty [a,b] 1).toList=([] :List UInt8) from h),List.map_nil];rw[List.map_nil] at ho;rw[(fdE l hl ho.hr _ ho.hf ho.hg ho.hb k (by omega)).1,Option.bind_some];unfold pdF
  by_cases c:dT l [] =s
  ·rw[if_pos c,if_pos (tl_inj.2 c)]
  ·rw[if_neg c,if_neg (fun g=>c (tl_inj.1 g))]
 ·rw[if_neg h] at ho hu hz ⊢;exact pdSf s l hl a b h (cutB 32 b) (by omega) (fun t ht=>by have:=hz t ht;omega) ho (cutB 32 b).length 0 (by omega) k (by omega)
theorem pdSr (s a b:ByteArray) (ha0: ¬a.toList=([] :List UInt8)) (hb:b.size≤1048575) (ws:List ByteArray) (hw:ws.length≤1048576) (d:Nat): ∀(i:Nat),i+d=ws.length→ ∀k,10500000+d<k→spec_ParseDatabase.l0 k s [a,b] ws i ((ws.take i).map fun t=>(pRx t).1)=some (pdF s (ws.map fun t=>(pRx t).1) ((wds b).map (pF (ws.map fun t=>(pRx t).1)))):=by
 obtain⟨hu,hz⟩:=wds_len b;have hok:=pdok ws hw (wds b) (by omega) (fun t h=>by have:=hz t h;omega)
 induction d with
 |zero=>
  intro i hd k hk;obtain⟨k,rfl,hk⟩:=fuel hk;rw[spec_ParseDatabase.l0,if_neg (by omega),List.take_of_length_le (by omega)];exact pdSj s _ hok.hl hok.hr a b hb hok k (by omega)
 |succ d ih=>
  intro i hd k hk;obtain⟨k,rfl,hk⟩:=fuel hk;rw[spec_ParseDatabase.l0,if_pos (by omega),if_pos (by simp),if_neg (show¬(rdOf ByteArray.empty [a,b] 0).toList=([] :List UInt8) from ha0),if_pos (by omega),rdE ws i (by omega),(prR ws[i] k (by omega)).1,Option.bind_some];dsimp only;rw[if_pos (by rw[List.length_map,List.length_take];omega),show wrap64 ((i:Int)+1)=((i+1:Nat):Int) by rw[w64 (by omega) (by omega)];omega];rw[show(ws.take i).map (fun t=>(pRx t).1)++ [(⟨(pRx ws[i]).1.f0,(pRx ws[i]).1.f1,(pRx ws[i]).1.f2⟩:S42)] =(ws.take (i+1)).map (fun t=>(pRx t).1) from map_snoc (fun t=>(pRx t).1) ws i (by omega)];exact ih (i+1) (by omega) k (by omega)
def pD (s:ByteArray):List S42×List S47×Bool:=match cutL 58 s.data.toList with
 | [a,b] =>pdF s ((wds (mkB a)).map fun t=>(pRx t).1) ((wds (mkB b)).map (pF ((wds (mkB a)).map fun t=>(pRx t).1)))
 |_=>([],[],false)
theorem cut2_len (c:UInt8) (l x y:List UInt8) (ys:List (List UInt8)) (h:cutL c l=x::y::ys):l=x++c::glue c (y::ys):=by
 have:=glue_cutL c l;rw[h] at this;exact this.symm
theorem pdS (s:ByteArray) (hs:s.size≤1048576) (k:Nat) (hk:12000000<k):spec_ParseDatabase.f k s=some (pD s):=by
 have hc:=l6cut s hs 58 k (by omega);unfold spec_ParseDatabase.f pD;rw[show(58:Int)=(((58:UInt8).toNat:Nat):Int) from rfl,hc,Option.bind_some];unfold cutB
 rcases e:cutL 58 s.data.toList with _|⟨x,_|⟨y,_|⟨z,r⟩⟩⟩
 ·obtain⟨x,xs,e'⟩:=cutL_cons 58 s.data.toList;rw[e] at e';cases e'
 ·rw[if_neg (by simp)]
 ·have hl:=cut2_len 58 _ x y [] e;have hsz:=congrArg List.length hl;rw[←Lib.size_eq] at hsz;simp only[glue,List.length_append,List.length_cons] at hsz;have za:(mkB x).size≤1048575:=by rw[mkB_sz];omega
  have zb:(mkB y).size≤1048575:=by rw[mkB_sz];omega
  rw[List.map_cons,List.map_cons,List.map_nil];dsimp only;rw[if_pos (by simp),if_pos (by simp),show rdOf ByteArray.empty [mkB x,mkB y] 0=mkB x from rfl,show(32:Int)=(((32:UInt8).toNat:Nat):Int) from rfl,l6cut (mkB x) (by omega) 32 k (by omega),Option.bind_some,show(0:Int)=((0:Nat):Int) from rfl];obtain⟨hu,hz⟩:=wds_len (mkB x);obtain⟨hu2,hz2⟩:=wds_len (mkB y)
  by_cases h:(mkB x).toList=([] :List UInt8)
  ·have hn:=cutB_nil 32 (mkB x) h;obtain⟨k,rfl⟩: ∃z,k=z+1:=⟨k-1,by omega⟩;have hw:wds (mkB x)= [] :=by unfold wds;rw[if_pos h]
   have hok:=pdok [] (by simp) (wds (mkB y)) (by omega) (fun t h=>by have:=hz2 t h;omega);rw[spec_ParseDatabase.l0,if_pos (by omega),if_pos (by simp),if_pos (show(rdOf ByteArray.empty [mkB x,mkB y] 0).toList=([] :List UInt8) from h),hw];exact pdSj s [] (by simp) (fun y hy=>by cases hy) (mkB x) (mkB y) zb hok k (by omega)
  ·have hw:wds (mkB x)=cutB 32 (mkB x):=by unfold wds;rw[if_neg h]
   rw[hw] at hu ⊢;exact pdSr s (mkB x) (mkB y) h zb (cutB 32 (mkB x)) (by omega) (cutB 32 (mkB x)).length 0 (by omega) k (by omega)
 ·rw[if_neg (by simp only[List.length_map,List.length_cons];omega)]
theorem dT_fell (s:ByteArray) (hs:0<s.size) (l:List S42) (fs:List S47) (h:vDb l fs=false):pdF s l fs=([],[],false):=by
 unfold pdF dT;rw[if_neg (show¬vDb l fs=true by rw[h];decide)];rw[if_neg (by rintro rfl;exact absurd hs (by decide))]
theorem vDb_rel (l:List S42) (fs:List S47) (h:vDb l fs=true): ∀y∈l,vRel y=true:=by
 intro y hy;obtain⟨j,hj,rfl⟩:=List.mem_iff_getElem.1 hy;have:=vRels_at l (vDb_parts l fs h).1 (j:Int) (by omega) (by omega);unfold rd_T42 at this
 rwa [Int.toNat_natCast,getD_lt l _ j hj] at this
theorem vDb_fact (l:List S42) (fs:List S47) (h:vDb l fs=true): ∀y∈fs,vFact l y.f0 y.f1=true:=by
 intro y hy;obtain⟨j,hj,rfl⟩:=List.mem_iff_getElem.1 hy;have hp:=vDb_parts l fs h;have:=hp.2.2.1 j hj;rw[getD_lt fs _ j hj] at this;unfold vFact;rw[hp.1,this];rfl
theorem fit0 (l:List S42):vFact l 0 [] =false:=by
 rw[Bool.eq_false_iff];intro h;unfold vFact at h;rw[Bool.and_eq_true] at h;obtain⟨h0,h1,_,_,h4,_⟩:=key_ok l h.1 0 [] h.2;have hv:=vRels_at l h.1 0 h0 h1;unfold vRel at hv;rw[Bool.and_eq_true,Bool.and_eq_true,inB_iff] at hv;have:=hv.1.2.1;rw[List.length_nil] at h4;omega
theorem pdI (s:ByteArray) (hs:s.size≤1048576) (k:Nat) (hk:12000000<k):impl_ParseDatabase.f k s=some (pD s):=by
 unfold impl_ParseDatabase.f pD strings_Cut.f;rw[if_pos (by omega),Option.bind_some,show(⟨#[58]⟩:ByteArray).data.toList= [58] from rfl];obtain⟨x,xs,e⟩:=cutL_cons 58 s.data.toList;obtain⟨c1,c2,c3⟩:=cut_cutL 58 _ x xs e;rw[c1]
 rcases xs with _|⟨y,r⟩
 ·rw[if_neg (fun h=>(c2.1 h) rfl),e]
 ·have hl:=cut2_len 58 _ x y r e;have ht:=c3 (by simp);have hg:=glue_cutL 58 (Lib.cut s.data.toList [58]).2.1;rw[ht] at hg;rw[if_pos (c2.2 (by simp))];generalize (Lib.cut s.data.toList [58]).2.1=tl at ht hg;subst hg;have hsz:=congrArg List.length hl;rw[←Lib.size_eq] at hsz;simp only[List.length_append,List.length_cons] at hsz;have za:(mkB x).size≤1048575:=by rw[mkB_sz];omega
  have zb:(mkB (glue 58 (y::r))).size≤1048575:=by rw[mkB_sz];omega
  have hsp:0<s.size:=by omega
  obtain⟨hu,hz⟩:=wds_len (mkB x);rw[show(⟨x.toArray⟩:ByteArray)=mkB x from rfl,show(⟨(glue 58 (y::r)).toArray⟩:ByteArray)=mkB (glue 58 (y::r)) from rfl,wdsI (mkB x) (by omega),Option.bind_some,show(0:Int)=((0:Nat):Int) from rfl];have st:=pdIr s (mkB (glue 58 (y::r))) zb (wds (mkB x)) (by omega) (wds (mkB x)).length 0 (by omega) k (by omega);rw[List.take_zero,List.map_nil,List.drop_zero] at st;rw[st,e]
  -- a piece that is not read: the database is not valid
  have key:(if(wds (mkB x)).all (fun t=>(pRx t).2)=true then(if(wds (mkB (glue 58 (y::r)))).all (fun t=>(pFx ((wds (mkB x)).map fun t=>(pRx t).1) t).2.2)=true then pdF s ((wds (mkB x)).map fun t=>(pRx t).1) ((wds (mkB (glue 58 (y::r)))).map (pF ((wds (mkB x)).map fun t=>(pRx t).1))) else([],[],false)) else([],[],false))=pdF s ((wds (mkB x)).map fun t=>(pRx t).1) ((wds (mkB (glue 58 (y::r)))).map (pF ((wds (mkB x)).map fun t=>(pRx t).1))):=by
   by_cases ca:(wds (mkB x)).all (fun t=>(pRx t).2)=true
   ·rw[if_pos ca]
    by_cases cb:(wds (mkB (glue 58 (y::r)))).all (fun t=>(pFx ((wds (mkB x)).map fun t=>(pRx t).1) t).2.2)=true
    ·rw[if_pos cb]
    ·rw[if_neg cb,dT_fell s hsp];rw[Bool.eq_false_iff];intro hv;apply cb;rw[List.all_eq_true];intro t htm
     by_cases g:(pFx ((wds (mkB x)).map fun t=>(pRx t).1) t).2.2=true
     ·exact g
     ·exfalso
      have hm:pF ((wds (mkB x)).map fun t=>(pRx t).1) t∈(wds (mkB (glue 58 (y::r)))).map (pF ((wds (mkB x)).map fun t=>(pRx t).1)):=List.mem_map.2 ⟨t,htm,rfl⟩;rw[pFx_fell _ t (Bool.eq_false_iff.2 g)] at hm;have:=vDb_fact _ _ hv _ hm;rw[fit0] at this
      cases this
   ·rw[if_neg ca,dT_fell s hsp];rw[Bool.eq_false_iff];intro hv;apply ca;rw[List.all_eq_true];intro t htm
    by_cases g:(pRx t).2=true
    ·exact g
    ·exfalso
     have:=vDb_rel _ _ hv _ (List.mem_map.2 ⟨t,htm,rfl⟩);rw[pRx_fell t (Bool.eq_false_iff.2 g)] at this
     cases this
  rw[key]
  rcases r with _|⟨z,r⟩
  ·rfl
  ·--more colons than a database's text has
   dsimp only;unfold pdF;rw[if_neg ?_];intro he;unfold dT at he
   by_cases hv:vDb ((wds (mkB x)).map fun t=>(pRx t).1) ((wds (mkB (glue 58 (y::z::r)))).map (pF ((wds (mkB x)).map fun t=>(pRx t).1)))=true
   ·rw[if_pos hv] at he;have hc:=dTx_cut ((wds (mkB x)).map fun t=>(pRx t).1) ((wds (mkB (glue 58 (y::z::r)))).map (pF ((wds (mkB x)).map fun t=>(pRx t).1)));rw[he,e] at hc;have:=congrArg List.length hc;simp only[List.length_cons,List.length_nil] at this;omega
   ·rw[if_neg hv] at he;rw[←he] at hsp;exact absurd hsp (by decide)
theorem pD_ok (s:ByteArray) (hs:s.size≤1048576):PdOk (pD s).1 (pD s).2.1:=by
 have z:PdOk ([] :List S42) ([] :List S47):=⟨by simp,(fun y h=>by cases h),by simp,(fun y h=>by cases h),(fun y h=>by cases h)⟩;unfold pD
 rcases e:cutL 58 s.data.toList with _|⟨x,_|⟨y,_|⟨w,r⟩⟩⟩
 ·exact z
 ·exact z
 ·have hl:=cut2_len 58 _ x y [] e;have hsz:=congrArg List.length hl;rw[←Lib.size_eq] at hsz;simp only[glue,List.length_append,List.length_cons] at hsz;obtain⟨hu,hz⟩:=wds_len (mkB x);obtain⟨hu2,hz2⟩:=wds_len (mkB y);rw[mkB_sz] at hu hu2;have hok:=pdok (wds (mkB x)) (by omega) (wds (mkB y)) (by omega) (fun t h=>by have:=hz2 t h;rw[mkB_sz] at this;omega);dsimp only;unfold pdF
  split
  ·exact hok
  ·exact z
 ·exact z
theorem cutL_glue (c:UInt8): ∀(x:List UInt8) (xs:List (List UInt8)),(∀y∈x::xs,∀b∈y,b≠c)→cutL c (glue c (x::xs))=x::xs
 |x,[],h=>cutL_free (h x (List.mem_cons_self ..))
 |x,y::r,h=>by rw[glue,cutL_app _ (h x (List.mem_cons_self ..)),cutL_glue c y r fun z hz=>h z (List.mem_cons_of_mem _ hz)]
theorem wds_glue (xs:List ByteArray) (h: ∀x∈xs,cln x) (h0: ∀x∈xs,0<x.size):wds (mkB (glue 32 (xs.map fun x=>x.data.toList)))=xs:=by
 cases xs with
 |nil=>
  rw[List.map_nil,glue];unfold wds;rw[if_pos (by rw[tl_eq,mkB_dl])]
 |cons x r=>
  have hne: ¬(mkB (glue 32 ((x::r).map fun x=>x.data.toList))).toList=([] :List UInt8):=by
   rw[tl_eq,mkB_dl];have hx:=h0 x (List.mem_cons_self ..);rw[Lib.size_eq] at hx
   cases r with
   |nil=>
    rw[List.map_cons,List.map_nil,glue];intro e;rw[e] at hx;exact absurd hx (by decide)
   |cons y r=>
    rw[List.map_cons,List.map_cons,glue];intro e;simp at e
  have hc:cutL 32 (glue 32 ((x::r).map fun x=>x.data.toList))=(x::r).map fun x=>x.data.toList:=by
   rw[List.map_cons];refine cutL_glue 32 _ _ fun z hz b hb=>?_;rw[←List.map_cons (f:=fun x:ByteArray=>x.data.toList)] at hz;obtain⟨w,hw,rfl⟩:=List.mem_map.1 hz
   exact(h w hw b hb).2
  unfold wds;rw[if_neg hne];unfold cutB;rw[mkB_dl,hc,List.map_map]
  conv=>rhs;rw[←List.map_id (x::r)]
  apply List.map_congr_left;intro y _;exact mkB_eta y
theorem pRx_round (r:S42) (h:vRel r=true):pRx (rTx r)=(r,true):=by
 have e:=prT r h;rw[(prR (rTx r) 31 (by omega)).2] at e;generalize pRx (rTx r)=z at e;obtain⟨⟨a,b,c⟩,v⟩:=z;obtain⟨a',b',c'⟩:=r;simp only[Option.some.injEq,Prod.mk.injEq] at e;obtain⟨rfl,rfl,rfl,rfl⟩:=e;rfl
theorem rTx_pos (r:S42) (h:vRel r=true):0<(rTx r).size:=by
 obtain⟨c,d1,d2,h1,h2,rfl⟩:=vRel_shape r h;rw[rTx4 c d1 d2 h1 h2 h];exact Nat.succ_pos _
theorem rels_round (l:List S42) (h: ∀y∈l,vRel y=true):(rTxs l).map (fun t=>(pRx t).1)=l:=by
 unfold rTxs;rw[List.map_map]
 conv=>rhs;rw[←List.map_id l]
 apply List.map_congr_left;intro y hy
 show(pRx (rTx y)).1=y
 rw[pRx_round y (h y hy)]
theorem fTx_pos (l:List S42) (a:Int) (vs:List Int) (h:vFact l a vs=true):0<(fTx l a vs).size:=by
 rcases Nat.eq_zero_or_pos (fTx l a vs).size with c|c
 ·exfalso
  have e:=pFx_valid l a vs h;rw[show fTx l a vs=(⟨#[]⟩:ByteArray) by apply ByteArray.ext;exact Array.eq_empty_of_size_eq_zero c,pFx_nil] at e;simp at e
 ·exact c
theorem facts_round (l:List S42) (fs:List S47) (h: ∀y∈fs,vFact l y.f0 y.f1=true):(fTxs l fs).map (pF l)=fs:=by
 unfold fTxs;rw[List.map_map]
 conv=>rhs;rw[←List.map_id fs]
 apply List.map_congr_left;intro y hy
 show pF l (fTx l y.f0 y.f1)=y
 unfold pF;rw[pFx_valid l _ _ (h y hy)]
theorem pD_round (l:List S42) (fs:List S47) (h:vDb l fs=true):pD (dTx l fs)=(l,fs,true):=by
 have hr:=vDb_rel l fs h;have hf:=vDb_fact l fs h;unfold pD;rw[dTx_cut];dsimp only;rw[wds_glue _ (rTxs_cln l) ?_,wds_glue _ (fTxs_cln l fs) ?_,rels_round l hr,facts_round l fs hf]
 ·unfold pdF dT;rw[if_pos h,if_pos rfl]
 ·intro x hx;obtain⟨y,hy,rfl⟩:=List.mem_map.1 hx;exact fTx_pos l _ _ (hf y hy)
 ·intro x hx;obtain⟨y,hy,rfl⟩:=List.mem_map.1 hx;exact rTx_pos _ (hr y hy)
theorem pD_dT (l:List S42) (fs:List S47):pD (dT l fs)=if vDb l fs=true then(l,fs,true) else([],[],false):=by
 unfold dT
 by_cases h:vDb l fs=true
 ·rw[if_pos h,if_pos h,pD_round l fs h]
 ·rw[if_neg h,if_neg h];rfl
theorem pD_told (s:ByteArray) (h:(pD s).2.2=true):dT (pD s).1 (pD s).2.1=s:=by
 have key: ∀l fs,(pdF s l fs).2.2=true→dT (pdF s l fs).1 (pdF s l fs).2.1=s:=by
  intro l fs h;unfold pdF at h ⊢
  by_cases c:dT l fs=s
  ·rw[if_pos c];exact c
  ·rw[if_neg c] at h;cases h
 unfold pD at h ⊢
 rcases e:cutL 58 s.data.toList with _|⟨x,_|⟨y,_|⟨w,r⟩⟩⟩
 ·rw[e] at h;cases h
 ·rw[e] at h;cases h
 ·rw[e] at h;exact key _ _ h
 ·rw[e] at h;cases h
theorem vRel_ok (r:S42) (h:vRel r=true):okN r.f1∧okN r.f2:=by
 obtain⟨c,d1,d2,h1,h2,rfl⟩:=vRel_shape r h;exact⟨show okN (d1:Int) from⟨by omega,by omega⟩,show okN (d2:Int) from⟨by omega,by omega⟩⟩
theorem vDb_b (l:List S42) (fs:List S47) (h:vDb l fs=true): ∀y∈fs,∀v∈y.f1,-9223372036854775808≤v∧v≤9223372036854775807:=by
 intro y hy v hv;have hf:=vDb_fact l fs h y hy;unfold vFact at hf;rw[Bool.and_eq_true] at hf;have:=val_b l _ _ hf.2 v hv;omega
theorem fdV (l:List S42) (hl:l.length≤1048576) (fs:List S47) (hf:fs.length≤1048576) (hg: ∀y∈fs,y.f1.length≤1048576) (k:Nat) (hk:9100000<k):spec_FormatDatabase.f k l fs=some (dT l fs)∧impl_FormatDatabase.f k l fs=some (dT l fs):=by
 by_cases h:vDb l fs=true
 ·exact fdE l hl (fun y hy=>vRel_ok y (vDb_rel l fs h y hy)) fs hf hg (vDb_b l fs h) k hk
 ·unfold spec_FormatDatabase.f impl_FormatDatabase.f dT;rw[vDS l hl fs hf hg k (by omega),vDI l hl fs hf hg k (by omega),Option.bind_some,Option.bind_some,if_neg h,if_neg h,if_neg h];exact⟨rfl,rfl⟩
theorem fTx_small (l:List S42) (a:Int) (vs:List Int) (hb: ∀v∈vs,-9223372036854775808≤v∧v≤9223372036854775807):(fTx l a vs).size≤2000:=by
 unfold fTx
 by_cases h:vFact l a vs=true
 ·have hv:=h;unfold vFact at hv;rw[Bool.and_eq_true] at hv;obtain⟨h0,h1,h2,h3,h4,h5⟩:=key_ok l hv.1 a vs hv.2;have hr:=vRels_at l hv.1 a h0 h1;unfold vRel at hr;rw[Bool.and_eq_true,Bool.and_eq_true,decide_eq_true_iff] at hr;have hs:=hr.1.1.1;have hm: ∀x∈vs.map numB,x.size≤21:=by
   intro x hx;obtain⟨v,hv,rfl⟩:=List.mem_map.1 hx;exact numB_sz v (hb v hv).1 (hb v hv).2
  have hbz:=bar_sz (vs.map numB) (rd_T42 l a).f2.toNat (by rw[List.length_map];exact h5) hm;rw[if_pos h,ByteArray.size_append];omega
 ·rw[if_neg h];exact Nat.zero_le _
theorem dT_small (l:List S42) (fs:List S47) (hl:l.length≤4) (hf:fs.length≤41):(dT l fs).size≤90000:=by
 unfold dT
 by_cases h:vDb l fs=true
 ·rw[if_pos h];unfold dTx;have hb:=vDb_b l fs h;have a:=spj_sz (⟨#[32]⟩:ByteArray) 50 (by decide) (rTxs l) 0 (⟨#[]⟩:ByteArray) fun x hx=>by
   obtain⟨y,hy,rfl⟩:=List.mem_map.1 hx;have:=vRel_ok y (vDb_rel l fs h y hy);exact rTx_sz y this.1 this.2
  have b:=spj_sz (⟨#[32]⟩:ByteArray) 2000 (by decide) (fTxs l fs) 0 (⟨#[]⟩:ByteArray) fun x hx=>by
   obtain⟨y,hy,rfl⟩:=List.mem_map.1 hx;exact fTx_small l _ _ (hb y hy)
  have l1:(⟨#[58]⟩:ByteArray).size=1:=rfl;have l0:(⟨#[]⟩:ByteArray).size=0:=rfl;have n1:(rTxs l).length=l.length:=by unfold rTxs;simp
  have n2:(fTxs l fs).length=fs.length:=by unfold fTxs;simp
  rw[l0,n1] at a;rw[l0,n2] at b;rw[ByteArray.size_append,ByteArray.size_append];omega
 ·rw[if_neg h];exact Nat.zero_le _
def relNe (x y:S42):Bool:= !(x.f0.toList==y.f0.toList)||(!(x.f1==y.f1)||(!(x.f2==y.f2)))
theorem eqRIl (x y:List S42) (hx:x.length≤1048576) (hl:y.length=x.length) (d:Nat): ∀(i:Nat),i+d=x.length→ ∀k,d<k→impl_Relation_47.l0 k x y x.length i=some (eqW (fun a b=> !relNe a b) (x.drop i) (y.drop i)):=by
 induction d with
 |zero=>
  intro i hd k hk;obtain⟨k,rfl,hk⟩:=fuel hk;rw[impl_Relation_47.l0,if_neg (by omega),List.drop_of_length_le (by omega),List.drop_of_length_le (by omega)];rfl
 |succ d ih=>
  intro i hd k hk;obtain⟨k,rfl,hk⟩:=fuel hk;rw[impl_Relation_47.l0,if_pos (by omega),if_pos (by omega),if_pos (by omega),if_pos (by omega),List.drop_eq_getElem_cons (i:=i) (l:=x) (by omega),List.drop_eq_getElem_cons (i:=i) (l:=y) (by omega),eqW];unfold rd_T42;rw[Int.toNat_natCast,getD_lt x _ i (by omega),getD_lt y _ i (by omega),show wrap64 ((i:Int)+1)=((i+1:Nat):Int) by rw[w64 (by omega) (by omega)];omega,ih (i+1) (by omega) k (by omega)]
  by_cases h:relNe x[i] y[i] =true
  ·have h':=h;unfold relNe at h';rw[if_pos h',h];rfl
  ·have h':=h;unfold relNe at h';rw[if_neg h',Bool.eq_false_iff.2 h];rfl
theorem eqRI (x y:List S42) (hx:x.length≤1048576) (k:Nat) (hk:x.length<k):impl_Relation_47.f k x y=some (eqW (fun a b=> !relNe a b) x y):=by
 unfold impl_Relation_47.f
 by_cases h:x.length=y.length
 ·rw[if_pos (by omega)];exact eqRIl x y hx h.symm x.length 0 (by omega) k hk
 ·rw[if_neg (by omega),eqW_len _ _ _ h]
theorem eqFl (l m:List S42) (fs gs:List S47) (hf:fs.length≤1048576) (hl:gs.length=fs.length) (hg: ∀y∈fs,y.f1.length≤1048576) (hh: ∀y∈gs,y.f1.length≤1048576) (d:Nat): ∀(i:Nat),i+d=fs.length→ ∀k,d+2097160<k→spec_EqualDatabases.l1 k i l fs m gs=some (eqW factEq (fs.drop i) (gs.drop i)):=by
 induction d with
 |zero=>
  intro i hd k hk;obtain⟨k,rfl,hk⟩:=fuel hk;rw[spec_EqualDatabases.l1,if_neg (by omega),List.drop_of_length_le (by omega),List.drop_of_length_le (by omega)];rfl
 |succ d ih=>
  intro i hd k hk;obtain⟨k,rfl,hk⟩:=fuel hk;have hx:=hg _ (getD_mem fs z47 i (by omega));have hy:=hh _ (getD_mem gs z47 i (by omega));rw[spec_EqualDatabases.l1,if_pos (by omega),if_pos (by omega),if_pos (by omega)];unfold rd_T47;rw[Int.toNat_natCast,cmpFS _ _ _ _ hx hy k (by omega),Option.bind_some,List.drop_eq_getElem_cons (i:=i) (l:=fs) (by omega),List.drop_eq_getElem_cons (i:=i) (l:=gs) (by omega),eqW,getD_lt fs _ i (by omega),getD_lt gs _ i (by omega),show wrap64 ((i:Int)+1)=((i+1:Nat):Int) by rw[w64 (by omega) (by omega)];omega,ih (i+1) (by omega) k (by omega)]
  by_cases h:cmpF fs[i].f0 fs[i].f1 gs[i].f0 gs[i].f1=0
  ·rw[if_pos h,show factEq fs[i] gs[i] =true by unfold factEq;rw[h];rfl];rfl
  ·rw[if_neg h,show factEq fs[i] gs[i] =false by unfold factEq;rw[beq_eq_false_iff_ne];exact h];rfl
theorem eqDl (l m:List S42) (fs gs:List S47) (hr:l.length≤1048576) (hm:m.length=l.length) (hf:fs.length≤1048576) (hl:gs.length=fs.length) (hg: ∀y∈fs,y.f1.length≤1048576) (hh: ∀y∈gs,y.f1.length≤1048576) (d:Nat): ∀(i:Nat),i+d=l.length→ ∀k,d+4000000<k→spec_EqualDatabases.l0 k i l fs m gs=some (eqW (fun a b=> !relNe a b) (l.drop i) (m.drop i)&&eqW factEq fs gs):=by
 induction d with
 |zero=>
  intro i hd k hk;obtain⟨k,rfl,hk⟩:=fuel hk;rw[spec_EqualDatabases.l0,if_neg (by omega),List.drop_of_length_le (by omega),List.drop_of_length_le (by omega)];have:=eqFl l m fs gs hf hl hg hh fs.length 0 (by omega) k (by omega);rw[show(0:Int)=((0:Nat):Int) from rfl,this];rfl
 |succ d ih=>
  intro i hd k hk;obtain⟨k,rfl,hk⟩:=fuel hk;rw[spec_EqualDatabases.l0,if_pos (by omega),if_pos (by omega),if_pos (by omega),List.drop_eq_getElem_cons (i:=i) (l:=l) (by omega),List.drop_eq_getElem_cons (i:=i) (l:=m) (by omega),eqW];unfold rd_T42;rw[Int.toNat_natCast,getD_lt l _ i (by omega),getD_lt m _ i (by omega),show wrap64 ((i:Int)+1)=((i+1:Nat):Int) by rw[w64 (by omega) (by omega)];omega,ih (i+1) (by omega) k (by omega)]
  by_cases h:relNe l[i] m[i] =true
  ·have h':=h;unfold relNe at h';rw[if_pos h',h];rfl
  ·have h':=h;unfold relNe at h';rw[if_neg h',Bool.eq_false_iff.2 h];rfl
theorem eqdbS (l m:List S42) (fs gs:List S47) (hr:l.length≤1048576) (hf:fs.length≤1048576) (hg: ∀y∈fs,y.f1.length≤1048576) (hh: ∀y∈gs,y.f1.length≤1048576) (k:Nat) (hk:8000000<k):
  spec_EqualDatabases.f k l fs m gs=some (eqW (fun a b=> !relNe a b) l m&&eqW factEq fs gs):=by
 obtain⟨k,rfl⟩: ∃z,k=z+1:=⟨k-1,by omega⟩;unfold spec_EqualDatabases.f
 by_cases h:l.length=m.length
 ·rw[if_pos (by omega),spec_EqualDatabases.j0]
  by_cases h2:fs.length=gs.length
  ·rw[if_neg (by simp[h2])];exact eqDl l m fs gs hr h.symm hf h2.symm hg hh l.length 0 (by omega) k (by omega)
  ·rw[if_pos (by simp;omega),eqW_len factEq _ _ h2,Bool.and_false]
 ·rw[if_neg (by omega),spec_EqualDatabases.j0,if_pos rfl,eqW_len _ _ _ h,Bool.false_and]
theorem eqdbI (l m:List S42) (fs gs:List S47) (hr:l.length≤1048576) (k:Nat) (hk:8000000<k):impl_EqualDatabases.f k l fs m gs=some (eqW (fun a b=> !relNe a b) l m&&eqW factEq fs gs):=by
 unfold impl_EqualDatabases.f;rw[eqRI l m hr k (by omega),Option.bind_some]
def factIs (b:Int) (lb:List Int) (x:S47):Bool:=cmpF x.f0 x.f1 b lb==0
theorem fidxSl (l:List S42) (fs:List S47) (hf:fs.length≤1048576) (hg: ∀y∈fs,y.f1.length≤1048576) (a:Int) (vs:List Int) (hv:vs.length≤1048576) (d:Nat): ∀(i:Nat),i+d=fs.length→ ∀k,d+2097160<k→spec_FactIndex.l0 k i l fs a vs=some (idxW (factIs a vs) (fs.drop i) i):=by
 induction d with
 |zero=>
  intro i hd k hk;obtain⟨k,rfl,hk⟩:=fuel hk;rw[spec_FactIndex.l0,if_neg (by omega),List.drop_of_length_le (by omega)];rfl
 |succ d ih=>
  intro i hd k hk;obtain⟨k,rfl,hk⟩:=fuel hk;have hy:=hg _ (getD_mem fs z47 i (by omega));have e1:wrap64 ((i:Int)+1)=((i+1:Nat):Int):=by rw[w64 (by omega) (by omega)];omega
  rw[spec_FactIndex.l0,if_pos (by omega),if_pos (by omega),e1];unfold rd_T47;rw[Int.toNat_natCast,cmpFS _ _ _ _ hy hv k (by omega),Option.bind_some,List.drop_eq_getElem_cons (by omega),idxW,getD_lt fs _ i (by omega)];unfold factIs
  by_cases h:cmpF fs[i].f0 fs[i].f1 a vs=0
  ·rw[if_pos h,if_pos (by simpa using h)]
  ·rw[if_neg h,if_neg (by simpa using h),ih (i+1) (by omega) k (by omega)];unfold factIs;rfl
theorem fidxS (l:List S42) (fs:List S47) (hf:fs.length≤1048576) (hg: ∀y∈fs,y.f1.length≤1048576) (a:Int) (vs:List Int) (hv:vs.length≤1048576) (k:Nat) (hk:4000000<k):spec_FactIndex.f k l fs a vs=some (idxW (factIs a vs) fs 0):=by
 unfold spec_FactIndex.f;exact fidxSl l fs hf hg a vs hv fs.length 0 (by omega) k (by omega)
theorem hasS (l:List S42) (hl:l.length≤1048576) (fs:List S47) (hf:fs.length≤1048576) (hg: ∀y∈fs,y.f1.length≤1048576) (a:Int) (vs:List Int) (hv:vs.length≤1048576) (k:Nat) (hk:8000000<k):spec_ContainsFact.f k l fs a vs=some (vDb l fs&&decide (idxW (factIs a vs) fs 0≥0)):=by
 unfold spec_ContainsFact.f;rw[vDS l hl fs hf hg k (by omega),Option.bind_some]
 by_cases h:vDb l fs=true
 ·rw[if_pos h,fidxS l fs hf hg a vs hv k (by omega),Option.bind_some,h,Bool.true_and]
 ·rw[if_neg h,Bool.eq_false_iff.2 h,Bool.false_and]
def insAt (fs:List S47) (a:Int) (vs:List Int):Nat→Nat→Nat
 |0,i=>i
 |d+1,i=>if cmpF (fs.getD i z47).f0 (fs.getD i z47).f1 a vs<0 then insAt fs a vs d (i+1) else i
theorem insAt_le (fs:List S47) (a:Int) (vs:List Int): ∀(d i:Nat),i≤insAt fs a vs d i∧insAt fs a vs d i≤i+d
 |0,i=>⟨Nat.le_refl _,Nat.le_refl _⟩
 |d+1,i=>by
  rw[insAt];have:=insAt_le fs a vs d (i+1)
  split<;>omega
def insF (fs:List S47) (a:Int) (vs:List Int):List S47:=fs.take (insAt fs a vs fs.length 0)++⟨a,vs⟩::fs.drop (insAt fs a vs fs.length 0)
def mayIns (l:List S42) (fs:List S47) (a:Int) (vs:List Int):Bool:=vDb l fs&&fits l a vs&&decide (idxW (factIs a vs) fs 0<0)&&decide (fs.length≠14)
theorem insF_len (fs:List S47) (a:Int) (vs:List Int):(insF fs a vs).length=fs.length+1:=by
 have:=insAt_le fs a vs fs.length 0;unfold insF;simp only[List.length_append,List.length_take,List.length_drop,List.length_cons];omega
theorem insF_mem (fs:List S47) (a:Int) (vs:List Int) (y:S47):y∈insF fs a vs↔y∈fs∨y=⟨a,vs⟩:=by
 unfold insF;rw[List.mem_append,List.mem_cons];constructor
 ·rintro(h|h|h)
  ·exact .inl (List.mem_of_mem_take h)
  ·exact .inr h
  ·exact .inl (List.mem_of_mem_drop h)
 ·rintro(h|h)
  ·rw[←List.take_append_drop (insAt fs a vs fs.length 0) fs,List.mem_append] at h
   rcases h with h|h
   ·exact .inl h
   ·exact .inr (.inr h)
  ·exact .inr (.inl h)
theorem copySl (l l2:List S42) (fs:List S47) (hf:fs.length≤1048576) (hg: ∀y∈fs,y.f1.length≤1048576) (d:Nat): ∀(i:Nat),i+d=fs.length→ ∀k,d<k→spec_l4Copy.l0 k i l fs l2 (fs.take i)=some (l2,fs):=by
 induction d with
 |zero=>
  intro i hd k hk;obtain⟨k,rfl,hk⟩:=fuel hk;rw[spec_l4Copy.l0,if_neg (by omega),List.take_of_length_le (by omega)]
 |succ d ih=>
  intro i hd k hk;obtain⟨k,rfl,hk⟩:=fuel hk;have hy:=hg _ (getD_mem fs z47 i (by omega));rw[spec_l4Copy.l0,if_pos (by omega),if_pos (by omega),Option.bind_some];unfold rd_T47;rw[Int.toNat_natCast,if_pos (by simp only[List.length_nil];omega),if_pos (by rw[List.length_take];omega),List.nil_append,show wrap64 ((i:Int)+1)=((i+1:Nat):Int) by rw[w64 (by omega) (by omega)];omega];rw[show fs.take i++ [(⟨(fs.getD i z47).f0,(fs.getD i z47).f1⟩:S47)] =fs.take (i+1) by rw[List.take_succ_eq_append_getElem (by omega),getD_lt fs _ i (by omega)]];exact ih (i+1) (by omega) k (by omega)
theorem copyS (l:List S42) (hl:l.length≤1048576) (fs:List S47) (hf:fs.length≤1048576) (hg: ∀y∈fs,y.f1.length≤1048576) (k:Nat) (hk:fs.length<k):spec_l4Copy.f k l fs=some (l,fs):=by
 unfold spec_l4Copy.f;rw[Option.bind_some,if_pos (by simp only[List.length_nil];omega),List.nil_append];exact copySl l l fs hf hg fs.length 0 (by omega) k hk
theorem insSl (l:List S42) (fs:List S47) (hf:fs.length≤1048576) (hg: ∀y∈fs,y.f1.length≤1048576) (a:Int) (vs:List Int) (hv:vs.length≤1048576) (d:Nat): ∀(i:Nat),i+d=fs.length→ ∀k,d+2097160<k→spec_InsertFact.l0 k i a vs l fs=some (l,fs.take (insAt fs a vs d i)++⟨a,vs⟩::fs.drop (insAt fs a vs d i),true):=by
 induction d with
 |zero=>
  intro i hd k hk;obtain⟨k,rfl,hk⟩:=fuel hk;rw[spec_InsertFact.l0,if_neg (by omega),insAt];simp only[Option.bind_some];rw[if_pos (by simp only[List.length_nil];omega),if_pos (by omega),if_pos (by omega),if_pos (by simp only[List.length_cons,List.length_nil,List.length_drop];omega),if_pos (by simp only[List.length_nil,List.length_take];omega),if_pos (by simp only[List.nil_append,List.length_append,List.length_cons,List.length_nil,List.length_drop,List.length_take];omega)];simp
 |succ d ih=>
  intro i hd k hk;obtain⟨k,rfl,hk⟩:=fuel hk;have hy:=hg _ (getD_mem fs z47 i (by omega));have e1:wrap64 ((i:Int)+1)=((i+1:Nat):Int):=by rw[w64 (by omega) (by omega)];omega
  rw[spec_InsertFact.l0,if_pos (by omega),if_pos (by omega),e1];unfold rd_T47;rw[Int.toNat_natCast,cmpFS _ _ _ _ hy hv k (by omega),Option.bind_some,insAt]
  by_cases c:cmpF (fs.getD i z47).f0 (fs.getD i z47).f1 a vs<0
  ·rw[if_pos c,if_pos c];exact ih (i+1) (by omega) k (by omega)
  ·rw[if_neg c,if_neg c];simp only[Option.bind_some];rw[if_pos (by simp only[List.length_nil];omega),if_pos (by omega),if_pos (by simp only[List.length_cons,List.length_nil,List.length_drop];omega),if_pos (by simp only[List.length_nil,List.length_take];omega),if_pos (by simp only[List.nil_append,List.length_append,List.length_cons,List.length_nil,List.length_drop,List.length_take];omega)];simp
theorem insS (l:List S42) (hl:l.length≤1048576) (fs:List S47) (hf:fs.length≤1048576) (hg: ∀y∈fs,y.f1.length≤1048576) (a:Int) (vs:List Int) (hv:vs.length≤1048576) (k:Nat) (hk:8000001<k):
  spec_InsertFact.f k l fs a vs=some (if mayIns l fs a vs=true then(l,insF fs a vs,true) else(l,fs,false)):=by
 obtain⟨k,rfl⟩: ∃z,k=z+1:=⟨k-1,by omega⟩;unfold spec_InsertFact.f mayIns;rw[copyS l hl fs hf hg _ (by omega),Option.bind_some,vDS l hl fs hf hg _ (by omega),Option.bind_some]
 by_cases h0:vDb l fs=true
 ·obtain⟨q1,q2,q3,q4⟩:=vDb_parts l fs h0;rw[if_pos h0,vFS l hl a vs hv _ (by omega),Option.bind_some];unfold vFact;rw[q1,Bool.true_and,h0,Bool.true_and]
  by_cases h1:fits l a vs=true
  ·rw[if_pos h1,hasS l hl fs hf hg a vs hv _ (by omega),Option.bind_some,h0,h1]
   by_cases h2:idxW (factIs a vs) fs 0≥0
   ·rw[if_pos (by simpa using h2),spec_InsertFact.j0,if_pos rfl,decide_eq_false (show¬idxW (factIs a vs) fs 0<0 by omega)];simp
   ·rw[if_neg (by simpa using h2),decide_eq_true (show idxW (factIs a vs) fs 0<0 by omega),spec_InsertFact.j0]
    by_cases h3:fs.length=14
    ·rw[if_pos (by rw[h3];rfl),decide_eq_false (by omega)];simp
    ·rw[if_neg (by rw[beq_iff_eq];omega),decide_eq_true h3,if_pos (by simp)];have:=insSl l fs hf hg a vs hv fs.length 0 (by omega) k (by omega);exact this
  ·rw[if_neg h1,spec_InsertFact.j0,if_pos rfl,Bool.eq_false_iff.2 h1];simp
 ·rw[if_neg h0,spec_InsertFact.j0,if_pos rfl,Bool.eq_false_iff.2 h0];simp
theorem and255 (x:Int):0≤Go.bits .and .i64 x 255∧Go.bits .and .i64 x 255≤255:=by
 unfold Go.bits;have h:(BitVec.ofInt IntKind.i64.bits x&&&BitVec.ofInt IntKind.i64.bits 255).toNat≤255:=by
  rw[BitVec.toNat_and];exact Nat.le_trans Nat.and_le_right (by decide)
 simp only[IntKind.wrap_i64];omega
theorem l1ByteT (s:List Int) (hs:s.length≤1048576) (i h:Int) (hi:0≤i): ∃x i' h',spec_l1Byte.f s i h=some (x,i',h')∧0≤x∧x≤255∧0≤i':=by
 unfold spec_l1Byte.f
 by_cases c:i<(s.length:Int)
 ·rw[if_pos c,if_pos hi];refine⟨_,_,_,rfl,(and255 _).1,(and255 _).2,?_⟩;rw[w64 (by omega) (by omega)];omega
 ·rw[if_neg c];exact⟨_,_,_,rfl,(and255 _).1,(and255 _).2,hi⟩
theorem l1BelowT (s:List Int) (hs:s.length≤1048576) (i h n:Int) (hi:0≤i): ∃x i' h',spec_l1Below.f s i h n=some (x,i',h')∧0≤x∧(0<n→x<n)∧(n≤0→x=0)∧0≤i':=by
 unfold spec_l1Below.f
 by_cases c:n≤0
 ·rw[if_pos c];exact⟨_,_,_,rfl,by omega,by omega,fun _=>rfl,hi⟩
 ·rw[if_neg c]
  by_cases c2:n≤256
  ·obtain⟨x,i1,h1,e1,a1,b1,d1⟩:=l1ByteT s hs i h hi;rw[if_pos c2,e1,Option.bind_some,if_neg (by omega)];refine⟨_,_,_,rfl,?_,?_,by omega,d1⟩
   ·rw[tm a1];exact Int.emod_nonneg _ (by omega)
   ·intro _;rw[tm a1];exact Int.emod_lt_of_pos _ (by omega)
  ·obtain⟨x1,i1,h1,e1,a1,b1,d1⟩:=l1ByteT s hs i h hi;obtain⟨x2,i2,h2,e2,a2,b2,d2⟩:=l1ByteT s hs i1 h1 d1;obtain⟨x3,i3,h3,e3,a3,b3,d3⟩:=l1ByteT s hs i2 h2 d2;obtain⟨x4,i4,h4,e4,a4,b4,d4⟩:=l1ByteT s hs i3 h3 d3;rw[if_neg c2,e1,Option.bind_some,e2,Option.bind_some,e3,Option.bind_some,e4,Option.bind_some,if_neg (by omega)];rw[w64 (n:=x1*16777216) (by omega) (by omega),w64 (n:=x2*65536) (by omega) (by omega),w64 (n:=x3*256) (by omega) (by omega),w64 (n:=x1*16777216+x2*65536) (by omega) (by omega),w64 (n:=x1*16777216+x2*65536+x3*256) (by omega) (by omega),w64 (n:=x1*16777216+x2*65536+x3*256+x4) (by omega) (by omega)];refine⟨_,_,_,rfl,?_,?_,by omega,d4⟩
   ·rw[tm (by omega)];exact Int.emod_nonneg _ (by omega)
   ·intro _;rw[tm (by omega)];exact Int.emod_lt_of_pos _ (by omega)
theorem l1PickT (s:List Int) (hs:s.length≤1048576) (i h:Int) (hi:0≤i) (l:List ByteArray) (hl:0<l.length): ∃x i' h',spec_l1Pick.f s i h l=some (x,i',h')∧x∈l∧0≤i':=by
 obtain⟨x,i1,h1,e1,a1,b1,_,d1⟩:=l1BelowT s hs i h (l.length:Int) hi;have:=b1 (by omega);unfold spec_l1Pick.f;rw[e1,Option.bind_some,if_pos a1,if_pos this];refine⟨_,_,_,rfl,?_,d1⟩;unfold rdOf;exact getD_mem l _ _ (by omega)
theorem l1PickIntT (s:List Int) (hs:s.length≤1048576) (i h:Int) (hi:0≤i) (l:List Int) (hl:0<l.length): ∃x i' h',spec_l1PickInt.f s i h l=some (x,i',h')∧x∈l∧0≤i':=by
 obtain⟨x,i1,h1,e1,a1,b1,_,d1⟩:=l1BelowT s hs i h (l.length:Int) hi;have:=b1 (by omega);unfold spec_l1PickInt.f;rw[e1,Option.bind_some,if_pos a1,if_pos this];refine⟨_,_,_,rfl,?_,d1⟩;unfold rd;exact getD_mem l _ _ (by omega)
theorem l1NewL (s:List Int) (hs:s.length≤1048576) (d:Nat): ∀(i:Nat) (h:Int),i+d=s.length→ ∀k,d<k→ ∃h',spec_l1New.l0 k s h i=some (s,0,h'):=by
 induction d with
 |zero=>
  intro i h hd k hk;obtain⟨k,rfl,hk⟩:=fuel hk;rw[spec_l1New.l0,if_neg (by omega)];exact⟨_,rfl⟩
 |succ d ih=>
  intro i h hd k hk;obtain⟨k,rfl,hk⟩:=fuel hk;rw[spec_l1New.l0,if_pos (by omega)]
  by_cases c:(i:Int)<4000
  ·rw[if_pos c,if_pos (by omega),show wrap64 ((i:Int)+1)=((i+1:Nat):Int) by rw[w64 (by omega) (by omega)];omega];exact ih (i+1) _ (by omega) k (by omega)
  ·rw[if_neg c];exact⟨_,rfl⟩
theorem l1NewT (s:List Int) (hs:s.length≤1048576) (k:Nat) (hk:s.length<k): ∃h',spec_l1New.f k s=some (s,0,h'):=by
 unfold spec_l1New.f;exact l1NewL s hs s.length 0 _ (by omega) k hk
def sigs (l:List S42):Prop:=l.length=4∧ ∀y∈l,1≤y.f1∧y.f1≤3∧y.f0.size≤2
theorem l2SigsT (s:List Int) (hs:s.length≤1048576) (i h:Int) (hi:0≤i): ∃l i' h',spec_l2Sigs.f s i h=some (l,i',h')∧sigs l∧0≤i':=by
 obtain⟨x,i1,h1,e1,a1,d1⟩:=l1PickIntT s hs i h hi [1,1,2,0] (by simp);obtain⟨y,i2,h2,e2,a2,b2,_,d2⟩:=l1BelowT s hs i1 h1 2 d1;unfold spec_l2Sigs.f;rw[e1,Option.bind_some,e2,Option.bind_some];refine⟨_,_,_,rfl,⟨rfl,?_⟩,d2⟩;intro y hy;simp only[List.mem_cons,List.not_mem_nil,or_false] at hy
 rcases hy with rfl|rfl|rfl|rfl
 ·exact⟨by decide,by decide,by decide⟩
 ·exact⟨by decide,by decide,by decide⟩
 ·exact⟨by simp,by simp,by simp;decide⟩
 ·exact⟨by simp,by simp,by simp;decide⟩
theorem l3FactL (s:List Int) (hs:s.length≤1048576) (l:List S42) (v x:Int) (hv:0<v) (hx0:0≤x) (hx1:x<(l.length:Int)) (ha:(rd_T42 l x).f1≤3) (d:Nat): ∀(vs:List Int) (i h:Int),0≤i→vs.length+d=4→ ∀k,d<k→(∀z∈vs,0≤z∧z<v)→ ∃ws i' h',spec_l3Fact.l0 k l v s i h x vs=some (x,ws,i',h')∧ws.length≤4∧((vs.length:Int)≤(rd_T42 l x).f1→(ws.length:Int)=(rd_T42 l x).f1)∧(∀z∈ws,0≤z∧z<v)∧0≤i':=by
 induction d with
 |zero=>
  intro vs i h hi hd k hk hz;obtain⟨k,rfl,hk⟩:=fuel hk;rw[spec_l3Fact.l0,if_pos hx0,if_pos hx1,if_neg (by omega)];exact⟨_,_,_,rfl,by omega,by omega,hz,hi⟩
 |succ d ih=>
  intro vs i h hi hd k hk hz;obtain⟨k,rfl,hk⟩:=fuel hk;rw[spec_l3Fact.l0,if_pos hx0,if_pos hx1]
  by_cases c:(vs.length:Int)<(rd_T42 l x).f1
  ·obtain⟨y,i1,h1,e1,a1,b1,_,d1⟩:=l1BelowT s hs i h v hi;rw[if_pos c,e1,Option.bind_some,if_pos (by omega)];obtain⟨ws,i2,h2,g1,g2,g3,g4,g5⟩:=ih (vs++ [y]) i1 h1 d1 (by simp;omega) k (by omega) (by
    intro z hz'
    rcases List.mem_append.1 hz' with hz'|hz'
    ·exact hz z hz'
    ·rw[List.mem_singleton] at hz';rw[hz'];exact⟨a1,b1 hv⟩)
   exact⟨ws,i2,h2,g1,g2,fun _=>g3 (by simp;omega),g4,g5⟩
  ·rw[if_neg c];exact⟨_,_,_,rfl,by omega,by omega,hz,hi⟩
theorem l3FactT (s:List Int) (hs:s.length≤1048576) (i h:Int) (hi:0≤i) (l:List S42) (hl:0<l.length) (hl2:l.length≤1048576) (hg: ∀y∈l,0≤y.f1∧y.f1≤3) (v:Int) (hv:0<v) (k:Nat) (hk:4<k): ∃x ws i' h',spec_l3Fact.f k s i h l v=some (x,ws,i',h')∧0≤x∧x<(l.length:Int)∧ws.length≤4∧(ws.length:Int)=(rd_T42 l x).f1∧(∀z∈ws,0≤z∧z<v)∧0≤i':=by
 obtain⟨x,i1,h1,e1,a1,b1,_,d1⟩:=l1BelowT s hs i h (l.length:Int) hi;have hx:=b1 (by omega);unfold spec_l3Fact.f;rw[e1,Option.bind_some];have hm:(rd_T42 l x)∈l:=by unfold rd_T42;exact getD_mem l _ _ (by omega)
 obtain⟨ws,i2,h2,g1,g2,g3,g4,g5⟩:=l3FactL s hs l v x hv a1 hx (hg _ hm).2 4 [] i1 h1 d1 rfl k hk (fun z hz=>by cases hz);exact⟨x,ws,i2,h2,g1,a1,hx,g2,g3 (by have:=(hg _ hm).1;simpa using this),g4,g5⟩
theorem l3AnyT (s:List Int) (hs:s.length≤1048576) (i h:Int) (hi:0≤i) (l:List S42) (hl:0<l.length) (hl2:l.length≤1048576) (hg: ∀y∈l,1≤y.f1∧y.f1≤3) (k:Nat) (hk:4<k): ∃x ws i' h',spec_l3Any.f k s i h l=some (x,ws,i',h')∧ws.length≤5∧ -1≤x∧x≤1048576∧(∀z∈ws,-1≤z∧z≤10)∧0≤i':=by
 obtain⟨x,ws,i1,h1,e1,x0,x1,g2,g3,g4,g5⟩:=l3FactT s hs i h hi l hl hl2 (fun y hy=>⟨by have:=(hg y hy).1;omega,(hg y hy).2⟩) 4 (by decide) k hk;obtain⟨y,i2,h2,e2,a2,b2,_,d2⟩:=l1BelowT s hs i1 h1 10 g5;have hm:(rd_T42 l x)∈l:=by unfold rd_T42;exact getD_mem l _ _ (by omega)
 have hw:=(hg _ hm).1;have hz: ∀z∈ws,-1≤z∧z≤10:=fun z hz=>by have:=g4 z hz;omega
 unfold spec_l3Any.f;rw[e1,Option.bind_some];dsimp only;rw[e2,Option.bind_some];dsimp only
 by_cases c0:y=0
 ·obtain⟨z,i3,h3,e3,a3,b3,_,d3⟩:=l1BelowT s hs i2 h2 6 d2;have:=b3 (by decide);rw[if_pos c0,e3,Option.bind_some];refine⟨_,_,_,_,rfl,by omega,?_,?_,hz,d3⟩
  ·rw[w64 (by omega) (by omega)];omega
  ·rw[w64 (by omega) (by omega)];omega
 rw[if_neg c0]
 by_cases c1:y=1
 ·rw[if_pos c1,if_pos (by omega)];refine⟨_,_,_,_,rfl,by simp;omega,by omega,by omega,?_,d2⟩;intro z hz'
  rcases List.mem_append.1 hz' with hz'|hz'
  ·exact hz z hz'
  ·rw[List.mem_singleton] at hz';omega
 rw[if_neg c1]
 by_cases c2:y=2
 ·obtain⟨z,i3,h3,e3,a3,d3⟩:=l1PickIntT s hs i2 h2 d2 [-1,10,9] (by simp);rw[if_pos c2,e3,Option.bind_some,if_pos (by omega)];refine⟨_,_,_,_,rfl,by rw[List.length_set];omega,by omega,by omega,?_,d3⟩;intro u hu
  rcases List.mem_or_eq_of_mem_set hu with hu|hu
  ·exact hz u hu
  ·rw[hu];simp only[List.mem_cons,List.not_mem_nil,or_false] at a3
   rcases a3 with rfl|rfl|rfl<;>omega
 ·rw[if_neg c2];exact⟨_,_,_,_,rfl,by omega,by omega,by omega,hz,d2⟩
def sm (fs:List S47) (n:Nat):Prop:=fs.length≤n∧ ∀y∈fs,y.f1.length≤5
theorem l4DbL (s:List Int) (hs:s.length≤1048576) (l:List S42) (hl:sigs l) (v:Int) (hv:0<v) (d:Nat): ∀(fs:List S47) (i h:Int),0≤i→d≤20→sm fs (40-d)→ ∀k,8000100+d<k→ ∃gs i' h',spec_l4Db.l0 k v d s i h l fs=some (l,gs,i',h')∧sm gs 40∧0≤i':=by
 induction d with
 |zero=>
  intro fs i h hi hd hf k hk;obtain⟨k,rfl⟩: ∃z,k=z+1:=⟨k-1,by omega⟩;rw[spec_l4Db.l0,if_neg (by omega)];exact⟨_,_,_,rfl,hf,hi⟩
 |succ d ih=>
  intro fs i h hi hd hf k hk;obtain⟨k,rfl⟩: ∃z,k=z+1:=⟨k-1,by omega⟩;have hl0:=hl.1;obtain⟨x,ws,i1,h1,e1,x0,x1,g2,g3,g4,g5⟩:=l3FactT s hs i h hi l (by omega) (by omega) (fun y hy=>⟨by have:=(hl.2 y hy).1;omega,(hl.2 y hy).2.1⟩) v hv k (by omega);rw[spec_l4Db.l0,if_pos (by omega),e1,Option.bind_some];dsimp only;rw[insS l (by omega) fs (by have:=hf.1;omega) (fun y hy=>by have:=hf.2 y hy;omega) x ws (by omega) k (by omega),Option.bind_some,show wrap64 (((d+1:Nat):Int)-1)=(d:Int) by rw[w64 (by omega) (by omega)];omega]
  by_cases c:mayIns l fs x ws=true
  ·rw[if_pos c];refine ih _ _ _ g5 (by omega) ⟨?_,fun y hy=>?_⟩ k (by omega)
   ·have:=hf.1;rw[insF_len];omega
   ·rcases(insF_mem fs x ws y).1 hy with h|h
    ·exact hf.2 y h
    ·rw[h];show ws.length≤5;omega
  ·rw[if_neg c];exact ih _ _ _ g5 (by omega) ⟨by have:=hf.1;omega,hf.2⟩ k (by omega)
theorem l4DbT (s:List Int) (hs:s.length≤1048576) (i h:Int) (hi:0≤i) (k:Nat) (hk:8000200<k): ∃l fs i' h',spec_l4Db.f k s i h=some (l,fs,i',h')∧sigs l∧(∀y∈l,1≤y.f1∧y.f1≤3)∧sm fs 40∧0≤i':=by
 obtain⟨l,i1,h1,e1,a1,d1⟩:=l2SigsT s hs i h hi;obtain⟨v,i2,h2,e2,a2,d2⟩:=l1PickIntT s hs i1 h1 d1 [2,2,3,3] (by simp);obtain⟨n,i3,h3,e3,a3,b3,_,d3⟩:=l1BelowT s hs i2 h2 11 d2;have hn:=b3 (by decide);have hv:0<v:=by
  simp only[List.mem_cons,List.not_mem_nil,or_false] at a2
  rcases a2 with rfl|rfl|rfl|rfl<;>decide
 have hz: ∀y∈l,1≤y.f1∧y.f1≤3:=fun y hy=>⟨(a1.2 y hy).1,(a1.2 y hy).2.1⟩;unfold spec_l4Db.f;rw[e1,Option.bind_some];dsimp only;rw[e2,Option.bind_some];dsimp only;rw[e3,Option.bind_some];dsimp only;have ew:wrap64 (2+n)=(((2+n).toNat:Nat):Int):=by rw[w64 (by omega) (by omega)];omega
 rw[ew];obtain⟨gs,i4,h4,e4,a4,d4⟩:=l4DbL s hs l a1 v hv (2+n).toNat [] i3 h3 d3 (by omega) ⟨Nat.zero_le _,fun y hy=>by cases hy⟩ k (by omega);exact⟨l,gs,i4,h4,e4,a1,hz,a4,d4⟩
theorem l2AnyT (s:List Int) (hs:s.length≤1048576) (i h:Int) (hi:0≤i): ∃n a b i' h',spec_l2Any.f s i h=some (n,a,b,i',h')∧n.size≤2∧ -1≤a∧a≤5∧ -1≤b∧b≤5∧0≤i':=by
 obtain⟨x,i1,h1,e1,a1,d1⟩:=l1PickT s hs i h hi [(⟨#[114]⟩:ByteArray),(⟨#[122]⟩:ByteArray),(⟨#[97]⟩:ByteArray),(⟨#[]⟩:ByteArray),(⟨#[82]⟩:ByteArray),(⟨#[97,98]⟩:ByteArray)] (by simp);obtain⟨y,i2,h2,e2,a2,b2,_,d2⟩:=l1BelowT s hs i1 h1 6 d1;obtain⟨z,i3,h3,e3,a3,b3,_,d3⟩:=l1BelowT s hs i2 h2 5 d2;have:=b2 (by decide);have:=b3 (by decide);unfold spec_l2Any.f;rw[e1,Option.bind_some];dsimp only;rw[e2,Option.bind_some];dsimp only;rw[e3,Option.bind_some];refine⟨_,_,_,_,_,rfl,?_,?_,?_,?_,?_,d3⟩
 ·simp only[List.mem_cons,List.not_mem_nil,or_false] at a1
  rcases a1 with rfl|rfl|rfl|rfl|rfl|rfl<;>decide
 all_goals (rw[w64 (by omega) (by omega)];omega)
theorem l4AnyT (s:List Int) (hs:s.length≤1048576) (i h:Int) (hi:0≤i) (k:Nat) (hk:8000200<k): ∃l fs i' h',spec_l4Any.f k s i h=some (l,fs,i',h')∧l.length≤4∧(∀y∈l,y.f0.size≤2)∧sm fs 41∧0≤i':=by
 obtain⟨l,fs,i1,h1,e1,a1,hz,a3,d1⟩:=l4DbT s hs i h hi k hk;obtain⟨n,i2,h2,e2,a2,b2,_,d2⟩:=l1BelowT s hs i1 h1 14 d1;have hl:=a1.1;have hn: ∀y∈l,y.f0.size≤2:=fun y hy=>(a1.2 y hy).2.2;have hf:=a3.1;have a4:sm fs 41:=⟨by omega,a3.2⟩;unfold spec_l4Any.f;rw[e1,Option.bind_some];dsimp only;rw[e2,Option.bind_some];dsimp only
 by_cases c0:n=0
 ·obtain⟨x,ws,i3,h3,e3,w1,_,_,_,d3⟩:=l3AnyT s hs i2 h2 d2 l (by omega) (by omega) hz k (by omega);rw[if_pos c0,e3,Option.bind_some,if_pos (by omega)];refine⟨_,_,_,_,rfl,by omega,hn,⟨by simp;omega,fun y hy=>?_⟩,d3⟩
  rcases List.mem_append.1 hy with hy|hy
  ·exact a3.2 y hy
  ·rw[List.mem_singleton] at hy;rw[hy];exact w1
 rw[if_neg c0]
 by_cases c1:n=1
 ·obtain⟨x,i3,h3,e3,x0,x1,_,d3⟩:=l1BelowT s hs i2 h2 4 d2;have:=x1 (by decide);rw[if_pos c1,e3,Option.bind_some,if_pos x0,if_pos (by omega)];exact⟨_,_,_,_,rfl,by rw[List.length_take];omega,fun y hy=>hn y (List.mem_of_mem_take hy),a4,d3⟩
 rw[if_neg c1]
 by_cases c2:n=2
 ·obtain⟨x,i3,h3,e3,x0,x1,_,d3⟩:=l1BelowT s hs i2 h2 4 d2;obtain⟨m,p,q,i4,h4,e4,m1,_,_,_,_,d4⟩:=l2AnyT s hs i3 h3 d3;have:=x1 (by decide);rw[if_pos c2,e3,Option.bind_some];dsimp only;rw[e4,Option.bind_some,if_pos x0,if_pos (by omega)];refine⟨_,_,_,_,rfl,by rw[List.length_set];omega,fun y hy=>?_,a4,d4⟩
  rcases List.mem_or_eq_of_mem_set hy with hy|hy
  ·exact hn y hy
  ·rw[hy];exact m1
 ·rw[if_neg c2];exact⟨_,_,_,_,rfl,by omega,hn,a4,d2⟩
theorem l1TextL (s:List Int) (hs:s.length≤1048576) (m:Int) (d:Nat): ∀(n:Int) (xs:List Int) (i h:Int),0≤i→n≤d→d≤100000→xs.length+d≤1000000→ ∀k,d<k→ ∃t i' h',spec_l1Text.l0 k xs m n s i h=some (t,i',h')∧t.size≤xs.length+d∧0≤i':=by
 induction d with
 |zero=>
  intro n xs i h hi hn _ _ k hk;obtain⟨k,rfl,hk⟩:=fuel hk;rw[spec_l1Text.l0,if_neg (by omega)];exact⟨_,_,_,rfl,by rw[sn_size];omega,hi⟩
 |succ d ih=>
  intro n xs i h hi hn hd hx k hk;obtain⟨k,rfl,hk⟩:=fuel hk;rw[spec_l1Text.l0]
  by_cases c:n>0
  ·obtain⟨x,i1,h1,e1,a1,b1,d1⟩:=l1ByteT s hs i h hi;have hw:wrap64 (n-1)=n-1:=w64 (by omega) (by omega);have st:=fun z=>ih (n-1) (xs++ [z]) i1 h1 d1 (by omega) (by omega) (by simp only[List.length_append,List.length_singleton];omega) k (by omega);rw[if_pos c,e1,Option.bind_some,hw]
   by_cases c1:m=1
   ·rw[if_pos c1,if_neg (by omega),if_pos (by omega)];obtain⟨t,i',h',e,f,g⟩:=st (Int.tmod x 2%256);exact⟨t,i',h',e,by simp only[List.length_append,List.length_singleton] at f;omega,g⟩
   ·rw[if_neg c1]
    by_cases c2:m=2
    ·rw[if_pos c2,if_pos (by omega)];obtain⟨t,i',h',e,f,g⟩:=st (wrap64 (97+Int.tmod x 4)%256);exact⟨t,i',h',e,by simp only[List.length_append,List.length_singleton] at f;omega,g⟩
    ·rw[if_neg c2,if_pos (by omega)];obtain⟨t,i',h',e,f,g⟩:=st (x%256);exact⟨t,i',h',e,by simp only[List.length_append,List.length_singleton] at f;omega,g⟩
  ·rw[if_neg c];exact⟨_,_,_,rfl,by rw[sn_size];omega,hi⟩
theorem l1TextT (s:List Int) (hs:s.length≤1048576) (i h:Int) (hi:0≤i) (n:Int) (hn0:0≤n) (hn:n≤90000) (k:Nat) (hk:100000<k): ∃t i' h',spec_l1Text.f k s i h n=some (t,i',h')∧(t.size:Int)≤n∧0≤i':=by
 obtain⟨x,i1,h1,e1,a1,b1,_,d1⟩:=l1BelowT s hs i h 4 hi;obtain⟨y,i2,h2,e2,a2,b2,_,d2⟩:=l1BelowT s hs i1 h1 (n+1) d1;have:=b2 (by omega);unfold spec_l1Text.f;rw[e1,Option.bind_some,w64 (by omega) (by omega),e2,Option.bind_some];obtain⟨t,i3,h3,e3,f3,d3⟩:=l1TextL s hs x n.toNat y [] i2 h2 d2 (by omega) (by omega) (by simp only[List.length_nil];omega) k (by omega);exact⟨t,i3,h3,e3,by simp only[List.length_nil] at f3;omega,d3⟩
theorem ex_le (a:ByteArray) (i j:Nat):(a.extract i j).size≤a.size:=by rw[ByteArray.size_extract];omega
theorem sn1 (z:Int):(strOfNums [z]).size=1:=by rw[sn_size];rfl
theorem l1SpoilT (s:List Int) (hs:s.length≤1048576) (i h:Int) (hi:0≤i) (a:ByteArray) (ha:a.size≤1000000000) (k:Nat) (hk:100000<k): ∃t i' h',spec_l1Spoil.f k s i h a=some (t,i',h')∧t.size≤a.size+3∧0≤i':=by
 unfold spec_l1Spoil.f
 by_cases c:(a.size:Int)=0
 ·obtain⟨t,i1,h1,e1,f1,d1⟩:=l1TextT s hs i h hi 3 (by omega) (by omega) k hk;rw[if_pos c,e1,Option.bind_some];exact⟨t,i1,h1,rfl,by omega,d1⟩
 ·obtain⟨x,i1,h1,e1,a1,b1,_,d1⟩:=l1BelowT s hs i h (a.size:Int) hi;have hx:=b1 (by omega);obtain⟨y,i2,h2,e2,a2,b2,_,d2⟩:=l1BelowT s hs i1 h1 4 d1;have w1:wrap64 (x+1)=x+1:=w64 (by omega) (by omega);have s1:=ex_le a 0 x.toNat;have s2:=ex_le a (x+1).toNat a.size;have s3:=ex_le a x.toNat a.size;have z1:(a.extract 0 x.toNat).size=x.toNat:=by rw[ByteArray.size_extract];omega
  have z2:(a.extract (x+1).toNat a.size).size=a.size-(x+1).toNat:=by rw[ByteArray.size_extract];omega
  have z3:(a.extract x.toNat a.size).size=a.size-x.toNat:=by rw[ByteArray.size_extract];omega
  rw[if_neg c,e1,Option.bind_some,e2,Option.bind_some];dsimp only;rw[w1]
  by_cases c0:y=0
  ·rw[if_pos c0,if_pos a1,if_pos (by omega),if_pos (by omega),if_pos (by omega),if_pos (by omega)];exact⟨_,_,_,rfl,by rw[ByteArray.size_append];omega,d2⟩
  ·rw[if_neg c0]
   by_cases c1:y=1
   ·obtain⟨u,i3,h3,e3,a3,b3,d3⟩:=l1ByteT s hs i2 h2 d2;rw[if_pos c1,if_pos a1,if_pos (by omega),e3,Option.bind_some,Option.bind_some];dsimp only;rw[if_pos (by rw[sn1];omega),if_pos (by rw[ByteArray.size_append,sn1];omega)];exact⟨_,_,_,rfl,by rw[ByteArray.size_append,ByteArray.size_append,sn1];omega,d3⟩
   ·rw[if_neg c1]
    by_cases c2:y=2
    ·rw[if_pos c2,if_pos a1,if_pos (by omega)];exact⟨_,_,_,rfl,by omega,d2⟩
    ·obtain⟨u,i3,h3,e3,a3,b3,_,d3⟩:=l1BelowT s hs i2 h2 255 d2;rw[if_neg c2,if_pos a1,if_pos (by omega),if_pos (by omega),e3,Option.bind_some,Option.bind_some];dsimp only;rw[if_pos (by rw[sn1];omega),if_pos (by omega),if_pos (by omega),if_pos (by rw[ByteArray.size_append,sn1];omega)];exact⟨_,_,_,rfl,by rw[ByteArray.size_append,ByteArray.size_append,sn1];omega,d3⟩
theorem l1OnceT (s:List Int) (hs:s.length≤1048576) (i h n:Int) (hi:0≤i): ∃b i' h',spec_l1Once.f s i h n=some (b,i',h')∧0≤i':=by
 obtain⟨x,i1,h1,e1,_,_,_,d1⟩:=l1BelowT s hs i h n hi;unfold spec_l1Once.f;rw[e1,Option.bind_some];exact⟨_,_,_,rfl,d1⟩
theorem cmpI_self: ∀xs:List Int,cmpI xs xs=0
 | [] =>rfl
 |x::xs=>by rw[cmpI,if_neg (by omega),if_neg (by omega),cmpI_self xs]
theorem cmpF_self (a:Int) (x:List Int):cmpF a x a x=0:=by
 unfold cmpF;rw[if_neg (by omega),if_neg (by omega),cmpI_self]
theorem eqW_refl {α:Type} (p:α→α→Bool) (h: ∀x,p x x=true): ∀xs,eqW p xs xs=true
 | [] =>rfl
 |x::xs=>by rw[eqW,h x,eqW_refl p h xs];rfl
theorem eqOwn (l:List S42) (hl:l.length≤1048576) (fs:List S47) (hf:fs.length≤1048576) (hg: ∀y∈fs,y.f1.length≤1048576) (k:Nat) (hk:8000000<k):spec_EqualDatabases.f k l fs l fs=some true:=by
 rw[eqdbS l l fs fs hl hf hg hg k hk,eqW_refl _ (fun x=>by simp[relNe]) l,eqW_refl _ (fun x=>by unfold factEq;rw[cmpF_self];rfl) fs];rfl
theorem sm_g {fs:List S47} {n:Nat} (h:sm fs n): ∀y∈fs,y.f1.length≤1048576:=fun y hy=>by have:=h.2 y hy;omega
theorem drawFD (s:List Int) (hs:s.length≤1048576) (k:Nat) (hk:9000000<k): ∃l fs,spec_DrawFormatDatabase.f k s=some (l,fs)∧l.length≤4∧sm fs 41:=by
 obtain⟨h,e⟩:=l1NewT s hs k (by omega);obtain⟨l,fs,i1,h1,e1,hl,_,hf,_⟩:=l4AnyT s hs 0 h (by omega) k (by omega);unfold spec_DrawFormatDatabase.f;rw[e,Option.bind_some];dsimp only;rw[e1,Option.bind_some];exact⟨l,fs,rfl,hl,hf⟩
theorem drawPD (s:List Int) (hs:s.length≤1048576) (k:Nat) (hk:9500000<k): ∃t,spec_DrawParseDatabase.f k s=some t∧t.size≤1048576:=by
 obtain⟨h,e⟩:=l1NewT s hs k (by omega);obtain⟨l,fs,i1,h1,e1,hl,_,hf,d1⟩:=l4DbT s hs 0 h (by omega) k (by omega);have hl0:=hl.1;have hf0:=hf.1;have f:=(fdV l (by omega) fs (by omega) (sm_g hf) k (by omega)).1;have hz:=dT_small l fs (by omega) (by omega);obtain⟨x,i2,h2,e2,_,_,_,d2⟩:=l1BelowT s hs i1 h1 4 d1;unfold spec_DrawParseDatabase.f;rw[e,Option.bind_some];dsimp only;rw[e1,Option.bind_some];dsimp only;rw[f,Option.bind_some,e2,Option.bind_some];dsimp only
 by_cases c0:x=0
 ·obtain⟨t,i3,h3,e3,f3,_⟩:=l1SpoilT s hs i2 h2 d2 (dT l fs) (by omega) k (by omega);rw[if_pos c0,e3,Option.bind_some];exact⟨t,rfl,by omega⟩
 rw[if_neg c0]
 by_cases c1:x=1
 ·obtain⟨u,i3,h3,e3,m3,_⟩:=l1PickT s hs i2 h2 d2 (([(⟨#[]⟩:ByteArray),(⟨#[58]⟩:ByteArray),(⟨#[114,49,47,50,58]⟩:ByteArray),(⟨#[114,49,47,50,58,114,49,124,50]⟩:ByteArray),(⟨#[114,49,47,50,58,114,49,124,50,32,114,49,124,49]⟩:ByteArray),(⟨#[114,49,47,50,58,115,49,124,50]⟩:ByteArray),(⟨#[114,49,47,50,32,58]⟩:ByteArray),(⟨#[115,49,47,50,32,114,49,47,50,58]⟩:ByteArray),(⟨#[114,49,47,50,58,114,49,124,50,32]⟩:ByteArray),(⟨#[58,58]⟩:ByteArray)] :List ByteArray)) (by simp);rw[if_pos c1,e3,Option.bind_some];refine⟨u,rfl,?_⟩;simp only[List.mem_cons,List.not_mem_nil,or_false] at m3
  rcases m3 with rfl|rfl|rfl|rfl|rfl|rfl|rfl|rfl|rfl|rfl
  all_goals (show _≤1048576;decide)
 ·rw[if_neg c1];exact⟨_,rfl,by omega⟩
theorem drawED (s:List Int) (hs:s.length≤1048576) (k:Nat) (hk:9000000<k): ∃l fs m gs,spec_DrawEqualDatabases.f k s=some (l,fs,m,gs)∧l.length≤4∧sm fs 41∧m.length≤4∧sm gs 41:=by
 obtain⟨h,e⟩:=l1NewT s hs k (by omega);obtain⟨l,fs,i1,h1,e1,hl,_,hf,d1⟩:=l4AnyT s hs 0 h (by omega) k (by omega);obtain⟨b,i2,h2,e2,d2⟩:=l1OnceT s hs i1 h1 2 d1;have hf0:=hf.1;unfold spec_DrawEqualDatabases.f;rw[e,Option.bind_some];dsimp only;rw[e1,Option.bind_some];dsimp only;rw[e2,Option.bind_some];dsimp only
 by_cases c:b=true
 ·obtain⟨m,gs,i3,h3,e3,hm,_,hg,_⟩:=l4AnyT s hs i2 h2 d2 k (by omega);rw[if_pos c,e3,Option.bind_some];exact⟨l,fs,m,gs,rfl,hl,hf,hm,hg⟩
 ·rw[if_neg c,copyS l (by omega) fs (by omega) (sm_g hf) k (by omega),Option.bind_some];exact⟨l,fs,l,fs,rfl,hl,hf,hl,hf⟩
theorem FnDatabaseFormat:FnDatabaseFormatPure:=by
 intro s hs
 by_cases hn:(s.length:Int)>1048576
 ·refine⟨0,?_⟩;unfold laws_FnDatabaseFormat.f laws_big.f;rw[decide_eq_true hn,Option.bind_some,if_pos rfl]
 have hsl:s.length≤1048576:=by omega
 refine⟨13000001,?_⟩;generalize hk:(13000001:Nat)=k;obtain⟨l,fs,e1,hl,hf⟩:=drawFD s hsl k (by omega);obtain⟨t,e2,ht⟩:=drawPD s hsl k (by omega);obtain⟨a,gs,b,bs,e3,ha,has,hb,hbs⟩:=drawED s hsl k (by omega);have hf0:=hf.1;have has0:=has.1;have hbs0:=hbs.1;have hz:=dT_small l fs hl hf.1;have ok:=pD_ok t ht;have td:=pD_told t;have q1:=(fdV (pD t).1 ok.hl (pD t).2.1 ok.hf ok.hg k (by omega)).2;unfold laws_FnDatabaseFormat.f;rw[show laws_big.f s=some false by unfold laws_big.f;rw[decide_eq_false hn],Option.bind_some,if_neg (by decide),e1,Option.bind_some];dsimp only;rw[(fdV l (by omega) fs (by omega) (sm_g hf) k (by omega)).2,Option.bind_some,pdI _ (by omega) k (by omega),Option.bind_some,e2,Option.bind_some,pdI t ht k (by omega),Option.bind_some,pdS t ht k (by omega),Option.bind_some,e3,Option.bind_some,vDS l (by omega) fs (by omega) (sm_g hf) k (by omega),Option.bind_some];dsimp only;have tail:(if((pD t).2.2==(pD t).2.2)=true then(if(pD t).2.2=true then((impl_FormatDatabase.f k (pD t).1 (pD t).2.1).bind fun t789=>(if t789.toList=t.toList then((impl_EqualDatabases.f k a gs b bs).bind fun t790=>((spec_EqualDatabases.f k a gs b bs).bind fun t791=>(some (t790==t791)))) else(some false))) else((impl_EqualDatabases.f k a gs b bs).bind fun t792=>((spec_EqualDatabases.f k a gs b bs).bind fun t793=>(some (t792==t793))))) else(some false))=some true:=by
  rw[eqdbI a b gs bs (by omega) k (by omega),eqdbS a b gs bs (by omega) (by omega) (sm_g has) (sm_g hbs) k (by omega),if_pos (by simp)]
  by_cases c:(pD t).2.2=true
  ·rw[if_pos c,q1,Option.bind_some,td c,if_pos rfl,Option.bind_some,Option.bind_some];simp
  ·rw[if_neg c,Option.bind_some,Option.bind_some];simp
 rw[pD_dT]
 by_cases h:vDb l fs=true
 ·rw[if_pos h,h];dsimp only;rw[if_pos (by rfl),if_pos rfl,eqOwn l (by omega) fs (by omega) (sm_g hf) k (by omega),Option.bind_some,if_pos rfl];exact tail
 ·rw[if_neg h,Bool.eq_false_iff.2 h];dsimp only;rw[if_pos (by rfl),if_neg (by decide)];exact tail
end Go.Proofs.YtckpikfbhlhhjaaGreatDoor.Pure
