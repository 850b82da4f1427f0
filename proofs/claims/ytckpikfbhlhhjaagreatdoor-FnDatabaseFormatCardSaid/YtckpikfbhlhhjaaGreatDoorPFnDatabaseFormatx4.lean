import Derived.Test.YtckpikfbhlhhjaaGreatDoorPFnDatabaseFormatx0
import Derived.Test.YtckpikfbhlhhjaaGreatDoorPFnDatabaseFormatx2
namespace Go.Proofs.YtckpikfbhlhhjaaGreatDoor.PFnDatabaseFormat
open Go.RowKit Go.Proofs.YtckpikfbhlhhjaaGreatDoorW.PrintWords Go.Proofs.YtckpikfbhlhhjaaGreatDoorW.PrintLast Go.Proofs.YtckpikfbhlhhjaaGreatDoorW.PrintMore
attribute [local go_sem] max2_int min2_int max_two min_two max_three min_three max_four min_four
set_option linter.unusedVariables false
set_option linter.unusedSimpArgs false

/-! ### spec_AreValidRelations: function 46 -/
/-- x lies between a and b. -/
def inB (x a b:Int):Bool:=decide (a≤x∧x≤b)
theorem inI (x a b:Int):impl_within.f x a b=some (inB x a b):=by
 unfold impl_within.f inB
 by_cases h:a≤x
 ·rw[if_pos h];simp[h]
 ·rw[if_neg h];simp[h]
/-- A valid relation. -/
def vRel (r:S42):Bool:=decide ((r.f0.size:Int)=1∧97≤bt r.f0 0∧bt r.f0 0≤122)&&inB r.f1 1 3&&inB r.f2 0 r.f1
theorem vRelI (r:S42):impl_IsValidRelation.f r.f0 r.f1 r.f2=some (vRel r):=by
 unfold impl_IsValidRelation.f vRel;simp only[inI]
 by_cases h1:(r.f0.size:Int)=1
 ·rw[if_pos h1,if_pos (by omega)]
  by_cases h2:bt r.f0 0≥97
  ·rw[if_pos h2]
   by_cases h3:bt r.f0 0≤122
   ·rw[if_pos h3];have h2':97≤bt r.f0 0:=h2;simp only[Option.bind_some,h1,h2',h3,and_self,decide_true,Bool.true_and]
    cases inB r.f1 1 3<;>simp
   ·rw[if_neg h3];simp[h3]
  ·rw[if_neg h2];have h2': ¬97≤bt r.f0 0:=h2;simp[h2']
 ·rw[if_neg h1];simp[h1]
/-- From place i on each relation is valid and stands behind its forerunner. -/
def vRelsFrom (l:List S42):Nat→Nat→Bool
 |0,_=>decide ((l.length:Int)≤4)
 |d+1,i=>vRel (l.getD i z42)&&(decide (i=0)||Op.bytesLess (l.getD (i-1) z42).f0.toList (l.getD i z42).f0.toList)&&vRelsFrom l d (i+1)
/-- Valid relations. -/
def vRels (l:List S42):Bool:=vRelsFrom l l.length 0

theorem inS (x a b:Int):spec_l1In.f x a b=some (inB x a b):=by
 unfold spec_l1In.f inB
 by_cases h:a≤x
 ·rw[if_pos h];simp[h]
 ·rw[if_neg h];simp[h]
theorem vRelS (r:S42):spec_IsValidRelation.f r.f0 r.f1 r.f2=some (vRel r):=by
 rw[←vRelI r];unfold impl_IsValidRelation.f spec_IsValidRelation.f;simp only[inS,inI]
def spec_AreValidRelations.f (l0:List S42):Option Bool:=some (vRels l0)
set_option maxHeartbeats 4000000 in
set_option maxRecDepth 100000 in
theorem spec_AreValidRelations.calls (A0:Option Addr) (c0:Nat) (l0:List S42) (r:Bool) (w:World) (hr0:Kd.C k42 w A0 l0.length l0) (hc0:l0.length≤c0) (h:spec_AreValidRelations.f l0=some r):
  Calls Tryz.prog 46 #[.slice A0 l0.length c0] w fun e w'=>e= .returned (.bool r)∧Below w.heap.size w w':=by
 obtain rfl:=Option.some.inj h;have hl:l0.length≤9223372036854775807:=hr0.2.1;have HR:=aM hr0;clear hr0 h
 go_enter Tryz.func46,Tryz.ntmps46
 go_wp2
 go_loopg [3] l0.length (fun gg s3 wr=> ∃i:Nat,i≤l0.length∧l0.length-i≤gg∧s3= .int .i64 i∧Aside0 (Below w.heap.size w wr)∧Aside0 (vRelsFrom l0 (l0.length-i) i=vRels l0))
 case atStart=>exact⟨0,Nat.zero_le _,by omega,rfl,⟨Below.refl _ _⟩,⟨rfl⟩⟩
 case round=>
  obtain⟨i,hi,hg,rfl,BW,HA⟩:=hrel
  by_cases hlt:i<l0.length
  ·have hltz:(i:Int)<(l0.length:Int):=by omega
   have hi00:(0:Int)≤(i:Int):=by omega
   obtain⟨ad,e,h0,h1,h2⟩:=at_T42 (Kd.C_below HR.out BW.out) (i:Int) (by omega) hltz;rw[Int.toNat_natCast] at h0 h1 h2
   cases e
   have hrd:rd_T42 l0 (i:Int)=l0.getD i z42:=by unfold rd_T42;rw[Int.toNat_natCast]
   rw[hrd] at h0 h1 h2;clear hrd;have HX:Aside0 (vRelsFrom l0 (l0.length-i) i=(vRel (l0.getD i z42)&&(decide (i=0)||Op.bytesLess (l0.getD (i-1) z42).f0.toList (l0.getD i z42).f0.toList)&&vRelsFrom l0 (l0.length-(i+1)) (i+1))):=⟨by
    rw[show l0.length-i=(l0.length-(i+1))+1 by omega];rfl⟩
   generalize l0.getD i z42=x at h0 h1 h2 HX;have HC:Aside0 (∀(W:World) d os,Calls Tryz.prog 82 #[.agg #[.string x.f0,.int .i64 x.f1,.int .i64 x.f2]] (Go.Sort.grow (redrawn W d) os) fun e w''=>e= .returned (.bool (vRel x))∧ ∃p:Regrown,w''=Go.Sort.grow (redrawn W p.d) p.os):=⟨fun W d os=>Calls.regrown_of (spec_IsValidRelation.calls x.f0 x.f1 x.f2 (vRel x) _ (vRelS x))⟩;have f0:=cell_regrown h0;have f1:=cell_regrown h1;have f2:=cell_regrown h2;clear h0 h1 h2
   by_cases hi0:i=0∨vRel x=false
   ·have hd0:vRel x=true→decide (0<i)=false:=fun hx=>by
     rcases hi0 with h|h
     ·simp[h]
     ·rw[hx] at h;cases h
    have hX:vRelsFrom l0 (l0.length-i) i=(vRel x&&vRelsFrom l0 (l0.length-(i+1)) (i+1)):=by
     rw[HX.out]
     rcases hi0 with h|h
     ·simp[h]
     ·simp[h]
    have HX:=aM hX;clear hX hi0
    cases hv:vRel x with
    |false=>
     have HV:=aM hv;clear hv hd0
     go_wp2_with fail
     have hc:=HC.out wr;rw[HV.out] at hc;have HC:=aM hc;clear hc;refine wp_region_quiet_below (by kernel_rfl) (by kernel_rfl) ?_
     repeat(go_big_quiet_step (exact HC.out _ _))
     refine wpQuiet_nil ?_;intro _ hw';obtain⟨⟨dq,osq⟩,hw''⟩:=hw';subst hw''
     go_wp2
     go_ret
     exact⟨by rw[←HA.out,HX.out,HV.out];rfl,below_then BW.out BW.out.size (below_regrown _ _ _)⟩
    |true=>
     have hd0:=hd0 hv;have HV:=aM hv;clear hv
     go_wp2_with fail
     have hc:=HC.out wr;rw[HV.out] at hc;have HC:=aM hc;clear hc;refine wp_region_quiet_below (by kernel_rfl) (by kernel_rfl) ?_
     repeat(go_big_quiet_step (exact HC.out _ _))
     refine wpQuiet_nil ?_;intro _ hw';obtain⟨⟨dq,osq⟩,hw''⟩:=hw';subst hw''
     go_wp2
     go_roundg (l0.length-(i+1))
     case measure=>omega
     case rel=>exact⟨i+1,by omega,by omega,by go_num,⟨below_then BW.out BW.out.size (below_regrown _ _ _)⟩,⟨by rw[←HA.out,HX.out,HV.out];rfl⟩⟩
   ·have hi1:i≠0:=fun h=>hi0 (.inl h);have hv:vRel x=true:=by
     cases h:vRel x with
     |true=>rfl
     |false=>exact absurd (.inr h) hi0
    clear hi0;obtain⟨ad',e',k0,_,_⟩:=at_T42 (Kd.C_below HR.out BW.out) ((i-1:Nat):Int) (by omega) (by omega)
    cases e'
    rw[Int.toNat_natCast] at k0;have hrd:rd_T42 l0 ((i-1:Nat):Int)=l0.getD (i-1) z42:=by unfold rd_T42;rw[Int.toNat_natCast]
    rw[hrd] at k0;clear hrd;have hX:vRelsFrom l0 (l0.length-i) i=(Op.bytesLess (l0.getD (i-1) z42).f0.toList x.f0.toList&&vRelsFrom l0 (l0.length-(i+1)) (i+1)):=by
     rw[HX.out,hv];simp[hi1]
    have HX:=aM hX;have HV:=aM hv;clear hX hv;generalize (l0.getD (i-1) z42).f0=y at k0 HX;have f3:=cell_regrown k0;clear k0;have e3:IntKind.i64.wrap ((i:Int)-1)=((i-1:Nat):Int):=by rw[IntKind.wrap_i64];omega
    have hd0:decide (0<i)=true:=by simp;omega
    have hm0:(0:Int)≤((i-1:Nat):Int):=by omega
    have hm1:((i-1:Nat):Int)<(l0.length:Int):=by omega
    go_wp2_with fail
    have hc:=HC.out wr;rw[HV.out] at hc;have HC:=aM hc;clear hc
    cases hb:Op.bytesLess y.toList x.f0.toList with
    |false=>
     refine wp_region_quiet_below (by kernel_rfl) (by kernel_rfl) ?_
     repeat(go_big_quiet_step (exact HC.out _ _))
     refine wpQuiet_nil ?_;intro _ hw';obtain⟨⟨dq,osq⟩,hw''⟩:=hw';subst hw'';have HB:=aM hb;clear hb
     go_wp2
     go_ret
     exact⟨by rw[←HA.out,HX.out,HB.out];rfl,below_then BW.out BW.out.size (below_regrown _ _ _)⟩
    |true=>
     refine wp_region_quiet_below (by kernel_rfl) (by kernel_rfl) ?_
     repeat(go_big_quiet_step (exact HC.out _ _))
     refine wpQuiet_nil ?_;intro _ hw';obtain⟨⟨dq,osq⟩,hw''⟩:=hw';subst hw'';have HB:=aM hb;clear hb
     go_wp2
     go_roundg (l0.length-(i+1))
     case measure=>omega
     case rel=>exact⟨i+1,by omega,by omega,by go_num,⟨below_then BW.out BW.out.size (below_regrown _ _ _)⟩,⟨by rw[←HA.out,HX.out,HB.out];rfl⟩⟩
  ·have hd:decide (i<l0.length)=false:=decide_eq_false hlt;have hle:l0.length≤i:=by omega
   have HX:Aside0 (vRels l0=decide (l0.length≤4)):=⟨by rw[←HA.out,show l0.length-i=0 by omega];exact decide_eq_decide.2 (by omega)⟩;clear hlt
   go_wp2
   go_ret
   exact⟨by rw[HX.out];first|rfl|(simp;done)|(simp;omega),BW.out⟩


/-! ### spec_IsValidFact: function 44 -/
mutual
def spec_IsValidFact.j0:Nat→Bool→Int→List Int→Option (Bool)
 |0,_,_,_=>none
 |k+1,x29,x131000,x131001=>if x29=true then(some false) else(spec_IsValidFact.l0 k 0 x131000 x131001)
def spec_IsValidFact.l0:Nat→Int→Int→List Int→Option (Bool)
 |0,_,_,_=>none
 |k+1,x5,x131000,x131001=>if x5<(x131001.length:Int) then(if 0≤x5 then((spec_l1In.f (rd x131001 x5) 0 9).bind fun t135=>(if t135=true then(spec_IsValidFact.l0 k (wrap64 (x5+1)) x131000 x131001) else(some false))) else(none)) else(some true)
end
def spec_IsValidFact.f (k:Nat) (l0:List (S42)) (a1_0:Int) (l1_1:List Int):Option (Bool):=(spec_AreValidRelations.f l0).bind fun t131=>(if t131=true then((spec_l1In.f a1_0 0 (wrap64 ((l0.length:Int)-1))).bind fun t132=>(if t132=true then(if 0≤a1_0 then(if a1_0<(l0.length:Int) then(spec_IsValidFact.j0 k ((l1_1.length:Int) !=((rd_T42 l0 a1_0).f1)) a1_0 l1_1) else(none)) else(none)) else(spec_IsValidFact.j0 k true a1_0 l1_1))) else(spec_IsValidFact.j0 k true a1_0 l1_1))
set_option maxHeartbeats 8000000 in
set_option maxRecDepth 100000 in
theorem spec_IsValidFact.calls (k:Nat) (A0:Option Addr) (c0:Nat) (l0:List (S42)) (a1_0:Int) (A1_1:Option Addr) (c1_1:Nat) (l1_1:List Int) (r:Bool) (w:World) (hr0:Kd.C k42 w A0 l0.length l0) (hc0:l0.length≤c0) (hr1_1:Kd.C (Kd.int .i64) w A1_1 l1_1.length l1_1) (hc1_1:l1_1.length≤c1_1) (h:spec_IsValidFact.f k l0 a1_0 l1_1=some r):
  Calls Tryz.prog 44 #[.slice A0 l0.length c0,.agg #[.int .i64 a1_0,.slice A1_1 l1_1.length c1_1]] w fun e w'=>e= .returned (.bool r)∧Below w.heap.size w w':=by
 have hu47:=Tryz.underlying47;obtain⟨W,hW⟩: ∃W,w.alloc (.cells #[.int .i64 a1_0,.slice A1_1 l1_1.length c1_1] 47)=W:=⟨_,rfl⟩;have q0:=qa (w:=W) (p:=⟨w.heap.size,0,none⟩) (v:= .int .i64 a1_0) (by subst hW;go_simp);have q1:=qa (w:=W) (p:=⟨w.heap.size,1,none⟩) (v:= .slice A1_1 l1_1.length c1_1) (by subst hW;go_simp);have HB:Below w.heap.size w W:=by subst hW;exact zB
 have HW:=Below.refl W.heap.size W;have hb:=aM HB;have rg_:= @bcl w;have rd_:= @bdr w;have rG_:= @bcl W;have rD_:= @bdr W;unfold spec_IsValidFact.f at h;replace h:=bs h;obtain⟨t131,B0,h⟩:=h;replace h:=ib h;rcases h with ⟨rfl,h⟩|⟨rfl,h⟩
 replace h:=bs h;obtain⟨t132,B2,h⟩:=h;replace h:=ib h;rcases h with ⟨rfl,h⟩|⟨rfl,h⟩
 replace h:=ie h;rcases h with ⟨c4,c4a,h⟩|⟨c4,c4a,h⟩
 replace h:=il h;rcases h with ⟨c5,c5a,h⟩|⟨c5,c5a,h⟩
 rcases k with _|kj6
 exact absurd h (by simp[spec_IsValidFact.j0]);simp only[spec_IsValidFact.j0] at h;replace h:=ib h;rcases h with ⟨c7,h⟩|⟨c7,h⟩
 obtain rfl:=si h;obtain⟨ad133,e133,hx133_0,hx133_1,hx133_2⟩:=at_T42 hr0 (a1_0:Int) aD aD;have p133:=eq_true (aD:0≤(a1_0:Int));have q133:=eq_true (aD:a1_0<(l0.length:Int))
 cases e133
 replace hx133_0:=qa hx133_0;replace hx133_1:=qa hx133_1;replace hx133_2:=qa hx133_2
 rotate_left
 ·obtain⟨ad133,e133,hx133_0,hx133_1,hx133_2⟩:=at_T42 hr0 (a1_0:Int) aD aD;have p133:=eq_true (aD:0≤(a1_0:Int));have q133:=eq_true (aD:a1_0<(l0.length:Int))
  cases e133
  replace hx133_0:=qa hx133_0;replace hx133_1:=qa hx133_1;replace hx133_2:=qa hx133_2
  go_enter Tryz.func44,Tryz.ntmps44
  go_wp2_with (first|(go_at_call 80;refine(spec_l1In.calls _ _ _ ?_ _ ?h).mono ?_;(case h=>exact zA);rintro e w1 ⟨rfl,hb⟩;replace hb:=hb.below;replace hb:=aM hb;have HW:Below W.heap.size W w1:=zB;have HB:Below w.heap.size w w1:=zB))
  (repeat((refine nw (w0:=w) zB ?_;intro W1 HB hb hd;have HW:Below W.heap.size W W1:=zB;(first|(refine Txt.rg (id:=1) [0,1,2,3,4,5,6,7,8,9,10,11,12,13,14,15,16,17,18,19,20,21,22,23] (by kernel_rfl) (by kernel_rfl) ?_;simp only[List.map_cons,List.map_nil,List.getD_cons_zero,List.getD_cons_succ]));(repeat(first|(refine Txt.off rfl ?_;simp only[Act.put,List.setIfInBounds_toArray,List.set_cons_zero,List.set_cons_succ])|(refine Txt.take rfl rfl ?_;intro K hK;go_big_quiet_op;go_big_quiet_on)|(refine Txt.call rfl rfl Tryz.func46 (by kernel_rfl) rfl (spec_AreValidRelations.calls _ _ _ ?_ _ ?_ ?_ ?h) rfl ?_;(case h=>exact zA);(iterate 2 (first|exact zC|exact zA));rintro e w1 ⟨rfl,hb⟩;replace hb:=aM hb;have HW:Below W.heap.size W w1:=zB;have HB:Below w.heap.size w w1:=zB;refine⟨_,rfl,zS,?_⟩;simp only[Act.put,List.setIfInBounds_toArray,List.set_cons_zero,List.set_cons_succ])|(refine Txt.call rfl rfl Tryz.func80 (by kernel_rfl) rfl (spec_l1In.calls _ _ _ ?_ _ ?h) rfl ?_;(case h=>exact zA);rintro e w1 ⟨rfl,hb⟩;replace hb:=hb.below;replace hb:=aM hb;have HW:Below W.heap.size W w1:=zB;have HB:Below w.heap.size w w1:=zB;refine⟨_,rfl,zS,?_⟩;simp only[Act.put,List.setIfInBounds_toArray,List.set_cons_zero,List.set_cons_succ])));refine Txt.nil ?_);(try go_wp2_with (first|(go_at_call 80;refine(spec_l1In.calls _ _ _ ?_ _ ?h).mono ?_;(case h=>exact zA);rintro e w1 ⟨rfl,hb⟩;replace hb:=hb.below;replace hb:=aM hb;have HW:Below W.heap.size W w1:=zB;have HB:Below w.heap.size w w1:=zB)))))
  go_loopg [5] kj6 (fun kq v5 w'=> ∃(x5_8:Int),v5= .int .i64 x5_8∧spec_IsValidFact.l0 kq x5_8 a1_0 l1_1=some r∧Below W.heap.size W w')
  case atStart=>exact⟨_,zR,zA,zB⟩
  case round=>
   clear h;obtain⟨x5_8,rfl,h,hb⟩:=hrel;replace hb:=aM hb;have HW:Below W.heap.size W wr:=zB;have HB:Below w.heap.size w wr:=zB
   rcases gk with _|kk8
   exact absurd h (by simp[spec_IsValidFact.l0]);simp only[spec_IsValidFact.l0] at h;replace h:=il h;rcases h with ⟨c9,c9a,h⟩|⟨c9,c9a,h⟩
   replace h:=ie h;rcases h with ⟨c10,c10a,h⟩|⟨c10,c10a,h⟩
   replace h:=bs h;obtain⟨t135,B11,h⟩:=h;replace h:=ib h;rcases h with ⟨rfl,h⟩|⟨rfl,h⟩
   obtain⟨kf,hkf⟩: ∃kf,kf=kk8:=⟨_,rfl⟩;rw[←hkf] at h;obtain⟨ad134,e134,hx134_0⟩:=Kd.at_int hr1_1 (x5_8:Int) aD aD;have p134:=eq_true (aD:0≤(x5_8:Int));have q134:=eq_true (aD:x5_8<(l1_1.length:Int))
   cases e134
   replace hx134_0:=qa hx134_0
   rotate_left
   obtain rfl:=si h;obtain⟨ad134,e134,hx134_0⟩:=Kd.at_int hr1_1 (x5_8:Int) aD aD;have p134:=eq_true (aD:0≤(x5_8:Int));have q134:=eq_true (aD:x5_8<(l1_1.length:Int))
   cases e134
   replace hx134_0:=qa hx134_0
   rotate_left
   exact absurd h (by simp);obtain rfl:=si h
   rotate_left
   all_goals (go_wp2_with (first|(go_at_call 80;refine(spec_l1In.calls _ _ _ ?_ _ ?h).mono ?_;(case h=>exact zA);rintro e w1 ⟨rfl,hb⟩;replace hb:=hb.below;replace hb:=aM hb;have HW:Below W.heap.size W w1:=zB;have HB:Below w.heap.size w w1:=zB));(repeat((refine nw (w0:=w) zB ?_;intro W1 HB hb hd;have HW:Below W.heap.size W W1:=zB;(first|(refine Txt.rg (id:=1) [0,1,2,3,4,5,6,7,8,9,10,11,12,13,14,15,16,17,18,19,20,21,22,23] (by kernel_rfl) (by kernel_rfl) ?_;simp only[List.map_cons,List.map_nil,List.getD_cons_zero,List.getD_cons_succ]));(repeat(first|(refine Txt.off rfl ?_;simp only[Act.put,List.setIfInBounds_toArray,List.set_cons_zero,List.set_cons_succ])|(refine Txt.take rfl rfl ?_;intro K hK;go_big_quiet_op;go_big_quiet_on)|(refine Txt.call rfl rfl Tryz.func46 (by kernel_rfl) rfl (spec_AreValidRelations.calls _ _ _ ?_ _ ?_ ?_ ?h) rfl ?_;(case h=>exact zA);(iterate 2 (first|exact zC|exact zA));rintro e w1 ⟨rfl,hb⟩;replace hb:=aM hb;have HW:Below W.heap.size W w1:=zB;have HB:Below w.heap.size w w1:=zB;refine⟨_,rfl,zS,?_⟩;simp only[Act.put,List.setIfInBounds_toArray,List.set_cons_zero,List.set_cons_succ])|(refine Txt.call rfl rfl Tryz.func80 (by kernel_rfl) rfl (spec_l1In.calls _ _ _ ?_ _ ?h) rfl ?_;(case h=>exact zA);rintro e w1 ⟨rfl,hb⟩;replace hb:=hb.below;replace hb:=aM hb;have HW:Below W.heap.size W w1:=zB;have HB:Below w.heap.size w w1:=zB;refine⟨_,rfl,zS,?_⟩;simp only[Act.put,List.setIfInBounds_toArray,List.set_cons_zero,List.set_cons_succ])));refine Txt.nil ?_);(try go_wp2_with (first|(go_at_call 80;refine(spec_l1In.calls _ _ _ ?_ _ ?h).mono ?_;(case h=>exact zA);rintro e w1 ⟨rfl,hb⟩;replace hb:=hb.below;replace hb:=aM hb;have HW:Below W.heap.size W w1:=zB;have HB:Below w.heap.size w w1:=zB)))));first|(go_ret;exact zE zB)|(go_roundg kf;(case measure=>omega);(case rel=>exact⟨_,zR,zA,zB⟩)))
 exact absurd h (by simp);exact absurd h (by simp)
 rcases k with _|kj13
 exact absurd h (by simp[spec_IsValidFact.j0]);simp only[spec_IsValidFact.j0] at h;(first|replace h:=itt h|(try simp only[if_true,if_false] at h))
 obtain rfl:=si h
 rotate_left
 rcases k with _|kj14
 exact absurd h (by simp[spec_IsValidFact.j0]);simp only[spec_IsValidFact.j0] at h;(first|replace h:=itt h|(try simp only[if_true,if_false] at h))
 obtain rfl:=si h
 rotate_left
 all_goals (go_enter Tryz.func44,Tryz.ntmps44;go_wp2_with (first|(go_at_call 80;refine(spec_l1In.calls _ _ _ ?_ _ ?h).mono ?_;(case h=>exact zA);rintro e w1 ⟨rfl,hb⟩;replace hb:=hb.below;replace hb:=aM hb;have HW:Below W.heap.size W w1:=zB;have HB:Below w.heap.size w w1:=zB));(repeat((refine nw (w0:=w) zB ?_;intro W1 HB hb hd;have HW:Below W.heap.size W W1:=zB;(first|(refine Txt.rg (id:=1) [0,1,2,3,4,5,6,7,8,9,10,11,12,13,14,15,16,17,18,19,20,21,22,23] (by kernel_rfl) (by kernel_rfl) ?_;simp only[List.map_cons,List.map_nil,List.getD_cons_zero,List.getD_cons_succ]));(repeat(first|(refine Txt.off rfl ?_;simp only[Act.put,List.setIfInBounds_toArray,List.set_cons_zero,List.set_cons_succ])|(refine Txt.take rfl rfl ?_;intro K hK;go_big_quiet_op;go_big_quiet_on)|(refine Txt.call rfl rfl Tryz.func46 (by kernel_rfl) rfl (spec_AreValidRelations.calls _ _ _ ?_ _ ?_ ?_ ?h) rfl ?_;(case h=>exact zA);(iterate 2 (first|exact zC|exact zA));rintro e w1 ⟨rfl,hb⟩;replace hb:=aM hb;have HW:Below W.heap.size W w1:=zB;have HB:Below w.heap.size w w1:=zB;refine⟨_,rfl,zS,?_⟩;simp only[Act.put,List.setIfInBounds_toArray,List.set_cons_zero,List.set_cons_succ])|(refine Txt.call rfl rfl Tryz.func80 (by kernel_rfl) rfl (spec_l1In.calls _ _ _ ?_ _ ?h) rfl ?_;(case h=>exact zA);rintro e w1 ⟨rfl,hb⟩;replace hb:=hb.below;replace hb:=aM hb;have HW:Below W.heap.size W w1:=zB;have HB:Below w.heap.size w w1:=zB;refine⟨_,rfl,zS,?_⟩;simp only[Act.put,List.setIfInBounds_toArray,List.set_cons_zero,List.set_cons_succ])));refine Txt.nil ?_);(try go_wp2_with (first|(go_at_call 80;refine(spec_l1In.calls _ _ _ ?_ _ ?h).mono ?_;(case h=>exact zA);rintro e w1 ⟨rfl,hb⟩;replace hb:=hb.below;replace hb:=aM hb;have HW:Below W.heap.size W w1:=zB;have HB:Below w.heap.size w w1:=zB)))));go_ret;exact zE zB)

/-! ### spec_FormatFact: function 53 -/
def spec_FormatFact.l0:Nat→List (S42)→ByteArray→Int→Int→List Int→Option (ByteArray)
 |0,_,_,_,_,_=>none
 |k+1,x0,x5,x6,x137000,x137001=>if x6<(x137001.length:Int) then(if 0≤x137000 then(if x137000<(x0.length:Int) then(if x6=((rd_T42 x0 x137000).f2) then(if x5.size+1≤9223372036854775807 then(if 0≤x6 then((spec_FormatInt.f k (rd x137001 x6)).bind fun t141=>(if(x5++(⟨#[124]⟩:ByteArray)).size+t141.size≤9223372036854775807 then(spec_FormatFact.l0 k x0 ((x5++(⟨#[124]⟩:ByteArray))++t141) (wrap64 (x6+1)) x137000 x137001) else(none))) else(none)) else(none)) else(if 0≤x6 then((spec_FormatInt.f k (rd x137001 x6)).bind fun t143=>(if x5.size+t143.size≤9223372036854775807 then(spec_FormatFact.l0 k x0 (x5++t143) (wrap64 (x6+1)) x137000 x137001) else(none))) else(none))) else(none)) else(none)) else(some x5)
def spec_FormatFact.f (k:Nat) (l0:List (S42)) (a1_0:Int) (l1_1:List Int):Option (ByteArray):=(spec_IsValidFact.f k l0 a1_0 l1_1).bind fun t137=>(if t137=true then(if 0≤a1_0 then(if a1_0<(l0.length:Int) then(spec_FormatFact.l0 k l0 ((rd_T42 l0 a1_0).f0) 0 a1_0 l1_1) else(none)) else(none)) else(some (⟨#[]⟩:ByteArray)))
set_option maxHeartbeats 8000000 in
set_option maxRecDepth 100000 in
theorem spec_FormatFact.calls (k:Nat) (A0:Option Addr) (c0:Nat) (l0:List (S42)) (a1_0:Int) (A1_1:Option Addr) (c1_1:Nat) (l1_1:List Int) (r:ByteArray) (w:World) (hr0:Kd.C k42 w A0 l0.length l0) (hc0:l0.length≤c0) (hr1_1:Kd.C (Kd.int .i64) w A1_1 l1_1.length l1_1) (hc1_1:l1_1.length≤c1_1) (h:spec_FormatFact.f k l0 a1_0 l1_1=some r):
  Calls Tryz.prog 53 #[.slice A0 l0.length c0,.agg #[.int .i64 a1_0,.slice A1_1 l1_1.length c1_1]] w fun e w'=>e= .returned (.string r)∧Below w.heap.size w w':=by
 have hu47:=Tryz.underlying47;obtain⟨W,hW⟩: ∃W,w.alloc (.cells #[.int .i64 a1_0,.slice A1_1 l1_1.length c1_1] 47)=W:=⟨_,rfl⟩;have q0:=qa (w:=W) (p:=⟨w.heap.size,0,none⟩) (v:= .int .i64 a1_0) (by subst hW;go_simp);have q1:=qa (w:=W) (p:=⟨w.heap.size,1,none⟩) (v:= .slice A1_1 l1_1.length c1_1) (by subst hW;go_simp);have HB:Below w.heap.size w W:=by subst hW;exact zB
 have HW:=Below.refl W.heap.size W;have hb:=aM HB;unfold spec_FormatFact.f at h;replace h:=bs h;obtain⟨t137,B0,h⟩:=h;replace h:=ib h;rcases h with ⟨rfl,h⟩|⟨rfl,h⟩
 replace h:=ie h;rcases h with ⟨c2,c2a,h⟩|⟨c2,c2a,h⟩
 replace h:=il h;rcases h with ⟨c3,c3a,h⟩|⟨c3,c3a,h⟩
 ·obtain⟨ad138,e138,hx138_0,hx138_1,hx138_2⟩:=at_T42 hr0 (a1_0:Int) aD aD;have p138:=eq_true (aD:0≤(a1_0:Int));have q138:=eq_true (aD:a1_0<(l0.length:Int))
  cases e138
  replace hx138_0:=qa hx138_0;replace hx138_1:=qa hx138_1;replace hx138_2:=qa hx138_2
  go_enter Tryz.func53,Tryz.ntmps53
  go_wp2_with (first|(go_at_call 44;refine(spec_IsValidFact.calls ?_ _ _ _ _ _ _ _ ?_ _ ?_ ?_ ?_ ?_ ?h).mono ?_;(case h=>exact zA);(iterate 4 (first|exact zC|exact zA));rintro e w1 ⟨rfl,hb⟩;replace hb:=aM hb;have HW:Below W.heap.size W w1:=zB;have HB:Below w.heap.size w w1:=zB)|(go_at_call 85;refine(spec_FormatInt.calls ?_ _ ?_ _ ?h).mono ?_;(case h=>exact zA);rintro e w1 ⟨rfl,hb⟩;replace hb:=aM hb;have HW:Below W.heap.size W w1:=zB;have HB:Below w.heap.size w w1:=zB))
  go_loopg [5,6] k (fun kq v5 v6 w'=> ∃(x5_4:ByteArray) (x6_4:Int),v5= .string x5_4∧v6= .int .i64 x6_4∧spec_FormatFact.l0 kq l0 x5_4 x6_4 a1_0 l1_1=some r∧Below W.heap.size W w')
  case atStart=>exact⟨_,_,zR,zR,zA,zB⟩
  case round=>
   clear h;obtain⟨x5_4,x6_4,rfl,rfl,h,hb⟩:=hrel;replace hb:=aM hb;have HW:Below W.heap.size W wr:=zB;have HB:Below w.heap.size w wr:=zB
   rcases gk with _|kk4
   exact absurd h (by simp[spec_FormatFact.l0]);simp only[spec_FormatFact.l0] at h;replace h:=il h;rcases h with ⟨c5,c5a,h⟩|⟨c5,c5a,h⟩
   replace h:=ie h;rcases h with ⟨c6,c6a,h⟩|⟨c6,c6a,h⟩
   replace h:=il h;rcases h with ⟨c7,c7a,h⟩|⟨c7,c7a,h⟩
   replace h:=iq h;rcases h with ⟨c8,⟨c8a,c8b⟩,h⟩|⟨c8,⟨c8a,c8b⟩,h⟩
   replace h:=ieN h;rcases h with ⟨c9,c9a,h⟩|⟨c9,c9a,h⟩
   have c9x0:decide (x5_4.size+1≤9223372036854775807)=true:=decide_eq_true (of_eq_true c9a);have c9x1:(9223372036854775807<x5_4.size+1)=False:=eq_false (Nat.not_lt.2 (of_eq_true c9a));replace h:=ie h;rcases h with ⟨c10,c10a,h⟩|⟨c10,c10a,h⟩
   replace h:=bs h;obtain⟨t141,B11,h⟩:=h;replace h:=ieN h;rcases h with ⟨c12,c12a,h⟩|⟨c12,c12a,h⟩
   have c12x0:decide ((x5_4++(⟨#[124]⟩:ByteArray)).size+t141.size≤9223372036854775807)=true:=decide_eq_true (of_eq_true c12a);have c12x1:(9223372036854775807<(x5_4++(⟨#[124]⟩:ByteArray)).size+t141.size)=False:=eq_false (Nat.not_lt.2 (of_eq_true c12a));have c12y:=c12a;simp only[ByteArray.size_append,(show(⟨#[124]⟩:ByteArray).size=1 from rfl)] at c12y;have c12y0:=decide_eq_true (of_eq_true c12y);have c12y1:=eq_false (Nat.not_lt.2 (of_eq_true c12y));obtain⟨kf,hkf⟩: ∃kf,kf=kk4:=⟨_,rfl⟩;rw[←hkf] at h;obtain⟨ad139,e139,hx139_0,hx139_1,hx139_2⟩:=at_T42 hr0 (a1_0:Int) aD aD;have p139:=eq_true (aD:0≤(a1_0:Int));have q139:=eq_true (aD:a1_0<(l0.length:Int))
   cases e139
   replace hx139_0:=qa hx139_0;replace hx139_1:=qa hx139_1;replace hx139_2:=qa hx139_2;obtain⟨ad140,e140,hx140_0⟩:=Kd.at_int hr1_1 (x6_4:Int) aD aD;have p140:=eq_true (aD:0≤(x6_4:Int));have q140:=eq_true (aD:x6_4<(l1_1.length:Int))
   cases e140
   replace hx140_0:=qa hx140_0
   rotate_left
   exact absurd h (by simp);exact absurd h (by simp);exact absurd h (by simp);replace h:=ie h;rcases h with ⟨c13,c13a,h⟩|⟨c13,c13a,h⟩
   replace h:=bs h;obtain⟨t143,B14,h⟩:=h;replace h:=ieN h;rcases h with ⟨c15,c15a,h⟩|⟨c15,c15a,h⟩
   have c15x0:decide (x5_4.size+t143.size≤9223372036854775807)=true:=decide_eq_true (of_eq_true c15a);have c15x1:(9223372036854775807<x5_4.size+t143.size)=False:=eq_false (Nat.not_lt.2 (of_eq_true c15a));obtain⟨kf,hkf⟩: ∃kf,kf=kk4:=⟨_,rfl⟩;rw[←hkf] at h;obtain⟨ad139,e139,hx139_0,hx139_1,hx139_2⟩:=at_T42 hr0 (a1_0:Int) aD aD;have p139:=eq_true (aD:0≤(a1_0:Int));have q139:=eq_true (aD:a1_0<(l0.length:Int))
   cases e139
   replace hx139_0:=qa hx139_0;replace hx139_1:=qa hx139_1;replace hx139_2:=qa hx139_2;obtain⟨ad142,e142,hx142_0⟩:=Kd.at_int hr1_1 (x6_4:Int) aD aD;have p142:=eq_true (aD:0≤(x6_4:Int));have q142:=eq_true (aD:x6_4<(l1_1.length:Int))
   cases e142
   replace hx142_0:=qa hx142_0
   rotate_left
   exact absurd h (by simp);exact absurd h (by simp);exact absurd h (by simp);exact absurd h (by simp);obtain rfl:=si h
   rotate_left
   all_goals (go_wp2_with (first|(go_at_call 44;refine(spec_IsValidFact.calls ?_ _ _ _ _ _ _ _ ?_ _ ?_ ?_ ?_ ?_ ?h).mono ?_;(case h=>exact zA);(iterate 4 (first|exact zC|exact zA));rintro e w1 ⟨rfl,hb⟩;replace hb:=aM hb;have HW:Below W.heap.size W w1:=zB;have HB:Below w.heap.size w w1:=zB)|(go_at_call 85;refine(spec_FormatInt.calls ?_ _ ?_ _ ?h).mono ?_;(case h=>exact zA);rintro e w1 ⟨rfl,hb⟩;replace hb:=aM hb;have HW:Below W.heap.size W w1:=zB;have HB:Below w.heap.size w w1:=zB));first|(go_ret;exact zE zB)|(go_roundg kf;(case measure=>omega);(case rel=>exact⟨_,_,zR,zR,zA,zB⟩)))
 exact absurd h (by simp);exact absurd h (by simp);obtain rfl:=si h
 rotate_left
 all_goals (go_enter Tryz.func53,Tryz.ntmps53;go_wp2_with (first|(go_at_call 44;refine(spec_IsValidFact.calls ?_ _ _ _ _ _ _ _ ?_ _ ?_ ?_ ?_ ?_ ?h).mono ?_;(case h=>exact zA);(iterate 4 (first|exact zC|exact zA));rintro e w1 ⟨rfl,hb⟩;replace hb:=aM hb;have HW:Below W.heap.size W w1:=zB;have HB:Below w.heap.size w w1:=zB)|(go_at_call 85;refine(spec_FormatInt.calls ?_ _ ?_ _ ?h).mono ?_;(case h=>exact zA);rintro e w1 ⟨rfl,hb⟩;replace hb:=aM hb;have HW:Below W.heap.size W w1:=zB;have HB:Below w.heap.size w w1:=zB));go_ret;exact zE zB)

end Go.Proofs.YtckpikfbhlhhjaaGreatDoor.PFnDatabaseFormat
namespace Go.Proofs.YtckpikfbhlhhjaaGreatDoor.PFnDatabaseFormat
open Go.RowKit Go.Proofs.YtckpikfbhlhhjaaGreatDoorW.PrintWords Go.Proofs.YtckpikfbhlhhjaaGreatDoorW.PrintLast Go.Proofs.YtckpikfbhlhhjaaGreatDoorW.PrintMore
attribute [local go_sem] max2_int min2_int max_two min_two max_three min_three max_four min_four
set_option linter.unusedVariables false
set_option linter.unusedSimpArgs false

/-! ### spec_ParseFact: function 20 -/
def spec_ParseFact.l0:Nat→List (S42)→ByteArray→Int→Int→List Int→Option (Int×List Int×Bool)
 |0,_,_,_,_,_=>none
 |k+1,x0,x1,x7,x147000,x147001=>if x7<(x1.size:Int) then(if 0≤x7 then(if(bt x1 x7)=124 then(spec_ParseFact.l0 k x0 x1 (wrap64 (x7+1)) x147000 x147001) else(if x147001.length<17592186044416 then(spec_ParseFact.l0 k x0 x1 (wrap64 (x7+1)) x147000 (x147001++ [wrap64 ((wrap64 (bt x1 x7))-48)])) else(none))) else(none)) else((spec_FormatFact.f k x0 x147000 x147001).bind fun t150=>(if t150.toList=x1.toList then(some (x147000,x147001,true)) else(some (0,([] :List Int),false))))
def spec_ParseFact.f (k:Nat) (l0:List (S42)) (a1:ByteArray):Option (Int×List Int×Bool):=if a1.toList=([] :List UInt8) then(some (0,([] :List Int),false)) else(if 0≤1 then(if 1≤(a1.size:Int) then((spec_RelationIndex.f k l0 (a1.extract 0 1)).bind fun t145=>(spec_ParseFact.l0 k l0 a1 1 t145 ([] :List Int))) else(none)) else(none))
def spec_ParseFact.T8:Bool×List (List Nat×List Nat):=(true,[([],[]),([0],[0]),([],[]),([],[]),([2,3],[2,3]),([4],[4]),([5],[5]),([6],[6]),([1,7],[1,7]),([0,1,2,3,4,5,6,7,8],[]),([9,8,8,0,1,2,3,4,5,6,7,8],[8,9])])
def spec_ParseFact.B8:List Nat:= [0,1,0,0,12,28,60,124,255,511,1023]
theorem spec_ParseFact.tab8:rtab .any (opsOf Tryz.f20 8)=spec_ParseFact.T8:=by kernel_rfl
theorem spec_ParseFact.bits8:waitsOk spec_ParseFact.T8.2 spec_ParseFact.B8=true:=by kernel_rfl
set_option maxHeartbeats 8000000 in
set_option maxRecDepth 100000 in
theorem spec_ParseFact.calls (k:Nat) (A0:Option Addr) (c0:Nat) (l0:List (S42)) (a1:ByteArray) (r1:Int) (r2:List Int) (r3:Bool) (w:World) (hr0:Kd.C k42 w A0 l0.length l0) (hc0:l0.length≤c0) (h:spec_ParseFact.f k l0 a1=some (r1,r2,r3)):
  Calls Tryz.prog 20 #[.slice A0 l0.length c0,.string a1] w fun e w'=> ∃v1_:Value,e= .returned (.tuple #[.agg #[.int .i64 r1,v1_],.bool r3])∧Kd.R (Kd.int .i64) 3 w' w.heap.size (fun _=>True) v1_ r2∧Below w.heap.size w w':=by
 have hu47:=Tryz.underlying47;have HR0:=aM hr0;have HC0:=aM hc0;clear hr0 hc0;have HB:=aM (Below.refl w.heap.size w);have H:(if a1.toList=([] :List UInt8) then(some (0,([] :List Int),false)) else(if 0≤1 then(if 1≤(a1.size:Int) then((spec_RelationIndex.f k l0 (a1.extract 0 1)).bind fun t145=>(spec_ParseFact.l0 k l0 a1 1 t145 ([] :List Int))) else(none)) else(none)))=some (r1,r2,r3):=h;clear h
 by_cases c3:a1.toList=([] :List UInt8)
 ·rw[if_pos c3] at H;have c3b0:(a1.toList==([] :List UInt8))=true:=beq_iff_eq.mpr c3;have c3b1:(a1.toList !=([] :List UInt8))=false:=bne_eq_false_iff_eq.mpr c3;clear c3;simp only[Option.some.injEq,Prod.mk.injEq] at H;obtain⟨rfl,rfl,rfl⟩:=H
  go_enter Tryz.func20,Tryz.ntmps20
  go_wp2_with (first|((with_reducible refine gate_dst (N:=4) rfl ?_);refine bE 4 (cs:=#[.int .i64 0,.slice none 0 0]) (t:=47) ?_;intro gb144 hg w4 hbox hb;have BK144:=aM (hbox);have GW144:=aM ((by rw[hg];exact(below_size aB):w.heap.size≤gb144));have GE144:=aM ((by rw[hg];exact(below_size aB):w.heap.size≤gb144));replace HB:=aM (below_step aB hb);clear hb hbox hg;have hcz5_0:w4.cell? ⟨gb144,0,none⟩=some (.int .i64 0):=(blk_cell BK144.out 0).trans rfl;have hcz5_1:w4.cell? ⟨gb144,1,none⟩=some (.slice none 0 0):=(blk_cell BK144.out 1).trans rfl;have hfz5_0:=blk_frozen BK144.out 0;have hfz5_1:=blk_frozen BK144.out 1))
  refine bodyPost_ret (results_ct rfl _ _ gb144 47 #[.int .i64 0,.slice none 0 0] (0,0) _ rfl (bP2 BK144.out) Tryz.underlying47 rfl (by kernel_rfl)) rfl ?_;exact⟨_,aE,by first|exact Kd.R_nil _ _ _ _ _|exact Kd.N_nil _ _ _ _ _|exact Kd.V_nil _ _ _ _ _|exact Kd.Q_nil _ _ _ _ _|exact Kd.S_nil _ _ _ _ _,aG⟩
 ·rw[if_neg c3] at H;have c3b0:(a1.toList==([] :List UInt8))=false:=beq_eq_false_iff_ne.mpr c3;have c3b1:(a1.toList !=([] :List UInt8))=true:=bne_iff_ne.mpr c3
  by_cases c6:0≤1
  ·rw[if_pos c6] at H;have c6b0:=eq_true c6;have c6b1:decide (0≤1)=true:=decide_eq_true c6;clear c6
   by_cases c7:1≤(a1.size:Int)
   ·rw[if_pos c7] at H;have c7b0:=eq_true c7;have c7b1:decide (1≤(a1.size:Int))=true:=decide_eq_true c7;clear c7;replace H:=bM H;obtain⟨t145,A80,H⟩:=H;have A8:=aM A80;clear A80;have H':=aM H;clear H
    go_enter Tryz.func20,Tryz.ntmps20
    go_wp2_with (first|((with_reducible refine gate_dst (N:=4) rfl ?_);refine bE 4 (cs:=#[.int .i64 0,.slice none 0 0]) (t:=47) ?_;intro gb144 hg w9 hbox hb;have BK144:=aM (hbox);have GW144:=aM ((by rw[hg];exact(below_size aB):w.heap.size≤gb144));have GE144:=aM ((by rw[hg];exact(below_size aB):w.heap.size≤gb144));replace HB:=aM (below_step aB hb);clear hb hbox hg)|((with_reducible refine gate_callee (f:=52) rfl ?_);refine goesL_ (some 14) rfl rfl Tryz.func52 (by kernel_rfl) rfl #[.slice A0 l0.length c0,.string (a1.extract 0 1)] rfl aA ?_;(with_reducible refine(spec_RelationIndex.calls k _ _ l0 (a1.extract 0 1) t145 _ ?side1 ?side2 A8.out).mono ?_);(case side1=>exact aC);(case side2=>exact HC0.out);rintro e w' ⟨rfl,⟨nd,rfl⟩⟩;refine⟨_,rfl,?_⟩;(try(rw[drewN_self w9];generalize hq_:World.drewN w9 _=w9;have n0_:Aside0 (w9.heap[gb144]? =some (.cells #[.int .i64 0,.slice none 0 0] 47 (0,0))):=⟨by rw[←hq_];exact aK⟩;have n1_:Aside0 (Below w.heap.size w w9):=⟨by rw[←hq_];exact aG⟩;clear BK144 HB hq_;have BK144:=n0_;have HB:=n1_;clear n0_ n1_)))|((with_reducible refine gate_dst (N:=6) rfl ?_);refine bE 6 (cs:=#[.int .i64 0,.slice none 0 0]) (t:=47) ?_;intro gb146 hg w10 hbox hb;have BK146:=aM (hbox);have GW146:=aM ((by rw[hg];exact(below_size aG):w.heap.size≤gb146));have GE146:=aM ((by rw[hg];exact(below_size aG):w.heap.size≤gb146));have NB144_146:=aM ((by rw[hg];exact Nat.ne_of_lt (blk_lt (g:=gb144) aK):gb144≠gb146));have NB146_144:=aM ((by rw[hg];exact Nat.ne_of_gt (blk_lt (g:=gb144) aK):gb146≠gb144));replace BK144:=aM (kB gb144 #[.int .i64 0,.slice none 0 0] 47 hb);replace HB:=aM (below_step aG hb);clear hb hbox hg;have hnb11:=NB146_144.out;have hnc11:=NB144_146.out;have hcz12_0:w10.cell? ⟨gb146,0,none⟩=some (.int .i64 0):=(blk_cell BK146.out 0).trans rfl;have hcz12_1:w10.cell? ⟨gb146,1,none⟩=some (.slice none 0 0):=(blk_cell BK146.out 1).trans rfl;have hfz12_0:=blk_frozen BK146.out 0;have hfz12_1:=blk_frozen BK146.out 1))
    go_loopg [7] k (fun kq v7 w'=> ∃(x7_1:Int) (x147001_1:List Int) (u147001:Value),v7= .int .i64 x7_1∧Aside0 (spec_ParseFact.l0 kq l0 a1 x7_1 t145 x147001_1=some (r1,r2,r3))∧Aside0 (kq≤k)∧Aside0 (Kd.R (Kd.int .i64) 3 w' w.heap.size (fun _=>True) u147001 x147001_1)∧Aside0 (w'.heap[gb144]? =some (.cells #[.int .i64 0,(.slice none 0 0)] 47 (0,0)))∧Aside0 (w'.heap[gb146]? =some (.cells #[.int .i64 t145,u147001] 47 (0,0)))∧Aside0 (Below w.heap.size w w'))
    case atStart=>exact⟨(1),(([] :List Int)),(.slice none 0 0),aX,H',⟨Nat.le_refl _⟩,⟨by first|exact Kd.R_nil _ _ _ _ _|exact Kd.N_nil _ _ _ _ _|exact Kd.V_nil _ _ _ _ _|exact Kd.Q_nil _ _ _ _ _|exact Kd.S_nil _ _ _ _ _⟩,⟨by(with_reducible repeat refine pB ?_);refine blk_far ?_ NB144_146.out _;(with_reducible repeat refine pB ?_);refine blk_far ?_ NB144_146.out _;(with_reducible repeat refine pB ?_);exact BK144.out⟩,⟨by(with_reducible repeat refine pB ?_);refine blk_put (cs:=#[.int .i64 t145,.slice none 0 0]) ?_ 1 _ rfl;(with_reducible repeat refine pB ?_);refine blk_put (cs:=#[.int .i64 0,.slice none 0 0]) ?_ 0 _ rfl;(with_reducible repeat refine pB ?_);exact BK146.out⟩,⟨aG⟩⟩
    case round=>
     clear H'
     try clear c1
     try clear c2
     try clear p2
     try clear c3
     try clear c3b0
     try clear c3b1
     try clear c5
     try clear c6
     try clear c6b0
     try clear c6b1
     try clear c7
     try clear c7b0
     try clear c7b1
     try clear c11
     try clear hcz12_0
     try clear hcz12_1
     try clear hcz5_0
     try clear hcz5_1
     try clear hfz12_0
     try clear hfz12_1
     try clear hfz5_0
     try clear hfz5_1
     obtain⟨x7_1,x147001_1,u147001,rfl,HA,HK1,HO_147001,BK144,BK146,HB⟩:=hrel
     cases gk with
     |zero=>exact absurd HA.out (by simp[spec_ParseFact.l0])
     |succ k1=>
      have H:=HA.out;clear HA;simp only[spec_ParseFact.l0] at H
      by_cases c13:x7_1<(a1.size:Int)
      ·rw[if_pos c13] at H;have c13b0:decide (x7_1<(a1.size:Int))=true:=decide_eq_true c13;clear c13
       by_cases c14:0≤x7_1
       ·rw[if_pos c14] at H;have c14b0:decide (0≤x7_1)=true:=decide_eq_true c14;clear c14
        by_cases c16:(bt a1 x7_1)=124
        ·rw[if_pos c16] at H;have c16b0:((bt a1 x7_1)==124)=true:=beq_iff_eq.mpr c16;have c16b1:((bt a1 x7_1) !=124)=false:=bne_eq_false_iff_eq.mpr c16;clear c16;have H':=aM H;clear H;have p15:0≤(x7_1:Int):=aD;have q15:x7_1<(a1.size:Int):=aD;have hx15:=bt_at a1 x7_1;replace p15:=eq_true p15;replace q15:=eq_true q15
         go_wp2
         go_roundg k1
         case measure=>have:=HK1.out;omega
         case rel=>exact⟨(wrap64 (x7_1+1)),(x147001_1),(u147001),aX,H',⟨by have:=HK1.out;omega⟩,⟨aR HO_147001⟩,⟨aK⟩,⟨aK⟩,⟨aG⟩⟩
        ·rw[if_neg c16] at H;have c16b0:((bt a1 x7_1)==124)=false:=beq_eq_false_iff_ne.mpr c16;have c16b1:((bt a1 x7_1) !=124)=true:=bne_iff_ne.mpr c16
         by_cases c18:x147001_1.length<17592186044416
         ·rw[if_pos c18] at H;have LMc18:=aM c18;clear c18;obtain⟨y147,hy147⟩: ∃y_:List Int,y_=(x147001_1++ [wrap64 ((wrap64 (bt a1 x7_1))-48)]):=⟨_,rfl⟩
          first|replace H:=bY hy147 H|rw[←hy147] at H
          have Ny147:=aM hy147;clear hy147;have H':=aM H;clear H;have p15:0≤(x7_1:Int):=aD;have q15:x7_1<(a1.size:Int):=aD;have hx15:=bt_at a1 x7_1;replace p15:=eq_true p15;replace q15:=eq_true q15
          try go_wp2
          replace HO_147001:=aM (Kd.R_drew HO_147001.out);replace BK144:=aM (blk_drew BK144.out);replace BK146:=aM (blk_drew BK146.out);replace HB:=aM (below_drew1 HB.out);have p17:0≤(x7_1:Int):=aD;have q17:x7_1<(a1.size:Int):=aD;have hx17:=bt_at a1 x7_1;replace p17:=eq_true p17;replace q17:=eq_true q17;refine start_ (n:=11) (S:=fun w'=>w'.cell? ⟨gb146,0,none⟩=some (.int .i64 t145)∧w'.cell? ⟨gb146,1,none⟩=some (u147001)) (ds:= [10]) #[false,false,false,false,false,false,false,false,false,false,false] (by kernel_rfl) rfl rfl ⟨(blk_cell BK146.out 0).trans rfl,(blk_cell BK146.out 1).trans rfl⟩ (fun hHeld=>?_);refine with_tabW spec_ParseFact.tab8 spec_ParseFact.bits8 (fun HT_ HW_=>?_);generalize wr.drew=w19 at HO_147001 BK144 BK146 HB hHeld ⊢;refine pU 0 26 ?_;refine pU 2 28 ?_;refine pU 3 29 ?_;refine tU2 1 27 hHeld ?_;refine tU2 4 30 hHeld ?_;refine pU 5 31 ?_;refine pU 6 32 ?_;refine oU 7 33 (fun K hK=>?_);refine value_ (w1:=?_) (v:=?_) (by rfl) rfl ?_ ?_
          rotate_left 2
          ·go_simp
           constructor
           ·rfl
           ·rfl
          refine hK.out _ _ ⟨(blk_cell (blk_alloc BK146.out _) 0).trans rfl,(blk_cell (blk_alloc BK146.out _) 1).trans rfl⟩ (fun hHeld=>?_);clear hK K;refine nU 33 ?_;refine oU 8 34 (fun K hK=>?_);refine Kd.R_append_step (Kd.int .i64) (w0:=w) w.heap.size (by rfl) (.tmp 27) (.tmp 33) 45 3 (.int .i64 0) 8 rfl Tryz.underlying45 info3 rfl (by decide) (by omega) u147001 x147001_1 (wrap64 ((wrap64 (bt a1 x7_1))-48)) [.int .i64 (wrap64 ((wrap64 (bt a1 x7_1))-48))] (fun _=>True) (fun _=>False) rfl rfl ?aP (fun _ hk=>hk.elim) ?aF ?aO ?aB ?aS ?aL ?_;(case aP=>exact rfl)
          (case aB=>exact aG)
          (case aF=>exact(fun _ _=>trivial))
          (case aO=>exact(aR HO_147001))
          (case aS=>exact(below_size aG))
          (case aL=>have:=LMc18.out;omega)
          intro v148 w20 ho hb hg hat;rw[←Ny147.out] at ho;have n0_:=aM (blk_grown (g:=gb144) aK hg (Kd.R_ne HO_147001.out BK144.out (by decide)));have n1_:=aM (blk_grown (g:=gb146) aK hg (Kd.R_ne HO_147001.out BK146.out (by decide)));have n2_:=aM (hb);have n3_:=aM (ho);clear BK144 BK146 HB HO_147001;have BK144:=n0_;have BK146:=n1_;have HB:=n2_;have HO149:=n3_;clear n0_ n1_ n2_ n3_ ho hb hg hat;obtain⟨Ao21,co21,eo21⟩:=Kd.R_slice HO149.out;(first|subst eo21|(injection eo21 with f1_ f2_ f3_;have f4_:=f1_.symm;have f5_:=f3_.symm;clear f1_ f2_ f3_;subst f4_;subst f5_))
          refine hK.out _ _ ⟨(blk_cell BK146.out 0).trans rfl,(blk_cell BK146.out 1).trans rfl⟩ (fun hHeld=>?_);clear hK K;refine nU 34 ?_;refine pU 9 35 ?_;refine last_ (i:=10) (N:=none) #[true,true,true,true,true,true,true,true,true,true,true] rfl rfl (one_of HT_.out (by kernel_rfl)) (by decide) (fun K hK=>?_);have hs22:w20.cell? ⟨gb146,1,none⟩=some (u147001):=(blk_cell BK146.out 1).trans rfl;have hfs22:=blk_frozen BK146.out 1;have hns22_0:=NB144_146.out;have hms22_0:=NB146_144.out;refine skip_ (w1:=?_) (by rfl) rfl ?_ ?_
          rotate_left
          ·go_simp
           rfl
          refine hK.out _ _ ?_;clear hK K;refine done_ (done_of HT_.out (by kernel_rfl)) ?_
          try go_wp2
          go_roundg k1
          case measure=>have:=HK1.out;omega
          case rel=>exact⟨(wrap64 (x7_1+1)),(y147),(.slice Ao21 y147.length co21),aX,H',⟨by have:=HK1.out;omega⟩,⟨by(with_reducible repeat apply pR);exact Kd.R_mono (Kd.R_far (p:=⟨gb146,1,none⟩) (Kd.R_types HO149.out BK146.out (by decide)) (fun _ hk=>hk.2) (.slice Ao21 y147.length co21)) (fun _ hk=>trivial)⟩,⟨by(with_reducible repeat refine pB ?_);refine blk_far ?_ NB144_146.out _;(with_reducible repeat refine pB ?_);exact BK144.out⟩,⟨by(with_reducible repeat refine pB ?_);refine blk_put (cs:=#[.int .i64 t145,u147001]) ?_ 1 _ rfl;(with_reducible repeat refine pB ?_);exact BK146.out⟩,⟨aG⟩⟩
         ·rw[if_neg c18] at H;exact absurd H (by simp)
       ·rw[if_neg c14] at H;exact absurd H (by simp)
      ·rw[if_neg c13] at H;have c13b0:decide (x7_1<(a1.size:Int))=false:=decide_eq_false c13;clear c13;replace H:=bM H;obtain⟨t150,A230,H⟩:=H;have A23:=aM A230;clear A230
       by_cases c24:t150.toList=a1.toList
       ·rw[if_pos c24] at H;have c24b0:(t150.toList==a1.toList)=true:=beq_iff_eq.mpr c24;have c24b1:(t150.toList !=a1.toList)=false:=bne_eq_false_iff_eq.mpr c24;clear c24;simp only[Option.some.injEq,Prod.mk.injEq] at H;obtain⟨rfl,rfl,rfl⟩:=H;have hnb25:=NB146_144.out;have hnc25:=NB144_146.out;have hcz26_0:wr.cell? ⟨gb146,0,none⟩=some (.int .i64 t145):=(blk_cell BK146.out 0).trans rfl;have hcz26_1:wr.cell? ⟨gb146,1,none⟩=some (u147001):=(blk_cell BK146.out 1).trans rfl;have hfz26_0:=blk_frozen BK146.out 0;have hfz26_1:=blk_frozen BK146.out 1;obtain⟨Ao27,co27,eo27⟩:=Kd.R_slice HO_147001.out;subst eo27
        go_wp2_with (first|((with_reducible refine gate_callee (f:=53) rfl ?_);refine goesL_ (some 38) rfl rfl Tryz.func53 (by kernel_rfl) rfl #[.slice A0 l0.length c0,.agg #[.int .i64 t145,.slice Ao27 x147001_1.length co27]] rfl aA ?_;(with_reducible refine(spec_FormatFact.calls k1 _ _ l0 t145 _ _ x147001_1 t150 _ ?side1 ?side2 ?side3 ?side4 A23.out).mono ?_);(case side1=>exact aC);(case side2=>exact HC0.out);(case side3=>repeat(first|exact(Kd.R_reads' HO_147001.out).2.2|(with_reducible refine pC ?_)));(case side4=>exact(Kd.R_reads' HO_147001.out).2.1);rintro e w28 ⟨rfl,hb⟩;refine⟨_,rfl,?_⟩;have n0_:=aM (Kd.R_below (aR HO_147001) hb);have n1_:=aM (kB gb144 #[.int .i64 0,.slice none 0 0] 47 hb);have n2_:=aM (kB gb146 #[.int .i64 t145,.slice Ao27 x147001_1.length co27] 47 hb);have n3_:=aM (below_step aG hb);clear HO_147001;clear BK144;clear BK146;clear HB;have HO_147001:=n0_;have BK144:=n1_;have BK146:=n2_;have HB:=n3_;clear n0_ n1_ n2_ n3_;(try clear hb);(try clear hb2);(try clear hk);(try clear hi);have hcz29_0:w28.cell? ⟨gb146,0,none⟩=some (.int .i64 t145):=(blk_cell BK146.out 0).trans rfl;have hcz29_1:w28.cell? ⟨gb146,1,none⟩=some (.slice Ao27 x147001_1.length co27):=(blk_cell BK146.out 1).trans rfl;have hfz29_0:=blk_frozen BK146.out 0;have hfz29_1:=blk_frozen BK146.out 1;have hcz30_0:w28.cell? ⟨gb144,0,none⟩=some (.int .i64 0):=(blk_cell BK144.out 0).trans rfl;have hcz30_1:w28.cell? ⟨gb144,1,none⟩=some (.slice none 0 0):=(blk_cell BK144.out 1).trans rfl;have hfz30_0:=blk_frozen BK144.out 0;have hfz30_1:=blk_frozen BK144.out 1))
        refine bodyPost_ret (results_ct rfl _ _ gb144 47 #[.int .i64 t145,.slice Ao27 x147001_1.length co27] (0,0) _ rfl (bP2 BK144.out) Tryz.underlying47 rfl (by kernel_rfl)) rfl ?_;exact⟨_,aE,by(with_reducible repeat apply pR);exact Kd.R_mono (Kd.R_far (p:=⟨gb144,1,none⟩) (Kd.R_far (p:=⟨gb144,0,none⟩) (Kd.R_types HO_147001.out BK144.out (by decide)) (fun _ hk=>hk.2) (.int .i64 t145)) (fun _ hk=>hk.2) (.slice Ao27 x147001_1.length co27)) (fun _ hk=>trivial),aG⟩
       ·rw[if_neg c24] at H;have c24b0:(t150.toList==a1.toList)=false:=beq_eq_false_iff_ne.mpr c24;have c24b1:(t150.toList !=a1.toList)=true:=bne_iff_ne.mpr c24;simp only[Option.some.injEq,Prod.mk.injEq] at H;obtain⟨rfl,rfl,rfl⟩:=H;have hnb31:=NB146_144.out;have hnc31:=NB144_146.out;have hcz32_0:wr.cell? ⟨gb146,0,none⟩=some (.int .i64 t145):=(blk_cell BK146.out 0).trans rfl;have hcz32_1:wr.cell? ⟨gb146,1,none⟩=some (u147001):=(blk_cell BK146.out 1).trans rfl;have hfz32_0:=blk_frozen BK146.out 0;have hfz32_1:=blk_frozen BK146.out 1;obtain⟨Ao33,co33,eo33⟩:=Kd.R_slice HO_147001.out;subst eo33
        go_wp2_with (first|((with_reducible refine gate_callee (f:=53) rfl ?_);refine goesL_ (some 38) rfl rfl Tryz.func53 (by kernel_rfl) rfl #[.slice A0 l0.length c0,.agg #[.int .i64 t145,.slice Ao33 x147001_1.length co33]] rfl aA ?_;(with_reducible refine(spec_FormatFact.calls k1 _ _ l0 t145 _ _ x147001_1 t150 _ ?side1 ?side2 ?side3 ?side4 A23.out).mono ?_);(case side1=>exact aC);(case side2=>exact HC0.out);(case side3=>repeat(first|exact(Kd.R_reads' HO_147001.out).2.2|(with_reducible refine pC ?_)));(case side4=>exact(Kd.R_reads' HO_147001.out).2.1);rintro e w34 ⟨rfl,hb⟩;refine⟨_,rfl,?_⟩;have n0_:=aM (Kd.R_below (aR HO_147001) hb);have n1_:=aM (kB gb144 #[.int .i64 0,.slice none 0 0] 47 hb);have n2_:=aM (kB gb146 #[.int .i64 t145,.slice Ao33 x147001_1.length co33] 47 hb);have n3_:=aM (below_step aG hb);clear HO_147001;clear BK144;clear BK146;clear HB;have HO_147001:=n0_;have BK144:=n1_;have BK146:=n2_;have HB:=n3_;clear n0_ n1_ n2_ n3_;(try clear hb);(try clear hb2);(try clear hk);(try clear hi);have hcz35_0:w34.cell? ⟨gb144,0,none⟩=some (.int .i64 0):=(blk_cell BK144.out 0).trans rfl;have hcz35_1:w34.cell? ⟨gb144,1,none⟩=some (.slice none 0 0):=(blk_cell BK144.out 1).trans rfl;have hfz35_0:=blk_frozen BK144.out 0;have hfz35_1:=blk_frozen BK144.out 1))
        refine bodyPost_ret (results_ct rfl _ _ gb144 47 #[.int .i64 0,.slice none 0 0] (0,0) _ rfl (bP2 BK144.out) Tryz.underlying47 rfl (by kernel_rfl)) rfl ?_;exact⟨_,aE,by first|exact Kd.R_nil _ _ _ _ _|exact Kd.N_nil _ _ _ _ _|exact Kd.V_nil _ _ _ _ _|exact Kd.Q_nil _ _ _ _ _|exact Kd.S_nil _ _ _ _ _,aG⟩
   ·rw[if_neg c7] at H;exact absurd H (by simp)
  ·rw[if_neg c6] at H;exact absurd H (by simp)

/-! ### spec_l3Ints: function 81 -/
mutual
def spec_l3Ints.l0:Nat→List Int→List Int→Int→Option (Int)
 |0,_,_,_=>none
 |k+1,x0,x1,x5=>if x5<(x0.length:Int) then(spec_l3Ints.j1 k x0 x1 x5 (decide (x5<(x1.length:Int)))) else(spec_l3Ints.j1 k x0 x1 x5 false)
def spec_l3Ints.j1:Nat→List Int→List Int→Int→Bool→Option (Int)
 |0,_,_,_,_=>none
 |k+1,x0,x1,x5,x15=>if x15=true then(if 0≤x5 then(if x5<(x0.length:Int) then(if x5<(x1.length:Int) then(if(rd x0 x5)<(rd x1 x5) then(some (-1)) else(if(rd x0 x5)>(rd x1 x5) then(some 1) else(spec_l3Ints.l0 k x0 x1 (wrap64 (x5+1))))) else(none)) else(none)) else(none)) else(if(x0.length:Int)<(x1.length:Int) then(some (-1)) else(if(x0.length:Int)>(x1.length:Int) then(some 1) else(some 0)))
end
def spec_l3Ints.f (k:Nat) (l0:List Int) (l1:List Int):Option (Int):=spec_l3Ints.l0 k l0 l1 0
set_option maxHeartbeats 8000000 in
set_option maxRecDepth 100000 in
theorem spec_l3Ints.calls (k:Nat) (A0:Option Addr) (c0:Nat) (l0:List Int) (A1:Option Addr) (c1:Nat) (l1:List Int) (r:Int) (w:World) (hr0:Kd.C (Kd.int .i64) w A0 l0.length l0) (hc0:l0.length≤c0) (hr1:Kd.C (Kd.int .i64) w A1 l1.length l1) (hc1:l1.length≤c1) (h:spec_l3Ints.f k l0 l1=some r):
  Calls Tryz.prog 81 #[.slice A0 l0.length c0,.slice A1 l1.length c1] w fun e w'=>e= .returned (.int .i64 r)∧Drawn0 w w':=by
 have rg_:= @bcl w;have rd_:= @bdr w;unfold spec_l3Ints.f at h
 ·go_enter Tryz.func81,Tryz.ntmps81
  go_wp2
  (repeat((refine nw (w0:=w) zB ?_;intro W1 HB hb hd;(first|(refine Txt.rg (id:=4) [0,1,2,3,4,5,6,7,8] (by kernel_rfl) (by kernel_rfl) ?_;simp only[List.map_cons,List.map_nil,List.getD_cons_zero,List.getD_cons_succ])|(refine Txt.rg (id:=6) [0,1,2,3,4,5,6,7,8] (by kernel_rfl) (by kernel_rfl) ?_;simp only[List.map_cons,List.map_nil,List.getD_cons_zero,List.getD_cons_succ]));(repeat(first|(refine Txt.off rfl ?_;simp only[Act.put,List.setIfInBounds_toArray,List.set_cons_zero,List.set_cons_succ])|(refine Txt.take rfl rfl ?_;intro K hK;go_big_quiet_op;go_big_quiet_on)));refine Txt.nil ?_);(try go_wp2)))
  go_loopg [5] k (fun kq v5 w'=> ∃(x5_0:Int),v5= .int .i64 x5_0∧spec_l3Ints.l0 kq l0 l1 x5_0=some r∧Drawn0 w w')
  case atStart=>exact⟨_,zR,zA,zD⟩
  case round=>
   clear h;obtain⟨x5_0,rfl,h,hb⟩:=hrel;have hd:=hb;replace hb:=hb.below;replace hb:=aM hb;have HB:Below w.heap.size w wr:=zB
   rcases gk with _|kk0
   exact absurd h (by simp[spec_l3Ints.l0]);simp only[spec_l3Ints.l0] at h;replace h:=il h;rcases h with ⟨c1,c1a,h⟩|⟨c1,c1a,h⟩
   rcases kk0 with _|kj2
   exact absurd h (by simp[spec_l3Ints.j1]);simp only[spec_l3Ints.j1] at h;replace h:=ib h;rcases h with ⟨c3,h⟩|⟨c3,h⟩
   replace h:=ie h;rcases h with ⟨c4,c4a,h⟩|⟨c4,c4a,h⟩
   replace h:=il h;rcases h with ⟨c5,c5a,h⟩|⟨c5,c5a,h⟩
   replace h:=il h;rcases h with ⟨c6,c6a,h⟩|⟨c6,c6a,h⟩
   replace h:=il h;rcases h with ⟨c7,c7a,h⟩|⟨c7,c7a,h⟩
   obtain rfl:=si h;obtain⟨ad151,e151,hx151_0⟩:=Kd.at_int hr0 (x5_0:Int) aD aD;have p151:=eq_true (aD:0≤(x5_0:Int));have q151:=eq_true (aD:x5_0<(l0.length:Int))
   cases e151
   replace hx151_0:=qa hx151_0;obtain⟨ad152,e152,hx152_0⟩:=Kd.at_int hr1 (x5_0:Int) aD aD;have p152:=eq_true (aD:0≤(x5_0:Int));have q152:=eq_true (aD:x5_0<(l1.length:Int))
   cases e152
   replace hx152_0:=qa hx152_0
   rotate_left
   replace h:=ig h;rcases h with ⟨c8,c8a,h⟩|⟨c8,c8a,h⟩
   obtain rfl:=si h;obtain⟨ad151,e151,hx151_0⟩:=Kd.at_int hr0 (x5_0:Int) aD aD;have p151:=eq_true (aD:0≤(x5_0:Int));have q151:=eq_true (aD:x5_0<(l0.length:Int))
   cases e151
   replace hx151_0:=qa hx151_0;obtain⟨ad152,e152,hx152_0⟩:=Kd.at_int hr1 (x5_0:Int) aD aD;have p152:=eq_true (aD:0≤(x5_0:Int));have q152:=eq_true (aD:x5_0<(l1.length:Int))
   cases e152
   replace hx152_0:=qa hx152_0;obtain⟨ad153,e153,hx153_0⟩:=Kd.at_int hr0 (x5_0:Int) aD aD;have p153:=eq_true (aD:0≤(x5_0:Int));have q153:=eq_true (aD:x5_0<(l0.length:Int))
   cases e153
   replace hx153_0:=qa hx153_0;obtain⟨ad154,e154,hx154_0⟩:=Kd.at_int hr1 (x5_0:Int) aD aD;have p154:=eq_true (aD:0≤(x5_0:Int));have q154:=eq_true (aD:x5_0<(l1.length:Int))
   cases e154
   replace hx154_0:=qa hx154_0
   rotate_left
   obtain⟨kf,hkf⟩: ∃kf,kf=kj2:=⟨_,rfl⟩;rw[←hkf] at h;obtain⟨ad151,e151,hx151_0⟩:=Kd.at_int hr0 (x5_0:Int) aD aD;have p151:=eq_true (aD:0≤(x5_0:Int));have q151:=eq_true (aD:x5_0<(l0.length:Int))
   cases e151
   replace hx151_0:=qa hx151_0;obtain⟨ad152,e152,hx152_0⟩:=Kd.at_int hr1 (x5_0:Int) aD aD;have p152:=eq_true (aD:0≤(x5_0:Int));have q152:=eq_true (aD:x5_0<(l1.length:Int))
   cases e152
   replace hx152_0:=qa hx152_0;obtain⟨ad153,e153,hx153_0⟩:=Kd.at_int hr0 (x5_0:Int) aD aD;have p153:=eq_true (aD:0≤(x5_0:Int));have q153:=eq_true (aD:x5_0<(l0.length:Int))
   cases e153
   replace hx153_0:=qa hx153_0;obtain⟨ad154,e154,hx154_0⟩:=Kd.at_int hr1 (x5_0:Int) aD aD;have p154:=eq_true (aD:0≤(x5_0:Int));have q154:=eq_true (aD:x5_0<(l1.length:Int))
   cases e154
   replace hx154_0:=qa hx154_0
   rotate_left
   exact absurd h (by simp);exact absurd h (by simp);exact absurd h (by simp);replace h:=il h;rcases h with ⟨c9,c9a,h⟩|⟨c9,c9a,h⟩
   have cz:=c9.out;have c9x1:decide (l0.length<l1.length)=true:=decide_eq_true (Int.ofNat_lt.mp cz);clear cz;obtain rfl:=si h
   rotate_left
   have cz:=c9.out;have c9x1:decide (l0.length<l1.length)=false:=decide_eq_false (fun h=>cz (Int.ofNat_lt.mpr h));clear cz;replace h:=ig h;rcases h with ⟨c10,c10a,h⟩|⟨c10,c10a,h⟩
   have cz:=c10.out;have c10x1:decide (l1.length<l0.length)=true:=decide_eq_true (Int.ofNat_lt.mp cz);clear cz;obtain rfl:=si h
   rotate_left
   have cz:=c10.out;have c10x1:decide (l1.length<l0.length)=false:=decide_eq_false (fun h=>cz (Int.ofNat_lt.mpr h));clear cz;obtain rfl:=si h
   rotate_left
   rcases kk0 with _|kj11
   exact absurd h (by simp[spec_l3Ints.j1]);simp only[spec_l3Ints.j1] at h;(try replace h:=iff_ h)
   replace h:=il h;rcases h with ⟨c12,c12a,h⟩|⟨c12,c12a,h⟩
   have cz:=c12.out;have c12x1:decide (l0.length<l1.length)=true:=decide_eq_true (Int.ofNat_lt.mp cz);clear cz;obtain rfl:=si h
   rotate_left
   have cz:=c12.out;have c12x1:decide (l0.length<l1.length)=false:=decide_eq_false (fun h=>cz (Int.ofNat_lt.mpr h));clear cz;replace h:=ig h;rcases h with ⟨c13,c13a,h⟩|⟨c13,c13a,h⟩
   have cz:=c13.out;have c13x1:decide (l1.length<l0.length)=true:=decide_eq_true (Int.ofNat_lt.mp cz);clear cz;obtain rfl:=si h
   rotate_left
   have cz:=c13.out;have c13x1:decide (l1.length<l0.length)=false:=decide_eq_false (fun h=>cz (Int.ofNat_lt.mpr h));clear cz;obtain rfl:=si h
   rotate_left
   all_goals (go_wp2;(repeat((refine nw (w0:=w) zB ?_;intro W1 HB hb hd;(first|(refine Txt.rg (id:=4) [0,1,2,3,4,5,6,7,8] (by kernel_rfl) (by kernel_rfl) ?_;simp only[List.map_cons,List.map_nil,List.getD_cons_zero,List.getD_cons_succ])|(refine Txt.rg (id:=6) [0,1,2,3,4,5,6,7,8] (by kernel_rfl) (by kernel_rfl) ?_;simp only[List.map_cons,List.map_nil,List.getD_cons_zero,List.getD_cons_succ]));(repeat(first|(refine Txt.off rfl ?_;simp only[Act.put,List.setIfInBounds_toArray,List.set_cons_zero,List.set_cons_succ])|(refine Txt.take rfl rfl ?_;intro K hK;go_big_quiet_op;go_big_quiet_on)));refine Txt.nil ?_);(try go_wp2)));first|(go_ret;exact zE zD)|(go_roundg kf;(case measure=>omega);(case rel=>exact⟨_,zR,zA,zD⟩)))

/-! ### spec_CompareFacts: function 45 -/
def spec_CompareFacts.f (k:Nat) (a0_0:Int) (l0_1:List Int) (a1_0:Int) (l1_1:List Int):Option (Int):=if a0_0<a1_0 then(some (-1)) else(if a0_0>a1_0 then(some 1) else((spec_l3Ints.f k l0_1 l1_1).bind fun t157=>(some t157)))
set_option maxHeartbeats 8000000 in
set_option maxRecDepth 100000 in
theorem spec_CompareFacts.calls (k:Nat) (a0_0:Int) (A0_1:Option Addr) (c0_1:Nat) (l0_1:List Int) (a1_0:Int) (A1_1:Option Addr) (c1_1:Nat) (l1_1:List Int) (r:Int) (w:World) (hr0_1:Kd.C (Kd.int .i64) w A0_1 l0_1.length l0_1) (hc0_1:l0_1.length≤c0_1) (hr1_1:Kd.C (Kd.int .i64) w A1_1 l1_1.length l1_1) (hc1_1:l1_1.length≤c1_1) (h:spec_CompareFacts.f k a0_0 l0_1 a1_0 l1_1=some r):
  Calls Tryz.prog 45 #[.agg #[.int .i64 a0_0,.slice A0_1 l0_1.length c0_1],.agg #[.int .i64 a1_0,.slice A1_1 l1_1.length c1_1]] w fun e w'=>e= .returned (.int .i64 r)∧Below w.heap.size w w':=by
 have hu47:=Tryz.underlying47;obtain⟨W,hW⟩: ∃W,(w.alloc (.cells #[.int .i64 a0_0,.slice A0_1 l0_1.length c0_1] 47)).alloc (.cells #[.int .i64 a1_0,.slice A1_1 l1_1.length c1_1] 47)=W:=⟨_,rfl⟩;have q0:=qa (w:=W) (p:=⟨w.heap.size,0,none⟩) (v:= .int .i64 a0_0) (by subst hW;go_simp);have q1:=qa (w:=W) (p:=⟨w.heap.size,1,none⟩) (v:= .slice A0_1 l0_1.length c0_1) (by subst hW;go_simp);have q2:=qa (w:=W) (p:=⟨w.heap.size+1,0,none⟩) (v:= .int .i64 a1_0) (by subst hW;go_simp);have q3:=qa (w:=W) (p:=⟨w.heap.size+1,1,none⟩) (v:= .slice A1_1 l1_1.length c1_1) (by subst hW;go_simp);have HB:Below w.heap.size w W:=by subst hW;exact zB
 have HW:=Below.refl W.heap.size W;have hb:=aM HB;unfold spec_CompareFacts.f at h;replace h:=il h;rcases h with ⟨c0,c0a,h⟩|⟨c0,c0a,h⟩
 obtain rfl:=si h
 rotate_left
 replace h:=ig h;rcases h with ⟨c1,c1a,h⟩|⟨c1,c1a,h⟩
 obtain rfl:=si h
 rotate_left
 replace h:=bs h;obtain⟨t157,B2,h⟩:=h;obtain rfl:=si h
 rotate_left
 all_goals (go_enter Tryz.func45,Tryz.ntmps45;go_wp2_with (first|(go_at_call 81;refine(spec_l3Ints.calls ?_ _ _ _ _ _ _ ?_ _ ?_ ?_ ?_ ?_ ?h).mono ?_;(case h=>exact zA);(iterate 4 (first|exact zC|exact zA));rintro e w1 ⟨rfl,hb⟩;replace hb:=hb.below;replace hb:=aM hb;have HW:Below W.heap.size W w1:=zB;have HB:Below w.heap.size w w1:=zB));go_ret;exact zE zB)

end Go.Proofs.YtckpikfbhlhhjaaGreatDoor.PFnDatabaseFormat
