import Derived.Test.YtckpikfbhlhhjaaGreatDoorPFnDatabaseFormatx0
import Derived.Test.YtckpikfbhlhhjaaGreatDoorPFnDatabaseFormatx2
import Derived.Test.YtckpikfbhlhhjaaGreatDoorPFnDatabaseFormatx4
namespace Go.Proofs.YtckpikfbhlhhjaaGreatDoor.PFnDatabaseFormat
open Go.RowKit Go.Proofs.YtckpikfbhlhhjaaGreatDoorW.PrintWords Go.Proofs.YtckpikfbhlhhjaaGreatDoorW.PrintLast Go.Proofs.YtckpikfbhlhhjaaGreatDoorW.PrintMore
attribute [local go_sem] max2_int min2_int max_two min_two max_three min_three max_four min_four
set_option linter.unusedVariables false
set_option linter.unusedSimpArgs false

/-! ### impl_compare: function 83 -/
def impl_compare.f (a0:Int) (a1:Int):Option (Int):=if a0<a1 then(some (-1)) else(if a0>a1 then(some 1) else(some 0))
set_option maxHeartbeats 8000000 in
set_option maxRecDepth 100000 in
theorem impl_compare.calls (a0:Int) (a1:Int) (r:Int) (w:World) (h:impl_compare.f a0 a1=some r):
  Calls Tryz.prog 83 #[.int .i64 a0,.int .i64 a1] w fun e w'=>e= .returned (.int .i64 r)∧Drawn0 w w':=by
 unfold impl_compare.f at h;replace h:=il h;rcases h with ⟨c0,c0a,h⟩|⟨c0,c0a,h⟩
 obtain rfl:=si h
 rotate_left
 replace h:=ig h;rcases h with ⟨c1,c1a,h⟩|⟨c1,c1a,h⟩
 obtain rfl:=si h
 rotate_left
 obtain rfl:=si h
 rotate_left
 all_goals (go_enter Tryz.func83,Tryz.ntmps83;go_wp2;go_ret;exact zE zD)

/-! ### cmp_isNaN_int: function 114 -/
def cmp_isNaN_int.f (a0:Int):Option (Bool):=some (a0 !=a0)
set_option maxHeartbeats 8000000 in
set_option maxRecDepth 100000 in
theorem cmp_isNaN_int.calls (a0:Int) (r:Bool) (w:World) (h:cmp_isNaN_int.f a0=some r):
  Calls Tryz.prog 114 #[.int .i64 a0] w fun e w'=>e= .returned (.bool r)∧Drawn0 w w':=by
 unfold cmp_isNaN_int.f at h;obtain rfl:=si h
 rotate_left
 all_goals (go_enter Tryz.func114,Tryz.ntmps114;go_wp2;go_ret;exact zE zD)

/-! ### cmp_Compare_int: function 100 -/
def cmp_Compare_int.f (a0:Int) (a1:Int):Option (Int):=(cmp_isNaN_int.f a0).bind fun t232=>((cmp_isNaN_int.f a1).bind fun t233=>(if t232=true then(if t233=true then(some 0) else(some (-1))) else(if t233=true then(some 1) else(if a0<a1 then(some (-1)) else(if a0>a1 then(some 1) else(some 0))))))
set_option maxHeartbeats 8000000 in
set_option maxRecDepth 100000 in
theorem cmp_Compare_int.calls (a0:Int) (a1:Int) (r:Int) (w:World) (h:cmp_Compare_int.f a0 a1=some r):
  Calls Tryz.prog 100 #[.int .i64 a0,.int .i64 a1] w fun e w'=>e= .returned (.int .i64 r)∧Drawn0 w w':=by
 unfold cmp_Compare_int.f at h;replace h:=bs h;obtain⟨t232,B0,h⟩:=h;replace h:=bs h;obtain⟨t233,B1,h⟩:=h;replace h:=ib h;rcases h with ⟨rfl,h⟩|⟨rfl,h⟩
 replace h:=ib h;rcases h with ⟨rfl,h⟩|⟨rfl,h⟩
 obtain rfl:=si h
 rotate_left
 obtain rfl:=si h
 rotate_left
 replace h:=ib h;rcases h with ⟨rfl,h⟩|⟨rfl,h⟩
 obtain rfl:=si h
 rotate_left
 replace h:=il h;rcases h with ⟨c5,c5a,h⟩|⟨c5,c5a,h⟩
 obtain rfl:=si h
 rotate_left
 replace h:=ig h;rcases h with ⟨c6,c6a,h⟩|⟨c6,c6a,h⟩
 obtain rfl:=si h
 rotate_left
 obtain rfl:=si h
 rotate_left
 all_goals (go_enter Tryz.func100,Tryz.ntmps100;go_wp2_with (first|(go_at_call 114;refine(cmp_isNaN_int.calls _ ?_ _ ?h).mono ?_;(case h=>exact zA);rintro e w1 ⟨rfl,hb⟩;have hd:=hb;replace hb:=hb.below;replace hb:=aM hb;have HB:Below w.heap.size w w1:=zB));go_ret;exact zE zD)

/-! ### slices_Compare_int_int: function 84 -/
def slices_Compare_int_int.l0:Nat→List Int→List Int→List Int→Int→Int→Option (Int)
 |0,_,_,_,_,_=>none
 |k+1,x0,x1,x9,x10,x11=>if x11<x10 then(if 0≤x11 then(if x11<(x9.length:Int) then(if x11≥(x1.length:Int) then(some 1) else(if x11<(x1.length:Int) then((cmp_Compare_int.f (rd x9 x11) (rd x1 x11)).bind fun t236=>(if t236=0 then(slices_Compare_int_int.l0 k x0 x1 x9 x10 (wrap64 (x11+1))) else(some t236))) else(none))) else(none)) else(none)) else(if(x0.length:Int)<(x1.length:Int) then(some (-1)) else(some 0))
def slices_Compare_int_int.f (k:Nat) (l0:List Int) (l1:List Int):Option (Int):=slices_Compare_int_int.l0 k l0 l1 l0 (l0.length:Int) 0
set_option maxHeartbeats 8000000 in
set_option maxRecDepth 100000 in
theorem slices_Compare_int_int.calls (k:Nat) (A0:Option Addr) (c0:Nat) (l0:List Int) (A1:Option Addr) (c1:Nat) (l1:List Int) (r:Int) (w:World) (hr0:Kd.C (Kd.int .i64) w A0 l0.length l0) (hc0:l0.length≤c0) (hr1:Kd.C (Kd.int .i64) w A1 l1.length l1) (hc1:l1.length≤c1) (h:slices_Compare_int_int.f k l0 l1=some r):
  Calls Tryz.prog 84 #[.slice A0 l0.length c0,.slice A1 l1.length c1] w fun e w'=>e= .returned (.int .i64 r)∧Drawn0 w w':=by
 unfold slices_Compare_int_int.f at h
 ·go_enter Tryz.func84,Tryz.ntmps84
  go_wp2_with (first|(go_at_call 100;refine(cmp_Compare_int.calls _ _ ?_ _ ?h).mono ?_;(case h=>exact zA);rintro e w1 ⟨rfl,hb⟩;have hd:=hb;replace hb:=hb.below;replace hb:=aM hb;have HB:Below w.heap.size w w1:=zB))
  go_loopg [11] k (fun kq v11 w'=> ∃(x11_0:Int),v11= .int .i64 x11_0∧slices_Compare_int_int.l0 kq l0 l1 l0 (l0.length:Int) x11_0=some r∧Drawn0 w w')
  case atStart=>exact⟨_,zR,zA,zD⟩
  case round=>
   clear h;obtain⟨x11_0,rfl,h,hb⟩:=hrel;have hd:=hb;replace hb:=hb.below;replace hb:=aM hb;have HB:Below w.heap.size w wr:=zB
   rcases gk with _|kk0
   exact absurd h (by simp[slices_Compare_int_int.l0]);simp only[slices_Compare_int_int.l0] at h;replace h:=il h;rcases h with ⟨c1,c1a,h⟩|⟨c1,c1a,h⟩
   replace h:=ie h;rcases h with ⟨c2,c2a,h⟩|⟨c2,c2a,h⟩
   replace h:=il h;rcases h with ⟨c3,c3a,h⟩|⟨c3,c3a,h⟩
   replace h:=ih h;rcases h with ⟨c4,c4a,h⟩|⟨c4,c4a,h⟩
   obtain rfl:=si h;obtain⟨ad234,e234,hx234_0⟩:=Kd.at_int hr0 (x11_0:Int) aD aD;have p234:=eq_true (aD:0≤(x11_0:Int));have q234:=eq_true (aD:x11_0<(l0.length:Int))
   cases e234
   replace hx234_0:=qa hx234_0
   rotate_left
   replace h:=il h;rcases h with ⟨c5,c5a,h⟩|⟨c5,c5a,h⟩
   replace h:=bs h;obtain⟨t236,B6,h⟩:=h;replace h:=iq h;rcases h with ⟨c7,⟨c7a,c7b⟩,h⟩|⟨c7,⟨c7a,c7b⟩,h⟩
   obtain⟨kf,hkf⟩: ∃kf,kf=kk0:=⟨_,rfl⟩;rw[←hkf] at h;obtain⟨ad234,e234,hx234_0⟩:=Kd.at_int hr0 (x11_0:Int) aD aD;have p234:=eq_true (aD:0≤(x11_0:Int));have q234:=eq_true (aD:x11_0<(l0.length:Int))
   cases e234
   replace hx234_0:=qa hx234_0;obtain⟨ad235,e235,hx235_0⟩:=Kd.at_int hr1 (x11_0:Int) aD aD;have p235:=eq_true (aD:0≤(x11_0:Int));have q235:=eq_true (aD:x11_0<(l1.length:Int))
   cases e235
   replace hx235_0:=qa hx235_0
   rotate_left
   obtain rfl:=si h;obtain⟨ad234,e234,hx234_0⟩:=Kd.at_int hr0 (x11_0:Int) aD aD;have p234:=eq_true (aD:0≤(x11_0:Int));have q234:=eq_true (aD:x11_0<(l0.length:Int))
   cases e234
   replace hx234_0:=qa hx234_0;obtain⟨ad235,e235,hx235_0⟩:=Kd.at_int hr1 (x11_0:Int) aD aD;have p235:=eq_true (aD:0≤(x11_0:Int));have q235:=eq_true (aD:x11_0<(l1.length:Int))
   cases e235
   replace hx235_0:=qa hx235_0
   rotate_left
   exact absurd h (by simp);exact absurd h (by simp);exact absurd h (by simp);replace h:=il h;rcases h with ⟨c8,c8a,h⟩|⟨c8,c8a,h⟩
   have cz:=c8.out;have c8x1:decide (l0.length<l1.length)=true:=decide_eq_true (Int.ofNat_lt.mp cz);clear cz;obtain rfl:=si h
   rotate_left
   have cz:=c8.out;have c8x1:decide (l0.length<l1.length)=false:=decide_eq_false (fun h=>cz (Int.ofNat_lt.mpr h));clear cz;obtain rfl:=si h
   rotate_left
   all_goals (go_wp2_with (first|(go_at_call 100;refine(cmp_Compare_int.calls _ _ ?_ _ ?h).mono ?_;(case h=>exact zA);rintro e w1 ⟨rfl,hb⟩;have hd:=hb;replace hb:=hb.below;replace hb:=aM hb;have HB:Below w.heap.size w w1:=zB));first|(go_ret;exact zE zD)|(go_roundg kf;(case measure=>omega);(case rel=>exact⟨_,zR,zA,zD⟩)))

/-! ### impl_CompareFacts: function 50 -/
def impl_CompareFacts.f (k:Nat) (a0_0:Int) (l0_1:List Int) (a1_0:Int) (l1_1:List Int):Option (Int):=if a0_0=a1_0 then((slices_Compare_int_int.f k l0_1 l1_1).bind fun t239=>(some t239)) else((impl_compare.f a0_0 a1_0).bind fun t240=>(some t240))
set_option maxHeartbeats 8000000 in
set_option maxRecDepth 100000 in
theorem impl_CompareFacts.calls (k:Nat) (a0_0:Int) (A0_1:Option Addr) (c0_1:Nat) (l0_1:List Int) (a1_0:Int) (A1_1:Option Addr) (c1_1:Nat) (l1_1:List Int) (r:Int) (w:World) (hr0_1:Kd.C (Kd.int .i64) w A0_1 l0_1.length l0_1) (hc0_1:l0_1.length≤c0_1) (hr1_1:Kd.C (Kd.int .i64) w A1_1 l1_1.length l1_1) (hc1_1:l1_1.length≤c1_1) (h:impl_CompareFacts.f k a0_0 l0_1 a1_0 l1_1=some r):
  Calls Tryz.prog 50 #[.agg #[.int .i64 a0_0,.slice A0_1 l0_1.length c0_1],.agg #[.int .i64 a1_0,.slice A1_1 l1_1.length c1_1]] w fun e w'=>e= .returned (.int .i64 r)∧Below w.heap.size w w':=by
 have hu47:=Tryz.underlying47;obtain⟨W,hW⟩: ∃W,(w.alloc (.cells #[.int .i64 a0_0,.slice A0_1 l0_1.length c0_1] 47)).alloc (.cells #[.int .i64 a1_0,.slice A1_1 l1_1.length c1_1] 47)=W:=⟨_,rfl⟩;have q0:=qa (w:=W) (p:=⟨w.heap.size,0,none⟩) (v:= .int .i64 a0_0) (by subst hW;go_simp);have q1:=qa (w:=W) (p:=⟨w.heap.size,1,none⟩) (v:= .slice A0_1 l0_1.length c0_1) (by subst hW;go_simp);have q2:=qa (w:=W) (p:=⟨w.heap.size+1,0,none⟩) (v:= .int .i64 a1_0) (by subst hW;go_simp);have q3:=qa (w:=W) (p:=⟨w.heap.size+1,1,none⟩) (v:= .slice A1_1 l1_1.length c1_1) (by subst hW;go_simp);have HB:Below w.heap.size w W:=by subst hW;exact zB
 have HW:=Below.refl W.heap.size W;have hb:=aM HB;unfold impl_CompareFacts.f at h;replace h:=iq h;rcases h with ⟨c0,⟨c0a,c0b⟩,h⟩|⟨c0,⟨c0a,c0b⟩,h⟩
 replace h:=bs h;obtain⟨t239,B1,h⟩:=h;obtain rfl:=si h
 rotate_left
 replace h:=bs h;obtain⟨t240,B2,h⟩:=h;obtain rfl:=si h
 rotate_left
 all_goals (go_enter Tryz.func50,Tryz.ntmps50;go_wp2_with (first|(go_at_call 83;refine(impl_compare.calls _ _ ?_ _ ?h).mono ?_;(case h=>exact zA);rintro e w1 ⟨rfl,hb⟩;replace hb:=hb.below;replace hb:=aM hb;have HW:Below W.heap.size W w1:=zB;have HB:Below w.heap.size w w1:=zB)|(go_at_call 84;refine(slices_Compare_int_int.calls ?_ _ _ _ _ _ _ ?_ _ ?_ ?_ ?_ ?_ ?h).mono ?_;(case h=>exact zA);(iterate 4 (first|exact zC|exact zA));rintro e w1 ⟨rfl,hb⟩;replace hb:=hb.below;replace hb:=aM hb;have HW:Below W.heap.size W w1:=zB;have HB:Below w.heap.size w w1:=zB));go_ret;exact zE zB)

/-! ### impl_AreValidRelations: function 67 -/

def impl_AreValidRelations.f (l0:List S42):Option Bool:=some (vRels l0)
set_option maxHeartbeats 4000000 in
set_option maxRecDepth 100000 in
theorem impl_AreValidRelations.calls (A0:Option Addr) (c0:Nat) (l0:List S42) (r:Bool) (w:World) (hr0:Kd.C k42 w A0 l0.length l0) (hc0:l0.length≤c0) (h:impl_AreValidRelations.f l0=some r):
  Calls Tryz.prog 67 #[.slice A0 l0.length c0] w fun e w'=>e= .returned (.bool r)∧Below w.heap.size w w':=by
 obtain rfl:=Option.some.inj h;have hl:l0.length≤9223372036854775807:=hr0.2.1;have HR:=aM hr0;clear hr0 h
 go_enter Tryz.func67,Tryz.ntmps67
 go_wp2
 go_loopg [7] l0.length (fun gg s7 wr=> ∃i:Nat,i≤l0.length∧l0.length-i≤gg∧s7= .int .i64 i∧Aside0 (Below w.heap.size w wr)∧Aside0 (vRelsFrom l0 (l0.length-i) i=vRels l0))
 case atStart=>exact⟨0,Nat.zero_le _,by omega,rfl,⟨Below.refl _ _⟩,⟨rfl⟩⟩
 case round=>
  obtain⟨i,hi,hg,rfl,BW,HA⟩:=hrel
  by_cases hlt:i<l0.length
  ·have hltz:(i:Int)<(l0.length:Int):=by omega
   obtain⟨ad,e,h0,h1,h2⟩:=at_T42 (Kd.C_below HR.out BW.out) (i:Int) (by omega) hltz;rw[Int.toNat_natCast] at h0 h1 h2
   cases e
   have hrd:rd_T42 l0 (i:Int)=l0.getD i z42:=by unfold rd_T42;rw[Int.toNat_natCast]
   rw[hrd] at h0 h1 h2;clear hrd;have HX:Aside0 (vRelsFrom l0 (l0.length-i) i=(vRel (l0.getD i z42)&&(decide (i=0)||Op.bytesLess (l0.getD (i-1) z42).f0.toList (l0.getD i z42).f0.toList)&&vRelsFrom l0 (l0.length-(i+1)) (i+1))):=⟨by
    rw[show l0.length-i=(l0.length-(i+1))+1 by omega];rfl⟩
   generalize l0.getD i z42=x at h0 h1 h2 HX;have F0:Aside0 ((wr.alloc (.cells #[.string x.f0,.int .i64 x.f1,.int .i64 x.f2] 42)).cell? ⟨wr.heap.size,0,none⟩=some (.string x.f0)):=⟨(blk_cell (heap_alloc_new wr _) 0).trans rfl⟩;have F1:Aside0 ((wr.alloc (.cells #[.string x.f0,.int .i64 x.f1,.int .i64 x.f2] 42)).cell? ⟨wr.heap.size,1,none⟩=some (.int .i64 x.f1)):=⟨(blk_cell (heap_alloc_new wr _) 1).trans rfl⟩;have F2:Aside0 ((wr.alloc (.cells #[.string x.f0,.int .i64 x.f1,.int .i64 x.f2] 42)).cell? ⟨wr.heap.size,2,none⟩=some (.int .i64 x.f2)):=⟨(blk_cell (heap_alloc_new wr _) 2).trans rfl⟩;have B2:Aside0 (Below w.heap.size w (wr.alloc (.cells #[.string x.f0,.int .i64 x.f1,.int .i64 x.f2] 42))):=⟨below_alloc BW.out _⟩;have HC:Aside0 (∀(W:World) d os,Calls Tryz.prog 69 #[.agg #[.string x.f0,.int .i64 x.f1,.int .i64 x.f2]] (Go.Sort.grow (redrawn W d) os) fun e w''=>e= .returned (.bool (vRel x))∧ ∃p:Regrown,w''=Go.Sort.grow (redrawn W p.d) p.os):=⟨fun W d os=>Calls.regrown_of (impl_IsValidRelation.calls x.f0 x.f1 x.f2 (vRel x) _ (vRelI x))⟩
   by_cases hi0:i=0∨vRel x=false
   ·have hd0:vRel x=true→decide (0<i)=false:=fun hx=>by
     rcases hi0 with h|h
     ·simp[h]
     ·rw[hx] at h;cases h
    have hX:vRelsFrom l0 (l0.length-i) i=(vRel x&&vRelsFrom l0 (l0.length-(i+1)) (i+1)):=by
     rw[HX.out]
     rcases hi0 with h|h
     ·simp[h]
     ·simp[h]
    have HX:=aM hX;clear hX hi0
    cases hv:vRel x with
    |false=>
     have HV:=aM hv;clear hv hd0
     go_wp2_with fail
     clear h0 h1 h2;generalize wr.alloc (.cells #[.string x.f0,.int .i64 x.f1,.int .i64 x.f2] 42)=w2 at F0 F1 F2 B2 ⊢;generalize wr.heap.size=gb at F0 F1 F2 ⊢;have f0:=cell_regrown F0.out;have f1:=cell_regrown F1.out;have f2:=cell_regrown F2.out;have hc:=HC.out w2;rw[HV.out] at hc;have HC:=aM hc;clear hc;refine wp_region_quiet_below (by kernel_rfl) (by kernel_rfl) ?_
     repeat(go_big_quiet_step (exact HC.out _ _))
     refine wpQuiet_nil ?_;intro _ hw';obtain⟨⟨dq,osq⟩,hw''⟩:=hw';subst hw''
     go_wp2
     go_ret
     exact⟨by rw[←HA.out,HX.out,HV.out];rfl,below_then B2.out B2.out.size (below_regrown _ _ _)⟩
    |true=>
     have hd0:=hd0 hv;have HV:=aM hv;clear hv
     go_wp2_with fail
     clear h0 h1 h2;generalize wr.alloc (.cells #[.string x.f0,.int .i64 x.f1,.int .i64 x.f2] 42)=w2 at F0 F1 F2 B2 ⊢;generalize wr.heap.size=gb at F0 F1 F2 ⊢;have f0:=cell_regrown F0.out;have f1:=cell_regrown F1.out;have f2:=cell_regrown F2.out;have hc:=HC.out w2;rw[HV.out] at hc;have HC:=aM hc;clear hc;refine wp_region_quiet_below (by kernel_rfl) (by kernel_rfl) ?_
     repeat(go_big_quiet_step (exact HC.out _ _))
     refine wpQuiet_nil ?_;intro _ hw';obtain⟨⟨dq,osq⟩,hw''⟩:=hw';subst hw''
     go_wp2
     go_roundg (l0.length-(i+1))
     case measure=>omega
     case rel=>exact⟨i+1,by omega,by omega,by go_num,⟨below_then B2.out B2.out.size (below_regrown _ _ _)⟩,⟨by rw[←HA.out,HX.out,HV.out];rfl⟩⟩
   ·have hi1:i≠0:=fun h=>hi0 (.inl h);have hv:vRel x=true:=by
     cases h:vRel x with
     |true=>rfl
     |false=>exact absurd (.inr h) hi0
    clear hi0;obtain⟨ad',e',k0,_,_⟩:=at_T42 (Kd.C_below HR.out BW.out) ((i-1:Nat):Int) (by omega) (by omega)
    cases e'
    rw[Int.toNat_natCast] at k0;have hrd:rd_T42 l0 ((i-1:Nat):Int)=l0.getD (i-1) z42:=by unfold rd_T42;rw[Int.toNat_natCast]
    rw[hrd] at k0;clear hrd;have hX:vRelsFrom l0 (l0.length-i) i=(Op.bytesLess (l0.getD (i-1) z42).f0.toList x.f0.toList&&vRelsFrom l0 (l0.length-(i+1)) (i+1)):=by
     rw[HX.out,hv];simp[hi1]
    have HX:=aM hX;have HV:=aM hv;clear hX hv;generalize (l0.getD (i-1) z42).f0=y at k0 HX;have K0:Aside0 ((wr.alloc (.cells #[.string x.f0,.int .i64 x.f1,.int .i64 x.f2] 42)).cell? (ad.add ((i-1)*3))=some (.string y)):=⟨(World.cell?_alloc_lt _ _ _ (World.block_lt_of_cell? wr _ k0)).trans k0⟩;clear k0;have e3:IntKind.i64.wrap ((i:Int)-1)=((i-1:Nat):Int):=by rw[IntKind.wrap_i64];omega
    have hd0:decide (0<i)=true:=by simp;omega
    have hm0:(0:Int)≤((i-1:Nat):Int):=by omega
    have hm1:((i-1:Nat):Int)<(l0.length:Int):=by omega
    go_wp2_with fail
    clear h0 h1 h2;generalize wr.alloc (.cells #[.string x.f0,.int .i64 x.f1,.int .i64 x.f2] 42)=w2 at F0 F1 F2 B2 K0 ⊢;generalize wr.heap.size=gb at F0 F1 F2 ⊢;have f0:=cell_regrown F0.out;have f1:=cell_regrown F1.out;have f2:=cell_regrown F2.out;have f3:=cell_regrown K0.out;have hc:=HC.out w2;rw[HV.out] at hc;have HC:=aM hc;clear hc
    cases hb:Op.bytesLess y.toList x.f0.toList with
    |false=>
     refine wp_region_quiet_below (by kernel_rfl) (by kernel_rfl) ?_
     repeat(go_big_quiet_step (exact HC.out _ _))
     refine wpQuiet_nil ?_;intro _ hw';obtain⟨⟨dq,osq⟩,hw''⟩:=hw';subst hw'';have HB:=aM hb;clear hb
     go_wp2
     go_ret
     exact⟨by rw[←HA.out,HX.out,HB.out];rfl,below_then B2.out B2.out.size (below_regrown _ _ _)⟩
    |true=>
     refine wp_region_quiet_below (by kernel_rfl) (by kernel_rfl) ?_
     repeat(go_big_quiet_step (exact HC.out _ _))
     refine wpQuiet_nil ?_;intro _ hw';obtain⟨⟨dq,osq⟩,hw''⟩:=hw';subst hw'';have HB:=aM hb;clear hb
     go_wp2
     go_roundg (l0.length-(i+1))
     case measure=>omega
     case rel=>exact⟨i+1,by omega,by omega,by go_num,⟨below_then B2.out B2.out.size (below_regrown _ _ _)⟩,⟨by rw[←HA.out,HX.out,HB.out];rfl⟩⟩
  ·have hd:decide (i<l0.length)=false:=decide_eq_false hlt;have hle:l0.length≤i:=by omega
   have HX:Aside0 (vRels l0=decide (l0.length≤4)):=⟨by rw[←HA.out,show l0.length-i=0 by omega];exact decide_eq_decide.2 (by omega)⟩;clear hlt
   go_wp2
   go_ret
   exact⟨by rw[HX.out];first|rfl|(simp;done)|(simp;omega),BW.out⟩


-- NOT PRINTED: function 120 (slices_IndexFunc_int_int)

-- NOT PRINTED: function 108 (slices_ContainsFunc_int_int)

/-! ### impl_areValues: function 95 -/
/-- No value: what the literal in areValues asks. -/
def noVal (v:Int):Bool:= !(decide (0≤v)&&decide (v≤9))
set_option maxHeartbeats 8000000 in
theorem noVal_calls (v:Int) (w:World):Calls Tryz.prog 109 #[.int .i64 v] w fun e w'=>e= .returned (.bool (noVal v))∧Below w.heap.size w w':=by
 have hw: ∃b,impl_within.f v 0 9=some b∧b=(decide (0≤v)&&decide (v≤9)):=by
  unfold impl_within.f
  by_cases h:0≤v
  ·exact⟨_,if_pos h,by simp[h]⟩
  ·exact⟨_,if_neg h,by simp[h]⟩
 obtain⟨b,hb,hv⟩:=hw;have HB:=aM hb;have HV:=aM hv;clear hb hv
 go_enter Tryz.func109,Tryz.ntmps109
 go_wp2_with (go_at_call 94;refine(impl_within.calls v 0 9 b _ HB.out).mono ?_;rintro e w' ⟨rfl,⟨nd,rfl⟩⟩)
 go_ret
 refine⟨?_,pw_below_drewN (Below.refl _ _) _⟩;unfold noVal;rw[←HV.out];rfl
/-- The place of the first number of which p holds, counted from i on; -1 if there is none. -/
def idxI (p:Int→Bool):List Int→Int→Int
 | [],_=> -1
 |x::xs,i=>if p x=true then i else idxI p xs (i+1)
theorem idxI_hit (p:Int→Bool): ∀(l:List Int) (k:Nat) (i:Int),k<l.length→(∀j,j<k→p (l.getD j 0)=false)→p (l.getD k 0)=true→idxI p l i=i+k
 | [],k,_,h,_,_=>absurd h (Nat.not_lt_zero _)
 |x::xs,0,i,_,_,h=>by
  have h':p x=true:=h;simp[idxI,h']
 |x::xs,k+1,i,hk,ha,h=>by
  have h0:p x=false:=ha 0 (by omega);have:=idxI_hit p xs k (i+1) (by simpa using hk) (fun j hj=>by simpa using ha (j+1) (by omega)) (by simpa using h);simp only[idxI,h0,Bool.false_eq_true,if_false,this];omega
theorem idxI_miss (p:Int→Bool): ∀(l:List Int) (i:Int),(∀j,j<l.length→p (l.getD j 0)=false)→idxI p l i= -1
 | [],_,_=>rfl
 |x::xs,i,h=>by
  have h0:p x=false:=h 0 (by simp);simp only[idxI,h0,Bool.false_eq_true,if_false];exact idxI_miss p xs (i+1) fun j hj=>by simpa using h (j+1) (by simpa using hj)
theorem idxI_any (p:Int→Bool): ∀(l:List Int) (i:Int),0≤i→decide (0≤idxI p l i)=l.any p
 | [],_,_=>rfl
 |x::xs,i,h=>by
  by_cases hp:p x=true
  ·simp[idxI,hp,h]
  ·simp only[idxI,if_neg hp,List.any_cons];rw[Bool.eq_false_iff.mpr hp,Bool.false_or];exact idxI_any p xs (i+1) (by omega)
set_option maxHeartbeats 8000000 in
set_option maxRecDepth 100000 in
theorem noValIdx_calls (A0:Option Addr) (c0:Nat) (l:List Int) (w:World) (hr:Kd.C (Kd.int .i64) w A0 l.length l):
  Calls Tryz.prog 120 #[.slice A0 l.length c0,.func (.func 109) #[] #[]] w fun e w'=>e= .returned (.int .i64 (idxI noVal l 0))∧Below w.heap.size w w':=by
 have hl:l.length≤9223372036854775807:=hr.2.1;have HR:=aM hr;clear hr
 go_enter Tryz.func120,Tryz.ntmps120
 go_wp2
 go_loopg [5,8] l.length (fun gg _ s8 wr=> ∃kk:Nat,kk≤l.length∧l.length-kk≤gg∧s8= .int .i64 kk∧Aside0 (Below w.heap.size w wr)∧Aside0 (∀j,j<kk→noVal (l.getD j 0)=false))
 case atStart=>exact⟨0,Nat.zero_le _,by omega,rfl,⟨Below.refl _ _⟩,⟨fun j hj=>absurd hj (Nat.not_lt_zero _)⟩⟩
 case round=>
  obtain⟨kk,hkk,hg,rfl,BW,HA⟩:=hrel
  by_cases hltk:kk<l.length
  ·have hltz:(kk:Int)<(l.length:Int):=by omega
   obtain⟨ad,e,h0⟩:=Kd.at_int (Kd.C_below HR.out BW.out) (kk:Int) (by omega) hltz;rw[Int.toNat_natCast] at h0
   cases e
   have hcall:=noVal_calls (rd l (kk:Int)) wr;have hrd:rd l (kk:Int)=l.getD kk 0:=by unfold rd;rw[Int.toNat_natCast]
   cases hq:noVal (rd l (kk:Int)) with
   |true=>
    rw[hq] at hcall;have HQ:=aM hq;have HRD:=aM hrd;clear hq hrd
    go_wp2_with (go_at_call 109;refine hcall.mono ?_;rintro e w' ⟨rfl,hb'⟩)
    go_ret
    refine⟨?_,below_then BW.out BW.out.size hb'⟩;rw[idxI_hit noVal l kk 0 hltk HA.out (by rw[←HRD.out];exact HQ.out)];simp
   |false=>
    rw[hq] at hcall;have HQ:=aM hq;have HRD:=aM hrd;clear hq hrd
    go_wp2_with (go_at_call 109;refine hcall.mono ?_;rintro e w' ⟨rfl,hb'⟩)
    go_roundg (l.length-(kk+1))
    case measure=>omega
    case rel=>
     refine⟨kk+1,by omega,by omega,by go_num,⟨below_then BW.out BW.out.size hb'⟩,⟨fun j hj=>?_⟩⟩
     by_cases e:j=kk
     ·subst e;rw[←HRD.out];exact HQ.out
     ·exact HA.out j (by omega)
  ·have hd:decide (kk<l.length)=false:=decide_eq_false hltk;have HK:=aM (show l.length≤kk by omega);clear hltk
   go_wp2
   go_ret
   refine⟨?_,BW.out⟩;have HA:=fun j (hj:j<l.length)=>HA.out j (Nat.lt_of_lt_of_le hj HK.out);rw[idxI_miss noVal l 0 HA];rfl
set_option maxHeartbeats 8000000 in
theorem noValAny_calls (A0:Option Addr) (c0:Nat) (l:List Int) (w:World) (hr:Kd.C (Kd.int .i64) w A0 l.length l):
  Calls Tryz.prog 108 #[.slice A0 l.length c0,.func (.func 109) #[] #[]] w fun e w'=>e= .returned (.bool (l.any noVal))∧Below w.heap.size w w':=by
 rw[←idxI_any noVal l 0 (Int.le_refl _)];have HR:=aM hr;clear hr;generalize hx:idxI noVal l 0=x;have HX:=aM hx;clear hx
 go_enter Tryz.func108,Tryz.ntmps108
 go_wp2_with (go_at_call 120;refine(noValIdx_calls A0 c0 l _ HR.out).mono ?_;rw[HX.out];rintro e w' ⟨rfl,hb'⟩)
 go_ret
 exact⟨rfl,hb'⟩
def impl_areValues.f (l0:List Int):Option Bool:=some (!l0.any noVal)
set_option maxHeartbeats 8000000 in
set_option maxRecDepth 100000 in
theorem impl_areValues.calls (A0:Option Addr) (c0:Nat) (l0:List Int) (r:Bool) (w:World) (hr0:Kd.C (Kd.int .i64) w A0 l0.length l0) (hc0:l0.length≤c0) (h:impl_areValues.f l0=some r):
  Calls Tryz.prog 95 #[.slice A0 l0.length c0] w fun e w'=>e= .returned (.bool r)∧Below w.heap.size w w':=by
 obtain rfl:=Option.some.inj h;have HR:=aM hr0;clear hr0 h;generalize hx:l0.any noVal=x;have HX:=aM hx;clear hx
 go_enter Tryz.func95,Tryz.ntmps95
 go_wp2_with (go_at_call 108;refine(noValAny_calls A0 c0 l0 _ HR.out).mono ?_;rw[HX.out];rintro e w' ⟨rfl,hb'⟩)
 go_ret
 exact⟨rfl,hb'⟩


/-! ### impl_isFact: function 68 -/
def impl_isFact.f (l0:List (S42)) (a1_0:Int) (l1_1:List Int):Option (Bool):=(impl_within.f a1_0 0 (wrap64 ((l0.length:Int)-1))).bind fun t242=>(if t242=true then(if 0≤a1_0 then(if a1_0<(l0.length:Int) then(if(l1_1.length:Int)=((rd_T42 l0 a1_0).f1) then((impl_areValues.f l1_1).bind fun t244=>(some t244)) else(some false)) else(none)) else(none)) else(some false))
set_option maxHeartbeats 8000000 in
set_option maxRecDepth 100000 in
theorem impl_isFact.calls (A0:Option Addr) (c0:Nat) (l0:List (S42)) (a1_0:Int) (A1_1:Option Addr) (c1_1:Nat) (l1_1:List Int) (r:Bool) (w:World) (hr0:Kd.C k42 w A0 l0.length l0) (hc0:l0.length≤c0) (hr1_1:Kd.C (Kd.int .i64) w A1_1 l1_1.length l1_1) (hc1_1:l1_1.length≤c1_1) (h:impl_isFact.f l0 a1_0 l1_1=some r):
  Calls Tryz.prog 68 #[.slice A0 l0.length c0,.agg #[.int .i64 a1_0,.slice A1_1 l1_1.length c1_1]] w fun e w'=>e= .returned (.bool r)∧Below w.heap.size w w':=by
 have hu47:=Tryz.underlying47;obtain⟨W,hW⟩: ∃W,w.alloc (.cells #[.int .i64 a1_0,.slice A1_1 l1_1.length c1_1] 47)=W:=⟨_,rfl⟩;have q0:=qa (w:=W) (p:=⟨w.heap.size,0,none⟩) (v:= .int .i64 a1_0) (by subst hW;go_simp);have q1:=qa (w:=W) (p:=⟨w.heap.size,1,none⟩) (v:= .slice A1_1 l1_1.length c1_1) (by subst hW;go_simp);have HB:Below w.heap.size w W:=by subst hW;exact zB
 have HW:=Below.refl W.heap.size W;have hb:=aM HB;have rg_:= @bcl w;have rd_:= @bdr w;have rG_:= @bcl W;have rD_:= @bdr W;unfold impl_isFact.f at h;replace h:=bs h;obtain⟨t242,B0,h⟩:=h;replace h:=ib h;rcases h with ⟨rfl,h⟩|⟨rfl,h⟩
 replace h:=ie h;rcases h with ⟨c2,c2a,h⟩|⟨c2,c2a,h⟩
 replace h:=il h;rcases h with ⟨c3,c3a,h⟩|⟨c3,c3a,h⟩
 replace h:=iq h;rcases h with ⟨c4,⟨c4a,c4b⟩,h⟩|⟨c4,⟨c4a,c4b⟩,h⟩
 replace h:=bs h;obtain⟨t244,B5,h⟩:=h;obtain rfl:=si h;obtain⟨ad243,e243,hx243_0,hx243_1,hx243_2⟩:=at_T42 hr0 (a1_0:Int) aD aD;have p243:=eq_true (aD:0≤(a1_0:Int));have q243:=eq_true (aD:a1_0<(l0.length:Int))
 cases e243
 replace hx243_0:=qa hx243_0;replace hx243_1:=qa hx243_1;replace hx243_2:=qa hx243_2
 rotate_left
 obtain rfl:=si h;obtain⟨ad243,e243,hx243_0,hx243_1,hx243_2⟩:=at_T42 hr0 (a1_0:Int) aD aD;have p243:=eq_true (aD:0≤(a1_0:Int));have q243:=eq_true (aD:a1_0<(l0.length:Int))
 cases e243
 replace hx243_0:=qa hx243_0;replace hx243_1:=qa hx243_1;replace hx243_2:=qa hx243_2
 rotate_left
 exact absurd h (by simp);exact absurd h (by simp);obtain rfl:=si h
 rotate_left
 all_goals (go_enter Tryz.func68,Tryz.ntmps68;go_wp2;(repeat((refine nw (w0:=w) zB ?_;intro W1 HB hb hd;have HW:Below W.heap.size W W1:=zB;(first|(refine Txt.rg (id:=1) [0,1,2,3,4,5,6,7,8,9,10,11,12,13,14,15,16,17,18,19,20,21,22,23] (by kernel_rfl) (by kernel_rfl) ?_;simp only[List.map_cons,List.map_nil,List.getD_cons_zero,List.getD_cons_succ]));(repeat(first|(refine Txt.off rfl ?_;simp only[Act.put,List.setIfInBounds_toArray,List.set_cons_zero,List.set_cons_succ])|(refine Txt.take rfl rfl ?_;intro K hK;go_big_quiet_op;go_big_quiet_on)|(refine Txt.call rfl rfl Tryz.func94 (by kernel_rfl) rfl (impl_within.calls _ _ _ ?_ _ ?h) rfl ?_;(case h=>exact zA);rintro e w1 ⟨rfl,hb⟩;replace hb:=hb.below;replace hb:=aM hb;have HW:Below W.heap.size W w1:=zB;have HB:Below w.heap.size w w1:=zB;refine⟨_,rfl,zS,?_⟩;simp only[Act.put,List.setIfInBounds_toArray,List.set_cons_zero,List.set_cons_succ])|(refine Txt.call rfl rfl Tryz.func95 (by kernel_rfl) rfl (impl_areValues.calls _ _ _ ?_ _ ?_ ?_ ?h) rfl ?_;(case h=>exact zA);(iterate 2 (first|exact zC|exact zA));rintro e w1 ⟨rfl,hb⟩;replace hb:=aM hb;have HW:Below W.heap.size W w1:=zB;have HB:Below w.heap.size w w1:=zB;refine⟨_,rfl,zS,?_⟩;simp only[Act.put,List.setIfInBounds_toArray,List.set_cons_zero,List.set_cons_succ])));refine Txt.nil ?_);(try go_wp2)));go_ret;exact zE zB)

end Go.Proofs.YtckpikfbhlhhjaaGreatDoor.PFnDatabaseFormat
namespace Go.Proofs.YtckpikfbhlhhjaaGreatDoor.PFnDatabaseFormat
open Go.RowKit Go.Proofs.YtckpikfbhlhhjaaGreatDoorW.PrintWords Go.Proofs.YtckpikfbhlhhjaaGreatDoorW.PrintLast Go.Proofs.YtckpikfbhlhhjaaGreatDoorW.PrintMore
attribute [local go_sem] max2_int min2_int max_two min_two max_three min_three max_four min_four
set_option linter.unusedVariables false
set_option linter.unusedSimpArgs false

/-! ### impl_IsValidDatabase: function 34 -/
section
open Base
theorem cmp1 (x y:Int):cmp_Compare_int.f x y=some (if x<y then-1 else if x>y then 1 else 0):=by
 unfold cmp_Compare_int.f cmp_isNaN_int.f;simp only[Option.bind_some,bne_self_eq_false,Bool.false_eq_true,if_false]
 by_cases h1:x<y
 ·rw[if_pos h1,if_pos h1]
 ·rw[if_neg h1,if_neg h1]
  by_cases h2:x>y
  ·rw[if_pos h2,if_pos h2]
  ·rw[if_neg h2,if_neg h2]
theorem cmpIl (a b:List Int) (ha:a.length≤9223372036854775807) (hb:b.length≤9223372036854775807) (d:Nat): ∀(i:Nat),i+d=a.length→ ∀k,d<k→slices_Compare_int_int.l0 k a b a (a.length:Int) i=some (cmpI (a.drop i) (b.drop i))∨b.length<i:=by
 induction d with
 |zero=>
  intro i hd k hk
  by_cases hbi:b.length<i
  ·exact .inr hbi
  left
  obtain⟨k,rfl,hk⟩:=fuel hk;rw[slices_Compare_int_int.l0,if_neg (by omega),cmpI_end (.inl (List.drop_of_length_le (by omega))),List.length_drop,List.length_drop]
  by_cases h1:(a.length:Int)<(b.length:Int)
  ·rw[if_pos h1,if_pos (show a.length-i<b.length-i by omega)]
  ·rw[if_neg h1,if_neg (show¬a.length-i<b.length-i by omega),if_neg (show¬a.length-i>b.length-i by omega)]
 |succ d ih=>
  intro i hd k hk
  by_cases hbi:b.length<i
  ·exact .inr hbi
  left
  obtain⟨k,rfl,hk⟩:=fuel hk;rw[slices_Compare_int_int.l0,if_pos (by omega),if_pos (by omega),if_pos (by omega)]
  by_cases hlt:i<b.length
  ·have e1:wrap64 ((i:Int)+1)=((i+1:Nat):Int):=by rw[w64 (by omega) (by omega)];omega
   have e2:rd a (i:Int)=a[i] :=by unfold rd;rw[Int.toNat_natCast,getD_lt a _ i (by omega)]
   have e3:rd b (i:Int)=b[i] :=by unfold rd;rw[Int.toNat_natCast,getD_lt b _ i (by omega)]
   rw[if_neg (by omega),if_pos (by omega),e1,e2,e3,cmp1];simp only[Option.bind_some];rw[List.drop_eq_getElem_cons (i:=i) (l:=a) (by omega),List.drop_eq_getElem_cons (i:=i) (l:=b) (by omega),cmpI]
   by_cases h1:a[i] <b[i]
   ·simp[h1]
   ·by_cases h2:a[i] >b[i]
    ·simp[h1,h2]
    ·rw[if_neg h1,if_neg h2,if_pos rfl,if_neg h1,if_neg h2]
     rcases ih (i+1) (by omega) k (by omega) with h|h
     ·exact h
     ·omega
  ·rw[if_pos (by omega),cmpI_end (.inr (List.drop_of_length_le (by omega))),List.length_drop,List.length_drop,if_neg (by omega),if_pos (by omega)]
theorem cmpIs (a b:List Int) (ha:a.length≤9223372036854775807) (hb:b.length≤9223372036854775807) (k:Nat) (hk:a.length<k):slices_Compare_int_int.f k a b=some (cmpI a b):=by
 rcases cmpIl a b ha hb a.length 0 (by omega) k hk with h|h
 ·exact h
 ·omega
theorem cmpFI (x:Int) (a:List Int) (y:Int) (b:List Int) (ha:a.length≤9223372036854775807) (hb:b.length≤9223372036854775807) (k:Nat) (hk:a.length<k):impl_CompareFacts.f k x a y b=some (cmpF x a y b):=by
 unfold impl_CompareFacts.f cmpF
 by_cases h0:x=y
 ·subst h0;rw[if_pos rfl,cmpIs a b ha hb k hk,if_neg (by omega),if_neg (by omega)];rfl
 ·rw[if_neg h0,impl_compare.f]
  by_cases h1:x<y
  ·rw[if_pos h1,if_pos h1];rfl
  ·rw[if_neg h1,if_neg h1,if_pos (by omega),if_pos (by omega)];rfl
end

section
open Base
/-- A fact of these relations: its relation is one of them, it has vs many values vs that one asks, each a value. -/
def fits (l:List S42) (a:Int) (vs:List Int):Bool:=decide (0≤a∧a<(l.length:Int)∧(vs.length:Int)=(rd_T42 l a).f1)&& !vs.any noVal
def vFact (l:List S42) (a:Int) (vs:List Int):Bool:=vRels l&&fits l a vs
theorem fitI (l:List S42) (hl:l.length≤9223372036854775807) (a:Int) (vs:List Int):impl_isFact.f l a vs=some (fits l a vs):=by
 unfold impl_isFact.f impl_areValues.f fits;rw[inI,Option.bind_some,Option.bind_some,w64 (by omega) (by omega)]
 by_cases h1:0≤a∧a<(l.length:Int)
 ·rw[if_pos (by unfold inB;simpa using (by omega:0≤a∧a≤(l.length:Int)-1)),if_pos h1.1,if_pos h1.2]
  by_cases h2:(vs.length:Int)=(rd_T42 l a).f1
  ·rw[if_pos h2,decide_eq_true (by exact⟨h1.1,h1.2,h2⟩)];simp
  ·rw[if_neg h2,decide_eq_false (by intro h;exact h2 h.2.2)];simp
 ·rw[if_neg (by unfold inB;simpa using (by omega:0≤a→ ¬a≤(l.length:Int)-1)),decide_eq_false (by intro h;exact h1 ⟨h.1,h.2.1⟩)];simp
/-- Facts i, i + 1, .. (d of them): each fits, each behind its forerunner. -/
def okFrom (l:List S42) (fs:List S47):Nat→Nat→Bool
 |0,_=>true
 |d+1,i=>fits l (fs.getD i z47).f0 (fs.getD i z47).f1&&(decide (i=0)||decide (cmpF (fs.getD (i-1) z47).f0 (fs.getD (i-1) z47).f1 (fs.getD i z47).f0 (fs.getD i z47).f1<0))&&okFrom l fs d (i+1)
def vDb (l:List S42) (fs:List S47):Bool:=vRels l&&decide (fs.length≤14)&&okFrom l fs fs.length 0
end

section
open Base
def impl_IsValidDatabase.f (l0_0:List S42) (l0_1:List S47):Option Bool:=some (vDb l0_0 l0_1)
set_option maxHeartbeats 4000000 in
set_option maxRecDepth 100000 in
theorem impl_IsValidDatabase.calls (A0_0:Option Addr) (c0_0:Nat) (l0_0:List S42) (A0_1:Option Addr) (c0_1:Nat) (l0_1:List S47) (r:Bool) (w:World) (hr0_0:Kd.C k42 w A0_0 l0_0.length l0_0) (hc0_0:l0_0.length≤c0_0) (hr0_1:Kd.C k47 w A0_1 l0_1.length l0_1) (hc0_1:l0_1.length≤c0_1) (h:impl_IsValidDatabase.f l0_0 l0_1=some r):
  Calls Tryz.prog 34 #[.agg #[.slice A0_0 l0_0.length c0_0,.slice A0_1 l0_1.length c0_1]] w fun e w'=>e= .returned (.bool r)∧Below w.heap.size w w':=by
 obtain rfl:=Option.some.inj h;have hlr:l0_0.length≤9223372036854775807:=hr0_0.2.1;have hlf:l0_1.length≤9223372036854775807:=hr0_1.2.1;have HRR:=aM hr0_0;have HRF:=aM hr0_1;have HA:Aside0 (∀o,Calls Tryz.prog 67 #[.slice A0_0 l0_0.length c0_0] (w.alloc o) fun e w'=>e= .returned (.bool (vRels l0_0))∧Below (w.alloc o).heap.size (w.alloc o) w'):=
  ⟨fun o=>impl_AreValidRelations.calls A0_0 c0_0 l0_0 _ _ (Kd.C_below hr0_0 (below_alloc (Below.refl _ _) _)) hc0_0 rfl⟩
 have F0:Aside0 ((w.alloc (.cells #[.slice A0_0 l0_0.length c0_0,.slice A0_1 l0_1.length c0_1] 25)).cell? ⟨w.heap.size,0,none⟩=some (.slice A0_0 l0_0.length c0_0)):=⟨(blk_cell (heap_alloc_new w _) 0).trans rfl⟩;have F1:Aside0 ((w.alloc (.cells #[.slice A0_0 l0_0.length c0_0,.slice A0_1 l0_1.length c0_1] 25)).cell? ⟨w.heap.size,1,none⟩=some (.slice A0_1 l0_1.length c0_1)):=⟨(blk_cell (heap_alloc_new w _) 1).trans rfl⟩;have B1:Aside0 (Below w.heap.size w (w.alloc (.cells #[.slice A0_0 l0_0.length c0_0,.slice A0_1 l0_1.length c0_1] 25))):=⟨below_alloc (Below.refl _ _) _⟩;clear hr0_0 hr0_1 h
 by_cases h0:vRels l0_0=true∧l0_1.length≤14
 ·obtain⟨hv,hn⟩:=h0;rw[hv] at HA;have hd:decide ((14:Int)<(l0_1.length:Int))=false:=decide_eq_false (by omega);have hd':decide (14<l0_1.length)=false:=decide_eq_false (by omega);have HR:Aside0 (vDb l0_0 l0_1=okFrom l0_0 l0_1 l0_1.length 0):=⟨by unfold vDb;rw[hv,decide_eq_true hn];rfl⟩;clear hv hn
  go_enter Tryz.func34,Tryz.ntmps34
  go_wp2_with (go_at_call 67;refine(HA.out _).mono ?_;rintro e w1 ⟨rfl,hb1⟩;have k0:=pw_cell_below hb1 F0.out;have k1:=pw_cell_below hb1 F1.out;have K0:=aM k0;have K1:=aM k1;have BW1:=aM (below_then B1.out B1.out.size hb1))
  go_loopg [18] l0_1.length (fun gg s18 wr=> ∃i:Nat,i≤l0_1.length∧l0_1.length-i≤gg∧s18= .int .i64 i∧Aside0 (Below w1.heap.size w1 wr)∧Aside0 (okFrom l0_0 l0_1 (l0_1.length-i) i=okFrom l0_0 l0_1 l0_1.length 0))
  case atStart=>exact⟨0,Nat.zero_le _,by omega,rfl,⟨Below.refl _ _⟩,⟨rfl⟩⟩
  case round=>
   obtain⟨i,hi,hg,rfl,BW,HO⟩:=hrel
   by_cases hlt:i<l0_1.length
   ·have hltz:(i:Int)<(l0_1.length:Int):=by omega
    have BB:Aside0 (Below w.heap.size w wr):=⟨below_then BW1.out BW1.out.size BW.out⟩;obtain⟨ad,A2,c2,e,h0,h1,h2,h3⟩:=at_T47 (Kd.C_below HRF.out BB.out) (i:Int) (by omega) hltz;rw[Int.toNat_natCast] at h0 h1
    cases e
    have hrd:rd_T47 l0_1 (i:Int)=l0_1.getD i z47:=by unfold rd_T47;rw[Int.toNat_natCast]
    rw[hrd] at h0 h1 h2 h3;clear hrd;have HX:Aside0 (okFrom l0_0 l0_1 (l0_1.length-i) i=(fits l0_0 (l0_1.getD i z47).f0 (l0_1.getD i z47).f1&&(decide (i=0)||decide (cmpF (l0_1.getD (i-1) z47).f0 (l0_1.getD (i-1) z47).f1 (l0_1.getD i z47).f0 (l0_1.getD i z47).f1<0))&&okFrom l0_0 l0_1 (l0_1.length-(i+1)) (i+1))):=⟨by
     rw[show l0_1.length-i=(l0_1.length-(i+1))+1 by omega];rfl⟩
    generalize l0_1.getD i z47=x at h0 h1 h2 h3 HX;have B2:Aside0 (Below w.heap.size w (wr.alloc (.cells #[.int .i64 x.f0,.slice A2 x.f1.length c2] 47))):=⟨below_alloc BB.out _⟩;have B3:Aside0 (Below w1.heap.size w1 (wr.alloc (.cells #[.int .i64 x.f0,.slice A2 x.f1.length c2] 47))):=⟨below_alloc BW.out _⟩;have D0:Aside0 ((wr.alloc (.cells #[.int .i64 x.f0,.slice A2 x.f1.length c2] 47)).cell? ⟨w.heap.size,0,none⟩=some (.slice A0_0 l0_0.length c0_0)):=⟨pw_cell_below B3.out K0.out⟩;have D1:Aside0 ((wr.alloc (.cells #[.int .i64 x.f0,.slice A2 x.f1.length c2] 47)).cell? ⟨w.heap.size,1,none⟩=some (.slice (some ad) l0_1.length c0_1)):=⟨pw_cell_below B3.out K1.out⟩;have E0:Aside0 ((wr.alloc (.cells #[.int .i64 x.f0,.slice A2 x.f1.length c2] 47)).cell? ⟨wr.heap.size,0,none⟩=some (.int .i64 x.f0)):=⟨(blk_cell (heap_alloc_new wr _) 0).trans rfl⟩;have E1:Aside0 ((wr.alloc (.cells #[.int .i64 x.f0,.slice A2 x.f1.length c2] 47)).cell? ⟨wr.heap.size,1,none⟩=some (.slice A2 x.f1.length c2)):=⟨(blk_cell (heap_alloc_new wr _) 1).trans rfl⟩;have CX:Aside0 (Kd.C (Kd.int .i64) (wr.alloc (.cells #[.int .i64 x.f0,.slice A2 x.f1.length c2] 47)) A2 x.f1.length x.f1):=⟨Kd.C_below h3 (below_alloc (Below.refl _ _) _)⟩;have HCf:Aside0 (∀d os,Calls Tryz.prog 68 #[.slice A0_0 l0_0.length c0_0,.agg #[.int .i64 x.f0,.slice A2 x.f1.length c2]] (Go.Sort.grow (redrawn (wr.alloc (.cells #[.int .i64 x.f0,.slice A2 x.f1.length c2] 47)) d) os) fun e w''=>e= .returned (.bool (fits l0_0 x.f0 x.f1))∧ ∃p:Regrown,w''=Go.Sort.grow (redrawn (wr.alloc (.cells #[.int .i64 x.f0,.slice A2 x.f1.length c2] 47)) p.d) p.os):=
     ⟨fun d os=>Calls.regrown_of (impl_isFact.calls A0_0 c0_0 l0_0 x.f0 A2 c2 x.f1 _ _ (Kd.C_below HRR.out (below_then B2.out B2.out.size (below_regrown _ d os))) hc0_0 (Kd.C_below CX.out (below_regrown _ d os)) h2 (fitI l0_0 hlr x.f0 x.f1))⟩
    have HL:Aside0 (x.f1.length≤9223372036854775807):=⟨h3.2.1⟩;have HL2:=aM h2;clear h3 h2
    by_cases hi0:i=0∨fits l0_0 x.f0 x.f1=false
    ·have hq0:fits l0_0 x.f0 x.f1=true→decide (0<i)=false∧decide ((0:Int)<(i:Int))=false:=fun hx=>by
      rcases hi0 with h|h
      ·simp[h]
      ·rw[hx] at h;cases h
     have hX:okFrom l0_0 l0_1 (l0_1.length-i) i=(fits l0_0 x.f0 x.f1&&okFrom l0_0 l0_1 (l0_1.length-(i+1)) (i+1)):=by
      rw[HX.out]
      rcases hi0 with h|h
      ·simp[h]
      ·simp[h]
     have HX:=aM hX;clear hX hi0
     cases hv:fits l0_0 x.f0 x.f1 with
     |false=>
      rw[hv] at HCf;have HV:=aM hv;clear hv hq0
      go_wp2_with fail
      clear h0 h1;generalize wr.alloc (.cells #[.int .i64 x.f0,.slice A2 x.f1.length c2] 47)=w2 at D0 D1 E0 E1 B2 B3 CX HCf ⊢;generalize wr.heap.size=gb at E0 E1 ⊢;have f0:=cell_regrown D0.out;have f1:=cell_regrown D1.out;have f2:=cell_regrown E0.out;have f3:=cell_regrown E1.out;refine wp_region_quiet_below (by kernel_rfl) (by kernel_rfl) ?_
      repeat(go_big_quiet_step (exact HCf.out _ _))
      refine wpQuiet_nil ?_;intro _ hw';obtain⟨⟨dq,osq⟩,hw''⟩:=hw';subst hw''
      go_wp2
      go_ret
      exact⟨by rw[HR.out,←HO.out,HX.out,HV.out];rfl,below_then B2.out B2.out.size (below_regrown _ _ _)⟩
     |true=>
      obtain⟨hq1,hq2⟩:=hq0 hv;rw[hv] at HCf;have HV:=aM hv;clear hv hq0
      go_wp2_with fail
      clear h0 h1;generalize wr.alloc (.cells #[.int .i64 x.f0,.slice A2 x.f1.length c2] 47)=w2 at D0 D1 E0 E1 B2 B3 CX HCf ⊢;generalize wr.heap.size=gb at E0 E1 ⊢;have f0:=cell_regrown D0.out;have f1:=cell_regrown D1.out;have f2:=cell_regrown E0.out;have f3:=cell_regrown E1.out;refine wp_region_quiet_below (by kernel_rfl) (by kernel_rfl) ?_
      repeat(go_big_quiet_step (exact HCf.out _ _))
      refine wpQuiet_nil ?_;intro _ hw';obtain⟨⟨dq,osq⟩,hw''⟩:=hw';subst hw''
      go_wp2
      go_roundg (l0_1.length-(i+1))
      case measure=>omega
      case rel=>exact⟨i+1,by omega,by omega,by go_num,⟨below_then B3.out B3.out.size (below_regrown _ _ _)⟩,⟨by rw[←HO.out,HX.out,HV.out];rfl⟩⟩
    ·have hi1:i≠0:=fun h=>hi0 (.inl h);have hv:fits l0_0 x.f0 x.f1=true:=by
      cases h:fits l0_0 x.f0 x.f1 with
      |true=>rfl
      |false=>exact absurd (.inr h) hi0
     clear hi0;obtain⟨ad',A3,c3,e',g0,g1,g2,g3⟩:=at_T47 (Kd.C_below HRF.out BB.out) ((i-1:Nat):Int) (by omega) (by omega)
     cases e'
     rw[Int.toNat_natCast] at g0 g1;have hrd:rd_T47 l0_1 ((i-1:Nat):Int)=l0_1.getD (i-1) z47:=by unfold rd_T47;rw[Int.toNat_natCast]
     rw[hrd] at g0 g1 g2 g3;clear hrd;have hX:okFrom l0_0 l0_1 (l0_1.length-i) i=(decide (cmpF (l0_1.getD (i-1) z47).f0 (l0_1.getD (i-1) z47).f1 x.f0 x.f1<0)&&okFrom l0_0 l0_1 (l0_1.length-(i+1)) (i+1)):=by
      rw[HX.out,hv];simp[hi1]
     have HX:=aM hX;rw[hv] at HCf;clear hX hv;generalize l0_1.getD (i-1) z47=y at g0 g1 g2 g3 HX;have G0:Aside0 ((wr.alloc (.cells #[.int .i64 x.f0,.slice A2 x.f1.length c2] 47)).cell? (ad.add ((i-1)*2))=some (.int .i64 y.f0)):=⟨(World.cell?_alloc_lt _ _ _ (World.block_lt_of_cell? wr _ g0)).trans g0⟩;have G1:Aside0 ((wr.alloc (.cells #[.int .i64 x.f0,.slice A2 x.f1.length c2] 47)).cell? ⟨(ad.add ((i-1)*2)).block,(ad.add ((i-1)*2)).off+1,none⟩=some (.slice A3 y.f1.length c3)):=⟨(World.cell?_alloc_lt _ _ _ (World.block_lt_of_cell? wr _ g1)).trans g1⟩;have HCc:Aside0 (∀d os,Calls Tryz.prog 50 #[.agg #[.int .i64 y.f0,.slice A3 y.f1.length c3],.agg #[.int .i64 x.f0,.slice A2 x.f1.length c2]] (Go.Sort.grow (redrawn (wr.alloc (.cells #[.int .i64 x.f0,.slice A2 x.f1.length c2] 47)) d) os) fun e w''=>e= .returned (.int .i64 (cmpF y.f0 y.f1 x.f0 x.f1))∧ ∃p:Regrown,w''=Go.Sort.grow (redrawn (wr.alloc (.cells #[.int .i64 x.f0,.slice A2 x.f1.length c2] 47)) p.d) p.os):=
      ⟨fun d os=>Calls.regrown_of (impl_CompareFacts.calls (y.f1.length+1) y.f0 A3 c3 y.f1 x.f0 A2 c2 x.f1 _ _ (Kd.C_below (Kd.C_below g3 (below_alloc (Below.refl _ _) _)) (below_regrown _ d os)) g2 (Kd.C_below CX.out (below_regrown _ d os)) HL2.out (cmpFI y.f0 y.f1 x.f0 x.f1 g3.2.1 HL.out _ (Nat.lt_succ_self _)))⟩
     clear g0 g1 g2 g3;have e3:IntKind.i64.wrap ((i:Int)-1)=((i-1:Nat):Int):=by rw[IntKind.wrap_i64];omega
     have hq1:decide (0<i)=true:=by simp;omega
     have hq2:decide ((0:Int)<(i:Int))=true:=by simp;omega
     have hm0:(0:Int)≤((i-1:Nat):Int):=by omega
     have hm1:((i-1:Nat):Int)<(l0_1.length:Int):=by omega
     go_wp2_with fail
     clear h0 h1;generalize wr.alloc (.cells #[.int .i64 x.f0,.slice A2 x.f1.length c2] 47)=w2 at D0 D1 E0 E1 B2 B3 CX HCf G0 G1 HCc ⊢;generalize wr.heap.size=gb at E0 E1 ⊢;have f0:=cell_regrown D0.out;have f1:=cell_regrown D1.out;have f2:=cell_regrown E0.out;have f3:=cell_regrown E1.out;have f4:=cell_regrown G0.out;have f5:=cell_regrown G1.out;generalize cmpF y.f0 y.f1 x.f0 x.f1=z at HCc HX
     by_cases hz:z<0
     ·have hz1:decide (0≤z)=false:=decide_eq_false (by omega);have HX:=aM (show okFrom l0_0 l0_1 (l0_1.length-i) i=okFrom l0_0 l0_1 (l0_1.length-(i+1)) (i+1) by rw[HX.out,decide_eq_true hz,Bool.true_and]);clear hz;refine wp_region_quiet_below (by kernel_rfl) (by kernel_rfl) ?_
      repeat(go_big_quiet_step (first|exact HCf.out _ _|exact HCc.out _ _))
      refine wpQuiet_nil ?_;intro _ hw';obtain⟨⟨dq,osq⟩,hw''⟩:=hw';subst hw''
      go_wp2
      go_roundg (l0_1.length-(i+1))
      case measure=>omega
      case rel=>exact⟨i+1,by omega,by omega,by go_num,⟨below_then B3.out B3.out.size (below_regrown _ _ _)⟩,⟨by rw[←HO.out,HX.out]⟩⟩
     ·have hz1:decide (0≤z)=true:=decide_eq_true (by omega);have HX:=aM (show okFrom l0_0 l0_1 (l0_1.length-i) i=false by rw[HX.out,decide_eq_false hz,Bool.false_and]);clear hz;refine wp_region_quiet_below (by kernel_rfl) (by kernel_rfl) ?_
      repeat(go_big_quiet_step (first|exact HCf.out _ _|exact HCc.out _ _))
      refine wpQuiet_nil ?_;intro _ hw';obtain⟨⟨dq,osq⟩,hw''⟩:=hw';subst hw''
      go_wp2
      go_ret
      exact⟨by rw[HR.out,←HO.out,HX.out];rfl,below_then B2.out B2.out.size (below_regrown _ _ _)⟩
   ·have hd2:decide (i<l0_1.length)=false:=decide_eq_false hlt;have hle:l0_1.length≤i:=by omega
    have HX:Aside0 (vDb l0_0 l0_1=true):=⟨by rw[HR.out,←HO.out,show l0_1.length-i=0 by omega];rfl⟩;clear hlt
    go_wp2
    go_ret
    exact⟨by rw[HX.out];rfl,below_then BW1.out BW1.out.size BW.out⟩
 ·have hd:(vRels l0_0&&decide (l0_1.length≤14))=false:=by
   rw[Bool.eq_false_iff,ne_eq,Bool.and_eq_true,decide_eq_true_iff];exact h0
  have HR:Aside0 (vDb l0_0 l0_1=false):=⟨by unfold vDb;rw[hd];rfl⟩;clear h0
  cases hv:vRels l0_0 with
  |false=>
   rw[hv] at HA;clear hv hd
   go_enter Tryz.func34,Tryz.ntmps34
   go_wp2_with (go_at_call 67;refine(HA.out _).mono ?_;rintro e w1 ⟨rfl,hb1⟩;have k0:=pw_cell_below hb1 F0.out;have k1:=pw_cell_below hb1 F1.out)
   go_ret
   exact⟨by rw[HR.out];rfl,below_then B1.out B1.out.size hb1⟩
  |true=>
   rw[hv] at HA hd;have hn: ¬l0_1.length≤14:=by simpa using hd
   have hd:decide ((14:Int)<(l0_1.length:Int))=true:=decide_eq_true (by omega);have hd':decide (14<l0_1.length)=true:=decide_eq_true (by omega);clear hv hn
   go_enter Tryz.func34,Tryz.ntmps34
   go_wp2_with (go_at_call 67;refine(HA.out _).mono ?_;rintro e w1 ⟨rfl,hb1⟩;have k0:=pw_cell_below hb1 F0.out;have k1:=pw_cell_below hb1 F1.out)
   go_ret
   exact⟨by rw[HR.out];rfl,below_then B1.out B1.out.size hb1⟩
theorem vDI (l:List S42) (_hl:l.length≤1048576) (fs:List S47) (_hf:fs.length≤1048576) (_hg: ∀y∈fs,y.f1.length≤1048576) (k:Nat) (_hk:6000000<k):impl_IsValidDatabase.f l fs=some (vDb l fs):=rfl
end


/-! ### strconv_Itoa_96: function 96 -/
def strconv_Itoa_96.f (a0:Int):Option (ByteArray):=if-9223372036854775808≤a0 then(if a0≤9223372036854775807 then(some (⟨(Lib.itoa a0).toArray⟩:ByteArray)) else(none)) else(none)
theorem strconv_Itoa_96.calls (a0:Int) (r:ByteArray) (w:World) (h:strconv_Itoa_96.f a0=some r) (hp_:Go.Proofs.YtckpikfbhlhhjaaGreatDoor.Shelf.Pow w):
 Calls Tryz.prog 96 #[.int .i64 a0] w fun e w'=>e= .returned (.string r)∧Below w.heap.size w w':=by
 unfold strconv_Itoa_96.f at h;replace h:=ie h;rcases h with ⟨c0,c0a,h⟩|⟨c0,c0a,h⟩
 replace h:=ie h;rcases h with ⟨c1,c1a,h⟩|⟨c1,c1a,h⟩
 obtain rfl:=si h;exact Shelf.Itoa a0 c0.out c1.out w hp_;exact absurd h (by simp);exact absurd h (by simp)


/-! ### impl_FormatInt: function 70 -/
def impl_FormatInt.f (a0:Int):Option (ByteArray):=(strconv_Itoa_96.f a0).bind fun t262=>(some t262)
set_option maxHeartbeats 8000000 in
set_option maxRecDepth 100000 in
theorem impl_FormatInt.calls (a0:Int) (r:ByteArray) (w:World) (h:impl_FormatInt.f a0=some r) (hp_:Go.Proofs.YtckpikfbhlhhjaaGreatDoor.Shelf.Pow w):
  Calls Tryz.prog 70 #[.int .i64 a0] w fun e w'=>e= .returned (.string r)∧Below w.heap.size w w':=by
 unfold impl_FormatInt.f at h;replace h:=bs h;obtain⟨t262,B0,h⟩:=h;obtain rfl:=si h
 rotate_left
 all_goals (go_enter Tryz.func70,Tryz.ntmps70;go_wp2_with (first|(go_at_call 96;refine(strconv_Itoa_96.calls _ ?_ _ ?h ?hp).mono ?_;(case h=>exact zA);(case hp=>exact hp_.on zB);rintro e w1 ⟨rfl,hb⟩;replace hb:=aM hb;have HB:Below w.heap.size w w1:=zB));go_ret;exact zE zB)

/-! ### impl_FormatRelation: function 35 -/
def impl_FormatRelation.f (a0_0:ByteArray) (a0_1:Int) (a0_2:Int):Option (ByteArray):=(impl_IsValidRelation.f a0_0 a0_1 a0_2).bind fun t264=>(if t264=true then((impl_FormatInt.f a0_2).bind fun t265=>(if a0_0.size+t265.size≤9223372036854775807 then(if(a0_0++t265).size+1≤9223372036854775807 then((impl_FormatInt.f a0_1).bind fun t266=>(if((a0_0++t265)++(⟨#[47]⟩:ByteArray)).size+t266.size≤9223372036854775807 then(some (((a0_0++t265)++(⟨#[47]⟩:ByteArray))++t266)) else(none))) else(none)) else(none))) else(some (⟨#[]⟩:ByteArray)))
set_option maxHeartbeats 8000000 in
set_option maxRecDepth 100000 in
theorem impl_FormatRelation.calls (a0_0:ByteArray) (a0_1:Int) (a0_2:Int) (r:ByteArray) (w:World) (h:impl_FormatRelation.f a0_0 a0_1 a0_2=some r) (hp_:Go.Proofs.YtckpikfbhlhhjaaGreatDoor.Shelf.Pow w):
  Calls Tryz.prog 35 #[.agg #[.string a0_0,.int .i64 a0_1,.int .i64 a0_2]] w fun e w'=>e= .returned (.string r)∧Below w.heap.size w w':=by
 have hu42:=Tryz.underlying42;obtain⟨W,hW⟩: ∃W,w.alloc (.cells #[.string a0_0,.int .i64 a0_1,.int .i64 a0_2] 42)=W:=⟨_,rfl⟩;have q0:=qa (w:=W) (p:=⟨w.heap.size,0,none⟩) (v:= .string a0_0) (by subst hW;go_simp);have q1:=qa (w:=W) (p:=⟨w.heap.size,1,none⟩) (v:= .int .i64 a0_1) (by subst hW;go_simp);have q2:=qa (w:=W) (p:=⟨w.heap.size,2,none⟩) (v:= .int .i64 a0_2) (by subst hW;go_simp);have HB:Below w.heap.size w W:=by subst hW;exact zB
 have HW:=Below.refl W.heap.size W;have hb:=aM HB;have rg_:= @bcl w;have rd_:= @bdr w;have rG_:= @bcl W;have rD_:= @bdr W;unfold impl_FormatRelation.f at h;replace h:=bs h;obtain⟨t264,B0,h⟩:=h;replace h:=ib h;rcases h with ⟨rfl,h⟩|⟨rfl,h⟩
 replace h:=bs h;obtain⟨t265,B2,h⟩:=h;replace h:=ieN h;rcases h with ⟨c3,c3a,h⟩|⟨c3,c3a,h⟩
 have c3x0:decide (a0_0.size+t265.size≤9223372036854775807)=true:=decide_eq_true (of_eq_true c3a);have c3x1:(9223372036854775807<a0_0.size+t265.size)=False:=eq_false (Nat.not_lt.2 (of_eq_true c3a));replace h:=ieN h;rcases h with ⟨c4,c4a,h⟩|⟨c4,c4a,h⟩
 have c4x0:decide ((a0_0++t265).size+1≤9223372036854775807)=true:=decide_eq_true (of_eq_true c4a);have c4x1:(9223372036854775807<(a0_0++t265).size+1)=False:=eq_false (Nat.not_lt.2 (of_eq_true c4a));have c4y:=c4a;simp only[ByteArray.size_append] at c4y;have c4y0:=decide_eq_true (of_eq_true c4y);have c4y1:=eq_false (Nat.not_lt.2 (of_eq_true c4y));replace h:=bs h;obtain⟨t266,B5,h⟩:=h;replace h:=ieN h;rcases h with ⟨c6,c6a,h⟩|⟨c6,c6a,h⟩
 have c6x0:decide (((a0_0++t265)++(⟨#[47]⟩:ByteArray)).size+t266.size≤9223372036854775807)=true:=decide_eq_true (of_eq_true c6a);have c6x1:(9223372036854775807<((a0_0++t265)++(⟨#[47]⟩:ByteArray)).size+t266.size)=False:=eq_false (Nat.not_lt.2 (of_eq_true c6a));have c6y:=c6a;simp only[ByteArray.size_append,(show(⟨#[47]⟩:ByteArray).size=1 from rfl)] at c6y;have c6y0:=decide_eq_true (of_eq_true c6y);have c6y1:=eq_false (Nat.not_lt.2 (of_eq_true c6y));obtain rfl:=si h
 rotate_left
 exact absurd h (by simp);exact absurd h (by simp);exact absurd h (by simp);obtain rfl:=si h
 rotate_left
 all_goals (go_enter Tryz.func35,Tryz.ntmps35;go_wp2_with (first|(go_at_call 69;refine(impl_IsValidRelation.calls _ _ _ ?_ _ ?h).mono ?_;(case h=>exact zA);rintro e w1 ⟨rfl,hb⟩;replace hb:=aM hb;have HW:Below W.heap.size W w1:=zB;have HB:Below w.heap.size w w1:=zB));(repeat((refine nw (w0:=w) zB ?_;intro W1 HB hb hd;have HW:Below W.heap.size W W1:=zB;(first|(refine Txt.rg (id:=3) [0,1,2,3,7,8,4,5,6,9,10,11] (by kernel_rfl) (by kernel_rfl) ?_;simp only[List.map_cons,List.map_nil,List.getD_cons_zero,List.getD_cons_succ]));(repeat(first|(refine Txt.off rfl ?_;simp only[Act.put,List.setIfInBounds_toArray,List.set_cons_zero,List.set_cons_succ])|(refine Txt.take rfl rfl ?_;intro K hK;go_big_quiet_op;go_big_quiet_on)|(refine Txt.call rfl rfl Tryz.func70 (by kernel_rfl) rfl (impl_FormatInt.calls _ ?_ _ ?h ?hp) rfl ?_;(case h=>exact zA);(case hp=>exact hp_.on zB);rintro e w1 ⟨rfl,hb⟩;replace hb:=aM hb;have HW:Below W.heap.size W w1:=zB;have HB:Below w.heap.size w w1:=zB;refine⟨_,rfl,zS,?_⟩;simp only[Act.put,List.setIfInBounds_toArray,List.set_cons_zero,List.set_cons_succ])));refine Txt.nil ?_);(try go_wp2_with (first|(go_at_call 69;refine(impl_IsValidRelation.calls _ _ _ ?_ _ ?h).mono ?_;(case h=>exact zA);rintro e w1 ⟨rfl,hb⟩;replace hb:=aM hb;have HW:Below W.heap.size W w1:=zB;have HB:Below w.heap.size w w1:=zB)))));go_ret;exact zE zB)

-- NOT PRINTED: function 111 (abi_NoEscape)

-- NOT PRINTED: function 97 (strings_Builder_copyCheck)

-- NOT PRINTED: function 112 (bytealg_MakeNoZero)

-- NOT PRINTED: function 98 (strings_Builder_grow)

-- NOT PRINTED: function 71 (strings_Builder_Grow)

-- NOT PRINTED: function 72 (strings_Builder_WriteString)

-- NOT PRINTED: function 73 (strings_Builder_String)

/-! ### strings_Join: function 36 -/
def strings_Join.f (l0:List ByteArray) (a1:ByteArray):Option (ByteArray):=if l0.length≤1000000000∧(Shelf.jn_ l0 a1).length≤1000000000 then some (⟨(Shelf.jn_ l0 a1).toArray⟩:ByteArray) else none
set_option maxHeartbeats 2000000 in
set_option maxRecDepth 100000 in
theorem strings_Join.calls (A0:Option Addr) (c0:Nat) (l0:List ByteArray) (a1:ByteArray) (r:ByteArray) (w:World) (hr0:Kd.C Kd.string w A0 l0.length l0) (hc0:l0.length≤c0) (h:strings_Join.f l0 a1=some r):
 Calls Tryz.prog 36 #[.slice A0 l0.length c0,.string a1] w fun e w'=>e= .returned (.string r)∧Below w.heap.size w w':=by
 unfold strings_Join.f at h
 by_cases h2:l0.length≤1000000000∧(Shelf.jn_ l0 a1).length≤1000000000
 ·rw[if_pos h2] at h;replace h:=Option.some.inj h;subst h;exact Shelf.JoinS A0 l0 c0 a1 w hc0 hr0 (by omega) (by omega)
 ·rw[if_neg h2] at h;exact absurd h (by simp)


/-! ### impl_IsValidFact: function 91 -/
def impl_IsValidFact.f (l0:List (S42)) (a1_0:Int) (l1_1:List Int):Option (Bool):=(impl_AreValidRelations.f l0).bind fun t268=>(if t268=true then((impl_isFact.f l0 a1_0 l1_1).bind fun t269=>(some t269)) else(some false))
set_option maxHeartbeats 8000000 in
set_option maxRecDepth 100000 in
theorem impl_IsValidFact.calls (A0:Option Addr) (c0:Nat) (l0:List (S42)) (a1_0:Int) (A1_1:Option Addr) (c1_1:Nat) (l1_1:List Int) (r:Bool) (w:World) (hr0:Kd.C k42 w A0 l0.length l0) (hc0:l0.length≤c0) (hr1_1:Kd.C (Kd.int .i64) w A1_1 l1_1.length l1_1) (hc1_1:l1_1.length≤c1_1) (h:impl_IsValidFact.f l0 a1_0 l1_1=some r):
  Calls Tryz.prog 91 #[.slice A0 l0.length c0,.agg #[.int .i64 a1_0,.slice A1_1 l1_1.length c1_1]] w fun e w'=>e= .returned (.bool r)∧Below w.heap.size w w':=by
 have hu47:=Tryz.underlying47;obtain⟨W,hW⟩: ∃W,w.alloc (.cells #[.int .i64 a1_0,.slice A1_1 l1_1.length c1_1] 47)=W:=⟨_,rfl⟩;have q0:=qa (w:=W) (p:=⟨w.heap.size,0,none⟩) (v:= .int .i64 a1_0) (by subst hW;go_simp);have q1:=qa (w:=W) (p:=⟨w.heap.size,1,none⟩) (v:= .slice A1_1 l1_1.length c1_1) (by subst hW;go_simp);have HB:Below w.heap.size w W:=by subst hW;exact zB
 have HW:=Below.refl W.heap.size W;have hb:=aM HB;unfold impl_IsValidFact.f at h;replace h:=bs h;obtain⟨t268,B0,h⟩:=h;replace h:=ib h;rcases h with ⟨rfl,h⟩|⟨rfl,h⟩
 replace h:=bs h;obtain⟨t269,B2,h⟩:=h;obtain rfl:=si h
 rotate_left
 obtain rfl:=si h
 rotate_left
 all_goals (go_enter Tryz.func91,Tryz.ntmps91;go_wp2_with (first|(go_at_call 67;refine(impl_AreValidRelations.calls _ _ _ ?_ _ ?_ ?_ ?h).mono ?_;(case h=>exact zA);(iterate 2 (first|exact zC|exact zA));rintro e w1 ⟨rfl,hb⟩;replace hb:=aM hb;have HW:Below W.heap.size W w1:=zB;have HB:Below w.heap.size w w1:=zB)|(go_at_call 68;refine(impl_isFact.calls _ _ _ _ _ _ _ ?_ _ ?_ ?_ ?_ ?_ ?h).mono ?_;(case h=>exact zA);(iterate 4 (first|exact zC|exact zA));rintro e w1 ⟨rfl,hb⟩;replace hb:=aM hb;have HW:Below W.heap.size W w1:=zB;have HB:Below w.heap.size w w1:=zB));go_ret;exact zE zB)

/-! ### impl_barred: function 92 -/
def impl_barred.f (l0:List ByteArray) (a1:Int):Option (ByteArray):=if 0≤a1∧a1≤(l0.length:Int) then(if l0.length≤1000000000∧(Shelf.cat_ l0).length≤1000000000 then some (if a1<(l0.length:Int) then(⟨(Shelf.cat_ (l0.take a1.toNat)).toArray⟩:ByteArray)++((⟨#[124]⟩:ByteArray)++(⟨(Shelf.cat_ (l0.drop a1.toNat)).toArray⟩:ByteArray)) else(⟨(Shelf.cat_ (l0.take a1.toNat)).toArray⟩:ByteArray)) else none) else none
set_option maxHeartbeats 2000000 in
set_option maxRecDepth 100000 in
theorem impl_barred.calls (A0:Option Addr) (c0:Nat) (l0:List ByteArray) (a1:Int) (r:ByteArray) (w:World) (hr0:Kd.C Kd.string w A0 l0.length l0) (hc0:l0.length≤c0) (h:impl_barred.f l0 a1=some r):
 Calls Tryz.prog 92 #[.slice A0 l0.length c0,.int .i64 a1] w fun e w'=>e= .returned (.string r)∧Below w.heap.size w w':=by
 unfold impl_barred.f at h
 by_cases h1:0≤a1∧a1≤(l0.length:Int)
 ·rw[if_pos h1] at h
  by_cases h2:l0.length≤1000000000∧(Shelf.cat_ l0).length≤1000000000
  ·rw[if_pos h2] at h;replace h:=Option.some.inj h;obtain⟨i,hi,hsz⟩: ∃i,Tryz.prog.info? 9=some i∧i.size=1:=by
    have e:(Tryz.prog.info? 9).map (fun x=>x.size)=some 1:=by kernel_rfl
    exact Option.map_eq_some_iff.1 e
   have hR:ReadsOf Value.string ByteArray.empty w A0 l0.length l0:=Kd.reads_of_C hr0;obtain⟨T1,T2,T3⟩:=print_take_of Value.string ByteArray.empty 39 9 .i64 Tryz.underlying39 hi hsz A0 c0 l0 a1 h1.1 h1.2 hc0;obtain⟨A',D1,D2,D3⟩:=print_drop_of Value.string ByteArray.empty 39 9 .i64 Tryz.underlying39 hi hsz A0 c0 l0 a1 h1.1 h1.2 hc0;have lt:=Shelf.cat_len l0 a1.toNat;have CT:Kd.C Kd.string w A0 (l0.take a1.toNat).length (l0.take a1.toNat):=Kd.C_of_reads (T2 w hR);have CD:Kd.C Kd.string w A' (l0.drop a1.toNat).length (l0.drop a1.toNat):=Kd.C_of_reads (D2 w hR);have JT:=Shelf.Join A0 (l0.take a1.toNat) c0 w T3 CT (by rw[List.length_take];omega) (by omega);have JD:=fun W hW=>Shelf.Join A' (l0.drop a1.toNat) (c0-a1.toNat) W D3 (Kd.C_below CD hW) (by rw[List.length_drop];omega) (by omega);have z1:(⟨(Shelf.cat_ (l0.take a1.toNat)).toArray⟩:ByteArray).size≤1000000000:=by rw[show(⟨(Shelf.cat_ (l0.take a1.toNat)).toArray⟩:ByteArray).size=(Shelf.cat_ (l0.take a1.toNat)).toArray.size from rfl,List.size_toArray];omega
   have z2:(⟨(Shelf.cat_ (l0.drop a1.toNat)).toArray⟩:ByteArray).size≤1000000000:=by rw[show(⟨(Shelf.cat_ (l0.drop a1.toNat)).toArray⟩:ByteArray).size=(Shelf.cat_ (l0.drop a1.toNat)).toArray.size from rfl,List.size_toArray];omega
   generalize (⟨(Shelf.cat_ (l0.take a1.toNat)).toArray⟩:ByteArray)=s1 at h JT z1;generalize (⟨(Shelf.cat_ (l0.drop a1.toNat)).toArray⟩:ByteArray)=s2 at h JD z2;rw[List.length_take] at JT;simp only[List.length_drop] at JD;have l1:(⟨#[124]⟩:ByteArray).size=1:=rfl;have y1:(1+s2.size≤9223372036854775807)=True:=eq_true (by omega);have y2:decide (1+s2.size≤9223372036854775807)=true:=decide_eq_true (by omega);have y3:(9223372036854775807<1+s2.size)=False:=eq_false (by omega);have y4:(s1.size+(1+s2.size)≤9223372036854775807)=True:=eq_true (by omega);have y5:decide (s1.size+(1+s2.size)≤9223372036854775807)=true:=decide_eq_true (by omega);have y6:(9223372036854775807<s1.size+(1+s2.size))=False:=eq_false (by omega);clear z1 z2 lt T2 D2 hR CT CD h2 T3 D3 l1
   by_cases c:a1<(l0.length:Int)
   ·rw[if_pos c] at h;subst h;have cx:decide (a1<(l0.length:Int))=true:=decide_eq_true c;clear c h1
    go_enter Tryz.func92,Tryz.ntmps92
    go_wp2_with (first|(go_at_call 36;first|(refine(JD _ hb).mono ?_;rintro e w2 ⟨rfl,hc⟩)|(refine JT.mono ?_;rintro e w1 ⟨rfl,hb⟩)))
    go_ret
    exact⟨rfl,below_then hb hb.size hc⟩
   ·rw[if_neg c] at h;subst h;have cx:decide (a1<(l0.length:Int))=false:=decide_eq_false c;clear c h1
    go_enter Tryz.func92,Tryz.ntmps92
    go_wp2_with (go_at_call 36;refine JT.mono ?_;rintro e w1 ⟨rfl,hb⟩)
    go_ret
    exact⟨rfl,hb⟩
  ·rw[if_neg h2] at h;exact absurd h (by simp)
 ·rw[if_neg h1] at h;exact absurd h (by simp)


end Go.Proofs.YtckpikfbhlhhjaaGreatDoor.PFnDatabaseFormat
