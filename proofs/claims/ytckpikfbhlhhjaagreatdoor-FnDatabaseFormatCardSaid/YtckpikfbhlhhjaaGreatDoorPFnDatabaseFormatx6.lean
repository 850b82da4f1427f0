import Derived.Test.YtckpikfbhlhhjaaGreatDoorPFnDatabaseFormatx0
import Derived.Test.YtckpikfbhlhhjaaGreatDoorPFnDatabaseFormatx2
import Derived.Test.YtckpikfbhlhhjaaGreatDoorPFnDatabaseFormatx4
namespace Go.Proofs.YtckpikfbhlhhjaaGreatDoor.PFnDatabaseFormat
open Go.RowKit Go.Proofs.YtckpikfbhlhhjaaGreatDoorW.PrintWords Go.Proofs.YtckpikfbhlhhjaaGreatDoorW.PrintLast Go.Proofs.YtckpikfbhlhhjaaGreatDoorW.PrintMore
attribute [local go_sem] max2_int min2_int max_two min_two max_three min_three max_four min_four
set_option linter.unusedVariables false
set_option linter.unusedSimpArgs false

/-! ### spec_IsValidDatabase: function 15 -/
def spec_IsValidDatabase.l0:Nat→Int→List (S42)→List (S47)→Option (Bool)
 |0,_,_,_=>none
 |k+1,x3,x159000,x159001=>if x3<(x159001.length:Int) then(if 0≤x3 then((spec_IsValidFact.f k x159000 ((rd_T47 x159001 x3).f0) ((rd_T47 x159001 x3).f1)).bind fun t161=>(if t161=true then(if x3>0 then(if 0≤(wrap64 (x3-1)) then(if(wrap64 (x3-1))<(x159001.length:Int) then((spec_CompareFacts.f k ((rd_T47 x159001 (wrap64 (x3-1))).f0) ((rd_T47 x159001 (wrap64 (x3-1))).f1) ((rd_T47 x159001 x3).f0) ((rd_T47 x159001 x3).f1)).bind fun t164=>(if t164≥0 then(some false) else(spec_IsValidDatabase.l0 k (wrap64 (x3+1)) x159000 x159001))) else(none)) else(none)) else(spec_IsValidDatabase.l0 k (wrap64 (x3+1)) x159000 x159001)) else(some false))) else(none)) else((spec_AreValidRelations.f x159000).bind fun t159=>(if t159=true then(some (decide ((x159001.length:Int)≤14))) else(some false)))
def spec_IsValidDatabase.f (k:Nat) (l0_0:List (S42)) (l0_1:List (S47)):Option (Bool):=spec_IsValidDatabase.l0 k 0 l0_0 l0_1
set_option maxHeartbeats 8000000 in
set_option maxRecDepth 100000 in
theorem spec_IsValidDatabase.calls (k:Nat) (A0_0:Option Addr) (c0_0:Nat) (l0_0:List (S42)) (A0_1:Option Addr) (c0_1:Nat) (l0_1:List (S47)) (r:Bool) (w:World) (hr0_0:Kd.C k42 w A0_0 l0_0.length l0_0) (hc0_0:l0_0.length≤c0_0) (hr0_1:Kd.C k47 w A0_1 l0_1.length l0_1) (hc0_1:l0_1.length≤c0_1) (h:spec_IsValidDatabase.f k l0_0 l0_1=some r):
  Calls Tryz.prog 15 #[.agg #[.slice A0_0 l0_0.length c0_0,.slice A0_1 l0_1.length c0_1]] w fun e w'=>e= .returned (.bool r)∧Below w.heap.size w w':=by
 have hu25:=Tryz.underlying25;have hu47:=Tryz.underlying47;obtain⟨W,hW⟩: ∃W,w.alloc (.cells #[.slice A0_0 l0_0.length c0_0,.slice A0_1 l0_1.length c0_1] 25)=W:=⟨_,rfl⟩;have q0:=qa (w:=W) (p:=⟨w.heap.size,0,none⟩) (v:= .slice A0_0 l0_0.length c0_0) (by subst hW;go_simp);have q1:=qa (w:=W) (p:=⟨w.heap.size,1,none⟩) (v:= .slice A0_1 l0_1.length c0_1) (by subst hW;go_simp);have HB:Below w.heap.size w W:=by subst hW;exact zB
 have HW:=Below.refl W.heap.size W;have hb:=aM HB;have rg_:= @bcl w;have rd_:= @bdr w;have rG_:= @bcl W;have rD_:= @bdr W;unfold spec_IsValidDatabase.f at h
 ·go_enter Tryz.func15,Tryz.ntmps15
  go_wp2_with (first|(go_at_call 46;refine(spec_AreValidRelations.calls _ _ _ ?_ _ ?_ ?_ ?h).mono ?_;(case h=>exact zA);(iterate 2 (first|exact zC|exact zA));rintro e w1 ⟨rfl,hb⟩;replace hb:=aM hb;have HW:Below W.heap.size W w1:=zB;have HB:Below w.heap.size w w1:=zB))
  (repeat((refine nw (w0:=w) zB ?_;intro W1 HB hb hd;have HW:Below W.heap.size W W1:=zB;(first|(refine Txt.rg (id:=4) [0,1,2,3,4,5,6,7,8,9,10,11,12,13,14,15,16,17,18,19,20,21,22,23,24,25,26,27] (by kernel_rfl) (by kernel_rfl) ?_;simp only[List.map_cons,List.map_nil,List.getD_cons_zero,List.getD_cons_succ]));(repeat(first|(refine Txt.off rfl ?_;simp only[Act.put,List.setIfInBounds_toArray,List.set_cons_zero,List.set_cons_succ])|(refine Txt.take rfl rfl ?_;intro K hK;go_big_quiet_op;go_big_quiet_on)|(refine Txt.call rfl rfl Tryz.func44 (by kernel_rfl) rfl (spec_IsValidFact.calls ?_ _ _ _ _ _ _ _ ?_ _ ?_ ?_ ?_ ?_ ?h) rfl ?_;(case h=>exact zA);(iterate 4 (first|exact zC|exact zA));rintro e w1 ⟨rfl,hb⟩;replace hb:=aM hb;have HW:Below W.heap.size W w1:=zB;have HB:Below w.heap.size w w1:=zB;refine⟨_,rfl,zS,?_⟩;simp only[Act.put,List.setIfInBounds_toArray,List.set_cons_zero,List.set_cons_succ])|(refine Txt.call rfl rfl Tryz.func45 (by kernel_rfl) rfl (spec_CompareFacts.calls ?_ _ _ _ _ _ _ _ _ ?_ _ ?_ ?_ ?_ ?_ ?h) rfl ?_;(case h=>exact zA);(iterate 4 (first|exact zC|exact zA));rintro e w1 ⟨rfl,hb⟩;replace hb:=aM hb;have HW:Below W.heap.size W w1:=zB;have HB:Below w.heap.size w w1:=zB;refine⟨_,rfl,zS,?_⟩;simp only[Act.put,List.setIfInBounds_toArray,List.set_cons_zero,List.set_cons_succ])));refine Txt.nil ?_);(try go_wp2_with (first|(go_at_call 46;refine(spec_AreValidRelations.calls _ _ _ ?_ _ ?_ ?_ ?h).mono ?_;(case h=>exact zA);(iterate 2 (first|exact zC|exact zA));rintro e w1 ⟨rfl,hb⟩;replace hb:=aM hb;have HW:Below W.heap.size W w1:=zB;have HB:Below w.heap.size w w1:=zB)))))
  go_loopg [3] k (fun kq v3 w'=> ∃(x3_0:Int),v3= .int .i64 x3_0∧spec_IsValidDatabase.l0 kq x3_0 l0_0 l0_1=some r∧Below W.heap.size W w')
  case atStart=>exact⟨_,zR,zA,zB⟩
  case round=>
   clear h;obtain⟨x3_0,rfl,h,hb⟩:=hrel;replace hb:=aM hb;have HW:Below W.heap.size W wr:=zB;have HB:Below w.heap.size w wr:=zB
   rcases gk with _|kk0
   exact absurd h (by simp[spec_IsValidDatabase.l0]);simp only[spec_IsValidDatabase.l0] at h;replace h:=il h;rcases h with ⟨c1,c1a,h⟩|⟨c1,c1a,h⟩
   replace h:=ie h;rcases h with ⟨c2,c2a,h⟩|⟨c2,c2a,h⟩
   replace h:=bs h;obtain⟨t161,B3,h⟩:=h;replace h:=ib h;rcases h with ⟨rfl,h⟩|⟨rfl,h⟩
   replace h:=ig h;rcases h with ⟨c5,c5a,h⟩|⟨c5,c5a,h⟩
   replace h:=ie h;rcases h with ⟨c6,c6a,h⟩|⟨c6,c6a,h⟩
   replace h:=il h;rcases h with ⟨c7,c7a,h⟩|⟨c7,c7a,h⟩
   replace h:=bs h;obtain⟨t164,B8,h⟩:=h;replace h:=ih h;rcases h with ⟨c9,c9a,h⟩|⟨c9,c9a,h⟩
   obtain rfl:=si h;obtain⟨ad160,A160_1,c160_1,e160,hx160_0,hx160_1,hl160_1,hi160_1⟩:=at_T47 hr0_1 (x3_0:Int) aD aD;have p160:=eq_true (aD:0≤(x3_0:Int));have q160:=eq_true (aD:x3_0<(l0_1.length:Int))
   cases e160
   replace hx160_0:=qa hx160_0;replace hx160_1:=qa hx160_1;obtain⟨ad162,A162_1,c162_1,e162,hx162_0,hx162_1,hl162_1,hi162_1⟩:=at_T47 hr0_1 ((wrap64 (x3_0-1)):Int) aD aD;have p162:=eq_true (aD:0≤((wrap64 (x3_0-1)):Int));have q162:=eq_true (aD:(wrap64 (x3_0-1))<(l0_1.length:Int))
   cases e162
   replace hx162_0:=qa hx162_0;replace hx162_1:=qa hx162_1;obtain⟨ad163,A163_1,c163_1,e163,hx163_0,hx163_1,hl163_1,hi163_1⟩:=at_T47 hr0_1 (x3_0:Int) aD aD;have p163:=eq_true (aD:0≤(x3_0:Int));have q163:=eq_true (aD:x3_0<(l0_1.length:Int))
   cases e163
   replace hx163_0:=qa hx163_0;replace hx163_1:=qa hx163_1
   rotate_left
   obtain⟨kf,hkf⟩: ∃kf,kf=kk0:=⟨_,rfl⟩;rw[←hkf] at h;obtain⟨ad160,A160_1,c160_1,e160,hx160_0,hx160_1,hl160_1,hi160_1⟩:=at_T47 hr0_1 (x3_0:Int) aD aD;have p160:=eq_true (aD:0≤(x3_0:Int));have q160:=eq_true (aD:x3_0<(l0_1.length:Int))
   cases e160
   replace hx160_0:=qa hx160_0;replace hx160_1:=qa hx160_1;obtain⟨ad162,A162_1,c162_1,e162,hx162_0,hx162_1,hl162_1,hi162_1⟩:=at_T47 hr0_1 ((wrap64 (x3_0-1)):Int) aD aD;have p162:=eq_true (aD:0≤((wrap64 (x3_0-1)):Int));have q162:=eq_true (aD:(wrap64 (x3_0-1))<(l0_1.length:Int))
   cases e162
   replace hx162_0:=qa hx162_0;replace hx162_1:=qa hx162_1;obtain⟨ad163,A163_1,c163_1,e163,hx163_0,hx163_1,hl163_1,hi163_1⟩:=at_T47 hr0_1 (x3_0:Int) aD aD;have p163:=eq_true (aD:0≤(x3_0:Int));have q163:=eq_true (aD:x3_0<(l0_1.length:Int))
   cases e163
   replace hx163_0:=qa hx163_0;replace hx163_1:=qa hx163_1
   rotate_left
   exact absurd h (by simp);exact absurd h (by simp);obtain⟨kf,hkf⟩: ∃kf,kf=kk0:=⟨_,rfl⟩;rw[←hkf] at h;obtain⟨ad160,A160_1,c160_1,e160,hx160_0,hx160_1,hl160_1,hi160_1⟩:=at_T47 hr0_1 (x3_0:Int) aD aD;have p160:=eq_true (aD:0≤(x3_0:Int));have q160:=eq_true (aD:x3_0<(l0_1.length:Int))
   cases e160
   replace hx160_0:=qa hx160_0;replace hx160_1:=qa hx160_1
   rotate_left
   obtain rfl:=si h;obtain⟨ad160,A160_1,c160_1,e160,hx160_0,hx160_1,hl160_1,hi160_1⟩:=at_T47 hr0_1 (x3_0:Int) aD aD;have p160:=eq_true (aD:0≤(x3_0:Int));have q160:=eq_true (aD:x3_0<(l0_1.length:Int))
   cases e160
   replace hx160_0:=qa hx160_0;replace hx160_1:=qa hx160_1
   rotate_left
   exact absurd h (by simp);replace h:=bs h;obtain⟨t159,B10,h⟩:=h;replace h:=ib h;rcases h with ⟨rfl,h⟩|⟨rfl,h⟩
   obtain rfl:=si h
   rotate_left
   obtain rfl:=si h
   rotate_left
   all_goals (go_wp2_with (first|(go_at_call 46;refine(spec_AreValidRelations.calls _ _ _ ?_ _ ?_ ?_ ?h).mono ?_;(case h=>exact zA);(iterate 2 (first|exact zC|exact zA));rintro e w1 ⟨rfl,hb⟩;replace hb:=aM hb;have HW:Below W.heap.size W w1:=zB;have HB:Below w.heap.size w w1:=zB));(repeat((refine nw (w0:=w) zB ?_;intro W1 HB hb hd;have HW:Below W.heap.size W W1:=zB;(first|(refine Txt.rg (id:=4) [0,1,2,3,4,5,6,7,8,9,10,11,12,13,14,15,16,17,18,19,20,21,22,23,24,25,26,27] (by kernel_rfl) (by kernel_rfl) ?_;simp only[List.map_cons,List.map_nil,List.getD_cons_zero,List.getD_cons_succ]));(repeat(first|(refine Txt.off rfl ?_;simp only[Act.put,List.setIfInBounds_toArray,List.set_cons_zero,List.set_cons_succ])|(refine Txt.take rfl rfl ?_;intro K hK;go_big_quiet_op;go_big_quiet_on)|(refine Txt.call rfl rfl Tryz.func44 (by kernel_rfl) rfl (spec_IsValidFact.calls ?_ _ _ _ _ _ _ _ ?_ _ ?_ ?_ ?_ ?_ ?h) rfl ?_;(case h=>exact zA);(iterate 4 (first|exact zC|exact zA));rintro e w1 ⟨rfl,hb⟩;replace hb:=aM hb;have HW:Below W.heap.size W w1:=zB;have HB:Below w.heap.size w w1:=zB;refine⟨_,rfl,zS,?_⟩;simp only[Act.put,List.setIfInBounds_toArray,List.set_cons_zero,List.set_cons_succ])|(refine Txt.call rfl rfl Tryz.func45 (by kernel_rfl) rfl (spec_CompareFacts.calls ?_ _ _ _ _ _ _ _ _ ?_ _ ?_ ?_ ?_ ?_ ?h) rfl ?_;(case h=>exact zA);(iterate 4 (first|exact zC|exact zA));rintro e w1 ⟨rfl,hb⟩;replace hb:=aM hb;have HW:Below W.heap.size W w1:=zB;have HB:Below w.heap.size w w1:=zB;refine⟨_,rfl,zS,?_⟩;simp only[Act.put,List.setIfInBounds_toArray,List.set_cons_zero,List.set_cons_succ])));refine Txt.nil ?_);(try go_wp2_with (first|(go_at_call 46;refine(spec_AreValidRelations.calls _ _ _ ?_ _ ?_ ?_ ?h).mono ?_;(case h=>exact zA);(iterate 2 (first|exact zC|exact zA));rintro e w1 ⟨rfl,hb⟩;replace hb:=aM hb;have HW:Below W.heap.size W w1:=zB;have HB:Below w.heap.size w w1:=zB)))));first|(go_ret;exact zE zB)|(go_roundg kf;(case measure=>omega);(case rel=>exact⟨_,zR,zA,zB⟩)))

/-! ### spec_l4Set: function 86 -/
def spec_l4Set.l0:Nat→List Int→Int→List (S42)→List (S47)→Option (Bool)
 |0,_,_,_,_=>none
 |k+1,x1,x5,x166000,x166001=>if x5<(x1.length:Int) then(if 0≤x5 then((spec_l1In.f (rd x1 x5) 0 (wrap64 ((x166001.length:Int)-1))).bind fun t167=>(if t167=true then(if x5>0 then(if 0≤(wrap64 (x5-1)) then(if(wrap64 (x5-1))<(x1.length:Int) then(if(rd x1 x5)≤(rd x1 (wrap64 (x5-1))) then(some false) else(spec_l4Set.l0 k x1 (wrap64 (x5+1)) x166000 x166001)) else(none)) else(none)) else(spec_l4Set.l0 k x1 (wrap64 (x5+1)) x166000 x166001)) else(some false))) else(none)) else(some true)
def spec_l4Set.f (k:Nat) (l0_0:List (S42)) (l0_1:List (S47)) (l1:List Int):Option (Bool):=spec_l4Set.l0 k l1 0 l0_0 l0_1
set_option maxHeartbeats 8000000 in
set_option maxRecDepth 100000 in
theorem spec_l4Set.calls (k:Nat) (A0_0:Option Addr) (c0_0:Nat) (l0_0:List (S42)) (A0_1:Option Addr) (c0_1:Nat) (l0_1:List (S47)) (A1:Option Addr) (c1:Nat) (l1:List Int) (r:Bool) (w:World) (hr0_0:Kd.C k42 w A0_0 l0_0.length l0_0) (hc0_0:l0_0.length≤c0_0) (hr0_1:Kd.C k47 w A0_1 l0_1.length l0_1) (hc0_1:l0_1.length≤c0_1) (hr1:Kd.C (Kd.int .i64) w A1 l1.length l1) (hc1:l1.length≤c1) (h:spec_l4Set.f k l0_0 l0_1 l1=some r):
  Calls Tryz.prog 86 #[.agg #[.slice A0_0 l0_0.length c0_0,.slice A0_1 l0_1.length c0_1],.slice A1 l1.length c1] w fun e w'=>e= .returned (.bool r)∧Below w.heap.size w w':=by
 have hu25:=Tryz.underlying25;obtain⟨W,hW⟩: ∃W,w.alloc (.cells #[.slice A0_0 l0_0.length c0_0,.slice A0_1 l0_1.length c0_1] 25)=W:=⟨_,rfl⟩;have q0:=qa (w:=W) (p:=⟨w.heap.size,0,none⟩) (v:= .slice A0_0 l0_0.length c0_0) (by subst hW;go_simp);have q1:=qa (w:=W) (p:=⟨w.heap.size,1,none⟩) (v:= .slice A0_1 l0_1.length c0_1) (by subst hW;go_simp);have HB:Below w.heap.size w W:=by subst hW;exact zB
 have HW:=Below.refl W.heap.size W;have hb:=aM HB;have rg_:= @bcl w;have rd_:= @bdr w;have rG_:= @bcl W;have rD_:= @bdr W;unfold spec_l4Set.f at h
 ·go_enter Tryz.func86,Tryz.ntmps86
  go_wp2
  (repeat((refine nw (w0:=w) zB ?_;intro W1 HB hb hd;have HW:Below W.heap.size W W1:=zB;(first|(refine Txt.rg (id:=4) [0,1,2,3,4,5,6,7,8,9,10,11,12,13,14,15,16,17,18,19,20,21,22,23,24,25] (by kernel_rfl) (by kernel_rfl) ?_;simp only[List.map_cons,List.map_nil,List.getD_cons_zero,List.getD_cons_succ]));(repeat(first|(refine Txt.off rfl ?_;simp only[Act.put,List.setIfInBounds_toArray,List.set_cons_zero,List.set_cons_succ])|(refine Txt.take rfl rfl ?_;intro K hK;go_big_quiet_op;go_big_quiet_on)|(refine Txt.call rfl rfl Tryz.func80 (by kernel_rfl) rfl (spec_l1In.calls _ _ _ ?_ _ ?h) rfl ?_;(case h=>exact zA);rintro e w1 ⟨rfl,hb⟩;replace hb:=hb.below;replace hb:=aM hb;have HW:Below W.heap.size W w1:=zB;have HB:Below w.heap.size w w1:=zB;refine⟨_,rfl,zS,?_⟩;simp only[Act.put,List.setIfInBounds_toArray,List.set_cons_zero,List.set_cons_succ])));refine Txt.nil ?_);(try go_wp2)))
  go_loopg [5] k (fun kq v5 w'=> ∃(x5_0:Int),v5= .int .i64 x5_0∧spec_l4Set.l0 kq l1 x5_0 l0_0 l0_1=some r∧Below W.heap.size W w')
  case atStart=>exact⟨_,zR,zA,zB⟩
  case round=>
   clear h;obtain⟨x5_0,rfl,h,hb⟩:=hrel;replace hb:=aM hb;have HW:Below W.heap.size W wr:=zB;have HB:Below w.heap.size w wr:=zB
   rcases gk with _|kk0
   exact absurd h (by simp[spec_l4Set.l0]);simp only[spec_l4Set.l0] at h;replace h:=il h;rcases h with ⟨c1,c1a,h⟩|⟨c1,c1a,h⟩
   replace h:=ie h;rcases h with ⟨c2,c2a,h⟩|⟨c2,c2a,h⟩
   replace h:=bs h;obtain⟨t167,B3,h⟩:=h;replace h:=ib h;rcases h with ⟨rfl,h⟩|⟨rfl,h⟩
   replace h:=ig h;rcases h with ⟨c5,c5a,h⟩|⟨c5,c5a,h⟩
   replace h:=ie h;rcases h with ⟨c6,c6a,h⟩|⟨c6,c6a,h⟩
   replace h:=il h;rcases h with ⟨c7,c7a,h⟩|⟨c7,c7a,h⟩
   replace h:=ie h;rcases h with ⟨c8,c8a,h⟩|⟨c8,c8a,h⟩
   obtain rfl:=si h;obtain⟨ad166,e166,hx166_0⟩:=Kd.at_int hr1 (x5_0:Int) aD aD;have p166:=eq_true (aD:0≤(x5_0:Int));have q166:=eq_true (aD:x5_0<(l1.length:Int))
   cases e166
   replace hx166_0:=qa hx166_0;obtain⟨ad168,e168,hx168_0⟩:=Kd.at_int hr1 (x5_0:Int) aD aD;have p168:=eq_true (aD:0≤(x5_0:Int));have q168:=eq_true (aD:x5_0<(l1.length:Int))
   cases e168
   replace hx168_0:=qa hx168_0;obtain⟨ad169,e169,hx169_0⟩:=Kd.at_int hr1 ((wrap64 (x5_0-1)):Int) aD aD;have p169:=eq_true (aD:0≤((wrap64 (x5_0-1)):Int));have q169:=eq_true (aD:(wrap64 (x5_0-1))<(l1.length:Int))
   cases e169
   replace hx169_0:=qa hx169_0
   rotate_left
   obtain⟨kf,hkf⟩: ∃kf,kf=kk0:=⟨_,rfl⟩;rw[←hkf] at h;obtain⟨ad166,e166,hx166_0⟩:=Kd.at_int hr1 (x5_0:Int) aD aD;have p166:=eq_true (aD:0≤(x5_0:Int));have q166:=eq_true (aD:x5_0<(l1.length:Int))
   cases e166
   replace hx166_0:=qa hx166_0;obtain⟨ad168,e168,hx168_0⟩:=Kd.at_int hr1 (x5_0:Int) aD aD;have p168:=eq_true (aD:0≤(x5_0:Int));have q168:=eq_true (aD:x5_0<(l1.length:Int))
   cases e168
   replace hx168_0:=qa hx168_0;obtain⟨ad169,e169,hx169_0⟩:=Kd.at_int hr1 ((wrap64 (x5_0-1)):Int) aD aD;have p169:=eq_true (aD:0≤((wrap64 (x5_0-1)):Int));have q169:=eq_true (aD:(wrap64 (x5_0-1))<(l1.length:Int))
   cases e169
   replace hx169_0:=qa hx169_0
   rotate_left
   exact absurd h (by simp);exact absurd h (by simp);obtain⟨kf,hkf⟩: ∃kf,kf=kk0:=⟨_,rfl⟩;rw[←hkf] at h;obtain⟨ad166,e166,hx166_0⟩:=Kd.at_int hr1 (x5_0:Int) aD aD;have p166:=eq_true (aD:0≤(x5_0:Int));have q166:=eq_true (aD:x5_0<(l1.length:Int))
   cases e166
   replace hx166_0:=qa hx166_0
   rotate_left
   obtain rfl:=si h;obtain⟨ad166,e166,hx166_0⟩:=Kd.at_int hr1 (x5_0:Int) aD aD;have p166:=eq_true (aD:0≤(x5_0:Int));have q166:=eq_true (aD:x5_0<(l1.length:Int))
   cases e166
   replace hx166_0:=qa hx166_0
   rotate_left
   exact absurd h (by simp);obtain rfl:=si h
   rotate_left
   all_goals (go_wp2;(repeat((refine nw (w0:=w) zB ?_;intro W1 HB hb hd;have HW:Below W.heap.size W W1:=zB;(first|(refine Txt.rg (id:=4) [0,1,2,3,4,5,6,7,8,9,10,11,12,13,14,15,16,17,18,19,20,21,22,23,24,25] (by kernel_rfl) (by kernel_rfl) ?_;simp only[List.map_cons,List.map_nil,List.getD_cons_zero,List.getD_cons_succ]));(repeat(first|(refine Txt.off rfl ?_;simp only[Act.put,List.setIfInBounds_toArray,List.set_cons_zero,List.set_cons_succ])|(refine Txt.take rfl rfl ?_;intro K hK;go_big_quiet_op;go_big_quiet_on)|(refine Txt.call rfl rfl Tryz.func80 (by kernel_rfl) rfl (spec_l1In.calls _ _ _ ?_ _ ?h) rfl ?_;(case h=>exact zA);rintro e w1 ⟨rfl,hb⟩;replace hb:=hb.below;replace hb:=aM hb;have HW:Below W.heap.size W w1:=zB;have HB:Below w.heap.size w w1:=zB;refine⟨_,rfl,zS,?_⟩;simp only[Act.put,List.setIfInBounds_toArray,List.set_cons_zero,List.set_cons_succ])));refine Txt.nil ?_);(try go_wp2)));first|(go_ret;exact zE zB)|(go_roundg kf;(case measure=>omega);(case rel=>exact⟨_,zR,zA,zB⟩)))

/-! ### spec_FormatFacts: function 54 -/
mutual
def spec_FormatFacts.l0:Nat→List Int→ByteArray→Int→List (S42)→List (S47)→Option (ByteArray)
 |0,_,_,_,_,_=>none
 |k+1,x1,x5,x6,x171000,x171001=>if x6<(x1.length:Int) then((spec_IsValidDatabase.f k x171000 x171001).bind fun t171=>(if t171=true then((spec_l4Set.f k x171000 x171001 x1).bind fun t172=>(spec_FormatFacts.j1 k x1 x5 x6 t172 x171000 x171001)) else(spec_FormatFacts.j1 k x1 x5 x6 false x171000 x171001))) else(spec_FormatFacts.j1 k x1 x5 x6 false x171000 x171001)
def spec_FormatFacts.j1:Nat→List Int→ByteArray→Int→Bool→List (S42)→List (S47)→Option (ByteArray)
 |0,_,_,_,_,_,_=>none
 |k+1,x1,x5,x6,x19,x171000,x171001=>if x19=true then(if x6>0 then(if x5.size+1≤9223372036854775807 then(if 0≤x6 then(if x6<(x1.length:Int) then(if 0≤(rd x1 x6) then(if(rd x1 x6)<(x171001.length:Int) then((spec_FormatFact.f k x171000 ((rd_T47 x171001 (rd x1 x6)).f0) ((rd_T47 x171001 (rd x1 x6)).f1)).bind fun t175=>(if(x5++(⟨#[32]⟩:ByteArray)).size+t175.size≤9223372036854775807 then(spec_FormatFacts.l0 k x1 ((x5++(⟨#[32]⟩:ByteArray))++t175) (wrap64 (x6+1)) x171000 x171001) else(none))) else(none)) else(none)) else(none)) else(none)) else(none)) else(if 0≤x6 then(if x6<(x1.length:Int) then(if 0≤(rd x1 x6) then(if(rd x1 x6)<(x171001.length:Int) then((spec_FormatFact.f k x171000 ((rd_T47 x171001 (rd x1 x6)).f0) ((rd_T47 x171001 (rd x1 x6)).f1)).bind fun t178=>(if x5.size+t178.size≤9223372036854775807 then(spec_FormatFacts.l0 k x1 (x5++t178) (wrap64 (x6+1)) x171000 x171001) else(none))) else(none)) else(none)) else(none)) else(none))) else(some x5)
end
def spec_FormatFacts.f (k:Nat) (l0_0:List (S42)) (l0_1:List (S47)) (l1:List Int):Option (ByteArray):=spec_FormatFacts.l0 k l1 (⟨#[]⟩:ByteArray) 0 l0_0 l0_1
set_option maxHeartbeats 8000000 in
set_option maxRecDepth 100000 in
theorem spec_FormatFacts.calls (k:Nat) (A0_0:Option Addr) (c0_0:Nat) (l0_0:List (S42)) (A0_1:Option Addr) (c0_1:Nat) (l0_1:List (S47)) (A1:Option Addr) (c1:Nat) (l1:List Int) (r:ByteArray) (w:World) (hr0_0:Kd.C k42 w A0_0 l0_0.length l0_0) (hc0_0:l0_0.length≤c0_0) (hr0_1:Kd.C k47 w A0_1 l0_1.length l0_1) (hc0_1:l0_1.length≤c0_1) (hr1:Kd.C (Kd.int .i64) w A1 l1.length l1) (hc1:l1.length≤c1) (h:spec_FormatFacts.f k l0_0 l0_1 l1=some r):
  Calls Tryz.prog 54 #[.agg #[.slice A0_0 l0_0.length c0_0,.slice A0_1 l0_1.length c0_1],.slice A1 l1.length c1] w fun e w'=>e= .returned (.string r)∧Below w.heap.size w w':=by
 have hu25:=Tryz.underlying25;have hu47:=Tryz.underlying47;obtain⟨W,hW⟩: ∃W,w.alloc (.cells #[.slice A0_0 l0_0.length c0_0,.slice A0_1 l0_1.length c0_1] 25)=W:=⟨_,rfl⟩;have q0:=qa (w:=W) (p:=⟨w.heap.size,0,none⟩) (v:= .slice A0_0 l0_0.length c0_0) (by subst hW;go_simp);have q1:=qa (w:=W) (p:=⟨w.heap.size,1,none⟩) (v:= .slice A0_1 l0_1.length c0_1) (by subst hW;go_simp);have HB:Below w.heap.size w W:=by subst hW;exact zB
 have HW:=Below.refl W.heap.size W;have hb:=aM HB;have rg_:= @bcl w;have rd_:= @bdr w;have rG_:= @bcl W;have rD_:= @bdr W;unfold spec_FormatFacts.f at h
 ·go_enter Tryz.func54,Tryz.ntmps54
  go_wp2_with (first|(go_at_call 15;refine(spec_IsValidDatabase.calls ?_ _ _ _ _ _ _ ?_ _ ?_ ?_ ?_ ?_ ?h).mono ?_;(case h=>exact zA);(iterate 4 (first|exact zC|exact zA));rintro e w1 ⟨rfl,hb⟩;replace hb:=aM hb;have HW:Below W.heap.size W w1:=zB;have HB:Below w.heap.size w w1:=zB)|(go_at_call 86;refine(spec_l4Set.calls ?_ _ _ _ _ _ _ _ _ _ ?_ _ ?_ ?_ ?_ ?_ ?_ ?_ ?h).mono ?_;(case h=>exact zA);(iterate 6 (first|exact zC|exact zA));rintro e w1 ⟨rfl,hb⟩;replace hb:=aM hb;have HW:Below W.heap.size W w1:=zB;have HB:Below w.heap.size w w1:=zB))
  (repeat((refine nw (w0:=w) zB ?_;intro W1 HB hb hd;have HW:Below W.heap.size W W1:=zB;(first|(refine Txt.rg (id:=7) [0,1,2,3,4,5,6,7,8,9,10,11,12,13] (by kernel_rfl) (by kernel_rfl) ?_;simp only[List.map_cons,List.map_nil,List.getD_cons_zero,List.getD_cons_succ]));(repeat(first|(refine Txt.off rfl ?_;simp only[Act.put,List.setIfInBounds_toArray,List.set_cons_zero,List.set_cons_succ])|(refine Txt.take rfl rfl ?_;intro K hK;go_big_quiet_op;go_big_quiet_on)|(refine Txt.call rfl rfl Tryz.func53 (by kernel_rfl) rfl (spec_FormatFact.calls ?_ _ _ _ _ _ _ _ ?_ _ ?_ ?_ ?_ ?_ ?h) rfl ?_;(case h=>exact zA);(iterate 4 (first|exact zC|exact zA));rintro e w1 ⟨rfl,hb⟩;replace hb:=aM hb;have HW:Below W.heap.size W w1:=zB;have HB:Below w.heap.size w w1:=zB;refine⟨_,rfl,zS,?_⟩;simp only[Act.put,List.setIfInBounds_toArray,List.set_cons_zero,List.set_cons_succ])));refine Txt.nil ?_);(try go_wp2_with (first|(go_at_call 15;refine(spec_IsValidDatabase.calls ?_ _ _ _ _ _ _ ?_ _ ?_ ?_ ?_ ?_ ?h).mono ?_;(case h=>exact zA);(iterate 4 (first|exact zC|exact zA));rintro e w1 ⟨rfl,hb⟩;replace hb:=aM hb;have HW:Below W.heap.size W w1:=zB;have HB:Below w.heap.size w w1:=zB)|(go_at_call 86;refine(spec_l4Set.calls ?_ _ _ _ _ _ _ _ _ _ ?_ _ ?_ ?_ ?_ ?_ ?_ ?_ ?h).mono ?_;(case h=>exact zA);(iterate 6 (first|exact zC|exact zA));rintro e w1 ⟨rfl,hb⟩;replace hb:=aM hb;have HW:Below W.heap.size W w1:=zB;have HB:Below w.heap.size w w1:=zB)))))
  go_loopg [5,6] k (fun kq v5 v6 w'=> ∃(x5_0:ByteArray) (x6_0:Int),v5= .string x5_0∧v6= .int .i64 x6_0∧spec_FormatFacts.l0 kq l1 x5_0 x6_0 l0_0 l0_1=some r∧Below W.heap.size W w')
  case atStart=>exact⟨_,_,zR,zR,zA,zB⟩
  case round=>
   clear h;obtain⟨x5_0,x6_0,rfl,rfl,h,hb⟩:=hrel;replace hb:=aM hb;have HW:Below W.heap.size W wr:=zB;have HB:Below w.heap.size w wr:=zB
   rcases gk with _|kk0
   exact absurd h (by simp[spec_FormatFacts.l0]);simp only[spec_FormatFacts.l0] at h;replace h:=il h;rcases h with ⟨c1,c1a,h⟩|⟨c1,c1a,h⟩
   replace h:=bs h;obtain⟨t171,B2,h⟩:=h;replace h:=ib h;rcases h with ⟨rfl,h⟩|⟨rfl,h⟩
   replace h:=bs h;obtain⟨t172,B4,h⟩:=h
   rcases kk0 with _|kj5
   exact absurd h (by simp[spec_FormatFacts.j1]);simp only[spec_FormatFacts.j1] at h;replace h:=ib h;rcases h with ⟨rfl,h⟩|⟨rfl,h⟩
   replace h:=ig h;rcases h with ⟨c7,c7a,h⟩|⟨c7,c7a,h⟩
   replace h:=ieN h;rcases h with ⟨c8,c8a,h⟩|⟨c8,c8a,h⟩
   have c8x0:decide (x5_0.size+1≤9223372036854775807)=true:=decide_eq_true (of_eq_true c8a);have c8x1:(9223372036854775807<x5_0.size+1)=False:=eq_false (Nat.not_lt.2 (of_eq_true c8a));replace h:=ie h;rcases h with ⟨c9,c9a,h⟩|⟨c9,c9a,h⟩
   replace h:=il h;rcases h with ⟨c10,c10a,h⟩|⟨c10,c10a,h⟩
   replace h:=ie h;rcases h with ⟨c11,c11a,h⟩|⟨c11,c11a,h⟩
   replace h:=il h;rcases h with ⟨c12,c12a,h⟩|⟨c12,c12a,h⟩
   replace h:=bs h;obtain⟨t175,B13,h⟩:=h;replace h:=ieN h;rcases h with ⟨c14,c14a,h⟩|⟨c14,c14a,h⟩
   have c14x0:decide ((x5_0++(⟨#[32]⟩:ByteArray)).size+t175.size≤9223372036854775807)=true:=decide_eq_true (of_eq_true c14a);have c14x1:(9223372036854775807<(x5_0++(⟨#[32]⟩:ByteArray)).size+t175.size)=False:=eq_false (Nat.not_lt.2 (of_eq_true c14a));have c14y:=c14a;simp only[ByteArray.size_append,(show(⟨#[32]⟩:ByteArray).size=1 from rfl)] at c14y;have c14y0:=decide_eq_true (of_eq_true c14y);have c14y1:=eq_false (Nat.not_lt.2 (of_eq_true c14y));obtain⟨kf,hkf⟩: ∃kf,kf=kj5:=⟨_,rfl⟩;rw[←hkf] at h;obtain⟨ad173,e173,hx173_0⟩:=Kd.at_int hr1 (x6_0:Int) aD aD;have p173:=eq_true (aD:0≤(x6_0:Int));have q173:=eq_true (aD:x6_0<(l1.length:Int))
   cases e173
   replace hx173_0:=qa hx173_0;obtain⟨ad174,A174_1,c174_1,e174,hx174_0,hx174_1,hl174_1,hi174_1⟩:=at_T47 hr0_1 ((rd l1 x6_0):Int) aD aD;have p174:=eq_true (aD:0≤((rd l1 x6_0):Int));have q174:=eq_true (aD:(rd l1 x6_0)<(l0_1.length:Int))
   cases e174
   replace hx174_0:=qa hx174_0;replace hx174_1:=qa hx174_1
   rotate_left
   exact absurd h (by simp);exact absurd h (by simp);exact absurd h (by simp);exact absurd h (by simp);exact absurd h (by simp);exact absurd h (by simp);replace h:=ie h;rcases h with ⟨c15,c15a,h⟩|⟨c15,c15a,h⟩
   replace h:=il h;rcases h with ⟨c16,c16a,h⟩|⟨c16,c16a,h⟩
   replace h:=ie h;rcases h with ⟨c17,c17a,h⟩|⟨c17,c17a,h⟩
   replace h:=il h;rcases h with ⟨c18,c18a,h⟩|⟨c18,c18a,h⟩
   replace h:=bs h;obtain⟨t178,B19,h⟩:=h;replace h:=ieN h;rcases h with ⟨c20,c20a,h⟩|⟨c20,c20a,h⟩
   have c20x0:decide (x5_0.size+t178.size≤9223372036854775807)=true:=decide_eq_true (of_eq_true c20a);have c20x1:(9223372036854775807<x5_0.size+t178.size)=False:=eq_false (Nat.not_lt.2 (of_eq_true c20a));obtain⟨kf,hkf⟩: ∃kf,kf=kj5:=⟨_,rfl⟩;rw[←hkf] at h;obtain⟨ad176,e176,hx176_0⟩:=Kd.at_int hr1 (x6_0:Int) aD aD;have p176:=eq_true (aD:0≤(x6_0:Int));have q176:=eq_true (aD:x6_0<(l1.length:Int))
   cases e176
   replace hx176_0:=qa hx176_0;obtain⟨ad177,A177_1,c177_1,e177,hx177_0,hx177_1,hl177_1,hi177_1⟩:=at_T47 hr0_1 ((rd l1 x6_0):Int) aD aD;have p177:=eq_true (aD:0≤((rd l1 x6_0):Int));have q177:=eq_true (aD:(rd l1 x6_0)<(l0_1.length:Int))
   cases e177
   replace hx177_0:=qa hx177_0;replace hx177_1:=qa hx177_1
   rotate_left
   exact absurd h (by simp);exact absurd h (by simp);exact absurd h (by simp);exact absurd h (by simp);exact absurd h (by simp);obtain rfl:=si h
   rotate_left
   rcases kk0 with _|kj21
   exact absurd h (by simp[spec_FormatFacts.j1]);simp only[spec_FormatFacts.j1] at h;(try replace h:=iff_ h)
   obtain rfl:=si h
   rotate_left
   rcases kk0 with _|kj22
   exact absurd h (by simp[spec_FormatFacts.j1]);simp only[spec_FormatFacts.j1] at h;(try replace h:=iff_ h)
   obtain rfl:=si h
   rotate_left
   all_goals (go_wp2_with (first|(go_at_call 15;refine(spec_IsValidDatabase.calls ?_ _ _ _ _ _ _ ?_ _ ?_ ?_ ?_ ?_ ?h).mono ?_;(case h=>exact zA);(iterate 4 (first|exact zC|exact zA));rintro e w1 ⟨rfl,hb⟩;replace hb:=aM hb;have HW:Below W.heap.size W w1:=zB;have HB:Below w.heap.size w w1:=zB)|(go_at_call 86;refine(spec_l4Set.calls ?_ _ _ _ _ _ _ _ _ _ ?_ _ ?_ ?_ ?_ ?_ ?_ ?_ ?h).mono ?_;(case h=>exact zA);(iterate 6 (first|exact zC|exact zA));rintro e w1 ⟨rfl,hb⟩;replace hb:=aM hb;have HW:Below W.heap.size W w1:=zB;have HB:Below w.heap.size w w1:=zB));(repeat((refine nw (w0:=w) zB ?_;intro W1 HB hb hd;have HW:Below W.heap.size W W1:=zB;(first|(refine Txt.rg (id:=7) [0,1,2,3,4,5,6,7,8,9,10,11,12,13] (by kernel_rfl) (by kernel_rfl) ?_;simp only[List.map_cons,List.map_nil,List.getD_cons_zero,List.getD_cons_succ]));(repeat(first|(refine Txt.off rfl ?_;simp only[Act.put,List.setIfInBounds_toArray,List.set_cons_zero,List.set_cons_succ])|(refine Txt.take rfl rfl ?_;intro K hK;go_big_quiet_op;go_big_quiet_on)|(refine Txt.call rfl rfl Tryz.func53 (by kernel_rfl) rfl (spec_FormatFact.calls ?_ _ _ _ _ _ _ _ ?_ _ ?_ ?_ ?_ ?_ ?h) rfl ?_;(case h=>exact zA);(iterate 4 (first|exact zC|exact zA));rintro e w1 ⟨rfl,hb⟩;replace hb:=aM hb;have HW:Below W.heap.size W w1:=zB;have HB:Below w.heap.size w w1:=zB;refine⟨_,rfl,zS,?_⟩;simp only[Act.put,List.setIfInBounds_toArray,List.set_cons_zero,List.set_cons_succ])));refine Txt.nil ?_);(try go_wp2_with (first|(go_at_call 15;refine(spec_IsValidDatabase.calls ?_ _ _ _ _ _ _ ?_ _ ?_ ?_ ?_ ?_ ?h).mono ?_;(case h=>exact zA);(iterate 4 (first|exact zC|exact zA));rintro e w1 ⟨rfl,hb⟩;replace hb:=aM hb;have HW:Below W.heap.size W w1:=zB;have HB:Below w.heap.size w w1:=zB)|(go_at_call 86;refine(spec_l4Set.calls ?_ _ _ _ _ _ _ _ _ _ ?_ _ ?_ ?_ ?_ ?_ ?_ ?_ ?h).mono ?_;(case h=>exact zA);(iterate 6 (first|exact zC|exact zA));rintro e w1 ⟨rfl,hb⟩;replace hb:=aM hb;have HW:Below W.heap.size W w1:=zB;have HB:Below w.heap.size w w1:=zB)))));first|(go_ret;exact zE zB)|(go_roundg kf;(case measure=>omega);(case rel=>exact⟨_,_,zR,zR,zA,zB⟩)))

/-! ### spec_l6All: function 55 -/
def spec_l6All.l0:Nat→List Int→List (S42)→List (S47)→Option (List Int)
 |0,_,_,_=>none
 |k+1,x3,x180000,x180001=>if(x3.length:Int)<(x180001.length:Int) then(if x3.length<17592186044416 then(spec_l6All.l0 k (x3++ [(x3.length:Int)]) x180000 x180001) else(none)) else(some x3)
def spec_l6All.f (k:Nat) (l0_0:List (S42)) (l0_1:List (S47)):Option (List Int):=spec_l6All.l0 k (([] :List Int)) l0_0 l0_1
set_option maxHeartbeats 8000000 in
set_option maxRecDepth 100000 in
theorem spec_l6All.calls (k:Nat) (A0_0:Option Addr) (c0_0:Nat) (l0_0:List (S42)) (A0_1:Option Addr) (c0_1:Nat) (l0_1:List (S47)) (r:List Int) (w:World) (hr0_0:Kd.C k42 w A0_0 l0_0.length l0_0) (hc0_0:l0_0.length≤c0_0) (hr0_1:Kd.C k47 w A0_1 l0_1.length l0_1) (hc0_1:l0_1.length≤c0_1) (h:spec_l6All.f k l0_0 l0_1=some r):
  Calls Tryz.prog 55 #[.agg #[.slice A0_0 l0_0.length c0_0,.slice A0_1 l0_1.length c0_1]] w fun e w'=> ∃v0_:Value,e= .returned (v0_)∧Kd.R (Kd.int .i64) 3 w' w.heap.size (fun _=>True) v0_ r∧Below w.heap.size w w':=by
 have hu25:=Tryz.underlying25;have HR0_0:=aM hr0_0;have HC0_0:=aM hc0_0;clear hr0_0 hc0_0;have HR0_1:=aM hr0_1;have HC0_1:=aM hc0_1;clear hr0_1 hc0_1;have HB:=aM (Below.refl w.heap.size w);have H:(spec_l6All.l0 k (([] :List Int)) l0_0 l0_1)=some r:=h;clear h;obtain⟨y180,hy180⟩: ∃y_:List Int,y_=(([] :List Int)):=⟨_,rfl⟩
 first|replace H:=bY hy180 H|rw[←hy180] at H
 have Ny180:=aM hy180;clear hy180;have H':=aM H;clear H
 go_enter Tryz.func55,Tryz.ntmps55
 go_wp2_with (first|((with_reducible refine gate_dst (N:=1) rfl ?_);refine bE 1 (cs:=#[.slice A0_0 l0_0.length c0_0,.slice A0_1 l0_1.length c0_1]) (t:=25) ?_;intro gb179 hg w2 hbox hb;have BK179:=aM (hbox);have GW179:=aM ((by rw[hg];exact(below_size aB):w.heap.size≤gb179));have GE179:=aM ((by rw[hg];exact(below_size aB):w.heap.size≤gb179));replace HB:=aM (below_step aB hb);clear hb hbox hg)|((with_reducible refine gate_dst (N:=4) rfl ?_);refine Kd.R_lit (Kd.int .i64) _ 3 ?hg (N:=4) ?hd (xs:=([] :List Int)) (inner:= []) (ok:=fun _=>True) (okp:=fun _=>True) ?hr ?hp (fun _ hk=>hk) trivial (Below.refl _ _) (Nat.le_refl _) (by simp) ?_;(case hd=>rfl);(case hg=>rfl);(case hr=>first|(go_simp;done)|(go_simp;rfl));(case hp=>exact(Reps.none _ _));intro v181 w3 ho4 hb hg_ hnew_;clear hg_ hnew_;(first|rw[←Ny180.out] at ho4|(simp only[Int.reduceToNat] at ho4;rw[←Ny180.out] at ho4));have HO182:=aM (Kd.R_lower ho4 (below_size aG));replace BK179:=aM (kB gb179 #[.slice A0_0 l0_0.length c0_0,.slice A0_1 l0_1.length c0_1] 25 hb);replace HB:=aM (below_step aG hb);clear hb ho4))
 go_loopg [3] k (fun kq v3 w'=> ∃(x3_1:List Int),Aside0 (spec_l6All.l0 kq x3_1 l0_0 l0_1=some r)∧Aside0 (kq≤k)∧Aside0 (Kd.R (Kd.int .i64) 3 w' w.heap.size (fun _=>True) v3 x3_1)∧Aside0 (w'.heap[gb179]? =some (.cells #[(.slice A0_0 l0_0.length c0_0),(.slice A0_1 l0_1.length c0_1)] 25 (0,0)))∧Aside0 (Below w.heap.size w w'))
 case atStart=>exact⟨(y180),H',⟨Nat.le_refl _⟩,⟨aR HO182⟩,⟨aK⟩,⟨aG⟩⟩
 case round=>
  clear H'
  try clear p2
  obtain⟨x3_1,HA,HK1,HO_3,BK179,HB⟩:=hrel
  cases gk with
  |zero=>exact absurd HA.out (by simp[spec_l6All.l0])
  |succ k1=>
   have H:=HA.out;clear HA;simp only[spec_l6All.l0] at H
   by_cases c5:(x3_1.length:Int)<(l0_1.length:Int)
   ·rw[if_pos c5] at H;have c5b0:decide ((x3_1.length:Int)<(l0_1.length:Int))=true:=decide_eq_true c5;have c5b1:decide (x3_1.length<l0_1.length)=true:=decide_eq_true (Int.ofNat_lt.mp c5);clear c5
    by_cases c6:x3_1.length<17592186044416
    ·rw[if_pos c6] at H;have LMc6:=aM c6;clear c6;obtain⟨y183,hy183⟩: ∃y_:List Int,y_=(x3_1++ [(x3_1.length:Int)]):=⟨_,rfl⟩
     first|replace H:=bY hy183 H|rw[←hy183] at H
     have Ny183:=aM hy183;clear hy183;have H':=aM H;clear H;obtain⟨Ao7,co7,eo7⟩:=Kd.R_slice HO_3.out;subst eo7;have hcz8_0:wr.cell? ⟨gb179,0,none⟩=some (.slice A0_0 l0_0.length c0_0):=(blk_cell BK179.out 0).trans rfl;have hcz8_1:wr.cell? ⟨gb179,1,none⟩=some (.slice A0_1 l0_1.length c0_1):=(blk_cell BK179.out 1).trans rfl;have hfz8_0:=blk_frozen BK179.out 0;have hfz8_1:=blk_frozen BK179.out 1
     go_wp2_with (first|((with_reducible refine gate_builtin (b:= .append) (xs:=#[.tmp 11,.tmp 14]) rfl ?_);at_builtin;refine Kd.R_append (Kd.int .i64) (w0:=w) w.heap.size rfl (.tmp 11) (.tmp 14) 45 3 (.int .i64 0) 8 rfl Tryz.underlying45 info3 rfl (by decide) (by omega) (.slice Ao7 x3_1.length co7) x3_1 (x3_1.length:Int) [.int .i64 (x3_1.length:Int)] (fun _=>True) (fun _=>False) rfl rfl ?aP (fun _ hk=>hk.elim) ?aF ?aO ?aB ?aS ?aL ?_;(case aP=>exact rfl);(case aB=>exact aG);(case aF=>exact(fun _ _=>trivial));(case aO=>exact(aR HO_3));(case aS=>exact(below_size aG));(case aL=>have:=LMc6.out;omega);intro v184 w9 ho hb hg hat;rw[←Ny183.out] at ho;have HO185:=aM (ho);replace BK179:=aM (blk_grown (g:=gb179) aK hg (Kd.R_ne HO_3.out BK179.out (by decide)));replace HB:=aM (hb);clear HO_3;clear ho hb hg hat))
     go_roundg k1
     case measure=>have:=HK1.out;omega
     case rel=>exact⟨(y183),H',⟨by have:=HK1.out;omega⟩,⟨aR HO185⟩,⟨aK⟩,⟨aG⟩⟩
    ·rw[if_neg c6] at H;exact absurd H (by simp)
   ·rw[if_neg c5] at H;have c5b0:decide ((x3_1.length:Int)<(l0_1.length:Int))=false:=decide_eq_false c5;have c5b1:decide (x3_1.length<l0_1.length)=false:=decide_eq_false (fun h=>c5 (Int.ofNat_lt.mpr h));clear c5;obtain rfl:=Option.some.inj H;obtain⟨Ao10,co10,eo10⟩:=Kd.R_slice HO_3.out;subst eo10;have hcz11_0:wr.cell? ⟨gb179,0,none⟩=some (.slice A0_0 l0_0.length c0_0):=(blk_cell BK179.out 0).trans rfl;have hcz11_1:wr.cell? ⟨gb179,1,none⟩=some (.slice A0_1 l0_1.length c0_1):=(blk_cell BK179.out 1).trans rfl;have hfz11_0:=blk_frozen BK179.out 0;have hfz11_1:=blk_frozen BK179.out 1
    go_wp2
    go_ret
    exact⟨_,aE,aR HO_3,aG⟩

/-! ### spec_FormatDatabase: function 21 -/
def spec_FormatDatabase.l0:Nat→ByteArray→Int→List (S42)→List (S47)→Option (ByteArray)
 |0,_,_,_,_=>none
 |k+1,x3,x4,x187000,x187001=>if x4<(x187000.length:Int) then(if x4>0 then(if x3.size+1≤9223372036854775807 then(if 0≤x4 then((spec_FormatRelation.f k ((rd_T42 x187000 x4).f0) ((rd_T42 x187000 x4).f1) ((rd_T42 x187000 x4).f2)).bind fun t189=>(if(x3++(⟨#[32]⟩:ByteArray)).size+t189.size≤9223372036854775807 then(spec_FormatDatabase.l0 k ((x3++(⟨#[32]⟩:ByteArray))++t189) (wrap64 (x4+1)) x187000 x187001) else(none))) else(none)) else(none)) else(if 0≤x4 then((spec_FormatRelation.f k ((rd_T42 x187000 x4).f0) ((rd_T42 x187000 x4).f1) ((rd_T42 x187000 x4).f2)).bind fun t191=>(if x3.size+t191.size≤9223372036854775807 then(spec_FormatDatabase.l0 k (x3++t191) (wrap64 (x4+1)) x187000 x187001) else(none))) else(none))) else(if x3.size+1≤9223372036854775807 then((spec_l6All.f k x187000 x187001).bind fun t192=>((spec_FormatFacts.f k x187000 x187001 t192).bind fun t195=>(if(x3++(⟨#[58]⟩:ByteArray)).size+t195.size≤9223372036854775807 then(some ((x3++(⟨#[58]⟩:ByteArray))++t195)) else(none)))) else(none))
def spec_FormatDatabase.f (k:Nat) (l0_0:List (S42)) (l0_1:List (S47)):Option (ByteArray):=(spec_IsValidDatabase.f k l0_0 l0_1).bind fun t187=>(if t187=true then(spec_FormatDatabase.l0 k (⟨#[]⟩:ByteArray) 0 l0_0 l0_1) else(some (⟨#[]⟩:ByteArray)))
set_option maxHeartbeats 8000000 in
set_option maxRecDepth 100000 in
theorem spec_FormatDatabase.calls (k:Nat) (A0_0:Option Addr) (c0_0:Nat) (l0_0:List (S42)) (A0_1:Option Addr) (c0_1:Nat) (l0_1:List (S47)) (r:ByteArray) (w:World) (hr0_0:Kd.C k42 w A0_0 l0_0.length l0_0) (hc0_0:l0_0.length≤c0_0) (hr0_1:Kd.C k47 w A0_1 l0_1.length l0_1) (hc0_1:l0_1.length≤c0_1) (h:spec_FormatDatabase.f k l0_0 l0_1=some r):
  Calls Tryz.prog 21 #[.agg #[.slice A0_0 l0_0.length c0_0,.slice A0_1 l0_1.length c0_1]] w fun e w'=>e= .returned (.string r)∧Below w.heap.size w w':=by
 have hu25:=Tryz.underlying25;have hu42:=Tryz.underlying42;obtain⟨W,hW⟩: ∃W,w.alloc (.cells #[.slice A0_0 l0_0.length c0_0,.slice A0_1 l0_1.length c0_1] 25)=W:=⟨_,rfl⟩;have q0:=qa (w:=W) (p:=⟨w.heap.size,0,none⟩) (v:= .slice A0_0 l0_0.length c0_0) (by subst hW;go_simp);have q1:=qa (w:=W) (p:=⟨w.heap.size,1,none⟩) (v:= .slice A0_1 l0_1.length c0_1) (by subst hW;go_simp);have HB:Below w.heap.size w W:=by subst hW;exact zB
 have HW:=Below.refl W.heap.size W;have hb:=aM HB;have rg_:= @bcl w;have rd_:= @bdr w;have rG_:= @bcl W;have rD_:= @bdr W;unfold spec_FormatDatabase.f at h;replace h:=bs h;obtain⟨t187,B0,h⟩:=h;replace h:=ib h;rcases h with ⟨rfl,h⟩|⟨rfl,h⟩
 ·go_enter Tryz.func21,Tryz.ntmps21
  go_wp2_with (first|(go_at_call 15;refine(spec_IsValidDatabase.calls ?_ _ _ _ _ _ _ ?_ _ ?_ ?_ ?_ ?_ ?h).mono ?_;(case h=>exact zA);(iterate 4 (first|exact zC|exact zA));rintro e w1 ⟨rfl,hb⟩;replace hb:=aM hb;have HW:Below W.heap.size W w1:=zB;have HB:Below w.heap.size w w1:=zB)|(go_at_call 51;refine(spec_FormatRelation.calls ?_ _ _ _ ?_ _ ?h).mono ?_;(case h=>exact zA);rintro e w1 ⟨rfl,hb⟩;replace hb:=aM hb;have HW:Below W.heap.size W w1:=zB;have HB:Below w.heap.size w w1:=zB))
  (repeat((refine nw (w0:=w) zB ?_;intro W1 HB hb hd;have HW:Below W.heap.size W W1:=zB;(first|(refine Txt.rg (id:=10) [0,1,2,3,4,5,6,7] (by kernel_rfl) (by kernel_rfl) ?_;simp only[List.map_cons,List.map_nil,List.getD_cons_zero,List.getD_cons_succ]));(repeat(first|(refine Txt.off rfl ?_;simp only[Act.put,List.setIfInBounds_toArray,List.set_cons_zero,List.set_cons_succ])|(refine Txt.take rfl rfl ?_;intro K hK;go_big_quiet_op;go_big_quiet_on)|(refine Txt.call rfl rfl Tryz.func55 (by kernel_rfl) rfl (spec_l6All.calls ?_ _ _ _ _ _ _ ?_ _ ?_ ?_ ?_ ?_ ?h) rfl ?_;(case h=>exact zA);(iterate 4 (first|exact zC|exact zA));rintro e w1 ⟨v0,rfl,ho0,hb⟩;obtain⟨A0,c0,rfl,hc0,hC0⟩:=Kd.R_reads ho0;replace hb:=aM hb;have HW:Below W.heap.size W w1:=zB;have HB:Below w.heap.size w w1:=zB;refine⟨_,rfl,zS,?_⟩;simp only[Act.put,List.setIfInBounds_toArray,List.set_cons_zero,List.set_cons_succ])|(refine Txt.call rfl rfl Tryz.func54 (by kernel_rfl) rfl (spec_FormatFacts.calls ?_ _ _ _ _ _ _ _ _ _ ?_ _ ?_ ?_ ?_ ?_ ?_ ?_ ?h) rfl ?_;(case h=>exact zA);(iterate 6 (first|exact zC|exact zA));rintro e w1 ⟨rfl,hb⟩;replace hb:=aM hb;have HW:Below W.heap.size W w1:=zB;have HB:Below w.heap.size w w1:=zB;refine⟨_,rfl,zS,?_⟩;simp only[Act.put,List.setIfInBounds_toArray,List.set_cons_zero,List.set_cons_succ])));refine Txt.nil ?_);(try go_wp2_with (first|(go_at_call 15;refine(spec_IsValidDatabase.calls ?_ _ _ _ _ _ _ ?_ _ ?_ ?_ ?_ ?_ ?h).mono ?_;(case h=>exact zA);(iterate 4 (first|exact zC|exact zA));rintro e w1 ⟨rfl,hb⟩;replace hb:=aM hb;have HW:Below W.heap.size W w1:=zB;have HB:Below w.heap.size w w1:=zB)|(go_at_call 51;refine(spec_FormatRelation.calls ?_ _ _ _ ?_ _ ?h).mono ?_;(case h=>exact zA);rintro e w1 ⟨rfl,hb⟩;replace hb:=aM hb;have HW:Below W.heap.size W w1:=zB;have HB:Below w.heap.size w w1:=zB)))))
  go_loopg [3,4] k (fun kq v3 v4 w'=> ∃(x3_2:ByteArray) (x4_2:Int),v3= .string x3_2∧v4= .int .i64 x4_2∧spec_FormatDatabase.l0 kq x3_2 x4_2 l0_0 l0_1=some r∧Below W.heap.size W w')
  case atStart=>exact⟨_,_,zR,zR,zA,zB⟩
  case round=>
   clear h;obtain⟨x3_2,x4_2,rfl,rfl,h,hb⟩:=hrel;replace hb:=aM hb;have HW:Below W.heap.size W wr:=zB;have HB:Below w.heap.size w wr:=zB
   rcases gk with _|kk2
   exact absurd h (by simp[spec_FormatDatabase.l0]);simp only[spec_FormatDatabase.l0] at h;replace h:=il h;rcases h with ⟨c3,c3a,h⟩|⟨c3,c3a,h⟩
   replace h:=ig h;rcases h with ⟨c4,c4a,h⟩|⟨c4,c4a,h⟩
   replace h:=ieN h;rcases h with ⟨c5,c5a,h⟩|⟨c5,c5a,h⟩
   have c5x0:decide (x3_2.size+1≤9223372036854775807)=true:=decide_eq_true (of_eq_true c5a);have c5x1:(9223372036854775807<x3_2.size+1)=False:=eq_false (Nat.not_lt.2 (of_eq_true c5a));replace h:=ie h;rcases h with ⟨c6,c6a,h⟩|⟨c6,c6a,h⟩
   replace h:=bs h;obtain⟨t189,B7,h⟩:=h;replace h:=ieN h;rcases h with ⟨c8,c8a,h⟩|⟨c8,c8a,h⟩
   have c8x0:decide ((x3_2++(⟨#[32]⟩:ByteArray)).size+t189.size≤9223372036854775807)=true:=decide_eq_true (of_eq_true c8a);have c8x1:(9223372036854775807<(x3_2++(⟨#[32]⟩:ByteArray)).size+t189.size)=False:=eq_false (Nat.not_lt.2 (of_eq_true c8a));have c8y:=c8a;simp only[ByteArray.size_append,(show(⟨#[32]⟩:ByteArray).size=1 from rfl)] at c8y;have c8y0:=decide_eq_true (of_eq_true c8y);have c8y1:=eq_false (Nat.not_lt.2 (of_eq_true c8y));obtain⟨kf,hkf⟩: ∃kf,kf=kk2:=⟨_,rfl⟩;rw[←hkf] at h;obtain⟨ad188,e188,hx188_0,hx188_1,hx188_2⟩:=at_T42 hr0_0 (x4_2:Int) aD aD;have p188:=eq_true (aD:0≤(x4_2:Int));have q188:=eq_true (aD:x4_2<(l0_0.length:Int))
   cases e188
   replace hx188_0:=qa hx188_0;replace hx188_1:=qa hx188_1;replace hx188_2:=qa hx188_2
   rotate_left
   exact absurd h (by simp);exact absurd h (by simp);exact absurd h (by simp);replace h:=ie h;rcases h with ⟨c9,c9a,h⟩|⟨c9,c9a,h⟩
   replace h:=bs h;obtain⟨t191,B10,h⟩:=h;replace h:=ieN h;rcases h with ⟨c11,c11a,h⟩|⟨c11,c11a,h⟩
   have c11x0:decide (x3_2.size+t191.size≤9223372036854775807)=true:=decide_eq_true (of_eq_true c11a);have c11x1:(9223372036854775807<x3_2.size+t191.size)=False:=eq_false (Nat.not_lt.2 (of_eq_true c11a));obtain⟨kf,hkf⟩: ∃kf,kf=kk2:=⟨_,rfl⟩;rw[←hkf] at h;obtain⟨ad190,e190,hx190_0,hx190_1,hx190_2⟩:=at_T42 hr0_0 (x4_2:Int) aD aD;have p190:=eq_true (aD:0≤(x4_2:Int));have q190:=eq_true (aD:x4_2<(l0_0.length:Int))
   cases e190
   replace hx190_0:=qa hx190_0;replace hx190_1:=qa hx190_1;replace hx190_2:=qa hx190_2
   rotate_left
   exact absurd h (by simp);exact absurd h (by simp);replace h:=ieN h;rcases h with ⟨c12,c12a,h⟩|⟨c12,c12a,h⟩
   have c12x0:decide (x3_2.size+1≤9223372036854775807)=true:=decide_eq_true (of_eq_true c12a);have c12x1:(9223372036854775807<x3_2.size+1)=False:=eq_false (Nat.not_lt.2 (of_eq_true c12a));replace h:=bs h;obtain⟨t192,B13,h⟩:=h;replace h:=bs h;obtain⟨t195,B14,h⟩:=h;replace h:=ieN h;rcases h with ⟨c15,c15a,h⟩|⟨c15,c15a,h⟩
   have c15x0:decide ((x3_2++(⟨#[58]⟩:ByteArray)).size+t195.size≤9223372036854775807)=true:=decide_eq_true (of_eq_true c15a);have c15x1:(9223372036854775807<(x3_2++(⟨#[58]⟩:ByteArray)).size+t195.size)=False:=eq_false (Nat.not_lt.2 (of_eq_true c15a));have c15y:=c15a;simp only[ByteArray.size_append,(show(⟨#[58]⟩:ByteArray).size=1 from rfl)] at c15y;have c15y0:=decide_eq_true (of_eq_true c15y);have c15y1:=eq_false (Nat.not_lt.2 (of_eq_true c15y));obtain rfl:=si h
   rotate_left
   exact absurd h (by simp);exact absurd h (by simp)
   all_goals (go_wp2_with (first|(go_at_call 15;refine(spec_IsValidDatabase.calls ?_ _ _ _ _ _ _ ?_ _ ?_ ?_ ?_ ?_ ?h).mono ?_;(case h=>exact zA);(iterate 4 (first|exact zC|exact zA));rintro e w1 ⟨rfl,hb⟩;replace hb:=aM hb;have HW:Below W.heap.size W w1:=zB;have HB:Below w.heap.size w w1:=zB)|(go_at_call 51;refine(spec_FormatRelation.calls ?_ _ _ _ ?_ _ ?h).mono ?_;(case h=>exact zA);rintro e w1 ⟨rfl,hb⟩;replace hb:=aM hb;have HW:Below W.heap.size W w1:=zB;have HB:Below w.heap.size w w1:=zB));(repeat((refine nw (w0:=w) zB ?_;intro W1 HB hb hd;have HW:Below W.heap.size W W1:=zB;(first|(refine Txt.rg (id:=10) [0,1,2,3,4,5,6,7] (by kernel_rfl) (by kernel_rfl) ?_;simp only[List.map_cons,List.map_nil,List.getD_cons_zero,List.getD_cons_succ]));(repeat(first|(refine Txt.off rfl ?_;simp only[Act.put,List.setIfInBounds_toArray,List.set_cons_zero,List.set_cons_succ])|(refine Txt.take rfl rfl ?_;intro K hK;go_big_quiet_op;go_big_quiet_on)|(refine Txt.call rfl rfl Tryz.func55 (by kernel_rfl) rfl (spec_l6All.calls ?_ _ _ _ _ _ _ ?_ _ ?_ ?_ ?_ ?_ ?h) rfl ?_;(case h=>exact zA);(iterate 4 (first|exact zC|exact zA));rintro e w1 ⟨v0,rfl,ho0,hb⟩;obtain⟨A0,c0,rfl,hc0,hC0⟩:=Kd.R_reads ho0;replace hb:=aM hb;have HW:Below W.heap.size W w1:=zB;have HB:Below w.heap.size w w1:=zB;refine⟨_,rfl,zS,?_⟩;simp only[Act.put,List.setIfInBounds_toArray,List.set_cons_zero,List.set_cons_succ])|(refine Txt.call rfl rfl Tryz.func54 (by kernel_rfl) rfl (spec_FormatFacts.calls ?_ _ _ _ _ _ _ _ _ _ ?_ _ ?_ ?_ ?_ ?_ ?_ ?_ ?h) rfl ?_;(case h=>exact zA);(iterate 6 (first|exact zC|exact zA));rintro e w1 ⟨rfl,hb⟩;replace hb:=aM hb;have HW:Below W.heap.size W w1:=zB;have HB:Below w.heap.size w w1:=zB;refine⟨_,rfl,zS,?_⟩;simp only[Act.put,List.setIfInBounds_toArray,List.set_cons_zero,List.set_cons_succ])));refine Txt.nil ?_);(try go_wp2_with (first|(go_at_call 15;refine(spec_IsValidDatabase.calls ?_ _ _ _ _ _ _ ?_ _ ?_ ?_ ?_ ?_ ?h).mono ?_;(case h=>exact zA);(iterate 4 (first|exact zC|exact zA));rintro e w1 ⟨rfl,hb⟩;replace hb:=aM hb;have HW:Below W.heap.size W w1:=zB;have HB:Below w.heap.size w w1:=zB)|(go_at_call 51;refine(spec_FormatRelation.calls ?_ _ _ _ ?_ _ ?h).mono ?_;(case h=>exact zA);rintro e w1 ⟨rfl,hb⟩;replace hb:=aM hb;have HW:Below W.heap.size W w1:=zB;have HB:Below w.heap.size w w1:=zB)))));first|(go_ret;exact zE zB)|(go_roundg kf;(case measure=>omega);(case rel=>exact⟨_,_,zR,zR,zA,zB⟩)))
 obtain rfl:=si h
 rotate_left
 all_goals (go_enter Tryz.func21,Tryz.ntmps21;go_wp2_with (first|(go_at_call 15;refine(spec_IsValidDatabase.calls ?_ _ _ _ _ _ _ ?_ _ ?_ ?_ ?_ ?_ ?h).mono ?_;(case h=>exact zA);(iterate 4 (first|exact zC|exact zA));rintro e w1 ⟨rfl,hb⟩;replace hb:=aM hb;have HW:Below W.heap.size W w1:=zB;have HB:Below w.heap.size w w1:=zB)|(go_at_call 51;refine(spec_FormatRelation.calls ?_ _ _ _ ?_ _ ?h).mono ?_;(case h=>exact zA);rintro e w1 ⟨rfl,hb⟩;replace hb:=aM hb;have HW:Below W.heap.size W w1:=zB;have HB:Below w.heap.size w w1:=zB));(repeat((refine nw (w0:=w) zB ?_;intro W1 HB hb hd;have HW:Below W.heap.size W W1:=zB;(first|(refine Txt.rg (id:=10) [0,1,2,3,4,5,6,7] (by kernel_rfl) (by kernel_rfl) ?_;simp only[List.map_cons,List.map_nil,List.getD_cons_zero,List.getD_cons_succ]));(repeat(first|(refine Txt.off rfl ?_;simp only[Act.put,List.setIfInBounds_toArray,List.set_cons_zero,List.set_cons_succ])|(refine Txt.take rfl rfl ?_;intro K hK;go_big_quiet_op;go_big_quiet_on)|(refine Txt.call rfl rfl Tryz.func55 (by kernel_rfl) rfl (spec_l6All.calls ?_ _ _ _ _ _ _ ?_ _ ?_ ?_ ?_ ?_ ?h) rfl ?_;(case h=>exact zA);(iterate 4 (first|exact zC|exact zA));rintro e w1 ⟨v0,rfl,ho0,hb⟩;obtain⟨A0,c0,rfl,hc0,hC0⟩:=Kd.R_reads ho0;replace hb:=aM hb;have HW:Below W.heap.size W w1:=zB;have HB:Below w.heap.size w w1:=zB;refine⟨_,rfl,zS,?_⟩;simp only[Act.put,List.setIfInBounds_toArray,List.set_cons_zero,List.set_cons_succ])|(refine Txt.call rfl rfl Tryz.func54 (by kernel_rfl) rfl (spec_FormatFacts.calls ?_ _ _ _ _ _ _ _ _ _ ?_ _ ?_ ?_ ?_ ?_ ?_ ?_ ?h) rfl ?_;(case h=>exact zA);(iterate 6 (first|exact zC|exact zA));rintro e w1 ⟨rfl,hb⟩;replace hb:=aM hb;have HW:Below W.heap.size W w1:=zB;have HB:Below w.heap.size w w1:=zB;refine⟨_,rfl,zS,?_⟩;simp only[Act.put,List.setIfInBounds_toArray,List.set_cons_zero,List.set_cons_succ])));refine Txt.nil ?_);(try go_wp2_with (first|(go_at_call 15;refine(spec_IsValidDatabase.calls ?_ _ _ _ _ _ _ ?_ _ ?_ ?_ ?_ ?_ ?h).mono ?_;(case h=>exact zA);(iterate 4 (first|exact zC|exact zA));rintro e w1 ⟨rfl,hb⟩;replace hb:=aM hb;have HW:Below W.heap.size W w1:=zB;have HB:Below w.heap.size w w1:=zB)|(go_at_call 51;refine(spec_FormatRelation.calls ?_ _ _ _ ?_ _ ?h).mono ?_;(case h=>exact zA);rintro e w1 ⟨rfl,hb⟩;replace hb:=aM hb;have HW:Below W.heap.size W w1:=zB;have HB:Below w.heap.size w w1:=zB)))));go_ret;exact zE zB)

end Go.Proofs.YtckpikfbhlhhjaaGreatDoor.PFnDatabaseFormat
namespace Go.Proofs.YtckpikfbhlhhjaaGreatDoor.PFnDatabaseFormat
open Go.RowKit Go.Proofs.YtckpikfbhlhhjaaGreatDoorW.PrintWords Go.Proofs.YtckpikfbhlhhjaaGreatDoorW.PrintLast Go.Proofs.YtckpikfbhlhhjaaGreatDoorW.PrintMore
attribute [local go_sem] max2_int min2_int max_two min_two max_three min_three max_four min_four
set_option linter.unusedVariables false
set_option linter.unusedSimpArgs false

/-! ### spec_FactIndex: function 113 -/
def spec_FactIndex.l0:Nat→Int→List (S42)→List (S47)→Int→List Int→Option (Int)
 |0,_,_,_,_,_=>none
 |k+1,x5,x406000,x406001,x407000,x407001=>if x5<(x406001.length:Int) then(if 0≤x5 then((spec_CompareFacts.f k ((rd_T47 x406001 x5).f0) ((rd_T47 x406001 x5).f1) x407000 x407001).bind fun t408=>(if t408=0 then(some x5) else(spec_FactIndex.l0 k (wrap64 (x5+1)) x406000 x406001 x407000 x407001))) else(none)) else(some (-1))
def spec_FactIndex.f (k:Nat) (l0_0:List (S42)) (l0_1:List (S47)) (a1_0:Int) (l1_1:List Int):Option (Int):=spec_FactIndex.l0 k 0 l0_0 l0_1 a1_0 l1_1
set_option maxHeartbeats 8000000 in
set_option maxRecDepth 100000 in
theorem spec_FactIndex.calls (k:Nat) (A0_0:Option Addr) (c0_0:Nat) (l0_0:List (S42)) (A0_1:Option Addr) (c0_1:Nat) (l0_1:List (S47)) (a1_0:Int) (A1_1:Option Addr) (c1_1:Nat) (l1_1:List Int) (r:Int) (w:World) (hr0_0:Kd.C k42 w A0_0 l0_0.length l0_0) (hc0_0:l0_0.length≤c0_0) (hr0_1:Kd.C k47 w A0_1 l0_1.length l0_1) (hc0_1:l0_1.length≤c0_1) (hr1_1:Kd.C (Kd.int .i64) w A1_1 l1_1.length l1_1) (hc1_1:l1_1.length≤c1_1) (h:spec_FactIndex.f k l0_0 l0_1 a1_0 l1_1=some r):
  Calls Tryz.prog 113 #[.agg #[.slice A0_0 l0_0.length c0_0,.slice A0_1 l0_1.length c0_1],.agg #[.int .i64 a1_0,.slice A1_1 l1_1.length c1_1]] w fun e w'=>e= .returned (.int .i64 r)∧Below w.heap.size w w':=by
 have hu25:=Tryz.underlying25;have hu47:=Tryz.underlying47;obtain⟨W,hW⟩: ∃W,(w.alloc (.cells #[.slice A0_0 l0_0.length c0_0,.slice A0_1 l0_1.length c0_1] 25)).alloc (.cells #[.int .i64 a1_0,.slice A1_1 l1_1.length c1_1] 47)=W:=⟨_,rfl⟩;have q0:=qa (w:=W) (p:=⟨w.heap.size,0,none⟩) (v:= .slice A0_0 l0_0.length c0_0) (by subst hW;go_simp);have q1:=qa (w:=W) (p:=⟨w.heap.size,1,none⟩) (v:= .slice A0_1 l0_1.length c0_1) (by subst hW;go_simp);have q2:=qa (w:=W) (p:=⟨w.heap.size+1,0,none⟩) (v:= .int .i64 a1_0) (by subst hW;go_simp);have q3:=qa (w:=W) (p:=⟨w.heap.size+1,1,none⟩) (v:= .slice A1_1 l1_1.length c1_1) (by subst hW;go_simp);have HB:Below w.heap.size w W:=by subst hW;exact zB
 have HW:=Below.refl W.heap.size W;have hb:=aM HB;have rg_:= @bcl w;have rd_:= @bdr w;have rG_:= @bcl W;have rD_:= @bdr W;unfold spec_FactIndex.f at h
 ·go_enter Tryz.func113,Tryz.ntmps113
  go_wp2
  (repeat((refine nw (w0:=w) zB ?_;intro W1 HB hb hd;have HW:Below W.heap.size W W1:=zB;(first|(refine Txt.rg (id:=4) [0,1,2,3,4,5,6,7] (by kernel_rfl) (by kernel_rfl) ?_;simp only[List.map_cons,List.map_nil,List.getD_cons_zero,List.getD_cons_succ]));(repeat(first|(refine Txt.off rfl ?_;simp only[Act.put,List.setIfInBounds_toArray,List.set_cons_zero,List.set_cons_succ])|(refine Txt.take rfl rfl ?_;intro K hK;go_big_quiet_op;go_big_quiet_on)|(refine Txt.call rfl rfl Tryz.func45 (by kernel_rfl) rfl (spec_CompareFacts.calls ?_ _ _ _ _ _ _ _ _ ?_ _ ?_ ?_ ?_ ?_ ?h) rfl ?_;(case h=>exact zA);(iterate 4 (first|exact zC|exact zA));rintro e w1 ⟨rfl,hb⟩;replace hb:=aM hb;have HW:Below W.heap.size W w1:=zB;have HB:Below w.heap.size w w1:=zB;refine⟨_,rfl,zS,?_⟩;simp only[Act.put,List.setIfInBounds_toArray,List.set_cons_zero,List.set_cons_succ])));refine Txt.nil ?_);(try go_wp2)))
  go_loopg [5] k (fun kq v5 w'=> ∃(x5_0:Int),v5= .int .i64 x5_0∧spec_FactIndex.l0 kq x5_0 l0_0 l0_1 a1_0 l1_1=some r∧Below W.heap.size W w')
  case atStart=>exact⟨_,zR,zA,zB⟩
  case round=>
   clear h;obtain⟨x5_0,rfl,h,hb⟩:=hrel;replace hb:=aM hb;have HW:Below W.heap.size W wr:=zB;have HB:Below w.heap.size w wr:=zB
   rcases gk with _|kk0
   exact absurd h (by simp[spec_FactIndex.l0]);simp only[spec_FactIndex.l0] at h;replace h:=il h;rcases h with ⟨c1,c1a,h⟩|⟨c1,c1a,h⟩
   replace h:=ie h;rcases h with ⟨c2,c2a,h⟩|⟨c2,c2a,h⟩
   replace h:=bs h;obtain⟨t408,B3,h⟩:=h;replace h:=iq h;rcases h with ⟨c4,⟨c4a,c4b⟩,h⟩|⟨c4,⟨c4a,c4b⟩,h⟩
   obtain rfl:=si h;obtain⟨ad407,A407_1,c407_1,e407,hx407_0,hx407_1,hl407_1,hi407_1⟩:=at_T47 hr0_1 (x5_0:Int) aD aD;have p407:=eq_true (aD:0≤(x5_0:Int));have q407:=eq_true (aD:x5_0<(l0_1.length:Int))
   cases e407
   replace hx407_0:=qa hx407_0;replace hx407_1:=qa hx407_1
   rotate_left
   obtain⟨kf,hkf⟩: ∃kf,kf=kk0:=⟨_,rfl⟩;rw[←hkf] at h;obtain⟨ad407,A407_1,c407_1,e407,hx407_0,hx407_1,hl407_1,hi407_1⟩:=at_T47 hr0_1 (x5_0:Int) aD aD;have p407:=eq_true (aD:0≤(x5_0:Int));have q407:=eq_true (aD:x5_0<(l0_1.length:Int))
   cases e407
   replace hx407_0:=qa hx407_0;replace hx407_1:=qa hx407_1
   rotate_left
   exact absurd h (by simp);obtain rfl:=si h
   rotate_left
   all_goals (go_wp2;(repeat((refine nw (w0:=w) zB ?_;intro W1 HB hb hd;have HW:Below W.heap.size W W1:=zB;(first|(refine Txt.rg (id:=4) [0,1,2,3,4,5,6,7] (by kernel_rfl) (by kernel_rfl) ?_;simp only[List.map_cons,List.map_nil,List.getD_cons_zero,List.getD_cons_succ]));(repeat(first|(refine Txt.off rfl ?_;simp only[Act.put,List.setIfInBounds_toArray,List.set_cons_zero,List.set_cons_succ])|(refine Txt.take rfl rfl ?_;intro K hK;go_big_quiet_op;go_big_quiet_on)|(refine Txt.call rfl rfl Tryz.func45 (by kernel_rfl) rfl (spec_CompareFacts.calls ?_ _ _ _ _ _ _ _ _ ?_ _ ?_ ?_ ?_ ?_ ?h) rfl ?_;(case h=>exact zA);(iterate 4 (first|exact zC|exact zA));rintro e w1 ⟨rfl,hb⟩;replace hb:=aM hb;have HW:Below W.heap.size W w1:=zB;have HB:Below w.heap.size w w1:=zB;refine⟨_,rfl,zS,?_⟩;simp only[Act.put,List.setIfInBounds_toArray,List.set_cons_zero,List.set_cons_succ])));refine Txt.nil ?_);(try go_wp2)));first|(go_ret;exact zE zB)|(go_roundg kf;(case measure=>omega);(case rel=>exact⟨_,zR,zA,zB⟩)))

/-! ### spec_ContainsFact: function 99 -/
def spec_ContainsFact.f (k:Nat) (l0_0:List (S42)) (l0_1:List (S47)) (a1_0:Int) (l1_1:List Int):Option (Bool):=(spec_IsValidDatabase.f k l0_0 l0_1).bind fun t411=>(if t411=true then((spec_FactIndex.f k l0_0 l0_1 a1_0 l1_1).bind fun t412=>(some (decide (t412≥0)))) else(some false))
set_option maxHeartbeats 8000000 in
set_option maxRecDepth 100000 in
theorem spec_ContainsFact.calls (k:Nat) (A0_0:Option Addr) (c0_0:Nat) (l0_0:List (S42)) (A0_1:Option Addr) (c0_1:Nat) (l0_1:List (S47)) (a1_0:Int) (A1_1:Option Addr) (c1_1:Nat) (l1_1:List Int) (r:Bool) (w:World) (hr0_0:Kd.C k42 w A0_0 l0_0.length l0_0) (hc0_0:l0_0.length≤c0_0) (hr0_1:Kd.C k47 w A0_1 l0_1.length l0_1) (hc0_1:l0_1.length≤c0_1) (hr1_1:Kd.C (Kd.int .i64) w A1_1 l1_1.length l1_1) (hc1_1:l1_1.length≤c1_1) (h:spec_ContainsFact.f k l0_0 l0_1 a1_0 l1_1=some r):
  Calls Tryz.prog 99 #[.agg #[.slice A0_0 l0_0.length c0_0,.slice A0_1 l0_1.length c0_1],.agg #[.int .i64 a1_0,.slice A1_1 l1_1.length c1_1]] w fun e w'=>e= .returned (.bool r)∧Below w.heap.size w w':=by
 have hu25:=Tryz.underlying25;have hu47:=Tryz.underlying47;obtain⟨W,hW⟩: ∃W,(w.alloc (.cells #[.slice A0_0 l0_0.length c0_0,.slice A0_1 l0_1.length c0_1] 25)).alloc (.cells #[.int .i64 a1_0,.slice A1_1 l1_1.length c1_1] 47)=W:=⟨_,rfl⟩;have q0:=qa (w:=W) (p:=⟨w.heap.size,0,none⟩) (v:= .slice A0_0 l0_0.length c0_0) (by subst hW;go_simp);have q1:=qa (w:=W) (p:=⟨w.heap.size,1,none⟩) (v:= .slice A0_1 l0_1.length c0_1) (by subst hW;go_simp);have q2:=qa (w:=W) (p:=⟨w.heap.size+1,0,none⟩) (v:= .int .i64 a1_0) (by subst hW;go_simp);have q3:=qa (w:=W) (p:=⟨w.heap.size+1,1,none⟩) (v:= .slice A1_1 l1_1.length c1_1) (by subst hW;go_simp);have HB:Below w.heap.size w W:=by subst hW;exact zB
 have HW:=Below.refl W.heap.size W;have hb:=aM HB;unfold spec_ContainsFact.f at h;replace h:=bs h;obtain⟨t411,B0,h⟩:=h;replace h:=ib h;rcases h with ⟨rfl,h⟩|⟨rfl,h⟩
 replace h:=bs h;obtain⟨t412,B2,h⟩:=h;obtain rfl:=si h
 rotate_left
 obtain rfl:=si h
 rotate_left
 all_goals (go_enter Tryz.func99,Tryz.ntmps99;go_wp2_with (first|(go_at_call 15;refine(spec_IsValidDatabase.calls ?_ _ _ _ _ _ _ ?_ _ ?_ ?_ ?_ ?_ ?h).mono ?_;(case h=>exact zA);(iterate 4 (first|exact zC|exact zA));rintro e w1 ⟨rfl,hb⟩;replace hb:=aM hb;have HW:Below W.heap.size W w1:=zB;have HB:Below w.heap.size w w1:=zB)|(go_at_call 113;refine(spec_FactIndex.calls ?_ _ _ _ _ _ _ _ _ _ _ ?_ _ ?_ ?_ ?_ ?_ ?_ ?_ ?h).mono ?_;(case h=>exact zA);(iterate 6 (first|exact zC|exact zA));rintro e w1 ⟨rfl,hb⟩;replace hb:=aM hb;have HW:Below W.heap.size W w1:=zB;have HB:Below w.heap.size w w1:=zB));go_ret;exact zE zB)

end Go.Proofs.YtckpikfbhlhhjaaGreatDoor.PFnDatabaseFormat
