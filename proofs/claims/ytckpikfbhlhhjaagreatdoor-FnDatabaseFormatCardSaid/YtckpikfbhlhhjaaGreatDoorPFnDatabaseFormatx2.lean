import Derived.Test.YtckpikfbhlhhjaaGreatDoorPFnDatabaseFormatx0
namespace Go.Proofs.YtckpikfbhlhhjaaGreatDoor.PFnDatabaseFormat
open Go.RowKit Go.Proofs.YtckpikfbhlhhjaaGreatDoorW.PrintWords Go.Proofs.YtckpikfbhlhhjaaGreatDoorW.PrintLast Go.Proofs.YtckpikfbhlhhjaaGreatDoorW.PrintMore
attribute [local go_sem] max2_int min2_int max_two min_two max_three min_three max_four min_four
set_option linter.unusedVariables false
set_option linter.unusedSimpArgs false

/-! ### spec_l6Cut: function 18 -/
def spec_l6Cut.l0:Nat→ByteArray→Int→List ByteArray→Int→Int→Option (List ByteArray)
 |0,_,_,_,_,_=>none
 |k+1,x0,x1,x5,x6,x7=>if x7<(x0.size:Int) then(if 0≤x7 then(if(bt x0 x7)=x1 then(if 0≤x6 then(if x6≤x7 then(if x7≤(x0.size:Int) then(if x5.length<8796093022208 then(spec_l6Cut.l0 k x0 x1 (x5++ [x0.extract (x6:Int).toNat (x7:Int).toNat]) (wrap64 (x7+1)) (wrap64 (x7+1))) else(none)) else(none)) else(none)) else(none)) else(spec_l6Cut.l0 k x0 x1 x5 x6 (wrap64 (x7+1)))) else(none)) else(if 0≤x6 then(if x6≤(x0.size:Int) then(if x5.length<8796093022208 then(some (x5++ [x0.extract (x6:Int).toNat x0.size])) else(none)) else(none)) else(none))
def spec_l6Cut.f (k:Nat) (a0:ByteArray) (a1:Int):Option (List ByteArray):=spec_l6Cut.l0 k a0 a1 (([] :List ByteArray)) 0 0
set_option maxHeartbeats 8000000 in
set_option maxRecDepth 100000 in
theorem spec_l6Cut.calls (k:Nat) (a0:ByteArray) (a1:Int) (r:List ByteArray) (w:World) (h:spec_l6Cut.f k a0 a1=some r):
  Calls Tryz.prog 18 #[.string a0,.int .u8 a1] w fun e w'=> ∃v0_:Value,e= .returned (v0_)∧Kd.R Kd.string 9 w' w.heap.size (fun _=>True) v0_ r∧Below w.heap.size w w':=by
 have HB:=aM (Below.refl w.heap.size w);have H:(spec_l6Cut.l0 k a0 a1 (([] :List ByteArray)) 0 0)=some r:=h;clear h;obtain⟨y101,hy101⟩: ∃y_:List ByteArray,y_=(([] :List ByteArray)):=⟨_,rfl⟩
 first|replace H:=bY hy101 H|rw[←hy101] at H
 have Ny101:=aM hy101;clear hy101;have H':=aM H;clear H
 go_enter Tryz.func18,Tryz.ntmps18
 go_wp2_with (first|((with_reducible refine gate_dst (N:=8) rfl ?_);refine Kd.R_lit Kd.string _ 9 ?hg (N:=8) ?hd (xs:=([] :List ByteArray)) (inner:= []) (ok:=fun _=>True) (okp:=fun _=>True) ?hr ?hp (fun _ hk=>hk) trivial (Below.refl _ _) (Nat.le_refl _) (by simp) ?_;(case hd=>rfl);(case hg=>rfl);(case hr=>first|(go_simp;done)|(go_simp;rfl));(case hp=>exact(Reps.none _ _));intro v102 w3 ho4 hb hg_ hnew_;clear hg_ hnew_;(first|rw[←Ny101.out] at ho4|(simp only[Int.reduceToNat] at ho4;rw[←Ny101.out] at ho4));have HO103:=aM (Kd.R_lower ho4 (below_size aB));replace HB:=aM (below_step aB hb);clear hb ho4))
 go_loopg [5,6,7] k (fun kq v5 v6 v7 w'=> ∃(x5_1:List ByteArray) (x6_1:Int) (x7_1:Int),v6= .int .i64 x6_1∧v7= .int .i64 x7_1∧Aside0 (spec_l6Cut.l0 kq a0 a1 x5_1 x6_1 x7_1=some r)∧Aside0 (kq≤k)∧Aside0 (Kd.R Kd.string 9 w' w.heap.size (fun _=>True) v5 x5_1)∧Aside0 (Below w.heap.size w w'))
 case atStart=>exact⟨(y101),(0),(0),aX,aX,H',⟨Nat.le_refl _⟩,⟨aR HO103⟩,⟨aB⟩⟩
 case round=>
  clear H'
  try clear c1
  try clear p2
  obtain⟨x5_1,x6_1,x7_1,rfl,rfl,HA,HK1,HO_5,HB⟩:=hrel
  cases gk with
  |zero=>exact absurd HA.out (by simp[spec_l6Cut.l0])
  |succ k1=>
   have H:=HA.out;clear HA;simp only[spec_l6Cut.l0] at H
   by_cases c5:x7_1<(a0.size:Int)
   ·rw[if_pos c5] at H;have c5b0:decide (x7_1<(a0.size:Int))=true:=decide_eq_true c5;clear c5
    by_cases c6:0≤x7_1
    ·rw[if_pos c6] at H;have c6b0:decide (0≤x7_1)=true:=decide_eq_true c6;clear c6
     by_cases c8:(bt a0 x7_1)=a1
     ·rw[if_pos c8] at H;have c8b0:((bt a0 x7_1)==a1)=true:=beq_iff_eq.mpr c8;have c8b1:((bt a0 x7_1) !=a1)=false:=bne_eq_false_iff_eq.mpr c8;clear c8
      by_cases c9:0≤x6_1
      ·rw[if_pos c9] at H;have c9b0:=eq_true c9;have c9b1:decide (0≤x6_1)=true:=decide_eq_true c9;clear c9
       by_cases c10:x6_1≤x7_1
       ·rw[if_pos c10] at H;have c10b0:=eq_true c10;have c10b1:decide (x6_1≤x7_1)=true:=decide_eq_true c10;clear c10
        by_cases c11:x7_1≤(a0.size:Int)
        ·rw[if_pos c11] at H;have c11b0:=eq_true c11;have c11b1:decide (x7_1≤(a0.size:Int))=true:=decide_eq_true c11;clear c11
         by_cases c12:x5_1.length<8796093022208
         ·rw[if_pos c12] at H;have LMc12:=aM c12;clear c12;obtain⟨y104,hy104⟩: ∃y_:List ByteArray,y_=(x5_1++ [a0.extract (x6_1:Int).toNat (x7_1:Int).toNat]):=⟨_,rfl⟩
          first|replace H:=bY hy104 H|rw[←hy104] at H
          have Ny104:=aM hy104;clear hy104;have H':=aM H;clear H;have p7:0≤(x7_1:Int):=aD;have q7:x7_1<(a0.size:Int):=aD;have hx7:=bt_at a0 x7_1;replace p7:=eq_true p7;replace q7:=eq_true q7
          go_wp2_with (first|((with_reducible refine gate_builtin (b:= .append) (xs:=#[.tmp 20,.tmp 25]) rfl ?_);at_builtin;refine Kd.R_append Kd.string (w0:=w) w.heap.size rfl (.tmp 20) (.tmp 25) 39 9 (.string ⟨#[]⟩) 16 rfl Tryz.underlying39 info9 rfl (by decide) (by omega) u5 x5_1 (a0.extract (x6_1:Int).toNat (x7_1:Int).toNat) [.string (a0.extract (x6_1:Int).toNat (x7_1:Int).toNat)] (fun _=>True) (fun _=>False) rfl rfl ?aP (fun _ hk=>hk.elim) ?aF ?aO ?aB ?aS ?aL ?_;(case aP=>exact rfl);(case aB=>exact aB);(case aF=>exact(fun _ _=>trivial));(case aO=>exact(aR HO_5));(case aS=>exact(below_size aB));(case aL=>have:=LMc12.out;omega);intro v105 w13 ho hb hg hat;rw[←Ny104.out] at ho;have HO106:=aM (ho);replace HB:=aM (hb);clear HO_5;clear ho hb hg hat))
          go_roundg k1
          case measure=>have:=HK1.out;omega
          case rel=>exact⟨(y104),(wrap64 (x7_1+1)),(wrap64 (x7_1+1)),aX,aX,H',⟨by have:=HK1.out;omega⟩,⟨aR HO106⟩,⟨aB⟩⟩
         ·rw[if_neg c12] at H;exact absurd H (by simp)
        ·rw[if_neg c11] at H;exact absurd H (by simp)
       ·rw[if_neg c10] at H;exact absurd H (by simp)
      ·rw[if_neg c9] at H;exact absurd H (by simp)
     ·rw[if_neg c8] at H;have c8b0:((bt a0 x7_1)==a1)=false:=beq_eq_false_iff_ne.mpr c8;have c8b1:((bt a0 x7_1) !=a1)=true:=bne_iff_ne.mpr c8;have H':=aM H;clear H;have p7:0≤(x7_1:Int):=aD;have q7:x7_1<(a0.size:Int):=aD;have hx7:=bt_at a0 x7_1;replace p7:=eq_true p7;replace q7:=eq_true q7
      go_wp2
      go_roundg k1
      case measure=>have:=HK1.out;omega
      case rel=>exact⟨(x5_1),(x6_1),(wrap64 (x7_1+1)),aX,aX,H',⟨by have:=HK1.out;omega⟩,⟨aR HO_5⟩,⟨aB⟩⟩
    ·rw[if_neg c6] at H;exact absurd H (by simp)
   ·rw[if_neg c5] at H;have c5b0:decide (x7_1<(a0.size:Int))=false:=decide_eq_false c5;clear c5
    by_cases c14:0≤x6_1
    ·rw[if_pos c14] at H;have c14b0:=eq_true c14;have c14b1:decide (0≤x6_1)=true:=decide_eq_true c14;clear c14
     by_cases c15:x6_1≤(a0.size:Int)
     ·rw[if_pos c15] at H;have c15b0:=eq_true c15;have c15b1:decide (x6_1≤(a0.size:Int))=true:=decide_eq_true c15;clear c15
      by_cases c16:x5_1.length<8796093022208
      ·rw[if_pos c16] at H;have LMc16:=aM c16;clear c16;obtain⟨y107,hy107⟩: ∃y_:List ByteArray,y_=(x5_1++ [a0.extract (x6_1:Int).toNat a0.size]):=⟨_,rfl⟩
       first|replace H:=bY hy107 H|rw[←hy107] at H
       have Ny107:=aM hy107;clear hy107;obtain rfl:=Option.some.inj H
       go_wp2_with (first|((with_reducible refine gate_builtin (b:= .append) (xs:=#[.tmp 29,.tmp 33]) rfl ?_);at_builtin;refine Kd.R_append Kd.string (w0:=w) w.heap.size rfl (.tmp 29) (.tmp 33) 39 9 (.string ⟨#[]⟩) 16 rfl Tryz.underlying39 info9 rfl (by decide) (by omega) u5 x5_1 (a0.extract (x6_1:Int).toNat a0.size) [.string (a0.extract (x6_1:Int).toNat a0.size)] (fun _=>True) (fun _=>False) rfl rfl ?aP (fun _ hk=>hk.elim) ?aF ?aO ?aB ?aS ?aL ?_;(case aP=>exact rfl);(case aB=>exact aB);(case aF=>exact(fun _ _=>trivial));(case aO=>exact(aR HO_5));(case aS=>exact(below_size aB));(case aL=>have:=LMc16.out;omega);intro v108 w17 ho hb hg hat;rw[←Ny107.out] at ho;have HO109:=aM (ho);replace HB:=aM (hb);clear HO_5;clear ho hb hg hat))
       go_ret
       exact⟨_,aE,aR HO109,aB⟩
      ·rw[if_neg c16] at H;exact absurd H (by simp)
     ·rw[if_neg c15] at H;exact absurd H (by simp)
    ·rw[if_neg c14] at H;exact absurd H (by simp)

/-! ### spec_l1In: function 80 -/
def spec_l1In.f (a0:Int) (a1:Int) (a2:Int):Option (Bool):=if a0≥a1 then(some (decide (a0≤a2))) else(some false)
set_option maxHeartbeats 8000000 in
set_option maxRecDepth 100000 in
theorem spec_l1In.calls (a0:Int) (a1:Int) (a2:Int) (r:Bool) (w:World) (h:spec_l1In.f a0 a1 a2=some r):
  Calls Tryz.prog 80 #[.int .i64 a0,.int .i64 a1,.int .i64 a2] w fun e w'=>e= .returned (.bool r)∧Drawn0 w w':=by
 unfold spec_l1In.f at h;replace h:=ih h;rcases h with ⟨c0,c0a,h⟩|⟨c0,c0a,h⟩
 obtain rfl:=si h
 rotate_left
 obtain rfl:=si h
 rotate_left
 all_goals (go_enter Tryz.func80,Tryz.ntmps80;go_wp2;go_ret;exact zE zD)

/-! ### spec_IsValidRelation: function 82 -/
def spec_IsValidRelation.f (a0_0:ByteArray) (a0_1:Int) (a0_2:Int):Option (Bool):=if(a0_0.size:Int)=1 then(if 0<(a0_0.size:Int) then(if(bt a0_0 0)≥97 then(if(bt a0_0 0)≤122 then((spec_l1In.f a0_1 1 3).bind fun t111=>(if t111=true then((spec_l1In.f a0_2 0 a0_1).bind fun t112=>(some t112)) else(some false))) else(some false)) else(some false)) else(none)) else(some false)
set_option maxHeartbeats 8000000 in
set_option maxRecDepth 100000 in
theorem spec_IsValidRelation.calls (a0_0:ByteArray) (a0_1:Int) (a0_2:Int) (r:Bool) (w:World) (h:spec_IsValidRelation.f a0_0 a0_1 a0_2=some r):
  Calls Tryz.prog 82 #[.agg #[.string a0_0,.int .i64 a0_1,.int .i64 a0_2]] w fun e w'=>e= .returned (.bool r)∧Below w.heap.size w w':=by
 have hu42:=Tryz.underlying42;obtain⟨W,hW⟩: ∃W,w.alloc (.cells #[.string a0_0,.int .i64 a0_1,.int .i64 a0_2] 42)=W:=⟨_,rfl⟩;have q0:=qa (w:=W) (p:=⟨w.heap.size,0,none⟩) (v:= .string a0_0) (by subst hW;go_simp);have q1:=qa (w:=W) (p:=⟨w.heap.size,1,none⟩) (v:= .int .i64 a0_1) (by subst hW;go_simp);have q2:=qa (w:=W) (p:=⟨w.heap.size,2,none⟩) (v:= .int .i64 a0_2) (by subst hW;go_simp);have HB:Below w.heap.size w W:=by subst hW;exact zB
 have HW:=Below.refl W.heap.size W;have hb:=aM HB;unfold spec_IsValidRelation.f at h;replace h:=iq h;rcases h with ⟨c0,⟨c0a,c0b⟩,h⟩|⟨c0,⟨c0a,c0b⟩,h⟩
 replace h:=il h;rcases h with ⟨c1,c1a,h⟩|⟨c1,c1a,h⟩
 have cz:=c1.out;have c1x1:decide (0<a0_0.size)=true:=decide_eq_true (by omega);clear cz;replace h:=ih h;rcases h with ⟨c2,c2a,h⟩|⟨c2,c2a,h⟩
 replace h:=ie h;rcases h with ⟨c3,c3a,h⟩|⟨c3,c3a,h⟩
 replace h:=bs h;obtain⟨t111,B4,h⟩:=h;replace h:=ib h;rcases h with ⟨rfl,h⟩|⟨rfl,h⟩
 replace h:=bs h;obtain⟨t112,B6,h⟩:=h;obtain rfl:=si h;have hxb1: ∀h:0<a0_0.size,((a0_0[0]'h).toNat:Int)=bt a0_0 0:=bt_at a0_0 0;have qib1:=eq_true (aD:0<(a0_0.size:Int));have qb1:(0<a0_0.size)=True:=eq_true (by have:(0:Int)<(a0_0.size:Int):=aD;omega);have hxb2: ∀h:0<a0_0.size,((a0_0[0]'h).toNat:Int)=bt a0_0 0:=bt_at a0_0 0;have qib2:=eq_true (aD:0<(a0_0.size:Int));have qb2:(0<a0_0.size)=True:=eq_true (by have:(0:Int)<(a0_0.size:Int):=aD;omega)
 rotate_left
 obtain rfl:=si h;have hxb3: ∀h:0<a0_0.size,((a0_0[0]'h).toNat:Int)=bt a0_0 0:=bt_at a0_0 0;have qib3:=eq_true (aD:0<(a0_0.size:Int));have qb3:(0<a0_0.size)=True:=eq_true (by have:(0:Int)<(a0_0.size:Int):=aD;omega);have hxb4: ∀h:0<a0_0.size,((a0_0[0]'h).toNat:Int)=bt a0_0 0:=bt_at a0_0 0;have qib4:=eq_true (aD:0<(a0_0.size:Int));have qb4:(0<a0_0.size)=True:=eq_true (by have:(0:Int)<(a0_0.size:Int):=aD;omega)
 rotate_left
 obtain rfl:=si h;have hxb5: ∀h:0<a0_0.size,((a0_0[0]'h).toNat:Int)=bt a0_0 0:=bt_at a0_0 0;have qib5:=eq_true (aD:0<(a0_0.size:Int));have qb5:(0<a0_0.size)=True:=eq_true (by have:(0:Int)<(a0_0.size:Int):=aD;omega);have hxb6: ∀h:0<a0_0.size,((a0_0[0]'h).toNat:Int)=bt a0_0 0:=bt_at a0_0 0;have qib6:=eq_true (aD:0<(a0_0.size:Int));have qb6:(0<a0_0.size)=True:=eq_true (by have:(0:Int)<(a0_0.size:Int):=aD;omega)
 rotate_left
 obtain rfl:=si h;have hxb7: ∀h:0<a0_0.size,((a0_0[0]'h).toNat:Int)=bt a0_0 0:=bt_at a0_0 0;have qib7:=eq_true (aD:0<(a0_0.size:Int));have qb7:(0<a0_0.size)=True:=eq_true (by have:(0:Int)<(a0_0.size:Int):=aD;omega)
 rotate_left
 exact absurd h (by simp);obtain rfl:=si h
 rotate_left
 all_goals (go_enter Tryz.func82,Tryz.ntmps82;go_wp2_with (first|(go_at_call 80;refine(spec_l1In.calls _ _ _ ?_ _ ?h).mono ?_;(case h=>exact zA);rintro e w1 ⟨rfl,hb⟩;replace hb:=hb.below;replace hb:=aM hb;have HW:Below W.heap.size W w1:=zB;have HB:Below w.heap.size w w1:=zB));go_ret;exact zE zB)

/-! ### spec_FormatInt: function 85 -/
def spec_FormatInt.l0:Nat→Int→ByteArray→Bool→Option (ByteArray)
 |0,_,_,_=>none
 |k+1,x0,x3,x4=>if x0=0 then(if x4=true then(if 1+x3.size≤9223372036854775807 then(some ((⟨#[45]⟩:ByteArray)++x3)) else(none)) else(some x3)) else(if(Int.tmod x0 10)<0 then((some (([(wrap64 (48+(wrap64 (-(Int.tmod x0 10)))))%256] :List Int):List Int)).bind fun y113=>(if(strOfNums y113).size+x3.size≤9223372036854775807 then(spec_FormatInt.l0 k (wrap64 (Int.tdiv x0 10)) ((strOfNums y113)++x3) x4) else(none))) else((some (([(wrap64 (48+(Int.tmod x0 10)))%256] :List Int):List Int)).bind fun y116=>(if(strOfNums y116).size+x3.size≤9223372036854775807 then(spec_FormatInt.l0 k (wrap64 (Int.tdiv x0 10)) ((strOfNums y116)++x3) x4) else(none))))
def spec_FormatInt.f (k:Nat) (a0:Int):Option (ByteArray):=if a0=0 then(some (⟨#[48]⟩:ByteArray)) else(spec_FormatInt.l0 k a0 (⟨#[]⟩:ByteArray) (decide (a0<0)))
set_option maxHeartbeats 8000000 in
set_option maxRecDepth 100000 in
theorem spec_FormatInt.calls (k:Nat) (a0:Int) (r:ByteArray) (w:World) (h:spec_FormatInt.f k a0=some r):
  Calls Tryz.prog 85 #[.int .i64 a0] w fun e w'=>e= .returned (.string r)∧Below w.heap.size w w':=by
 have HB:=aM (Below.refl w.heap.size w);have H:(if a0=0 then(some (⟨#[48]⟩:ByteArray)) else(spec_FormatInt.l0 k a0 (⟨#[]⟩:ByteArray) (decide (a0<0))))=some r:=h;clear h
 by_cases c2:a0=0
 ·rw[if_pos c2] at H;have c2b0:(a0==0)=true:=beq_iff_eq.mpr c2;have c2b1:(a0 !=0)=false:=bne_eq_false_iff_eq.mpr c2;clear c2;obtain rfl:=Option.some.inj H
  go_enter Tryz.func85,Tryz.ntmps85
  go_wp2
  go_ret
  exact⟨aE,aB⟩
 ·rw[if_neg c2] at H;have c2b0:(a0==0)=false:=beq_eq_false_iff_ne.mpr c2;have c2b1:(a0 !=0)=true:=bne_iff_ne.mpr c2;have H':=aM H;clear H
  go_enter Tryz.func85,Tryz.ntmps85
  go_wp2
  go_loopg [0,3] k (fun kq v0 v3 w'=> ∃(x0_1:Int) (x3_1:ByteArray),v0= .int .i64 x0_1∧v3= .string x3_1∧Aside0 (spec_FormatInt.l0 kq x0_1 x3_1 (decide (a0<0))=some r)∧Aside0 (kq≤k)∧Aside0 (Below w.heap.size w w'))
  case atStart=>exact⟨(a0),((⟨#[]⟩:ByteArray)),aX,aX,H',⟨Nat.le_refl _⟩,⟨aB⟩⟩
  case round=>
   clear H'
   try clear c2
   try clear c2b0
   try clear c2b1
   try clear p2
   obtain⟨x0_1,x3_1,rfl,rfl,HA,HK1,HB⟩:=hrel
   cases gk with
   |zero=>exact absurd HA.out (by simp[spec_FormatInt.l0])
   |succ k1=>
    have H:=HA.out;clear HA;simp only[spec_FormatInt.l0] at H
    by_cases c3:x0_1=0
    ·rw[if_pos c3] at H;have c3b0:(x0_1==0)=true:=beq_iff_eq.mpr c3;have c3b1:(x0_1 !=0)=false:=bne_eq_false_iff_eq.mpr c3;clear c3
     by_cases c4:(decide (a0<0))=true
     ·rw[if_pos c4] at H;have c4b0:(decide (a0<0))=true:=c4;clear c4
      by_cases c5:1+x3_1.size≤9223372036854775807
      ·rw[if_pos c5] at H;have c5b0:=eq_true c5;have c5b1:decide (1+x3_1.size≤9223372036854775807)=true:=decide_eq_true c5
       try have c5b2:(9223372036854775807<1+x3_1.size)=False:=eq_false (Nat.not_lt.2 c5)
       obtain rfl:=Option.some.inj H
       go_wp2
       all_goals first|(exfalso;have:=of_decide_eq_true c4b0;omega)|(go_ret;exact⟨aE,aB⟩)
      ·rw[if_neg c5] at H;exact absurd H (by simp)
     ·rw[if_neg c4] at H;have c4b0:(decide (a0<0))=false:=by simpa using c4
      clear c4;obtain rfl:=Option.some.inj H
      go_wp2
      all_goals first|(exfalso;have:=of_decide_eq_false c4b0;omega)|(go_ret;exact⟨aE,aB⟩)
    ·rw[if_neg c3] at H;have c3b0:(x0_1==0)=false:=beq_eq_false_iff_ne.mpr c3;have c3b1:(x0_1 !=0)=true:=bne_iff_ne.mpr c3
     by_cases c6:(Int.tmod x0_1 10)<0
     ·rw[if_pos c6] at H;have c6b0:decide ((Int.tmod x0_1 10)<0)=true:=decide_eq_true c6;clear c6;obtain⟨y113,hy113⟩: ∃y_:List Int,y_=(([(wrap64 (48+(wrap64 (-(Int.tmod x0_1 10)))))%256] :List Int)):=⟨_,rfl⟩
      first|replace H:=bY hy113 H|rw[←hy113] at H
      have Ny113:=aM hy113;clear hy113
      by_cases c7:(strOfNums y113).size+x3_1.size≤9223372036854775807
      ·rw[if_pos c7] at H;have c7b0:=eq_true c7;have c7b1:decide ((strOfNums y113).size+x3_1.size≤9223372036854775807)=true:=decide_eq_true c7
       try have c7b2:(9223372036854775807<(strOfNums y113).size+x3_1.size)=False:=eq_false (Nat.not_lt.2 c7)
       have H':=aM H;clear H
       go_wp2_with (first|((with_reducible refine gate_dst (N:=21) rfl ?_);refine Kd.R_lit (Kd.int .u8) _ 5 ?hg (N:=21) ?hd (xs:=([(wrap64 (48+(wrap64 (-(Int.tmod x0_1 10)))))%256] :List Int)) (inner:= [.int .u8 ((wrap64 (48+(wrap64 (-(Int.tmod x0_1 10)))))%256)]) (ok:=fun _=>True) (okp:=fun _=>True) ?hr ?hp (fun _ hk=>hk) trivial (Below.refl _ _) (Nat.le_refl _) (by simp) ?_;(case hd=>rfl);(case hg=>rfl);(case hr=>first|(go_simp;done)|(go_simp;rfl));(case hp=>exact(Reps.one (show Kd.M (Kd.int .u8) _ _ _ ((wrap64 (48+(wrap64 (-(Int.tmod x0_1 10)))))%256) [.int .u8 ((wrap64 (48+(wrap64 (-(Int.tmod x0_1 10)))))%256)] from rfl) (Reps.none _ _)));intro v114 w8 ho9 hb hg_ hnew_;clear hg_ hnew_;(first|rw[←Ny113.out] at ho9|(simp only[Int.reduceToNat] at ho9;rw[←Ny113.out] at ho9));have HO115:=aM (Kd.R_lower ho9 (below_size aB));replace HB:=aM (below_step aB hb);clear hb ho9;have hcv10:=own_string (P:=Tryz.prog) Tryz.underlying31 Tryz.underlying5 Tryz.underlying9 (Kd.own_of_R HO115.out)))
       go_roundg k1
       case measure=>have:=HK1.out;omega
       case rel=>exact⟨(wrap64 (Int.tdiv x0_1 10)),((strOfNums y113)++x3_1),aX,aX,H',⟨by have:=HK1.out;omega⟩,⟨aB⟩⟩
      ·rw[if_neg c7] at H;exact absurd H (by simp)
     ·rw[if_neg c6] at H;have c6b0:decide ((Int.tmod x0_1 10)<0)=false:=decide_eq_false c6;clear c6;obtain⟨y116,hy116⟩: ∃y_:List Int,y_=(([(wrap64 (48+(Int.tmod x0_1 10)))%256] :List Int)):=⟨_,rfl⟩
      first|replace H:=bY hy116 H|rw[←hy116] at H
      have Ny116:=aM hy116;clear hy116
      by_cases c11:(strOfNums y116).size+x3_1.size≤9223372036854775807
      ·rw[if_pos c11] at H;have c11b0:=eq_true c11;have c11b1:decide ((strOfNums y116).size+x3_1.size≤9223372036854775807)=true:=decide_eq_true c11
       try have c11b2:(9223372036854775807<(strOfNums y116).size+x3_1.size)=False:=eq_false (Nat.not_lt.2 c11)
       have H':=aM H;clear H
       go_wp2_with (first|((with_reducible refine gate_dst (N:=21) rfl ?_);refine Kd.R_lit (Kd.int .u8) _ 5 ?hg (N:=21) ?hd (xs:=([(wrap64 (48+(Int.tmod x0_1 10)))%256] :List Int)) (inner:= [.int .u8 ((wrap64 (48+(Int.tmod x0_1 10)))%256)]) (ok:=fun _=>True) (okp:=fun _=>True) ?hr ?hp (fun _ hk=>hk) trivial (Below.refl _ _) (Nat.le_refl _) (by simp) ?_;(case hd=>rfl);(case hg=>rfl);(case hr=>first|(go_simp;done)|(go_simp;rfl));(case hp=>exact(Reps.one (show Kd.M (Kd.int .u8) _ _ _ ((wrap64 (48+(Int.tmod x0_1 10)))%256) [.int .u8 ((wrap64 (48+(Int.tmod x0_1 10)))%256)] from rfl) (Reps.none _ _)));intro v117 w12 ho13 hb hg_ hnew_;clear hg_ hnew_;(first|rw[←Ny116.out] at ho13|(simp only[Int.reduceToNat] at ho13;rw[←Ny116.out] at ho13));have HO118:=aM (Kd.R_lower ho13 (below_size aB));replace HB:=aM (below_step aB hb);clear hb ho13;have hcv14:=own_string (P:=Tryz.prog) Tryz.underlying31 Tryz.underlying5 Tryz.underlying9 (Kd.own_of_R HO118.out)))
       go_roundg k1
       case measure=>have:=HK1.out;omega
       case rel=>exact⟨(wrap64 (Int.tdiv x0_1 10)),((strOfNums y116)++x3_1),aX,aX,H',⟨by have:=HK1.out;omega⟩,⟨aB⟩⟩
      ·rw[if_neg c11] at H;exact absurd H (by simp)

/-! ### spec_FormatRelation: function 51 -/
def spec_FormatRelation.f (k:Nat) (a0_0:ByteArray) (a0_1:Int) (a0_2:Int):Option (ByteArray):=(spec_IsValidRelation.f a0_0 a0_1 a0_2).bind fun t120=>(if t120=true then((spec_FormatInt.f k a0_2).bind fun t121=>(if a0_0.size+t121.size≤9223372036854775807 then(if(a0_0++t121).size+1≤9223372036854775807 then((spec_FormatInt.f k a0_1).bind fun t122=>(if((a0_0++t121)++(⟨#[47]⟩:ByteArray)).size+t122.size≤9223372036854775807 then(some (((a0_0++t121)++(⟨#[47]⟩:ByteArray))++t122)) else(none))) else(none)) else(none))) else(some (⟨#[]⟩:ByteArray)))
set_option maxHeartbeats 8000000 in
set_option maxRecDepth 100000 in
theorem spec_FormatRelation.calls (k:Nat) (a0_0:ByteArray) (a0_1:Int) (a0_2:Int) (r:ByteArray) (w:World) (h:spec_FormatRelation.f k a0_0 a0_1 a0_2=some r):
  Calls Tryz.prog 51 #[.agg #[.string a0_0,.int .i64 a0_1,.int .i64 a0_2]] w fun e w'=>e= .returned (.string r)∧Below w.heap.size w w':=by
 have hu42:=Tryz.underlying42;obtain⟨W,hW⟩: ∃W,w.alloc (.cells #[.string a0_0,.int .i64 a0_1,.int .i64 a0_2] 42)=W:=⟨_,rfl⟩;have q0:=qa (w:=W) (p:=⟨w.heap.size,0,none⟩) (v:= .string a0_0) (by subst hW;go_simp);have q1:=qa (w:=W) (p:=⟨w.heap.size,1,none⟩) (v:= .int .i64 a0_1) (by subst hW;go_simp);have q2:=qa (w:=W) (p:=⟨w.heap.size,2,none⟩) (v:= .int .i64 a0_2) (by subst hW;go_simp);have HB:Below w.heap.size w W:=by subst hW;exact zB
 have HW:=Below.refl W.heap.size W;have hb:=aM HB;have rg_:= @bcl w;have rd_:= @bdr w;have rG_:= @bcl W;have rD_:= @bdr W;unfold spec_FormatRelation.f at h;replace h:=bs h;obtain⟨t120,B0,h⟩:=h;replace h:=ib h;rcases h with ⟨rfl,h⟩|⟨rfl,h⟩
 replace h:=bs h;obtain⟨t121,B2,h⟩:=h;replace h:=ieN h;rcases h with ⟨c3,c3a,h⟩|⟨c3,c3a,h⟩
 have c3x0:decide (a0_0.size+t121.size≤9223372036854775807)=true:=decide_eq_true (of_eq_true c3a);have c3x1:(9223372036854775807<a0_0.size+t121.size)=False:=eq_false (Nat.not_lt.2 (of_eq_true c3a));replace h:=ieN h;rcases h with ⟨c4,c4a,h⟩|⟨c4,c4a,h⟩
 have c4x0:decide ((a0_0++t121).size+1≤9223372036854775807)=true:=decide_eq_true (of_eq_true c4a);have c4x1:(9223372036854775807<(a0_0++t121).size+1)=False:=eq_false (Nat.not_lt.2 (of_eq_true c4a));have c4y:=c4a;simp only[ByteArray.size_append] at c4y;have c4y0:=decide_eq_true (of_eq_true c4y);have c4y1:=eq_false (Nat.not_lt.2 (of_eq_true c4y));replace h:=bs h;obtain⟨t122,B5,h⟩:=h;replace h:=ieN h;rcases h with ⟨c6,c6a,h⟩|⟨c6,c6a,h⟩
 have c6x0:decide (((a0_0++t121)++(⟨#[47]⟩:ByteArray)).size+t122.size≤9223372036854775807)=true:=decide_eq_true (of_eq_true c6a);have c6x1:(9223372036854775807<((a0_0++t121)++(⟨#[47]⟩:ByteArray)).size+t122.size)=False:=eq_false (Nat.not_lt.2 (of_eq_true c6a));have c6y:=c6a;simp only[ByteArray.size_append,(show(⟨#[47]⟩:ByteArray).size=1 from rfl)] at c6y;have c6y0:=decide_eq_true (of_eq_true c6y);have c6y1:=eq_false (Nat.not_lt.2 (of_eq_true c6y));obtain rfl:=si h
 rotate_left
 exact absurd h (by simp);exact absurd h (by simp);exact absurd h (by simp);obtain rfl:=si h
 rotate_left
 all_goals (go_enter Tryz.func51,Tryz.ntmps51;go_wp2_with (first|(go_at_call 82;refine(spec_IsValidRelation.calls _ _ _ ?_ _ ?h).mono ?_;(case h=>exact zA);rintro e w1 ⟨rfl,hb⟩;replace hb:=aM hb;have HW:Below W.heap.size W w1:=zB;have HB:Below w.heap.size w w1:=zB));(repeat((refine nw (w0:=w) zB ?_;intro W1 HB hb hd;have HW:Below W.heap.size W W1:=zB;(first|(refine Txt.rg (id:=3) [0,1,2,3,7,8,4,5,6,9,10,11] (by kernel_rfl) (by kernel_rfl) ?_;simp only[List.map_cons,List.map_nil,List.getD_cons_zero,List.getD_cons_succ]));(repeat(first|(refine Txt.off rfl ?_;simp only[Act.put,List.setIfInBounds_toArray,List.set_cons_zero,List.set_cons_succ])|(refine Txt.take rfl rfl ?_;intro K hK;go_big_quiet_op;go_big_quiet_on)|(refine Txt.call rfl rfl Tryz.func85 (by kernel_rfl) rfl (spec_FormatInt.calls ?_ _ ?_ _ ?h) rfl ?_;(case h=>exact zA);rintro e w1 ⟨rfl,hb⟩;replace hb:=aM hb;have HW:Below W.heap.size W w1:=zB;have HB:Below w.heap.size w w1:=zB;refine⟨_,rfl,zS,?_⟩;simp only[Act.put,List.setIfInBounds_toArray,List.set_cons_zero,List.set_cons_succ])));refine Txt.nil ?_);(try go_wp2_with (first|(go_at_call 82;refine(spec_IsValidRelation.calls _ _ _ ?_ _ ?h).mono ?_;(case h=>exact zA);rintro e w1 ⟨rfl,hb⟩;replace hb:=aM hb;have HW:Below W.heap.size W w1:=zB;have HB:Below w.heap.size w w1:=zB)))));go_ret;exact zE zB)

end Go.Proofs.YtckpikfbhlhhjaaGreatDoor.PFnDatabaseFormat
namespace Go.Proofs.YtckpikfbhlhhjaaGreatDoor.PFnDatabaseFormat
open Go.RowKit Go.Proofs.YtckpikfbhlhhjaaGreatDoorW.PrintWords Go.Proofs.YtckpikfbhlhhjaaGreatDoorW.PrintLast Go.Proofs.YtckpikfbhlhhjaaGreatDoorW.PrintMore
attribute [local go_sem] max2_int min2_int max_two min_two max_three min_three max_four min_four
set_option linter.unusedVariables false
set_option linter.unusedSimpArgs false

/-! ### spec_ParseRelation: function 19 -/
def spec_ParseRelation.f (k:Nat) (a0:ByteArray):Option (ByteArray×Int×Int×Bool):=if(a0.size:Int)=4 then(if 0≤1 then(if 1≤(a0.size:Int) then(if 1<(a0.size:Int) then(if 3<(a0.size:Int) then((spec_FormatRelation.f k (a0.extract 0 1) (wrap64 ((wrap64 (bt a0 3))-48)) (wrap64 ((wrap64 (bt a0 1))-48))).bind fun t125=>(if t125.toList=a0.toList then(some (a0.extract 0 1,wrap64 ((wrap64 (bt a0 3))-48),wrap64 ((wrap64 (bt a0 1))-48),true)) else(some ((⟨#[]⟩:ByteArray),0,0,false)))) else(none)) else(none)) else(none)) else(none)) else(some ((⟨#[]⟩:ByteArray),0,0,false))
def spec_ParseRelation.T3:Bool×List (List Nat×List Nat):=(true,[([],[]),([0],[0]),([],[]),([2],[2]),([3],[3]),([4],[4]),([],[]),([6],[6]),([7],[7]),([8],[8]),([1,5,9],[1,5,9]),([],[]),([11,10,0,1,2,3,4,5,6,7,8,9,10,11],[10,11])])
def spec_ParseRelation.B3:List Nat:= [0,1,0,4,12,28,0,64,192,448,1023,0,4095]
theorem spec_ParseRelation.tab3:rtab .any (opsOf Tryz.f19 3)=spec_ParseRelation.T3:=by kernel_rfl
theorem spec_ParseRelation.bits3:waitsOk spec_ParseRelation.T3.2 spec_ParseRelation.B3=true:=by kernel_rfl
set_option maxHeartbeats 8000000 in
set_option maxRecDepth 100000 in
theorem spec_ParseRelation.calls (k:Nat) (a0:ByteArray) (r1:ByteArray) (r2:Int) (r3:Int) (r4:Bool) (w:World) (h:spec_ParseRelation.f k a0=some (r1,r2,r3,r4)):
  Calls Tryz.prog 19 #[.string a0] w fun e w'=>e= .returned (.tuple #[.agg #[.string r1,.int .i64 r2,.int .i64 r3],.bool r4])∧Below w.heap.size w w':=by
 have hu42:=Tryz.underlying42;have HB:=aM (Below.refl w.heap.size w);have H:(if(a0.size:Int)=4 then(if 0≤1 then(if 1≤(a0.size:Int) then(if 1<(a0.size:Int) then(if 3<(a0.size:Int) then((spec_FormatRelation.f k (a0.extract 0 1) (wrap64 ((wrap64 (bt a0 3))-48)) (wrap64 ((wrap64 (bt a0 1))-48))).bind fun t125=>(if t125.toList=a0.toList then(some (a0.extract 0 1,wrap64 ((wrap64 (bt a0 3))-48),wrap64 ((wrap64 (bt a0 1))-48),true)) else(some ((⟨#[]⟩:ByteArray),0,0,false)))) else(none)) else(none)) else(none)) else(none)) else(some ((⟨#[]⟩:ByteArray),0,0,false)))=some (r1,r2,r3,r4):=h;clear h
 by_cases c2:(a0.size:Int)=4
 ·rw[if_pos c2] at H;have c2b0:((a0.size:Int)==4)=true:=beq_iff_eq.mpr c2;have c2b1:((a0.size:Int) !=4)=false:=bne_eq_false_iff_eq.mpr c2;clear c2
  by_cases c3:0≤1
  ·rw[if_pos c3] at H;have c3b0:=eq_true c3;have c3b1:decide (0≤1)=true:=decide_eq_true c3;clear c3
   by_cases c4:1≤(a0.size:Int)
   ·rw[if_pos c4] at H;have c4b0:=eq_true c4;have c4b1:decide (1≤(a0.size:Int))=true:=decide_eq_true c4;clear c4
    by_cases c5:1<(a0.size:Int)
    ·rw[if_pos c5] at H;have c5b0:decide (1<(a0.size:Int))=true:=decide_eq_true c5;have c5b1:decide (1<a0.size)=true:=decide_eq_true (by omega);clear c5
     by_cases c7:3<(a0.size:Int)
     ·rw[if_pos c7] at H;have c7b0:decide (3<(a0.size:Int))=true:=decide_eq_true c7;have c7b1:decide (3<a0.size)=true:=decide_eq_true (by omega);clear c7;replace H:=bM H;obtain⟨t125,A90,H⟩:=H;have A9:=aM A90;clear A90
      by_cases c10:t125.toList=a0.toList
      ·rw[if_pos c10] at H;have c10b0:(t125.toList==a0.toList)=true:=beq_iff_eq.mpr c10;have c10b1:(t125.toList !=a0.toList)=false:=bne_eq_false_iff_eq.mpr c10;clear c10;simp only[Option.some.injEq,Prod.mk.injEq] at H;obtain⟨rfl,rfl,rfl,rfl⟩:=H
       go_enter Tryz.func19,Tryz.ntmps19
       try go_wp2_with (first|((with_reducible refine gate_dst (N:=2) rfl ?_);refine bE 2 (cs:=#[.string (⟨#[]⟩:ByteArray),.int .i64 0,.int .i64 0]) (t:=42) ?_;intro gb123 hg w11 hbox hb;have BK123:=aM (hbox);have GW123:=aM ((by rw[hg];exact(below_size aB):w.heap.size≤gb123));have GE123:=aM ((by rw[hg];exact(below_size aB):w.heap.size≤gb123));replace HB:=aM (below_step aB hb);clear hb hbox hg))
       replace BK123:=aM (blk_drew BK123.out);replace HB:=aM (below_drew1 HB.out);have p6:0≤(1:Int):=(by omega);have q6:1<a0.size:=(by have:(1:Int)<(a0.size:Int):=aD;omega);have hx6: ∀h:1<a0.size,((a0[1]'h).toNat:Int)=bt a0 1:=bt_at a0 1;clear p6;have qi6:(1<(a0.size:Int))=True:=eq_true (aD);replace q6:=eq_true q6;have p8:0≤(3:Int):=(by omega);have q8:3<a0.size:=(by have:(3:Int)<(a0.size:Int):=aD;omega);have hx8: ∀h:3<a0.size,((a0[3]'h).toNat:Int)=bt a0 3:=bt_at a0 3;clear p8;have qi8:(3<(a0.size:Int))=True:=eq_true (aD);replace q8:=eq_true q8;refine start_ (n:=13) (S:=fun w'=>True) (ds:= []) #[false,false,false,false,false,false,false,false,false,false,false,false,false] (by kernel_rfl) rfl rfl trivial (fun hHeld=>?_);refine with_tabW spec_ParseRelation.tab3 spec_ParseRelation.bits3 (fun HT_ HW_=>?_);generalize w11.drew=w12 at BK123 HB hHeld ⊢;refine pU 0 9 ?_;refine pU 1 10 ?_;refine pU 2 11 ?_;refine pU 6 15 ?_;refine take_ (i:=3) (N:=some 12) (v:=?_) (a':=?_) #[true,true,true,true,false,false,true,false,false,false,false,false,false] rfl rfl (take_ofW HT_.out HW_.out (by kernel_rfl)) (fun _ _ _ h=>h) (Or.inl ⟨by rfl,?_⟩) hHeld ?_ ?_
       rotate_left
       ·intro w' _
        go_simp
        with_reducible rfl
       rotate_left
       ·exact aP
       refine pU 4 13 ?_;refine pU 5 14 ?_;refine take_ (i:=7) (N:=some 16) (v:=?_) (a':=?_) #[true,true,true,true,true,true,true,true,false,false,false,false,false] rfl rfl (take_ofW HT_.out HW_.out (by kernel_rfl)) (fun _ _ _ h=>h) (Or.inl ⟨by rfl,?_⟩) hHeld ?_ ?_
       rotate_left
       ·intro w' _
        go_simp
        with_reducible rfl
       rotate_left
       ·exact aP
       refine pU 8 17 ?_;refine pU 9 18 ?_;refine pU 10 19 ?_;refine oU 11 4 (fun K hK=>?_);refine box_step ?hg (N:=4) ?hd (cs:=#[.string (⟨#[]⟩:ByteArray),.int .i64 0,.int .i64 0]) (t:=42) ?hr ?_;(case hd=>rfl);(case hg=>rfl);(case hr=>first|(go_simp;done)|(go_simp;rfl));intro gb124 hg w13 hbox hb;have BK124:=aM (hbox);have GW124:=aM ((by rw[hg];exact(below_size aG):w.heap.size≤gb124));have GE124:=aM ((by rw[hg];exact(below_size aG):w.heap.size≤gb124));have NB123_124:=aM ((by rw[hg];exact Nat.ne_of_lt (blk_lt (g:=gb123) (o:= .cells #[.string (⟨#[]⟩:ByteArray),.int .i64 0,.int .i64 0] 42 (0,0)) aK):gb123≠gb124));have NB124_123:=aM ((by rw[hg];exact Nat.ne_of_gt (blk_lt (g:=gb123) (o:= .cells #[.string (⟨#[]⟩:ByteArray),.int .i64 0,.int .i64 0] 42 (0,0)) aK):gb124≠gb123));replace BK123:=aM (blk_below (g:=gb123) (o:= .cells #[.string (⟨#[]⟩:ByteArray),.int .i64 0,.int .i64 0] 42 (0,0)) aK hb);replace HB:=aM (below_step aG hb);clear hb hbox hg;refine hK.out _ _ trivial (fun hHeld=>?_);clear hK K;refine nU 4 ?_;refine one_ (i:=12) (N:=none) #[true,true,true,true,true,true,true,true,true,true,true,true,true] rfl rfl (one_of HT_.out (by kernel_rfl)) (by decide) (fun K hK=>?_);have hs14:w13.cell? ⟨gb124,0,none⟩=some (.string (⟨#[]⟩:ByteArray)):=(blk_cell BK124.out 0).trans rfl;have hfs14:=blk_frozen BK124.out 0;have hns14_0:=NB123_124.out;have hms14_0:=NB124_123.out;have hs15:w13.cell? ⟨gb124,1,none⟩=some (.int .i64 0):=(blk_cell BK124.out 1).trans rfl;have hfs15:=blk_frozen BK124.out 1;have hns15_0:=NB123_124.out;have hms15_0:=NB124_123.out;have hs16:w13.cell? ⟨gb124,2,none⟩=some (.int .i64 0):=(blk_cell BK124.out 2).trans rfl;have hfs16:=blk_frozen BK124.out 2;have hns16_0:=NB123_124.out;have hms16_0:=NB124_123.out;refine skip_ (w1:=?_) (by rfl) rfl ?_ ?_
       rotate_left
       ·go_simp
        rfl
       refine hK.out _ _ trivial (fun hHeld=>?_);clear hK K;refine done_ (done_of HT_.out (by kernel_rfl)) ?_;have hnb17:=NB124_123.out;have hnc17:=NB123_124.out;have hcz18_0:w13.cell? ⟨gb124,0,none⟩=some (.string (⟨#[]⟩:ByteArray)):=(blk_cell BK124.out 0).trans rfl;have hcz18_1:w13.cell? ⟨gb124,1,none⟩=some (.int .i64 0):=(blk_cell BK124.out 1).trans rfl;have hcz18_2:w13.cell? ⟨gb124,2,none⟩=some (.int .i64 0):=(blk_cell BK124.out 2).trans rfl;have hfz18_0:=blk_frozen BK124.out 0;have hfz18_1:=blk_frozen BK124.out 1;have hfz18_2:=blk_frozen BK124.out 2
       try go_wp2_with (first|((with_reducible refine gate_callee (f:=51) rfl ?_);refine goesL_ (some 21) rfl rfl Tryz.func51 (by kernel_rfl) rfl #[.agg #[.string (a0.extract 0 1),.int .i64 (wrap64 ((wrap64 (bt a0 3))-48)),.int .i64 (wrap64 ((wrap64 (bt a0 1))-48))]] rfl aA ?_;(with_reducible refine(spec_FormatRelation.calls k (a0.extract 0 1) (wrap64 ((wrap64 (bt a0 3))-48)) (wrap64 ((wrap64 (bt a0 1))-48)) t125 _ A9.out).mono ?_);rintro e w19 ⟨rfl,hb⟩;refine⟨_,rfl,?_⟩;replace BK123:=aM (blk_below (g:=gb123) (o:= .cells #[.string (⟨#[]⟩:ByteArray),.int .i64 0,.int .i64 0] 42 (0,0)) (by(with_reducible repeat refine pB ?_);refine blk_far ?_ NB123_124.out _;(with_reducible repeat refine pB ?_);refine blk_far ?_ NB123_124.out _;(with_reducible repeat refine pB ?_);refine blk_far ?_ NB123_124.out _;(with_reducible repeat refine pB ?_);exact BK123.out) hb);replace BK124:=aM (blk_below (g:=gb124) (o:= .cells #[.string (a0.extract 0 1),.int .i64 (wrap64 ((wrap64 (bt a0 3))-48)),.int .i64 (wrap64 ((wrap64 (bt a0 1))-48))] 42 (0,0)) (by(with_reducible repeat refine pB ?_);refine blk_put (cs:=#[.string (a0.extract 0 1),.int .i64 (wrap64 ((wrap64 (bt a0 3))-48)),.int .i64 0]) ?_ 2 _ rfl;(with_reducible repeat refine pB ?_);refine blk_put (cs:=#[.string (a0.extract 0 1),.int .i64 0,.int .i64 0]) ?_ 1 _ rfl;(with_reducible repeat refine pB ?_);refine blk_put (cs:=#[.string (⟨#[]⟩:ByteArray),.int .i64 0,.int .i64 0]) ?_ 0 _ rfl;(with_reducible repeat refine pB ?_);exact BK124.out) hb);replace HB:=aM (below_step aG hb);(try clear hb);(try clear hb2);(try clear hk);(try clear hi);have hcz20_0:w19.cell? ⟨gb124,0,none⟩=some (.string (a0.extract 0 1)):=(blk_cell BK124.out 0).trans rfl;have hcz20_1:w19.cell? ⟨gb124,1,none⟩=some (.int .i64 (wrap64 ((wrap64 (bt a0 3))-48))):=(blk_cell BK124.out 1).trans rfl;have hcz20_2:w19.cell? ⟨gb124,2,none⟩=some (.int .i64 (wrap64 ((wrap64 (bt a0 1))-48))):=(blk_cell BK124.out 2).trans rfl;have hfz20_0:=blk_frozen BK124.out 0;have hfz20_1:=blk_frozen BK124.out 1;have hfz20_2:=blk_frozen BK124.out 2;have hcz21_0:w19.cell? ⟨gb123,0,none⟩=some (.string (⟨#[]⟩:ByteArray)):=(blk_cell BK123.out 0).trans rfl;have hcz21_1:w19.cell? ⟨gb123,1,none⟩=some (.int .i64 0):=(blk_cell BK123.out 1).trans rfl;have hcz21_2:w19.cell? ⟨gb123,2,none⟩=some (.int .i64 0):=(blk_cell BK123.out 2).trans rfl;have hfz21_0:=blk_frozen BK123.out 0;have hfz21_1:=blk_frozen BK123.out 1;have hfz21_2:=blk_frozen BK123.out 2))
       refine bodyPost_ret (results_ct rfl _ _ gb123 42 #[.string (a0.extract 0 1),.int .i64 (wrap64 ((wrap64 (bt a0 3))-48)),.int .i64 (wrap64 ((wrap64 (bt a0 1))-48))] (0,0) _ rfl (by(with_reducible repeat refine pB ?_);refine blk_put (cs:=#[.string (a0.extract 0 1),.int .i64 (wrap64 ((wrap64 (bt a0 3))-48)),.int .i64 0]) ?_ 2 _ rfl;(with_reducible repeat refine pB ?_);refine blk_put (cs:=#[.string (a0.extract 0 1),.int .i64 0,.int .i64 0]) ?_ 1 _ rfl;(with_reducible repeat refine pB ?_);refine blk_put (cs:=#[.string (⟨#[]⟩:ByteArray),.int .i64 0,.int .i64 0]) ?_ 0 _ rfl;(with_reducible repeat refine pB ?_);exact BK123.out) Tryz.underlying42 rfl (by kernel_rfl)) rfl ?_;exact⟨aE,aG⟩
      ·rw[if_neg c10] at H;have c10b0:(t125.toList==a0.toList)=false:=beq_eq_false_iff_ne.mpr c10;have c10b1:(t125.toList !=a0.toList)=true:=bne_iff_ne.mpr c10;simp only[Option.some.injEq,Prod.mk.injEq] at H;obtain⟨rfl,rfl,rfl,rfl⟩:=H
       go_enter Tryz.func19,Tryz.ntmps19
       try go_wp2_with (first|((with_reducible refine gate_dst (N:=2) rfl ?_);refine bE 2 (cs:=#[.string (⟨#[]⟩:ByteArray),.int .i64 0,.int .i64 0]) (t:=42) ?_;intro gb123 hg w22 hbox hb;have BK123:=aM (hbox);have GW123:=aM ((by rw[hg];exact(below_size aB):w.heap.size≤gb123));have GE123:=aM ((by rw[hg];exact(below_size aB):w.heap.size≤gb123));replace HB:=aM (below_step aB hb);clear hb hbox hg))
       replace BK123:=aM (blk_drew BK123.out);replace HB:=aM (below_drew1 HB.out);have p6:0≤(1:Int):=(by omega);have q6:1<a0.size:=(by have:(1:Int)<(a0.size:Int):=aD;omega);have hx6: ∀h:1<a0.size,((a0[1]'h).toNat:Int)=bt a0 1:=bt_at a0 1;clear p6;have qi6:(1<(a0.size:Int))=True:=eq_true (aD);replace q6:=eq_true q6;have p8:0≤(3:Int):=(by omega);have q8:3<a0.size:=(by have:(3:Int)<(a0.size:Int):=aD;omega);have hx8: ∀h:3<a0.size,((a0[3]'h).toNat:Int)=bt a0 3:=bt_at a0 3;clear p8;have qi8:(3<(a0.size:Int))=True:=eq_true (aD);replace q8:=eq_true q8;refine start_ (n:=13) (S:=fun w'=>True) (ds:= []) #[false,false,false,false,false,false,false,false,false,false,false,false,false] (by kernel_rfl) rfl rfl trivial (fun hHeld=>?_);refine with_tabW spec_ParseRelation.tab3 spec_ParseRelation.bits3 (fun HT_ HW_=>?_);generalize w22.drew=w23 at BK123 HB hHeld ⊢;refine pU 0 9 ?_;refine pU 1 10 ?_;refine pU 2 11 ?_;refine pU 6 15 ?_;refine take_ (i:=3) (N:=some 12) (v:=?_) (a':=?_) #[true,true,true,true,false,false,true,false,false,false,false,false,false] rfl rfl (take_ofW HT_.out HW_.out (by kernel_rfl)) (fun _ _ _ h=>h) (Or.inl ⟨by rfl,?_⟩) hHeld ?_ ?_
       rotate_left
       ·intro w' _
        go_simp
        with_reducible rfl
       rotate_left
       ·exact aP
       refine pU 4 13 ?_;refine pU 5 14 ?_;refine take_ (i:=7) (N:=some 16) (v:=?_) (a':=?_) #[true,true,true,true,true,true,true,true,false,false,false,false,false] rfl rfl (take_ofW HT_.out HW_.out (by kernel_rfl)) (fun _ _ _ h=>h) (Or.inl ⟨by rfl,?_⟩) hHeld ?_ ?_
       rotate_left
       ·intro w' _
        go_simp
        with_reducible rfl
       rotate_left
       ·exact aP
       refine pU 8 17 ?_;refine pU 9 18 ?_;refine pU 10 19 ?_;refine oU 11 4 (fun K hK=>?_);refine box_step ?hg (N:=4) ?hd (cs:=#[.string (⟨#[]⟩:ByteArray),.int .i64 0,.int .i64 0]) (t:=42) ?hr ?_;(case hd=>rfl);(case hg=>rfl);(case hr=>first|(go_simp;done)|(go_simp;rfl));intro gb124 hg w24 hbox hb;have BK124:=aM (hbox);have GW124:=aM ((by rw[hg];exact(below_size aG):w.heap.size≤gb124));have GE124:=aM ((by rw[hg];exact(below_size aG):w.heap.size≤gb124));have NB123_124:=aM ((by rw[hg];exact Nat.ne_of_lt (blk_lt (g:=gb123) (o:= .cells #[.string (⟨#[]⟩:ByteArray),.int .i64 0,.int .i64 0] 42 (0,0)) aK):gb123≠gb124));have NB124_123:=aM ((by rw[hg];exact Nat.ne_of_gt (blk_lt (g:=gb123) (o:= .cells #[.string (⟨#[]⟩:ByteArray),.int .i64 0,.int .i64 0] 42 (0,0)) aK):gb124≠gb123));replace BK123:=aM (blk_below (g:=gb123) (o:= .cells #[.string (⟨#[]⟩:ByteArray),.int .i64 0,.int .i64 0] 42 (0,0)) aK hb);replace HB:=aM (below_step aG hb);clear hb hbox hg;refine hK.out _ _ trivial (fun hHeld=>?_);clear hK K;refine nU 4 ?_;refine one_ (i:=12) (N:=none) #[true,true,true,true,true,true,true,true,true,true,true,true,true] rfl rfl (one_of HT_.out (by kernel_rfl)) (by decide) (fun K hK=>?_);have hs25:w24.cell? ⟨gb124,0,none⟩=some (.string (⟨#[]⟩:ByteArray)):=(blk_cell BK124.out 0).trans rfl;have hfs25:=blk_frozen BK124.out 0;have hns25_0:=NB123_124.out;have hms25_0:=NB124_123.out;have hs26:w24.cell? ⟨gb124,1,none⟩=some (.int .i64 0):=(blk_cell BK124.out 1).trans rfl;have hfs26:=blk_frozen BK124.out 1;have hns26_0:=NB123_124.out;have hms26_0:=NB124_123.out;have hs27:w24.cell? ⟨gb124,2,none⟩=some (.int .i64 0):=(blk_cell BK124.out 2).trans rfl;have hfs27:=blk_frozen BK124.out 2;have hns27_0:=NB123_124.out;have hms27_0:=NB124_123.out;refine skip_ (w1:=?_) (by rfl) rfl ?_ ?_
       rotate_left
       ·go_simp
        rfl
       refine hK.out _ _ trivial (fun hHeld=>?_);clear hK K;refine done_ (done_of HT_.out (by kernel_rfl)) ?_;have hnb28:=NB124_123.out;have hnc28:=NB123_124.out;have hcz29_0:w24.cell? ⟨gb124,0,none⟩=some (.string (⟨#[]⟩:ByteArray)):=(blk_cell BK124.out 0).trans rfl;have hcz29_1:w24.cell? ⟨gb124,1,none⟩=some (.int .i64 0):=(blk_cell BK124.out 1).trans rfl;have hcz29_2:w24.cell? ⟨gb124,2,none⟩=some (.int .i64 0):=(blk_cell BK124.out 2).trans rfl;have hfz29_0:=blk_frozen BK124.out 0;have hfz29_1:=blk_frozen BK124.out 1;have hfz29_2:=blk_frozen BK124.out 2
       try go_wp2_with (first|((with_reducible refine gate_callee (f:=51) rfl ?_);refine goesL_ (some 21) rfl rfl Tryz.func51 (by kernel_rfl) rfl #[.agg #[.string (a0.extract 0 1),.int .i64 (wrap64 ((wrap64 (bt a0 3))-48)),.int .i64 (wrap64 ((wrap64 (bt a0 1))-48))]] rfl aA ?_;(with_reducible refine(spec_FormatRelation.calls k (a0.extract 0 1) (wrap64 ((wrap64 (bt a0 3))-48)) (wrap64 ((wrap64 (bt a0 1))-48)) t125 _ A9.out).mono ?_);rintro e w30 ⟨rfl,hb⟩;refine⟨_,rfl,?_⟩;replace BK123:=aM (blk_below (g:=gb123) (o:= .cells #[.string (⟨#[]⟩:ByteArray),.int .i64 0,.int .i64 0] 42 (0,0)) (by(with_reducible repeat refine pB ?_);refine blk_far ?_ NB123_124.out _;(with_reducible repeat refine pB ?_);refine blk_far ?_ NB123_124.out _;(with_reducible repeat refine pB ?_);refine blk_far ?_ NB123_124.out _;(with_reducible repeat refine pB ?_);exact BK123.out) hb);replace BK124:=aM (blk_below (g:=gb124) (o:= .cells #[.string (a0.extract 0 1),.int .i64 (wrap64 ((wrap64 (bt a0 3))-48)),.int .i64 (wrap64 ((wrap64 (bt a0 1))-48))] 42 (0,0)) (by(with_reducible repeat refine pB ?_);refine blk_put (cs:=#[.string (a0.extract 0 1),.int .i64 (wrap64 ((wrap64 (bt a0 3))-48)),.int .i64 0]) ?_ 2 _ rfl;(with_reducible repeat refine pB ?_);refine blk_put (cs:=#[.string (a0.extract 0 1),.int .i64 0,.int .i64 0]) ?_ 1 _ rfl;(with_reducible repeat refine pB ?_);refine blk_put (cs:=#[.string (⟨#[]⟩:ByteArray),.int .i64 0,.int .i64 0]) ?_ 0 _ rfl;(with_reducible repeat refine pB ?_);exact BK124.out) hb);replace HB:=aM (below_step aG hb);(try clear hb);(try clear hb2);(try clear hk);(try clear hi);have hcz31_0:w30.cell? ⟨gb123,0,none⟩=some (.string (⟨#[]⟩:ByteArray)):=(blk_cell BK123.out 0).trans rfl;have hcz31_1:w30.cell? ⟨gb123,1,none⟩=some (.int .i64 0):=(blk_cell BK123.out 1).trans rfl;have hcz31_2:w30.cell? ⟨gb123,2,none⟩=some (.int .i64 0):=(blk_cell BK123.out 2).trans rfl;have hfz31_0:=blk_frozen BK123.out 0;have hfz31_1:=blk_frozen BK123.out 1;have hfz31_2:=blk_frozen BK123.out 2))
       refine bodyPost_ret (results_ct rfl _ _ gb123 42 #[.string (⟨#[]⟩:ByteArray),.int .i64 0,.int .i64 0] (0,0) _ rfl (by(with_reducible repeat refine pB ?_);refine blk_put (cs:=#[.string (⟨#[]⟩:ByteArray),.int .i64 0,.int .i64 0]) ?_ 2 _ rfl;(with_reducible repeat refine pB ?_);refine blk_put (cs:=#[.string (⟨#[]⟩:ByteArray),.int .i64 0,.int .i64 0]) ?_ 1 _ rfl;(with_reducible repeat refine pB ?_);refine blk_put (cs:=#[.string (⟨#[]⟩:ByteArray),.int .i64 0,.int .i64 0]) ?_ 0 _ rfl;(with_reducible repeat refine pB ?_);exact BK123.out) Tryz.underlying42 rfl (by kernel_rfl)) rfl ?_;exact⟨aE,aG⟩
     ·rw[if_neg c7] at H;exact absurd H (by simp)
    ·rw[if_neg c5] at H;exact absurd H (by simp)
   ·rw[if_neg c4] at H;exact absurd H (by simp)
  ·rw[if_neg c3] at H;exact absurd H (by simp)
 ·rw[if_neg c2] at H;have c2b0:((a0.size:Int)==4)=false:=beq_eq_false_iff_ne.mpr c2;have c2b1:((a0.size:Int) !=4)=true:=bne_iff_ne.mpr c2;simp only[Option.some.injEq,Prod.mk.injEq] at H;obtain⟨rfl,rfl,rfl,rfl⟩:=H
  go_enter Tryz.func19,Tryz.ntmps19
  go_wp2_with (first|((with_reducible refine gate_dst (N:=2) rfl ?_);refine bE 2 (cs:=#[.string (⟨#[]⟩:ByteArray),.int .i64 0,.int .i64 0]) (t:=42) ?_;intro gb123 hg w32 hbox hb;have BK123:=aM (hbox);have GW123:=aM ((by rw[hg];exact(below_size aB):w.heap.size≤gb123));have GE123:=aM ((by rw[hg];exact(below_size aB):w.heap.size≤gb123));replace HB:=aM (below_step aB hb);clear hb hbox hg;have hcz33_0:w32.cell? ⟨gb123,0,none⟩=some (.string (⟨#[]⟩:ByteArray)):=(blk_cell BK123.out 0).trans rfl;have hcz33_1:w32.cell? ⟨gb123,1,none⟩=some (.int .i64 0):=(blk_cell BK123.out 1).trans rfl;have hcz33_2:w32.cell? ⟨gb123,2,none⟩=some (.int .i64 0):=(blk_cell BK123.out 2).trans rfl;have hfz33_0:=blk_frozen BK123.out 0;have hfz33_1:=blk_frozen BK123.out 1;have hfz33_2:=blk_frozen BK123.out 2))
  refine bodyPost_ret (results_ct rfl _ _ gb123 42 #[.string (⟨#[]⟩:ByteArray),.int .i64 0,.int .i64 0] (0,0) _ rfl (by(with_reducible repeat refine pB ?_);refine blk_put (cs:=#[.string (⟨#[]⟩:ByteArray),.int .i64 0,.int .i64 0]) ?_ 2 _ rfl;(with_reducible repeat refine pB ?_);refine blk_put (cs:=#[.string (⟨#[]⟩:ByteArray),.int .i64 0,.int .i64 0]) ?_ 1 _ rfl;(with_reducible repeat refine pB ?_);refine blk_put (cs:=#[.string (⟨#[]⟩:ByteArray),.int .i64 0,.int .i64 0]) ?_ 0 _ rfl;(with_reducible repeat refine pB ?_);exact BK123.out) Tryz.underlying42 rfl (by kernel_rfl)) rfl ?_;exact⟨aE,aG⟩

/-! ### spec_RelationIndex: function 52 -/
def spec_RelationIndex.l0:Nat→List (S42)→ByteArray→Int→Option (Int)
 |0,_,_,_=>none
 |k+1,x0,x1,x5=>if x5<(x0.length:Int) then(if 0≤x5 then(if((rd_T42 x0 x5).f0).toList=x1.toList then(some x5) else(spec_RelationIndex.l0 k x0 x1 (wrap64 (x5+1)))) else(none)) else(some (-1))
def spec_RelationIndex.f (k:Nat) (l0:List (S42)) (a1:ByteArray):Option (Int):=spec_RelationIndex.l0 k l0 a1 0
set_option maxHeartbeats 8000000 in
set_option maxRecDepth 100000 in
theorem spec_RelationIndex.calls (k:Nat) (A0:Option Addr) (c0:Nat) (l0:List (S42)) (a1:ByteArray) (r:Int) (w:World) (hr0:Kd.C k42 w A0 l0.length l0) (hc0:l0.length≤c0) (h:spec_RelationIndex.f k l0 a1=some r):
  Calls Tryz.prog 52 #[.slice A0 l0.length c0,.string a1] w fun e w'=>e= .returned (.int .i64 r)∧Drawn0 w w':=by
 unfold spec_RelationIndex.f at h
 ·go_enter Tryz.func52,Tryz.ntmps52
  go_wp2
  go_loopg [5] k (fun kq v5 w'=> ∃(x5_0:Int),v5= .int .i64 x5_0∧spec_RelationIndex.l0 kq l0 a1 x5_0=some r∧Drawn0 w w')
  case atStart=>exact⟨_,zR,zA,zD⟩
  case round=>
   clear h;obtain⟨x5_0,rfl,h,hb⟩:=hrel;have hd:=hb;replace hb:=hb.below;replace hb:=aM hb;have HB:Below w.heap.size w wr:=zB
   rcases gk with _|kk0
   exact absurd h (by simp[spec_RelationIndex.l0]);simp only[spec_RelationIndex.l0] at h;replace h:=il h;rcases h with ⟨c1,c1a,h⟩|⟨c1,c1a,h⟩
   replace h:=ie h;rcases h with ⟨c2,c2a,h⟩|⟨c2,c2a,h⟩
   replace h:=iq h;rcases h with ⟨c3,⟨c3a,c3b⟩,h⟩|⟨c3,⟨c3a,c3b⟩,h⟩
   obtain rfl:=si h;obtain⟨ad126,e126,hx126_0,hx126_1,hx126_2⟩:=at_T42 hr0 (x5_0:Int) aD aD;have p126:=eq_true (aD:0≤(x5_0:Int));have q126:=eq_true (aD:x5_0<(l0.length:Int))
   cases e126
   replace hx126_0:=qa hx126_0;replace hx126_1:=qa hx126_1;replace hx126_2:=qa hx126_2
   rotate_left
   obtain⟨kf,hkf⟩: ∃kf,kf=kk0:=⟨_,rfl⟩;rw[←hkf] at h;obtain⟨ad126,e126,hx126_0,hx126_1,hx126_2⟩:=at_T42 hr0 (x5_0:Int) aD aD;have p126:=eq_true (aD:0≤(x5_0:Int));have q126:=eq_true (aD:x5_0<(l0.length:Int))
   cases e126
   replace hx126_0:=qa hx126_0;replace hx126_1:=qa hx126_1;replace hx126_2:=qa hx126_2
   rotate_left
   exact absurd h (by simp);obtain rfl:=si h
   rotate_left
   all_goals (go_wp2;first|(go_ret;exact zE zD)|(go_roundg kf;(case measure=>omega);(case rel=>exact⟨_,zR,zA,zD⟩)))

/-! ### impl_within: function 94 -/
def impl_within.f (a0:Int) (a1:Int) (a2:Int):Option (Bool):=if a1≤a0 then(some (decide (a0≤a2))) else(some false)
set_option maxHeartbeats 8000000 in
set_option maxRecDepth 100000 in
theorem impl_within.calls (a0:Int) (a1:Int) (a2:Int) (r:Bool) (w:World) (h:impl_within.f a0 a1 a2=some r):
  Calls Tryz.prog 94 #[.int .i64 a0,.int .i64 a1,.int .i64 a2] w fun e w'=>e= .returned (.bool r)∧Drawn0 w w':=by
 unfold impl_within.f at h;replace h:=ie h;rcases h with ⟨c0,c0a,h⟩|⟨c0,c0a,h⟩
 obtain rfl:=si h
 rotate_left
 obtain rfl:=si h
 rotate_left
 all_goals (go_enter Tryz.func94,Tryz.ntmps94;go_wp2;go_ret;exact zE zD)

/-! ### impl_IsValidRelation: function 69 -/
def impl_IsValidRelation.f (a0_0:ByteArray) (a0_1:Int) (a0_2:Int):Option (Bool):=if(a0_0.size:Int)=1 then(if 0<(a0_0.size:Int) then(if(bt a0_0 0)≥97 then(if(bt a0_0 0)≤122 then((impl_within.f a0_1 1 3).bind fun t128=>(if t128=true then((impl_within.f a0_2 0 a0_1).bind fun t129=>(some t129)) else(some false))) else(some false)) else(some false)) else(none)) else(some false)
set_option maxHeartbeats 8000000 in
set_option maxRecDepth 100000 in
theorem impl_IsValidRelation.calls (a0_0:ByteArray) (a0_1:Int) (a0_2:Int) (r:Bool) (w:World) (h:impl_IsValidRelation.f a0_0 a0_1 a0_2=some r):
  Calls Tryz.prog 69 #[.agg #[.string a0_0,.int .i64 a0_1,.int .i64 a0_2]] w fun e w'=>e= .returned (.bool r)∧Below w.heap.size w w':=by
 have hu42:=Tryz.underlying42;obtain⟨W,hW⟩: ∃W,w.alloc (.cells #[.string a0_0,.int .i64 a0_1,.int .i64 a0_2] 42)=W:=⟨_,rfl⟩;have q0:=qa (w:=W) (p:=⟨w.heap.size,0,none⟩) (v:= .string a0_0) (by subst hW;go_simp);have q1:=qa (w:=W) (p:=⟨w.heap.size,1,none⟩) (v:= .int .i64 a0_1) (by subst hW;go_simp);have q2:=qa (w:=W) (p:=⟨w.heap.size,2,none⟩) (v:= .int .i64 a0_2) (by subst hW;go_simp);have HB:Below w.heap.size w W:=by subst hW;exact zB
 have HW:=Below.refl W.heap.size W;have hb:=aM HB;unfold impl_IsValidRelation.f at h;replace h:=iq h;rcases h with ⟨c0,⟨c0a,c0b⟩,h⟩|⟨c0,⟨c0a,c0b⟩,h⟩
 replace h:=il h;rcases h with ⟨c1,c1a,h⟩|⟨c1,c1a,h⟩
 have cz:=c1.out;have c1x1:decide (0<a0_0.size)=true:=decide_eq_true (by omega);clear cz;replace h:=ih h;rcases h with ⟨c2,c2a,h⟩|⟨c2,c2a,h⟩
 replace h:=ie h;rcases h with ⟨c3,c3a,h⟩|⟨c3,c3a,h⟩
 replace h:=bs h;obtain⟨t128,B4,h⟩:=h;replace h:=ib h;rcases h with ⟨rfl,h⟩|⟨rfl,h⟩
 replace h:=bs h;obtain⟨t129,B6,h⟩:=h;obtain rfl:=si h;have hxb1: ∀h:0<a0_0.size,((a0_0[0]'h).toNat:Int)=bt a0_0 0:=bt_at a0_0 0;have qib1:=eq_true (aD:0<(a0_0.size:Int));have qb1:(0<a0_0.size)=True:=eq_true (by have:(0:Int)<(a0_0.size:Int):=aD;omega);have hxb2: ∀h:0<a0_0.size,((a0_0[0]'h).toNat:Int)=bt a0_0 0:=bt_at a0_0 0;have qib2:=eq_true (aD:0<(a0_0.size:Int));have qb2:(0<a0_0.size)=True:=eq_true (by have:(0:Int)<(a0_0.size:Int):=aD;omega)
 rotate_left
 obtain rfl:=si h;have hxb3: ∀h:0<a0_0.size,((a0_0[0]'h).toNat:Int)=bt a0_0 0:=bt_at a0_0 0;have qib3:=eq_true (aD:0<(a0_0.size:Int));have qb3:(0<a0_0.size)=True:=eq_true (by have:(0:Int)<(a0_0.size:Int):=aD;omega);have hxb4: ∀h:0<a0_0.size,((a0_0[0]'h).toNat:Int)=bt a0_0 0:=bt_at a0_0 0;have qib4:=eq_true (aD:0<(a0_0.size:Int));have qb4:(0<a0_0.size)=True:=eq_true (by have:(0:Int)<(a0_0.size:Int):=aD;omega)
 rotate_left
 obtain rfl:=si h;have hxb5: ∀h:0<a0_0.size,((a0_0[0]'h).toNat:Int)=bt a0_0 0:=bt_at a0_0 0;have qib5:=eq_true (aD:0<(a0_0.size:Int));have qb5:(0<a0_0.size)=True:=eq_true (by have:(0:Int)<(a0_0.size:Int):=aD;omega);have hxb6: ∀h:0<a0_0.size,((a0_0[0]'h).toNat:Int)=bt a0_0 0:=bt_at a0_0 0;have qib6:=eq_true (aD:0<(a0_0.size:Int));have qb6:(0<a0_0.size)=True:=eq_true (by have:(0:Int)<(a0_0.size:Int):=aD;omega)
 rotate_left
 obtain rfl:=si h;have hxb7: ∀h:0<a0_0.size,((a0_0[0]'h).toNat:Int)=bt a0_0 0:=bt_at a0_0 0;have qib7:=eq_true (aD:0<(a0_0.size:Int));have qb7:(0<a0_0.size)=True:=eq_true (by have:(0:Int)<(a0_0.size:Int):=aD;omega)
 rotate_left
 exact absurd h (by simp);obtain rfl:=si h
 rotate_left
 all_goals (go_enter Tryz.func69,Tryz.ntmps69;go_wp2_with (first|(go_at_call 94;refine(impl_within.calls _ _ _ ?_ _ ?h).mono ?_;(case h=>exact zA);rintro e w1 ⟨rfl,hb⟩;replace hb:=hb.below;replace hb:=aM hb;have HW:Below W.heap.size W w1:=zB;have HB:Below w.heap.size w w1:=zB));go_ret;exact zE zB)

end Go.Proofs.YtckpikfbhlhhjaaGreatDoor.PFnDatabaseFormat
