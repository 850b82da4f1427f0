import Derived.Test.YtckpikfbhlhhjaaGreatDoorPFnDatabaseFormatx0
import Derived.Test.YtckpikfbhlhhjaaGreatDoorPFnDatabaseFormatx2
import Derived.Test.YtckpikfbhlhhjaaGreatDoorPFnDatabaseFormatx4
import Derived.Test.YtckpikfbhlhhjaaGreatDoorPFnDatabaseFormatx6
namespace Go.Proofs.YtckpikfbhlhhjaaGreatDoor.PFnDatabaseFormat
open Go.RowKit Go.Proofs.YtckpikfbhlhhjaaGreatDoorW.PrintWords Go.Proofs.YtckpikfbhlhhjaaGreatDoorW.PrintLast Go.Proofs.YtckpikfbhlhhjaaGreatDoorW.PrintMore
attribute [local go_sem] max2_int min2_int max_two min_two max_three min_three max_four min_four
set_option linter.unusedVariables false
set_option linter.unusedSimpArgs false

/-! ### spec_ParseDatabase: function 5 -/
mutual
def spec_ParseDatabase.j1:Nat→ByteArray→List ByteArray→List (S42)→Option ((List (S42))×(List (S47))×Bool)
 |0,_,_,_=>none
 |k+1,x0,x4,x201000=>if 1<(x4.length:Int) then((spec_l6Cut.f k (rdOf ByteArray.empty x4 1) 32).bind fun t216=>(spec_ParseDatabase.l1 k x0 x4 t216 0 x201000 ([] :List (S47)))) else(none)
def spec_ParseDatabase.l1:Nat→ByteArray→List ByteArray→List ByteArray→Int→List (S42)→List (S47)→Option ((List (S42))×(List (S47))×Bool)
 |0,_,_,_,_,_,_=>none
 |k+1,x0,x4,x6,x10,x201000,x201001=>if x10<(x6.length:Int) then(if 1<(x4.length:Int) then(if(rdOf ByteArray.empty x4 1).toList=([] :List UInt8) then((spec_FormatDatabase.f k x201000 x201001).bind fun t220=>(if t220.toList=x0.toList then(some (x201000,x201001,true)) else(some (([] :List (S42)),([] :List (S47)),false)))) else(if 0≤x10 then((spec_ParseFact.f k x201000 (rdOf ByteArray.empty x6 x10)).bind fun bt222=>(if x201001.length<4398046511104 then(spec_ParseDatabase.l1 k x0 x4 x6 (wrap64 (x10+1)) x201000 (x201001++ [(⟨bt222.1,bt222.2.1⟩:S47)])) else(none))) else(none))) else(none)) else((spec_FormatDatabase.f k x201000 x201001).bind fun t231=>(if t231.toList=x0.toList then(some (x201000,x201001,true)) else(some (([] :List (S42)),([] :List (S47)),false))))
def spec_ParseDatabase.l0:Nat→ByteArray→List ByteArray→List ByteArray→Int→List (S42)→Option ((List (S42))×(List (S47))×Bool)
 |0,_,_,_,_,_=>none
 |k+1,x0,x4,x6,x7,x201000=>if x7<(x6.length:Int) then(if 0<(x4.length:Int) then(if(rdOf ByteArray.empty x4 0).toList=([] :List UInt8) then(spec_ParseDatabase.j1 k x0 x4 x201000) else(if 0≤x7 then((spec_ParseRelation.f k (rdOf ByteArray.empty x6 x7)).bind fun bt207=>(if x201000.length<4398046511104 then(spec_ParseDatabase.l0 k x0 x4 x6 (wrap64 (x7+1)) (x201000++ [(⟨bt207.1,bt207.2.1,bt207.2.2.1⟩:S42)])) else(none))) else(none))) else(none)) else(spec_ParseDatabase.j1 k x0 x4 x201000)
end
def spec_ParseDatabase.f (k:Nat) (a0:ByteArray):Option ((List (S42))×(List (S47))×Bool):=(spec_l6Cut.f k a0 58).bind fun t197=>(if(t197.length:Int)=2 then(if 0<(t197.length:Int) then((spec_l6Cut.f k (rdOf ByteArray.empty t197 0) 32).bind fun t202=>(spec_ParseDatabase.l0 k a0 t197 t202 0 ([] :List (S42)))) else(none)) else(some (([] :List (S42)),([] :List (S47)),false)))
def spec_ParseDatabase.T15:Bool×List (List Nat×List Nat):=(true,[([],[]),([0],[0]),([],[]),([],[]),([2,3],[2,3]),([4],[4]),([1,5],[1,5]),([6],[6]),([7],[7]),([7],[7]),([],[]),([10,8,6,0,1,2,3,4,5,6,7,8,10],[8,10]),([9,11,0,1,2,3,4,5,6,7,8,9,10,11],[9])])
def spec_ParseDatabase.B15:List Nat:= [0,1,0,0,12,28,63,127,255,255,0,1535,4095]
theorem spec_ParseDatabase.tab15:rtab .any (opsOf Tryz.f5 15)=spec_ParseDatabase.T15:=by kernel_rfl
theorem spec_ParseDatabase.bits15:waitsOk spec_ParseDatabase.T15.2 spec_ParseDatabase.B15=true:=by kernel_rfl
set_option maxHeartbeats 8000000 in
set_option maxRecDepth 100000 in
theorem spec_ParseDatabase.calls (k:Nat) (a0:ByteArray) (r1:List (S42)) (r2:List (S47)) (r3:Bool) (w:World) (h:spec_ParseDatabase.f k a0=some (r1,r2,r3)):
  Calls Tryz.prog 5 #[.string a0] w fun e w'=> ∃v0_ v1_:Value,e= .returned (.tuple #[.agg #[v0_,v1_],.bool r3])∧Kd.R k42 42 w' w.heap.size (fun _=>True) v0_ r1∧Kd.S k47 47 w' w.heap.size (fun _=>True) v1_ r2∧Below w.heap.size w w':=by
 have hu25:=Tryz.underlying25;have hu42:=Tryz.underlying42;have hu47:=Tryz.underlying47;have HB:=aM (Below.refl w.heap.size w);have H:((spec_l6Cut.f k a0 58).bind fun t197=>(if(t197.length:Int)=2 then(if 0<(t197.length:Int) then((spec_l6Cut.f k (rdOf ByteArray.empty t197 0) 32).bind fun t202=>(spec_ParseDatabase.l0 k a0 t197 t202 0 ([] :List (S42)))) else(none)) else(some (([] :List (S42)),([] :List (S47)),false))))=some (r1,r2,r3):=h;clear h;replace H:=bM H;obtain⟨t197,A20,H⟩:=H;have A2:=aM A20;clear A20
 by_cases c3:(t197.length:Int)=2
 ·rw[if_pos c3] at H;have c3b0:((t197.length:Int)==2)=true:=beq_iff_eq.mpr c3;have c3b1:((t197.length:Int) !=2)=false:=bne_eq_false_iff_eq.mpr c3;clear c3
  by_cases c4:0<(t197.length:Int)
  ·rw[if_pos c4] at H;have c4b0:decide (0<(t197.length:Int))=true:=decide_eq_true c4;have c4b1:decide (0<t197.length)=true:=decide_eq_true (by omega);clear c4;replace H:=bM H;obtain⟨t202,A50,H⟩:=H;have A5:=aM A50;clear A50;have HC6:=aM H;clear H
   go_enter Tryz.func5,Tryz.ntmps5
   go_upto_block 0 with (first|((with_reducible refine gate_dst (N:=2) rfl ?_);refine bE 2 (cs:=#[.slice none 0 0,.slice none 0 0]) (t:=25) ?_;intro gb196 hg w7 hbox hb;have BK196:=aM (hbox);have GW196:=aM ((by rw[hg];exact(below_size aB):w.heap.size≤gb196));have GE196:=aM ((by rw[hg];exact(below_size aB):w.heap.size≤gb196));replace HB:=aM (below_step aB hb);clear hb hbox hg)|((with_reducible refine gate_callee (f:=18) rfl ?_);refine goesL_ (some 14) rfl rfl Tryz.func18 (by kernel_rfl) rfl #[.string a0,.int .u8 58] rfl aA ?_;(with_reducible refine(spec_l6Cut.calls k a0 58 t197 _ A2.out).mono ?_);rintro e w8 ⟨v198,rfl,ho0,hb⟩;refine⟨_,rfl,?_⟩;have HO199:=aM (Kd.R_lower ho0 (below_size aG));replace BK196:=aM (kB gb196 #[.slice none 0 0,.slice none 0 0] 25 hb);replace HB:=aM (below_step aG hb);(try clear hb);(try clear hb2);(try clear hk);(try clear hi);(try clear ho0);obtain⟨Ao9,co9,eo9⟩:=Kd.R_slice HO199.out;subst eo9)|((with_reducible refine gate_dst (N:=5) rfl ?_);refine bE 5 (cs:=#[.slice none 0 0,.slice none 0 0]) (t:=25) ?_;intro gb200 hg w10 hbox hb;have BK200:=aM (hbox);have GW200:=aM ((by rw[hg];exact(below_size aG):w.heap.size≤gb200));have GE200:=aM ((by rw[hg];exact(below_size aG):w.heap.size≤gb200));have NB196_200:=aM ((by rw[hg];exact Nat.ne_of_lt (blk_lt (g:=gb196) aK):gb196≠gb200));have NB200_196:=aM ((by rw[hg];exact Nat.ne_of_gt (blk_lt (g:=gb196) aK):gb200≠gb196));replace HO199:=aM (Kd.R_below (aR HO199) hb);replace BK196:=aM (kB gb196 #[.slice none 0 0,.slice none 0 0] 25 hb);replace HB:=aM (below_step aG hb);clear hb hbox hg;have hnb11:=NB200_196.out;have hnc11:=NB196_200.out;have hcz12_0:w10.cell? ⟨gb200,0,none⟩=some (.slice none 0 0):=(blk_cell BK200.out 0).trans rfl;have hcz12_1:w10.cell? ⟨gb200,1,none⟩=some (.slice none 0 0):=(blk_cell BK200.out 1).trans rfl;have hfz12_0:=blk_frozen BK200.out 0;have hfz12_1:=blk_frozen BK200.out 1;have p201:0≤(0:Int):=(by omega);have q201:0<(t197.length:Int):=aD;obtain⟨ad201,e201,hx201_0⟩:=Kd.at_string (Kd.R_reads' HO199.out).2.2 0 p201 q201;cases e201;have qi201:(0<t197.length)=True:=eq_true (by omega);(try rw[show((0:Int)).toNat=0 from rfl] at hx201_0);(try rw[Addr.add_zero'] at hx201_0);have hn201_0:ad201.block≠gb200:=Kd.own_blk (Kd.R_ne HO199.out BK200.out (by decide));have hn201_1:ad201.block≠gb200:=Kd.own_blk (Kd.R_ne HO199.out BK200.out (by decide));replace hx201_0:=(cell_far (p:=⟨gb200,0,none⟩) (by first|(rw[add_block];exact hn201_0)|(show(Addr.add _ _).block≠_;rw[add_block];exact hn201_0)|exact hn201_0) (.slice none 0 0)).trans hx201_0;replace hx201_0:=(cell_far (p:=⟨gb200,1,none⟩) (by first|(rw[add_block];exact hn201_1)|(show(Addr.add _ _).block≠_;rw[add_block];exact hn201_1)|exact hn201_1) (.slice none 0 0)).trans hx201_0;clear hn201_0;clear hn201_1;replace p201:=eq_true p201;replace q201:=eq_true q201)|((with_reducible refine gate_callee (f:=18) rfl ?_);refine goesL_ (some 23) rfl rfl Tryz.func18 (by kernel_rfl) rfl #[.string (rdOf ByteArray.empty t197 0),.int .u8 32] rfl aA ?_;(with_reducible refine(spec_l6Cut.calls k (rdOf ByteArray.empty t197 0) 32 t202 _ A5.out).mono ?_);rintro e w13 ⟨v203,rfl,ho0,hb⟩;refine⟨_,rfl,?_⟩;have HO204:=aM (Kd.R_lower (Kd.R_new' ho0 (Kd.R_lt (by(with_reducible repeat apply pR);exact(rF1 HO199.out BK200.out (.slice none 0 0) (.slice none 0 0))))) (below_size aG));replace HO199:=aM (Kd.R_elder' (by(with_reducible repeat apply pR);exact(rF1 HO199.out BK200.out (.slice none 0 0) (.slice none 0 0))) (Kd.R_base ho0) hb);replace BK196:=aM (blk_below (g:=gb196) (bF2 NB196_200.out BK196.out) hb);replace BK200:=aM (blk_below (g:=gb200) (bP2 BK200.out) hb);replace HB:=aM (below_step aG hb);(try clear hb);(try clear hb2);(try clear hk);(try clear hi);(try clear ho0)))
   (try simp only[Act.put,List.setIfInBounds_toArray,List.set_cons_zero,List.set_cons_succ])
   go_cut [] (fun wc=> ∃(kq:Nat) (x201000_5:List (S42)) (u201000:Value),Aside0 (spec_ParseDatabase.j1 kq a0 t197 x201000_5=some (r1,r2,r3))∧Aside0 (kq≤k)∧Aside0 (Kd.R Kd.string 9 wc w.heap.size (fun _=>True) (.slice (some ad201) t197.length co9) t197)∧Aside0 (Kd.R k42 42 wc w.heap.size (fun _=>True) u201000 x201000_5)∧Aside0 (wc.heap[gb196]? =some (.cells #[(.slice none 0 0),(.slice none 0 0)] 25 (0,0)))∧Aside0 (wc.heap[gb200]? =some (.cells #[u201000,(.slice none 0 0)] 25 (0,0)))∧Aside0 (Below w.heap.size w wc))
   case first=>
    have H:=HC6.out;clear HC6;have H':=aM H;clear H
    go_wp2
    go_loopg [7] k (fun kq v7 w'=> ∃(x7_1:Int) (x201000_1:List (S42)) (u201000:Value),v7= .int .i64 x7_1∧Aside0 (spec_ParseDatabase.l0 kq a0 t197 t202 x7_1 x201000_1=some (r1,r2,r3))∧Aside0 (kq≤k)∧Aside0 (Kd.R Kd.string 9 w' w.heap.size (fun k_=>some k_≠(v203:Value).ownBlock) (.slice (some ad201) t197.length co9) t197)∧Aside0 (Kd.R Kd.string 9 w' w.heap.size (fun k_=>some k_≠((.slice (some ad201) t197.length co9):Value).ownBlock) v203 t202)∧Aside0 (Kd.R k42 42 w' w.heap.size (fun _=>True) u201000 x201000_1)∧Aside0 (w'.heap[gb196]? =some (.cells #[(.slice none 0 0),(.slice none 0 0)] 25 (0,0)))∧Aside0 (w'.heap[gb200]? =some (.cells #[u201000,(.slice none 0 0)] 25 (0,0)))∧Aside0 (Below w.heap.size w w'))
    case atStart=>exact⟨(0),(([] :List (S42))),(.slice none 0 0),aX,H',⟨Nat.le_refl _⟩,⟨by(with_reducible repeat apply pR);exact Kd.R_mono HO199.out (fun _ hk=>hk.2)⟩,⟨by(with_reducible repeat apply pR);exact Kd.R_mono HO204.out (fun _ hk=>hk.2)⟩,⟨by first|exact Kd.R_nil _ _ _ _ _|exact Kd.N_nil _ _ _ _ _|exact Kd.V_nil _ _ _ _ _|exact Kd.Q_nil _ _ _ _ _|exact Kd.S_nil _ _ _ _ _⟩,⟨aK⟩,⟨aK⟩,⟨aG⟩⟩
    case round=>
     clear H'
     try clear c1
     try clear p2
     try clear q2
     try clear hx2
     try clear qi2
     try clear c3
     try clear c3b0
     try clear c3b1
     try clear c4
     try clear c4b0
     try clear c4b1
     try clear c5
     try clear c11
     try clear hcz12_0
     try clear hcz12_1
     try clear hfz12_0
     try clear hfz12_1
     try clear hx201_0
     try clear p201
     try clear q201
     obtain⟨x7_1,x201000_1,u201000,rfl,HA,HK1,HO_4,HO_6,HO_201000,BK196,BK200,HB⟩:=hrel
     cases gk with
     |zero=>exact absurd HA.out (by simp[spec_ParseDatabase.l0])
     |succ k1=>
      have H:=HA.out;clear HA;simp only[spec_ParseDatabase.l0] at H
      by_cases c14:x7_1<(t202.length:Int)
      ·rw[if_pos c14] at H;have c14b0:decide (x7_1<(t202.length:Int))=true:=decide_eq_true c14;clear c14;(first|rw[c14b0] |(simp only[i64_w,i32_w];rw[c14b0])|skip)
       by_cases c15:0<(t197.length:Int)
       ·rw[if_pos c15] at H;have c15b0:decide (0<(t197.length:Int))=true:=decide_eq_true c15;have c15b1:decide (0<t197.length)=true:=decide_eq_true (by omega);clear c15
        by_cases c16:(rdOf ByteArray.empty t197 0).toList=([] :List UInt8)
        ·rw[if_pos c16] at H;have c16b0:((rdOf ByteArray.empty t197 0).toList==([] :List UInt8))=true:=beq_iff_eq.mpr c16;have c16b1:((rdOf ByteArray.empty t197 0).toList !=([] :List UInt8))=false:=bne_eq_false_iff_eq.mpr c16;clear c16;have H':=aM H;clear H;obtain⟨Ao17,co17,eo17⟩:=Kd.R_slice HO_6.out;subst eo17;have p205:0≤(0:Int):=(by omega);have q205:0<(t197.length:Int):=aD;obtain⟨ad205,e205,hx205_0⟩:=Kd.at_string (Kd.R_reads' HO_4.out).2.2 0 p205 q205;obtain rfl:ad201=ad205:=(by injection e205);have qi205:(0<t197.length)=True:=eq_true (by omega);(try rw[show((0:Int)).toNat=0 from rfl] at hx205_0)
         (try rw[Addr.add_zero'] at hx205_0)
         replace p205:=eq_true p205;replace q205:=eq_true q205
         go_wp2
         go_meet
         case rel=>exact⟨_,(x201000_1),(u201000),H',⟨by have:=HK1.out;first|omega|exact Nat.le_refl _⟩,⟨by(with_reducible repeat apply pR);exact Kd.R_mono HO_4.out (fun _ hk=>trivial)⟩,⟨aR HO_201000⟩,⟨aK⟩,⟨aK⟩,⟨aG⟩⟩
        ·rw[if_neg c16] at H;have c16b0:((rdOf ByteArray.empty t197 0).toList==([] :List UInt8))=false:=beq_eq_false_iff_ne.mpr c16;have c16b1:((rdOf ByteArray.empty t197 0).toList !=([] :List UInt8))=true:=bne_iff_ne.mpr c16
         by_cases c18:0≤x7_1
         ·rw[if_pos c18] at H;have c18b0:decide (0≤x7_1)=true:=decide_eq_true c18;clear c18;replace H:=bM H;obtain⟨⟨t207,t208,t209,t210⟩,A190,H⟩:=H;dsimp only at H;have A19:=aM A190;clear A190
          by_cases c20:x201000_1.length<4398046511104
          ·rw[if_pos c20] at H;have LMc20:=aM c20;clear c20;obtain⟨y212,hy212⟩: ∃y_:List (S42),y_=(x201000_1++ [(⟨t207,t208,t209⟩:S42)]):=⟨_,rfl⟩
           first|replace H:=bY hy212 H|rw[←hy212] at H
           have Ny212:=aM hy212;clear hy212;have H':=aM H;clear H;obtain⟨Ao21,co21,eo21⟩:=Kd.R_slice HO_6.out;subst eo21;have p205:0≤(0:Int):=(by omega);have q205:0<(t197.length:Int):=aD;obtain⟨ad205,e205,hx205_0⟩:=Kd.at_string (Kd.R_reads' HO_4.out).2.2 0 p205 q205;obtain rfl:ad201=ad205:=(by injection e205);have qi205:(0<t197.length)=True:=eq_true (by omega);(try rw[show((0:Int)).toNat=0 from rfl] at hx205_0)
           (try rw[Addr.add_zero'] at hx205_0)
           replace p205:=eq_true p205;replace q205:=eq_true q205;have p206:0≤(x7_1:Int):=aD;have q206:x7_1<(t202.length:Int):=aD;obtain⟨ad206,e206,hx206_0⟩:=Kd.at_string (Kd.R_reads' HO_6.out).2.2 x7_1 p206 q206
           cases e206
           replace p206:=eq_true p206;replace q206:=eq_true q206
           go_wp2_with (first|((with_reducible refine gate_callee (f:=19) rfl ?_);refine goesL_ (some 41) rfl rfl Tryz.func19 (by kernel_rfl) rfl #[.string (rdOf ByteArray.empty t202 x7_1)] rfl aA ?_;(with_reducible refine(spec_ParseRelation.calls k1 (rdOf ByteArray.empty t202 x7_1) t207 t208 t209 t210 _ A19.out).mono ?_);rintro e w22 ⟨rfl,hb⟩;refine⟨_,rfl,?_⟩;have n0_:=aM (Kd.R_below (aR HO_4) hb);have n1_:=aM (Kd.R_below (aR HO_6) hb);have n2_:=aM (Kd.R_below (aR HO_201000) hb);have n3_:=aM (kB gb196 #[.slice none 0 0,.slice none 0 0] 25 hb);have n4_:=aM (kB gb200 #[u201000,.slice none 0 0] 25 hb);have n5_:=aM (below_step aG hb);clear HO_4;clear HO_6;clear HO_201000;clear BK196;clear BK200;clear HB;have HO_4:=n0_;have HO_6:=n1_;have HO_201000:=n2_;have BK196:=n3_;have BK200:=n4_;have HB:=n5_;clear n0_ n1_ n2_ n3_ n4_ n5_;(try clear hb);(try clear hb2);(try clear hk);(try clear hi))|((with_reducible refine gate_dst (N:=8) rfl ?_);refine bE 8 (cs:=#[.string (⟨#[]⟩:ByteArray),.int .i64 0,.int .i64 0]) (t:=42) ?_;intro gb211 hg w23 hbox hb;have n0_:=aM (Kd.R_below (aR HO_4) hb);have n1_:=aM (Kd.R_below (aR HO_6) hb);have n2_:=aM (Kd.R_below (Kd.R_elderB (aR HO_201000) gb211 (Nat.le_of_eq hg.symm)) hb);have n3_:=aM (kB gb196 #[.slice none 0 0,.slice none 0 0] 25 hb);have n4_:=aM (kB gb200 #[u201000,.slice none 0 0] 25 hb);have n5_:=aM (below_step aG hb);have n6_:=aM (hbox);have n7_:=aM ((by rw[hg];exact(below_size aG):w.heap.size≤gb211));have n8_:=aM ((by rw[hg];exact(below_size aG):w.heap.size≤gb211));have n9_:=aM ((by rw[hg];exact Nat.ne_of_lt (blk_lt (g:=gb196) aK):gb196≠gb211));have n10_:=aM ((by rw[hg];exact Nat.ne_of_gt (blk_lt (g:=gb196) aK):gb211≠gb196));have n11_:=aM ((by rw[hg];exact Nat.ne_of_lt (blk_lt (g:=gb200) aK):gb200≠gb211));have n12_:=aM ((by rw[hg];exact Nat.ne_of_gt (blk_lt (g:=gb200) aK):gb211≠gb200));clear HO_4;clear HO_6;clear HO_201000;clear BK196;clear BK200;clear HB;have HO_4:=n0_;have HO_6:=n1_;have HO_201000:=n2_;have BK196:=n3_;have BK200:=n4_;have HB:=n5_;have BK211:=n6_;have GW211:=n7_;have GE211:=n8_;have NB196_211:=n9_;have NB211_196:=n10_;have NB200_211:=n11_;have NB211_200:=n12_;clear n0_ n1_ n2_ n3_ n4_ n5_ n6_ n7_ n8_ n9_ n10_ n11_ n12_;clear hb hbox hg;have hnb24:=NB211_196.out;have hnc24:=NB196_211.out;have hnb25:=NB211_200.out;have hnc25:=NB200_211.out;have hcz26_0:w23.cell? ⟨gb211,0,none⟩=some (.string (⟨#[]⟩:ByteArray)):=(blk_cell BK211.out 0).trans rfl;have hcz26_1:w23.cell? ⟨gb211,1,none⟩=some (.int .i64 0):=(blk_cell BK211.out 1).trans rfl;have hcz26_2:w23.cell? ⟨gb211,2,none⟩=some (.int .i64 0):=(blk_cell BK211.out 2).trans rfl;have hfz26_0:=blk_frozen BK211.out 0;have hfz26_1:=blk_frozen BK211.out 1;have hfz26_2:=blk_frozen BK211.out 2;have hnb27:=NB200_196.out;have hnc27:=NB196_200.out;have hcz28_0:w23.cell? ⟨gb200,0,none⟩=some (u201000):=(blk_cell BK200.out 0).trans rfl;have hcz28_1:w23.cell? ⟨gb200,1,none⟩=some (.slice none 0 0):=(blk_cell BK200.out 1).trans rfl;have hfz28_0:=blk_frozen BK200.out 0;have hfz28_1:=blk_frozen BK200.out 1)|((with_reducible refine gate_builtin (b:= .append) (xs:=#[.tmp 45,.tmp 47]) rfl ?_);at_builtin;refine Kd.R_append k42 (w0:=w) w.heap.size rfl (.tmp 45) (.tmp 47) 22 42 (.agg #[(.string ⟨#[]⟩),(.int .i64 0),(.int .i64 0)]) 32 rfl Tryz.underlying22 info42 rfl (by decide) (by omega) u201000 x201000_1 (⟨t207,t208,t209⟩:S42) [.string t207,.int .i64 t208,.int .i64 t209] (fun k_=>k_≠gb211) (fun _=>False) rfl (by first|(go_simp;done)|(go_simp;rfl)) ?aP (fun _ hk=>hk.elim) ?aF ?aO ?aB ?aS ?aL ?_;(case aP=>exact k42_mkM _ _ _ (⟨t207,t208,t209⟩:S42));(case aB=>exact aG);(case aF=>exact(fun k_ hk=>Kd.freshB (g:=gb211) (o:= .cells #[.string t207,.int .i64 t208,.int .i64 t209] 42 (0,0)) (by(with_reducible repeat refine pB ?_);refine blk_put (cs:=#[.string t207,.int .i64 t208,.int .i64 0]) ?_ 2 _ rfl;(with_reducible repeat refine pB ?_);refine blk_put (cs:=#[.string t207,.int .i64 0,.int .i64 0]) ?_ 1 _ rfl;(with_reducible repeat refine pB ?_);refine blk_put (cs:=#[.string (⟨#[]⟩:ByteArray),.int .i64 0,.int .i64 0]) ?_ 0 _ rfl;(with_reducible repeat refine pB ?_);exact BK211.out) k_ hk));(case aO=>exact(by(with_reducible repeat apply pR);exact Kd.R_mono (Kd.R_far (p:=⟨gb211,2,none⟩) (Kd.R_far (p:=⟨gb211,1,none⟩) (Kd.R_far (p:=⟨gb211,0,none⟩) (Kd.R_mono HO_201000.out (fun k_ hk=>(⟨hk,hk.2⟩:_∧k_≠gb211))) (fun _ hk=>hk.2) (.string t207)) (fun _ hk=>hk.2) (.int .i64 t208)) (fun _ hk=>hk.2) (.int .i64 t209)) (fun _ hk=>hk.1.2)));(case aS=>exact(below_size aG));(case aL=>have:=LMc20.out;omega);intro v213 w29 ho hb hg hat;rw[←Ny212.out] at ho;have HO214:=aM (ho);replace HO_4:=aM (Kd.R_over' (by(with_reducible repeat apply pR);exact(Kd.R_mono (Kd.R_far (p:=⟨gb211,2,none⟩) (Kd.R_far (p:=⟨gb211,1,none⟩) (Kd.R_far (p:=⟨gb211,0,none⟩) (Kd.R_types HO_4.out BK211.out (by decide)) (fun _ hk=>hk.2) (.string t207)) (fun _ hk=>hk.2) (.int .i64 t208)) (fun _ hk=>hk.2) (.int .i64 t209)) (fun _ h_=>h_.1))) (Kd.R_typed (by(with_reducible repeat apply pR);exact(Kd.R_mono (Kd.R_far (p:=⟨gb211,2,none⟩) (Kd.R_far (p:=⟨gb211,1,none⟩) (Kd.R_far (p:=⟨gb211,0,none⟩) (Kd.R_mono HO_201000.out (fun k_ hk=>(⟨hk,hk.2⟩:_∧k_≠gb211))) (fun _ hk=>hk.2) (.string t207)) (fun _ hk=>hk.2) (.int .i64 t208)) (fun _ hk=>hk.2) (.int .i64 t209)) (fun _ h_=>h_.1)))) (by decide) hg);replace HO_6:=aM (Kd.R_over' (by(with_reducible repeat apply pR);exact(Kd.R_mono (Kd.R_far (p:=⟨gb211,2,none⟩) (Kd.R_far (p:=⟨gb211,1,none⟩) (Kd.R_far (p:=⟨gb211,0,none⟩) (Kd.R_types HO_6.out BK211.out (by decide)) (fun _ hk=>hk.2) (.string t207)) (fun _ hk=>hk.2) (.int .i64 t208)) (fun _ hk=>hk.2) (.int .i64 t209)) (fun _ h_=>h_.1))) (Kd.R_typed (by(with_reducible repeat apply pR);exact(Kd.R_mono (Kd.R_far (p:=⟨gb211,2,none⟩) (Kd.R_far (p:=⟨gb211,1,none⟩) (Kd.R_far (p:=⟨gb211,0,none⟩) (Kd.R_mono HO_201000.out (fun k_ hk=>(⟨hk,hk.2⟩:_∧k_≠gb211))) (fun _ hk=>hk.2) (.string t207)) (fun _ hk=>hk.2) (.int .i64 t208)) (fun _ hk=>hk.2) (.int .i64 t209)) (fun _ h_=>h_.1)))) (by decide) hg);replace BK196:=aM (blk_grown (g:=gb196) (o:= .cells #[.slice none 0 0,.slice none 0 0] 25 (0,0)) (by(with_reducible repeat refine pB ?_);refine blk_far ?_ NB196_211.out _;(with_reducible repeat refine pB ?_);refine blk_far ?_ NB196_211.out _;(with_reducible repeat refine pB ?_);refine blk_far ?_ NB196_211.out _;(with_reducible repeat refine pB ?_);exact BK196.out) hg (Kd.R_ne HO_201000.out BK196.out (by decide)));replace BK200:=aM (blk_grown (g:=gb200) (o:= .cells #[u201000,.slice none 0 0] 25 (0,0)) (by(with_reducible repeat refine pB ?_);refine blk_far ?_ NB200_211.out _;(with_reducible repeat refine pB ?_);refine blk_far ?_ NB200_211.out _;(with_reducible repeat refine pB ?_);refine blk_far ?_ NB200_211.out _;(with_reducible repeat refine pB ?_);exact BK200.out) hg (Kd.R_ne HO_201000.out BK200.out (by decide)));replace BK211:=aM (blk_grown (g:=gb211) (o:= .cells #[.string t207,.int .i64 t208,.int .i64 t209] 42 (0,0)) (by(with_reducible repeat refine pB ?_);refine blk_put (cs:=#[.string t207,.int .i64 t208,.int .i64 0]) ?_ 2 _ rfl;(with_reducible repeat refine pB ?_);refine blk_put (cs:=#[.string t207,.int .i64 0,.int .i64 0]) ?_ 1 _ rfl;(with_reducible repeat refine pB ?_);refine blk_put (cs:=#[.string (⟨#[]⟩:ByteArray),.int .i64 0,.int .i64 0]) ?_ 0 _ rfl;(with_reducible repeat refine pB ?_);exact BK211.out) hg (Kd.R_away HO_201000.out (fun _ hk=>hk.2)));replace HB:=aM (hb);clear HO_201000;clear ho hb hg hat;obtain⟨Ao30,co30,eo30⟩:=Kd.R_slice HO214.out;subst eo30;have hcz31_0:w29.cell? ⟨gb200,0,none⟩=some (u201000):=(blk_cell BK200.out 0).trans rfl;have hcz31_1:w29.cell? ⟨gb200,1,none⟩=some (.slice none 0 0):=(blk_cell BK200.out 1).trans rfl;have hfz31_0:=blk_frozen BK200.out 0;have hfz31_1:=blk_frozen BK200.out 1))
           go_roundg k1
           case measure=>have:=HK1.out;omega
           case rel=>exact⟨(wrap64 (x7_1+1)),(y212),(.slice Ao30 y212.length co30),aX,H',⟨by have:=HK1.out;omega⟩,⟨by(with_reducible repeat apply pR);exact Kd.R_mono (Kd.R_far (p:=⟨gb200,0,none⟩) (Kd.R_types HO_4.out BK200.out (by decide)) (fun _ hk=>hk.2) (.slice Ao30 y212.length co30)) (fun _ hk=>hk.1)⟩,⟨by(with_reducible repeat apply pR);exact Kd.R_mono (Kd.R_far (p:=⟨gb200,0,none⟩) (Kd.R_types HO_6.out BK200.out (by decide)) (fun _ hk=>hk.2) (.slice Ao30 y212.length co30)) (fun _ hk=>hk.1)⟩,⟨by(with_reducible repeat apply pR);exact Kd.R_mono (Kd.R_far (p:=⟨gb200,0,none⟩) (Kd.R_types HO214.out BK200.out (by decide)) (fun _ hk=>hk.2) (.slice Ao30 y212.length co30)) (fun _ hk=>trivial)⟩,⟨by(with_reducible repeat refine pB ?_);refine blk_far ?_ NB196_200.out _;(with_reducible repeat refine pB ?_);exact BK196.out⟩,⟨by(with_reducible repeat refine pB ?_);refine blk_put (cs:=#[u201000,.slice none 0 0]) ?_ 0 _ rfl;(with_reducible repeat refine pB ?_);exact BK200.out⟩,⟨aG⟩⟩
          ·rw[if_neg c20] at H;exact absurd H (by simp)
         ·rw[if_neg c18] at H;exact absurd H (by simp)
       ·rw[if_neg c15] at H;exact absurd H (by simp)
      ·rw[if_neg c14] at H;have c14b0:decide (x7_1<(t202.length:Int))=false:=decide_eq_false c14;clear c14;(first|rw[c14b0] |(simp only[i64_w,i32_w];rw[c14b0])|skip)
       have H':=aM H;clear H;obtain⟨Ao32,co32,eo32⟩:=Kd.R_slice HO_6.out;subst eo32
       go_wp2
       go_meet
       case rel=>exact⟨_,(x201000_1),(u201000),H',⟨by have:=HK1.out;first|omega|exact Nat.le_refl _⟩,⟨by(with_reducible repeat apply pR);exact Kd.R_mono HO_4.out (fun _ hk=>trivial)⟩,⟨aR HO_201000⟩,⟨aK⟩,⟨aK⟩,⟨aG⟩⟩
   case rest=>
    clear HC6
    try clear c1
    try clear c2
    try clear p2
    try clear q2
    try clear hx2
    try clear qi2
    try clear c3
    try clear c3b0
    try clear c3b1
    try clear c4
    try clear c4b0
    try clear c4b1
    try clear c5
    try clear p6
    try clear c11
    try clear c14
    try clear c14b0
    try clear c15
    try clear c15b0
    try clear c15b1
    try clear c16
    try clear c16b0
    try clear c16b1
    try clear c18
    try clear c18b0
    try clear c19
    try clear c20
    try clear p20
    try clear q20
    try clear hx20
    try clear qi20
    try clear c24
    try clear c25
    try clear c27
    try clear hcz12_0
    try clear hcz12_1
    try clear hcz26_0
    try clear hcz26_1
    try clear hcz26_2
    try clear hcz28_0
    try clear hcz28_1
    try clear hcz31_0
    try clear hcz31_1
    try clear hfz12_0
    try clear hfz12_1
    try clear hfz26_0
    try clear hfz26_1
    try clear hfz26_2
    try clear hfz28_0
    try clear hfz28_1
    try clear hfz31_0
    try clear hfz31_1
    try clear hx201_0
    try clear hx205_0
    try clear hx206_0
    try clear p2
    try clear p201
    try clear p205
    try clear p206
    try clear q2
    try clear q201
    try clear q205
    try clear q206
    obtain⟨kq,x201000_5,u201000,HA,HJ5,HO_4,HO_201000,BK196,BK200,HB⟩:=hcut
    cases kq with
    |zero=>exact absurd HA.out (by simp[spec_ParseDatabase.j1])
    |succ kj5=>
     have H:=HA.out;clear HA;simp only[spec_ParseDatabase.j1] at H
     by_cases c33:1<(t197.length:Int)
     ·rw[if_pos c33] at H;have c33b0:decide (1<(t197.length:Int))=true:=decide_eq_true c33;have c33b1:decide (1<t197.length)=true:=decide_eq_true (by omega);clear c33;replace H:=bM H;obtain⟨t216,A340,H⟩:=H;have A34:=aM A340;clear A340;have H':=aM H;clear H;have p215:0≤(1:Int):=(by omega);have q215:1<(t197.length:Int):=aD;obtain⟨ad215,e215,hx215_0⟩:=Kd.at_string (Kd.R_reads' HO_4.out).2.2 1 p215 q215;obtain rfl:ad201=ad215:=(by injection e215);(try simp only[show(1:Int).toNat=1 from rfl,Nat.reduceMul,Nat.reduceEqDiff,Go.Addr.add,↓reduceIte] at hx215_0)
      have qi215:(1<t197.length)=True:=eq_true (by omega);(try rw[show((1:Int)).toNat=1 from rfl] at hx215_0)
      replace p215:=eq_true p215;replace q215:=eq_true q215
      go_wp2_with (first|((with_reducible refine gate_callee (f:=18) rfl ?_);refine goesL_ (some 53) rfl rfl Tryz.func18 (by kernel_rfl) rfl #[.string (rdOf ByteArray.empty t197 1),.int .u8 32] rfl aA ?_;(with_reducible refine(spec_l6Cut.calls kj5 (rdOf ByteArray.empty t197 1) 32 t216 _ A34.out).mono ?_);rintro e w35 ⟨v217,rfl,ho0,hb⟩;refine⟨_,rfl,?_⟩;have n0_:=aM (Kd.R_elder' (aR HO_4) (Kd.R_base ho0) hb);have n1_:=aM (Kd.R_below (aR HO_201000) hb);have n2_:=aM (Kd.R_lower (Kd.R_new' ho0 (Kd.R_lt (aR HO_4))) (below_size aG));have n3_:=aM (kB gb196 #[.slice none 0 0,.slice none 0 0] 25 hb);have n4_:=aM (kB gb200 #[u201000,.slice none 0 0] 25 hb);have n5_:=aM (below_step aG hb);clear HO_4;clear HO_201000;clear BK196;clear BK200;clear HB;have HO_4:=n0_;have HO_201000:=n1_;have HO218:=n2_;have BK196:=n3_;have BK200:=n4_;have HB:=n5_;clear n0_ n1_ n2_ n3_ n4_ n5_;(try clear hb);(try clear hb2);(try clear hk);(try clear hi);(try clear ho0)))
      go_loopg [10] kj5 (fun kq v10 w'=> ∃(x10_2:Int) (x201001_2:List (S47)) (u201001:Value),v10= .int .i64 x10_2∧Aside0 (spec_ParseDatabase.l1 kq a0 t197 t216 x10_2 x201000_5 x201001_2=some (r1,r2,r3))∧Aside0 (kq≤kj5)∧Aside0 (Kd.R Kd.string 9 w' w.heap.size (fun k_=>some k_≠(v217:Value).ownBlock) (.slice (some ad201) t197.length co9) t197)∧Aside0 (Kd.R Kd.string 9 w' w.heap.size (fun k_=>some k_≠((.slice (some ad201) t197.length co9):Value).ownBlock) v217 t216)∧Aside0 (Kd.R k42 42 w' w.heap.size (fun _=>True) u201000 x201000_5)∧Aside0 (Kd.S k47 47 w' w.heap.size (fun _=>True) u201001 x201001_2)∧Aside0 (w'.heap[gb196]? =some (.cells #[(.slice none 0 0),(.slice none 0 0)] 25 (0,0)))∧Aside0 (w'.heap[gb200]? =some (.cells #[u201000,u201001] 25 (0,0)))∧Aside0 (Below w.heap.size w w'))
      case atStart=>exact⟨(0),(([] :List (S47))),(.slice none 0 0),aX,H',⟨Nat.le_refl _⟩,⟨by(with_reducible repeat apply pR);exact Kd.R_mono HO_4.out (fun _ hk=>hk.2)⟩,⟨by(with_reducible repeat apply pR);exact Kd.R_mono HO218.out (fun _ hk=>hk.2)⟩,⟨aR HO_201000⟩,⟨by first|exact Kd.S_nil _ _ _ _ _|exact Kd.N_nil _ _ _ _ _|exact Kd.V_nil _ _ _ _ _|exact Kd.Q_nil _ _ _ _ _|exact Kd.R_nil _ _ _ _ _⟩,⟨aK⟩,⟨aK⟩,⟨aG⟩⟩
      case round=>
       clear H'
       try clear c1
       try clear c2
       try clear p2
       try clear q2
       try clear hx2
       try clear qi2
       try clear c3
       try clear c3b0
       try clear c3b1
       try clear c4
       try clear c4b0
       try clear c4b1
       try clear c5
       try clear p6
       try clear c11
       try clear c14
       try clear c14b0
       try clear c15
       try clear c15b0
       try clear c15b1
       try clear c16
       try clear c16b0
       try clear c16b1
       try clear c18
       try clear c18b0
       try clear c19
       try clear c20
       try clear p20
       try clear q20
       try clear hx20
       try clear qi20
       try clear p21
       try clear q21
       try clear hx21
       try clear qi21
       try clear c24
       try clear c25
       try clear c27
       try clear c33
       try clear c33b0
       try clear c33b1
       try clear hcz12_0
       try clear hcz12_1
       try clear hcz26_0
       try clear hcz26_1
       try clear hcz26_2
       try clear hcz28_0
       try clear hcz28_1
       try clear hcz31_0
       try clear hcz31_1
       try clear hfz12_0
       try clear hfz12_1
       try clear hfz26_0
       try clear hfz26_1
       try clear hfz26_2
       try clear hfz28_0
       try clear hfz28_1
       try clear hfz31_0
       try clear hfz31_1
       try clear hx201_0
       try clear hx205_0
       try clear hx206_0
       try clear hx215_0
       try clear p2
       try clear p20
       try clear p201
       try clear p205
       try clear p206
       try clear p215
       try clear p6
       try clear q2
       try clear q20
       try clear q201
       try clear q205
       try clear q206
       try clear q215
       obtain⟨x10_2,x201001_2,u201001,rfl,HA,HK2,HO_4,HO_6,HO_201000,HO_201001,BK196,BK200,HB⟩:=hrel
       cases gk with
       |zero=>exact absurd HA.out (by simp[spec_ParseDatabase.l1])
       |succ k2=>
        have H:=HA.out;clear HA;simp only[spec_ParseDatabase.l1] at H
        by_cases c36:x10_2<(t216.length:Int)
        ·rw[if_pos c36] at H;have c36b0:decide (x10_2<(t216.length:Int))=true:=decide_eq_true c36;clear c36
         by_cases c37:1<(t197.length:Int)
         ·rw[if_pos c37] at H;have c37b0:decide (1<(t197.length:Int))=true:=decide_eq_true c37;have c37b1:decide (1<t197.length)=true:=decide_eq_true (by omega);clear c37
          by_cases c38:(rdOf ByteArray.empty t197 1).toList=([] :List UInt8)
          ·rw[if_pos c38] at H;have c38b0:((rdOf ByteArray.empty t197 1).toList==([] :List UInt8))=true:=beq_iff_eq.mpr c38;have c38b1:((rdOf ByteArray.empty t197 1).toList !=([] :List UInt8))=false:=bne_eq_false_iff_eq.mpr c38;clear c38;replace H:=bM H;obtain⟨t220,A390,H⟩:=H;have A39:=aM A390;clear A390
           by_cases c40:t220.toList=a0.toList
           ·rw[if_pos c40] at H;have c40b0:(t220.toList==a0.toList)=true:=beq_iff_eq.mpr c40;have c40b1:(t220.toList !=a0.toList)=false:=bne_eq_false_iff_eq.mpr c40;clear c40;simp only[Option.some.injEq,Prod.mk.injEq] at H;obtain⟨rfl,rfl,rfl⟩:=H;obtain⟨Ao41,co41,eo41⟩:=Kd.R_slice HO_6.out;subst eo41;have p219:0≤(1:Int):=(by omega);have q219:1<(t197.length:Int):=aD;obtain⟨ad219,e219,hx219_0⟩:=Kd.at_string (Kd.R_reads' HO_4.out).2.2 1 p219 q219;obtain rfl:ad201=ad219:=(by injection e219);(try simp only[show(1:Int).toNat=1 from rfl,Nat.reduceMul,Nat.reduceEqDiff,Go.Addr.add,↓reduceIte] at hx219_0)
            have qi219:(1<t197.length)=True:=eq_true (by omega);(try rw[show((1:Int)).toNat=1 from rfl] at hx219_0)
            replace p219:=eq_true p219;replace q219:=eq_true q219;have hnb42:=NB200_196.out;have hnc42:=NB196_200.out;have hcz43_0:wr.cell? ⟨gb200,0,none⟩=some (u201000):=(blk_cell BK200.out 0).trans rfl;have hcz43_1:wr.cell? ⟨gb200,1,none⟩=some (u201001):=(blk_cell BK200.out 1).trans rfl;have hfz43_0:=blk_frozen BK200.out 0;have hfz43_1:=blk_frozen BK200.out 1;obtain⟨Ao44,co44,eo44⟩:=Kd.R_slice HO_201000.out;subst eo44;obtain⟨Ao45,co45,eo45⟩:=Kd.S_slice HO_201001.out;subst eo45
            go_wp2_with (first|((with_reducible refine gate_callee (f:=21) rfl ?_);refine goesL_ (some 83) rfl rfl Tryz.func21 (by kernel_rfl) rfl #[.agg #[.slice Ao44 x201000_5.length co44,.slice Ao45 x201001_2.length co45]] rfl aA ?_;(with_reducible refine(spec_FormatDatabase.calls k2 _ _ x201000_5 _ _ x201001_2 t220 _ ?side1 ?side2 ?side3 ?side4 A39.out).mono ?_);(case side1=>repeat(first|exact(Kd.R_reads' HO_201000.out).2.2|(with_reducible refine pC ?_)));(case side2=>exact(Kd.R_reads' HO_201000.out).2.1);(case side3=>repeat(first|exact(Kd.S_reads' HO_201001.out).2.2|(with_reducible refine pC ?_)));(case side4=>exact(Kd.S_reads' HO_201001.out).2.1);rintro e w46 ⟨rfl,hb⟩;refine⟨_,rfl,?_⟩;have n0_:=aM (Kd.R_below (aR HO_4) hb);have n1_:=aM (Kd.R_below (aR HO_6) hb);have n2_:=aM (Kd.R_below (aR HO_201000) hb);have n3_:=aM (Kd.S_below (aS HO_201001) hb);have n4_:=aM (kB gb196 #[.slice none 0 0,.slice none 0 0] 25 hb);have n5_:=aM (kB gb200 #[.slice Ao44 x201000_5.length co44,.slice Ao45 x201001_2.length co45] 25 hb);have n6_:=aM (below_step aG hb);clear HO_4;clear HO_6;clear HO_201000;clear HO_201001;clear BK196;clear BK200;clear HB;have HO_4:=n0_;have HO_6:=n1_;have HO_201000:=n2_;have HO_201001:=n3_;have BK196:=n4_;have BK200:=n5_;have HB:=n6_;clear n0_ n1_ n2_ n3_ n4_ n5_ n6_;(try clear hb);(try clear hb2);(try clear hk);(try clear hi);have hcz47_0:w46.cell? ⟨gb200,0,none⟩=some (.slice Ao44 x201000_5.length co44):=(blk_cell BK200.out 0).trans rfl;have hcz47_1:w46.cell? ⟨gb200,1,none⟩=some (.slice Ao45 x201001_2.length co45):=(blk_cell BK200.out 1).trans rfl;have hfz47_0:=blk_frozen BK200.out 0;have hfz47_1:=blk_frozen BK200.out 1;have hcz48_0:w46.cell? ⟨gb196,0,none⟩=some (.slice none 0 0):=(blk_cell BK196.out 0).trans rfl;have hcz48_1:w46.cell? ⟨gb196,1,none⟩=some (.slice none 0 0):=(blk_cell BK196.out 1).trans rfl;have hfz48_0:=blk_frozen BK196.out 0;have hfz48_1:=blk_frozen BK196.out 1))
            refine bodyPost_ret (results_ct rfl _ _ gb196 25 #[.slice Ao44 x201000_5.length co44,.slice Ao45 x201001_2.length co45] (0,0) _ rfl (bP2 BK196.out) Tryz.underlying25 rfl (by kernel_rfl)) rfl ?_;exact⟨_,_,aE,by(with_reducible repeat apply pR);exact Kd.R_mono (Kd.R_far (p:=⟨gb196,1,none⟩) (Kd.R_far (p:=⟨gb196,0,none⟩) (Kd.R_types HO_201000.out BK196.out (by decide)) (fun _ hk=>hk.2) (.slice Ao44 x201000_5.length co44)) (fun _ hk=>hk.2) (.slice Ao45 x201001_2.length co45)) (fun _ hk=>trivial),by(with_reducible repeat apply pS);exact Kd.S_mono (Kd.S_far (p:=⟨gb196,1,none⟩) (Kd.S_far (p:=⟨gb196,0,none⟩) (Kd.S_types HO_201001.out BK196.out (by decide)) (fun _ hk=>hk.2) (.slice Ao44 x201000_5.length co44)) (fun _ hk=>hk.2) (.slice Ao45 x201001_2.length co45)) (fun _ hk=>trivial),aG⟩
           ·rw[if_neg c40] at H;have c40b0:(t220.toList==a0.toList)=false:=beq_eq_false_iff_ne.mpr c40;have c40b1:(t220.toList !=a0.toList)=true:=bne_iff_ne.mpr c40;simp only[Option.some.injEq,Prod.mk.injEq] at H;obtain⟨rfl,rfl,rfl⟩:=H;obtain⟨Ao49,co49,eo49⟩:=Kd.R_slice HO_6.out;subst eo49;have p219:0≤(1:Int):=(by omega);have q219:1<(t197.length:Int):=aD;obtain⟨ad219,e219,hx219_0⟩:=Kd.at_string (Kd.R_reads' HO_4.out).2.2 1 p219 q219;obtain rfl:ad201=ad219:=(by injection e219);(try simp only[show(1:Int).toNat=1 from rfl,Nat.reduceMul,Nat.reduceEqDiff,Go.Addr.add,↓reduceIte] at hx219_0)
            have qi219:(1<t197.length)=True:=eq_true (by omega);(try rw[show((1:Int)).toNat=1 from rfl] at hx219_0)
            replace p219:=eq_true p219;replace q219:=eq_true q219;have hnb50:=NB200_196.out;have hnc50:=NB196_200.out;have hcz51_0:wr.cell? ⟨gb200,0,none⟩=some (u201000):=(blk_cell BK200.out 0).trans rfl;have hcz51_1:wr.cell? ⟨gb200,1,none⟩=some (u201001):=(blk_cell BK200.out 1).trans rfl;have hfz51_0:=blk_frozen BK200.out 0;have hfz51_1:=blk_frozen BK200.out 1;obtain⟨Ao52,co52,eo52⟩:=Kd.R_slice HO_201000.out;subst eo52;obtain⟨Ao53,co53,eo53⟩:=Kd.S_slice HO_201001.out;subst eo53
            go_wp2_with (first|((with_reducible refine gate_callee (f:=21) rfl ?_);refine goesL_ (some 83) rfl rfl Tryz.func21 (by kernel_rfl) rfl #[.agg #[.slice Ao52 x201000_5.length co52,.slice Ao53 x201001_2.length co53]] rfl aA ?_;(with_reducible refine(spec_FormatDatabase.calls k2 _ _ x201000_5 _ _ x201001_2 t220 _ ?side1 ?side2 ?side3 ?side4 A39.out).mono ?_);(case side1=>repeat(first|exact(Kd.R_reads' HO_201000.out).2.2|(with_reducible refine pC ?_)));(case side2=>exact(Kd.R_reads' HO_201000.out).2.1);(case side3=>repeat(first|exact(Kd.S_reads' HO_201001.out).2.2|(with_reducible refine pC ?_)));(case side4=>exact(Kd.S_reads' HO_201001.out).2.1);rintro e w54 ⟨rfl,hb⟩;refine⟨_,rfl,?_⟩;have n0_:=aM (Kd.R_below (aR HO_4) hb);have n1_:=aM (Kd.R_below (aR HO_6) hb);have n2_:=aM (Kd.R_below (aR HO_201000) hb);have n3_:=aM (Kd.S_below (aS HO_201001) hb);have n4_:=aM (kB gb196 #[.slice none 0 0,.slice none 0 0] 25 hb);have n5_:=aM (kB gb200 #[.slice Ao52 x201000_5.length co52,.slice Ao53 x201001_2.length co53] 25 hb);have n6_:=aM (below_step aG hb);clear HO_4;clear HO_6;clear HO_201000;clear HO_201001;clear BK196;clear BK200;clear HB;have HO_4:=n0_;have HO_6:=n1_;have HO_201000:=n2_;have HO_201001:=n3_;have BK196:=n4_;have BK200:=n5_;have HB:=n6_;clear n0_ n1_ n2_ n3_ n4_ n5_ n6_;(try clear hb);(try clear hb2);(try clear hk);(try clear hi);have hcz55_0:w54.cell? ⟨gb196,0,none⟩=some (.slice none 0 0):=(blk_cell BK196.out 0).trans rfl;have hcz55_1:w54.cell? ⟨gb196,1,none⟩=some (.slice none 0 0):=(blk_cell BK196.out 1).trans rfl;have hfz55_0:=blk_frozen BK196.out 0;have hfz55_1:=blk_frozen BK196.out 1))
            refine bodyPost_ret (results_ct rfl _ _ gb196 25 #[.slice none 0 0,.slice none 0 0] (0,0) _ rfl (bP2 BK196.out) Tryz.underlying25 rfl (by kernel_rfl)) rfl ?_;exact⟨_,_,aE,by first|exact Kd.R_nil _ _ _ _ _|exact Kd.N_nil _ _ _ _ _|exact Kd.V_nil _ _ _ _ _|exact Kd.Q_nil _ _ _ _ _|exact Kd.S_nil _ _ _ _ _,by first|exact Kd.S_nil _ _ _ _ _|exact Kd.N_nil _ _ _ _ _|exact Kd.V_nil _ _ _ _ _|exact Kd.Q_nil _ _ _ _ _|exact Kd.R_nil _ _ _ _ _,aG⟩
          ·rw[if_neg c38] at H;have c38b0:((rdOf ByteArray.empty t197 1).toList==([] :List UInt8))=false:=beq_eq_false_iff_ne.mpr c38;have c38b1:((rdOf ByteArray.empty t197 1).toList !=([] :List UInt8))=true:=bne_iff_ne.mpr c38
           by_cases c56:0≤x10_2
           ·rw[if_pos c56] at H;have c56b0:decide (0≤x10_2)=true:=decide_eq_true c56;clear c56;replace H:=bM H;obtain⟨⟨t222,t223,t226⟩,A570,H⟩:=H;dsimp only at H;have A57:=aM A570;clear A570
            by_cases c58:x201001_2.length<4398046511104
            ·rw[if_pos c58] at H;have LMc58:=aM c58;clear c58;obtain⟨y228,hy228⟩: ∃y_:List (S47),y_=(x201001_2++ [(⟨t222,t223⟩:S47)]):=⟨_,rfl⟩
             first|replace H:=bY hy228 H|rw[←hy228] at H
             have Ny228:=aM hy228;clear hy228;have H':=aM H;clear H;obtain⟨Ao59,co59,eo59⟩:=Kd.R_slice HO_6.out;subst eo59;have p219:0≤(1:Int):=(by omega);have q219:1<(t197.length:Int):=aD;obtain⟨ad219,e219,hx219_0⟩:=Kd.at_string (Kd.R_reads' HO_4.out).2.2 1 p219 q219;obtain rfl:ad201=ad219:=(by injection e219);(try simp only[show(1:Int).toNat=1 from rfl,Nat.reduceMul,Nat.reduceEqDiff,Go.Addr.add,↓reduceIte] at hx219_0)
             have qi219:(1<t197.length)=True:=eq_true (by omega);(try rw[show((1:Int)).toNat=1 from rfl] at hx219_0)
             replace p219:=eq_true p219;replace q219:=eq_true q219;obtain⟨Ao60,co60,eo60⟩:=Kd.R_slice HO_201000.out;subst eo60
             try go_wp2
             replace HO_4:=aM (Kd.R_drew HO_4.out);replace HO_6:=aM (Kd.R_drew HO_6.out);replace HO_201000:=aM (Kd.R_drew HO_201000.out);replace HO_201001:=aM (Kd.S_drew HO_201001.out);replace BK196:=aM (blk_drew BK196.out);replace BK200:=aM (blk_drew BK200.out);replace HB:=aM (below_drew1 HB.out);have p221:0≤(x10_2:Int):=aD;have q221:x10_2<(t216.length:Int):=aD;obtain⟨ad221,e221,hx221_0⟩:=Kd.at_string (Kd.R_reads' HO_6.out).2.2 x10_2 p221 q221
             cases e221
             replace p221:=eq_true p221;replace q221:=eq_true q221;refine start_ (n:=13) (S:=fun w'=>w'.cell? ⟨gb200,0,none⟩=some (.slice Ao60 x201000_5.length co60)∧w'.cell? ⟨gb200,1,none⟩=some (u201001)∧w'.cell? (ad221.add (x10_2).toNat)=some (.string (rdOf ByteArray.empty t216 x10_2))) (ds:= []) #[false,false,false,false,false,false,false,false,false,false,false,false,false] (by kernel_rfl) rfl rfl ⟨(blk_cell BK200.out 0).trans rfl,(blk_cell BK200.out 1).trans rfl,hx221_0⟩ (fun hHeld=>?_);refine with_tabW spec_ParseDatabase.tab15 spec_ParseDatabase.bits15 (fun HT_ HW_=>?_);generalize wr.drew=w61 at HO_4 HO_6 HO_201000 HO_201001 BK196 BK200 HB hx221_0 hHeld ⊢;refine pU 0 67 ?_;refine pU 2 69 ?_;refine pU 3 70 ?_;refine pU 4 71 ?_;refine tU3 1 68 hHeld ?_;refine tU3 5 72 hHeld ?_;refine join_ (σ:=Value×Nat) 2 #[true,true,true,true,true,true,true,true,true,true,true,false,false] (fun s_=> [(73,.tuple #[.agg #[.int .i64 t222,s_.1],.bool t226]),(11,.pointer (some ⟨s_.2,0,none⟩)),(66,.tuple #[.agg #[.int .i64 t222,s_.1],.bool t226]),(74,.agg #[.int .i64 t222,s_.1]),(75,.bool t226)]) (fun s_ w'=>(w'.cell? ⟨gb200,0,none⟩=some (.slice Ao60 x201000_5.length co60)∧w'.cell? ⟨gb200,1,none⟩=some (u201001)∧w'.cell? (ad221.add (x10_2).toNat)=some (.string (rdOf ByteArray.empty t216 x10_2)))∧(Kd.R (Kd.int .i64) 3 w' w.heap.size (fun _=>True) s_.1 t223)∧(Kd.R k42 42 w' w.heap.size (fun _=>True) (.slice Ao60 x201000_5.length co60) x201000_5)∧(Kd.S k47 47 w' w.heap.size (fun k_=>some k_≠(s_.1:Value).ownBlock∧k_≠s_.2) u201001 x201001_2)∧(Kd.R Kd.string 9 w' w.heap.size (fun k_=>some k_≠(.slice (some ad221) t216.length co59:Value).ownBlock) (.slice (some ad201) t197.length co9) t197)∧(Kd.R Kd.string 9 w' w.heap.size (fun k_=>some k_≠(.slice (some ad201) t197.length co9:Value).ownBlock) (.slice (some ad221) t216.length co59) t216)∧(w'.heap[gb196]? =some (.cells #[.slice none 0 0,.slice none 0 0] 25 (0,0)))∧(w'.heap[gb200]? =some (.cells #[.slice Ao60 x201000_5.length co60,u201001] 25 (0,0)))∧(w'.heap[s_.2]? =some (.cells #[.int .i64 0,.slice none 0 0] 47 (0,0)))∧(w.heap.size≤s_.2)∧(w.heap.size≤s_.2)∧(gb196≠s_.2)∧(s_.2≠gb196)∧(gb200≠s_.2)∧(s_.2≠gb200)∧(Below w.heap.size w w')) ?_ ?_
             rotate_left
             ·intro hCont;refine two_ (i:=6) (j:=10) (Ni:=some 73) (Nj:=some 11) #[true,true,true,true,true,true,true,false,false,false,false,false,false] #[true,true,true,true,true,true,false,false,false,false,true,false,false] rfl rfl rfl rfl (two_of HT_.out (by kernel_rfl)) (by decide) (by decide) (fun K hK=>?_) (fun K hK=>?_)
              ·skip
               refine goes_ Tryz.func20 (by kernel_rfl) rfl #[.slice Ao60 x201000_5.length co60,.string (rdOf ByteArray.empty t216 x10_2)] (by rfl) rfl rfl aA ?_
               with_reducible refine(spec_ParseFact.calls k2 _ _ x201000_5 (rdOf ByteArray.empty t216 x10_2) t222 t223 t226 _ ?side1 ?side2 A57.out).mono ?_
               (case side1=>repeat(first|exact(Kd.R_reads' HO_201000.out).2.2|(with_reducible refine pC ?_)))
               (case side2=>exact(Kd.R_reads' HO_201000.out).2.1)
               rintro e w62 ⟨v224,rfl,ho0,hb⟩;have HS2_:=(hb.cell (World.block_lt_of_cell? _ _ (hHeld.2.2))).trans (hHeld.2.2);refine⟨_,rfl,?_⟩;have n0_:=aM (Kd.R_below (aR HO_4) hb);have n1_:=aM (Kd.R_below (aR HO_6) hb);have n2_:=aM (Kd.R_below (aR HO_201000) hb);have n3_:=aM (Kd.S_elder' (aS HO_201001) (Kd.R_base ho0) hb);have n4_:=aM (Kd.R_lower ho0 (below_size aG));have n5_:=aM (kB gb196 #[.slice none 0 0,.slice none 0 0] 25 hb);have n6_:=aM (kB gb200 #[.slice Ao60 x201000_5.length co60,u201001] 25 hb);have n7_:=aM (below_step aG hb);clear HO_4 HO_6 HO_201000 HO_201001 BK196 BK200 HB;have HO_4:=n0_;have HO_6:=n1_;have HO_201000:=n2_;have HO_201001:=n3_;have HO225:=n4_;have BK196:=n5_;have BK200:=n6_;have HB:=n7_;clear n0_ n1_ n2_ n3_ n4_ n5_ n6_ n7_;(try clear hb)
               (try clear hb2)
               (try clear hk)
               (try clear hi)
               (try clear ho0)
               refine hK.out _ _ ⟨(blk_cell BK200.out 0).trans rfl,(blk_cell BK200.out 1).trans rfl,HS2_⟩ (fun hHeld=>?_);clear hK K;refine nU 73 ?_;refine pU 7 66 ?_;refine pU 8 74 ?_;refine pU 9 75 ?_;refine oU 10 11 (fun K hK=>?_);refine box_step ?hg (N:=11) ?hd (cs:=#[.int .i64 0,.slice none 0 0]) (t:=47) ?hr ?_;(case hd=>rfl);(case hg=>rfl);(case hr=>first|(go_simp;done)|(go_simp;rfl));intro gb227 hg w63 hbox hb;have HS2_:=(hb.cell (World.block_lt_of_cell? _ _ (hHeld.2.2))).trans (hHeld.2.2);have n0_:=aM (Kd.R_below (aR HO_4) hb);have n1_:=aM (Kd.R_below (aR HO_6) hb);have n2_:=aM (Kd.R_below (aR HO_201000) hb);have n3_:=aM (Kd.S_below (Kd.S_elderB (aS HO_201001) gb227 (Nat.le_of_eq hg.symm)) hb);have n4_:=aM (Kd.R_below (aR HO225) hb);have n5_:=aM (kB gb196 #[.slice none 0 0,.slice none 0 0] 25 hb);have n6_:=aM (kB gb200 #[.slice Ao60 x201000_5.length co60,u201001] 25 hb);have n7_:=aM (below_step aG hb);have n8_:=aM (hbox);have n9_:=aM ((by rw[hg];exact(below_size aG):w.heap.size≤gb227));have n10_:=aM ((by rw[hg];exact(below_size aG):w.heap.size≤gb227));have n11_:=aM ((by rw[hg];exact Nat.ne_of_lt (blk_lt (g:=gb196) aK):gb196≠gb227));have n12_:=aM ((by rw[hg];exact Nat.ne_of_gt (blk_lt (g:=gb196) aK):gb227≠gb196));have n13_:=aM ((by rw[hg];exact Nat.ne_of_lt (blk_lt (g:=gb200) aK):gb200≠gb227));have n14_:=aM ((by rw[hg];exact Nat.ne_of_gt (blk_lt (g:=gb200) aK):gb227≠gb200));clear HO_4 HO_6 HO_201000 HO_201001 HO225 BK196 BK200 HB;have HO_4:=n0_;have HO_6:=n1_;have HO_201000:=n2_;have HO_201001:=n3_;have HO225:=n4_;have BK196:=n5_;have BK200:=n6_;have HB:=n7_;have BK227:=n8_;have GW227:=n9_;have GE227:=n10_;have NB196_227:=n11_;have NB227_196:=n12_;have NB200_227:=n13_;have NB227_200:=n14_;clear n0_ n1_ n2_ n3_ n4_ n5_ n6_ n7_ n8_ n9_ n10_ n11_ n12_ n13_ n14_ hb hbox hg;refine hK.out _ _ ⟨(blk_cell BK200.out 0).trans rfl,(blk_cell BK200.out 1).trans rfl,HS2_⟩ (fun hHeld=>?_);clear hK K;refine nU 11 ?_;exact norm_ (by simp only[putAll,Act.put,List.setIfInBounds_toArray,List.set_cons_zero,List.set_cons_succ]) (hCont (v224,gb227) _ ⟨hHeld,(aR HO225),(aR HO_201000),(by(with_reducible repeat apply pS);exact Kd.S_mono HO_201001.out (fun _ hk=>⟨hk.1.2,hk.2⟩)),(aR HO_4),(aR HO_6),aK,aK,aK,GW227.out,GE227.out,NB196_227.out,NB227_196.out,NB200_227.out,NB227_200.out,aG⟩)
              ·skip
               refine box_step ?hg (N:=11) ?hd (cs:=#[.int .i64 0,.slice none 0 0]) (t:=47) ?hr ?_;(case hd=>rfl);(case hg=>rfl);(case hr=>first|(go_simp;done)|(go_simp;rfl));intro gb227 hg w62 hbox hb;have HS2_:=(hb.cell (World.block_lt_of_cell? _ _ (hHeld.2.2))).trans (hHeld.2.2);have n0_:=aM (Kd.R_below (aR HO_4) hb);have n1_:=aM (Kd.R_below (aR HO_6) hb);have n2_:=aM (Kd.R_below (aR HO_201000) hb);have n3_:=aM (Kd.S_below (Kd.S_elderB (aS HO_201001) gb227 (Nat.le_of_eq hg.symm)) hb);have n4_:=aM (kB gb196 #[.slice none 0 0,.slice none 0 0] 25 hb);have n5_:=aM (kB gb200 #[.slice Ao60 x201000_5.length co60,u201001] 25 hb);have n6_:=aM (below_step aG hb);have n7_:=aM (hbox);have n8_:=aM ((by rw[hg];exact(below_size aG):w.heap.size≤gb227));have n9_:=aM ((by rw[hg];exact(below_size aG):w.heap.size≤gb227));have n10_:=aM ((by rw[hg];exact Nat.ne_of_lt (blk_lt (g:=gb196) aK):gb196≠gb227));have n11_:=aM ((by rw[hg];exact Nat.ne_of_gt (blk_lt (g:=gb196) aK):gb227≠gb196));have n12_:=aM ((by rw[hg];exact Nat.ne_of_lt (blk_lt (g:=gb200) aK):gb200≠gb227));have n13_:=aM ((by rw[hg];exact Nat.ne_of_gt (blk_lt (g:=gb200) aK):gb227≠gb200));clear HO_4 HO_6 HO_201000 HO_201001 BK196 BK200 HB;have HO_4:=n0_;have HO_6:=n1_;have HO_201000:=n2_;have HO_201001:=n3_;have BK196:=n4_;have BK200:=n5_;have HB:=n6_;have BK227:=n7_;have GW227:=n8_;have GE227:=n9_;have NB196_227:=n10_;have NB227_196:=n11_;have NB200_227:=n12_;have NB227_200:=n13_;clear n0_ n1_ n2_ n3_ n4_ n5_ n6_ n7_ n8_ n9_ n10_ n11_ n12_ n13_ hb hbox hg;refine hK.out _ _ ⟨(blk_cell BK200.out 0).trans rfl,(blk_cell BK200.out 1).trans rfl,HS2_⟩ (fun hHeld=>?_);clear hK K;refine nU 11 ?_;refine oU 6 73 (fun K hK=>?_);refine goes_ Tryz.func20 (by kernel_rfl) rfl #[.slice Ao60 x201000_5.length co60,.string (rdOf ByteArray.empty t216 x10_2)] (by rfl) rfl rfl aA ?_
               with_reducible refine(spec_ParseFact.calls k2 _ _ x201000_5 (rdOf ByteArray.empty t216 x10_2) t222 t223 t226 _ ?side1 ?side2 A57.out).mono ?_
               (case side1=>repeat(first|exact(Kd.R_reads' HO_201000.out).2.2|(with_reducible refine pC ?_)))
               (case side2=>exact(Kd.R_reads' HO_201000.out).2.1)
               rintro e w63 ⟨v224,rfl,ho0,hb⟩;have HS2_:=(hb.cell (World.block_lt_of_cell? _ _ (hHeld.2.2))).trans (hHeld.2.2);refine⟨_,rfl,?_⟩;have n0_:=aM (Kd.R_below (aR HO_4) hb);have n1_:=aM (Kd.R_below (aR HO_6) hb);have n2_:=aM (Kd.R_below (aR HO_201000) hb);have n3_:=aM (Kd.S_elder' (aS HO_201001) (Kd.R_base ho0) hb);have n4_:=aM (Kd.R_lower ho0 (below_size aG));have n5_:=aM (kB gb196 #[.slice none 0 0,.slice none 0 0] 25 hb);have n6_:=aM (kB gb200 #[.slice Ao60 x201000_5.length co60,u201001] 25 hb);have n7_:=aM (kB gb227 #[.int .i64 0,.slice none 0 0] 47 hb);have n8_:=aM (below_step aG hb);clear HO_4 HO_6 HO_201000 HO_201001 BK196 BK200 BK227 HB;have HO_4:=n0_;have HO_6:=n1_;have HO_201000:=n2_;have HO_201001:=n3_;have HO225:=n4_;have BK196:=n5_;have BK200:=n6_;have BK227:=n7_;have HB:=n8_;clear n0_ n1_ n2_ n3_ n4_ n5_ n6_ n7_ n8_;(try clear hb)
               (try clear hb2)
               (try clear hk)
               (try clear hi)
               (try clear ho0)
               refine hK.out _ _ ⟨(blk_cell BK200.out 0).trans rfl,(blk_cell BK200.out 1).trans rfl,HS2_⟩ (fun hHeld=>?_);clear hK K;refine nU 73 ?_;refine pU 7 66 ?_;refine pU 8 74 ?_;refine pU 9 75 ?_;exact norm_ (by simp only[putAll,Act.put,List.setIfInBounds_toArray,List.set_cons_zero,List.set_cons_succ]) (hCont (v224,gb227) _ ⟨hHeld,(aR HO225),(aR HO_201000),(by(with_reducible repeat apply pS);exact Kd.S_mono HO_201001.out (fun _ hk=>⟨hk.2,hk.1.2⟩)),(aR HO_4),(aR HO_6),aK,aK,aK,GW227.out,GE227.out,NB196_227.out,NB227_196.out,NB200_227.out,NB227_200.out,aG⟩)
             rintro⟨v224,gb227⟩ w64 ⟨hS_,h0_,h1_,h2_,h3_,h4_,h5_,h6_,h7_,h8_,h9_,h10_,h11_,h12_,h13_,h14_⟩;have n0_:Aside0 (Kd.R (Kd.int .i64) 3 w64 w.heap.size (fun _=>True) v224 t223):=⟨h0_⟩;have n1_:Aside0 (Kd.R k42 42 w64 w.heap.size (fun _=>True) (.slice Ao60 x201000_5.length co60) x201000_5):=⟨h1_⟩;have n2_:Aside0 (Kd.S k47 47 w64 w.heap.size (fun k_=>some k_≠(v224:Value).ownBlock∧k_≠gb227) u201001 x201001_2):=⟨h2_⟩;have n3_:Aside0 (Kd.R Kd.string 9 w64 w.heap.size (fun k_=>some k_≠(.slice (some ad221) t216.length co59:Value).ownBlock) (.slice (some ad201) t197.length co9) t197):=⟨h3_⟩;have n4_:Aside0 (Kd.R Kd.string 9 w64 w.heap.size (fun k_=>some k_≠(.slice (some ad201) t197.length co9:Value).ownBlock) (.slice (some ad221) t216.length co59) t216):=⟨h4_⟩;have n5_:Aside0 (w64.heap[gb196]? =some (.cells #[.slice none 0 0,.slice none 0 0] 25 (0,0))):=⟨h5_⟩;have n6_:Aside0 (w64.heap[gb200]? =some (.cells #[.slice Ao60 x201000_5.length co60,u201001] 25 (0,0))):=⟨h6_⟩;have n7_:Aside0 (w64.heap[gb227]? =some (.cells #[.int .i64 0,.slice none 0 0] 47 (0,0))):=⟨h7_⟩;have n8_:Aside0 (w.heap.size≤gb227):=⟨h8_⟩;have n9_:Aside0 (w.heap.size≤gb227):=⟨h9_⟩;have n10_:Aside0 (gb196≠gb227):=⟨h10_⟩;have n11_:Aside0 (gb227≠gb196):=⟨h11_⟩;have n12_:Aside0 (gb200≠gb227):=⟨h12_⟩;have n13_:Aside0 (gb227≠gb200):=⟨h13_⟩;have n14_:Aside0 (Below w.heap.size w w64):=⟨h14_⟩;clear HO_4 HO_6 HO_201000 HO_201001 BK196 BK200 HB h0_ h1_ h2_ h3_ h4_ h5_ h6_ h7_ h8_ h9_ h10_ h11_ h12_ h13_ h14_;have HO225:=n0_;have HO_201000:=n1_;have HO_201001:=n2_;have HO_4:=n3_;have HO_6:=n4_;have BK196:=n5_;have BK200:=n6_;have BK227:=n7_;have GW227:=n8_;have GE227:=n9_;have NB196_227:=n10_;have NB227_196:=n11_;have NB200_227:=n12_;have NB227_200:=n13_;have HB:=n14_;clear n0_ n1_ n2_ n3_ n4_ n5_ n6_ n7_ n8_ n9_ n10_ n11_ n12_ n13_ n14_;have hHeld:w64.cell? ⟨gb200,0,none⟩=some (.slice Ao60 x201000_5.length co60)∧w64.cell? ⟨gb200,1,none⟩=some (u201001)∧w64.cell? (ad221.add (x10_2).toNat)=some (.string (rdOf ByteArray.empty t216 x10_2)):=hS_;obtain⟨Ao66,co66,eo66⟩:=Kd.R_slice HO225.out;(first|subst eo66|(injection eo66 with f1_ f2_ f3_;have f4_:=f1_.symm;have f5_:=f3_.symm;clear f1_ f2_ f3_;subst f4_;subst f5_))
             refine norm_ (a':=?_) ?_ ?_
             rotate_left
             ·simp only[putAll,Act.put,List.setIfInBounds_toArray,List.set_cons_zero,List.set_cons_succ];rfl
             refine one_ (i:=11) (N:=none) #[true,true,true,true,true,true,true,true,true,true,true,true,false] rfl rfl (one_of HT_.out (by kernel_rfl)) (by decide) (fun K hK=>?_);have hs65:w64.cell? ⟨gb227,0,none⟩=some (.int .i64 0):=(blk_cell BK227.out 0).trans rfl;have hfs65:=blk_frozen BK227.out 0;have hns65_0:=NB196_227.out;have hns65_1:=NB200_227.out;have hms65_0:=NB227_196.out;have hms65_1:=NB227_200.out;have hs67:w64.cell? ⟨gb227,1,none⟩=some (.slice none 0 0):=(blk_cell BK227.out 1).trans rfl;have hfs67:=blk_frozen BK227.out 1;have hns67_0:=NB196_227.out;have hns67_1:=NB200_227.out;have hms67_0:=NB227_196.out;have hms67_1:=NB227_200.out;refine skip_ (w1:=?_) (by rfl) rfl ?_ ?_
             rotate_left
             ·go_simp
              rfl
             refine hK.out _ _ ⟨((cell_far (p:=⟨gb227,_,none⟩) NB200_227.out _).trans (((cell_far (p:=⟨gb227,_,none⟩) NB200_227.out _).trans (hHeld.1)))),((cell_far (p:=⟨gb227,_,none⟩) NB200_227.out _).trans (((cell_far (p:=⟨gb227,_,none⟩) NB200_227.out _).trans (hHeld.2.1)))),((cell_far (p:=⟨gb227,_,none⟩) (by first|exact Kd.own_blk (Kd.R_ne HO_6.out BK227.out (by decide))|(rw[add_block];exact Kd.own_blk (Kd.R_ne HO_6.out BK227.out (by decide)))|(show(Addr.add _ _).block≠_;rw[add_block];exact Kd.own_blk (Kd.R_ne HO_6.out BK227.out (by decide)))|(dsimp only;exact Kd.own_blk (Kd.R_ne HO_6.out BK227.out (by decide)))) _).trans (((cell_far (p:=⟨gb227,_,none⟩) (by first|exact Kd.own_blk (Kd.R_ne HO_6.out BK227.out (by decide))|(rw[add_block];exact Kd.own_blk (Kd.R_ne HO_6.out BK227.out (by decide)))|(show(Addr.add _ _).block≠_;rw[add_block];exact Kd.own_blk (Kd.R_ne HO_6.out BK227.out (by decide)))|(dsimp only;exact Kd.own_blk (Kd.R_ne HO_6.out BK227.out (by decide)))) _).trans (hHeld.2.2))))⟩ (fun hHeld=>?_);clear hK K;refine pU 12 12 ?_;refine done_ (done_of HT_.out (by kernel_rfl)) ?_;have n0_:Aside0 (Kd.R Kd.string 9 ((w64.setCell ⟨gb227,0,none⟩ (.int .i64 t222)).setCell ⟨gb227,1,none⟩ (.slice Ao66 t223.length co66)) w.heap.size (fun k_=>some k_≠(.slice (some ad221) t216.length co59:Value).ownBlock) (.slice (some ad201) t197.length co9) t197):=⟨by(with_reducible repeat apply pR);exact Kd.R_mono (Kd.R_far (p:=⟨gb227,1,none⟩) (Kd.R_far (p:=⟨gb227,0,none⟩) (Kd.R_types HO_4.out BK227.out (by decide)) (fun _ hk=>hk.2) (.int .i64 t222)) (fun _ hk=>hk.2) (.slice Ao66 t223.length co66)) (fun _ hk=>hk.1)⟩;have n1_:Aside0 (Kd.R Kd.string 9 ((w64.setCell ⟨gb227,0,none⟩ (.int .i64 t222)).setCell ⟨gb227,1,none⟩ (.slice Ao66 t223.length co66)) w.heap.size (fun k_=>some k_≠(.slice (some ad201) t197.length co9:Value).ownBlock) (.slice (some ad221) t216.length co59) t216):=⟨by(with_reducible repeat apply pR);exact Kd.R_mono (Kd.R_far (p:=⟨gb227,1,none⟩) (Kd.R_far (p:=⟨gb227,0,none⟩) (Kd.R_types HO_6.out BK227.out (by decide)) (fun _ hk=>hk.2) (.int .i64 t222)) (fun _ hk=>hk.2) (.slice Ao66 t223.length co66)) (fun _ hk=>hk.1)⟩;have n2_:Aside0 (Kd.R k42 42 ((w64.setCell ⟨gb227,0,none⟩ (.int .i64 t222)).setCell ⟨gb227,1,none⟩ (.slice Ao66 t223.length co66)) w.heap.size (fun _=>True) (.slice Ao60 x201000_5.length co60) x201000_5):=⟨by(with_reducible repeat apply pR);exact Kd.R_mono (Kd.R_far (p:=⟨gb227,1,none⟩) (Kd.R_far (p:=⟨gb227,0,none⟩) (Kd.R_types HO_201000.out BK227.out (by decide)) (fun _ hk=>hk.2) (.int .i64 t222)) (fun _ hk=>hk.2) (.slice Ao66 t223.length co66)) (fun _ hk=>trivial)⟩;have n3_:Aside0 (Kd.S k47 47 ((w64.setCell ⟨gb227,0,none⟩ (.int .i64 t222)).setCell ⟨gb227,1,none⟩ (.slice Ao66 t223.length co66)) w.heap.size (fun k_=>some k_≠(.slice Ao66 t223.length co66:Value).ownBlock∧k_≠gb227) u201001 x201001_2):=⟨by(with_reducible repeat apply pS);exact Kd.S_mono (Kd.S_far (p:=⟨gb227,1,none⟩) (Kd.S_far (p:=⟨gb227,0,none⟩) (Kd.S_mono HO_201001.out (fun k_ hk=>(⟨hk,hk.2⟩:_∧k_≠gb227))) (fun _ hk=>hk.2) (.int .i64 t222)) (fun _ hk=>hk.2) (.slice Ao66 t223.length co66)) (fun _ hk=>⟨hk.1.1,hk.1.2⟩)⟩;have n4_:Aside0 (Kd.R (Kd.int .i64) 3 ((w64.setCell ⟨gb227,0,none⟩ (.int .i64 t222)).setCell ⟨gb227,1,none⟩ (.slice Ao66 t223.length co66)) w.heap.size (fun _=>True) (.slice Ao66 t223.length co66) t223):=⟨by(with_reducible repeat apply pR);exact Kd.R_mono (Kd.R_far (p:=⟨gb227,1,none⟩) (Kd.R_far (p:=⟨gb227,0,none⟩) (Kd.R_types HO225.out BK227.out (by decide)) (fun _ hk=>hk.2) (.int .i64 t222)) (fun _ hk=>hk.2) (.slice Ao66 t223.length co66)) (fun _ hk=>trivial)⟩;have n5_:Aside0 (((w64.setCell ⟨gb227,0,none⟩ (.int .i64 t222)).setCell ⟨gb227,1,none⟩ (.slice Ao66 t223.length co66)).heap[gb196]? =some (.cells #[.slice none 0 0,.slice none 0 0] 25 (0,0))):=⟨by(with_reducible repeat refine pB ?_);refine blk_far ?_ NB196_227.out _;(with_reducible repeat refine pB ?_);refine blk_far ?_ NB196_227.out _;(with_reducible repeat refine pB ?_);exact BK196.out⟩;have n6_:Aside0 (((w64.setCell ⟨gb227,0,none⟩ (.int .i64 t222)).setCell ⟨gb227,1,none⟩ (.slice Ao66 t223.length co66)).heap[gb200]? =some (.cells #[.slice Ao60 x201000_5.length co60,u201001] 25 (0,0))):=⟨by(with_reducible repeat refine pB ?_);refine blk_far ?_ NB200_227.out _;(with_reducible repeat refine pB ?_);refine blk_far ?_ NB200_227.out _;(with_reducible repeat refine pB ?_);exact BK200.out⟩;have n7_:Aside0 (((w64.setCell ⟨gb227,0,none⟩ (.int .i64 t222)).setCell ⟨gb227,1,none⟩ (.slice Ao66 t223.length co66)).heap[gb227]? =some (.cells #[.int .i64 t222,.slice Ao66 t223.length co66] 47 (0,0))):=⟨by(with_reducible repeat refine pB ?_);refine blk_put (cs:=#[.int .i64 t222,.slice none 0 0]) ?_ 1 _ rfl;(with_reducible repeat refine pB ?_);refine blk_put (cs:=#[.int .i64 0,.slice none 0 0]) ?_ 0 _ rfl;(with_reducible repeat refine pB ?_);exact BK227.out⟩;have n8_:Aside0 (Below w.heap.size w ((w64.setCell ⟨gb227,0,none⟩ (.int .i64 t222)).setCell ⟨gb227,1,none⟩ (.slice Ao66 t223.length co66))):=⟨aG⟩;(try clear HO_4)
             (try clear HO_6)
             (try clear HO_201000)
             (try clear HO_201001)
             (try clear HO225)
             (try clear BK196)
             (try clear BK200)
             (try clear BK227)
             (try clear HB)
             generalize ((w64.setCell ⟨gb227,0,none⟩ (.int .i64 t222)).setCell ⟨gb227,1,none⟩ (.slice Ao66 t223.length co66))=w68 at n0_ n1_ n2_ n3_ n4_ n5_ n6_ n7_ n8_ ⊢;have HO_4:=n0_;have HO_6:=n1_;have HO_201000:=n2_;have HO_201001:=n3_;have HO225:=n4_;have BK196:=n5_;have BK200:=n6_;have BK227:=n7_;have HB:=n8_;clear n0_ n1_ n2_ n3_ n4_ n5_ n6_ n7_ n8_;have hnb69:=NB200_196.out;have hnc69:=NB196_200.out;have hnb70:=NB200_227.out;have hnc70:=NB227_200.out;have hcz71_0:w68.cell? ⟨gb200,0,none⟩=some (.slice Ao60 x201000_5.length co60):=(blk_cell BK200.out 0).trans rfl;have hcz71_1:w68.cell? ⟨gb200,1,none⟩=some (u201001):=(blk_cell BK200.out 1).trans rfl;have hfz71_0:=blk_frozen BK200.out 0;have hfz71_1:=blk_frozen BK200.out 1;have hnb72:=NB227_196.out;have hnc72:=NB196_227.out;have hcz73_0:w68.cell? ⟨gb227,0,none⟩=some (.int .i64 t222):=(blk_cell BK227.out 0).trans rfl;have hcz73_1:w68.cell? ⟨gb227,1,none⟩=some (.slice Ao66 t223.length co66):=(blk_cell BK227.out 1).trans rfl;have hfz73_0:=blk_frozen BK227.out 0;have hfz73_1:=blk_frozen BK227.out 1
             try go_wp2_with (first|((with_reducible refine gate_builtin (b:= .append) (xs:=#[.tmp 77,.tmp 79]) rfl ?_);at_builtin;refine Kd.S_append k47 (w0:=w) w.heap.size rfl (.tmp 77) (.tmp 79) 23 47 (.agg #[(.int .i64 0),(.slice none 0 0)]) 32 rfl Tryz.underlying23 info47 rfl (by decide) (by omega) u201001 x201001_2 (⟨t222,t223⟩:S47) [.int .i64 t222,.slice Ao66 t223.length co66] (fun k_=>k_≠gb227) (fun k_=>some k_=(.slice Ao66 t223.length co66:Value).ownBlock) rfl rfl ?aP (fun k_ hk_=>((Kd.R_mono (ok':=fun k_=>((fun k_=>k_≠gb227)) k_∧some k_≠(u201001:Value).ownBlock) (Kd.R_types (Kd.R_apart' (HO225.out) (Kd.S_typed HO_201001.out) (by decide)) BK227.out (by decide)) (fun k_ hk=>⟨hk.2,hk.1.2⟩))).1 k_ hk_.symm) ?aF ?aO ?aB ?aS ?aL ?_;(case aP=>exact k47_mkM _ _ _ (⟨t222,t223⟩:S47) (Kd.R_mono (Kd.R_tight rfl (Kd.R_mono (ok':=fun k_=>((fun k_=>k_≠gb227)) k_∧some k_≠(u201001:Value).ownBlock) (Kd.R_types (Kd.R_apart' (HO225.out) (Kd.S_typed HO_201001.out) (by decide)) BK227.out (by decide)) (fun k_ hk=>⟨hk.2,hk.1.2⟩))) (fun _ h_=>h_)));(case aB=>exact aG);(case aF=>exact(fun k_ hk=>Kd.freshB (g:=gb227) aK k_ hk));(case aO=>exact(by(with_reducible repeat apply pS);exact Kd.S_mono HO_201001.out (fun k_ hk=>⟨hk.2,fun e_=>hk.1 e_⟩)));(case aS=>exact(below_size aG));(case aL=>have:=LMc58.out;omega);intro v229 w74 ho hb hg hat;rw[←Ny228.out] at ho;have n0_:=aM (Kd.R_over' (aR HO_4) (Kd.S_typed (aS HO_201001)) (by decide) hg);have n1_:=aM (Kd.R_over' (aR HO_6) (Kd.S_typed (aS HO_201001)) (by decide) hg);have n2_:=aM (Kd.R_over' (aR HO_201000) (Kd.S_typed (aS HO_201001)) (by decide) hg);have n3_:=aM (blk_grown (g:=gb196) aK hg (Kd.S_ne HO_201001.out BK196.out (by decide)));have n4_:=aM (blk_grown (g:=gb200) aK hg (Kd.S_ne HO_201001.out BK200.out (by decide)));have n5_:=aM (blk_grown (g:=gb227) aK hg (Kd.S_away HO_201001.out (fun _ hk=>hk.2)));have n6_:=aM (hb);have n7_:=aM (ho);clear HO_4;clear HO_6;clear HO_201000;clear BK196;clear BK200;clear BK227;clear HB;clear HO_201001;clear HO225;have HO_4:=n0_;have HO_6:=n1_;have HO_201000:=n2_;have BK196:=n3_;have BK200:=n4_;have BK227:=n5_;have HB:=n6_;have HO230:=n7_;clear n0_ n1_ n2_ n3_ n4_ n5_ n6_ n7_;clear ho hb hg hat;obtain⟨Ao75,co75,eo75⟩:=Kd.S_slice HO230.out;subst eo75;have hcz76_0:w74.cell? ⟨gb200,0,none⟩=some (.slice Ao60 x201000_5.length co60):=(blk_cell BK200.out 0).trans rfl;have hcz76_1:w74.cell? ⟨gb200,1,none⟩=some (u201001):=(blk_cell BK200.out 1).trans rfl;have hfz76_0:=blk_frozen BK200.out 0;have hfz76_1:=blk_frozen BK200.out 1))
             go_roundg k2
             case measure=>have:=HJ5.out;have:=HK2.out;omega
             case rel=>exact⟨(wrap64 (x10_2+1)),(y228),(.slice Ao75 y228.length co75),aX,H',⟨by have:=HJ5.out;have:=HK2.out;omega⟩,⟨by(with_reducible repeat apply pR);exact Kd.R_mono (Kd.R_far (p:=⟨gb200,1,none⟩) (Kd.R_types HO_4.out BK200.out (by decide)) (fun _ hk=>hk.2) (.slice Ao75 y228.length co75)) (fun _ hk=>hk.1)⟩,⟨by(with_reducible repeat apply pR);exact Kd.R_mono (Kd.R_far (p:=⟨gb200,1,none⟩) (Kd.R_types HO_6.out BK200.out (by decide)) (fun _ hk=>hk.2) (.slice Ao75 y228.length co75)) (fun _ hk=>hk.1)⟩,⟨by(with_reducible repeat apply pR);exact Kd.R_mono (Kd.R_far (p:=⟨gb200,1,none⟩) (Kd.R_types HO_201000.out BK200.out (by decide)) (fun _ hk=>hk.2) (.slice Ao75 y228.length co75)) (fun _ hk=>trivial)⟩,⟨by(with_reducible repeat apply pS);exact Kd.S_mono (Kd.S_far (p:=⟨gb200,1,none⟩) (Kd.S_types HO230.out BK200.out (by decide)) (fun _ hk=>hk.2) (.slice Ao75 y228.length co75)) (fun _ hk=>trivial)⟩,⟨by(with_reducible repeat refine pB ?_);refine blk_far ?_ NB196_200.out _;(with_reducible repeat refine pB ?_);exact BK196.out⟩,⟨by(with_reducible repeat refine pB ?_);refine blk_put (cs:=#[.slice Ao60 x201000_5.length co60,u201001]) ?_ 1 _ rfl;(with_reducible repeat refine pB ?_);exact BK200.out⟩,⟨aG⟩⟩
            ·rw[if_neg c58] at H;exact absurd H (by simp)
           ·rw[if_neg c56] at H;exact absurd H (by simp)
         ·rw[if_neg c37] at H;exact absurd H (by simp)
        ·rw[if_neg c36] at H;have c36b0:decide (x10_2<(t216.length:Int))=false:=decide_eq_false c36;clear c36;replace H:=bM H;obtain⟨t231,A770,H⟩:=H;have A77:=aM A770;clear A770
         by_cases c78:t231.toList=a0.toList
         ·rw[if_pos c78] at H;have c78b0:(t231.toList==a0.toList)=true:=beq_iff_eq.mpr c78;have c78b1:(t231.toList !=a0.toList)=false:=bne_eq_false_iff_eq.mpr c78;clear c78;simp only[Option.some.injEq,Prod.mk.injEq] at H;obtain⟨rfl,rfl,rfl⟩:=H;obtain⟨Ao79,co79,eo79⟩:=Kd.R_slice HO_6.out;subst eo79;have hnb80:=NB200_196.out;have hnc80:=NB196_200.out;have hcz81_0:wr.cell? ⟨gb200,0,none⟩=some (u201000):=(blk_cell BK200.out 0).trans rfl;have hcz81_1:wr.cell? ⟨gb200,1,none⟩=some (u201001):=(blk_cell BK200.out 1).trans rfl;have hfz81_0:=blk_frozen BK200.out 0;have hfz81_1:=blk_frozen BK200.out 1;obtain⟨Ao82,co82,eo82⟩:=Kd.R_slice HO_201000.out;subst eo82;obtain⟨Ao83,co83,eo83⟩:=Kd.S_slice HO_201001.out;subst eo83
          go_wp2_with (first|((with_reducible refine gate_callee (f:=21) rfl ?_);refine goesL_ (some 83) rfl rfl Tryz.func21 (by kernel_rfl) rfl #[.agg #[.slice Ao82 x201000_5.length co82,.slice Ao83 x201001_2.length co83]] rfl aA ?_;(with_reducible refine(spec_FormatDatabase.calls k2 _ _ x201000_5 _ _ x201001_2 t231 _ ?side1 ?side2 ?side3 ?side4 A77.out).mono ?_);(case side1=>repeat(first|exact(Kd.R_reads' HO_201000.out).2.2|(with_reducible refine pC ?_)));(case side2=>exact(Kd.R_reads' HO_201000.out).2.1);(case side3=>repeat(first|exact(Kd.S_reads' HO_201001.out).2.2|(with_reducible refine pC ?_)));(case side4=>exact(Kd.S_reads' HO_201001.out).2.1);rintro e w84 ⟨rfl,hb⟩;refine⟨_,rfl,?_⟩;have n0_:=aM (Kd.R_below (aR HO_4) hb);have n1_:=aM (Kd.R_below (aR HO_6) hb);have n2_:=aM (Kd.R_below (aR HO_201000) hb);have n3_:=aM (Kd.S_below (aS HO_201001) hb);have n4_:=aM (kB gb196 #[.slice none 0 0,.slice none 0 0] 25 hb);have n5_:=aM (kB gb200 #[.slice Ao82 x201000_5.length co82,.slice Ao83 x201001_2.length co83] 25 hb);have n6_:=aM (below_step aG hb);clear HO_4;clear HO_6;clear HO_201000;clear HO_201001;clear BK196;clear BK200;clear HB;have HO_4:=n0_;have HO_6:=n1_;have HO_201000:=n2_;have HO_201001:=n3_;have BK196:=n4_;have BK200:=n5_;have HB:=n6_;clear n0_ n1_ n2_ n3_ n4_ n5_ n6_;(try clear hb);(try clear hb2);(try clear hk);(try clear hi);have hcz85_0:w84.cell? ⟨gb200,0,none⟩=some (.slice Ao82 x201000_5.length co82):=(blk_cell BK200.out 0).trans rfl;have hcz85_1:w84.cell? ⟨gb200,1,none⟩=some (.slice Ao83 x201001_2.length co83):=(blk_cell BK200.out 1).trans rfl;have hfz85_0:=blk_frozen BK200.out 0;have hfz85_1:=blk_frozen BK200.out 1;have hcz86_0:w84.cell? ⟨gb196,0,none⟩=some (.slice none 0 0):=(blk_cell BK196.out 0).trans rfl;have hcz86_1:w84.cell? ⟨gb196,1,none⟩=some (.slice none 0 0):=(blk_cell BK196.out 1).trans rfl;have hfz86_0:=blk_frozen BK196.out 0;have hfz86_1:=blk_frozen BK196.out 1))
          refine bodyPost_ret (results_ct rfl _ _ gb196 25 #[.slice Ao82 x201000_5.length co82,.slice Ao83 x201001_2.length co83] (0,0) _ rfl (bP2 BK196.out) Tryz.underlying25 rfl (by kernel_rfl)) rfl ?_;exact⟨_,_,aE,by(with_reducible repeat apply pR);exact Kd.R_mono (Kd.R_far (p:=⟨gb196,1,none⟩) (Kd.R_far (p:=⟨gb196,0,none⟩) (Kd.R_types HO_201000.out BK196.out (by decide)) (fun _ hk=>hk.2) (.slice Ao82 x201000_5.length co82)) (fun _ hk=>hk.2) (.slice Ao83 x201001_2.length co83)) (fun _ hk=>trivial),by(with_reducible repeat apply pS);exact Kd.S_mono (Kd.S_far (p:=⟨gb196,1,none⟩) (Kd.S_far (p:=⟨gb196,0,none⟩) (Kd.S_types HO_201001.out BK196.out (by decide)) (fun _ hk=>hk.2) (.slice Ao82 x201000_5.length co82)) (fun _ hk=>hk.2) (.slice Ao83 x201001_2.length co83)) (fun _ hk=>trivial),aG⟩
         ·rw[if_neg c78] at H;have c78b0:(t231.toList==a0.toList)=false:=beq_eq_false_iff_ne.mpr c78;have c78b1:(t231.toList !=a0.toList)=true:=bne_iff_ne.mpr c78;simp only[Option.some.injEq,Prod.mk.injEq] at H;obtain⟨rfl,rfl,rfl⟩:=H;obtain⟨Ao87,co87,eo87⟩:=Kd.R_slice HO_6.out;subst eo87;have hnb88:=NB200_196.out;have hnc88:=NB196_200.out;have hcz89_0:wr.cell? ⟨gb200,0,none⟩=some (u201000):=(blk_cell BK200.out 0).trans rfl;have hcz89_1:wr.cell? ⟨gb200,1,none⟩=some (u201001):=(blk_cell BK200.out 1).trans rfl;have hfz89_0:=blk_frozen BK200.out 0;have hfz89_1:=blk_frozen BK200.out 1;obtain⟨Ao90,co90,eo90⟩:=Kd.R_slice HO_201000.out;subst eo90;obtain⟨Ao91,co91,eo91⟩:=Kd.S_slice HO_201001.out;subst eo91
          go_wp2_with (first|((with_reducible refine gate_callee (f:=21) rfl ?_);refine goesL_ (some 83) rfl rfl Tryz.func21 (by kernel_rfl) rfl #[.agg #[.slice Ao90 x201000_5.length co90,.slice Ao91 x201001_2.length co91]] rfl aA ?_;(with_reducible refine(spec_FormatDatabase.calls k2 _ _ x201000_5 _ _ x201001_2 t231 _ ?side1 ?side2 ?side3 ?side4 A77.out).mono ?_);(case side1=>repeat(first|exact(Kd.R_reads' HO_201000.out).2.2|(with_reducible refine pC ?_)));(case side2=>exact(Kd.R_reads' HO_201000.out).2.1);(case side3=>repeat(first|exact(Kd.S_reads' HO_201001.out).2.2|(with_reducible refine pC ?_)));(case side4=>exact(Kd.S_reads' HO_201001.out).2.1);rintro e w92 ⟨rfl,hb⟩;refine⟨_,rfl,?_⟩;have n0_:=aM (Kd.R_below (aR HO_4) hb);have n1_:=aM (Kd.R_below (aR HO_6) hb);have n2_:=aM (Kd.R_below (aR HO_201000) hb);have n3_:=aM (Kd.S_below (aS HO_201001) hb);have n4_:=aM (kB gb196 #[.slice none 0 0,.slice none 0 0] 25 hb);have n5_:=aM (kB gb200 #[.slice Ao90 x201000_5.length co90,.slice Ao91 x201001_2.length co91] 25 hb);have n6_:=aM (below_step aG hb);clear HO_4;clear HO_6;clear HO_201000;clear HO_201001;clear BK196;clear BK200;clear HB;have HO_4:=n0_;have HO_6:=n1_;have HO_201000:=n2_;have HO_201001:=n3_;have BK196:=n4_;have BK200:=n5_;have HB:=n6_;clear n0_ n1_ n2_ n3_ n4_ n5_ n6_;(try clear hb);(try clear hb2);(try clear hk);(try clear hi);have hcz93_0:w92.cell? ⟨gb196,0,none⟩=some (.slice none 0 0):=(blk_cell BK196.out 0).trans rfl;have hcz93_1:w92.cell? ⟨gb196,1,none⟩=some (.slice none 0 0):=(blk_cell BK196.out 1).trans rfl;have hfz93_0:=blk_frozen BK196.out 0;have hfz93_1:=blk_frozen BK196.out 1))
          refine bodyPost_ret (results_ct rfl _ _ gb196 25 #[.slice none 0 0,.slice none 0 0] (0,0) _ rfl (bP2 BK196.out) Tryz.underlying25 rfl (by kernel_rfl)) rfl ?_;exact⟨_,_,aE,by first|exact Kd.R_nil _ _ _ _ _|exact Kd.N_nil _ _ _ _ _|exact Kd.V_nil _ _ _ _ _|exact Kd.Q_nil _ _ _ _ _|exact Kd.S_nil _ _ _ _ _,by first|exact Kd.S_nil _ _ _ _ _|exact Kd.N_nil _ _ _ _ _|exact Kd.V_nil _ _ _ _ _|exact Kd.Q_nil _ _ _ _ _|exact Kd.R_nil _ _ _ _ _,aG⟩
     ·rw[if_neg c33] at H;exact absurd H (by simp)
  ·rw[if_neg c4] at H;exact absurd H (by simp)
 ·rw[if_neg c3] at H;have c3b0:((t197.length:Int)==2)=false:=beq_eq_false_iff_ne.mpr c3;have c3b1:((t197.length:Int) !=2)=true:=bne_iff_ne.mpr c3;simp only[Option.some.injEq,Prod.mk.injEq] at H;obtain⟨rfl,rfl,rfl⟩:=H
  go_enter Tryz.func5,Tryz.ntmps5
  go_wp2_with (first|((with_reducible refine gate_dst (N:=2) rfl ?_);refine bE 2 (cs:=#[.slice none 0 0,.slice none 0 0]) (t:=25) ?_;intro gb196 hg w94 hbox hb;have BK196:=aM (hbox);have GW196:=aM ((by rw[hg];exact(below_size aB):w.heap.size≤gb196));have GE196:=aM ((by rw[hg];exact(below_size aB):w.heap.size≤gb196));replace HB:=aM (below_step aB hb);clear hb hbox hg)|((with_reducible refine gate_callee (f:=18) rfl ?_);refine goesL_ (some 14) rfl rfl Tryz.func18 (by kernel_rfl) rfl #[.string a0,.int .u8 58] rfl aA ?_;(with_reducible refine(spec_l6Cut.calls k a0 58 t197 _ A2.out).mono ?_);rintro e w95 ⟨v198,rfl,ho0,hb⟩;refine⟨_,rfl,?_⟩;have HO199:=aM (Kd.R_lower ho0 (below_size aG));replace BK196:=aM (kB gb196 #[.slice none 0 0,.slice none 0 0] 25 hb);replace HB:=aM (below_step aG hb);(try clear hb);(try clear hb2);(try clear hk);(try clear hi);(try clear ho0);obtain⟨Ao96,co96,eo96⟩:=Kd.R_slice HO199.out;subst eo96;have hcz97_0:w95.cell? ⟨gb196,0,none⟩=some (.slice none 0 0):=(blk_cell BK196.out 0).trans rfl;have hcz97_1:w95.cell? ⟨gb196,1,none⟩=some (.slice none 0 0):=(blk_cell BK196.out 1).trans rfl;have hfz97_0:=blk_frozen BK196.out 0;have hfz97_1:=blk_frozen BK196.out 1))
  refine bodyPost_ret (results_ct rfl _ _ gb196 25 #[.slice none 0 0,.slice none 0 0] (0,0) _ rfl (bP2 BK196.out) Tryz.underlying25 rfl (by kernel_rfl)) rfl ?_;exact⟨_,_,aE,by first|exact Kd.R_nil _ _ _ _ _|exact Kd.N_nil _ _ _ _ _|exact Kd.V_nil _ _ _ _ _|exact Kd.Q_nil _ _ _ _ _|exact Kd.S_nil _ _ _ _ _,by first|exact Kd.S_nil _ _ _ _ _|exact Kd.N_nil _ _ _ _ _|exact Kd.V_nil _ _ _ _ _|exact Kd.Q_nil _ _ _ _ _|exact Kd.R_nil _ _ _ _ _,aG⟩

end Go.Proofs.YtckpikfbhlhhjaaGreatDoor.PFnDatabaseFormat
