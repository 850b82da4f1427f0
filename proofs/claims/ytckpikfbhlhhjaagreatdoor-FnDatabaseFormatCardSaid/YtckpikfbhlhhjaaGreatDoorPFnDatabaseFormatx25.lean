import Derived.Test.YtckpikfbhlhhjaaGreatDoorPFnDatabaseFormatx0
import Derived.Test.YtckpikfbhlhhjaaGreatDoorPFnDatabaseFormatx4
import Derived.Test.YtckpikfbhlhhjaaGreatDoorPFnDatabaseFormatx8
namespace Go.Proofs.YtckpikfbhlhhjaaGreatDoor.PFnDatabaseFormat
open Go.RowKit Go.Proofs.YtckpikfbhlhhjaaGreatDoorW.PrintWords Go.Proofs.YtckpikfbhlhhjaaGreatDoorW.PrintLast Go.Proofs.YtckpikfbhlhhjaaGreatDoorW.PrintMore
attribute [local go_sem] max2_int min2_int max_two min_two max_three min_three max_four min_four
set_option linter.unusedVariables false
set_option linter.unusedSimpArgs false

attribute [local go_sem high] eqA42
/-! ### spec_EqualDatabases: function 16 -/
mutual
def spec_EqualDatabases.j0:Nat→Bool→List (S42)→List (S47)→List (S42)→List (S47)→Option (Bool)
 |0,_,_,_,_,_=>none
 |k+1,x22,x731000,x731001,x732000,x732001=>if x22=true then(some false) else(spec_EqualDatabases.l0 k 0 x731000 x731001 x732000 x732001)
def spec_EqualDatabases.l0:Nat→Int→List (S42)→List (S47)→List (S42)→List (S47)→Option (Bool)
 |0,_,_,_,_,_=>none
 |k+1,x5,x731000,x731001,x732000,x732001=>if x5<(x731000.length:Int) then(if 0≤x5 then(if x5<(x732000.length:Int) then(if(!((((rd_T42 x731000 x5).f0).toList)==(((rd_T42 x732000 x5).f0).toList))||(!(((rd_T42 x731000 x5).f1)==((rd_T42 x732000 x5).f1))||(!(((rd_T42 x731000 x5).f2)==((rd_T42 x732000 x5).f2)))))=true then(some false) else(spec_EqualDatabases.l0 k (wrap64 (x5+1)) x731000 x731001 x732000 x732001)) else(none)) else(none)) else(spec_EqualDatabases.l1 k 0 x731000 x731001 x732000 x732001)
def spec_EqualDatabases.l1:Nat→Int→List (S42)→List (S47)→List (S42)→List (S47)→Option (Bool)
 |0,_,_,_,_,_=>none
 |k+1,x6,x731000,x731001,x732000,x732001=>if x6<(x731001.length:Int) then(if 0≤x6 then(if x6<(x732001.length:Int) then((spec_CompareFacts.f k ((rd_T47 x731001 x6).f0) ((rd_T47 x731001 x6).f1) ((rd_T47 x732001 x6).f0) ((rd_T47 x732001 x6).f1)).bind fun t736=>(if t736=0 then(spec_EqualDatabases.l1 k (wrap64 (x6+1)) x731000 x731001 x732000 x732001) else(some false))) else(none)) else(none)) else(some true)
end
def spec_EqualDatabases.f (k:Nat) (l0_0:List (S42)) (l0_1:List (S47)) (l1_0:List (S42)) (l1_1:List (S47)):Option (Bool):=if(l0_0.length:Int)=(l1_0.length:Int) then(spec_EqualDatabases.j0 k ((l0_1.length:Int) !=(l1_1.length:Int)) l0_0 l0_1 l1_0 l1_1) else(spec_EqualDatabases.j0 k true l0_0 l0_1 l1_0 l1_1)
def spec_EqualDatabases.T6:Bool×List (List Nat×List Nat):=(true,[([],[]),([0],[0]),([],[]),([1,2],[1,2]),([3],[3]),([],[]),([5],[5]),([],[]),([6,7],[6,7]),([8],[8]),([4,9],[4,9])])
def spec_EqualDatabases.B6:List Nat:= [0,1,0,7,15,0,32,0,224,480,1023]
theorem spec_EqualDatabases.tab6:rtab .any (opsOf Tryz.f16 6)=spec_EqualDatabases.T6:=by kernel_rfl
theorem spec_EqualDatabases.bits6:waitsOk spec_EqualDatabases.T6.2 spec_EqualDatabases.B6=true:=by kernel_rfl
set_option maxHeartbeats 8000000 in
set_option maxRecDepth 100000 in
theorem spec_EqualDatabases.calls (k:Nat) (A0_0:Option Addr) (c0_0:Nat) (l0_0:List (S42)) (A0_1:Option Addr) (c0_1:Nat) (l0_1:List (S47)) (A1_0:Option Addr) (c1_0:Nat) (l1_0:List (S42)) (A1_1:Option Addr) (c1_1:Nat) (l1_1:List (S47)) (r:Bool) (w:World) (hr0_0:Kd.C k42 w A0_0 l0_0.length l0_0) (hc0_0:l0_0.length≤c0_0) (hr0_1:Kd.C k47 w A0_1 l0_1.length l0_1) (hc0_1:l0_1.length≤c0_1) (hr1_0:Kd.C k42 w A1_0 l1_0.length l1_0) (hc1_0:l1_0.length≤c1_0) (hr1_1:Kd.C k47 w A1_1 l1_1.length l1_1) (hc1_1:l1_1.length≤c1_1) (h:spec_EqualDatabases.f k l0_0 l0_1 l1_0 l1_1=some r):
  Calls Tryz.prog 16 #[.agg #[.slice A0_0 l0_0.length c0_0,.slice A0_1 l0_1.length c0_1],.agg #[.slice A1_0 l1_0.length c1_0,.slice A1_1 l1_1.length c1_1]] w fun e w'=>e= .returned (.bool r)∧Below w.heap.size w w':=by
 have hu25:=Tryz.underlying25;have hu42:=Tryz.underlying42;have hu47:=Tryz.underlying47;have HR0_0:=aM hr0_0;have HC0_0:=aM hc0_0;clear hr0_0 hc0_0;have HR0_1:=aM hr0_1;have HC0_1:=aM hc0_1;clear hr0_1 hc0_1;have HR1_0:=aM hr1_0;have HC1_0:=aM hc1_0;clear hr1_0 hc1_0;have HR1_1:=aM hr1_1;have HC1_1:=aM hc1_1;clear hr1_1 hc1_1;have HB:=aM (Below.refl w.heap.size w);have H:(if(l0_0.length:Int)=(l1_0.length:Int) then(spec_EqualDatabases.j0 k ((l0_1.length:Int) !=(l1_1.length:Int)) l0_0 l0_1 l1_0 l1_1) else(spec_EqualDatabases.j0 k true l0_0 l0_1 l1_0 l1_1))=some r:=h;clear h;have HC3:=aM H;clear H
 go_enter Tryz.func16,Tryz.ntmps16
 go_upto_region 1 with (first|((with_reducible refine gate_dst (N:=2) rfl ?_);(try(refine gate_guard (by rfl) ?_;dsimp only));refine bE 2 (cs:=#[.slice A0_0 l0_0.length c0_0,.slice A0_1 l0_1.length c0_1]) (t:=25) ?_;intro gb730 hg w4 hbox hb;have BK730:=aM (hbox);have GW730:=aM ((by rw[hg];exact(below_size aB):w.heap.size≤gb730));have GE730:=aM ((by rw[hg];exact(below_size aB):w.heap.size≤gb730));replace HB:=aM (below_step aB hb);clear hb hbox hg)|((with_reducible refine gate_dst (N:=3) rfl ?_);(try(refine gate_guard (by rfl) ?_;dsimp only));refine bE 3 (cs:=#[.slice A1_0 l1_0.length c1_0,.slice A1_1 l1_1.length c1_1]) (t:=25) ?_;intro gb731 hg w5 hbox hb;have BK731:=aM (hbox);have GW731:=aM ((by rw[hg];exact(below_size aG):w.heap.size≤gb731));have GE731:=aM ((by rw[hg];exact(below_size aG):w.heap.size≤gb731));have NB730_731:=aM ((by rw[hg];exact Nat.ne_of_lt (blk_lt (g:=gb730) aK):gb730≠gb731));have NB731_730:=aM ((by rw[hg];exact Nat.ne_of_gt (blk_lt (g:=gb730) aK):gb731≠gb730));replace BK730:=aM (kB gb730 #[.slice A0_0 l0_0.length c0_0,.slice A0_1 l0_1.length c0_1] 25 hb);replace HB:=aM (below_step aG hb);clear hb hbox hg))
 (try simp only[Act.put,List.setIfInBounds_toArray,List.set_cons_zero,List.set_cons_succ])
 go_cut [22] (fun v22 wc=> ∃(kq:Nat) (x22_2:Bool),v22= .bool x22_2∧Aside0 (spec_EqualDatabases.j0 kq x22_2 l0_0 l0_1 l1_0 l1_1=some r)∧Aside0 (kq≤k)∧Aside0 (wc.heap[gb730]? =some (.cells #[(.slice A0_0 l0_0.length c0_0),(.slice A0_1 l0_1.length c0_1)] 25 (0,0)))∧Aside0 (wc.heap[gb731]? =some (.cells #[(.slice A1_0 l1_0.length c1_0),(.slice A1_1 l1_1.length c1_1)] 25 (0,0)))∧Aside0 (Below w.heap.size w wc))
 case first=>
  have H:=HC3.out;clear HC3
  by_cases c6:(l0_0.length:Int)=(l1_0.length:Int)
  ·rw[if_pos c6] at H;have c6b0:((l0_0.length:Int)==(l1_0.length:Int))=true:=beq_iff_eq.mpr c6;have c6b1:((l0_0.length:Int) !=(l1_0.length:Int))=false:=bne_eq_false_iff_eq.mpr c6;have c6b2:(l0_0.length==l1_0.length)=true:=by first|simpa using c6|(simp at c6 ⊢;omega)
   clear c6;(first|rw[c6b0] |(simp only[i64_w,i32_w];rw[c6b0])|skip)
   have H':=aM H;clear H;have hnb7:=NB730_731.out;have hnc7:=NB731_730.out;have hcz8_0:w5.cell? ⟨gb730,0,none⟩=some (.slice A0_0 l0_0.length c0_0):=(blk_cell BK730.out 0).trans rfl;have hcz8_1:w5.cell? ⟨gb730,1,none⟩=some (.slice A0_1 l0_1.length c0_1):=(blk_cell BK730.out 1).trans rfl;have hfz8_0:=blk_frozen BK730.out 0;have hfz8_1:=blk_frozen BK730.out 1;have hcz9_0:w5.cell? ⟨gb731,0,none⟩=some (.slice A1_0 l1_0.length c1_0):=(blk_cell BK731.out 0).trans rfl;have hcz9_1:w5.cell? ⟨gb731,1,none⟩=some (.slice A1_1 l1_1.length c1_1):=(blk_cell BK731.out 1).trans rfl;have hfz9_0:=blk_frozen BK731.out 0;have hfz9_1:=blk_frozen BK731.out 1
   go_wp2
   go_meet
   case rel=>exact⟨_,(((l0_1.length:Int) !=(l1_1.length:Int))),aX,H',⟨by first|omega|exact Nat.le_refl _⟩,⟨aK⟩,⟨aK⟩,⟨aG⟩⟩
  ·rw[if_neg c6] at H;have c6b0:((l0_0.length:Int)==(l1_0.length:Int))=false:=beq_eq_false_iff_ne.mpr c6;have c6b1:((l0_0.length:Int) !=(l1_0.length:Int))=true:=bne_iff_ne.mpr c6;have c6b2:(l0_0.length==l1_0.length)=false:=by first|simpa using c6|(simp at c6 ⊢;omega)
   (first|rw[c6b0] |(simp only[i64_w,i32_w];rw[c6b0])|skip)
   have H':=aM H;clear H;have hnb10:=NB730_731.out;have hnc10:=NB731_730.out;have hcz11_0:w5.cell? ⟨gb730,0,none⟩=some (.slice A0_0 l0_0.length c0_0):=(blk_cell BK730.out 0).trans rfl;have hcz11_1:w5.cell? ⟨gb730,1,none⟩=some (.slice A0_1 l0_1.length c0_1):=(blk_cell BK730.out 1).trans rfl;have hfz11_0:=blk_frozen BK730.out 0;have hfz11_1:=blk_frozen BK730.out 1;have hcz12_0:w5.cell? ⟨gb731,0,none⟩=some (.slice A1_0 l1_0.length c1_0):=(blk_cell BK731.out 0).trans rfl;have hcz12_1:w5.cell? ⟨gb731,1,none⟩=some (.slice A1_1 l1_1.length c1_1):=(blk_cell BK731.out 1).trans rfl;have hfz12_0:=blk_frozen BK731.out 0;have hfz12_1:=blk_frozen BK731.out 1
   go_wp2
   go_meet
   case rel=>exact⟨_,(true),aX,H',⟨by first|omega|exact Nat.le_refl _⟩,⟨aK⟩,⟨aK⟩,⟨aG⟩⟩
 case rest=>
  clear HC3
  try clear c1
  try clear p2
  try clear c6
  try clear c6b0
  try clear c6b1
  try clear c6b2
  try clear c7
  try clear c10
  try clear hcz11_0
  try clear hcz11_1
  try clear hcz12_0
  try clear hcz12_1
  try clear hcz8_0
  try clear hcz8_1
  try clear hcz9_0
  try clear hcz9_1
  try clear hfz11_0
  try clear hfz11_1
  try clear hfz12_0
  try clear hfz12_1
  try clear hfz8_0
  try clear hfz8_1
  try clear hfz9_0
  try clear hfz9_1
  obtain⟨kq,x22_2,rfl,HA,HJ2,BK730,BK731,HB⟩:=hcut
  cases kq with
  |zero=>exact absurd HA.out (by simp[spec_EqualDatabases.j0])
  |succ kj2=>
   have H:=HA.out;clear HA;simp only[spec_EqualDatabases.j0] at H
   by_cases c13:x22_2=true
   ·subst c13;replace H:=iT H;obtain rfl:=Option.some.inj H
    go_wp2
    go_ret
    exact⟨aE,aG⟩
   ·replace c13:=Bool.eq_false_iff.mpr c13;subst c13;have H1:(spec_EqualDatabases.l0 kj2 0 l0_0 l0_1 l1_0 l1_1)=some r:=by rw[if_neg (show¬(false=true) by decide)] at H;exact H
    clear H;have H:=H1;clear H1;have H':=aM H;clear H
    go_wp2
    go_loopg [5] kj2 (fun kq v5 w'=> ∃(x5_2:Int),v5= .int .i64 x5_2∧Aside0 (spec_EqualDatabases.l0 kq x5_2 l0_0 l0_1 l1_0 l1_1=some r)∧Aside0 (kq≤kj2)∧Aside0 (w'.heap[gb730]? =some (.cells #[(.slice A0_0 l0_0.length c0_0),(.slice A0_1 l0_1.length c0_1)] 25 (0,0)))∧Aside0 (w'.heap[gb731]? =some (.cells #[(.slice A1_0 l1_0.length c1_0),(.slice A1_1 l1_1.length c1_1)] 25 (0,0)))∧Aside0 (Below w.heap.size w w'))
    case atStart=>exact⟨(0),aX,H',⟨Nat.le_refl _⟩,⟨aK⟩,⟨aK⟩,⟨aG⟩⟩
    case round=>
     clear H'
     try clear c1
     try clear p2
     try clear c6
     try clear c6b0
     try clear c6b1
     try clear c6b2
     try clear c7
     try clear c10
     try clear c13
     try clear hcz11_0
     try clear hcz11_1
     try clear hcz12_0
     try clear hcz12_1
     try clear hcz8_0
     try clear hcz8_1
     try clear hcz9_0
     try clear hcz9_1
     try clear hfz11_0
     try clear hfz11_1
     try clear hfz12_0
     try clear hfz12_1
     try clear hfz8_0
     try clear hfz8_1
     try clear hfz9_0
     try clear hfz9_1
     try clear p2
     obtain⟨x5_2,rfl,HA,HK2,BK730,BK731,HB⟩:=hrel
     cases gk with
     |zero=>exact absurd HA.out (by simp[spec_EqualDatabases.l0])
     |succ k2=>
      have H:=HA.out;clear HA;simp only[spec_EqualDatabases.l0] at H
      by_cases c14:x5_2<(l0_0.length:Int)
      ·rw[if_pos c14] at H;have c14b0:decide (x5_2<(l0_0.length:Int))=true:=decide_eq_true c14;clear c14
       by_cases c15:0≤x5_2
       ·rw[if_pos c15] at H;have c15b0:decide (0≤x5_2)=true:=decide_eq_true c15;clear c15
        by_cases c16:x5_2<(l1_0.length:Int)
        ·rw[if_pos c16] at H;have c16b0:decide (x5_2<(l1_0.length:Int))=true:=decide_eq_true c16;clear c16
         by_cases c17:(!((((rd_T42 l0_0 x5_2).f0).toList)==(((rd_T42 l1_0 x5_2).f0).toList))||(!(((rd_T42 l0_0 x5_2).f1)==((rd_T42 l1_0 x5_2).f1))||(!(((rd_T42 l0_0 x5_2).f2)==((rd_T42 l1_0 x5_2).f2)))))=true
         ·rw[if_pos c17] at H;have c17b0:(!((((rd_T42 l0_0 x5_2).f0).toList)==(((rd_T42 l1_0 x5_2).f0).toList))||(!(((rd_T42 l0_0 x5_2).f1)==((rd_T42 l1_0 x5_2).f1))||(!(((rd_T42 l0_0 x5_2).f2)==((rd_T42 l1_0 x5_2).f2)))))=true:=c17;clear c17;obtain rfl:=Option.some.inj H;have hnb18:=NB730_731.out;have hnc18:=NB731_730.out;have hcz19_0:wr.cell? ⟨gb730,0,none⟩=some (.slice A0_0 l0_0.length c0_0):=(blk_cell BK730.out 0).trans rfl;have hcz19_1:wr.cell? ⟨gb730,1,none⟩=some (.slice A0_1 l0_1.length c0_1):=(blk_cell BK730.out 1).trans rfl;have hfz19_0:=blk_frozen BK730.out 0;have hfz19_1:=blk_frozen BK730.out 1
          try go_wp2
          replace BK730:=aM (blk_drew BK730.out);replace BK731:=aM (blk_drew BK731.out);replace HB:=aM (below_drew1 HB.out);have p732:0≤(x5_2:Int):=aD;have q732:x5_2<(l0_0.length:Int):=aD;obtain⟨ad732,e732,hx732_0,hx732_1,hx732_2⟩:=at_T42 HR0_0.out x5_2 p732 q732;have hw732_2:=hx732_2;have hw732_1:=hx732_1;have hw732_0:=hx732_0
          cases e732
          replace hx732_0:=(HB.out.cell (World.block_lt_of_cell? w _ hx732_0)).trans hx732_0;replace hx732_1:=(HB.out.cell (World.block_lt_of_cell? w _ hx732_1)).trans hx732_1;replace hx732_2:=(HB.out.cell (World.block_lt_of_cell? w _ hx732_2)).trans hx732_2;replace p732:=eq_true p732;replace q732:=eq_true q732;have p733:0≤(x5_2:Int):=aD;have q733:x5_2<(l1_0.length:Int):=aD;obtain⟨ad733,e733,hx733_0,hx733_1,hx733_2⟩:=at_T42 HR1_0.out x5_2 p733 q733;have hw733_2:=hx733_2;have hw733_1:=hx733_1;have hw733_0:=hx733_0
          cases e733
          replace hx733_0:=(HB.out.cell (World.block_lt_of_cell? w _ hx733_0)).trans hx733_0;replace hx733_1:=(HB.out.cell (World.block_lt_of_cell? w _ hx733_1)).trans hx733_1;replace hx733_2:=(HB.out.cell (World.block_lt_of_cell? w _ hx733_2)).trans hx733_2;replace p733:=eq_true p733;replace q733:=eq_true q733;refine start_ (n:=11) (S:=fun w'=>w'.cell? ⟨gb730,0,none⟩=some (.slice (some ad732) l0_0.length c0_0)∧w'.cell? ⟨gb730,1,none⟩=some (.slice A0_1 l0_1.length c0_1)∧w'.cell? ⟨gb731,0,none⟩=some (.slice (some ad733) l1_0.length c1_0)∧w'.cell? ⟨gb731,1,none⟩=some (.slice A1_1 l1_1.length c1_1)∧w'.cell? (ad732.add ((x5_2).toNat*3))=some (.string ((rd_T42 l0_0 x5_2).f0))∧w'.cell? ⟨(ad732.add ((x5_2).toNat*3)).block,(ad732.add ((x5_2).toNat*3)).off+1,none⟩=some (.int .i64 ((rd_T42 l0_0 x5_2).f1))∧w'.cell? ⟨(ad732.add ((x5_2).toNat*3)).block,(ad732.add ((x5_2).toNat*3)).off+2,none⟩=some (.int .i64 ((rd_T42 l0_0 x5_2).f2))∧w'.cell? (ad733.add ((x5_2).toNat*3))=some (.string ((rd_T42 l1_0 x5_2).f0))∧w'.cell? ⟨(ad733.add ((x5_2).toNat*3)).block,(ad733.add ((x5_2).toNat*3)).off+1,none⟩=some (.int .i64 ((rd_T42 l1_0 x5_2).f1))∧w'.cell? ⟨(ad733.add ((x5_2).toNat*3)).block,(ad733.add ((x5_2).toNat*3)).off+2,none⟩=some (.int .i64 ((rd_T42 l1_0 x5_2).f2))) (ds:= []) #[false,false,false,false,false,false,false,false,false,false,false] (by kernel_rfl) rfl rfl ⟨(blk_cell BK730.out 0).trans rfl,(blk_cell BK730.out 1).trans rfl,(blk_cell BK731.out 0).trans rfl,(blk_cell BK731.out 1).trans rfl,(pw_cell_below HB.out hw732_0),(pw_cell_below HB.out hw732_1),(pw_cell_below HB.out hw732_2),(pw_cell_below HB.out hw733_0),(pw_cell_below HB.out hw733_1),(pw_cell_below HB.out hw733_2)⟩ (fun hHeld=>?_);refine with_tabW spec_EqualDatabases.tab6 spec_EqualDatabases.bits6 (fun HT_ HW_=>?_);generalize wr.drew=w20 at BK730 BK731 HB hx732_0 hx732_1 hx732_2 hx733_0 hx733_1 hx733_2 hHeld ⊢;refine pU 0 30 ?_;refine pU 2 32 ?_;refine pU 5 35 ?_;refine pU 7 37 ?_;refine take_ (i:=1) (N:=some 31) (v:=?_) (a':=?_) #[true,true,true,false,false,true,false,true,false,false,false] rfl rfl (take_ofW HT_.out HW_.out (by kernel_rfl)) (fun _ _ _ h=>h) (Or.inl ⟨by rfl,?_⟩) hHeld ?_ ?_
          rotate_left
          ·rintro w' ⟨s0,s1,s2,s3,s4,s5,s6,s7,s8,s9⟩
           go_simp
           with_reducible rfl
          rotate_left
          ·exact aP
          refine pU 3 33 ?_;refine take_ (i:=4) (N:=some 34) (v:=?_) (a':=?_) #[true,true,true,true,true,true,false,true,false,false,false] rfl rfl (take_ofW HT_.out HW_.out (by kernel_rfl)) (fun _ _ _ h=>h) (Or.inl ⟨by rfl,?_⟩) hHeld ?_ ?_
          rotate_left
          ·rintro w' ⟨s0,s1,s2,s3,s4,s5,s6,s7,s8,s9⟩
           go_simp
           with_reducible rfl
          rotate_left
          ·exact aP
          refine take_ (i:=6) (N:=some 36) (v:=?_) (a':=?_) #[true,true,true,true,true,true,true,true,false,false,false] rfl rfl (take_ofW HT_.out HW_.out (by kernel_rfl)) (fun _ _ _ h=>h) (Or.inl ⟨by rfl,?_⟩) hHeld ?_ ?_
          rotate_left
          ·rintro w' ⟨s0,s1,s2,s3,s4,s5,s6,s7,s8,s9⟩
           go_simp
           with_reducible rfl
          rotate_left
          ·exact aP
          refine pU 8 38 ?_;refine take_ (i:=9) (N:=some 39) (v:=?_) (a':=?_) #[true,true,true,true,true,true,true,true,true,true,false] rfl rfl (take_ofW HT_.out HW_.out (by kernel_rfl)) (fun _ _ _ h=>h) (Or.inl ⟨by rfl,?_⟩) hHeld ?_ ?_
          rotate_left
          ·rintro w' ⟨s0,s1,s2,s3,s4,s5,s6,s7,s8,s9⟩
           go_simp
           with_reducible rfl
          rotate_left
          ·exact aP
          refine pU 10 40 ?_;refine done_ (done_of HT_.out (by kernel_rfl)) ?_
          try go_wp2
          go_ret
          exact⟨aE,aG⟩
         ·rw[if_neg c17] at H;have c17b0:(!((((rd_T42 l0_0 x5_2).f0).toList)==(((rd_T42 l1_0 x5_2).f0).toList))||(!(((rd_T42 l0_0 x5_2).f1)==((rd_T42 l1_0 x5_2).f1))||(!(((rd_T42 l0_0 x5_2).f2)==((rd_T42 l1_0 x5_2).f2)))))=false:=by simpa using c17
          clear c17;have H':=aM H;clear H;have hnb21:=NB730_731.out;have hnc21:=NB731_730.out;have hcz22_0:wr.cell? ⟨gb730,0,none⟩=some (.slice A0_0 l0_0.length c0_0):=(blk_cell BK730.out 0).trans rfl;have hcz22_1:wr.cell? ⟨gb730,1,none⟩=some (.slice A0_1 l0_1.length c0_1):=(blk_cell BK730.out 1).trans rfl;have hfz22_0:=blk_frozen BK730.out 0;have hfz22_1:=blk_frozen BK730.out 1
          try go_wp2
          replace BK730:=aM (blk_drew BK730.out);replace BK731:=aM (blk_drew BK731.out);replace HB:=aM (below_drew1 HB.out);have p732:0≤(x5_2:Int):=aD;have q732:x5_2<(l0_0.length:Int):=aD;obtain⟨ad732,e732,hx732_0,hx732_1,hx732_2⟩:=at_T42 HR0_0.out x5_2 p732 q732;have hw732_2:=hx732_2;have hw732_1:=hx732_1;have hw732_0:=hx732_0
          cases e732
          replace hx732_0:=(HB.out.cell (World.block_lt_of_cell? w _ hx732_0)).trans hx732_0;replace hx732_1:=(HB.out.cell (World.block_lt_of_cell? w _ hx732_1)).trans hx732_1;replace hx732_2:=(HB.out.cell (World.block_lt_of_cell? w _ hx732_2)).trans hx732_2;replace p732:=eq_true p732;replace q732:=eq_true q732;have p733:0≤(x5_2:Int):=aD;have q733:x5_2<(l1_0.length:Int):=aD;obtain⟨ad733,e733,hx733_0,hx733_1,hx733_2⟩:=at_T42 HR1_0.out x5_2 p733 q733;have hw733_2:=hx733_2;have hw733_1:=hx733_1;have hw733_0:=hx733_0
          cases e733
          replace hx733_0:=(HB.out.cell (World.block_lt_of_cell? w _ hx733_0)).trans hx733_0;replace hx733_1:=(HB.out.cell (World.block_lt_of_cell? w _ hx733_1)).trans hx733_1;replace hx733_2:=(HB.out.cell (World.block_lt_of_cell? w _ hx733_2)).trans hx733_2;replace p733:=eq_true p733;replace q733:=eq_true q733;refine start_ (n:=11) (S:=fun w'=>w'.cell? ⟨gb730,0,none⟩=some (.slice (some ad732) l0_0.length c0_0)∧w'.cell? ⟨gb730,1,none⟩=some (.slice A0_1 l0_1.length c0_1)∧w'.cell? ⟨gb731,0,none⟩=some (.slice (some ad733) l1_0.length c1_0)∧w'.cell? ⟨gb731,1,none⟩=some (.slice A1_1 l1_1.length c1_1)∧w'.cell? (ad732.add ((x5_2).toNat*3))=some (.string ((rd_T42 l0_0 x5_2).f0))∧w'.cell? ⟨(ad732.add ((x5_2).toNat*3)).block,(ad732.add ((x5_2).toNat*3)).off+1,none⟩=some (.int .i64 ((rd_T42 l0_0 x5_2).f1))∧w'.cell? ⟨(ad732.add ((x5_2).toNat*3)).block,(ad732.add ((x5_2).toNat*3)).off+2,none⟩=some (.int .i64 ((rd_T42 l0_0 x5_2).f2))∧w'.cell? (ad733.add ((x5_2).toNat*3))=some (.string ((rd_T42 l1_0 x5_2).f0))∧w'.cell? ⟨(ad733.add ((x5_2).toNat*3)).block,(ad733.add ((x5_2).toNat*3)).off+1,none⟩=some (.int .i64 ((rd_T42 l1_0 x5_2).f1))∧w'.cell? ⟨(ad733.add ((x5_2).toNat*3)).block,(ad733.add ((x5_2).toNat*3)).off+2,none⟩=some (.int .i64 ((rd_T42 l1_0 x5_2).f2))) (ds:= []) #[false,false,false,false,false,false,false,false,false,false,false] (by kernel_rfl) rfl rfl ⟨(blk_cell BK730.out 0).trans rfl,(blk_cell BK730.out 1).trans rfl,(blk_cell BK731.out 0).trans rfl,(blk_cell BK731.out 1).trans rfl,(pw_cell_below HB.out hw732_0),(pw_cell_below HB.out hw732_1),(pw_cell_below HB.out hw732_2),(pw_cell_below HB.out hw733_0),(pw_cell_below HB.out hw733_1),(pw_cell_below HB.out hw733_2)⟩ (fun hHeld=>?_);refine with_tabW spec_EqualDatabases.tab6 spec_EqualDatabases.bits6 (fun HT_ HW_=>?_);generalize wr.drew=w23 at BK730 BK731 HB hx732_0 hx732_1 hx732_2 hx733_0 hx733_1 hx733_2 hHeld ⊢;refine pU 0 30 ?_;refine pU 2 32 ?_;refine pU 5 35 ?_;refine pU 7 37 ?_;refine take_ (i:=1) (N:=some 31) (v:=?_) (a':=?_) #[true,true,true,false,false,true,false,true,false,false,false] rfl rfl (take_ofW HT_.out HW_.out (by kernel_rfl)) (fun _ _ _ h=>h) (Or.inl ⟨by rfl,?_⟩) hHeld ?_ ?_
          rotate_left
          ·rintro w' ⟨s0,s1,s2,s3,s4,s5,s6,s7,s8,s9⟩
           go_simp
           with_reducible rfl
          rotate_left
          ·exact aP
          refine pU 3 33 ?_;refine take_ (i:=4) (N:=some 34) (v:=?_) (a':=?_) #[true,true,true,true,true,true,false,true,false,false,false] rfl rfl (take_ofW HT_.out HW_.out (by kernel_rfl)) (fun _ _ _ h=>h) (Or.inl ⟨by rfl,?_⟩) hHeld ?_ ?_
          rotate_left
          ·rintro w' ⟨s0,s1,s2,s3,s4,s5,s6,s7,s8,s9⟩
           go_simp
           with_reducible rfl
          rotate_left
          ·exact aP
          refine take_ (i:=6) (N:=some 36) (v:=?_) (a':=?_) #[true,true,true,true,true,true,true,true,false,false,false] rfl rfl (take_ofW HT_.out HW_.out (by kernel_rfl)) (fun _ _ _ h=>h) (Or.inl ⟨by rfl,?_⟩) hHeld ?_ ?_
          rotate_left
          ·rintro w' ⟨s0,s1,s2,s3,s4,s5,s6,s7,s8,s9⟩
           go_simp
           with_reducible rfl
          rotate_left
          ·exact aP
          refine pU 8 38 ?_;refine take_ (i:=9) (N:=some 39) (v:=?_) (a':=?_) #[true,true,true,true,true,true,true,true,true,true,false] rfl rfl (take_ofW HT_.out HW_.out (by kernel_rfl)) (fun _ _ _ h=>h) (Or.inl ⟨by rfl,?_⟩) hHeld ?_ ?_
          rotate_left
          ·rintro w' ⟨s0,s1,s2,s3,s4,s5,s6,s7,s8,s9⟩
           go_simp
           with_reducible rfl
          rotate_left
          ·exact aP
          refine pU 10 40 ?_;refine done_ (done_of HT_.out (by kernel_rfl)) ?_
          try go_wp2
          go_roundg k2
          case measure=>have:=HJ2.out;have:=HK2.out;omega
          case rel=>exact⟨(wrap64 (x5_2+1)),aX,H',⟨by have:=HJ2.out;have:=HK2.out;omega⟩,⟨aK⟩,⟨aK⟩,⟨aG⟩⟩
        ·rw[if_neg c16] at H;exact absurd H (by simp)
       ·rw[if_neg c15] at H;exact absurd H (by simp)
      ·rw[if_neg c14] at H;have c14b0:decide (x5_2<(l0_0.length:Int))=false:=decide_eq_false c14;clear c14;have H':=aM H;clear H;have hnb24:=NB730_731.out;have hnc24:=NB731_730.out;have hcz25_0:wr.cell? ⟨gb730,0,none⟩=some (.slice A0_0 l0_0.length c0_0):=(blk_cell BK730.out 0).trans rfl;have hcz25_1:wr.cell? ⟨gb730,1,none⟩=some (.slice A0_1 l0_1.length c0_1):=(blk_cell BK730.out 1).trans rfl;have hfz25_0:=blk_frozen BK730.out 0;have hfz25_1:=blk_frozen BK730.out 1
       go_wp2
       go_loopg [6] k2 (fun kq v6 w'=> ∃(x6_3:Int),v6= .int .i64 x6_3∧Aside0 (spec_EqualDatabases.l1 kq x6_3 l0_0 l0_1 l1_0 l1_1=some r)∧Aside0 (kq≤k2)∧Aside0 (w'.heap[gb730]? =some (.cells #[(.slice A0_0 l0_0.length c0_0),(.slice A0_1 l0_1.length c0_1)] 25 (0,0)))∧Aside0 (w'.heap[gb731]? =some (.cells #[(.slice A1_0 l1_0.length c1_0),(.slice A1_1 l1_1.length c1_1)] 25 (0,0)))∧Aside0 (Below w.heap.size w w'))
       case atStart=>exact⟨(0),aX,H',⟨Nat.le_refl _⟩,⟨aK⟩,⟨aK⟩,⟨aG⟩⟩
       case round=>
        clear H'
        try clear c1
        try clear c2
        try clear p2
        try clear c6
        try clear c6b0
        try clear c6b1
        try clear c6b2
        try clear p6
        try clear c7
        try clear p7
        try clear q7
        try clear hx7
        try clear c10
        try clear c13
        try clear c14
        try clear c14b0
        try clear c15
        try clear c15b0
        try clear c16
        try clear c16b0
        try clear c17
        try clear c17b0
        try clear c18
        try clear c21
        try clear c24
        try clear hcz11_0
        try clear hcz11_1
        try clear hcz12_0
        try clear hcz12_1
        try clear hcz19_0
        try clear hcz19_1
        try clear hcz22_0
        try clear hcz22_1
        try clear hcz25_0
        try clear hcz25_1
        try clear hcz8_0
        try clear hcz8_1
        try clear hcz9_0
        try clear hcz9_1
        try clear hfz11_0
        try clear hfz11_1
        try clear hfz12_0
        try clear hfz12_1
        try clear hfz19_0
        try clear hfz19_1
        try clear hfz22_0
        try clear hfz22_1
        try clear hfz25_0
        try clear hfz25_1
        try clear hfz8_0
        try clear hfz8_1
        try clear hfz9_0
        try clear hfz9_1
        try clear hx732_0
        try clear hx732_1
        try clear hx732_2
        try clear hx733_0
        try clear hx733_1
        try clear hx733_2
        try clear p2
        try clear p732
        try clear p733
        try clear q732
        try clear q733
        obtain⟨x6_3,rfl,HA,HK3,BK730,BK731,HB⟩:=hrel
        cases gk with
        |zero=>exact absurd HA.out (by simp[spec_EqualDatabases.l1])
        |succ k3=>
         have H:=HA.out;clear HA;simp only[spec_EqualDatabases.l1] at H
         by_cases c26:x6_3<(l0_1.length:Int)
         ·rw[if_pos c26] at H;have c26b0:decide (x6_3<(l0_1.length:Int))=true:=decide_eq_true c26;clear c26
          by_cases c27:0≤x6_3
          ·rw[if_pos c27] at H;have c27b0:decide (0≤x6_3)=true:=decide_eq_true c27;clear c27
           by_cases c28:x6_3<(l1_1.length:Int)
           ·rw[if_pos c28] at H;have c28b0:decide (x6_3<(l1_1.length:Int))=true:=decide_eq_true c28;clear c28;replace H:=bM H;obtain⟨t736,A290,H⟩:=H;have A29:=aM A290;clear A290
            by_cases c30:t736=0
            ·rw[if_pos c30] at H;have c30b0:(t736==0)=true:=beq_iff_eq.mpr c30;have c30b1:(t736 !=0)=false:=bne_eq_false_iff_eq.mpr c30;clear c30;have H':=aM H;clear H;have hnb31:=NB730_731.out;have hnc31:=NB731_730.out;have hcz32_0:wr.cell? ⟨gb730,0,none⟩=some (.slice A0_0 l0_0.length c0_0):=(blk_cell BK730.out 0).trans rfl;have hcz32_1:wr.cell? ⟨gb730,1,none⟩=some (.slice A0_1 l0_1.length c0_1):=(blk_cell BK730.out 1).trans rfl;have hfz32_0:=blk_frozen BK730.out 0;have hfz32_1:=blk_frozen BK730.out 1
             try go_wp2
             replace BK730:=aM (blk_drew BK730.out);replace BK731:=aM (blk_drew BK731.out);replace HB:=aM (below_drew1 HB.out);have p734:0≤(x6_3:Int):=aD;have q734:x6_3<(l0_1.length:Int):=aD;obtain⟨ad734,A734_1,c734_1,e734,hx734_0,hx734_1,hl734_1,hi734_1⟩:=at_T47 HR0_1.out x6_3 p734 q734;have hw734_1:=hx734_1;have hw734_0:=hx734_0
             cases e734
             replace hx734_0:=(HB.out.cell (World.block_lt_of_cell? w _ hx734_0)).trans hx734_0;replace hx734_1:=(HB.out.cell (World.block_lt_of_cell? w _ hx734_1)).trans hx734_1;have HR734_1:=aM hi734_1;have HC734_1:=aM hl734_1;clear hi734_1 hl734_1;replace p734:=eq_true p734;replace q734:=eq_true q734;have p735:0≤(x6_3:Int):=aD;have q735:x6_3<(l1_1.length:Int):=aD;obtain⟨ad735,A735_1,c735_1,e735,hx735_0,hx735_1,hl735_1,hi735_1⟩:=at_T47 HR1_1.out x6_3 p735 q735;have hw735_1:=hx735_1;have hw735_0:=hx735_0
             cases e735
             replace hx735_0:=(HB.out.cell (World.block_lt_of_cell? w _ hx735_0)).trans hx735_0;replace hx735_1:=(HB.out.cell (World.block_lt_of_cell? w _ hx735_1)).trans hx735_1;have HR735_1:=aM hi735_1;have HC735_1:=aM hl735_1;clear hi735_1 hl735_1;replace p735:=eq_true p735;replace q735:=eq_true q735;have qf0_: ∀(d_:Nat) (os_:Array Obj),(Go.Sort.grow (redrawn wr d_) os_).cell? ⟨gb730,0,none⟩=some (.slice A0_0 l0_0.length c0_0):=cell_regrown_drew ((blk_cell BK730.out 0).trans rfl);have qf1_: ∀(d_:Nat) (os_:Array Obj),(Go.Sort.grow (redrawn wr d_) os_).cell? ⟨gb730,1,none⟩=some (.slice (some ad734) l0_1.length c0_1):=cell_regrown_drew ((blk_cell BK730.out 1).trans rfl);have qf2_: ∀(d_:Nat) (os_:Array Obj),(Go.Sort.grow (redrawn wr d_) os_).cell? ⟨gb731,0,none⟩=some (.slice A1_0 l1_0.length c1_0):=cell_regrown_drew ((blk_cell BK731.out 0).trans rfl);have qf3_: ∀(d_:Nat) (os_:Array Obj),(Go.Sort.grow (redrawn wr d_) os_).cell? ⟨gb731,1,none⟩=some (.slice (some ad735) l1_1.length c1_1):=cell_regrown_drew ((blk_cell BK731.out 1).trans rfl);have qf4_: ∀(d_:Nat) (os_:Array Obj),(Go.Sort.grow (redrawn wr d_) os_).cell? (ad734.add ((x6_3).toNat*2))=some (.int .i64 ((rd_T47 l0_1 x6_3).f0)):=cell_regrown_drew ((pw_cell_below HB.out hw734_0));have qf5_: ∀(d_:Nat) (os_:Array Obj),(Go.Sort.grow (redrawn wr d_) os_).cell? ⟨(ad734.add ((x6_3).toNat*2)).block,(ad734.add ((x6_3).toNat*2)).off+1,none⟩=some (.slice A734_1 ((rd_T47 l0_1 x6_3).f1).length c734_1):=cell_regrown_drew ((pw_cell_below HB.out hw734_1));have qf6_: ∀(d_:Nat) (os_:Array Obj),(Go.Sort.grow (redrawn wr d_) os_).cell? (ad735.add ((x6_3).toNat*2))=some (.int .i64 ((rd_T47 l1_1 x6_3).f0)):=cell_regrown_drew ((pw_cell_below HB.out hw735_0));have qf7_: ∀(d_:Nat) (os_:Array Obj),(Go.Sort.grow (redrawn wr d_) os_).cell? ⟨(ad735.add ((x6_3).toNat*2)).block,(ad735.add ((x6_3).toNat*2)).off+1,none⟩=some (.slice A735_1 ((rd_T47 l1_1 x6_3).f1).length c735_1):=cell_regrown_drew ((pw_cell_below HB.out hw735_1));have HBQ_:=aM (below_class HB.out);have HBS_:=HB;clear HB;refine wp_region_quiet_below (by kernel_rfl) (by kernel_rfl) ?_
             repeat(go_big_quiet_step ((refine with_class HBQ_.out ?_;intro hbz_;have HB:=aM hbz_;clear hbz_;first|(go_at_call 45;apply Calls.regrown_of;with_reducible refine spec_CompareFacts.calls k3 ((rd_T47 l0_1 x6_3).f0) _ _ ((rd_T47 l0_1 x6_3).f1) ((rd_T47 l1_1 x6_3).f0) _ _ ((rd_T47 l1_1 x6_3).f1) t736 _ ?side1 ?side2 ?side3 ?side4 A29.out;(case side1=>repeat(first|exact(Kd.C_below HR734_1.out HB.out)|exact(Kd.C_below HR735_1.out HB.out)|(with_reducible refine pC ?_)));(case side2=>first|exact HC734_1.out|exact HC735_1.out);(case side3=>repeat(first|exact(Kd.C_below HR735_1.out HB.out)|exact(Kd.C_below HR734_1.out HB.out)|(with_reducible refine pC ?_)));(case side4=>first|exact HC735_1.out|exact HC734_1.out)))))
             refine wpQuiet_nil ?_;intro _ hw_;obtain⟨⟨dq_,osq_⟩,hw2_⟩:=hw_;subst hw2_;have hb:=below_regrown_drew wr dq_ osq_;have HB:=HBS_;clear HBS_ qf0_ qf1_ qf2_ qf3_ qf4_ qf5_ qf6_ qf7_ HBQ_;generalize Go.Sort.grow (redrawn wr dq_) osq_=w34 at hb ⊢;generalize wr.drew=wd_ at BK730 BK731 HB hb;have n0_:=aM (kB gb730 #[.slice A0_0 l0_0.length c0_0,.slice (some ad734) l0_1.length c0_1] 25 hb);have n1_:=aM (kB gb731 #[.slice A1_0 l1_0.length c1_0,.slice (some ad735) l1_1.length c1_1] 25 hb);have n2_:=aM (below_step aG hb);clear BK730 BK731 HB;have BK730:=n0_;have BK731:=n1_;have HB:=n2_;clear n0_ n1_ n2_;(try clear hb)
             (try clear hb2)
             (try clear hk)
             (try clear hi)
             try go_wp2
             go_roundg k3
             case measure=>have:=HJ2.out;have:=HK2.out;have:=HK3.out;omega
             case rel=>exact⟨(wrap64 (x6_3+1)),aX,H',⟨by have:=HJ2.out;have:=HK2.out;have:=HK3.out;omega⟩,⟨aK⟩,⟨aK⟩,⟨aG⟩⟩
            ·rw[if_neg c30] at H;have c30b0:(t736==0)=false:=beq_eq_false_iff_ne.mpr c30;have c30b1:(t736 !=0)=true:=bne_iff_ne.mpr c30;obtain rfl:=Option.some.inj H;have hnb35:=NB730_731.out;have hnc35:=NB731_730.out;have hcz36_0:wr.cell? ⟨gb730,0,none⟩=some (.slice A0_0 l0_0.length c0_0):=(blk_cell BK730.out 0).trans rfl;have hcz36_1:wr.cell? ⟨gb730,1,none⟩=some (.slice A0_1 l0_1.length c0_1):=(blk_cell BK730.out 1).trans rfl;have hfz36_0:=blk_frozen BK730.out 0;have hfz36_1:=blk_frozen BK730.out 1
             try go_wp2
             replace BK730:=aM (blk_drew BK730.out);replace BK731:=aM (blk_drew BK731.out);replace HB:=aM (below_drew1 HB.out);have p734:0≤(x6_3:Int):=aD;have q734:x6_3<(l0_1.length:Int):=aD;obtain⟨ad734,A734_1,c734_1,e734,hx734_0,hx734_1,hl734_1,hi734_1⟩:=at_T47 HR0_1.out x6_3 p734 q734;have hw734_1:=hx734_1;have hw734_0:=hx734_0
             cases e734
             replace hx734_0:=(HB.out.cell (World.block_lt_of_cell? w _ hx734_0)).trans hx734_0;replace hx734_1:=(HB.out.cell (World.block_lt_of_cell? w _ hx734_1)).trans hx734_1;have HR734_1:=aM hi734_1;have HC734_1:=aM hl734_1;clear hi734_1 hl734_1;replace p734:=eq_true p734;replace q734:=eq_true q734;have p735:0≤(x6_3:Int):=aD;have q735:x6_3<(l1_1.length:Int):=aD;obtain⟨ad735,A735_1,c735_1,e735,hx735_0,hx735_1,hl735_1,hi735_1⟩:=at_T47 HR1_1.out x6_3 p735 q735;have hw735_1:=hx735_1;have hw735_0:=hx735_0
             cases e735
             replace hx735_0:=(HB.out.cell (World.block_lt_of_cell? w _ hx735_0)).trans hx735_0;replace hx735_1:=(HB.out.cell (World.block_lt_of_cell? w _ hx735_1)).trans hx735_1;have HR735_1:=aM hi735_1;have HC735_1:=aM hl735_1;clear hi735_1 hl735_1;replace p735:=eq_true p735;replace q735:=eq_true q735;have qf0_: ∀(d_:Nat) (os_:Array Obj),(Go.Sort.grow (redrawn wr d_) os_).cell? ⟨gb730,0,none⟩=some (.slice A0_0 l0_0.length c0_0):=cell_regrown_drew ((blk_cell BK730.out 0).trans rfl);have qf1_: ∀(d_:Nat) (os_:Array Obj),(Go.Sort.grow (redrawn wr d_) os_).cell? ⟨gb730,1,none⟩=some (.slice (some ad734) l0_1.length c0_1):=cell_regrown_drew ((blk_cell BK730.out 1).trans rfl);have qf2_: ∀(d_:Nat) (os_:Array Obj),(Go.Sort.grow (redrawn wr d_) os_).cell? ⟨gb731,0,none⟩=some (.slice A1_0 l1_0.length c1_0):=cell_regrown_drew ((blk_cell BK731.out 0).trans rfl);have qf3_: ∀(d_:Nat) (os_:Array Obj),(Go.Sort.grow (redrawn wr d_) os_).cell? ⟨gb731,1,none⟩=some (.slice (some ad735) l1_1.length c1_1):=cell_regrown_drew ((blk_cell BK731.out 1).trans rfl);have qf4_: ∀(d_:Nat) (os_:Array Obj),(Go.Sort.grow (redrawn wr d_) os_).cell? (ad734.add ((x6_3).toNat*2))=some (.int .i64 ((rd_T47 l0_1 x6_3).f0)):=cell_regrown_drew ((pw_cell_below HB.out hw734_0));have qf5_: ∀(d_:Nat) (os_:Array Obj),(Go.Sort.grow (redrawn wr d_) os_).cell? ⟨(ad734.add ((x6_3).toNat*2)).block,(ad734.add ((x6_3).toNat*2)).off+1,none⟩=some (.slice A734_1 ((rd_T47 l0_1 x6_3).f1).length c734_1):=cell_regrown_drew ((pw_cell_below HB.out hw734_1));have qf6_: ∀(d_:Nat) (os_:Array Obj),(Go.Sort.grow (redrawn wr d_) os_).cell? (ad735.add ((x6_3).toNat*2))=some (.int .i64 ((rd_T47 l1_1 x6_3).f0)):=cell_regrown_drew ((pw_cell_below HB.out hw735_0));have qf7_: ∀(d_:Nat) (os_:Array Obj),(Go.Sort.grow (redrawn wr d_) os_).cell? ⟨(ad735.add ((x6_3).toNat*2)).block,(ad735.add ((x6_3).toNat*2)).off+1,none⟩=some (.slice A735_1 ((rd_T47 l1_1 x6_3).f1).length c735_1):=cell_regrown_drew ((pw_cell_below HB.out hw735_1));have HBQ_:=aM (below_class HB.out);have HBS_:=HB;clear HB;refine wp_region_quiet_below (by kernel_rfl) (by kernel_rfl) ?_
             repeat(go_big_quiet_step ((refine with_class HBQ_.out ?_;intro hbz_;have HB:=aM hbz_;clear hbz_;first|(go_at_call 45;apply Calls.regrown_of;with_reducible refine spec_CompareFacts.calls k3 ((rd_T47 l0_1 x6_3).f0) _ _ ((rd_T47 l0_1 x6_3).f1) ((rd_T47 l1_1 x6_3).f0) _ _ ((rd_T47 l1_1 x6_3).f1) t736 _ ?side1 ?side2 ?side3 ?side4 A29.out;(case side1=>repeat(first|exact(Kd.C_below HR734_1.out HB.out)|exact(Kd.C_below HR735_1.out HB.out)|(with_reducible refine pC ?_)));(case side2=>first|exact HC734_1.out|exact HC735_1.out);(case side3=>repeat(first|exact(Kd.C_below HR735_1.out HB.out)|exact(Kd.C_below HR734_1.out HB.out)|(with_reducible refine pC ?_)));(case side4=>first|exact HC735_1.out|exact HC734_1.out)))))
             refine wpQuiet_nil ?_;intro _ hw_;obtain⟨⟨dq_,osq_⟩,hw2_⟩:=hw_;subst hw2_;have hb:=below_regrown_drew wr dq_ osq_;have HB:=HBS_;clear HBS_ qf0_ qf1_ qf2_ qf3_ qf4_ qf5_ qf6_ qf7_ HBQ_;generalize Go.Sort.grow (redrawn wr dq_) osq_=w38 at hb ⊢;generalize wr.drew=wd_ at BK730 BK731 HB hb;have n0_:=aM (kB gb730 #[.slice A0_0 l0_0.length c0_0,.slice (some ad734) l0_1.length c0_1] 25 hb);have n1_:=aM (kB gb731 #[.slice A1_0 l1_0.length c1_0,.slice (some ad735) l1_1.length c1_1] 25 hb);have n2_:=aM (below_step aG hb);clear BK730 BK731 HB;have BK730:=n0_;have BK731:=n1_;have HB:=n2_;clear n0_ n1_ n2_;(try clear hb)
             (try clear hb2)
             (try clear hk)
             (try clear hi)
             try go_wp2
             go_ret
             exact⟨aE,aG⟩
           ·rw[if_neg c28] at H;exact absurd H (by simp)
          ·rw[if_neg c27] at H;exact absurd H (by simp)
         ·rw[if_neg c26] at H;have c26b0:decide (x6_3<(l0_1.length:Int))=false:=decide_eq_false c26;clear c26;obtain rfl:=Option.some.inj H;have hnb39:=NB730_731.out;have hnc39:=NB731_730.out;have hcz40_0:wr.cell? ⟨gb730,0,none⟩=some (.slice A0_0 l0_0.length c0_0):=(blk_cell BK730.out 0).trans rfl;have hcz40_1:wr.cell? ⟨gb730,1,none⟩=some (.slice A0_1 l0_1.length c0_1):=(blk_cell BK730.out 1).trans rfl;have hfz40_0:=blk_frozen BK730.out 0;have hfz40_1:=blk_frozen BK730.out 1
          go_wp2
          go_ret
          exact⟨aE,aG⟩

end Go.Proofs.YtckpikfbhlhhjaaGreatDoor.PFnDatabaseFormat
namespace Go.Proofs.YtckpikfbhlhhjaaGreatDoor.PFnDatabaseFormat
open Go.RowKit Go.Proofs.YtckpikfbhlhhjaaGreatDoorW.PrintWords Go.Proofs.YtckpikfbhlhhjaaGreatDoorW.PrintLast Go.Proofs.YtckpikfbhlhhjaaGreatDoorW.PrintMore
attribute [local go_sem] max2_int min2_int max_two min_two max_three min_three max_four min_four
set_option linter.unusedVariables false
set_option linter.unusedSimpArgs false

attribute [local go_sem high] eqA42
/-! ### impl_Relation_47: function 47 -/
def impl_Relation_47.l0:Nat→List (S42)→List (S42)→Int→Int→Option (Bool)
 |0,_,_,_,_=>none
 |k+1,x0,x1,x12,x13=>if x13<x12 then(if 0≤x13 then(if x13<(x0.length:Int) then(if x13<(x1.length:Int) then(if(!((((rd_T42 x0 x13).f0).toList)==(((rd_T42 x1 x13).f0).toList))||(!(((rd_T42 x0 x13).f1)==((rd_T42 x1 x13).f1))||(!(((rd_T42 x0 x13).f2)==((rd_T42 x1 x13).f2)))))=true then(some false) else(impl_Relation_47.l0 k x0 x1 x12 (wrap64 (x13+1)))) else(none)) else(none)) else(none)) else(some true)
def impl_Relation_47.f (k:Nat) (l0:List (S42)) (l1:List (S42)):Option (Bool):=if(l0.length:Int)=(l1.length:Int) then(impl_Relation_47.l0 k l0 l1 (l0.length:Int) 0) else(some false)
set_option maxHeartbeats 8000000 in
set_option maxRecDepth 100000 in
theorem impl_Relation_47.calls (k:Nat) (A0:Option Addr) (c0:Nat) (l0:List (S42)) (A1:Option Addr) (c1:Nat) (l1:List (S42)) (r:Bool) (w:World) (hr0:Kd.C k42 w A0 l0.length l0) (hc0:l0.length≤c0) (hr1:Kd.C k42 w A1 l1.length l1) (hc1:l1.length≤c1) (h:impl_Relation_47.f k l0 l1=some r):
  Calls Tryz.prog 47 #[.slice A0 l0.length c0,.slice A1 l1.length c1] w fun e w'=>e= .returned (.bool r)∧Drawn0 w w':=by
 have hu42:=Tryz.underlying42;have HR0:=aM hr0;have HC0:=aM hc0;clear hr0 hc0;have HR1:=aM hr1;have HC1:=aM hc1;clear hr1 hc1;have H:(if(l0.length:Int)=(l1.length:Int) then(impl_Relation_47.l0 k l0 l1 (l0.length:Int) 0) else(some false))=some r:=h;clear h
 by_cases c3:(l0.length:Int)=(l1.length:Int)
 ·rw[if_pos c3] at H;have c3b0:((l0.length:Int)==(l1.length:Int))=true:=beq_iff_eq.mpr c3;have c3b1:((l0.length:Int) !=(l1.length:Int))=false:=bne_eq_false_iff_eq.mpr c3;have c3b2:(l0.length==l1.length)=true:=by first|simpa using c3|(simp at c3 ⊢;omega)
  clear c3;have H':=aM H;clear H
  go_enter Tryz.func47,Tryz.ntmps47
  go_wp2
  repeat(go_quiet (fail);try go_wp2)
  go_loopg [13] k (fun kq v13 w'=> ∃(x13_1:Int),v13= .int .i64 x13_1∧Aside0 (impl_Relation_47.l0 kq l0 l1 (l0.length:Int) x13_1=some r)∧Aside0 (kq≤k)∧Drawn0 w w')
  case atStart=>exact⟨(0),aX,H',⟨Nat.le_refl _⟩,by repeat(first|exact Drawn0.refl _|apply Drawn0.step)⟩
  case round=>
   clear H'
   try clear c1
   try clear p2
   try clear c3
   try clear c3b0
   try clear c3b1
   try clear c3b2
   obtain⟨x13_1,rfl,HA,HK1,⟨m1,rfl⟩⟩:=hrel
   cases gk with
   |zero=>exact absurd HA.out (by simp[impl_Relation_47.l0])
   |succ k1=>
    have H:=HA.out;clear HA;simp only[impl_Relation_47.l0] at H
    by_cases c4:x13_1<(l0.length:Int)
    ·rw[if_pos c4] at H;have c4b0:decide (x13_1<(l0.length:Int))=true:=decide_eq_true c4;clear c4
     by_cases c5:0≤x13_1
     ·rw[if_pos c5] at H;have c5b0:decide (0≤x13_1)=true:=decide_eq_true c5;clear c5
      by_cases c6:x13_1<(l0.length:Int)
      ·rw[if_pos c6] at H;have c6b0:decide (x13_1<(l0.length:Int))=true:=decide_eq_true c6;clear c6
       by_cases c7:x13_1<(l1.length:Int)
       ·rw[if_pos c7] at H;have c7b0:decide (x13_1<(l1.length:Int))=true:=decide_eq_true c7;clear c7
        by_cases c8:(!((((rd_T42 l0 x13_1).f0).toList)==(((rd_T42 l1 x13_1).f0).toList))||(!(((rd_T42 l0 x13_1).f1)==((rd_T42 l1 x13_1).f1))||(!(((rd_T42 l0 x13_1).f2)==((rd_T42 l1 x13_1).f2)))))=true
        ·rw[if_pos c8] at H;have c8b0:(!((((rd_T42 l0 x13_1).f0).toList)==(((rd_T42 l1 x13_1).f0).toList))||(!(((rd_T42 l0 x13_1).f1)==((rd_T42 l1 x13_1).f1))||(!(((rd_T42 l0 x13_1).f2)==((rd_T42 l1 x13_1).f2)))))=true:=c8;clear c8;obtain rfl:=Option.some.inj H;have p737:0≤(x13_1:Int):=aD;have q737:x13_1<(l0.length:Int):=aD;obtain⟨ad737,e737,hx737_0,hx737_1,hx737_2⟩:=at_T42 HR0.out x13_1 p737 q737
         cases e737
         replace p737:=eq_true p737;replace q737:=eq_true q737;have p738:0≤(x13_1:Int):=aD;have q738:x13_1<(l1.length:Int):=aD;obtain⟨ad738,e738,hx738_0,hx738_1,hx738_2⟩:=at_T42 HR1.out x13_1 p738 q738
         cases e738
         replace p738:=eq_true p738;replace q738:=eq_true q738
         go_wp2
         repeat(go_quiet (fail);try go_wp2)
         go_ret
         exact⟨by first|rfl|(simp;done)|(simp[*];done),by repeat(first|exact Drawn0.refl _|apply Drawn0.step)⟩
        ·rw[if_neg c8] at H;have c8b0:(!((((rd_T42 l0 x13_1).f0).toList)==(((rd_T42 l1 x13_1).f0).toList))||(!(((rd_T42 l0 x13_1).f1)==((rd_T42 l1 x13_1).f1))||(!(((rd_T42 l0 x13_1).f2)==((rd_T42 l1 x13_1).f2)))))=false:=by simpa using c8
         clear c8;have H':=aM H;clear H;have p737:0≤(x13_1:Int):=aD;have q737:x13_1<(l0.length:Int):=aD;obtain⟨ad737,e737,hx737_0,hx737_1,hx737_2⟩:=at_T42 HR0.out x13_1 p737 q737
         cases e737
         replace p737:=eq_true p737;replace q737:=eq_true q737;have p738:0≤(x13_1:Int):=aD;have q738:x13_1<(l1.length:Int):=aD;obtain⟨ad738,e738,hx738_0,hx738_1,hx738_2⟩:=at_T42 HR1.out x13_1 p738 q738
         cases e738
         replace p738:=eq_true p738;replace q738:=eq_true q738
         go_wp2
         repeat(go_quiet (fail);try go_wp2)
         go_roundg k1
         case measure=>have:=HK1.out;omega
         case rel=>exact⟨(wrap64 (x13_1+1)),aX,H',⟨by have:=HK1.out;omega⟩,by repeat(first|exact Drawn0.refl _|apply Drawn0.step)⟩
       ·rw[if_neg c7] at H;exact absurd H (by simp)
      ·rw[if_neg c6] at H;exact absurd H (by simp)
     ·rw[if_neg c5] at H;exact absurd H (by simp)
    ·rw[if_neg c4] at H;have c4b0:decide (x13_1<(l0.length:Int))=false:=decide_eq_false c4;clear c4;obtain rfl:=Option.some.inj H
     go_wp2
     repeat(go_quiet (fail);try go_wp2)
     go_ret
     exact⟨by first|rfl|(simp;done)|(simp[*];done),by repeat(first|exact Drawn0.refl _|apply Drawn0.step)⟩
 ·rw[if_neg c3] at H;have c3b0:((l0.length:Int)==(l1.length:Int))=false:=beq_eq_false_iff_ne.mpr c3;have c3b1:((l0.length:Int) !=(l1.length:Int))=true:=bne_iff_ne.mpr c3;have c3b2:(l0.length==l1.length)=false:=by first|simpa using c3|(simp at c3 ⊢;omega)
  obtain rfl:=Option.some.inj H
  go_enter Tryz.func47,Tryz.ntmps47
  go_wp2
  repeat(go_quiet (fail);try go_wp2)
  go_ret
  exact⟨by first|rfl|(simp;done)|(simp[*];done),by repeat(first|exact Drawn0.refl _|apply Drawn0.step)⟩

-- NOT PRINTED: function 48 (impl_Fact)

/-! ### impl_EqualDatabases: function 17 -/

section
open Base
def factEq (x y:S47):Bool:=cmpF x.f0 x.f1 y.f0 y.f1==0
set_option maxHeartbeats 4000000 in
set_option maxRecDepth 100000 in
theorem factEq_calls (x y:S47) (Ax Ay:Option Addr) (cx cy:Nat) (w:World) (hx:Kd.C (Kd.int .i64) w Ax x.f1.length x.f1) (hxc:x.f1.length≤cx) (hy:Kd.C (Kd.int .i64) w Ay y.f1.length y.f1) (hyc:y.f1.length≤cy):
  Calls Tryz.prog 49 #[.agg #[.int .i64 x.f0,.slice Ax x.f1.length cx],.agg #[.int .i64 y.f0,.slice Ay y.f1.length cy]] w fun e w'=>e= .returned (.bool (factEq x y))∧Below w.heap.size w w':=by
 have hu:=Tryz.underlying47;have HC:Aside0 (∀o o',Calls Tryz.prog 50 #[.agg #[.int .i64 x.f0,.slice Ax x.f1.length cx],.agg #[.int .i64 y.f0,.slice Ay y.f1.length cy]] ((w.alloc o).alloc o') fun e w'=>e= .returned (.int .i64 (cmpF x.f0 x.f1 y.f0 y.f1))∧Below ((w.alloc o).alloc o').heap.size ((w.alloc o).alloc o') w'):=⟨fun o o'=>
  have hB:Below w.heap.size w ((w.alloc o).alloc o'):=below_alloc (below_alloc (Below.refl _ _) _) _
  impl_CompareFacts.calls (x.f1.length+1) x.f0 Ax cx x.f1 y.f0 Ay cy y.f1 _ _ (Kd.C_below hx hB) hxc (Kd.C_below hy hB) hyc (cmpFI x.f0 x.f1 y.f0 y.f1 hx.2.1 hy.2.1 _ (Nat.lt_succ_self _))⟩
 clear hx hy hxc hyc;have e0:factEq x y=(cmpF x.f0 x.f1 y.f0 y.f1==0):=rfl;rw[e0];generalize cmpF x.f0 x.f1 y.f0 y.f1=z at HC ⊢
 go_enter Tryz.func49,Tryz.ntmps49
 go_wp2_with (go_at_call 50;refine(HC.out _ _).mono ?_;rintro e w' ⟨rfl,hb'⟩)
 go_ret
 exact⟨rfl,below_then (below_alloc (below_alloc (Below.refl _ _) _) _) (below_alloc (below_alloc (Below.refl w.heap.size w) _) _).size hb'⟩
set_option maxHeartbeats 4000000 in
set_option maxRecDepth 100000 in
theorem factsEq_calls (A0 A1:Option Addr) (c0 c1:Nat) (l m:List S47) (w:World) (hr:Kd.C k47 w A0 l.length l) (hs:Kd.C k47 w A1 m.length m):
  Calls Tryz.prog 48 #[.slice A0 l.length c0,.slice A1 m.length c1,.func (.func 49) #[] #[]] w fun e w'=>e= .returned (.bool (eqW factEq l m))∧Below w.heap.size w w':=by
 have hl:l.length≤9223372036854775807:=hr.2.1;have HR:=aM hr;have HS:=aM hs;clear hr hs
 by_cases hlen:l.length=m.length
 ·have hd1:((l.length:Int)==(m.length:Int))=true:=by simp[hlen]
  have hd2:((l.length:Int) !=(m.length:Int))=false:=by simp[hlen]
  have HLEN:=aM hlen;clear hlen
  go_enter Tryz.func48,Tryz.ntmps48
  go_wp2
  go_loopg [17] l.length (fun gg s17 wr=> ∃kk:Nat,kk≤l.length∧l.length-kk≤gg∧s17= .int .i64 kk∧Aside0 (Below w.heap.size w wr)∧Aside0 (∀j,j<kk→factEq (l.getD j z47) (m.getD j z47)=true))
  case atStart=>exact⟨0,Nat.zero_le _,by omega,rfl,⟨Below.refl _ _⟩,⟨fun j hj=>absurd hj (Nat.not_lt_zero _)⟩⟩
  case round=>
   obtain⟨kk,hkk,hg,rfl,BW,HA⟩:=hrel
   by_cases hltk:kk<l.length
   ·have hltz:(kk:Int)<(l.length:Int):=by omega
    have hltm:(kk:Int)<(m.length:Int):=by have:=HLEN.out;omega
    obtain⟨ad,A2,c2,e,h0,h1,h2,h3⟩:=at_T47 (Kd.C_below HR.out BW.out) (kk:Int) (by omega) hltz;obtain⟨ad',A3,c3,e',g0,g1,g2,g3⟩:=at_T47 (Kd.C_below HS.out BW.out) (kk:Int) (by omega) hltm;rw[Int.toNat_natCast] at h0 h1 g0 g1
    cases e
    cases e'
    have G0: ∀o,(wr.alloc o).cell? (ad'.add (kk*2))=some (.int .i64 (rd_T47 m (kk:Int)).f0):=fun o=>(World.cell?_alloc_lt _ _ _ (World.block_lt_of_cell? _ _ g0)).trans g0;have G1: ∀o,(wr.alloc o).cell? ⟨(ad'.add (kk*2)).block,(ad'.add (kk*2)).off+1,none⟩=some (.slice A3 (rd_T47 m (kk:Int)).f1.length c3):=fun o=>(World.cell?_alloc_lt _ _ _ (World.block_lt_of_cell? _ _ g1)).trans g1;have HCL:Aside0 (∀o o',Calls Tryz.prog 49 #[.agg #[.int .i64 (rd_T47 l (kk:Int)).f0,.slice A2 (rd_T47 l (kk:Int)).f1.length c2],.agg #[.int .i64 (rd_T47 m (kk:Int)).f0,.slice A3 (rd_T47 m (kk:Int)).f1.length c3]] ((wr.alloc o).alloc o') fun e w'=>e= .returned (.bool (factEq (rd_T47 l (kk:Int)) (rd_T47 m (kk:Int))))∧Below ((wr.alloc o).alloc o').heap.size ((wr.alloc o).alloc o') w'):=⟨fun o o'=>
     have hB:Below wr.heap.size wr ((wr.alloc o).alloc o'):=below_alloc (below_alloc (Below.refl _ _) _) _
     factEq_calls _ _ A2 A3 c2 c3 _ (Kd.C_below h3 hB) h2 (Kd.C_below g3 hB) g2⟩
    have HB2:Aside0 (∀o o',Below w.heap.size w ((wr.alloc o).alloc o')):=⟨fun o o'=>below_alloc (below_alloc BW.out _) _⟩;clear h2 h3 g2 g3 g0 g1;have hrd:rd_T47 l (kk:Int)=l.getD kk z47:=by unfold rd_T47;rw[Int.toNat_natCast]
    have hrm:rd_T47 m (kk:Int)=m.getD kk z47:=by unfold rd_T47;rw[Int.toNat_natCast]
    have HQ:Aside0 (factEq (rd_T47 l (kk:Int)) (rd_T47 m (kk:Int))=factEq (l.getD kk z47) (m.getD kk z47)):=⟨by rw[hrd,hrm]⟩;clear hrd hrm
    cases hq:factEq (rd_T47 l (kk:Int)) (rd_T47 m (kk:Int)) with
    |true=>
     rw[hq] at HCL HQ;clear hq
     go_wp2_with (go_at_call 49;refine(HCL.out _ _).mono ?_;rintro e w' ⟨rfl,hb'⟩)
     go_roundg (l.length-(kk+1))
     case measure=>omega
     case rel=>
      refine⟨kk+1,by omega,by omega,by go_num,⟨below_then (HB2.out _ _) (HB2.out _ _).size hb'⟩,⟨fun j hj=>?_⟩⟩
      by_cases e:j=kk
      ·subst e;exact HQ.out.symm
      ·exact HA.out j (by omega)
    |false=>
     rw[hq] at HCL HQ;clear hq
     go_wp2_with (go_at_call 49;refine(HCL.out _ _).mono ?_;rintro e w' ⟨rfl,hb'⟩)
     go_ret
     refine⟨?_,below_then (HB2.out _ _) (HB2.out _ _).size hb'⟩;rw[eqW_miss factEq z47 l m kk HLEN.out hltk HQ.out.symm];rfl
   ·have hltz: ¬(kk:Int)<(l.length:Int):=by omega
    have hltm: ¬(kk:Int)<(m.length:Int):=by have:=HLEN.out;omega
    have hd:decide (kk<l.length)=false:=decide_eq_false hltk;have hd':decide (kk<m.length)=false:=decide_eq_false (by have:=HLEN.out;omega);have HK:=aM (show l.length≤kk by omega);clear hltk hltz hltm
    go_wp2
    go_ret
    refine⟨?_,BW.out⟩;rw[eqW_hit factEq z47 l m HLEN.out (fun j (hj:j<l.length)=>HA.out j (Nat.lt_of_lt_of_le hj HK.out))];rfl
 ·have hd1:((l.length:Int)==(m.length:Int))=false:=by simp;omega
  have hd2:((l.length:Int) !=(m.length:Int))=true:=by simp;omega
  have he:=eqW_len factEq l m hlen;rw[he];clear hlen
  go_enter Tryz.func48,Tryz.ntmps48
  go_wp2
  go_ret
  exact⟨rfl,by first|exact Below.refl _ _|exact below_drew1 (Below.refl _ _)|exact pw_below_drewN (Below.refl _ _) _⟩
def impl_EqualDatabases.f (k:Nat) (l0_0:List S42) (l0_1:List S47) (l1_0:List S42) (l1_1:List S47):Option Bool:=
 (impl_Relation_47.f k l0_0 l1_0).bind fun b=>some (b&&eqW factEq l0_1 l1_1)
set_option maxHeartbeats 4000000 in
set_option maxRecDepth 100000 in
theorem impl_EqualDatabases.calls (k:Nat) (A0_0:Option Addr) (c0_0:Nat) (l0_0:List S42) (A0_1:Option Addr) (c0_1:Nat) (l0_1:List S47) (A1_0:Option Addr) (c1_0:Nat) (l1_0:List S42) (A1_1:Option Addr) (c1_1:Nat) (l1_1:List S47) (r:Bool) (w:World) (hr0_0:Kd.C k42 w A0_0 l0_0.length l0_0) (hc0_0:l0_0.length≤c0_0) (hr0_1:Kd.C k47 w A0_1 l0_1.length l0_1) (hc0_1:l0_1.length≤c0_1) (hr1_0:Kd.C k42 w A1_0 l1_0.length l1_0) (hc1_0:l1_0.length≤c1_0) (hr1_1:Kd.C k47 w A1_1 l1_1.length l1_1) (hc1_1:l1_1.length≤c1_1) (h:impl_EqualDatabases.f k l0_0 l0_1 l1_0 l1_1=some r):
  Calls Tryz.prog 17 #[.agg #[.slice A0_0 l0_0.length c0_0,.slice A0_1 l0_1.length c0_1],.agg #[.slice A1_0 l1_0.length c1_0,.slice A1_1 l1_1.length c1_1]] w fun e w'=>e= .returned (.bool r)∧Below w.heap.size w w':=by
 obtain⟨b,hb,hr⟩:=Option.bind_eq_some_iff.mp h;obtain rfl:=Option.some.inj hr;clear h hr;have HC1:Aside0 (∀W:World,Below w.heap.size w W→Calls Tryz.prog 47 #[.slice A0_0 l0_0.length c0_0,.slice A1_0 l1_0.length c1_0] W fun e w''=>e= .returned (.bool b)∧Below W.heap.size W w''):=
  ⟨fun W hB=>calls_below_of_drawn (impl_Relation_47.calls k A0_0 c0_0 l0_0 A1_0 c1_0 l1_0 b _ (Kd.C_below hr0_0 hB) hc0_0 (Kd.C_below hr1_0 hB) hc1_0 hb)⟩
 have HC2:Aside0 (∀W:World,Below w.heap.size w W→Calls Tryz.prog 48 #[.slice A0_1 l0_1.length c0_1,.slice A1_1 l1_1.length c1_1,.func (.func 49) #[] #[]] W fun e w''=>e= .returned (.bool (eqW factEq l0_1 l1_1))∧Below W.heap.size W w''):=
  ⟨fun W hB=>factsEq_calls A0_1 A1_1 c0_1 c1_1 l0_1 l1_1 _ (Kd.C_below hr0_1 hB) (Kd.C_below hr1_1 hB)⟩
 clear hr0_0 hr0_1 hr1_0 hr1_1 hb;generalize eqW factEq l0_1 l1_1=bb at HC2 ⊢;have HZ:Aside0 (∀o o':Obj,(w.alloc o).heap.size=w.heap.size+1∧((w.alloc o).alloc o').heap[w.heap.size]? =some o∧((w.alloc o).alloc o').heap[w.heap.size+1]? =some o'):=⟨fun o o'=>by
  have hz:(w.alloc o).heap.size=w.heap.size+1:=by show(Array.push _ _).size=_;exact Array.size_push ..
  have h1:=heap_alloc_new w o;have h2:=heap_alloc_new (w.alloc o) o';rw[hz] at h2;refine⟨hz,?_,h2⟩
  show(Array.push _ _)[_]? =_
  rw[Array.getElem?_push_lt (by rw[hz];omega)];rw[←h1]
  exact(Array.getElem?_eq_getElem _).symm⟩
 have F0:Aside0 (((w.alloc (.cells #[.slice A0_0 l0_0.length c0_0,.slice A0_1 l0_1.length c0_1] 25)).alloc (.cells #[.slice A1_0 l1_0.length c1_0,.slice A1_1 l1_1.length c1_1] 25)).cell? ⟨w.heap.size,0,none⟩=some (.slice A0_0 l0_0.length c0_0)):=⟨(blk_cell (HZ.out _ _).2.1 0).trans rfl⟩;have F1:Aside0 (((w.alloc (.cells #[.slice A0_0 l0_0.length c0_0,.slice A0_1 l0_1.length c0_1] 25)).alloc (.cells #[.slice A1_0 l1_0.length c1_0,.slice A1_1 l1_1.length c1_1] 25)).cell? ⟨w.heap.size,1,none⟩=some (.slice A0_1 l0_1.length c0_1)):=⟨(blk_cell (HZ.out _ _).2.1 1).trans rfl⟩;have F2:Aside0 (((w.alloc (.cells #[.slice A0_0 l0_0.length c0_0,.slice A0_1 l0_1.length c0_1] 25)).alloc (.cells #[.slice A1_0 l1_0.length c1_0,.slice A1_1 l1_1.length c1_1] 25)).cell? ⟨w.heap.size+1,0,none⟩=some (.slice A1_0 l1_0.length c1_0)):=⟨(blk_cell (HZ.out _ _).2.2 0).trans rfl⟩;have F3:Aside0 (((w.alloc (.cells #[.slice A0_0 l0_0.length c0_0,.slice A0_1 l0_1.length c0_1] 25)).alloc (.cells #[.slice A1_0 l1_0.length c1_0,.slice A1_1 l1_1.length c1_1] 25)).cell? ⟨w.heap.size+1,1,none⟩=some (.slice A1_1 l1_1.length c1_1)):=⟨(blk_cell (HZ.out _ _).2.2 1).trans rfl⟩;have B2:Aside0 (Below w.heap.size w ((w.alloc (.cells #[.slice A0_0 l0_0.length c0_0,.slice A0_1 l0_1.length c0_1] 25)).alloc (.cells #[.slice A1_0 l1_0.length c1_0,.slice A1_1 l1_1.length c1_1] 25))):=⟨below_alloc (below_alloc (Below.refl _ _) _) _⟩;clear HZ
 cases b with
 |false=>
  go_enter Tryz.func17,Tryz.ntmps17
  go_wp2_with (first|(go_at_call 47;refine(HC1.out _ B2.out).mono ?_;rintro e w3 ⟨rfl,hb3⟩;have k1:=pw_cell_below hb3 F1.out;have k3:=pw_cell_below hb3 F3.out)|(go_at_call 48;refine(HC2.out _ (below_then B2.out B2.out.size hb3)).mono ?_;rintro e w4 ⟨rfl,hb4⟩))
  go_ret
  exact⟨rfl,below_then B2.out B2.out.size hb3⟩
 |true=>
  go_enter Tryz.func17,Tryz.ntmps17
  go_wp2_with (first|(go_at_call 47;refine(HC1.out _ B2.out).mono ?_;rintro e w3 ⟨rfl,hb3⟩;have k1:=pw_cell_below hb3 F1.out;have k3:=pw_cell_below hb3 F3.out)|(go_at_call 48;refine(HC2.out _ (below_then B2.out B2.out.size hb3)).mono ?_;rintro e w4 ⟨rfl,hb4⟩))
  go_ret
  exact⟨rfl,below_then (below_then B2.out B2.out.size hb3) (below_then B2.out B2.out.size hb3).size hb4⟩
end


end Go.Proofs.YtckpikfbhlhhjaaGreatDoor.PFnDatabaseFormat
