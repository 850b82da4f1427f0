import Derived.Test.YtckpikfbhlhhjaaGreatDoorPFnDatabaseFormatx0
import Derived.Test.YtckpikfbhlhhjaaGreatDoorPFnDatabaseFormatx8
namespace Go.Proofs.YtckpikfbhlhhjaaGreatDoor.PFnDatabaseFormat
open Go.RowKit Go.Proofs.YtckpikfbhlhhjaaGreatDoorW.PrintWords Go.Proofs.YtckpikfbhlhhjaaGreatDoorW.PrintLast Go.Proofs.YtckpikfbhlhhjaaGreatDoorW.PrintMore
attribute [local go_sem] max2_int min2_int max_two min_two max_three min_three max_four min_four
set_option linter.unusedVariables false
set_option linter.unusedSimpArgs false

/-! ### impl_FormatFact: function 59 -/
def impl_FormatFact.l0:Nat→List (S42)→List ByteArray→List Int→Int→Int→Int→List Int→Option (ByteArray)
 |0,_,_,_,_,_,_,_=>none
 |k+1,x0,x5,x15,x16,x17,x271000,x271001=>if x17<x16 then(if 0≤x17 then(if x17<(x15.length:Int) then((impl_FormatInt.f (rd x15 x17)).bind fun t276=>(if x5.length<8796093022208 then(impl_FormatFact.l0 k x0 (x5++ [t276]) x15 x16 (wrap64 (x17+1)) x271000 x271001) else(none))) else(none)) else(none)) else(if 0≤x271000 then(if x271000<(x0.length:Int) then((impl_barred.f x5 ((rd_T42 x0 x271000).f2)).bind fun t282=>(if((rd_T42 x0 x271000).f0).size+t282.size≤9223372036854775807 then(some (((rd_T42 x0 x271000).f0)++t282)) else(none))) else(none)) else(none))
def impl_FormatFact.f (k:Nat) (l0:List (S42)) (a1_0:Int) (l1_1:List Int):Option (ByteArray):=(impl_IsValidFact.f l0 a1_0 l1_1).bind fun t271=>(if t271=true then(impl_FormatFact.l0 k l0 (([] :List ByteArray)) l1_1 (l1_1.length:Int) 0 a1_0 l1_1) else(some (⟨#[]⟩:ByteArray)))
def impl_FormatFact.T10:Bool×List (List Nat×List Nat):=(true,[([],[]),([0],[0]),([],[]),([],[]),([3],[3]),([2,4],[2,4]),([1,5],[1,5]),([6,5,0,1,2,3,4,5,6],[6])])
def impl_FormatFact.B10:List Nat:= [0,1,0,0,8,28,63,127]
theorem impl_FormatFact.tab10:rtab .any (opsOf Tryz.f59 10)=impl_FormatFact.T10:=by kernel_rfl
theorem impl_FormatFact.bits10:waitsOk impl_FormatFact.T10.2 impl_FormatFact.B10=true:=by kernel_rfl
set_option maxHeartbeats 8000000 in
set_option maxRecDepth 100000 in
theorem impl_FormatFact.calls (k:Nat) (A0:Option Addr) (c0:Nat) (l0:List (S42)) (a1_0:Int) (A1_1:Option Addr) (c1_1:Nat) (l1_1:List Int) (r:ByteArray) (w:World) (hr0:Kd.C k42 w A0 l0.length l0) (hc0:l0.length≤c0) (hr1_1:Kd.C (Kd.int .i64) w A1_1 l1_1.length l1_1) (hc1_1:l1_1.length≤c1_1) (h:impl_FormatFact.f k l0 a1_0 l1_1=some r) (hp_:Go.Proofs.YtckpikfbhlhhjaaGreatDoor.Shelf.Pow w):
  Calls Tryz.prog 59 #[.slice A0 l0.length c0,.agg #[.int .i64 a1_0,.slice A1_1 l1_1.length c1_1]] w fun e w'=>e= .returned (.string r)∧Below w.heap.size w w':=by
 have hu47:=Tryz.underlying47;have hu42:=Tryz.underlying42;have HR0:=aM hr0;have HC0:=aM hc0;clear hr0 hc0;have HR1_1:=aM hr1_1;have HC1_1:=aM hc1_1;clear hr1_1 hc1_1;have HB:=aM (Below.refl w.heap.size w);have H:((impl_IsValidFact.f l0 a1_0 l1_1).bind fun t271=>(if t271=true then(impl_FormatFact.l0 k l0 (([] :List ByteArray)) l1_1 (l1_1.length:Int) 0 a1_0 l1_1) else(some (⟨#[]⟩:ByteArray))))=some r:=h;clear h;replace H:=bM H;obtain⟨t271,A30,H⟩:=H;have A3:=aM A30;clear A30
 by_cases c4:t271=true
 ·subst c4;replace H:=iT H;obtain⟨y272,hy272⟩: ∃y_:List ByteArray,y_=(([] :List ByteArray)):=⟨_,rfl⟩
  first|replace H:=bY hy272 H|rw[←hy272] at H
  have Ny272:=aM hy272;clear hy272;have H':=aM H;clear H
  go_enter Tryz.func59,Tryz.ntmps59
  go_wp2_with (first|((with_reducible refine gate_dst (N:=3) rfl ?_);refine bE 3 (cs:=#[.int .i64 a1_0,.slice A1_1 l1_1.length c1_1]) (t:=47) ?_;intro gb270 hg w5 hbox hb;have BK270:=aM (hbox);have GW270:=aM ((by rw[hg];exact(below_size aB):w.heap.size≤gb270));have GE270:=aM ((by rw[hg];exact(below_size aB):w.heap.size≤gb270));replace HB:=aM (below_step aB hb);clear hb hbox hg;have hcz6_0:w5.cell? ⟨gb270,0,none⟩=some (.int .i64 a1_0):=(blk_cell BK270.out 0).trans rfl;have hcz6_1:w5.cell? ⟨gb270,1,none⟩=some (.slice A1_1 l1_1.length c1_1):=(blk_cell BK270.out 1).trans rfl;have hfz6_0:=blk_frozen BK270.out 0;have hfz6_1:=blk_frozen BK270.out 1)|((with_reducible refine gate_callee (f:=91) rfl ?_);refine goesL_ (some 11) rfl rfl Tryz.func91 (by kernel_rfl) rfl #[.slice A0 l0.length c0,.agg #[.int .i64 a1_0,.slice A1_1 l1_1.length c1_1]] rfl aA ?_;(with_reducible refine(impl_IsValidFact.calls _ _ l0 a1_0 _ _ l1_1 true _ ?side1 ?side2 ?side3 ?side4 A3.out).mono ?_);(case side1=>exact aC);(case side2=>exact HC0.out);(case side3=>exact aC);(case side4=>exact HC1_1.out);rintro e w7 ⟨rfl,hb⟩;refine⟨_,rfl,?_⟩;replace BK270:=aM (kB gb270 #[.int .i64 a1_0,.slice A1_1 l1_1.length c1_1] 47 hb);replace HB:=aM (below_step aG hb);(try clear hb);(try clear hb2);(try clear hk);(try clear hi))|((with_reducible refine gate_dst (N:=13) rfl ?_);refine Kd.R_lit Kd.string _ 9 ?hg (N:=13) ?hd (xs:=([] :List ByteArray)) (inner:= []) (ok:=fun _=>True) (okp:=fun _=>True) ?hr ?hp (fun _ hk=>hk) trivial (Below.refl _ _) (Nat.le_refl _) (by simp) ?_;(case hd=>rfl);(case hg=>rfl);(case hr=>first|(go_simp;done)|(go_simp;rfl));(case hp=>exact(Reps.none _ _));intro v273 w8 ho9 hb hg_ hnew_;clear hg_ hnew_;(first|rw[←Ny272.out] at ho9|(simp only[Int.reduceToNat] at ho9;rw[←Ny272.out] at ho9));have HO274:=aM (Kd.R_lower ho9 (below_size aG));replace BK270:=aM (kB gb270 #[.int .i64 a1_0,.slice A1_1 l1_1.length c1_1] 47 hb);replace HB:=aM (below_step aG hb);clear hb ho9;have hcz10_0:w8.cell? ⟨gb270,0,none⟩=some (.int .i64 a1_0):=(blk_cell BK270.out 0).trans rfl;have hcz10_1:w8.cell? ⟨gb270,1,none⟩=some (.slice A1_1 l1_1.length c1_1):=(blk_cell BK270.out 1).trans rfl;have hfz10_0:=blk_frozen BK270.out 0;have hfz10_1:=blk_frozen BK270.out 1))
  go_loopg [5,17] k (fun kq v5 v17 w'=> ∃(x5_1:List ByteArray) (x17_1:Int),v17= .int .i64 x17_1∧Aside0 (impl_FormatFact.l0 kq l0 x5_1 l1_1 (l1_1.length:Int) x17_1 a1_0 l1_1=some r)∧Aside0 (kq≤k)∧Aside0 (Kd.R Kd.string 9 w' w.heap.size (fun _=>True) v5 x5_1)∧Aside0 (w'.heap[gb270]? =some (.cells #[.int .i64 a1_0,(.slice A1_1 l1_1.length c1_1)] 47 (0,0)))∧Aside0 (Below w.heap.size w w'))
  case atStart=>exact⟨(y272),(0),aX,H',⟨Nat.le_refl _⟩,⟨aR HO274⟩,⟨aK⟩,⟨aG⟩⟩
  case round=>
   clear H'
   try clear c1
   try clear p2
   try clear c4
   try clear c5
   try clear c9
   try clear hcz10_0
   try clear hcz10_1
   try clear hcz6_0
   try clear hcz6_1
   try clear hfz10_0
   try clear hfz10_1
   try clear hfz6_0
   try clear hfz6_1
   obtain⟨x5_1,x17_1,rfl,HA,HK1,HO_5,BK270,HB⟩:=hrel
   cases gk with
   |zero=>exact absurd HA.out (by simp[impl_FormatFact.l0])
   |succ k1=>
    have H:=HA.out;clear HA;simp only[impl_FormatFact.l0] at H
    by_cases c11:x17_1<(l1_1.length:Int)
    ·rw[if_pos c11] at H;have c11b0:decide (x17_1<(l1_1.length:Int))=true:=decide_eq_true c11;clear c11
     by_cases c12:0≤x17_1
     ·rw[if_pos c12] at H;have c12b0:decide (0≤x17_1)=true:=decide_eq_true c12;clear c12
      by_cases c13:x17_1<(l1_1.length:Int)
      ·rw[if_pos c13] at H;have c13b0:decide (x17_1<(l1_1.length:Int))=true:=decide_eq_true c13;clear c13;replace H:=bM H;obtain⟨t276,A140,H⟩:=H;have A14:=aM A140;clear A140
       by_cases c15:x5_1.length<8796093022208
       ·rw[if_pos c15] at H;have LMc15:=aM c15;clear c15;obtain⟨y277,hy277⟩: ∃y_:List ByteArray,y_=(x5_1++ [t276]):=⟨_,rfl⟩
        first|replace H:=bY hy277 H|rw[←hy277] at H
        have Ny277:=aM hy277;clear hy277;have H':=aM H;clear H;have p275:0≤(x17_1:Int):=aD;have q275:x17_1<(l1_1.length:Int):=aD;obtain⟨ad275,e275,hx275_0⟩:=Kd.at_int HR1_1.out x17_1 p275 q275
        cases e275
        replace hx275_0:=(HB.out.cell (World.block_lt_of_cell? w _ hx275_0)).trans hx275_0;replace p275:=eq_true p275;replace q275:=eq_true q275
        go_wp2_with (first|((with_reducible refine gate_callee (f:=70) rfl ?_);refine goesL_ (some 23) rfl rfl Tryz.func70 (by kernel_rfl) rfl #[.int .i64 (rd l1_1 x17_1)] rfl aA ?_;(with_reducible refine(impl_FormatInt.calls (rd l1_1 x17_1) t276 _ A14.out (hp_.on aG)).mono ?_);rintro e w16 ⟨rfl,hb⟩;refine⟨_,rfl,?_⟩;replace HO_5:=aM (Kd.R_below (aR HO_5) hb);replace BK270:=aM (kB gb270 #[.int .i64 a1_0,.slice (some ad275) l1_1.length c1_1] 47 hb);replace HB:=aM (below_step aG hb);(try clear hb);(try clear hb2);(try clear hk);(try clear hi))|((with_reducible refine gate_builtin (b:= .append) (xs:=#[.tmp 21,.tmp 24]) rfl ?_);at_builtin;refine Kd.R_append Kd.string (w0:=w) w.heap.size rfl (.tmp 21) (.tmp 24) 39 9 (.string ⟨#[]⟩) 16 rfl Tryz.underlying39 info9 rfl (by decide) (by omega) u5 x5_1 t276 [.string t276] (fun _=>True) (fun _=>False) rfl rfl ?aP (fun _ hk=>hk.elim) ?aF ?aO ?aB ?aS ?aL ?_;(case aP=>exact rfl);(case aB=>exact aG);(case aF=>exact(fun _ _=>trivial));(case aO=>exact(aR HO_5));(case aS=>exact(below_size aG));(case aL=>have:=LMc15.out;omega);intro v278 w17 ho hb hg hat;rw[←Ny277.out] at ho;have HO279:=aM (ho);replace BK270:=aM (blk_grown (g:=gb270) aK hg (Kd.R_ne HO_5.out BK270.out (by decide)));replace HB:=aM (hb);clear HO_5;clear ho hb hg hat))
        go_roundg k1
        case measure=>have:=HK1.out;omega
        case rel=>exact⟨(y277),(wrap64 (x17_1+1)),aX,H',⟨by have:=HK1.out;omega⟩,⟨aR HO279⟩,⟨aK⟩,⟨aG⟩⟩
       ·rw[if_neg c15] at H;exact absurd H (by simp)
      ·rw[if_neg c13] at H;exact absurd H (by simp)
     ·rw[if_neg c12] at H;exact absurd H (by simp)
    ·rw[if_neg c11] at H;have c11b0:decide (x17_1<(l1_1.length:Int))=false:=decide_eq_false c11;clear c11
     by_cases c18:0≤a1_0
     ·rw[if_pos c18] at H;have c18b0:decide (0≤a1_0)=true:=decide_eq_true c18;clear c18
      by_cases c19:a1_0<(l0.length:Int)
      ·rw[if_pos c19] at H;have c19b0:decide (a1_0<(l0.length:Int))=true:=decide_eq_true c19;clear c19;replace H:=bM H;obtain⟨t282,A200,H⟩:=H;have A20:=aM A200;clear A200
       by_cases c21:((rd_T42 l0 a1_0).f0).size+t282.size≤9223372036854775807
       ·rw[if_pos c21] at H;have c21b0:=eq_true c21;have c21b1:decide (((rd_T42 l0 a1_0).f0).size+t282.size≤9223372036854775807)=true:=decide_eq_true c21
        try have c21b2:(9223372036854775807<((rd_T42 l0 a1_0).f0).size+t282.size)=False:=eq_false (Nat.not_lt.2 c21)
        obtain rfl:=Option.some.inj H;have hcz22_0:wr.cell? ⟨gb270,0,none⟩=some (.int .i64 a1_0):=(blk_cell BK270.out 0).trans rfl;have hcz22_1:wr.cell? ⟨gb270,1,none⟩=some (.slice A1_1 l1_1.length c1_1):=(blk_cell BK270.out 1).trans rfl;have hfz22_0:=blk_frozen BK270.out 0;have hfz22_1:=blk_frozen BK270.out 1;have p280:0≤(a1_0:Int):=aD;have q280:a1_0<(l0.length:Int):=aD;obtain⟨ad280,e280,hx280_0,hx280_1,hx280_2⟩:=at_T42 HR0.out a1_0 p280 q280
        cases e280
        replace hx280_0:=(HB.out.cell (World.block_lt_of_cell? w _ hx280_0)).trans hx280_0;replace hx280_1:=(HB.out.cell (World.block_lt_of_cell? w _ hx280_1)).trans hx280_1;replace hx280_2:=(HB.out.cell (World.block_lt_of_cell? w _ hx280_2)).trans hx280_2;replace p280:=eq_true p280;replace q280:=eq_true q280
        try go_wp2_with (first|((with_reducible refine gate_dst (N:=8) rfl ?_);refine bE 8 (cs:=#[.string (⟨#[]⟩:ByteArray),.int .i64 0,.int .i64 0]) (t:=42) ?_;intro gb281 hg w23 hbox hb;have BK281:=aM (hbox);have GW281:=aM ((by rw[hg];exact(below_size aG):w.heap.size≤gb281));have GE281:=aM ((by rw[hg];exact(below_size aG):w.heap.size≤gb281));have NB270_281:=aM ((by rw[hg];exact Nat.ne_of_lt (blk_lt (g:=gb270) aK):gb270≠gb281));have NB281_270:=aM ((by rw[hg];exact Nat.ne_of_gt (blk_lt (g:=gb270) aK):gb281≠gb270));replace HO_5:=aM (Kd.R_below (aR HO_5) hb);replace BK270:=aM (kB gb270 #[.int .i64 a1_0,.slice A1_1 l1_1.length c1_1] 47 hb);replace HB:=aM (below_step aG hb);clear hb hbox hg;have hnb24:=NB281_270.out;have hnc24:=NB270_281.out;have hcz25_0:w23.cell? ⟨gb281,0,none⟩=some (.string (⟨#[]⟩:ByteArray)):=(blk_cell BK281.out 0).trans rfl;have hcz25_1:w23.cell? ⟨gb281,1,none⟩=some (.int .i64 0):=(blk_cell BK281.out 1).trans rfl;have hcz25_2:w23.cell? ⟨gb281,2,none⟩=some (.int .i64 0):=(blk_cell BK281.out 2).trans rfl;have hfz25_0:=blk_frozen BK281.out 0;have hfz25_1:=blk_frozen BK281.out 1;have hfz25_2:=blk_frozen BK281.out 2))
        have n0_:Aside0 (Kd.R Kd.string 9 (((w23.setCell ⟨gb281,0,none⟩ (.string ((rd_T42 l0 a1_0).f0))).setCell ⟨gb281,1,none⟩ (.int .i64 ((rd_T42 l0 a1_0).f1))).setCell ⟨gb281,2,none⟩ (.int .i64 ((rd_T42 l0 a1_0).f2))) w.heap.size (fun _=>True) u5 x5_1):=⟨by(with_reducible repeat apply pR);exact Kd.R_mono (Kd.R_far (p:=⟨gb281,2,none⟩) (Kd.R_far (p:=⟨gb281,1,none⟩) (Kd.R_far (p:=⟨gb281,0,none⟩) (Kd.R_types HO_5.out BK281.out (by decide)) (fun _ hk=>hk.2) (.string ((rd_T42 l0 a1_0).f0))) (fun _ hk=>hk.2) (.int .i64 ((rd_T42 l0 a1_0).f1))) (fun _ hk=>hk.2) (.int .i64 ((rd_T42 l0 a1_0).f2))) (fun _ hk=>trivial)⟩;have n1_:Aside0 ((((w23.setCell ⟨gb281,0,none⟩ (.string ((rd_T42 l0 a1_0).f0))).setCell ⟨gb281,1,none⟩ (.int .i64 ((rd_T42 l0 a1_0).f1))).setCell ⟨gb281,2,none⟩ (.int .i64 ((rd_T42 l0 a1_0).f2))).heap[gb270]? =some (.cells #[.int .i64 a1_0,.slice A1_1 l1_1.length c1_1] 47 (0,0))):=⟨by(with_reducible repeat refine pB ?_);refine blk_far ?_ NB270_281.out _;(with_reducible repeat refine pB ?_);refine blk_far ?_ NB270_281.out _;(with_reducible repeat refine pB ?_);refine blk_far ?_ NB270_281.out _;(with_reducible repeat refine pB ?_);exact BK270.out⟩;have n2_:Aside0 ((((w23.setCell ⟨gb281,0,none⟩ (.string ((rd_T42 l0 a1_0).f0))).setCell ⟨gb281,1,none⟩ (.int .i64 ((rd_T42 l0 a1_0).f1))).setCell ⟨gb281,2,none⟩ (.int .i64 ((rd_T42 l0 a1_0).f2))).heap[gb281]? =some (.cells #[.string ((rd_T42 l0 a1_0).f0),.int .i64 ((rd_T42 l0 a1_0).f1),.int .i64 ((rd_T42 l0 a1_0).f2)] 42 (0,0))):=⟨by(with_reducible repeat refine pB ?_);refine blk_put (cs:=#[.string ((rd_T42 l0 a1_0).f0),.int .i64 ((rd_T42 l0 a1_0).f1),.int .i64 0]) ?_ 2 _ rfl;(with_reducible repeat refine pB ?_);refine blk_put (cs:=#[.string ((rd_T42 l0 a1_0).f0),.int .i64 0,.int .i64 0]) ?_ 1 _ rfl;(with_reducible repeat refine pB ?_);refine blk_put (cs:=#[.string (⟨#[]⟩:ByteArray),.int .i64 0,.int .i64 0]) ?_ 0 _ rfl;(with_reducible repeat refine pB ?_);exact BK281.out⟩;have n3_:Aside0 (Below w.heap.size w (((w23.setCell ⟨gb281,0,none⟩ (.string ((rd_T42 l0 a1_0).f0))).setCell ⟨gb281,1,none⟩ (.int .i64 ((rd_T42 l0 a1_0).f1))).setCell ⟨gb281,2,none⟩ (.int .i64 ((rd_T42 l0 a1_0).f2)))):=⟨aG⟩;(try clear HO_5)
        (try clear BK270)
        (try clear BK281)
        (try clear HB)
        generalize (((w23.setCell ⟨gb281,0,none⟩ (.string ((rd_T42 l0 a1_0).f0))).setCell ⟨gb281,1,none⟩ (.int .i64 ((rd_T42 l0 a1_0).f1))).setCell ⟨gb281,2,none⟩ (.int .i64 ((rd_T42 l0 a1_0).f2)))=w26 at n0_ n1_ n2_ n3_ ⊢;have HO_5:=n0_;have BK270:=n1_;have BK281:=n2_;have HB:=n3_;clear n0_ n1_ n2_ n3_;replace HO_5:=aM (Kd.R_drew HO_5.out);replace BK270:=aM (blk_drew BK270.out);replace BK281:=aM (blk_drew BK281.out);replace HB:=aM (below_drew1 HB.out);obtain⟨Ao28,co28,eo28⟩:=Kd.R_slice HO_5.out;(first|subst eo28|(injection eo28 with f1_ f2_ f3_;have f4_:=f1_.symm;have f5_:=f3_.symm;clear f1_ f2_ f3_;subst f4_;subst f5_))
        refine start_ (n:=8) (S:=fun w'=>w'.cell? ⟨gb281,0,none⟩=some (.string ((rd_T42 l0 a1_0).f0))∧w'.cell? ⟨gb281,1,none⟩=some (.int .i64 ((rd_T42 l0 a1_0).f1))∧w'.cell? ⟨gb281,2,none⟩=some (.int .i64 ((rd_T42 l0 a1_0).f2))) (ds:= []) #[false,false,false,false,false,false,false,false] (by kernel_rfl) rfl rfl ⟨(blk_cell BK281.out 0).trans rfl,(blk_cell BK281.out 1).trans rfl,(blk_cell BK281.out 2).trans rfl⟩ (fun hHeld=>?_);refine with_tabW impl_FormatFact.tab10 impl_FormatFact.bits10 (fun HT_ HW_=>?_);generalize w26.drew=w27 at HO_5 BK270 BK281 HB hHeld ⊢;refine pU 0 32 ?_;refine pU 2 34 ?_;refine pU 3 35 ?_;refine tU3 1 33 hHeld ?_;refine tU3 4 36 hHeld ?_;refine oU 5 37 (fun K hK=>?_);refine goes_ Tryz.func92 (by kernel_rfl) rfl #[.slice Ao28 x5_1.length co28,.int .i64 ((rd_T42 l0 a1_0).f2)] (by rfl) rfl rfl aA ?_
        with_reducible refine(impl_barred.calls _ _ x5_1 ((rd_T42 l0 a1_0).f2) t282 _ ?side1 ?side2 A20.out).mono ?_
        (case side1=>repeat(first|exact(Kd.R_reads' HO_5.out).2.2|(with_reducible refine pC ?_)))
        (case side2=>exact(Kd.R_reads' HO_5.out).2.1)
        rintro e w29 ⟨rfl,hb⟩;refine⟨_,rfl,?_⟩;have n0_:=aM (Kd.R_below (aR HO_5) hb);have n1_:=aM (kB gb270 #[.int .i64 a1_0,.slice A1_1 l1_1.length c1_1] 47 hb);have n2_:=aM (kB gb281 #[.string ((rd_T42 l0 a1_0).f0),.int .i64 ((rd_T42 l0 a1_0).f1),.int .i64 ((rd_T42 l0 a1_0).f2)] 42 hb);have n3_:=aM (below_step aG hb);clear HO_5 BK270 BK281 HB;have HO_5:=n0_;have BK270:=n1_;have BK281:=n2_;have HB:=n3_;clear n0_ n1_ n2_ n3_;(try clear hb)
        (try clear hb2)
        (try clear hk)
        (try clear hi)
        refine hK.out _ _ ⟨(blk_cell BK281.out 0).trans rfl,(blk_cell BK281.out 1).trans rfl,(blk_cell BK281.out 2).trans rfl⟩ (fun hHeld=>?_);clear hK K;refine nU 37 ?_;refine pU 6 38 ?_;refine pU 7 4 ?_;refine done_ (done_of HT_.out (by kernel_rfl)) ?_
        try go_wp2
        go_ret
        exact⟨aE,aG⟩
       ·rw[if_neg c21] at H;exact absurd H (by simp)
      ·rw[if_neg c19] at H;exact absurd H (by simp)
     ·rw[if_neg c18] at H;exact absurd H (by simp)
 ·replace c4:=Bool.eq_false_iff.mpr c4;subst c4;have H1:(some (⟨#[]⟩:ByteArray))=some r:=by rw[if_neg (show¬(false=true) by decide)] at H;exact H
  clear H;have H:=H1;clear H1;obtain rfl:=Option.some.inj H
  go_enter Tryz.func59,Tryz.ntmps59
  go_wp2_with (first|((with_reducible refine gate_dst (N:=3) rfl ?_);refine bE 3 (cs:=#[.int .i64 a1_0,.slice A1_1 l1_1.length c1_1]) (t:=47) ?_;intro gb270 hg w30 hbox hb;have BK270:=aM (hbox);have GW270:=aM ((by rw[hg];exact(below_size aB):w.heap.size≤gb270));have GE270:=aM ((by rw[hg];exact(below_size aB):w.heap.size≤gb270));replace HB:=aM (below_step aB hb);clear hb hbox hg;have hcz31_0:w30.cell? ⟨gb270,0,none⟩=some (.int .i64 a1_0):=(blk_cell BK270.out 0).trans rfl;have hcz31_1:w30.cell? ⟨gb270,1,none⟩=some (.slice A1_1 l1_1.length c1_1):=(blk_cell BK270.out 1).trans rfl;have hfz31_0:=blk_frozen BK270.out 0;have hfz31_1:=blk_frozen BK270.out 1)|((with_reducible refine gate_callee (f:=91) rfl ?_);refine goesL_ (some 11) rfl rfl Tryz.func91 (by kernel_rfl) rfl #[.slice A0 l0.length c0,.agg #[.int .i64 a1_0,.slice A1_1 l1_1.length c1_1]] rfl aA ?_;(with_reducible refine(impl_IsValidFact.calls _ _ l0 a1_0 _ _ l1_1 false _ ?side1 ?side2 ?side3 ?side4 A3.out).mono ?_);(case side1=>exact aC);(case side2=>exact HC0.out);(case side3=>exact aC);(case side4=>exact HC1_1.out);rintro e w32 ⟨rfl,hb⟩;refine⟨_,rfl,?_⟩;replace BK270:=aM (kB gb270 #[.int .i64 a1_0,.slice A1_1 l1_1.length c1_1] 47 hb);replace HB:=aM (below_step aG hb);(try clear hb);(try clear hb2);(try clear hk);(try clear hi)))
  go_ret
  exact⟨aE,aG⟩

/-! ### impl_formatAll: function 37 -/
def impl_formatAll.l0:Nat→List ByteArray→List (S47)→Int→Int→List (S42)→List (S47)→Option (ByteArray)
 |0,_,_,_,_,_,_=>none
 |k+1,x3,x8,x9,x10,x284000,x284001=>if x10<x9 then(if 0≤x10 then(if x10<(x8.length:Int) then((impl_FormatFact.f k x284000 ((rd_T47 x8 x10).f0) ((rd_T47 x8 x10).f1)).bind fun t289=>(if x3.length<8796093022208 then(impl_formatAll.l0 k (x3++ [t289]) x8 x9 (wrap64 (x10+1)) x284000 x284001) else(none))) else(none)) else(none)) else((strings_Join.f x3 (⟨#[32]⟩:ByteArray)).bind fun t293=>(some t293))
def impl_formatAll.f (k:Nat) (l0_0:List (S42)) (l0_1:List (S47)):Option (ByteArray):=impl_formatAll.l0 k (([] :List ByteArray)) l0_1 (l0_1.length:Int) 0 l0_0 l0_1
set_option maxHeartbeats 8000000 in
set_option maxRecDepth 100000 in
theorem impl_formatAll.calls (k:Nat) (A0_0:Option Addr) (c0_0:Nat) (l0_0:List (S42)) (A0_1:Option Addr) (c0_1:Nat) (l0_1:List (S47)) (r:ByteArray) (w:World) (hr0_0:Kd.C k42 w A0_0 l0_0.length l0_0) (hc0_0:l0_0.length≤c0_0) (hr0_1:Kd.C k47 w A0_1 l0_1.length l0_1) (hc0_1:l0_1.length≤c0_1) (h:impl_formatAll.f k l0_0 l0_1=some r) (hp_:Go.Proofs.YtckpikfbhlhhjaaGreatDoor.Shelf.Pow w):
  Calls Tryz.prog 37 #[.agg #[.slice A0_0 l0_0.length c0_0,.slice A0_1 l0_1.length c0_1]] w fun e w'=>e= .returned (.string r)∧Below w.heap.size w w':=by
 have hu25:=Tryz.underlying25;have hu47:=Tryz.underlying47;have HR0_0:=aM hr0_0;have HC0_0:=aM hc0_0;clear hr0_0 hc0_0;have HR0_1:=aM hr0_1;have HC0_1:=aM hc0_1;clear hr0_1 hc0_1;have HB:=aM (Below.refl w.heap.size w);have H:(impl_formatAll.l0 k (([] :List ByteArray)) l0_1 (l0_1.length:Int) 0 l0_0 l0_1)=some r:=h;clear h;obtain⟨y284,hy284⟩: ∃y_:List ByteArray,y_=(([] :List ByteArray)):=⟨_,rfl⟩
 first|replace H:=bY hy284 H|rw[←hy284] at H
 have Ny284:=aM hy284;clear hy284;have H':=aM H;clear H
 go_enter Tryz.func37,Tryz.ntmps37
 go_wp2_with (first|((with_reducible refine gate_dst (N:=1) rfl ?_);refine bE 1 (cs:=#[.slice A0_0 l0_0.length c0_0,.slice A0_1 l0_1.length c0_1]) (t:=25) ?_;intro gb283 hg w2 hbox hb;have BK283:=aM (hbox);have GW283:=aM ((by rw[hg];exact(below_size aB):w.heap.size≤gb283));have GE283:=aM ((by rw[hg];exact(below_size aB):w.heap.size≤gb283));replace HB:=aM (below_step aB hb);clear hb hbox hg)|((with_reducible refine gate_dst (N:=6) rfl ?_);refine Kd.R_lit Kd.string _ 9 ?hg (N:=6) ?hd (xs:=([] :List ByteArray)) (inner:= []) (ok:=fun _=>True) (okp:=fun _=>True) ?hr ?hp (fun _ hk=>hk) trivial (Below.refl _ _) (Nat.le_refl _) (by simp) ?_;(case hd=>rfl);(case hg=>rfl);(case hr=>first|(go_simp;done)|(go_simp;rfl));(case hp=>exact(Reps.none _ _));intro v285 w3 ho4 hb hg_ hnew_;clear hg_ hnew_;(first|rw[←Ny284.out] at ho4|(simp only[Int.reduceToNat] at ho4;rw[←Ny284.out] at ho4));have HO286:=aM (Kd.R_lower ho4 (below_size aG));replace BK283:=aM (kB gb283 #[.slice A0_0 l0_0.length c0_0,.slice A0_1 l0_1.length c0_1] 25 hb);replace HB:=aM (below_step aG hb);clear hb ho4;have hcz5_0:w3.cell? ⟨gb283,0,none⟩=some (.slice A0_0 l0_0.length c0_0):=(blk_cell BK283.out 0).trans rfl;have hcz5_1:w3.cell? ⟨gb283,1,none⟩=some (.slice A0_1 l0_1.length c0_1):=(blk_cell BK283.out 1).trans rfl;have hfz5_0:=blk_frozen BK283.out 0;have hfz5_1:=blk_frozen BK283.out 1))
 go_loopg [3,10] k (fun kq v3 v10 w'=> ∃(x3_1:List ByteArray) (x10_1:Int),v10= .int .i64 x10_1∧Aside0 (impl_formatAll.l0 kq x3_1 l0_1 (l0_1.length:Int) x10_1 l0_0 l0_1=some r)∧Aside0 (kq≤k)∧Aside0 (Kd.R Kd.string 9 w' w.heap.size (fun _=>True) v3 x3_1)∧Aside0 (w'.heap[gb283]? =some (.cells #[(.slice A0_0 l0_0.length c0_0),(.slice A0_1 l0_1.length c0_1)] 25 (0,0)))∧Aside0 (Below w.heap.size w w'))
 case atStart=>exact⟨(y284),(0),aX,H',⟨Nat.le_refl _⟩,⟨aR HO286⟩,⟨aK⟩,⟨aG⟩⟩
 case round=>
  clear H'
  try clear p2
  try clear c3
  try clear hcz5_0
  try clear hcz5_1
  try clear hfz5_0
  try clear hfz5_1
  obtain⟨x3_1,x10_1,rfl,HA,HK1,HO_3,BK283,HB⟩:=hrel
  cases gk with
  |zero=>exact absurd HA.out (by simp[impl_formatAll.l0])
  |succ k1=>
   have H:=HA.out;clear HA;simp only[impl_formatAll.l0] at H
   by_cases c6:x10_1<(l0_1.length:Int)
   ·rw[if_pos c6] at H;have c6b0:decide (x10_1<(l0_1.length:Int))=true:=decide_eq_true c6;clear c6
    by_cases c7:0≤x10_1
    ·rw[if_pos c7] at H;have c7b0:decide (0≤x10_1)=true:=decide_eq_true c7;clear c7
     by_cases c8:x10_1<(l0_1.length:Int)
     ·rw[if_pos c8] at H;have c8b0:decide (x10_1<(l0_1.length:Int))=true:=decide_eq_true c8;clear c8;replace H:=bM H;obtain⟨t289,A90,H⟩:=H;have A9:=aM A90;clear A90
      by_cases c10:x3_1.length<8796093022208
      ·rw[if_pos c10] at H;have LMc10:=aM c10;clear c10;obtain⟨y290,hy290⟩: ∃y_:List ByteArray,y_=(x3_1++ [t289]):=⟨_,rfl⟩
       first|replace H:=bY hy290 H|rw[←hy290] at H
       have Ny290:=aM hy290;clear hy290;have H':=aM H;clear H;have p287:0≤(x10_1:Int):=aD;have q287:x10_1<(l0_1.length:Int):=aD;obtain⟨ad287,A287_1,c287_1,e287,hx287_0,hx287_1,hl287_1,hi287_1⟩:=at_T47 HR0_1.out x10_1 p287 q287
       cases e287
       replace hx287_0:=(HB.out.cell (World.block_lt_of_cell? w _ hx287_0)).trans hx287_0;replace hx287_1:=(HB.out.cell (World.block_lt_of_cell? w _ hx287_1)).trans hx287_1;have HR287_1:=aM hi287_1;have HC287_1:=aM hl287_1;clear hi287_1 hl287_1;replace p287:=eq_true p287;replace q287:=eq_true q287
       go_wp2_with (first|((with_reducible refine gate_dst (N:=5) rfl ?_);refine bE 5 (cs:=#[.int .i64 0,.slice none 0 0]) (t:=47) ?_;intro gb288 hg w11 hbox hb;have BK288:=aM (hbox);have GW288:=aM ((by rw[hg];exact(below_size aG):w.heap.size≤gb288));have GE288:=aM ((by rw[hg];exact(below_size aG):w.heap.size≤gb288));have NB283_288:=aM ((by rw[hg];exact Nat.ne_of_lt (blk_lt (g:=gb283) aK):gb283≠gb288));have NB288_283:=aM ((by rw[hg];exact Nat.ne_of_gt (blk_lt (g:=gb283) aK):gb288≠gb283));replace HO_3:=aM (Kd.R_below (aR HO_3) hb);replace BK283:=aM (kB gb283 #[.slice A0_0 l0_0.length c0_0,.slice (some ad287) l0_1.length c0_1] 25 hb);replace HB:=aM (below_step aG hb);clear hb hbox hg;have hnb12:=NB288_283.out;have hnc12:=NB283_288.out;have hcz13_0:w11.cell? ⟨gb288,0,none⟩=some (.int .i64 0):=(blk_cell BK288.out 0).trans rfl;have hcz13_1:w11.cell? ⟨gb288,1,none⟩=some (.slice none 0 0):=(blk_cell BK288.out 1).trans rfl;have hfz13_0:=blk_frozen BK288.out 0;have hfz13_1:=blk_frozen BK288.out 1;have hcz14_0:w11.cell? ⟨gb283,0,none⟩=some (.slice A0_0 l0_0.length c0_0):=(blk_cell BK283.out 0).trans rfl;have hcz14_1:w11.cell? ⟨gb283,1,none⟩=some (.slice (some ad287) l0_1.length c0_1):=(blk_cell BK283.out 1).trans rfl;have hfz14_0:=blk_frozen BK283.out 0;have hfz14_1:=blk_frozen BK283.out 1)|((with_reducible refine gate_callee (f:=59) rfl ?_);refine goesL_ (some 18) rfl rfl Tryz.func59 (by kernel_rfl) rfl #[.slice A0_0 l0_0.length c0_0,.agg #[.int .i64 ((rd_T47 l0_1 x10_1).f0),.slice A287_1 ((rd_T47 l0_1 x10_1).f1).length c287_1]] rfl aA ?_;(with_reducible refine(impl_FormatFact.calls k1 _ _ l0_0 ((rd_T47 l0_1 x10_1).f0) _ _ ((rd_T47 l0_1 x10_1).f1) t289 _ ?side1 ?side2 ?side3 ?side4 A9.out (hp_.on aG)).mono ?_);(case side1=>exact Kd.C_below HR0_0.out aG);(case side2=>exact HC0_0.out);(case side3=>exact Kd.C_below HR287_1.out aG);(case side4=>exact HC287_1.out);rintro e w15 ⟨rfl,hb⟩;refine⟨_,rfl,?_⟩;replace HO_3:=aM (Kd.R_below (by(with_reducible repeat apply pR);exact(Kd.R_mono (Kd.R_far (p:=⟨gb288,1,none⟩) (Kd.R_far (p:=⟨gb288,0,none⟩) (Kd.R_types HO_3.out BK288.out (by decide)) (fun _ hk=>hk.2) (.int .i64 ((rd_T47 l0_1 x10_1).f0))) (fun _ hk=>hk.2) (.slice A287_1 ((rd_T47 l0_1 x10_1).f1).length c287_1)) (fun _ h_=>h_.1))) hb);replace BK283:=aM (blk_below (g:=gb283) (bF2 NB283_288.out BK283.out) hb);replace BK288:=aM (blk_below (g:=gb288) (bP2 BK288.out) hb);replace HB:=aM (below_step aG hb);(try clear hb);(try clear hb2);(try clear hk);(try clear hi))|((with_reducible refine gate_builtin (b:= .append) (xs:=#[.tmp 14,.tmp 19]) rfl ?_);at_builtin;refine Kd.R_append Kd.string (w0:=w) w.heap.size rfl (.tmp 14) (.tmp 19) 39 9 (.string ⟨#[]⟩) 16 rfl Tryz.underlying39 info9 rfl (by decide) (by omega) u3 x3_1 t289 [.string t289] (fun _=>True) (fun _=>False) rfl rfl ?aP (fun _ hk=>hk.elim) ?aF ?aO ?aB ?aS ?aL ?_;(case aP=>exact rfl);(case aB=>exact aG);(case aF=>exact(fun _ _=>trivial));(case aO=>exact(aR HO_3));(case aS=>exact(below_size aG));(case aL=>have:=LMc10.out;omega);intro v291 w16 ho hb hg hat;rw[←Ny290.out] at ho;have n0_:=aM (blk_grown (g:=gb283) aK hg (Kd.R_ne HO_3.out BK283.out (by decide)));have n1_:=aM (blk_grown (g:=gb288) aK hg (Kd.R_ne HO_3.out BK288.out (by decide)));have n2_:=aM (hb);have n3_:=aM (ho);clear BK283;clear BK288;clear HB;clear HO_3;have BK283:=n0_;have BK288:=n1_;have HB:=n2_;have HO292:=n3_;clear n0_ n1_ n2_ n3_;clear ho hb hg hat))
       go_roundg k1
       case measure=>have:=HK1.out;omega
       case rel=>exact⟨(y290),(wrap64 (x10_1+1)),aX,H',⟨by have:=HK1.out;omega⟩,⟨aR HO292⟩,⟨aK⟩,⟨aG⟩⟩
      ·rw[if_neg c10] at H;exact absurd H (by simp)
     ·rw[if_neg c8] at H;exact absurd H (by simp)
    ·rw[if_neg c7] at H;exact absurd H (by simp)
   ·rw[if_neg c6] at H;have c6b0:decide (x10_1<(l0_1.length:Int))=false:=decide_eq_false c6;clear c6;replace H:=bM H;obtain⟨t293,A170,H⟩:=H;have A17:=aM A170;clear A170;obtain rfl:=Option.some.inj H;obtain⟨Ao18,co18,eo18⟩:=Kd.R_slice HO_3.out;subst eo18
    go_wp2_with (first|((with_reducible refine gate_callee (f:=36) rfl ?_);refine goesL_ (some 23) rfl rfl Tryz.func36 (by kernel_rfl) rfl #[.slice Ao18 x3_1.length co18,.string (⟨#[32]⟩:ByteArray)] rfl aA ?_;(with_reducible refine(strings_Join.calls _ _ x3_1 (⟨#[32]⟩:ByteArray) t293 _ ?side1 ?side2 A17.out).mono ?_);(case side1=>repeat(first|exact(Kd.R_reads' HO_3.out).2.2|(with_reducible refine pC ?_)));(case side2=>exact(Kd.R_reads' HO_3.out).2.1);rintro e w19 ⟨rfl,hb⟩;refine⟨_,rfl,?_⟩;replace HO_3:=aM (Kd.R_below (aR HO_3) hb);replace BK283:=aM (kB gb283 #[.slice A0_0 l0_0.length c0_0,.slice A0_1 l0_1.length c0_1] 25 hb);replace HB:=aM (below_step aG hb);(try clear hb);(try clear hb2);(try clear hk);(try clear hi)))
    go_ret
    exact⟨aE,aG⟩

end Go.Proofs.YtckpikfbhlhhjaaGreatDoor.PFnDatabaseFormat
namespace Go.Proofs.YtckpikfbhlhhjaaGreatDoor.PFnDatabaseFormat
open Go.RowKit Go.Proofs.YtckpikfbhlhhjaaGreatDoorW.PrintWords Go.Proofs.YtckpikfbhlhhjaaGreatDoorW.PrintLast Go.Proofs.YtckpikfbhlhhjaaGreatDoorW.PrintMore
attribute [local go_sem] max2_int min2_int max_two min_two max_three min_three max_four min_four
set_option linter.unusedVariables false
set_option linter.unusedSimpArgs false

/-! ### impl_FormatDatabase: function 12 -/
def impl_FormatDatabase.l0:Nat→List ByteArray→List (S42)→Int→Int→List (S42)→List (S47)→Option (ByteArray)
 |0,_,_,_,_,_,_=>none
 |k+1,x3,x11,x12,x13,x295000,x295001=>if x13<x12 then(if 0≤x13 then(if x13<(x11.length:Int) then((impl_FormatRelation.f ((rd_T42 x11 x13).f0) ((rd_T42 x11 x13).f1) ((rd_T42 x11 x13).f2)).bind fun t301=>(if x3.length<8796093022208 then(impl_FormatDatabase.l0 k (x3++ [t301]) x11 x12 (wrap64 (x13+1)) x295000 x295001) else(none))) else(none)) else(none)) else((strings_Join.f x3 (⟨#[32]⟩:ByteArray)).bind fun t305=>(if t305.size+1≤9223372036854775807 then((impl_formatAll.f k x295000 x295001).bind fun t306=>(if(t305++(⟨#[58]⟩:ByteArray)).size+t306.size≤9223372036854775807 then(some ((t305++(⟨#[58]⟩:ByteArray))++t306)) else(none))) else(none)))
def impl_FormatDatabase.f (k:Nat) (l0_0:List (S42)) (l0_1:List (S47)):Option (ByteArray):=(impl_IsValidDatabase.f l0_0 l0_1).bind fun t295=>(if t295=true then(impl_FormatDatabase.l0 k (([] :List ByteArray)) l0_0 (l0_0.length:Int) 0 l0_0 l0_1) else(some (⟨#[]⟩:ByteArray)))
set_option maxHeartbeats 8000000 in
set_option maxRecDepth 100000 in
theorem impl_FormatDatabase.calls (k:Nat) (A0_0:Option Addr) (c0_0:Nat) (l0_0:List (S42)) (A0_1:Option Addr) (c0_1:Nat) (l0_1:List (S47)) (r:ByteArray) (w:World) (hr0_0:Kd.C k42 w A0_0 l0_0.length l0_0) (hc0_0:l0_0.length≤c0_0) (hr0_1:Kd.C k47 w A0_1 l0_1.length l0_1) (hc0_1:l0_1.length≤c0_1) (h:impl_FormatDatabase.f k l0_0 l0_1=some r) (hp_:Go.Proofs.YtckpikfbhlhhjaaGreatDoor.Shelf.Pow w):
  Calls Tryz.prog 12 #[.agg #[.slice A0_0 l0_0.length c0_0,.slice A0_1 l0_1.length c0_1]] w fun e w'=>e= .returned (.string r)∧Below w.heap.size w w':=by
 have hu25:=Tryz.underlying25;have hu42:=Tryz.underlying42;have HR0_0:=aM hr0_0;have HC0_0:=aM hc0_0;clear hr0_0 hc0_0;have HR0_1:=aM hr0_1;have HC0_1:=aM hc0_1;clear hr0_1 hc0_1;have HB:=aM (Below.refl w.heap.size w);have H:((impl_IsValidDatabase.f l0_0 l0_1).bind fun t295=>(if t295=true then(impl_FormatDatabase.l0 k (([] :List ByteArray)) l0_0 (l0_0.length:Int) 0 l0_0 l0_1) else(some (⟨#[]⟩:ByteArray))))=some r:=h;clear h;replace H:=bM H;obtain⟨t295,A20,H⟩:=H;have A2:=aM A20;clear A20
 by_cases c3:t295=true
 ·subst c3;replace H:=iT H;obtain⟨y296,hy296⟩: ∃y_:List ByteArray,y_=(([] :List ByteArray)):=⟨_,rfl⟩
  first|replace H:=bY hy296 H|rw[←hy296] at H
  have Ny296:=aM hy296;clear hy296;have H':=aM H;clear H
  go_enter Tryz.func12,Tryz.ntmps12
  go_wp2_with (first|((with_reducible refine gate_dst (N:=1) rfl ?_);refine bE 1 (cs:=#[.slice A0_0 l0_0.length c0_0,.slice A0_1 l0_1.length c0_1]) (t:=25) ?_;intro gb294 hg w4 hbox hb;have BK294:=aM (hbox);have GW294:=aM ((by rw[hg];exact(below_size aB):w.heap.size≤gb294));have GE294:=aM ((by rw[hg];exact(below_size aB):w.heap.size≤gb294));replace HB:=aM (below_step aB hb);clear hb hbox hg;have hcz5_0:w4.cell? ⟨gb294,0,none⟩=some (.slice A0_0 l0_0.length c0_0):=(blk_cell BK294.out 0).trans rfl;have hcz5_1:w4.cell? ⟨gb294,1,none⟩=some (.slice A0_1 l0_1.length c0_1):=(blk_cell BK294.out 1).trans rfl;have hfz5_0:=blk_frozen BK294.out 0;have hfz5_1:=blk_frozen BK294.out 1)|((with_reducible refine gate_callee (f:=34) rfl ?_);refine goesL_ (some 7) rfl rfl Tryz.func34 (by kernel_rfl) rfl #[.agg #[.slice A0_0 l0_0.length c0_0,.slice A0_1 l0_1.length c0_1]] rfl aA ?_;(with_reducible refine(impl_IsValidDatabase.calls _ _ l0_0 _ _ l0_1 true _ ?side1 ?side2 ?side3 ?side4 A2.out).mono ?_);(case side1=>exact aC);(case side2=>exact HC0_0.out);(case side3=>exact aC);(case side4=>exact HC0_1.out);rintro e w6 ⟨rfl,hb⟩;refine⟨_,rfl,?_⟩;replace BK294:=aM (kB gb294 #[.slice A0_0 l0_0.length c0_0,.slice A0_1 l0_1.length c0_1] 25 hb);replace HB:=aM (below_step aG hb);(try clear hb);(try clear hb2);(try clear hk);(try clear hi))|((with_reducible refine gate_dst (N:=9) rfl ?_);refine Kd.R_lit Kd.string _ 9 ?hg (N:=9) ?hd (xs:=([] :List ByteArray)) (inner:= []) (ok:=fun _=>True) (okp:=fun _=>True) ?hr ?hp (fun _ hk=>hk) trivial (Below.refl _ _) (Nat.le_refl _) (by simp) ?_;(case hd=>rfl);(case hg=>rfl);(case hr=>first|(go_simp;done)|(go_simp;rfl));(case hp=>exact(Reps.none _ _));intro v297 w7 ho8 hb hg_ hnew_;clear hg_ hnew_;(first|rw[←Ny296.out] at ho8|(simp only[Int.reduceToNat] at ho8;rw[←Ny296.out] at ho8));have HO298:=aM (Kd.R_lower ho8 (below_size aG));replace BK294:=aM (kB gb294 #[.slice A0_0 l0_0.length c0_0,.slice A0_1 l0_1.length c0_1] 25 hb);replace HB:=aM (below_step aG hb);clear hb ho8;have hcz9_0:w7.cell? ⟨gb294,0,none⟩=some (.slice A0_0 l0_0.length c0_0):=(blk_cell BK294.out 0).trans rfl;have hcz9_1:w7.cell? ⟨gb294,1,none⟩=some (.slice A0_1 l0_1.length c0_1):=(blk_cell BK294.out 1).trans rfl;have hfz9_0:=blk_frozen BK294.out 0;have hfz9_1:=blk_frozen BK294.out 1))
  go_loopg [3,13] k (fun kq v3 v13 w'=> ∃(x3_1:List ByteArray) (x13_1:Int),v13= .int .i64 x13_1∧Aside0 (impl_FormatDatabase.l0 kq x3_1 l0_0 (l0_0.length:Int) x13_1 l0_0 l0_1=some r)∧Aside0 (kq≤k)∧Aside0 (Kd.R Kd.string 9 w' w.heap.size (fun _=>True) v3 x3_1)∧Aside0 (w'.heap[gb294]? =some (.cells #[(.slice A0_0 l0_0.length c0_0),(.slice A0_1 l0_1.length c0_1)] 25 (0,0)))∧Aside0 (Below w.heap.size w w'))
  case atStart=>exact⟨(y296),(0),aX,H',⟨Nat.le_refl _⟩,⟨aR HO298⟩,⟨aK⟩,⟨aG⟩⟩
  case round=>
   clear H'
   try clear c1
   try clear p2
   try clear c3
   try clear hcz5_0
   try clear hcz5_1
   try clear hcz9_0
   try clear hcz9_1
   try clear hfz5_0
   try clear hfz5_1
   try clear hfz9_0
   try clear hfz9_1
   obtain⟨x3_1,x13_1,rfl,HA,HK1,HO_3,BK294,HB⟩:=hrel
   cases gk with
   |zero=>exact absurd HA.out (by simp[impl_FormatDatabase.l0])
   |succ k1=>
    have H:=HA.out;clear HA;simp only[impl_FormatDatabase.l0] at H
    by_cases c10:x13_1<(l0_0.length:Int)
    ·rw[if_pos c10] at H;have c10b0:decide (x13_1<(l0_0.length:Int))=true:=decide_eq_true c10;clear c10
     by_cases c11:0≤x13_1
     ·rw[if_pos c11] at H;have c11b0:decide (0≤x13_1)=true:=decide_eq_true c11;clear c11
      by_cases c12:x13_1<(l0_0.length:Int)
      ·rw[if_pos c12] at H;have c12b0:decide (x13_1<(l0_0.length:Int))=true:=decide_eq_true c12;clear c12;replace H:=bM H;obtain⟨t301,A130,H⟩:=H;have A13:=aM A130;clear A130
       by_cases c14:x3_1.length<8796093022208
       ·rw[if_pos c14] at H;have LMc14:=aM c14;clear c14;obtain⟨y302,hy302⟩: ∃y_:List ByteArray,y_=(x3_1++ [t301]):=⟨_,rfl⟩
        first|replace H:=bY hy302 H|rw[←hy302] at H
        have Ny302:=aM hy302;clear hy302;have H':=aM H;clear H;have p299:0≤(x13_1:Int):=aD;have q299:x13_1<(l0_0.length:Int):=aD;obtain⟨ad299,e299,hx299_0,hx299_1,hx299_2⟩:=at_T42 HR0_0.out x13_1 p299 q299
        cases e299
        replace hx299_0:=(HB.out.cell (World.block_lt_of_cell? w _ hx299_0)).trans hx299_0;replace hx299_1:=(HB.out.cell (World.block_lt_of_cell? w _ hx299_1)).trans hx299_1;replace hx299_2:=(HB.out.cell (World.block_lt_of_cell? w _ hx299_2)).trans hx299_2;replace p299:=eq_true p299;replace q299:=eq_true q299
        go_wp2_with (first|((with_reducible refine gate_dst (N:=5) rfl ?_);refine bE 5 (cs:=#[.string (⟨#[]⟩:ByteArray),.int .i64 0,.int .i64 0]) (t:=42) ?_;intro gb300 hg w15 hbox hb;have BK300:=aM (hbox);have GW300:=aM ((by rw[hg];exact(below_size aG):w.heap.size≤gb300));have GE300:=aM ((by rw[hg];exact(below_size aG):w.heap.size≤gb300));have NB294_300:=aM ((by rw[hg];exact Nat.ne_of_lt (blk_lt (g:=gb294) aK):gb294≠gb300));have NB300_294:=aM ((by rw[hg];exact Nat.ne_of_gt (blk_lt (g:=gb294) aK):gb300≠gb294));replace HO_3:=aM (Kd.R_below (aR HO_3) hb);replace BK294:=aM (kB gb294 #[.slice (some ad299) l0_0.length c0_0,.slice A0_1 l0_1.length c0_1] 25 hb);replace HB:=aM (below_step aG hb);clear hb hbox hg;have hnb16:=NB300_294.out;have hnc16:=NB294_300.out;have hcz17_0:w15.cell? ⟨gb300,0,none⟩=some (.string (⟨#[]⟩:ByteArray)):=(blk_cell BK300.out 0).trans rfl;have hcz17_1:w15.cell? ⟨gb300,1,none⟩=some (.int .i64 0):=(blk_cell BK300.out 1).trans rfl;have hcz17_2:w15.cell? ⟨gb300,2,none⟩=some (.int .i64 0):=(blk_cell BK300.out 2).trans rfl;have hfz17_0:=blk_frozen BK300.out 0;have hfz17_1:=blk_frozen BK300.out 1;have hfz17_2:=blk_frozen BK300.out 2)|((with_reducible refine gate_callee (f:=35) rfl ?_);refine goesL_ (some 19) rfl rfl Tryz.func35 (by kernel_rfl) rfl #[.agg #[.string ((rd_T42 l0_0 x13_1).f0),.int .i64 ((rd_T42 l0_0 x13_1).f1),.int .i64 ((rd_T42 l0_0 x13_1).f2)]] rfl aA ?_;(with_reducible refine(impl_FormatRelation.calls ((rd_T42 l0_0 x13_1).f0) ((rd_T42 l0_0 x13_1).f1) ((rd_T42 l0_0 x13_1).f2) t301 _ A13.out (hp_.on aG)).mono ?_);rintro e w18 ⟨rfl,hb⟩;refine⟨_,rfl,?_⟩;replace HO_3:=aM (Kd.R_below (by(with_reducible repeat apply pR);exact(Kd.R_mono (Kd.R_far (p:=⟨gb300,2,none⟩) (Kd.R_far (p:=⟨gb300,1,none⟩) (Kd.R_far (p:=⟨gb300,0,none⟩) (Kd.R_types HO_3.out BK300.out (by decide)) (fun _ hk=>hk.2) (.string ((rd_T42 l0_0 x13_1).f0))) (fun _ hk=>hk.2) (.int .i64 ((rd_T42 l0_0 x13_1).f1))) (fun _ hk=>hk.2) (.int .i64 ((rd_T42 l0_0 x13_1).f2))) (fun _ h_=>h_.1))) hb);replace BK294:=aM (blk_below (g:=gb294) (o:= .cells #[.slice (some ad299) l0_0.length c0_0,.slice A0_1 l0_1.length c0_1] 25 (0,0)) (by(with_reducible repeat refine pB ?_);refine blk_far ?_ NB294_300.out _;(with_reducible repeat refine pB ?_);refine blk_far ?_ NB294_300.out _;(with_reducible repeat refine pB ?_);refine blk_far ?_ NB294_300.out _;(with_reducible repeat refine pB ?_);exact BK294.out) hb);replace BK300:=aM (blk_below (g:=gb300) (o:= .cells #[.string ((rd_T42 l0_0 x13_1).f0),.int .i64 ((rd_T42 l0_0 x13_1).f1),.int .i64 ((rd_T42 l0_0 x13_1).f2)] 42 (0,0)) (by(with_reducible repeat refine pB ?_);refine blk_put (cs:=#[.string ((rd_T42 l0_0 x13_1).f0),.int .i64 ((rd_T42 l0_0 x13_1).f1),.int .i64 0]) ?_ 2 _ rfl;(with_reducible repeat refine pB ?_);refine blk_put (cs:=#[.string ((rd_T42 l0_0 x13_1).f0),.int .i64 0,.int .i64 0]) ?_ 1 _ rfl;(with_reducible repeat refine pB ?_);refine blk_put (cs:=#[.string (⟨#[]⟩:ByteArray),.int .i64 0,.int .i64 0]) ?_ 0 _ rfl;(with_reducible repeat refine pB ?_);exact BK300.out) hb);replace HB:=aM (below_step aG hb);(try clear hb);(try clear hb2);(try clear hk);(try clear hi))|((with_reducible refine gate_builtin (b:= .append) (xs:=#[.tmp 17,.tmp 20]) rfl ?_);at_builtin;refine Kd.R_append Kd.string (w0:=w) w.heap.size rfl (.tmp 17) (.tmp 20) 39 9 (.string ⟨#[]⟩) 16 rfl Tryz.underlying39 info9 rfl (by decide) (by omega) u3 x3_1 t301 [.string t301] (fun _=>True) (fun _=>False) rfl rfl ?aP (fun _ hk=>hk.elim) ?aF ?aO ?aB ?aS ?aL ?_;(case aP=>exact rfl);(case aB=>exact aG);(case aF=>exact(fun _ _=>trivial));(case aO=>exact(aR HO_3));(case aS=>exact(below_size aG));(case aL=>have:=LMc14.out;omega);intro v303 w19 ho hb hg hat;rw[←Ny302.out] at ho;have n0_:=aM (blk_grown (g:=gb294) aK hg (Kd.R_ne HO_3.out BK294.out (by decide)));have n1_:=aM (blk_grown (g:=gb300) aK hg (Kd.R_ne HO_3.out BK300.out (by decide)));have n2_:=aM (hb);have n3_:=aM (ho);clear BK294;clear BK300;clear HB;clear HO_3;have BK294:=n0_;have BK300:=n1_;have HB:=n2_;have HO304:=n3_;clear n0_ n1_ n2_ n3_;clear ho hb hg hat))
        go_roundg k1
        case measure=>have:=HK1.out;omega
        case rel=>exact⟨(y302),(wrap64 (x13_1+1)),aX,H',⟨by have:=HK1.out;omega⟩,⟨aR HO304⟩,⟨aK⟩,⟨aG⟩⟩
       ·rw[if_neg c14] at H;exact absurd H (by simp)
      ·rw[if_neg c12] at H;exact absurd H (by simp)
     ·rw[if_neg c11] at H;exact absurd H (by simp)
    ·rw[if_neg c10] at H;have c10b0:decide (x13_1<(l0_0.length:Int))=false:=decide_eq_false c10;clear c10;replace H:=bM H;obtain⟨t305,A200,H⟩:=H;have A20:=aM A200;clear A200
     by_cases c21:t305.size+1≤9223372036854775807
     ·rw[if_pos c21] at H;have c21b0:=eq_true c21;have c21b1:decide (t305.size+1≤9223372036854775807)=true:=decide_eq_true c21
      try have c21b2:(9223372036854775807<t305.size+1)=False:=eq_false (Nat.not_lt.2 c21)
      replace H:=bM H;obtain⟨t306,A220,H⟩:=H;have A22:=aM A220;clear A220
      by_cases c23:(t305++(⟨#[58]⟩:ByteArray)).size+t306.size≤9223372036854775807
      ·rw[if_pos c23] at H;have c23b0:=eq_true c23;have c23b1:decide ((t305++(⟨#[58]⟩:ByteArray)).size+t306.size≤9223372036854775807)=true:=decide_eq_true c23
       try have c23b2:(9223372036854775807<(t305++(⟨#[58]⟩:ByteArray)).size+t306.size)=False:=eq_false (Nat.not_lt.2 c23)
       have c23b3:(9223372036854775807<t305.size+1+t306.size)=False:=by have h_:=c23b2;rw[ByteArray.size_append] at h_;exact h_
       obtain rfl:=Option.some.inj H
       try go_wp2
       replace HO_3:=aM (Kd.R_drew HO_3.out);replace BK294:=aM (blk_drew BK294.out);replace HB:=aM (below_drew1 HB.out);obtain⟨Ao25,co25,eo25⟩:=Kd.R_slice HO_3.out;(first|subst eo25|(injection eo25 with f1_ f2_ f3_;have f4_:=f1_.symm;have f5_:=f3_.symm;clear f1_ f2_ f3_;subst f4_;subst f5_))
       refine start_ (n:=7) (S:=fun w'=>w'.cell? ⟨gb294,0,none⟩=some (.slice A0_0 l0_0.length c0_0)∧w'.cell? ⟨gb294,1,none⟩=some (.slice A0_1 l0_1.length c0_1)) (ds:= []) #[false,false,false,false,false,false,false] (by kernel_rfl) rfl rfl ⟨(blk_cell BK294.out 0).trans rfl,(blk_cell BK294.out 1).trans rfl⟩ (fun hHeld=>?_);generalize wr.drew=w24 at HO_3 BK294 HB hHeld ⊢;refine pure_ (i:=0) (N:=some 23) (v:=?_) (a':=?_) #[true,false,false,false,false,false,false] rfl rfl (by kernel_rfl) (fun _ _ _ h=>h) (Or.inl ⟨by rfl,?_⟩) ?_ ?_
       rotate_left
       ·exact aI
       rotate_left
       ·exact aP
       refine take_ (i:=3) (N:=some 26) (v:=?_) (a':=?_) #[true,false,false,true,false,false,false] rfl rfl (by kernel_rfl) (fun _ _ _ h=>h) (Or.inl ⟨by rfl,?_⟩) hHeld ?_ ?_
       rotate_left
       ·rintro w' ⟨s0,s1⟩
        go_simp
        with_reducible rfl
       rotate_left
       ·exact aP
       refine one_ (i:=1) (N:=some 24) #[true,true,false,true,false,false,false] rfl rfl (by kernel_rfl) (by decide) (fun K hK=>?_);refine goes_ Tryz.func36 (by kernel_rfl) rfl #[.slice Ao25 x3_1.length co25,.string (⟨#[32]⟩:ByteArray)] (by rfl) rfl rfl aA ?_
       with_reducible refine(strings_Join.calls _ _ x3_1 (⟨#[32]⟩:ByteArray) t305 _ ?side1 ?side2 A20.out).mono ?_
       (case side1=>repeat(first|exact(Kd.R_reads' HO_3.out).2.2|(with_reducible refine pC ?_)))
       (case side2=>exact(Kd.R_reads' HO_3.out).2.1)
       rintro e w26 ⟨rfl,hb⟩;refine⟨_,rfl,?_⟩;replace HO_3:=aM (Kd.R_below (aR HO_3) hb);replace BK294:=aM (kB gb294 #[.slice A0_0 l0_0.length c0_0,.slice A0_1 l0_1.length c0_1] 25 hb);replace HB:=aM (below_step aG hb);(try clear hb)
       (try clear hb2)
       (try clear hk)
       (try clear hi)
       refine hK.out _ _ ⟨(blk_cell BK294.out 0).trans rfl,(blk_cell BK294.out 1).trans rfl⟩ (fun hHeld=>?_);clear hK K;refine nU 24 ?_;refine pure_ (i:=2) (N:=some 25) (v:=?_) (a':=?_) #[true,true,true,true,false,false,false] rfl rfl (by kernel_rfl) (fun _ _ _ h=>h) (Or.inl ⟨by rfl,?_⟩) ?_ ?_
       rotate_left
       ·exact aI
       rotate_left
       ·exact aP
       refine one_ (i:=4) (N:=some 27) #[true,true,true,true,true,false,false] rfl rfl (by kernel_rfl) (by decide) (fun K hK=>?_);refine goes_ Tryz.func37 (by kernel_rfl) rfl #[.agg #[.slice A0_0 l0_0.length c0_0,.slice A0_1 l0_1.length c0_1]] (by rfl) rfl rfl aA ?_
       with_reducible refine(impl_formatAll.calls k1 _ _ l0_0 _ _ l0_1 t306 _ ?side1 ?side2 ?side3 ?side4 A22.out (hp_.on aG)).mono ?_
       (case side1=>exact aC)
       (case side2=>exact HC0_0.out)
       (case side3=>exact aC)
       (case side4=>exact HC0_1.out)
       rintro e w27 ⟨rfl,hb⟩;refine⟨_,rfl,?_⟩;replace HO_3:=aM (Kd.R_below (aR HO_3) hb);replace BK294:=aM (kB gb294 #[.slice A0_0 l0_0.length c0_0,.slice A0_1 l0_1.length c0_1] 25 hb);replace HB:=aM (below_step aG hb);(try clear hb)
       (try clear hb2)
       (try clear hk)
       (try clear hi)
       refine hK.out _ _ ⟨(blk_cell BK294.out 0).trans rfl,(blk_cell BK294.out 1).trans rfl⟩ (fun hHeld=>?_);clear hK K;refine nU 27 ?_;refine pure_ (i:=5) (N:=some 28) (v:=?_) (a':=?_) #[true,true,true,true,true,true,false] rfl rfl (by kernel_rfl) (fun _ _ _ h=>h) (Or.inl ⟨by rfl,?_⟩) ?_ ?_
       rotate_left
       ·exact aI
       rotate_left
       ·exact aP
       refine pure_ (i:=6) (N:=some 2) (v:=?_) (a':=?_) #[true,true,true,true,true,true,true] rfl rfl (by kernel_rfl) (fun _ _ _ h=>h) (Or.inl ⟨by rfl,?_⟩) ?_ ?_
       rotate_left
       ·exact aI
       rotate_left
       ·exact aP
       refine done_ (by kernel_rfl) ?_
       try go_wp2
       go_ret
       exact⟨aE,aG⟩
      ·rw[if_neg c23] at H;exact absurd H (by simp)
     ·rw[if_neg c21] at H;exact absurd H (by simp)
 ·replace c3:=Bool.eq_false_iff.mpr c3;subst c3;have H1:(some (⟨#[]⟩:ByteArray))=some r:=by rw[if_neg (show¬(false=true) by decide)] at H;exact H
  clear H;have H:=H1;clear H1;obtain rfl:=Option.some.inj H
  go_enter Tryz.func12,Tryz.ntmps12
  go_wp2_with (first|((with_reducible refine gate_dst (N:=1) rfl ?_);refine bE 1 (cs:=#[.slice A0_0 l0_0.length c0_0,.slice A0_1 l0_1.length c0_1]) (t:=25) ?_;intro gb294 hg w28 hbox hb;have BK294:=aM (hbox);have GW294:=aM ((by rw[hg];exact(below_size aB):w.heap.size≤gb294));have GE294:=aM ((by rw[hg];exact(below_size aB):w.heap.size≤gb294));replace HB:=aM (below_step aB hb);clear hb hbox hg;have hcz29_0:w28.cell? ⟨gb294,0,none⟩=some (.slice A0_0 l0_0.length c0_0):=(blk_cell BK294.out 0).trans rfl;have hcz29_1:w28.cell? ⟨gb294,1,none⟩=some (.slice A0_1 l0_1.length c0_1):=(blk_cell BK294.out 1).trans rfl;have hfz29_0:=blk_frozen BK294.out 0;have hfz29_1:=blk_frozen BK294.out 1)|((with_reducible refine gate_callee (f:=34) rfl ?_);refine goesL_ (some 7) rfl rfl Tryz.func34 (by kernel_rfl) rfl #[.agg #[.slice A0_0 l0_0.length c0_0,.slice A0_1 l0_1.length c0_1]] rfl aA ?_;(with_reducible refine(impl_IsValidDatabase.calls _ _ l0_0 _ _ l0_1 false _ ?side1 ?side2 ?side3 ?side4 A2.out).mono ?_);(case side1=>exact aC);(case side2=>exact HC0_0.out);(case side3=>exact aC);(case side4=>exact HC0_1.out);rintro e w30 ⟨rfl,hb⟩;refine⟨_,rfl,?_⟩;replace BK294:=aM (kB gb294 #[.slice A0_0 l0_0.length c0_0,.slice A0_1 l0_1.length c0_1] 25 hb);replace HB:=aM (below_step aG hb);(try clear hb);(try clear hb2);(try clear hk);(try clear hi)))
  go_ret
  exact⟨aE,aG⟩

-- NOT PRINTED: function 115 (bytealg_IndexByteString)

-- NOT PRINTED: function 101 (stringslite_IndexByte)

-- NOT PRINTED: function 102 (bytealg_IndexString)

/-! ### strings_Cut: function 22 -/
def strings_Cut.f (a0:ByteArray) (a1:ByteArray):Option (ByteArray×ByteArray×Bool):=if a0.size<4294967281 then some (⟨(Lib.cut a0.data.toList a1.data.toList).1.toArray⟩,⟨(Lib.cut a0.data.toList a1.data.toList).2.1.toArray⟩,(Lib.cut a0.data.toList a1.data.toList).2.2) else none
theorem strings_Cut.calls (a0:ByteArray) (a1:ByteArray) (r1:ByteArray) (r2:ByteArray) (r3:Bool) (w:World) (h:strings_Cut.f a0 a1=some (r1,r2,r3)) (hp_:Go.Proofs.YtckpikfbhlhhjaaGreatDoor.Shelf.PowM w):
 Calls Tryz.prog 22 #[.string a0,.string a1] w fun e w'=>e= .returned (.tuple #[.string r1,.string r2,.bool r3])∧Below w.heap.size w w':=by
 unfold strings_Cut.f at h
 by_cases h2:a0.size<4294967281
 ·rw[if_pos h2] at h;simp only[Option.some.injEq,Prod.mk.injEq] at h;obtain⟨rfl,rfl,rfl⟩:=h;exact Shelf.Cut a0 a1 h2 w hp_
 ·rw[if_neg h2] at h;exact absurd h (by simp)


-- NOT PRINTED: function 117 (utf8_RuneCountInString)

-- NOT PRINTED: function 122 (utf8_decodeRuneInStringSlow)

-- NOT PRINTED: function 118 (utf8_DecodeRuneInString)

-- NOT PRINTED: function 105 (strings_explode)

-- NOT PRINTED: function 107 (strings_Index)

-- NOT PRINTED: function 119 (bytealg_CountString)

-- NOT PRINTED: function 106 (strings_Count)

-- NOT PRINTED: function 88 (strings_genSplit)

/-! ### strings_Split: function 57 -/
def strings_Split.f (a0:ByteArray) (a1:ByteArray):Option (List ByteArray):=if a0.size<4294967281∧1≤a1.size then some (Shelf.pcs a0 a1) else none
theorem strings_Split.calls (a0:ByteArray) (a1:ByteArray) (r:List ByteArray) (w:World) (h:strings_Split.f a0 a1=some r) (hp_:Go.Proofs.YtckpikfbhlhhjaaGreatDoor.Shelf.PowM w):
 Calls Tryz.prog 57 #[.string a0,.string a1] w fun e w'=> ∃v0_:Value,e= .returned (v0_)∧Kd.R Kd.string 9 w' w.heap.size (fun _=>True) v0_ r∧Below w.heap.size w w':=by
 unfold strings_Split.f at h
 by_cases h2:a0.size<4294967281∧1≤a1.size
 ·rw[if_pos h2] at h;replace h:=Option.some.inj h;subst h;exact Shelf.SplitR a0 a1 h2.1 h2.2 w hp_
 ·rw[if_neg h2] at h;exact absurd h (by simp)


/-! ### impl_words: function 23 -/
def impl_words.f (a0:ByteArray):Option (List ByteArray):=if a0.toList=([] :List UInt8) then(some ([] :List ByteArray)) else((strings_Split.f a0 (⟨#[32]⟩:ByteArray)).bind fun t309=>(some t309))
set_option maxHeartbeats 8000000 in
set_option maxRecDepth 100000 in
theorem impl_words.calls (a0:ByteArray) (r:List ByteArray) (w:World) (h:impl_words.f a0=some r) (hp_:Go.Proofs.YtckpikfbhlhhjaaGreatDoor.Shelf.PowM w):
  Calls Tryz.prog 23 #[.string a0] w fun e w'=> ∃v0_:Value,e= .returned (v0_)∧Kd.R Kd.string 9 w' w.heap.size (fun _=>True) v0_ r∧Below w.heap.size w w':=by
 have HB:=aM (Below.refl w.heap.size w);have H:(if a0.toList=([] :List UInt8) then(some ([] :List ByteArray)) else((strings_Split.f a0 (⟨#[32]⟩:ByteArray)).bind fun t309=>(some t309)))=some r:=h;clear h
 by_cases c2:a0.toList=([] :List UInt8)
 ·rw[if_pos c2] at H;have c2b0:(a0.toList==([] :List UInt8))=true:=beq_iff_eq.mpr c2;have c2b1:(a0.toList !=([] :List UInt8))=false:=bne_eq_false_iff_eq.mpr c2;clear c2;obtain rfl:=Option.some.inj H
  go_enter Tryz.func23,Tryz.ntmps23
  go_wp2
  go_ret
  exact⟨_,aE,by first|exact Kd.R_nil _ _ _ _ _|exact Kd.N_nil _ _ _ _ _|exact Kd.V_nil _ _ _ _ _|exact Kd.Q_nil _ _ _ _ _|exact Kd.S_nil _ _ _ _ _,aB⟩
 ·rw[if_neg c2] at H;have c2b0:(a0.toList==([] :List UInt8))=false:=beq_eq_false_iff_ne.mpr c2;have c2b1:(a0.toList !=([] :List UInt8))=true:=bne_iff_ne.mpr c2;replace H:=bM H;obtain⟨t309,A30,H⟩:=H;have A3:=aM A30;clear A30;obtain rfl:=Option.some.inj H
  go_enter Tryz.func23,Tryz.ntmps23
  go_wp2_with (first|((with_reducible refine gate_callee (f:=57) rfl ?_);refine goesL_ (some 6) rfl rfl Tryz.func57 (by kernel_rfl) rfl #[.string a0,.string (⟨#[32]⟩:ByteArray)] rfl aA ?_;(with_reducible refine(strings_Split.calls a0 (⟨#[32]⟩:ByteArray) t309 _ A3.out (hp_.on aB)).mono ?_);rintro e w4 ⟨v310,rfl,ho0,hb⟩;refine⟨_,rfl,?_⟩;have HO311:=aM (Kd.R_lower ho0 (below_size aB));replace HB:=aM (below_step aB hb);(try clear hb);(try clear hb2);(try clear hk);(try clear hi);(try clear ho0)))
  go_ret
  exact⟨_,aE,aR HO311,aB⟩

end Go.Proofs.YtckpikfbhlhhjaaGreatDoor.PFnDatabaseFormat
