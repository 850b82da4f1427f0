import Derived.Test.YtckpikfbhlhhjaaGreatDoorPFnDatabaseFormatx0
import Derived.Test.YtckpikfbhlhhjaaGreatDoorPFnDatabaseFormatx8
import Derived.Test.YtckpikfbhlhhjaaGreatDoorPFnDatabaseFormatx10
namespace Go.Proofs.YtckpikfbhlhhjaaGreatDoor.PFnDatabaseFormat
open Go.RowKit Go.Proofs.YtckpikfbhlhhjaaGreatDoorW.PrintWords Go.Proofs.YtckpikfbhlhhjaaGreatDoorW.PrintLast Go.Proofs.YtckpikfbhlhhjaaGreatDoorW.PrintMore
attribute [local go_sem] max2_int min2_int max_two min_two max_three min_three max_four min_four
set_option linter.unusedVariables false
set_option linter.unusedSimpArgs false

/-! ### impl_ParseRelation: function 24 -/
def impl_ParseRelation.f (a0:ByteArray):Option (ByteArray×Int×Int×Bool):=if(a0.size:Int)=4 then(if 0≤1 then(if 1≤(a0.size:Int) then(if 3<(a0.size:Int) then(if 1<(a0.size:Int) then((impl_FormatRelation.f (a0.extract 0 1) (wrap64 ((wrap64 (bt a0 3))-48)) (wrap64 ((wrap64 (bt a0 1))-48))).bind fun t314=>(if t314.toList=a0.toList then(some (a0.extract 0 1,wrap64 ((wrap64 (bt a0 3))-48),wrap64 ((wrap64 (bt a0 1))-48),true)) else(some ((⟨#[]⟩:ByteArray),0,0,false)))) else(none)) else(none)) else(none)) else(none)) else(some ((⟨#[]⟩:ByteArray),0,0,false))
def impl_ParseRelation.T3:Bool×List (List Nat×List Nat):=(true,[([],[]),([0],[0]),([],[]),([2],[2]),([3],[3]),([4],[4]),([],[]),([6],[6]),([7],[7]),([8],[8]),([1,5,9],[1,5,9]),([],[]),([11,10,0,1,2,3,4,5,6,7,8,9,10,11],[10,11])])
def impl_ParseRelation.B3:List Nat:= [0,1,0,4,12,28,0,64,192,448,1023,0,4095]
theorem impl_ParseRelation.tab3:rtab .any (opsOf Tryz.f24 3)=impl_ParseRelation.T3:=by kernel_rfl
theorem impl_ParseRelation.bits3:waitsOk impl_ParseRelation.T3.2 impl_ParseRelation.B3=true:=by kernel_rfl
set_option maxHeartbeats 8000000 in
set_option maxRecDepth 100000 in
theorem impl_ParseRelation.calls (a0:ByteArray) (r1:ByteArray) (r2:Int) (r3:Int) (r4:Bool) (w:World) (h:impl_ParseRelation.f a0=some (r1,r2,r3,r4)) (hp_:Go.Proofs.YtckpikfbhlhhjaaGreatDoor.Shelf.Pow w):
  Calls Tryz.prog 24 #[.string a0] w fun e w'=>e= .returned (.tuple #[.agg #[.string r1,.int .i64 r2,.int .i64 r3],.bool r4])∧Below w.heap.size w w':=by
 have hu42:=Tryz.underlying42;have HB:=aM (Below.refl w.heap.size w);have H:(if(a0.size:Int)=4 then(if 0≤1 then(if 1≤(a0.size:Int) then(if 3<(a0.size:Int) then(if 1<(a0.size:Int) then((impl_FormatRelation.f (a0.extract 0 1) (wrap64 ((wrap64 (bt a0 3))-48)) (wrap64 ((wrap64 (bt a0 1))-48))).bind fun t314=>(if t314.toList=a0.toList then(some (a0.extract 0 1,wrap64 ((wrap64 (bt a0 3))-48),wrap64 ((wrap64 (bt a0 1))-48),true)) else(some ((⟨#[]⟩:ByteArray),0,0,false)))) else(none)) else(none)) else(none)) else(none)) else(some ((⟨#[]⟩:ByteArray),0,0,false)))=some (r1,r2,r3,r4):=h;clear h
 by_cases c2:(a0.size:Int)=4
 ·rw[if_pos c2] at H;have c2b0:((a0.size:Int)==4)=true:=beq_iff_eq.mpr c2;have c2b1:((a0.size:Int) !=4)=false:=bne_eq_false_iff_eq.mpr c2;clear c2
  by_cases c3:0≤1
  ·rw[if_pos c3] at H;have c3b0:=eq_true c3;have c3b1:decide (0≤1)=true:=decide_eq_true c3;clear c3
   by_cases c4:1≤(a0.size:Int)
   ·rw[if_pos c4] at H;have c4b0:=eq_true c4;have c4b1:decide (1≤(a0.size:Int))=true:=decide_eq_true c4;clear c4
    by_cases c5:3<(a0.size:Int)
    ·rw[if_pos c5] at H;have c5b0:decide (3<(a0.size:Int))=true:=decide_eq_true c5;have c5b1:decide (3<a0.size)=true:=decide_eq_true (by omega);clear c5
     by_cases c7:1<(a0.size:Int)
     ·rw[if_pos c7] at H;have c7b0:decide (1<(a0.size:Int))=true:=decide_eq_true c7;have c7b1:decide (1<a0.size)=true:=decide_eq_true (by omega);clear c7;replace H:=bM H;obtain⟨t314,A90,H⟩:=H;have A9:=aM A90;clear A90
      by_cases c10:t314.toList=a0.toList
      ·rw[if_pos c10] at H;have c10b0:(t314.toList==a0.toList)=true:=beq_iff_eq.mpr c10;have c10b1:(t314.toList !=a0.toList)=false:=bne_eq_false_iff_eq.mpr c10;clear c10;simp only[Option.some.injEq,Prod.mk.injEq] at H;obtain⟨rfl,rfl,rfl,rfl⟩:=H
       go_enter Tryz.func24,Tryz.ntmps24
       try go_wp2_with (first|((with_reducible refine gate_dst (N:=2) rfl ?_);refine bE 2 (cs:=#[.string (⟨#[]⟩:ByteArray),.int .i64 0,.int .i64 0]) (t:=42) ?_;intro gb312 hg w11 hbox hb;have BK312:=aM (hbox);have GW312:=aM ((by rw[hg];exact(below_size aB):w.heap.size≤gb312));have GE312:=aM ((by rw[hg];exact(below_size aB):w.heap.size≤gb312));replace HB:=aM (below_step aB hb);clear hb hbox hg))
       replace BK312:=aM (blk_drew BK312.out);replace HB:=aM (below_drew1 HB.out);have p6:0≤(3:Int):=(by omega);have q6:3<a0.size:=(by have:(3:Int)<(a0.size:Int):=aD;omega);have hx6: ∀h:3<a0.size,((a0[3]'h).toNat:Int)=bt a0 3:=bt_at a0 3;clear p6;have qi6:(3<(a0.size:Int))=True:=eq_true (aD);replace q6:=eq_true q6;have p8:0≤(1:Int):=(by omega);have q8:1<a0.size:=(by have:(1:Int)<(a0.size:Int):=aD;omega);have hx8: ∀h:1<a0.size,((a0[1]'h).toNat:Int)=bt a0 1:=bt_at a0 1;clear p8;have qi8:(1<(a0.size:Int))=True:=eq_true (aD);replace q8:=eq_true q8;refine start_ (n:=13) (S:=fun w'=>True) (ds:= []) #[false,false,false,false,false,false,false,false,false,false,false,false,false] (by kernel_rfl) rfl rfl trivial (fun hHeld=>?_);refine with_tabW impl_ParseRelation.tab3 impl_ParseRelation.bits3 (fun HT_ HW_=>?_);generalize w11.drew=w12 at BK312 HB hHeld ⊢;refine pU 0 9 ?_;refine pU 1 10 ?_;refine pU 2 11 ?_;refine pU 6 15 ?_;refine take_ (i:=3) (N:=some 12) (v:=?_) (a':=?_) #[true,true,true,true,false,false,true,false,false,false,false,false,false] rfl rfl (take_ofW HT_.out HW_.out (by kernel_rfl)) (fun _ _ _ h=>h) (Or.inl ⟨by rfl,?_⟩) hHeld ?_ ?_
       rotate_left
       ·intro w' _
        go_simp
        with_reducible rfl
       rotate_left
       ·exact aP
       refine pU 4 13 ?_;refine pU 5 14 ?_;refine take_ (i:=7) (N:=some 16) (v:=?_) (a':=?_) #[true,true,true,true,true,true,true,true,false,false,false,false,false] rfl rfl (take_ofW HT_.out HW_.out (by kernel_rfl)) (fun _ _ _ h=>h) (Or.inl ⟨by rfl,?_⟩) hHeld ?_ ?_
       rotate_left
       ·intro w' _
        go_simp
        with_reducible rfl
       rotate_left
       ·exact aP
       refine pU 8 17 ?_;refine pU 9 18 ?_;refine pU 10 19 ?_;refine oU 11 4 (fun K hK=>?_);refine box_step ?hg (N:=4) ?hd (cs:=#[.string (⟨#[]⟩:ByteArray),.int .i64 0,.int .i64 0]) (t:=42) ?hr ?_;(case hd=>rfl);(case hg=>rfl);(case hr=>first|(go_simp;done)|(go_simp;rfl));intro gb313 hg w13 hbox hb;have BK313:=aM (hbox);have GW313:=aM ((by rw[hg];exact(below_size aG):w.heap.size≤gb313));have GE313:=aM ((by rw[hg];exact(below_size aG):w.heap.size≤gb313));have NB312_313:=aM ((by rw[hg];exact Nat.ne_of_lt (blk_lt (g:=gb312) (o:= .cells #[.string (⟨#[]⟩:ByteArray),.int .i64 0,.int .i64 0] 42 (0,0)) aK):gb312≠gb313));have NB313_312:=aM ((by rw[hg];exact Nat.ne_of_gt (blk_lt (g:=gb312) (o:= .cells #[.string (⟨#[]⟩:ByteArray),.int .i64 0,.int .i64 0] 42 (0,0)) aK):gb313≠gb312));replace BK312:=aM (blk_below (g:=gb312) (o:= .cells #[.string (⟨#[]⟩:ByteArray),.int .i64 0,.int .i64 0] 42 (0,0)) aK hb);replace HB:=aM (below_step aG hb);clear hb hbox hg;refine hK.out _ _ trivial (fun hHeld=>?_);clear hK K;refine nU 4 ?_;refine one_ (i:=12) (N:=none) #[true,true,true,true,true,true,true,true,true,true,true,true,true] rfl rfl (one_of HT_.out (by kernel_rfl)) (by decide) (fun K hK=>?_);have hs14:w13.cell? ⟨gb313,0,none⟩=some (.string (⟨#[]⟩:ByteArray)):=(blk_cell BK313.out 0).trans rfl;have hfs14:=blk_frozen BK313.out 0;have hns14_0:=NB312_313.out;have hms14_0:=NB313_312.out;have hs15:w13.cell? ⟨gb313,1,none⟩=some (.int .i64 0):=(blk_cell BK313.out 1).trans rfl;have hfs15:=blk_frozen BK313.out 1;have hns15_0:=NB312_313.out;have hms15_0:=NB313_312.out;have hs16:w13.cell? ⟨gb313,2,none⟩=some (.int .i64 0):=(blk_cell BK313.out 2).trans rfl;have hfs16:=blk_frozen BK313.out 2;have hns16_0:=NB312_313.out;have hms16_0:=NB313_312.out;refine skip_ (w1:=?_) (by rfl) rfl ?_ ?_
       rotate_left
       ·go_simp
        rfl
       refine hK.out _ _ trivial (fun hHeld=>?_);clear hK K;refine done_ (done_of HT_.out (by kernel_rfl)) ?_;have hnb17:=NB313_312.out;have hnc17:=NB312_313.out;have hcz18_0:w13.cell? ⟨gb313,0,none⟩=some (.string (⟨#[]⟩:ByteArray)):=(blk_cell BK313.out 0).trans rfl;have hcz18_1:w13.cell? ⟨gb313,1,none⟩=some (.int .i64 0):=(blk_cell BK313.out 1).trans rfl;have hcz18_2:w13.cell? ⟨gb313,2,none⟩=some (.int .i64 0):=(blk_cell BK313.out 2).trans rfl;have hfz18_0:=blk_frozen BK313.out 0;have hfz18_1:=blk_frozen BK313.out 1;have hfz18_2:=blk_frozen BK313.out 2
       try go_wp2_with (first|((with_reducible refine gate_callee (f:=35) rfl ?_);refine goesL_ (some 21) rfl rfl Tryz.func35 (by kernel_rfl) rfl #[.agg #[.string (a0.extract 0 1),.int .i64 (wrap64 ((wrap64 (bt a0 3))-48)),.int .i64 (wrap64 ((wrap64 (bt a0 1))-48))]] rfl aA ?_;(with_reducible refine(impl_FormatRelation.calls (a0.extract 0 1) (wrap64 ((wrap64 (bt a0 3))-48)) (wrap64 ((wrap64 (bt a0 1))-48)) t314 _ A9.out (hp_.on aG)).mono ?_);rintro e w19 ⟨rfl,hb⟩;refine⟨_,rfl,?_⟩;replace BK312:=aM (blk_below (g:=gb312) (o:= .cells #[.string (⟨#[]⟩:ByteArray),.int .i64 0,.int .i64 0] 42 (0,0)) (by(with_reducible repeat refine pB ?_);refine blk_far ?_ NB312_313.out _;(with_reducible repeat refine pB ?_);refine blk_far ?_ NB312_313.out _;(with_reducible repeat refine pB ?_);refine blk_far ?_ NB312_313.out _;(with_reducible repeat refine pB ?_);exact BK312.out) hb);replace BK313:=aM (blk_below (g:=gb313) (o:= .cells #[.string (a0.extract 0 1),.int .i64 (wrap64 ((wrap64 (bt a0 3))-48)),.int .i64 (wrap64 ((wrap64 (bt a0 1))-48))] 42 (0,0)) (by(with_reducible repeat refine pB ?_);refine blk_put (cs:=#[.string (a0.extract 0 1),.int .i64 (wrap64 ((wrap64 (bt a0 3))-48)),.int .i64 0]) ?_ 2 _ rfl;(with_reducible repeat refine pB ?_);refine blk_put (cs:=#[.string (a0.extract 0 1),.int .i64 0,.int .i64 0]) ?_ 1 _ rfl;(with_reducible repeat refine pB ?_);refine blk_put (cs:=#[.string (⟨#[]⟩:ByteArray),.int .i64 0,.int .i64 0]) ?_ 0 _ rfl;(with_reducible repeat refine pB ?_);exact BK313.out) hb);replace HB:=aM (below_step aG hb);(try clear hb);(try clear hb2);(try clear hk);(try clear hi);have hcz20_0:w19.cell? ⟨gb313,0,none⟩=some (.string (a0.extract 0 1)):=(blk_cell BK313.out 0).trans rfl;have hcz20_1:w19.cell? ⟨gb313,1,none⟩=some (.int .i64 (wrap64 ((wrap64 (bt a0 3))-48))):=(blk_cell BK313.out 1).trans rfl;have hcz20_2:w19.cell? ⟨gb313,2,none⟩=some (.int .i64 (wrap64 ((wrap64 (bt a0 1))-48))):=(blk_cell BK313.out 2).trans rfl;have hfz20_0:=blk_frozen BK313.out 0;have hfz20_1:=blk_frozen BK313.out 1;have hfz20_2:=blk_frozen BK313.out 2;have hcz21_0:w19.cell? ⟨gb312,0,none⟩=some (.string (⟨#[]⟩:ByteArray)):=(blk_cell BK312.out 0).trans rfl;have hcz21_1:w19.cell? ⟨gb312,1,none⟩=some (.int .i64 0):=(blk_cell BK312.out 1).trans rfl;have hcz21_2:w19.cell? ⟨gb312,2,none⟩=some (.int .i64 0):=(blk_cell BK312.out 2).trans rfl;have hfz21_0:=blk_frozen BK312.out 0;have hfz21_1:=blk_frozen BK312.out 1;have hfz21_2:=blk_frozen BK312.out 2))
       refine bodyPost_ret (results_ct rfl _ _ gb312 42 #[.string (a0.extract 0 1),.int .i64 (wrap64 ((wrap64 (bt a0 3))-48)),.int .i64 (wrap64 ((wrap64 (bt a0 1))-48))] (0,0) _ rfl (by(with_reducible repeat refine pB ?_);refine blk_put (cs:=#[.string (a0.extract 0 1),.int .i64 (wrap64 ((wrap64 (bt a0 3))-48)),.int .i64 0]) ?_ 2 _ rfl;(with_reducible repeat refine pB ?_);refine blk_put (cs:=#[.string (a0.extract 0 1),.int .i64 0,.int .i64 0]) ?_ 1 _ rfl;(with_reducible repeat refine pB ?_);refine blk_put (cs:=#[.string (⟨#[]⟩:ByteArray),.int .i64 0,.int .i64 0]) ?_ 0 _ rfl;(with_reducible repeat refine pB ?_);exact BK312.out) Tryz.underlying42 rfl (by kernel_rfl)) rfl ?_;exact⟨aE,aG⟩
      ·rw[if_neg c10] at H;have c10b0:(t314.toList==a0.toList)=false:=beq_eq_false_iff_ne.mpr c10;have c10b1:(t314.toList !=a0.toList)=true:=bne_iff_ne.mpr c10;simp only[Option.some.injEq,Prod.mk.injEq] at H;obtain⟨rfl,rfl,rfl,rfl⟩:=H
       go_enter Tryz.func24,Tryz.ntmps24
       try go_wp2_with (first|((with_reducible refine gate_dst (N:=2) rfl ?_);refine bE 2 (cs:=#[.string (⟨#[]⟩:ByteArray),.int .i64 0,.int .i64 0]) (t:=42) ?_;intro gb312 hg w22 hbox hb;have BK312:=aM (hbox);have GW312:=aM ((by rw[hg];exact(below_size aB):w.heap.size≤gb312));have GE312:=aM ((by rw[hg];exact(below_size aB):w.heap.size≤gb312));replace HB:=aM (below_step aB hb);clear hb hbox hg))
       replace BK312:=aM (blk_drew BK312.out);replace HB:=aM (below_drew1 HB.out);have p6:0≤(3:Int):=(by omega);have q6:3<a0.size:=(by have:(3:Int)<(a0.size:Int):=aD;omega);have hx6: ∀h:3<a0.size,((a0[3]'h).toNat:Int)=bt a0 3:=bt_at a0 3;clear p6;have qi6:(3<(a0.size:Int))=True:=eq_true (aD);replace q6:=eq_true q6;have p8:0≤(1:Int):=(by omega);have q8:1<a0.size:=(by have:(1:Int)<(a0.size:Int):=aD;omega);have hx8: ∀h:1<a0.size,((a0[1]'h).toNat:Int)=bt a0 1:=bt_at a0 1;clear p8;have qi8:(1<(a0.size:Int))=True:=eq_true (aD);replace q8:=eq_true q8;refine start_ (n:=13) (S:=fun w'=>True) (ds:= []) #[false,false,false,false,false,false,false,false,false,false,false,false,false] (by kernel_rfl) rfl rfl trivial (fun hHeld=>?_);refine with_tabW impl_ParseRelation.tab3 impl_ParseRelation.bits3 (fun HT_ HW_=>?_);generalize w22.drew=w23 at BK312 HB hHeld ⊢;refine pU 0 9 ?_;refine pU 1 10 ?_;refine pU 2 11 ?_;refine pU 6 15 ?_;refine take_ (i:=3) (N:=some 12) (v:=?_) (a':=?_) #[true,true,true,true,false,false,true,false,false,false,false,false,false] rfl rfl (take_ofW HT_.out HW_.out (by kernel_rfl)) (fun _ _ _ h=>h) (Or.inl ⟨by rfl,?_⟩) hHeld ?_ ?_
       rotate_left
       ·intro w' _
        go_simp
        with_reducible rfl
       rotate_left
       ·exact aP
       refine pU 4 13 ?_;refine pU 5 14 ?_;refine take_ (i:=7) (N:=some 16) (v:=?_) (a':=?_) #[true,true,true,true,true,true,true,true,false,false,false,false,false] rfl rfl (take_ofW HT_.out HW_.out (by kernel_rfl)) (fun _ _ _ h=>h) (Or.inl ⟨by rfl,?_⟩) hHeld ?_ ?_
       rotate_left
       ·intro w' _
        go_simp
        with_reducible rfl
       rotate_left
       ·exact aP
       refine pU 8 17 ?_;refine pU 9 18 ?_;refine pU 10 19 ?_;refine oU 11 4 (fun K hK=>?_);refine box_step ?hg (N:=4) ?hd (cs:=#[.string (⟨#[]⟩:ByteArray),.int .i64 0,.int .i64 0]) (t:=42) ?hr ?_;(case hd=>rfl);(case hg=>rfl);(case hr=>first|(go_simp;done)|(go_simp;rfl));intro gb313 hg w24 hbox hb;have BK313:=aM (hbox);have GW313:=aM ((by rw[hg];exact(below_size aG):w.heap.size≤gb313));have GE313:=aM ((by rw[hg];exact(below_size aG):w.heap.size≤gb313));have NB312_313:=aM ((by rw[hg];exact Nat.ne_of_lt (blk_lt (g:=gb312) (o:= .cells #[.string (⟨#[]⟩:ByteArray),.int .i64 0,.int .i64 0] 42 (0,0)) aK):gb312≠gb313));have NB313_312:=aM ((by rw[hg];exact Nat.ne_of_gt (blk_lt (g:=gb312) (o:= .cells #[.string (⟨#[]⟩:ByteArray),.int .i64 0,.int .i64 0] 42 (0,0)) aK):gb313≠gb312));replace BK312:=aM (blk_below (g:=gb312) (o:= .cells #[.string (⟨#[]⟩:ByteArray),.int .i64 0,.int .i64 0] 42 (0,0)) aK hb);replace HB:=aM (below_step aG hb);clear hb hbox hg;refine hK.out _ _ trivial (fun hHeld=>?_);clear hK K;refine nU 4 ?_;refine one_ (i:=12) (N:=none) #[true,true,true,true,true,true,true,true,true,true,true,true,true] rfl rfl (one_of HT_.out (by kernel_rfl)) (by decide) (fun K hK=>?_);have hs25:w24.cell? ⟨gb313,0,none⟩=some (.string (⟨#[]⟩:ByteArray)):=(blk_cell BK313.out 0).trans rfl;have hfs25:=blk_frozen BK313.out 0;have hns25_0:=NB312_313.out;have hms25_0:=NB313_312.out;have hs26:w24.cell? ⟨gb313,1,none⟩=some (.int .i64 0):=(blk_cell BK313.out 1).trans rfl;have hfs26:=blk_frozen BK313.out 1;have hns26_0:=NB312_313.out;have hms26_0:=NB313_312.out;have hs27:w24.cell? ⟨gb313,2,none⟩=some (.int .i64 0):=(blk_cell BK313.out 2).trans rfl;have hfs27:=blk_frozen BK313.out 2;have hns27_0:=NB312_313.out;have hms27_0:=NB313_312.out;refine skip_ (w1:=?_) (by rfl) rfl ?_ ?_
       rotate_left
       ·go_simp
        rfl
       refine hK.out _ _ trivial (fun hHeld=>?_);clear hK K;refine done_ (done_of HT_.out (by kernel_rfl)) ?_;have hnb28:=NB313_312.out;have hnc28:=NB312_313.out;have hcz29_0:w24.cell? ⟨gb313,0,none⟩=some (.string (⟨#[]⟩:ByteArray)):=(blk_cell BK313.out 0).trans rfl;have hcz29_1:w24.cell? ⟨gb313,1,none⟩=some (.int .i64 0):=(blk_cell BK313.out 1).trans rfl;have hcz29_2:w24.cell? ⟨gb313,2,none⟩=some (.int .i64 0):=(blk_cell BK313.out 2).trans rfl;have hfz29_0:=blk_frozen BK313.out 0;have hfz29_1:=blk_frozen BK313.out 1;have hfz29_2:=blk_frozen BK313.out 2
       try go_wp2_with (first|((with_reducible refine gate_callee (f:=35) rfl ?_);refine goesL_ (some 21) rfl rfl Tryz.func35 (by kernel_rfl) rfl #[.agg #[.string (a0.extract 0 1),.int .i64 (wrap64 ((wrap64 (bt a0 3))-48)),.int .i64 (wrap64 ((wrap64 (bt a0 1))-48))]] rfl aA ?_;(with_reducible refine(impl_FormatRelation.calls (a0.extract 0 1) (wrap64 ((wrap64 (bt a0 3))-48)) (wrap64 ((wrap64 (bt a0 1))-48)) t314 _ A9.out (hp_.on aG)).mono ?_);rintro e w30 ⟨rfl,hb⟩;refine⟨_,rfl,?_⟩;replace BK312:=aM (blk_below (g:=gb312) (o:= .cells #[.string (⟨#[]⟩:ByteArray),.int .i64 0,.int .i64 0] 42 (0,0)) (by(with_reducible repeat refine pB ?_);refine blk_far ?_ NB312_313.out _;(with_reducible repeat refine pB ?_);refine blk_far ?_ NB312_313.out _;(with_reducible repeat refine pB ?_);refine blk_far ?_ NB312_313.out _;(with_reducible repeat refine pB ?_);exact BK312.out) hb);replace BK313:=aM (blk_below (g:=gb313) (o:= .cells #[.string (a0.extract 0 1),.int .i64 (wrap64 ((wrap64 (bt a0 3))-48)),.int .i64 (wrap64 ((wrap64 (bt a0 1))-48))] 42 (0,0)) (by(with_reducible repeat refine pB ?_);refine blk_put (cs:=#[.string (a0.extract 0 1),.int .i64 (wrap64 ((wrap64 (bt a0 3))-48)),.int .i64 0]) ?_ 2 _ rfl;(with_reducible repeat refine pB ?_);refine blk_put (cs:=#[.string (a0.extract 0 1),.int .i64 0,.int .i64 0]) ?_ 1 _ rfl;(with_reducible repeat refine pB ?_);refine blk_put (cs:=#[.string (⟨#[]⟩:ByteArray),.int .i64 0,.int .i64 0]) ?_ 0 _ rfl;(with_reducible repeat refine pB ?_);exact BK313.out) hb);replace HB:=aM (below_step aG hb);(try clear hb);(try clear hb2);(try clear hk);(try clear hi);have hcz31_0:w30.cell? ⟨gb312,0,none⟩=some (.string (⟨#[]⟩:ByteArray)):=(blk_cell BK312.out 0).trans rfl;have hcz31_1:w30.cell? ⟨gb312,1,none⟩=some (.int .i64 0):=(blk_cell BK312.out 1).trans rfl;have hcz31_2:w30.cell? ⟨gb312,2,none⟩=some (.int .i64 0):=(blk_cell BK312.out 2).trans rfl;have hfz31_0:=blk_frozen BK312.out 0;have hfz31_1:=blk_frozen BK312.out 1;have hfz31_2:=blk_frozen BK312.out 2))
       refine bodyPost_ret (results_ct rfl _ _ gb312 42 #[.string (⟨#[]⟩:ByteArray),.int .i64 0,.int .i64 0] (0,0) _ rfl (by(with_reducible repeat refine pB ?_);refine blk_put (cs:=#[.string (⟨#[]⟩:ByteArray),.int .i64 0,.int .i64 0]) ?_ 2 _ rfl;(with_reducible repeat refine pB ?_);refine blk_put (cs:=#[.string (⟨#[]⟩:ByteArray),.int .i64 0,.int .i64 0]) ?_ 1 _ rfl;(with_reducible repeat refine pB ?_);refine blk_put (cs:=#[.string (⟨#[]⟩:ByteArray),.int .i64 0,.int .i64 0]) ?_ 0 _ rfl;(with_reducible repeat refine pB ?_);exact BK312.out) Tryz.underlying42 rfl (by kernel_rfl)) rfl ?_;exact⟨aE,aG⟩
     ·rw[if_neg c7] at H;exact absurd H (by simp)
    ·rw[if_neg c5] at H;exact absurd H (by simp)
   ·rw[if_neg c4] at H;exact absurd H (by simp)
  ·rw[if_neg c3] at H;exact absurd H (by simp)
 ·rw[if_neg c2] at H;have c2b0:((a0.size:Int)==4)=false:=beq_eq_false_iff_ne.mpr c2;have c2b1:((a0.size:Int) !=4)=true:=bne_iff_ne.mpr c2;simp only[Option.some.injEq,Prod.mk.injEq] at H;obtain⟨rfl,rfl,rfl,rfl⟩:=H
  go_enter Tryz.func24,Tryz.ntmps24
  go_wp2_with (first|((with_reducible refine gate_dst (N:=2) rfl ?_);refine bE 2 (cs:=#[.string (⟨#[]⟩:ByteArray),.int .i64 0,.int .i64 0]) (t:=42) ?_;intro gb312 hg w32 hbox hb;have BK312:=aM (hbox);have GW312:=aM ((by rw[hg];exact(below_size aB):w.heap.size≤gb312));have GE312:=aM ((by rw[hg];exact(below_size aB):w.heap.size≤gb312));replace HB:=aM (below_step aB hb);clear hb hbox hg;have hcz33_0:w32.cell? ⟨gb312,0,none⟩=some (.string (⟨#[]⟩:ByteArray)):=(blk_cell BK312.out 0).trans rfl;have hcz33_1:w32.cell? ⟨gb312,1,none⟩=some (.int .i64 0):=(blk_cell BK312.out 1).trans rfl;have hcz33_2:w32.cell? ⟨gb312,2,none⟩=some (.int .i64 0):=(blk_cell BK312.out 2).trans rfl;have hfz33_0:=blk_frozen BK312.out 0;have hfz33_1:=blk_frozen BK312.out 1;have hfz33_2:=blk_frozen BK312.out 2))
  refine bodyPost_ret (results_ct rfl _ _ gb312 42 #[.string (⟨#[]⟩:ByteArray),.int .i64 0,.int .i64 0] (0,0) _ rfl (by(with_reducible repeat refine pB ?_);refine blk_put (cs:=#[.string (⟨#[]⟩:ByteArray),.int .i64 0,.int .i64 0]) ?_ 2 _ rfl;(with_reducible repeat refine pB ?_);refine blk_put (cs:=#[.string (⟨#[]⟩:ByteArray),.int .i64 0,.int .i64 0]) ?_ 1 _ rfl;(with_reducible repeat refine pB ?_);refine blk_put (cs:=#[.string (⟨#[]⟩:ByteArray),.int .i64 0,.int .i64 0]) ?_ 0 _ rfl;(with_reducible repeat refine pB ?_);exact BK312.out) Tryz.underlying42 rfl (by kernel_rfl)) rfl ?_;exact⟨aE,aG⟩

-- NOT PRINTED: function 89 (impl_Relation_89)

/-! ### impl_RelationIndex: function 58 -/
section
open Base
def nameIs (nm:ByteArray) (x:S42):Bool:=x.f0.toList==nm.toList
set_option maxHeartbeats 8000000 in
theorem nameIs_calls (nm:ByteArray) (b:Nat) (x:S42) (w:World) (hb:w.cell? ⟨b,0,none⟩=some (.string nm)):
  Calls Tryz.prog 90 #[.agg #[.string x.f0,.int .i64 x.f1,.int .i64 x.f2],.pointer (some ⟨b,0,none⟩)] w fun e w'=>e= .returned (.bool (nameIs nm x))∧Below w.heap.size w w':=by
 have hlt:=World.block_lt_of_cell? w _ hb;have hb1: ∀o,(w.alloc o).cell? ⟨b,0,none⟩=some (.string nm):=fun o=>(World.cell?_alloc_lt _ _ _ hlt).trans hb
 go_enter Tryz.func90,Tryz.ntmps90
 go_wp2
 go_ret
 exact⟨rfl,(Below.refl _ _).alloc (Nat.le_refl _) _⟩
set_option maxHeartbeats 8000000 in
set_option maxRecDepth 100000 in
theorem nameIdx_calls (nm:ByteArray) (b:Nat) (A0:Option Addr) (c0:Nat) (l:List S42) (w:World) (hr:Kd.C k42 w A0 l.length l) (hb:w.cell? ⟨b,0,none⟩=some (.string nm)):
  Calls Tryz.prog 89 #[.slice A0 l.length c0,.func (.func 90) #[] #[.pointer (some ⟨b,0,none⟩)]] w fun e w'=>e= .returned (.int .i64 (idxW (nameIs nm) l 0))∧Below w.heap.size w w':=by
 have hl:l.length≤9223372036854775807:=hr.2.1;have hlt:=World.block_lt_of_cell? w _ hb;have HR:=aM hr;have HN:=aM hb;clear hr hb
 go_enter Tryz.func89,Tryz.ntmps89
 go_wp2
 go_loopg [5,8] l.length (fun gg _ s8 wr=> ∃kk:Nat,kk≤l.length∧l.length-kk≤gg∧s8= .int .i64 kk∧Aside0 (Below w.heap.size w wr)∧Aside0 (∀j,j<kk→nameIs nm (l.getD j z42)=false))
 case atStart=>exact⟨0,Nat.zero_le _,by omega,rfl,⟨Below.refl _ _⟩,⟨fun j hj=>absurd hj (Nat.not_lt_zero _)⟩⟩
 case round=>
  obtain⟨kk,hkk,hg,rfl,BW,HA⟩:=hrel
  by_cases hltk:kk<l.length
  ·have hltz:(kk:Int)<(l.length:Int):=by omega
   obtain⟨ad,e,h0,h1,h2⟩:=at_T42 (Kd.C_below HR.out BW.out) (kk:Int) (by omega) hltz;rw[Int.toNat_natCast] at h0 h1 h2
   cases e
   have hcell:wr.cell? ⟨b,0,none⟩=some (.string nm):=pw_cell_below BW.out HN.out;have hcall:=nameIs_calls nm b (rd_T42 l (kk:Int)) wr hcell;have HC:=aM hcell;clear hcell;have hrd:rd_T42 l (kk:Int)=l.getD kk z42:=by unfold rd_T42;rw[Int.toNat_natCast]
   cases hq:nameIs nm (rd_T42 l (kk:Int)) with
   |true=>
    rw[hq] at hcall;have HQ:=aM hq;have HRD:=aM hrd;clear hq hrd
    go_wp2_with (go_at_call 90;refine hcall.mono ?_;rintro e w' ⟨rfl,hb'⟩)
    go_ret
    refine⟨?_,below_then BW.out BW.out.size hb'⟩;rw[idxW_hit (nameIs nm) z42 l kk 0 hltk HA.out (by rw[←HRD.out];exact HQ.out)];simp
   |false=>
    rw[hq] at hcall;have HQ:=aM hq;have HRD:=aM hrd;clear hq hrd
    go_wp2_with (go_at_call 90;refine hcall.mono ?_;rintro e w' ⟨rfl,hb'⟩)
    go_roundg (l.length-(kk+1))
    case measure=>omega
    case rel=>
     refine⟨kk+1,by omega,by omega,by go_num,⟨below_then BW.out BW.out.size hb'⟩,⟨fun j hj=>?_⟩⟩
     by_cases e:j=kk
     ·subst e;rw[←HRD.out];exact HQ.out
     ·exact HA.out j (by omega)
  ·have hltz: ¬(kk:Int)<(l.length:Int):=by omega
   have hd:decide (kk<l.length)=false:=decide_eq_false hltk;have HK:=aM (show l.length≤kk by omega);clear hltk hltz
   go_wp2
   go_ret
   refine⟨?_,BW.out⟩;have HA:=fun j (hj:j<l.length)=>HA.out j (Nat.lt_of_lt_of_le hj HK.out);rw[idxW_miss (nameIs nm) z42 l 0 HA];rfl
def impl_RelationIndex.f (l0:List S42) (a1:ByteArray):Option Int:=some (idxW (nameIs a1) l0 0)
set_option maxHeartbeats 8000000 in
set_option maxRecDepth 100000 in
theorem impl_RelationIndex.calls (A0:Option Addr) (c0:Nat) (l0:List S42) (a1:ByteArray) (r:Int) (w:World) (hr0:Kd.C k42 w A0 l0.length l0) (hc0:l0.length≤c0) (h:impl_RelationIndex.f l0 a1=some r):
  Calls Tryz.prog 58 #[.slice A0 l0.length c0,.string a1] w fun e w'=>e= .returned (.int .i64 r)∧Below w.heap.size w w':=by
 obtain rfl:=Option.some.inj h;have hb:(w.alloc (.cells #[.string a1] 9)).cell? ⟨w.heap.size,0,none⟩=some (.string a1):=(blk_cell (heap_alloc_new w _) 0).trans rfl;have hcall:=fun c=>nameIdx_calls a1 w.heap.size A0 c l0 _ (Kd.C_below hr0 ((Below.refl _ _).alloc (Nat.le_refl _) (.cells #[.string a1] 9))) hb;have HC:=aM hcall;clear hcall hb hr0 h
 go_enter Tryz.func58,Tryz.ntmps58
 go_wp2_with (go_at_call 89;refine(HC.out _).mono ?_;rintro e w' ⟨rfl,hb'⟩)
 go_ret
 exact⟨rfl,below_then ((Below.refl _ _).alloc (Nat.le_refl _) _) (by simp) hb'⟩
end


end Go.Proofs.YtckpikfbhlhhjaaGreatDoor.PFnDatabaseFormat
namespace Go.Proofs.YtckpikfbhlhhjaaGreatDoor.PFnDatabaseFormat
open Go.RowKit Go.Proofs.YtckpikfbhlhhjaaGreatDoorW.PrintWords Go.Proofs.YtckpikfbhlhhjaaGreatDoorW.PrintLast Go.Proofs.YtckpikfbhlhhjaaGreatDoorW.PrintMore
attribute [local go_sem] max2_int min2_int max_two min_two max_three min_three max_four min_four
set_option linter.unusedVariables false
set_option linter.unusedSimpArgs false

/-! ### impl_ParseFact: function 25 -/
def impl_ParseFact.l0:Nat→List (S42)→ByteArray→Int→Int→List Int→Option (Int×List Int×Bool)
 |0,_,_,_,_,_=>none
 |k+1,x0,x1,x7,x318000,x318001=>if x7<(x1.size:Int) then(if 0≤x7 then(if(bt x1 x7)=124 then(impl_ParseFact.l0 k x0 x1 (wrap64 (x7+1)) x318000 x318001) else(if x318001.length<17592186044416 then(impl_ParseFact.l0 k x0 x1 (wrap64 (x7+1)) x318000 (x318001++ [wrap64 ((wrap64 (bt x1 x7))-48)])) else(none))) else(none)) else((impl_FormatFact.f k x0 x318000 x318001).bind fun t321=>(if t321.toList=x1.toList then(some (x318000,x318001,true)) else(some (0,([] :List Int),false))))
def impl_ParseFact.f (k:Nat) (l0:List (S42)) (a1:ByteArray):Option (Int×List Int×Bool):=if a1.toList=([] :List UInt8) then(some (0,([] :List Int),false)) else(if 0≤1 then(if 1≤(a1.size:Int) then((impl_RelationIndex.f l0 (a1.extract 0 1)).bind fun t316=>(impl_ParseFact.l0 k l0 a1 1 t316 ([] :List Int))) else(none)) else(none))
def impl_ParseFact.T8:Bool×List (List Nat×List Nat):=(true,[([],[]),([0],[0]),([],[]),([],[]),([2,3],[2,3]),([4],[4]),([5],[5]),([6],[6]),([1,7],[1,7]),([0,1,2,3,4,5,6,7,8],[]),([9,8,8,0,1,2,3,4,5,6,7,8],[8,9])])
def impl_ParseFact.B8:List Nat:= [0,1,0,0,12,28,60,124,255,511,1023]
theorem impl_ParseFact.tab8:rtab .any (opsOf Tryz.f25 8)=impl_ParseFact.T8:=by kernel_rfl
theorem impl_ParseFact.bits8:waitsOk impl_ParseFact.T8.2 impl_ParseFact.B8=true:=by kernel_rfl
set_option maxHeartbeats 8000000 in
set_option maxRecDepth 100000 in
theorem impl_ParseFact.calls (k:Nat) (A0:Option Addr) (c0:Nat) (l0:List (S42)) (a1:ByteArray) (r1:Int) (r2:List Int) (r3:Bool) (w:World) (hr0:Kd.C k42 w A0 l0.length l0) (hc0:l0.length≤c0) (h:impl_ParseFact.f k l0 a1=some (r1,r2,r3)) (hp_:Go.Proofs.YtckpikfbhlhhjaaGreatDoor.Shelf.Pow w):
  Calls Tryz.prog 25 #[.slice A0 l0.length c0,.string a1] w fun e w'=> ∃v1_:Value,e= .returned (.tuple #[.agg #[.int .i64 r1,v1_],.bool r3])∧Kd.R (Kd.int .i64) 3 w' w.heap.size (fun _=>True) v1_ r2∧Below w.heap.size w w':=by
 have hu47:=Tryz.underlying47;have HR0:=aM hr0;have HC0:=aM hc0;clear hr0 hc0;have HB:=aM (Below.refl w.heap.size w);have H:(if a1.toList=([] :List UInt8) then(some (0,([] :List Int),false)) else(if 0≤1 then(if 1≤(a1.size:Int) then((impl_RelationIndex.f l0 (a1.extract 0 1)).bind fun t316=>(impl_ParseFact.l0 k l0 a1 1 t316 ([] :List Int))) else(none)) else(none)))=some (r1,r2,r3):=h;clear h
 by_cases c3:a1.toList=([] :List UInt8)
 ·rw[if_pos c3] at H;have c3b0:(a1.toList==([] :List UInt8))=true:=beq_iff_eq.mpr c3;have c3b1:(a1.toList !=([] :List UInt8))=false:=bne_eq_false_iff_eq.mpr c3;clear c3;simp only[Option.some.injEq,Prod.mk.injEq] at H;obtain⟨rfl,rfl,rfl⟩:=H
  go_enter Tryz.func25,Tryz.ntmps25
  go_wp2_with (first|((with_reducible refine gate_dst (N:=4) rfl ?_);refine bE 4 (cs:=#[.int .i64 0,.slice none 0 0]) (t:=47) ?_;intro gb315 hg w4 hbox hb;have BK315:=aM (hbox);have GW315:=aM ((by rw[hg];exact(below_size aB):w.heap.size≤gb315));have GE315:=aM ((by rw[hg];exact(below_size aB):w.heap.size≤gb315));replace HB:=aM (below_step aB hb);clear hb hbox hg;have hcz5_0:w4.cell? ⟨gb315,0,none⟩=some (.int .i64 0):=(blk_cell BK315.out 0).trans rfl;have hcz5_1:w4.cell? ⟨gb315,1,none⟩=some (.slice none 0 0):=(blk_cell BK315.out 1).trans rfl;have hfz5_0:=blk_frozen BK315.out 0;have hfz5_1:=blk_frozen BK315.out 1))
  refine bodyPost_ret (results_ct rfl _ _ gb315 47 #[.int .i64 0,.slice none 0 0] (0,0) _ rfl (bP2 BK315.out) Tryz.underlying47 rfl (by kernel_rfl)) rfl ?_;exact⟨_,aE,by first|exact Kd.R_nil _ _ _ _ _|exact Kd.N_nil _ _ _ _ _|exact Kd.V_nil _ _ _ _ _|exact Kd.Q_nil _ _ _ _ _|exact Kd.S_nil _ _ _ _ _,aG⟩
 ·rw[if_neg c3] at H;have c3b0:(a1.toList==([] :List UInt8))=false:=beq_eq_false_iff_ne.mpr c3;have c3b1:(a1.toList !=([] :List UInt8))=true:=bne_iff_ne.mpr c3
  by_cases c6:0≤1
  ·rw[if_pos c6] at H;have c6b0:=eq_true c6;have c6b1:decide (0≤1)=true:=decide_eq_true c6;clear c6
   by_cases c7:1≤(a1.size:Int)
   ·rw[if_pos c7] at H;have c7b0:=eq_true c7;have c7b1:decide (1≤(a1.size:Int))=true:=decide_eq_true c7;clear c7;replace H:=bM H;obtain⟨t316,A80,H⟩:=H;have A8:=aM A80;clear A80;have H':=aM H;clear H
    go_enter Tryz.func25,Tryz.ntmps25
    go_wp2_with (first|((with_reducible refine gate_dst (N:=4) rfl ?_);refine bE 4 (cs:=#[.int .i64 0,.slice none 0 0]) (t:=47) ?_;intro gb315 hg w9 hbox hb;have BK315:=aM (hbox);have GW315:=aM ((by rw[hg];exact(below_size aB):w.heap.size≤gb315));have GE315:=aM ((by rw[hg];exact(below_size aB):w.heap.size≤gb315));replace HB:=aM (below_step aB hb);clear hb hbox hg)|((with_reducible refine gate_callee (f:=58) rfl ?_);refine goesL_ (some 14) rfl rfl Tryz.func58 (by kernel_rfl) rfl #[.slice A0 l0.length c0,.string (a1.extract 0 1)] rfl aA ?_;(with_reducible refine(impl_RelationIndex.calls _ _ l0 (a1.extract 0 1) t316 _ ?side1 ?side2 A8.out).mono ?_);(case side1=>exact aC);(case side2=>exact HC0.out);rintro e w10 ⟨rfl,hb⟩;refine⟨_,rfl,?_⟩;replace BK315:=aM (kB gb315 #[.int .i64 0,.slice none 0 0] 47 hb);replace HB:=aM (below_step aG hb);(try clear hb);(try clear hb2);(try clear hk);(try clear hi))|((with_reducible refine gate_dst (N:=6) rfl ?_);refine bE 6 (cs:=#[.int .i64 0,.slice none 0 0]) (t:=47) ?_;intro gb317 hg w11 hbox hb;have BK317:=aM (hbox);have GW317:=aM ((by rw[hg];exact(below_size aG):w.heap.size≤gb317));have GE317:=aM ((by rw[hg];exact(below_size aG):w.heap.size≤gb317));have NB315_317:=aM ((by rw[hg];exact Nat.ne_of_lt (blk_lt (g:=gb315) aK):gb315≠gb317));have NB317_315:=aM ((by rw[hg];exact Nat.ne_of_gt (blk_lt (g:=gb315) aK):gb317≠gb315));replace BK315:=aM (kB gb315 #[.int .i64 0,.slice none 0 0] 47 hb);replace HB:=aM (below_step aG hb);clear hb hbox hg;have hnb12:=NB317_315.out;have hnc12:=NB315_317.out;have hcz13_0:w11.cell? ⟨gb317,0,none⟩=some (.int .i64 0):=(blk_cell BK317.out 0).trans rfl;have hcz13_1:w11.cell? ⟨gb317,1,none⟩=some (.slice none 0 0):=(blk_cell BK317.out 1).trans rfl;have hfz13_0:=blk_frozen BK317.out 0;have hfz13_1:=blk_frozen BK317.out 1))
    go_loopg [7] k (fun kq v7 w'=> ∃(x7_1:Int) (x318001_1:List Int) (u318001:Value),v7= .int .i64 x7_1∧Aside0 (impl_ParseFact.l0 kq l0 a1 x7_1 t316 x318001_1=some (r1,r2,r3))∧Aside0 (kq≤k)∧Aside0 (Kd.R (Kd.int .i64) 3 w' w.heap.size (fun _=>True) u318001 x318001_1)∧Aside0 (w'.heap[gb315]? =some (.cells #[.int .i64 0,(.slice none 0 0)] 47 (0,0)))∧Aside0 (w'.heap[gb317]? =some (.cells #[.int .i64 t316,u318001] 47 (0,0)))∧Aside0 (Below w.heap.size w w'))
    case atStart=>exact⟨(1),(([] :List Int)),(.slice none 0 0),aX,H',⟨Nat.le_refl _⟩,⟨by first|exact Kd.R_nil _ _ _ _ _|exact Kd.N_nil _ _ _ _ _|exact Kd.V_nil _ _ _ _ _|exact Kd.Q_nil _ _ _ _ _|exact Kd.S_nil _ _ _ _ _⟩,⟨by(with_reducible repeat refine pB ?_);refine blk_far ?_ NB315_317.out _;(with_reducible repeat refine pB ?_);refine blk_far ?_ NB315_317.out _;(with_reducible repeat refine pB ?_);exact BK315.out⟩,⟨by(with_reducible repeat refine pB ?_);refine blk_put (cs:=#[.int .i64 t316,.slice none 0 0]) ?_ 1 _ rfl;(with_reducible repeat refine pB ?_);refine blk_put (cs:=#[.int .i64 0,.slice none 0 0]) ?_ 0 _ rfl;(with_reducible repeat refine pB ?_);exact BK317.out⟩,⟨aG⟩⟩
    case round=>
     clear H'
     try clear c1
     try clear c2
     try clear p2
     try clear c3
     try clear c3b0
     try clear c3b1
     try clear c5
     try clear c6
     try clear c6b0
     try clear c6b1
     try clear c7
     try clear c7b0
     try clear c7b1
     try clear c12
     try clear hcz13_0
     try clear hcz13_1
     try clear hcz5_0
     try clear hcz5_1
     try clear hfz13_0
     try clear hfz13_1
     try clear hfz5_0
     try clear hfz5_1
     obtain⟨x7_1,x318001_1,u318001,rfl,HA,HK1,HO_318001,BK315,BK317,HB⟩:=hrel
     cases gk with
     |zero=>exact absurd HA.out (by simp[impl_ParseFact.l0])
     |succ k1=>
      have H:=HA.out;clear HA;simp only[impl_ParseFact.l0] at H
      by_cases c14:x7_1<(a1.size:Int)
      ·rw[if_pos c14] at H;have c14b0:decide (x7_1<(a1.size:Int))=true:=decide_eq_true c14;clear c14
       by_cases c15:0≤x7_1
       ·rw[if_pos c15] at H;have c15b0:decide (0≤x7_1)=true:=decide_eq_true c15;clear c15
        by_cases c17:(bt a1 x7_1)=124
        ·rw[if_pos c17] at H;have c17b0:((bt a1 x7_1)==124)=true:=beq_iff_eq.mpr c17;have c17b1:((bt a1 x7_1) !=124)=false:=bne_eq_false_iff_eq.mpr c17;clear c17;have H':=aM H;clear H;have p16:0≤(x7_1:Int):=aD;have q16:x7_1<(a1.size:Int):=aD;have hx16:=bt_at a1 x7_1;replace p16:=eq_true p16;replace q16:=eq_true q16
         go_wp2
         go_roundg k1
         case measure=>have:=HK1.out;omega
         case rel=>exact⟨(wrap64 (x7_1+1)),(x318001_1),(u318001),aX,H',⟨by have:=HK1.out;omega⟩,⟨aR HO_318001⟩,⟨aK⟩,⟨aK⟩,⟨aG⟩⟩
        ·rw[if_neg c17] at H;have c17b0:((bt a1 x7_1)==124)=false:=beq_eq_false_iff_ne.mpr c17;have c17b1:((bt a1 x7_1) !=124)=true:=bne_iff_ne.mpr c17
         by_cases c19:x318001_1.length<17592186044416
         ·rw[if_pos c19] at H;have LMc19:=aM c19;clear c19;obtain⟨y318,hy318⟩: ∃y_:List Int,y_=(x318001_1++ [wrap64 ((wrap64 (bt a1 x7_1))-48)]):=⟨_,rfl⟩
          first|replace H:=bY hy318 H|rw[←hy318] at H
          have Ny318:=aM hy318;clear hy318;have H':=aM H;clear H;have p16:0≤(x7_1:Int):=aD;have q16:x7_1<(a1.size:Int):=aD;have hx16:=bt_at a1 x7_1;replace p16:=eq_true p16;replace q16:=eq_true q16
          try go_wp2
          replace HO_318001:=aM (Kd.R_drew HO_318001.out);replace BK315:=aM (blk_drew BK315.out);replace BK317:=aM (blk_drew BK317.out);replace HB:=aM (below_drew1 HB.out);have p18:0≤(x7_1:Int):=aD;have q18:x7_1<(a1.size:Int):=aD;have hx18:=bt_at a1 x7_1;replace p18:=eq_true p18;replace q18:=eq_true q18;refine start_ (n:=11) (S:=fun w'=>w'.cell? ⟨gb317,0,none⟩=some (.int .i64 t316)∧w'.cell? ⟨gb317,1,none⟩=some (u318001)) (ds:= [10]) #[false,false,false,false,false,false,false,false,false,false,false] (by kernel_rfl) rfl rfl ⟨(blk_cell BK317.out 0).trans rfl,(blk_cell BK317.out 1).trans rfl⟩ (fun hHeld=>?_);refine with_tabW impl_ParseFact.tab8 impl_ParseFact.bits8 (fun HT_ HW_=>?_);generalize wr.drew=w20 at HO_318001 BK315 BK317 HB hHeld ⊢;refine pU 0 26 ?_;refine pU 2 28 ?_;refine pU 3 29 ?_;refine tU2 1 27 hHeld ?_;refine tU2 4 30 hHeld ?_;refine pU 5 31 ?_;refine pU 6 32 ?_;refine oU 7 33 (fun K hK=>?_);refine value_ (w1:=?_) (v:=?_) (by rfl) rfl ?_ ?_
          rotate_left 2
          ·go_simp
           constructor
           ·rfl
           ·rfl
          refine hK.out _ _ ⟨(blk_cell (blk_alloc BK317.out _) 0).trans rfl,(blk_cell (blk_alloc BK317.out _) 1).trans rfl⟩ (fun hHeld=>?_);clear hK K;refine nU 33 ?_;refine oU 8 34 (fun K hK=>?_);refine Kd.R_append_step (Kd.int .i64) (w0:=w) w.heap.size (by rfl) (.tmp 27) (.tmp 33) 45 3 (.int .i64 0) 8 rfl Tryz.underlying45 info3 rfl (by decide) (by omega) u318001 x318001_1 (wrap64 ((wrap64 (bt a1 x7_1))-48)) [.int .i64 (wrap64 ((wrap64 (bt a1 x7_1))-48))] (fun _=>True) (fun _=>False) rfl rfl ?aP (fun _ hk=>hk.elim) ?aF ?aO ?aB ?aS ?aL ?_;(case aP=>exact rfl)
          (case aB=>exact aG)
          (case aF=>exact(fun _ _=>trivial))
          (case aO=>exact(aR HO_318001))
          (case aS=>exact(below_size aG))
          (case aL=>have:=LMc19.out;omega)
          intro v319 w21 ho hb hg hat;rw[←Ny318.out] at ho;have n0_:=aM (blk_grown (g:=gb315) aK hg (Kd.R_ne HO_318001.out BK315.out (by decide)));have n1_:=aM (blk_grown (g:=gb317) aK hg (Kd.R_ne HO_318001.out BK317.out (by decide)));have n2_:=aM (hb);have n3_:=aM (ho);clear BK315 BK317 HB HO_318001;have BK315:=n0_;have BK317:=n1_;have HB:=n2_;have HO320:=n3_;clear n0_ n1_ n2_ n3_ ho hb hg hat;obtain⟨Ao22,co22,eo22⟩:=Kd.R_slice HO320.out;(first|subst eo22|(injection eo22 with f1_ f2_ f3_;have f4_:=f1_.symm;have f5_:=f3_.symm;clear f1_ f2_ f3_;subst f4_;subst f5_))
          refine hK.out _ _ ⟨(blk_cell BK317.out 0).trans rfl,(blk_cell BK317.out 1).trans rfl⟩ (fun hHeld=>?_);clear hK K;refine nU 34 ?_;refine pU 9 35 ?_;refine last_ (i:=10) (N:=none) #[true,true,true,true,true,true,true,true,true,true,true] rfl rfl (one_of HT_.out (by kernel_rfl)) (by decide) (fun K hK=>?_);have hs23:w21.cell? ⟨gb317,1,none⟩=some (u318001):=(blk_cell BK317.out 1).trans rfl;have hfs23:=blk_frozen BK317.out 1;have hns23_0:=NB315_317.out;have hms23_0:=NB317_315.out;refine skip_ (w1:=?_) (by rfl) rfl ?_ ?_
          rotate_left
          ·go_simp
           rfl
          refine hK.out _ _ ?_;clear hK K;refine done_ (done_of HT_.out (by kernel_rfl)) ?_
          try go_wp2
          go_roundg k1
          case measure=>have:=HK1.out;omega
          case rel=>exact⟨(wrap64 (x7_1+1)),(y318),(.slice Ao22 y318.length co22),aX,H',⟨by have:=HK1.out;omega⟩,⟨by(with_reducible repeat apply pR);exact Kd.R_mono (Kd.R_far (p:=⟨gb317,1,none⟩) (Kd.R_types HO320.out BK317.out (by decide)) (fun _ hk=>hk.2) (.slice Ao22 y318.length co22)) (fun _ hk=>trivial)⟩,⟨by(with_reducible repeat refine pB ?_);refine blk_far ?_ NB315_317.out _;(with_reducible repeat refine pB ?_);exact BK315.out⟩,⟨by(with_reducible repeat refine pB ?_);refine blk_put (cs:=#[.int .i64 t316,u318001]) ?_ 1 _ rfl;(with_reducible repeat refine pB ?_);exact BK317.out⟩,⟨aG⟩⟩
         ·rw[if_neg c19] at H;exact absurd H (by simp)
       ·rw[if_neg c15] at H;exact absurd H (by simp)
      ·rw[if_neg c14] at H;have c14b0:decide (x7_1<(a1.size:Int))=false:=decide_eq_false c14;clear c14;replace H:=bM H;obtain⟨t321,A240,H⟩:=H;have A24:=aM A240;clear A240
       by_cases c25:t321.toList=a1.toList
       ·rw[if_pos c25] at H;have c25b0:(t321.toList==a1.toList)=true:=beq_iff_eq.mpr c25;have c25b1:(t321.toList !=a1.toList)=false:=bne_eq_false_iff_eq.mpr c25;clear c25;simp only[Option.some.injEq,Prod.mk.injEq] at H;obtain⟨rfl,rfl,rfl⟩:=H;have hnb26:=NB317_315.out;have hnc26:=NB315_317.out;have hcz27_0:wr.cell? ⟨gb317,0,none⟩=some (.int .i64 t316):=(blk_cell BK317.out 0).trans rfl;have hcz27_1:wr.cell? ⟨gb317,1,none⟩=some (u318001):=(blk_cell BK317.out 1).trans rfl;have hfz27_0:=blk_frozen BK317.out 0;have hfz27_1:=blk_frozen BK317.out 1;obtain⟨Ao28,co28,eo28⟩:=Kd.R_slice HO_318001.out;subst eo28
        go_wp2_with (first|((with_reducible refine gate_callee (f:=59) rfl ?_);refine goesL_ (some 38) rfl rfl Tryz.func59 (by kernel_rfl) rfl #[.slice A0 l0.length c0,.agg #[.int .i64 t316,.slice Ao28 x318001_1.length co28]] rfl aA ?_;(with_reducible refine(impl_FormatFact.calls k1 _ _ l0 t316 _ _ x318001_1 t321 _ ?side1 ?side2 ?side3 ?side4 A24.out (hp_.on aG)).mono ?_);(case side1=>exact aC);(case side2=>exact HC0.out);(case side3=>repeat(first|exact(Kd.R_reads' HO_318001.out).2.2|(with_reducible refine pC ?_)));(case side4=>exact(Kd.R_reads' HO_318001.out).2.1);rintro e w29 ⟨rfl,hb⟩;refine⟨_,rfl,?_⟩;have n0_:=aM (Kd.R_below (aR HO_318001) hb);have n1_:=aM (kB gb315 #[.int .i64 0,.slice none 0 0] 47 hb);have n2_:=aM (kB gb317 #[.int .i64 t316,.slice Ao28 x318001_1.length co28] 47 hb);have n3_:=aM (below_step aG hb);clear HO_318001;clear BK315;clear BK317;clear HB;have HO_318001:=n0_;have BK315:=n1_;have BK317:=n2_;have HB:=n3_;clear n0_ n1_ n2_ n3_;(try clear hb);(try clear hb2);(try clear hk);(try clear hi);have hcz30_0:w29.cell? ⟨gb317,0,none⟩=some (.int .i64 t316):=(blk_cell BK317.out 0).trans rfl;have hcz30_1:w29.cell? ⟨gb317,1,none⟩=some (.slice Ao28 x318001_1.length co28):=(blk_cell BK317.out 1).trans rfl;have hfz30_0:=blk_frozen BK317.out 0;have hfz30_1:=blk_frozen BK317.out 1;have hcz31_0:w29.cell? ⟨gb315,0,none⟩=some (.int .i64 0):=(blk_cell BK315.out 0).trans rfl;have hcz31_1:w29.cell? ⟨gb315,1,none⟩=some (.slice none 0 0):=(blk_cell BK315.out 1).trans rfl;have hfz31_0:=blk_frozen BK315.out 0;have hfz31_1:=blk_frozen BK315.out 1))
        refine bodyPost_ret (results_ct rfl _ _ gb315 47 #[.int .i64 t316,.slice Ao28 x318001_1.length co28] (0,0) _ rfl (bP2 BK315.out) Tryz.underlying47 rfl (by kernel_rfl)) rfl ?_;exact⟨_,aE,by(with_reducible repeat apply pR);exact Kd.R_mono (Kd.R_far (p:=⟨gb315,1,none⟩) (Kd.R_far (p:=⟨gb315,0,none⟩) (Kd.R_types HO_318001.out BK315.out (by decide)) (fun _ hk=>hk.2) (.int .i64 t316)) (fun _ hk=>hk.2) (.slice Ao28 x318001_1.length co28)) (fun _ hk=>trivial),aG⟩
       ·rw[if_neg c25] at H;have c25b0:(t321.toList==a1.toList)=false:=beq_eq_false_iff_ne.mpr c25;have c25b1:(t321.toList !=a1.toList)=true:=bne_iff_ne.mpr c25;simp only[Option.some.injEq,Prod.mk.injEq] at H;obtain⟨rfl,rfl,rfl⟩:=H;have hnb32:=NB317_315.out;have hnc32:=NB315_317.out;have hcz33_0:wr.cell? ⟨gb317,0,none⟩=some (.int .i64 t316):=(blk_cell BK317.out 0).trans rfl;have hcz33_1:wr.cell? ⟨gb317,1,none⟩=some (u318001):=(blk_cell BK317.out 1).trans rfl;have hfz33_0:=blk_frozen BK317.out 0;have hfz33_1:=blk_frozen BK317.out 1;obtain⟨Ao34,co34,eo34⟩:=Kd.R_slice HO_318001.out;subst eo34
        go_wp2_with (first|((with_reducible refine gate_callee (f:=59) rfl ?_);refine goesL_ (some 38) rfl rfl Tryz.func59 (by kernel_rfl) rfl #[.slice A0 l0.length c0,.agg #[.int .i64 t316,.slice Ao34 x318001_1.length co34]] rfl aA ?_;(with_reducible refine(impl_FormatFact.calls k1 _ _ l0 t316 _ _ x318001_1 t321 _ ?side1 ?side2 ?side3 ?side4 A24.out (hp_.on aG)).mono ?_);(case side1=>exact aC);(case side2=>exact HC0.out);(case side3=>repeat(first|exact(Kd.R_reads' HO_318001.out).2.2|(with_reducible refine pC ?_)));(case side4=>exact(Kd.R_reads' HO_318001.out).2.1);rintro e w35 ⟨rfl,hb⟩;refine⟨_,rfl,?_⟩;have n0_:=aM (Kd.R_below (aR HO_318001) hb);have n1_:=aM (kB gb315 #[.int .i64 0,.slice none 0 0] 47 hb);have n2_:=aM (kB gb317 #[.int .i64 t316,.slice Ao34 x318001_1.length co34] 47 hb);have n3_:=aM (below_step aG hb);clear HO_318001;clear BK315;clear BK317;clear HB;have HO_318001:=n0_;have BK315:=n1_;have BK317:=n2_;have HB:=n3_;clear n0_ n1_ n2_ n3_;(try clear hb);(try clear hb2);(try clear hk);(try clear hi);have hcz36_0:w35.cell? ⟨gb315,0,none⟩=some (.int .i64 0):=(blk_cell BK315.out 0).trans rfl;have hcz36_1:w35.cell? ⟨gb315,1,none⟩=some (.slice none 0 0):=(blk_cell BK315.out 1).trans rfl;have hfz36_0:=blk_frozen BK315.out 0;have hfz36_1:=blk_frozen BK315.out 1))
        refine bodyPost_ret (results_ct rfl _ _ gb315 47 #[.int .i64 0,.slice none 0 0] (0,0) _ rfl (bP2 BK315.out) Tryz.underlying47 rfl (by kernel_rfl)) rfl ?_;exact⟨_,aE,by first|exact Kd.R_nil _ _ _ _ _|exact Kd.N_nil _ _ _ _ _|exact Kd.V_nil _ _ _ _ _|exact Kd.Q_nil _ _ _ _ _|exact Kd.S_nil _ _ _ _ _,aG⟩
   ·rw[if_neg c7] at H;exact absurd H (by simp)
  ·rw[if_neg c6] at H;exact absurd H (by simp)

end Go.Proofs.YtckpikfbhlhhjaaGreatDoor.PFnDatabaseFormat
