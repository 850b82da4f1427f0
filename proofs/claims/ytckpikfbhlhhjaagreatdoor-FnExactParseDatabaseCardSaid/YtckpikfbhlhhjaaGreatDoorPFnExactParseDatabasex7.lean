import Derived.Test.YtckpikfbhlhhjaaGreatDoorPFnExactParseDatabasex0
import Derived.Test.YtckpikfbhlhhjaaGreatDoorPFnExactParseDatabasex6
namespace Go.Proofs.YtckpikfbhlhhjaaGreatDoor.PFnExactParseDatabase
open Go.RowKit Go.Proofs.YtckpikfbhlhhjaaGreatDoorW.PrintWords Go.Proofs.YtckpikfbhlhhjaaGreatDoorW.PrintLast Go.Proofs.YtckpikfbhlhhjaaGreatDoorW.PrintMore
attribute [local go_sem] max2_int min2_int max_two min_two max_three min_three max_four min_four
set_option linter.unusedVariables false
set_option linter.unusedSimpArgs false

/-! ### strings_Cut: function 22 -/
def strings_Cut.f (a0 : ByteArray) (a1 : ByteArray) : Option (ByteArray × ByteArray × Bool) := if a0.size < 4294967281 then some (⟨(Lib.cut a0.data.toList a1.data.toList).1.toArray⟩, ⟨(Lib.cut a0.data.toList a1.data.toList).2.1.toArray⟩, (Lib.cut a0.data.toList a1.data.toList).2.2) else none
theorem strings_Cut.calls (a0 : ByteArray) (a1 : ByteArray) (r1 : ByteArray) (r2 : ByteArray) (r3 : Bool) (w : World) (h : strings_Cut.f a0 a1 = some (r1, r2, r3)) (hp_ : Go.Proofs.YtckpikfbhlhhjaaGreatDoor.Shelf.PowM w) :
 Calls Tryz.prog 22 #[.string a0, .string a1] w fun e w' => e = .returned (.tuple #[.string r1, .string r2, .bool r3]) ∧ Below w.heap.size w w' := by
 unfold strings_Cut.f at h
 by_cases h2 : a0.size < 4294967281
 ·rw [if_pos h2] at h
  simp only [Option.some.injEq, Prod.mk.injEq] at h
  obtain ⟨rfl, rfl, rfl⟩ := h
  exact Shelf.Cut a0 a1 h2 w hp_
 ·rw [if_neg h2] at h; exact absurd h (by simp)


-- NOT PRINTED: function 117 (utf8_RuneCountInString)

-- NOT PRINTED: function 122 (utf8_decodeRuneInStringSlow)

-- NOT PRINTED: function 118 (utf8_DecodeRuneInString)

-- NOT PRINTED: function 105 (strings_explode)

-- NOT PRINTED: function 107 (strings_Index)

-- NOT PRINTED: function 119 (bytealg_CountString)

-- NOT PRINTED: function 106 (strings_Count)

-- NOT PRINTED: function 88 (strings_genSplit)

/-! ### strings_Split: function 57 -/
def strings_Split.f (a0 : ByteArray) (a1 : ByteArray) : Option (List ByteArray) := if a0.size < 4294967281 ∧ 1 ≤ a1.size then some (Shelf.pcs a0 a1) else none
theorem strings_Split.calls (a0 : ByteArray) (a1 : ByteArray) (r : List ByteArray) (w : World) (h : strings_Split.f a0 a1 = some r) (hp_ : Go.Proofs.YtckpikfbhlhhjaaGreatDoor.Shelf.PowM w) :
 Calls Tryz.prog 57 #[.string a0, .string a1] w fun e w' => ∃ v0_ : Value, e = .returned (v0_) ∧ Kd.R Kd.string 9 w' w.heap.size (fun _ => True) v0_ r ∧ Below w.heap.size w w' := by
 unfold strings_Split.f at h
 by_cases h2 : a0.size < 4294967281 ∧ 1 ≤ a1.size
 ·rw [if_pos h2] at h
  replace h := Option.some.inj h
  subst h
  exact Shelf.SplitR a0 a1 h2.1 h2.2 w hp_
 ·rw [if_neg h2] at h; exact absurd h (by simp)


/-! ### impl_words: function 23 -/
def impl_words.f (a0 : ByteArray) : Option (List ByteArray) := if a0.toList = ([] : List UInt8) then (some ([] : List ByteArray)) else ((strings_Split.f a0 (⟨#[32]⟩ : ByteArray)).bind fun t309 => (some t309))
set_option maxHeartbeats 8000000 in
set_option maxRecDepth 100000 in
theorem impl_words.calls (a0 : ByteArray) (r : List ByteArray) (w : World) (h : impl_words.f a0 = some r) (hp_ : Go.Proofs.YtckpikfbhlhhjaaGreatDoor.Shelf.PowM w) :
  Calls Tryz.prog 23 #[.string a0] w fun e w' => ∃ v0_ : Value, e = .returned (v0_) ∧ Kd.R Kd.string 9 w' w.heap.size (fun _ => True) v0_ r ∧ Below w.heap.size w w' := by
 have HB := aM (Below.refl w.heap.size w)
 have H : (if a0.toList = ([] : List UInt8) then (some ([] : List ByteArray)) else ((strings_Split.f a0 (⟨#[32]⟩ : ByteArray)).bind fun t309 => (some t309))) = some r := h
 clear h
 by_cases c2 : a0.toList = ([] : List UInt8)
 ·rw [if_pos c2] at H
  have c2b0 : (a0.toList == ([] : List UInt8)) = true := beq_iff_eq.mpr c2
  have c2b1 : (a0.toList != ([] : List UInt8)) = false := bne_eq_false_iff_eq.mpr c2
  clear c2
  obtain rfl := Option.some.inj H
  go_enter Tryz.func23, Tryz.ntmps23
  go_wp2
  go_ret
  exact ⟨_, aE, by first | exact Kd.R_nil _ _ _ _ _ | exact Kd.N_nil _ _ _ _ _ | exact Kd.V_nil _ _ _ _ _ | exact Kd.Q_nil _ _ _ _ _ | exact Kd.S_nil _ _ _ _ _, aB⟩
 ·rw [if_neg c2] at H
  have c2b0 : (a0.toList == ([] : List UInt8)) = false := beq_eq_false_iff_ne.mpr c2
  have c2b1 : (a0.toList != ([] : List UInt8)) = true := bne_iff_ne.mpr c2
  replace H := bM H
  obtain ⟨t309, A30, H⟩ := H
  have A3 := aM A30
  clear A30
  obtain rfl := Option.some.inj H
  go_enter Tryz.func23, Tryz.ntmps23
  go_wp2_with (first | ((with_reducible refine gate_callee (f := 57) rfl ?_); refine goesL_ (some 6) rfl rfl Tryz.func57 (by kernel_rfl) rfl #[.string a0, .string (⟨#[32]⟩ : ByteArray)] rfl aA ?_; (with_reducible refine (strings_Split.calls a0 (⟨#[32]⟩ : ByteArray) t309 _ A3.out (hp_.on aB)).mono ?_); rintro e w4 ⟨v310, rfl, ho0, hb⟩; refine ⟨_, rfl, ?_⟩; have HO311 := aM (Kd.R_lower ho0 (below_size aB)); replace HB := aM (below_step aB hb); (try clear hb); (try clear hb2); (try clear hk); (try clear hi); (try clear ho0)))
  go_ret
  exact ⟨_, aE, aR HO311, aB⟩

/-! ### impl_ParseRelation: function 24 -/
def impl_ParseRelation.f (a0 : ByteArray) : Option (ByteArray × Int × Int × Bool) := if (a0.size : Int) = 4 then (if 0 ≤ 1 then (if 1 ≤ (a0.size : Int) then (if 3 < (a0.size : Int) then (if 1 < (a0.size : Int) then ((impl_FormatRelation.f (a0.extract 0 1) (wrap64 ((wrap64 (bt a0 3)) - 48)) (wrap64 ((wrap64 (bt a0 1)) - 48))).bind fun t314 => (if t314.toList = a0.toList then (some (a0.extract 0 1, wrap64 ((wrap64 (bt a0 3)) - 48), wrap64 ((wrap64 (bt a0 1)) - 48), true)) else (some ((⟨#[]⟩ : ByteArray), 0, 0, false)))) else (none)) else (none)) else (none)) else (none)) else (some ((⟨#[]⟩ : ByteArray), 0, 0, false))
def impl_ParseRelation.T3 : Bool × List (List Nat × List Nat) := (true, [([], []), ([0], [0]), ([], []), ([2], [2]), ([3], [3]), ([4], [4]), ([], []), ([6], [6]), ([7], [7]), ([8], [8]), ([1, 5, 9], [1, 5, 9]), ([], []), ([11, 10, 0, 1, 2, 3, 4, 5, 6, 7, 8, 9, 10, 11], [10, 11])])
def impl_ParseRelation.B3 : List Nat := [0, 1, 0, 4, 12, 28, 0, 64, 192, 448, 1023, 0, 4095]
theorem impl_ParseRelation.tab3 : rtab .any (opsOf Tryz.f24 3) = impl_ParseRelation.T3 := by kernel_rfl
theorem impl_ParseRelation.bits3 : waitsOk impl_ParseRelation.T3.2 impl_ParseRelation.B3 = true := by kernel_rfl
set_option maxHeartbeats 8000000 in
set_option maxRecDepth 100000 in
theorem impl_ParseRelation.calls (a0 : ByteArray) (r1 : ByteArray) (r2 : Int) (r3 : Int) (r4 : Bool) (w : World) (h : impl_ParseRelation.f a0 = some (r1, r2, r3, r4)) (hp_ : Go.Proofs.YtckpikfbhlhhjaaGreatDoor.Shelf.Pow w) :
  Calls Tryz.prog 24 #[.string a0] w fun e w' => e = .returned (.tuple #[.agg #[.string r1, .int .i64 r2, .int .i64 r3], .bool r4]) ∧ Below w.heap.size w w' := by
 have hu42 := Tryz.underlying42
 have HB := aM (Below.refl w.heap.size w)
 have H : (if (a0.size : Int) = 4 then (if 0 ≤ 1 then (if 1 ≤ (a0.size : Int) then (if 3 < (a0.size : Int) then (if 1 < (a0.size : Int) then ((impl_FormatRelation.f (a0.extract 0 1) (wrap64 ((wrap64 (bt a0 3)) - 48)) (wrap64 ((wrap64 (bt a0 1)) - 48))).bind fun t314 => (if t314.toList = a0.toList then (some (a0.extract 0 1, wrap64 ((wrap64 (bt a0 3)) - 48), wrap64 ((wrap64 (bt a0 1)) - 48), true)) else (some ((⟨#[]⟩ : ByteArray), 0, 0, false)))) else (none)) else (none)) else (none)) else (none)) else (some ((⟨#[]⟩ : ByteArray), 0, 0, false))) = some (r1, r2, r3, r4) := h
 clear h
 by_cases c2 : (a0.size : Int) = 4
 ·rw [if_pos c2] at H
  have c2b0 : ((a0.size : Int) == 4) = true := beq_iff_eq.mpr c2
  have c2b1 : ((a0.size : Int) != 4) = false := bne_eq_false_iff_eq.mpr c2
  clear c2
  by_cases c3 : 0 ≤ 1
  ·rw [if_pos c3] at H
   have c3b0 := eq_true c3
   have c3b1 : decide (0 ≤ 1) = true := decide_eq_true c3
   clear c3
   by_cases c4 : 1 ≤ (a0.size : Int)
   ·rw [if_pos c4] at H
    have c4b0 := eq_true c4
    have c4b1 : decide (1 ≤ (a0.size : Int)) = true := decide_eq_true c4
    clear c4
    by_cases c5 : 3 < (a0.size : Int)
    ·rw [if_pos c5] at H
     have c5b0 : decide (3 < (a0.size : Int)) = true := decide_eq_true c5
     have c5b1 : decide (3 < a0.size) = true := decide_eq_true (by omega)
     clear c5
     by_cases c7 : 1 < (a0.size : Int)
     ·rw [if_pos c7] at H
      have c7b0 : decide (1 < (a0.size : Int)) = true := decide_eq_true c7
      have c7b1 : decide (1 < a0.size) = true := decide_eq_true (by omega)
      clear c7
      replace H := bM H
      obtain ⟨t314, A90, H⟩ := H
      have A9 := aM A90
      clear A90
      by_cases c10 : t314.toList = a0.toList
      ·rw [if_pos c10] at H
       have c10b0 : (t314.toList == a0.toList) = true := beq_iff_eq.mpr c10
       have c10b1 : (t314.toList != a0.toList) = false := bne_eq_false_iff_eq.mpr c10
       clear c10
       simp only [Option.some.injEq, Prod.mk.injEq] at H
       obtain ⟨rfl, rfl, rfl, rfl⟩ := H
       go_enter Tryz.func24, Tryz.ntmps24
       try go_wp2_with (first | ((with_reducible refine gate_dst (N := 2) rfl ?_); refine bE 2 (cs := #[.string (⟨#[]⟩ : ByteArray), .int .i64 0, .int .i64 0]) (t := 42) ?_; intro gb312 hg w11 hbox hb; have BK312 := aM (hbox); have GW312 := aM ((by rw [hg]; exact (below_size aB) : w.heap.size ≤ gb312)); have GE312 := aM ((by rw [hg]; exact (below_size aB) : w.heap.size ≤ gb312)); replace HB := aM (below_step aB hb); clear hb hbox hg))
       replace BK312 := aM (blk_drew BK312.out)
       replace HB := aM (below_drew1 HB.out)
       have p6 : 0 ≤ (3 : Int) := (by omega)
       have q6 : 3 < a0.size := (by have : (3 : Int) < (a0.size : Int) := aD; omega)
       have hx6 : ∀ h : 3 < a0.size, ((a0[3]'h).toNat : Int) = bt a0 3 := bt_at a0 3
       clear p6
       have qi6 : (3 < (a0.size : Int)) = True := eq_true (aD)
       replace q6 := eq_true q6
       have p8 : 0 ≤ (1 : Int) := (by omega)
       have q8 : 1 < a0.size := (by have : (1 : Int) < (a0.size : Int) := aD; omega)
       have hx8 : ∀ h : 1 < a0.size, ((a0[1]'h).toNat : Int) = bt a0 1 := bt_at a0 1
       clear p8
       have qi8 : (1 < (a0.size : Int)) = True := eq_true (aD)
       replace q8 := eq_true q8
       refine start_ (n := 13) (S := fun w' => True) (ds := []) #[false, false, false, false, false, false, false, false, false, false, false, false, false] (by kernel_rfl) rfl rfl trivial (fun hHeld => ?_); refine with_tabW impl_ParseRelation.tab3 impl_ParseRelation.bits3 (fun HT_ HW_ => ?_)
       generalize w11.drew = w12 at BK312 HB hHeld ⊢
       refine pU 0 9 ?_
       refine pU 1 10 ?_
       refine pU 2 11 ?_
       refine pU 6 15 ?_
       refine take_ (i := 3) (N := some 12) (v := ?_) (a' := ?_) #[true, true, true, true, false, false, true, false, false, false, false, false, false] rfl rfl (take_ofW HT_.out HW_.out (by kernel_rfl)) (fun _ _ _ h => h) (Or.inl ⟨by rfl, ?_⟩) hHeld ?_ ?_
       rotate_left
       ·intro w' _
        go_simp
        with_reducible rfl
       rotate_left
       ·exact aP
       refine pU 4 13 ?_
       refine pU 5 14 ?_
       refine take_ (i := 7) (N := some 16) (v := ?_) (a' := ?_) #[true, true, true, true, true, true, true, true, false, false, false, false, false] rfl rfl (take_ofW HT_.out HW_.out (by kernel_rfl)) (fun _ _ _ h => h) (Or.inl ⟨by rfl, ?_⟩) hHeld ?_ ?_
       rotate_left
       ·intro w' _
        go_simp
        with_reducible rfl
       rotate_left
       ·exact aP
       refine pU 8 17 ?_
       refine pU 9 18 ?_
       refine pU 10 19 ?_
       refine oU 11 4 (fun K hK => ?_)
       refine box_step ?hg (N := 4) ?hd (cs := #[.string (⟨#[]⟩ : ByteArray), .int .i64 0, .int .i64 0]) (t := 42) ?hr ?_; (case hd => rfl); (case hg => rfl); (case hr => first | (go_simp; done) | (go_simp; rfl))
       intro gb313 hg w13 hbox hb
       have BK313 := aM (hbox)
       have GW313 := aM ((by rw [hg]; exact (below_size aG) : w.heap.size ≤ gb313))
       have GE313 := aM ((by rw [hg]; exact (below_size aG) : w.heap.size ≤ gb313))
       have NB312_313 := aM ((by rw [hg]; exact Nat.ne_of_lt (blk_lt (g := gb312) (o := .cells #[.string (⟨#[]⟩ : ByteArray), .int .i64 0, .int .i64 0] 42 (0, 0)) aK) : gb312 ≠ gb313))
       have NB313_312 := aM ((by rw [hg]; exact Nat.ne_of_gt (blk_lt (g := gb312) (o := .cells #[.string (⟨#[]⟩ : ByteArray), .int .i64 0, .int .i64 0] 42 (0, 0)) aK) : gb313 ≠ gb312))
       replace BK312 := aM (blk_below (g := gb312) (o := .cells #[.string (⟨#[]⟩ : ByteArray), .int .i64 0, .int .i64 0] 42 (0, 0)) aK hb)
       replace HB := aM (below_step aG hb)
       clear hb hbox hg
       refine hK.out _ _ trivial (fun hHeld => ?_)
       clear hK K
       refine nU 4 ?_
       refine one_ (i := 12) (N := none) #[true, true, true, true, true, true, true, true, true, true, true, true, true] rfl rfl (one_of HT_.out (by kernel_rfl)) (by decide) (fun K hK => ?_)
       have hs14 : w13.cell? ⟨gb313, 0, none⟩ = some (.string (⟨#[]⟩ : ByteArray)) := (blk_cell BK313.out 0).trans rfl
       have hfs14 := blk_frozen BK313.out 0
       have hns14_0 := NB312_313.out
       have hms14_0 := NB313_312.out
       have hs15 : w13.cell? ⟨gb313, 1, none⟩ = some (.int .i64 0) := (blk_cell BK313.out 1).trans rfl
       have hfs15 := blk_frozen BK313.out 1
       have hns15_0 := NB312_313.out
       have hms15_0 := NB313_312.out
       have hs16 : w13.cell? ⟨gb313, 2, none⟩ = some (.int .i64 0) := (blk_cell BK313.out 2).trans rfl
       have hfs16 := blk_frozen BK313.out 2
       have hns16_0 := NB312_313.out
       have hms16_0 := NB313_312.out
       refine skip_ (w1 := ?_) (by rfl) rfl ?_ ?_
       rotate_left
       ·go_simp
        rfl
       refine hK.out _ _ trivial (fun hHeld => ?_)
       clear hK K
       refine done_ (done_of HT_.out (by kernel_rfl)) ?_
       have hnb17 := NB313_312.out
       have hnc17 := NB312_313.out
       have hcz18_0 : w13.cell? ⟨gb313, 0, none⟩ = some (.string (⟨#[]⟩ : ByteArray)) := (blk_cell BK313.out 0).trans rfl
       have hcz18_1 : w13.cell? ⟨gb313, 1, none⟩ = some (.int .i64 0) := (blk_cell BK313.out 1).trans rfl
       have hcz18_2 : w13.cell? ⟨gb313, 2, none⟩ = some (.int .i64 0) := (blk_cell BK313.out 2).trans rfl
       have hfz18_0 := blk_frozen BK313.out 0
       have hfz18_1 := blk_frozen BK313.out 1
       have hfz18_2 := blk_frozen BK313.out 2
       try go_wp2_with (first | ((with_reducible refine gate_callee (f := 35) rfl ?_); refine goesL_ (some 21) rfl rfl Tryz.func35 (by kernel_rfl) rfl #[.agg #[.string (a0.extract 0 1), .int .i64 (wrap64 ((wrap64 (bt a0 3)) - 48)), .int .i64 (wrap64 ((wrap64 (bt a0 1)) - 48))]] rfl aA ?_; (with_reducible refine (impl_FormatRelation.calls (a0.extract 0 1) (wrap64 ((wrap64 (bt a0 3)) - 48)) (wrap64 ((wrap64 (bt a0 1)) - 48)) t314 _ A9.out (hp_.on aG)).mono ?_); rintro e w19 ⟨rfl, hb⟩; refine ⟨_, rfl, ?_⟩; replace BK312 := aM (blk_below (g := gb312) (o := .cells #[.string (⟨#[]⟩ : ByteArray), .int .i64 0, .int .i64 0] 42 (0, 0)) (by (with_reducible repeat refine pB ?_); refine blk_far ?_ NB312_313.out _; (with_reducible repeat refine pB ?_); refine blk_far ?_ NB312_313.out _; (with_reducible repeat refine pB ?_); refine blk_far ?_ NB312_313.out _; (with_reducible repeat refine pB ?_); exact BK312.out) hb); replace BK313 := aM (blk_below (g := gb313) (o := .cells #[.string (a0.extract 0 1), .int .i64 (wrap64 ((wrap64 (bt a0 3)) - 48)), .int .i64 (wrap64 ((wrap64 (bt a0 1)) - 48))] 42 (0, 0)) (by (with_reducible repeat refine pB ?_); refine blk_put (cs := #[.string (a0.extract 0 1), .int .i64 (wrap64 ((wrap64 (bt a0 3)) - 48)), .int .i64 0]) ?_ 2 _ rfl; (with_reducible repeat refine pB ?_); refine blk_put (cs := #[.string (a0.extract 0 1), .int .i64 0, .int .i64 0]) ?_ 1 _ rfl; (with_reducible repeat refine pB ?_); refine blk_put (cs := #[.string (⟨#[]⟩ : ByteArray), .int .i64 0, .int .i64 0]) ?_ 0 _ rfl; (with_reducible repeat refine pB ?_); exact BK313.out) hb); replace HB := aM (below_step aG hb); (try clear hb); (try clear hb2); (try clear hk); (try clear hi); have hcz20_0 : w19.cell? ⟨gb313, 0, none⟩ = some (.string (a0.extract 0 1)) := (blk_cell BK313.out 0).trans rfl; have hcz20_1 : w19.cell? ⟨gb313, 1, none⟩ = some (.int .i64 (wrap64 ((wrap64 (bt a0 3)) - 48))) := (blk_cell BK313.out 1).trans rfl; have hcz20_2 : w19.cell? ⟨gb313, 2, none⟩ = some (.int .i64 (wrap64 ((wrap64 (bt a0 1)) - 48))) := (blk_cell BK313.out 2).trans rfl; have hfz20_0 := blk_frozen BK313.out 0; have hfz20_1 := blk_frozen BK313.out 1; have hfz20_2 := blk_frozen BK313.out 2; have hcz21_0 : w19.cell? ⟨gb312, 0, none⟩ = some (.string (⟨#[]⟩ : ByteArray)) := (blk_cell BK312.out 0).trans rfl; have hcz21_1 : w19.cell? ⟨gb312, 1, none⟩ = some (.int .i64 0) := (blk_cell BK312.out 1).trans rfl; have hcz21_2 : w19.cell? ⟨gb312, 2, none⟩ = some (.int .i64 0) := (blk_cell BK312.out 2).trans rfl; have hfz21_0 := blk_frozen BK312.out 0; have hfz21_1 := blk_frozen BK312.out 1; have hfz21_2 := blk_frozen BK312.out 2))
       refine bodyPost_ret (results_ct rfl _ _ gb312 42 #[.string (a0.extract 0 1), .int .i64 (wrap64 ((wrap64 (bt a0 3)) - 48)), .int .i64 (wrap64 ((wrap64 (bt a0 1)) - 48))] (0, 0) _ rfl (by (with_reducible repeat refine pB ?_); refine blk_put (cs := #[.string (a0.extract 0 1), .int .i64 (wrap64 ((wrap64 (bt a0 3)) - 48)), .int .i64 0]) ?_ 2 _ rfl; (with_reducible repeat refine pB ?_); refine blk_put (cs := #[.string (a0.extract 0 1), .int .i64 0, .int .i64 0]) ?_ 1 _ rfl; (with_reducible repeat refine pB ?_); refine blk_put (cs := #[.string (⟨#[]⟩ : ByteArray), .int .i64 0, .int .i64 0]) ?_ 0 _ rfl; (with_reducible repeat refine pB ?_); exact BK312.out) Tryz.underlying42 rfl (by kernel_rfl)) rfl ?_
       exact ⟨aE, aG⟩
      ·rw [if_neg c10] at H
       have c10b0 : (t314.toList == a0.toList) = false := beq_eq_false_iff_ne.mpr c10
       have c10b1 : (t314.toList != a0.toList) = true := bne_iff_ne.mpr c10
       simp only [Option.some.injEq, Prod.mk.injEq] at H
       obtain ⟨rfl, rfl, rfl, rfl⟩ := H
       go_enter Tryz.func24, Tryz.ntmps24
       try go_wp2_with (first | ((with_reducible refine gate_dst (N := 2) rfl ?_); refine bE 2 (cs := #[.string (⟨#[]⟩ : ByteArray), .int .i64 0, .int .i64 0]) (t := 42) ?_; intro gb312 hg w22 hbox hb; have BK312 := aM (hbox); have GW312 := aM ((by rw [hg]; exact (below_size aB) : w.heap.size ≤ gb312)); have GE312 := aM ((by rw [hg]; exact (below_size aB) : w.heap.size ≤ gb312)); replace HB := aM (below_step aB hb); clear hb hbox hg))
       replace BK312 := aM (blk_drew BK312.out)
       replace HB := aM (below_drew1 HB.out)
       have p6 : 0 ≤ (3 : Int) := (by omega)
       have q6 : 3 < a0.size := (by have : (3 : Int) < (a0.size : Int) := aD; omega)
       have hx6 : ∀ h : 3 < a0.size, ((a0[3]'h).toNat : Int) = bt a0 3 := bt_at a0 3
       clear p6
       have qi6 : (3 < (a0.size : Int)) = True := eq_true (aD)
       replace q6 := eq_true q6
       have p8 : 0 ≤ (1 : Int) := (by omega)
       have q8 : 1 < a0.size := (by have : (1 : Int) < (a0.size : Int) := aD; omega)
       have hx8 : ∀ h : 1 < a0.size, ((a0[1]'h).toNat : Int) = bt a0 1 := bt_at a0 1
       clear p8
       have qi8 : (1 < (a0.size : Int)) = True := eq_true (aD)
       replace q8 := eq_true q8
       refine start_ (n := 13) (S := fun w' => True) (ds := []) #[false, false, false, false, false, false, false, false, false, false, false, false, false] (by kernel_rfl) rfl rfl trivial (fun hHeld => ?_); refine with_tabW impl_ParseRelation.tab3 impl_ParseRelation.bits3 (fun HT_ HW_ => ?_)
       generalize w22.drew = w23 at BK312 HB hHeld ⊢
       refine pU 0 9 ?_
       refine pU 1 10 ?_
       refine pU 2 11 ?_
       refine pU 6 15 ?_
       refine take_ (i := 3) (N := some 12) (v := ?_) (a' := ?_) #[true, true, true, true, false, false, true, false, false, false, false, false, false] rfl rfl (take_ofW HT_.out HW_.out (by kernel_rfl)) (fun _ _ _ h => h) (Or.inl ⟨by rfl, ?_⟩) hHeld ?_ ?_
       rotate_left
       ·intro w' _
        go_simp
        with_reducible rfl
       rotate_left
       ·exact aP
       refine pU 4 13 ?_
       refine pU 5 14 ?_
       refine take_ (i := 7) (N := some 16) (v := ?_) (a' := ?_) #[true, true, true, true, true, true, true, true, false, false, false, false, false] rfl rfl (take_ofW HT_.out HW_.out (by kernel_rfl)) (fun _ _ _ h => h) (Or.inl ⟨by rfl, ?_⟩) hHeld ?_ ?_
       rotate_left
       ·intro w' _
        go_simp
        with_reducible rfl
       rotate_left
       ·exact aP
       refine pU 8 17 ?_
       refine pU 9 18 ?_
       refine pU 10 19 ?_
       refine oU 11 4 (fun K hK => ?_)
       refine box_step ?hg (N := 4) ?hd (cs := #[.string (⟨#[]⟩ : ByteArray), .int .i64 0, .int .i64 0]) (t := 42) ?hr ?_; (case hd => rfl); (case hg => rfl); (case hr => first | (go_simp; done) | (go_simp; rfl))
       intro gb313 hg w24 hbox hb
       have BK313 := aM (hbox)
       have GW313 := aM ((by rw [hg]; exact (below_size aG) : w.heap.size ≤ gb313))
       have GE313 := aM ((by rw [hg]; exact (below_size aG) : w.heap.size ≤ gb313))
       have NB312_313 := aM ((by rw [hg]; exact Nat.ne_of_lt (blk_lt (g := gb312) (o := .cells #[.string (⟨#[]⟩ : ByteArray), .int .i64 0, .int .i64 0] 42 (0, 0)) aK) : gb312 ≠ gb313))
       have NB313_312 := aM ((by rw [hg]; exact Nat.ne_of_gt (blk_lt (g := gb312) (o := .cells #[.string (⟨#[]⟩ : ByteArray), .int .i64 0, .int .i64 0] 42 (0, 0)) aK) : gb313 ≠ gb312))
       replace BK312 := aM (blk_below (g := gb312) (o := .cells #[.string (⟨#[]⟩ : ByteArray), .int .i64 0, .int .i64 0] 42 (0, 0)) aK hb)
       replace HB := aM (below_step aG hb)
       clear hb hbox hg
       refine hK.out _ _ trivial (fun hHeld => ?_)
       clear hK K
       refine nU 4 ?_
       refine one_ (i := 12) (N := none) #[true, true, true, true, true, true, true, true, true, true, true, true, true] rfl rfl (one_of HT_.out (by kernel_rfl)) (by decide) (fun K hK => ?_)
       have hs25 : w24.cell? ⟨gb313, 0, none⟩ = some (.string (⟨#[]⟩ : ByteArray)) := (blk_cell BK313.out 0).trans rfl
       have hfs25 := blk_frozen BK313.out 0
       have hns25_0 := NB312_313.out
       have hms25_0 := NB313_312.out
       have hs26 : w24.cell? ⟨gb313, 1, none⟩ = some (.int .i64 0) := (blk_cell BK313.out 1).trans rfl
       have hfs26 := blk_frozen BK313.out 1
       have hns26_0 := NB312_313.out
       have hms26_0 := NB313_312.out
       have hs27 : w24.cell? ⟨gb313, 2, none⟩ = some (.int .i64 0) := (blk_cell BK313.out 2).trans rfl
       have hfs27 := blk_frozen BK313.out 2
       have hns27_0 := NB312_313.out
       have hms27_0 := NB313_312.out
       refine skip_ (w1 := ?_) (by rfl) rfl ?_ ?_
       rotate_left
       ·go_simp
        rfl
       refine hK.out _ _ trivial (fun hHeld => ?_)
       clear hK K
       refine done_ (done_of HT_.out (by kernel_rfl)) ?_
       have hnb28 := NB313_312.out
       have hnc28 := NB312_313.out
       have hcz29_0 : w24.cell? ⟨gb313, 0, none⟩ = some (.string (⟨#[]⟩ : ByteArray)) := (blk_cell BK313.out 0).trans rfl
       have hcz29_1 : w24.cell? ⟨gb313, 1, none⟩ = some (.int .i64 0) := (blk_cell BK313.out 1).trans rfl
       have hcz29_2 : w24.cell? ⟨gb313, 2, none⟩ = some (.int .i64 0) := (blk_cell BK313.out 2).trans rfl
       have hfz29_0 := blk_frozen BK313.out 0
       have hfz29_1 := blk_frozen BK313.out 1
       have hfz29_2 := blk_frozen BK313.out 2
       try go_wp2_with (first | ((with_reducible refine gate_callee (f := 35) rfl ?_); refine goesL_ (some 21) rfl rfl Tryz.func35 (by kernel_rfl) rfl #[.agg #[.string (a0.extract 0 1), .int .i64 (wrap64 ((wrap64 (bt a0 3)) - 48)), .int .i64 (wrap64 ((wrap64 (bt a0 1)) - 48))]] rfl aA ?_; (with_reducible refine (impl_FormatRelation.calls (a0.extract 0 1) (wrap64 ((wrap64 (bt a0 3)) - 48)) (wrap64 ((wrap64 (bt a0 1)) - 48)) t314 _ A9.out (hp_.on aG)).mono ?_); rintro e w30 ⟨rfl, hb⟩; refine ⟨_, rfl, ?_⟩; replace BK312 := aM (blk_below (g := gb312) (o := .cells #[.string (⟨#[]⟩ : ByteArray), .int .i64 0, .int .i64 0] 42 (0, 0)) (by (with_reducible repeat refine pB ?_); refine blk_far ?_ NB312_313.out _; (with_reducible repeat refine pB ?_); refine blk_far ?_ NB312_313.out _; (with_reducible repeat refine pB ?_); refine blk_far ?_ NB312_313.out _; (with_reducible repeat refine pB ?_); exact BK312.out) hb); replace BK313 := aM (blk_below (g := gb313) (o := .cells #[.string (a0.extract 0 1), .int .i64 (wrap64 ((wrap64 (bt a0 3)) - 48)), .int .i64 (wrap64 ((wrap64 (bt a0 1)) - 48))] 42 (0, 0)) (by (with_reducible repeat refine pB ?_); refine blk_put (cs := #[.string (a0.extract 0 1), .int .i64 (wrap64 ((wrap64 (bt a0 3)) - 48)), .int .i64 0]) ?_ 2 _ rfl; (with_reducible repeat refine pB ?_); refine blk_put (cs := #[.string (a0.extract 0 1), .int .i64 0, .int .i64 0]) ?_ 1 _ rfl; (with_reducible repeat refine pB ?_); refine blk_put (cs := #[.string (⟨#[]⟩ : ByteArray), .int .i64 0, .int .i64 0]) ?_ 0 _ rfl; (with_reducible repeat refine pB ?_); exact BK313.out) hb); replace HB := aM (below_step aG hb); (try clear hb); (try clear hb2); (try clear hk); (try clear hi); have hcz31_0 : w30.cell? ⟨gb312, 0, none⟩ = some (.string (⟨#[]⟩ : ByteArray)) := (blk_cell BK312.out 0).trans rfl; have hcz31_1 : w30.cell? ⟨gb312, 1, none⟩ = some (.int .i64 0) := (blk_cell BK312.out 1).trans rfl; have hcz31_2 : w30.cell? ⟨gb312, 2, none⟩ = some (.int .i64 0) := (blk_cell BK312.out 2).trans rfl; have hfz31_0 := blk_frozen BK312.out 0; have hfz31_1 := blk_frozen BK312.out 1; have hfz31_2 := blk_frozen BK312.out 2))
       refine bodyPost_ret (results_ct rfl _ _ gb312 42 #[.string (⟨#[]⟩ : ByteArray), .int .i64 0, .int .i64 0] (0, 0) _ rfl (by (with_reducible repeat refine pB ?_); refine blk_put (cs := #[.string (⟨#[]⟩ : ByteArray), .int .i64 0, .int .i64 0]) ?_ 2 _ rfl; (with_reducible repeat refine pB ?_); refine blk_put (cs := #[.string (⟨#[]⟩ : ByteArray), .int .i64 0, .int .i64 0]) ?_ 1 _ rfl; (with_reducible repeat refine pB ?_); refine blk_put (cs := #[.string (⟨#[]⟩ : ByteArray), .int .i64 0, .int .i64 0]) ?_ 0 _ rfl; (with_reducible repeat refine pB ?_); exact BK312.out) Tryz.underlying42 rfl (by kernel_rfl)) rfl ?_
       exact ⟨aE, aG⟩
     ·rw [if_neg c7] at H
      exact absurd H (by simp)
    ·rw [if_neg c5] at H
     exact absurd H (by simp)
   ·rw [if_neg c4] at H
    exact absurd H (by simp)
  ·rw [if_neg c3] at H
   exact absurd H (by simp)
 ·rw [if_neg c2] at H
  have c2b0 : ((a0.size : Int) == 4) = false := beq_eq_false_iff_ne.mpr c2
  have c2b1 : ((a0.size : Int) != 4) = true := bne_iff_ne.mpr c2
  simp only [Option.some.injEq, Prod.mk.injEq] at H
  obtain ⟨rfl, rfl, rfl, rfl⟩ := H
  go_enter Tryz.func24, Tryz.ntmps24
  go_wp2_with (first | ((with_reducible refine gate_dst (N := 2) rfl ?_); refine bE 2 (cs := #[.string (⟨#[]⟩ : ByteArray), .int .i64 0, .int .i64 0]) (t := 42) ?_; intro gb312 hg w32 hbox hb; have BK312 := aM (hbox); have GW312 := aM ((by rw [hg]; exact (below_size aB) : w.heap.size ≤ gb312)); have GE312 := aM ((by rw [hg]; exact (below_size aB) : w.heap.size ≤ gb312)); replace HB := aM (below_step aB hb); clear hb hbox hg; have hcz33_0 : w32.cell? ⟨gb312, 0, none⟩ = some (.string (⟨#[]⟩ : ByteArray)) := (blk_cell BK312.out 0).trans rfl; have hcz33_1 : w32.cell? ⟨gb312, 1, none⟩ = some (.int .i64 0) := (blk_cell BK312.out 1).trans rfl; have hcz33_2 : w32.cell? ⟨gb312, 2, none⟩ = some (.int .i64 0) := (blk_cell BK312.out 2).trans rfl; have hfz33_0 := blk_frozen BK312.out 0; have hfz33_1 := blk_frozen BK312.out 1; have hfz33_2 := blk_frozen BK312.out 2))
  refine bodyPost_ret (results_ct rfl _ _ gb312 42 #[.string (⟨#[]⟩ : ByteArray), .int .i64 0, .int .i64 0] (0, 0) _ rfl (by (with_reducible repeat refine pB ?_); refine blk_put (cs := #[.string (⟨#[]⟩ : ByteArray), .int .i64 0, .int .i64 0]) ?_ 2 _ rfl; (with_reducible repeat refine pB ?_); refine blk_put (cs := #[.string (⟨#[]⟩ : ByteArray), .int .i64 0, .int .i64 0]) ?_ 1 _ rfl; (with_reducible repeat refine pB ?_); refine blk_put (cs := #[.string (⟨#[]⟩ : ByteArray), .int .i64 0, .int .i64 0]) ?_ 0 _ rfl; (with_reducible repeat refine pB ?_); exact BK312.out) Tryz.underlying42 rfl (by kernel_rfl)) rfl ?_
  exact ⟨aE, aG⟩

-- NOT PRINTED: function 89 (impl_Relation)

/-! ### impl_RelationIndex: function 58 -/
section
open Base
def nameIs (nm : ByteArray) (x : S42) : Bool := x.f0.toList == nm.toList
set_option maxHeartbeats 8000000 in
theorem nameIs_calls (nm : ByteArray) (b : Nat) (x : S42) (w : World) (hb : w.cell? ⟨b, 0, none⟩ = some (.string nm)) :
  Calls Tryz.prog 90 #[.agg #[.string x.f0, .int .i64 x.f1, .int .i64 x.f2], .pointer (some ⟨b, 0, none⟩)] w fun e w' => e = .returned (.bool (nameIs nm x)) ∧ Below w.heap.size w w' := by
 have hlt := World.block_lt_of_cell? w _ hb
 have hb1 : ∀ o, (w.alloc o).cell? ⟨b, 0, none⟩ = some (.string nm) := fun o => (World.cell?_alloc_lt _ _ _ hlt).trans hb
 go_enter Tryz.func90, Tryz.ntmps90
 go_wp2
 go_ret
 exact ⟨rfl, (Below.refl _ _).alloc (Nat.le_refl _) _⟩
set_option maxHeartbeats 8000000 in
set_option maxRecDepth 100000 in
theorem nameIdx_calls (nm : ByteArray) (b : Nat) (A0 : Option Addr) (c0 : Nat) (l : List S42) (w : World) (hr : Kd.C k42 w A0 l.length l) (hb : w.cell? ⟨b, 0, none⟩ = some (.string nm)) :
  Calls Tryz.prog 89 #[.slice A0 l.length c0, .func (.func 90) #[] #[.pointer (some ⟨b, 0, none⟩)]] w fun e w' => e = .returned (.int .i64 (idxW (nameIs nm) l 0)) ∧ Below w.heap.size w w' := by
 have hl : l.length ≤ 9223372036854775807 := hr.2.1
 have hlt := World.block_lt_of_cell? w _ hb
 have HR := aM hr
 have HN := aM hb
 clear hr hb
 go_enter Tryz.func89, Tryz.ntmps89
 go_wp2
 go_loopg [5, 8] l.length (fun gg _ s8 wr => ∃ kk : Nat, kk ≤ l.length ∧ l.length - kk ≤ gg ∧ s8 = .int .i64 kk ∧ Aside0 (Below w.heap.size w wr) ∧ Aside0 (∀ j, j < kk → nameIs nm (l.getD j z42) = false))
 case atStart => exact ⟨0, Nat.zero_le _, by omega, rfl, ⟨Below.refl _ _⟩, ⟨fun j hj => absurd hj (Nat.not_lt_zero _)⟩⟩
 case round =>
  obtain ⟨kk, hkk, hg, rfl, BW, HA⟩ := hrel
  by_cases hltk : kk < l.length
  ·have hltz : (kk : Int) < (l.length : Int) := by omega
   obtain ⟨ad, e, h0, h1, h2⟩ := at_T42 (Kd.C_below HR.out BW.out) (kk : Int) (by omega) hltz
   rw [Int.toNat_natCast] at h0 h1 h2
   cases e
   have hcell : wr.cell? ⟨b, 0, none⟩ = some (.string nm) := pw_cell_below BW.out HN.out
   have hcall := nameIs_calls nm b (rd_T42 l (kk : Int)) wr hcell
   have HC := aM hcell
   clear hcell
   have hrd : rd_T42 l (kk : Int) = l.getD kk z42 := by unfold rd_T42; rw [Int.toNat_natCast]
   cases hq : nameIs nm (rd_T42 l (kk : Int)) with
   | true =>
    rw [hq] at hcall
    have HQ := aM hq
    have HRD := aM hrd
    clear hq hrd
    go_wp2_with (go_at_call 90; refine hcall.mono ?_; rintro e w' ⟨rfl, hb'⟩)
    go_ret
    refine ⟨?_, below_then BW.out BW.out.size hb'⟩
    rw [idxW_hit (nameIs nm) z42 l kk 0 hltk HA.out (by rw [← HRD.out]; exact HQ.out)]
    simp
   | false =>
    rw [hq] at hcall
    have HQ := aM hq
    have HRD := aM hrd
    clear hq hrd
    go_wp2_with (go_at_call 90; refine hcall.mono ?_; rintro e w' ⟨rfl, hb'⟩)
    go_roundg (l.length - (kk + 1))
    case measure => omega
    case rel =>
     refine ⟨kk + 1, by omega, by omega, by go_num, ⟨below_then BW.out BW.out.size hb'⟩, ⟨fun j hj => ?_⟩⟩
     by_cases e : j = kk
     ·subst e
      rw [← HRD.out]; exact HQ.out
     ·exact HA.out j (by omega)
  ·have hltz : ¬ (kk : Int) < (l.length : Int) := by omega
   have hd : decide (kk < l.length) = false := decide_eq_false hltk
   have HK := aM (show l.length ≤ kk by omega)
   clear hltk hltz
   go_wp2
   go_ret
   refine ⟨?_, BW.out⟩
   have HA := fun j (hj : j < l.length) => HA.out j (Nat.lt_of_lt_of_le hj HK.out)
   rw [idxW_miss (nameIs nm) z42 l 0 HA]
   rfl
def impl_RelationIndex.f (l0 : List S42) (a1 : ByteArray) : Option Int := some (idxW (nameIs a1) l0 0)
set_option maxHeartbeats 8000000 in
set_option maxRecDepth 100000 in
theorem impl_RelationIndex.calls (A0 : Option Addr) (c0 : Nat) (l0 : List S42) (a1 : ByteArray) (r : Int) (w : World) (hr0 : Kd.C k42 w A0 l0.length l0) (hc0 : l0.length ≤ c0) (h : impl_RelationIndex.f l0 a1 = some r) :
  Calls Tryz.prog 58 #[.slice A0 l0.length c0, .string a1] w fun e w' => e = .returned (.int .i64 r) ∧ Below w.heap.size w w' := by
 obtain rfl := Option.some.inj h
 have hb : (w.alloc (.cells #[.string a1] 9)).cell? ⟨w.heap.size, 0, none⟩ = some (.string a1) := (blk_cell (heap_alloc_new w _) 0).trans rfl
 have hcall := fun c => nameIdx_calls a1 w.heap.size A0 c l0 _ (Kd.C_below hr0 ((Below.refl _ _).alloc (Nat.le_refl _) (.cells #[.string a1] 9))) hb
 have HC := aM hcall
 clear hcall hb hr0 h
 go_enter Tryz.func58, Tryz.ntmps58
 go_wp2_with (go_at_call 89; refine (HC.out _).mono ?_; rintro e w' ⟨rfl, hb'⟩)
 go_ret
 exact ⟨rfl, below_then ((Below.refl _ _).alloc (Nat.le_refl _) _) (by simp) hb'⟩
end


end Go.Proofs.YtckpikfbhlhhjaaGreatDoor.PFnExactParseDatabase
