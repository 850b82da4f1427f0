import Derived.Test.YtckpikfbhlhhjaaDoorPFnSelectFactsx0
import Derived.Test.YtckpikfbhlhhjaaDoorPFnSelectFactsx3
import Derived.Test.YtckpikfbhlhhjaaDoorPFnSelectFactsx4
import Derived.Test.YtckpikfbhlhhjaaDoorPFnSelectFactsx10
import Derived.Test.YtckpikfbhlhhjaaDoorPFnSelectFactsx12
namespace Go.Proofs.YtckpikfbhlhhjaaDoor.PFnSelectFacts
open Go.RowKit Go.Proofs.YtckpikfbhlhhjaaDoorW.PrintWords Go.Proofs.YtckpikfbhlhhjaaDoorW.PrintLast Go.Proofs.YtckpikfbhlhhjaaDoorW.PrintMore
attribute [local go_sem] max2_int min2_int max_two min_two max_three min_three max_four min_four
set_option linter.unusedVariables false
set_option linter.unusedSimpArgs false

/-! ### strings_Join: function 44 -/
def strings_Join.f (l0 : List ByteArray) (a1 : ByteArray) : Option (ByteArray) := if l0.length ≤ 1000000000 ∧ (Shelf.jn_ l0 a1).length ≤ 1000000000 then some (⟨(Shelf.jn_ l0 a1).toArray⟩ : ByteArray) else none
set_option maxHeartbeats 2000000 in
set_option maxRecDepth 100000 in
theorem strings_Join.calls (A0 : Option Addr) (c0 : Nat) (l0 : List ByteArray) (a1 : ByteArray) (r : ByteArray) (w : World) (hr0 : Kd.C Kd.string w A0 l0.length l0) (hc0 : l0.length ≤ c0) (h : strings_Join.f l0 a1 = some r) :
 Calls Tryd.prog 44 #[.slice A0 l0.length c0, .string a1] w fun e w' => e = .returned (.string r) ∧ Below w.heap.size w w' := by
 unfold strings_Join.f at h
 by_cases h2 : l0.length ≤ 1000000000 ∧ (Shelf.jn_ l0 a1).length ≤ 1000000000
 ·rw [if_pos h2] at h
  replace h := Option.some.inj h
  subst h
  exact Shelf.JoinS A0 l0 c0 a1 w hc0 hr0 (by omega) (by omega)
 ·rw [if_neg h2] at h; exact absurd h (by simp)


/-! ### impl_barred: function 52 -/
def impl_barred.f (l0 : List ByteArray) (a1 : Int) : Option (ByteArray) := if 0 ≤ a1 ∧ a1 ≤ (l0.length : Int) then (if l0.length ≤ 1000000000 ∧ (Shelf.cat_ l0).length ≤ 1000000000 then some (if a1 < (l0.length : Int) then (⟨(Shelf.cat_ (l0.take a1.toNat)).toArray⟩ : ByteArray) ++ ((⟨#[124]⟩ : ByteArray) ++ (⟨(Shelf.cat_ (l0.drop a1.toNat)).toArray⟩ : ByteArray)) else (⟨(Shelf.cat_ (l0.take a1.toNat)).toArray⟩ : ByteArray)) else none) else none
set_option maxHeartbeats 2000000 in
set_option maxRecDepth 100000 in
theorem impl_barred.calls (A0 : Option Addr) (c0 : Nat) (l0 : List ByteArray) (a1 : Int) (r : ByteArray) (w : World) (hr0 : Kd.C Kd.string w A0 l0.length l0) (hc0 : l0.length ≤ c0) (h : impl_barred.f l0 a1 = some r) :
 Calls Tryd.prog 52 #[.slice A0 l0.length c0, .int .i64 a1] w fun e w' => e = .returned (.string r) ∧ Below w.heap.size w w' := by
 unfold impl_barred.f at h
 by_cases h1 : 0 ≤ a1 ∧ a1 ≤ (l0.length : Int)
 ·rw [if_pos h1] at h
  by_cases h2 : l0.length ≤ 1000000000 ∧ (Shelf.cat_ l0).length ≤ 1000000000
  ·rw [if_pos h2] at h
   replace h := Option.some.inj h
   obtain ⟨i, hi, hsz⟩ : ∃ i, Tryd.prog.info? 9 = some i ∧ i.size = 1 := by
    have e : (Tryd.prog.info? 9).map (fun x => x.size) = some 1 := by kernel_rfl
    exact Option.map_eq_some_iff.1 e
   have hR : ReadsOf Value.string ByteArray.empty w A0 l0.length l0 := Kd.reads_of_C hr0
   obtain ⟨T1, T2, T3⟩ := print_take_of Value.string ByteArray.empty 72 9 .i64 Tryd.underlying72 hi hsz A0 c0 l0 a1 h1.1 h1.2 hc0
   obtain ⟨A', D1, D2, D3⟩ := print_drop_of Value.string ByteArray.empty 72 9 .i64 Tryd.underlying72 hi hsz A0 c0 l0 a1 h1.1 h1.2 hc0
   have lt := Shelf.cat_len l0 a1.toNat
   have CT : Kd.C Kd.string w A0 (l0.take a1.toNat).length (l0.take a1.toNat) := Kd.C_of_reads (T2 w hR)
   have CD : Kd.C Kd.string w A' (l0.drop a1.toNat).length (l0.drop a1.toNat) := Kd.C_of_reads (D2 w hR)
   have JT := Shelf.Join A0 (l0.take a1.toNat) c0 w T3 CT (by rw [List.length_take]; omega) (by omega)
   have JD := fun W hW => Shelf.Join A' (l0.drop a1.toNat) (c0 - a1.toNat) W D3 (Kd.C_below CD hW) (by rw [List.length_drop]; omega) (by omega)
   have z1 : (⟨(Shelf.cat_ (l0.take a1.toNat)).toArray⟩ : ByteArray).size ≤ 1000000000 := by rw [show (⟨(Shelf.cat_ (l0.take a1.toNat)).toArray⟩ : ByteArray).size = (Shelf.cat_ (l0.take a1.toNat)).toArray.size from rfl, List.size_toArray]; omega
   have z2 : (⟨(Shelf.cat_ (l0.drop a1.toNat)).toArray⟩ : ByteArray).size ≤ 1000000000 := by rw [show (⟨(Shelf.cat_ (l0.drop a1.toNat)).toArray⟩ : ByteArray).size = (Shelf.cat_ (l0.drop a1.toNat)).toArray.size from rfl, List.size_toArray]; omega
   generalize (⟨(Shelf.cat_ (l0.take a1.toNat)).toArray⟩ : ByteArray) = s1 at h JT z1
   generalize (⟨(Shelf.cat_ (l0.drop a1.toNat)).toArray⟩ : ByteArray) = s2 at h JD z2
   rw [List.length_take] at JT
   simp only [List.length_drop] at JD
   have l1 : (⟨#[124]⟩ : ByteArray).size = 1 := rfl
   have y1 : (1 + s2.size ≤ 9223372036854775807) = True := eq_true (by omega)
   have y2 : decide (1 + s2.size ≤ 9223372036854775807) = true := decide_eq_true (by omega)
   have y3 : (9223372036854775807 < 1 + s2.size) = False := eq_false (by omega)
   have y4 : (s1.size + (1 + s2.size) ≤ 9223372036854775807) = True := eq_true (by omega)
   have y5 : decide (s1.size + (1 + s2.size) ≤ 9223372036854775807) = true := decide_eq_true (by omega)
   have y6 : (9223372036854775807 < s1.size + (1 + s2.size)) = False := eq_false (by omega)
   clear z1 z2 lt T2 D2 hR CT CD h2 T3 D3 l1
   by_cases c : a1 < (l0.length : Int)
   ·rw [if_pos c] at h
    subst h
    have cx : decide (a1 < (l0.length : Int)) = true := decide_eq_true c
    clear c h1
    go_enter Tryd.func52, Tryd.ntmps52
    go_wp2_with (first | (go_at_call 44; first | (refine (JD _ hb).mono ?_; rintro e w2 ⟨rfl, hc⟩) | (refine JT.mono ?_; rintro e w1 ⟨rfl, hb⟩)))
    go_ret
    exact ⟨rfl, below_then hb hb.size hc⟩
   ·rw [if_neg c] at h
    subst h
    have cx : decide (a1 < (l0.length : Int)) = false := decide_eq_false c
    clear c h1
    go_enter Tryd.func52, Tryd.ntmps52
    go_wp2_with (go_at_call 44; refine JT.mono ?_; rintro e w1 ⟨rfl, hb⟩)
    go_ret
    exact ⟨rfl, hb⟩
  ·rw [if_neg h2] at h; exact absurd h (by simp)
 ·rw [if_neg h1] at h; exact absurd h (by simp)


/-! ### impl_FormatFact: function 15 -/
def impl_FormatFact.l0 : Nat → List (S68) → List ByteArray → List Int → Int → Int → Int → List Int → Option (ByteArray)
 | 0, _, _, _, _, _, _, _ => none
 | k + 1, x0, x5, x15, x16, x17, x541000, x541001 => if x17 < x16 then (if 0 ≤ x17 then (if x17 < (x15.length : Int) then ((impl_FormatInt.f (rd x15 x17)).bind fun t546 => (if x5.length < 8796093022208 then (impl_FormatFact.l0 k x0 (x5 ++ [t546]) x15 x16 (wrap64 (x17 + 1)) x541000 x541001) else (none))) else (none)) else (none)) else (if 0 ≤ x541000 then (if x541000 < (x0.length : Int) then ((impl_barred.f x5 ((rd_T68 x0 x541000).f2)).bind fun t552 => (if ((rd_T68 x0 x541000).f0).size + t552.size ≤ 9223372036854775807 then (some (((rd_T68 x0 x541000).f0) ++ t552)) else (none))) else (none)) else (none))
def impl_FormatFact.f (k : Nat) (l0 : List (S68)) (a1_0 : Int) (l1_1 : List Int) : Option (ByteArray) := (impl_IsValidFact.f l0 a1_0 l1_1).bind fun t541 => (if t541 = true then (impl_FormatFact.l0 k l0 (([] : List ByteArray)) l1_1 (l1_1.length : Int) 0 a1_0 l1_1) else (some (⟨#[]⟩ : ByteArray)))
def impl_FormatFact.T10 : Bool × List (List Nat × List Nat) := (true, [([], []), ([0], [0]), ([], []), ([], []), ([3], [3]), ([2, 4], [2, 4]), ([1, 5], [1, 5]), ([6, 5, 0, 1, 2, 3, 4, 5, 6], [6])])
def impl_FormatFact.B10 : List Nat := [0, 1, 0, 0, 8, 28, 63, 127]
theorem impl_FormatFact.tab10 : rtab .any (opsOf Tryd.f15 10) = impl_FormatFact.T10 := by kernel_rfl
theorem impl_FormatFact.bits10 : waitsOk impl_FormatFact.T10.2 impl_FormatFact.B10 = true := by kernel_rfl
set_option maxHeartbeats 8000000 in
set_option maxRecDepth 100000 in
theorem impl_FormatFact.calls (k : Nat) (A0 : Option Addr) (c0 : Nat) (l0 : List (S68)) (a1_0 : Int) (A1_1 : Option Addr) (c1_1 : Nat) (l1_1 : List Int) (r : ByteArray) (w : World) (hr0 : Kd.C k68 w A0 l0.length l0) (hc0 : l0.length ≤ c0) (hr1_1 : Kd.C (Kd.int .i64) w A1_1 l1_1.length l1_1) (hc1_1 : l1_1.length ≤ c1_1) (h : impl_FormatFact.f k l0 a1_0 l1_1 = some r) (hp_ : Go.Proofs.YtckpikfbhlhhjaaDoor.Shelf.Pow w) :
  Calls Tryd.prog 15 #[.slice A0 l0.length c0, .agg #[.int .i64 a1_0, .slice A1_1 l1_1.length c1_1]] w fun e w' => e = .returned (.string r) ∧ Below w.heap.size w w' := by
 have hu39 := Tryd.underlying39
 have hu68 := Tryd.underlying68
 have HR0 := aM hr0
 have HC0 := aM hc0
 clear hr0 hc0
 have HR1_1 := aM hr1_1
 have HC1_1 := aM hc1_1
 clear hr1_1 hc1_1
 have HB := aM (Below.refl w.heap.size w)
 have H : ((impl_IsValidFact.f l0 a1_0 l1_1).bind fun t541 => (if t541 = true then (impl_FormatFact.l0 k l0 (([] : List ByteArray)) l1_1 (l1_1.length : Int) 0 a1_0 l1_1) else (some (⟨#[]⟩ : ByteArray)))) = some r := h
 clear h
 replace H := bM H
 obtain ⟨t541, A30, H⟩ := H
 have A3 := aM A30
 clear A30
 by_cases c4 : t541 = true
 ·subst c4
  replace H := iT H
  obtain ⟨y542, hy542⟩ : ∃ y_ : List ByteArray, y_ = (([] : List ByteArray)) := ⟨_, rfl⟩
  first | replace H := bY hy542 H | rw [← hy542] at H
  have Ny542 := aM hy542
  clear hy542
  have H' := aM H
  clear H
  go_enter Tryd.func15, Tryd.ntmps15
  go_wp2_with (first | ((with_reducible refine gate_dst (N := 3) rfl ?_); refine bE 3 (cs := #[.int .i64 a1_0, .slice A1_1 l1_1.length c1_1]) (t := 39) ?_; intro gb540 hg w5 hbox hb; have BK540 := aM (hbox); have GW540 := aM ((by rw [hg]; exact (below_size aB) : w.heap.size ≤ gb540)); have GE540 := aM ((by rw [hg]; exact (below_size aB) : w.heap.size ≤ gb540)); replace HB := aM (below_step aB hb); clear hb hbox hg; have hcz6_0 : w5.cell? ⟨gb540, 0, none⟩ = some (.int .i64 a1_0) := (blk_cell BK540.out 0).trans rfl; have hcz6_1 : w5.cell? ⟨gb540, 1, none⟩ = some (.slice A1_1 l1_1.length c1_1) := (blk_cell BK540.out 1).trans rfl; have hfz6_0 := blk_frozen BK540.out 0; have hfz6_1 := blk_frozen BK540.out 1) | ((with_reducible refine gate_callee (f := 50) rfl ?_); refine goesL_ (some 11) rfl rfl Tryd.func50 (by kernel_rfl) rfl #[.slice A0 l0.length c0, .agg #[.int .i64 a1_0, .slice A1_1 l1_1.length c1_1]] rfl aA ?_; (with_reducible refine (impl_IsValidFact.calls _ _ l0 a1_0 _ _ l1_1 true _ ?side1 ?side2 ?side3 ?side4 A3.out).mono ?_); (case side1 => exact aC); (case side2 => exact HC0.out); (case side3 => exact aC); (case side4 => exact HC1_1.out); rintro e w7 ⟨rfl, hb⟩; refine ⟨_, rfl, ?_⟩; replace BK540 := aM (kB gb540 #[.int .i64 a1_0, .slice A1_1 l1_1.length c1_1] 39 hb); replace HB := aM (below_step aG hb); (try clear hb); (try clear hb2); (try clear hk); (try clear hi)) | ((with_reducible refine gate_dst (N := 13) rfl ?_); refine Kd.R_lit Kd.string _ 9 ?hg (N := 13) ?hd (xs := ([] : List ByteArray)) (inner := []) (ok := fun _ => True) (okp := fun _ => True) ?hr ?hp (fun _ hk => hk) trivial (Below.refl _ _) (Nat.le_refl _) (by simp) ?_; (case hd => rfl); (case hg => rfl); (case hr => first | (go_simp; done) | (go_simp; rfl)); (case hp => exact (Reps.none _ _)); intro v543 w8 ho9 hb hg_ hnew_; clear hg_ hnew_; (first | rw [← Ny542.out] at ho9 | (simp only [Int.reduceToNat] at ho9; rw [← Ny542.out] at ho9)); have HO544 := aM (Kd.R_lower ho9 (below_size aG)); replace BK540 := aM (kB gb540 #[.int .i64 a1_0, .slice A1_1 l1_1.length c1_1] 39 hb); replace HB := aM (below_step aG hb); clear hb ho9; have hcz10_0 : w8.cell? ⟨gb540, 0, none⟩ = some (.int .i64 a1_0) := (blk_cell BK540.out 0).trans rfl; have hcz10_1 : w8.cell? ⟨gb540, 1, none⟩ = some (.slice A1_1 l1_1.length c1_1) := (blk_cell BK540.out 1).trans rfl; have hfz10_0 := blk_frozen BK540.out 0; have hfz10_1 := blk_frozen BK540.out 1))
  go_loopg [5, 17] k (fun kq v5 v17 w' => ∃ (x5_1 : List ByteArray) (x17_1 : Int), v17 = .int .i64 x17_1 ∧ Aside0 (impl_FormatFact.l0 kq l0 x5_1 l1_1 (l1_1.length : Int) x17_1 a1_0 l1_1 = some r) ∧ Aside0 (kq ≤ k) ∧ Aside0 (Kd.R Kd.string 9 w' w.heap.size (fun _ => True) v5 x5_1) ∧ Aside0 (w'.heap[gb540]? = some (.cells #[.int .i64 a1_0, (.slice A1_1 l1_1.length c1_1)] 39 (0, 0))) ∧ Aside0 (Below w.heap.size w w'))
  case atStart => exact ⟨(y542), (0), aX, H', ⟨Nat.le_refl _⟩, ⟨aR HO544⟩, ⟨aK⟩, ⟨aG⟩⟩
  case round =>
   clear H'
   try clear c1
   try clear p2
   try clear c4
   try clear c5
   try clear hcz10_0
   try clear hcz10_1
   try clear hcz6_0
   try clear hcz6_1
   try clear hfz10_0
   try clear hfz10_1
   try clear hfz6_0
   try clear hfz6_1
   obtain ⟨x5_1, x17_1, rfl, HA, HK1, HO_5, BK540, HB⟩ := hrel
   cases gk with
   | zero => exact absurd HA.out (by simp [impl_FormatFact.l0])
   | succ k1 =>
    have H := HA.out
    clear HA
    simp only [impl_FormatFact.l0] at H
    by_cases c11 : x17_1 < (l1_1.length : Int)
    ·rw [if_pos c11] at H
     have c11b0 : decide (x17_1 < (l1_1.length : Int)) = true := decide_eq_true c11
     clear c11
     by_cases c12 : 0 ≤ x17_1
     ·rw [if_pos c12] at H
      have c12b0 : decide (0 ≤ x17_1) = true := decide_eq_true c12
      clear c12
      by_cases c13 : x17_1 < (l1_1.length : Int)
      ·rw [if_pos c13] at H
       have c13b0 : decide (x17_1 < (l1_1.length : Int)) = true := decide_eq_true c13
       clear c13
       replace H := bM H
       obtain ⟨t546, A140, H⟩ := H
       have A14 := aM A140
       clear A140
       by_cases c15 : x5_1.length < 8796093022208
       ·rw [if_pos c15] at H
        have LMc15 := aM c15
        clear c15
        obtain ⟨y547, hy547⟩ : ∃ y_ : List ByteArray, y_ = (x5_1 ++ [t546]) := ⟨_, rfl⟩
        first | replace H := bY hy547 H | rw [← hy547] at H
        have Ny547 := aM hy547
        clear hy547
        have H' := aM H
        clear H
        have p545 : 0 ≤ (x17_1 : Int) := aD
        have q545 : x17_1 < (l1_1.length : Int) := aD
        obtain ⟨ad545, e545, hx545_0⟩ := Kd.at_int HR1_1.out x17_1 p545 q545
        cases e545
        replace hx545_0 := (HB.out.cell (World.block_lt_of_cell? w _ hx545_0)).trans hx545_0
        replace p545 := eq_true p545
        replace q545 := eq_true q545
        go_wp2_with (first | ((with_reducible refine gate_callee (f := 51) rfl ?_); refine goesL_ (some 23) rfl rfl Tryd.func51 (by kernel_rfl) rfl #[.int .i64 (rd l1_1 x17_1)] rfl aA ?_; (with_reducible refine (impl_FormatInt.calls (rd l1_1 x17_1) t546 _ A14.out (hp_.on aG)).mono ?_); rintro e w16 ⟨rfl, hb⟩; refine ⟨_, rfl, ?_⟩; replace HO_5 := aM (Kd.R_below (aR HO_5) hb); replace BK540 := aM (kB gb540 #[.int .i64 a1_0, .slice (some ad545) l1_1.length c1_1] 39 hb); replace HB := aM (below_step aG hb); (try clear hb); (try clear hb2); (try clear hk); (try clear hi)) | ((with_reducible refine gate_builtin (b := .append) (xs := #[.tmp 21, .tmp 24]) rfl ?_); at_builtin; refine Kd.R_append Kd.string (w0 := w) w.heap.size rfl (.tmp 21) (.tmp 24) 72 9 (.string ⟨#[]⟩) 16 rfl Tryd.underlying72 info9 rfl (by decide) (by omega) u5 x5_1 t546 [.string t546] (fun _ => True) (fun _ => False) rfl rfl ?aP (fun _ hk => hk.elim) ?aF ?aO ?aB ?aS ?aL ?_; (case aP => exact rfl); (case aB => exact aG); (case aF => exact (fun _ _ => trivial)); (case aO => exact (aR HO_5)); (case aS => exact (below_size aG)); (case aL => have := LMc15.out; omega); intro v548 w17 ho hb hg hat; rw [← Ny547.out] at ho; have HO549 := aM (ho); replace BK540 := aM (blk_grown (g := gb540) (o := .cells #[.int .i64 a1_0, .slice (some ad545) l1_1.length c1_1] 39 (0, 0)) aK hg (Kd.R_ne HO_5.out BK540.out (by decide))); replace HB := aM (hb); clear HO_5; clear ho hb hg hat))
        go_roundg k1
        case measure => have := HK1.out; omega
        case rel => exact ⟨(y547), (wrap64 (x17_1 + 1)), aX, H', ⟨by have := HK1.out; omega⟩, ⟨aR HO549⟩, ⟨aK⟩, ⟨aG⟩⟩
       ·rw [if_neg c15] at H
        exact absurd H (by simp)
      ·rw [if_neg c13] at H
       exact absurd H (by simp)
     ·rw [if_neg c12] at H
      exact absurd H (by simp)
    ·rw [if_neg c11] at H
     have c11b0 : decide (x17_1 < (l1_1.length : Int)) = false := decide_eq_false c11
     clear c11
     by_cases c18 : 0 ≤ a1_0
     ·rw [if_pos c18] at H
      have c18b0 : decide (0 ≤ a1_0) = true := decide_eq_true c18
      clear c18
      by_cases c19 : a1_0 < (l0.length : Int)
      ·rw [if_pos c19] at H
       have c19b0 : decide (a1_0 < (l0.length : Int)) = true := decide_eq_true c19
       clear c19
       replace H := bM H
       obtain ⟨t552, A200, H⟩ := H
       have A20 := aM A200
       clear A200
       by_cases c21 : ((rd_T68 l0 a1_0).f0).size + t552.size ≤ 9223372036854775807
       ·rw [if_pos c21] at H
        have c21b0 := eq_true c21
        have c21b1 : decide (((rd_T68 l0 a1_0).f0).size + t552.size ≤ 9223372036854775807) = true := decide_eq_true c21
        try have c21b2 : (9223372036854775807 < ((rd_T68 l0 a1_0).f0).size + t552.size) = False := eq_false (Nat.not_lt.2 c21)
        obtain rfl := Option.some.inj H
        have hcz22_0 : wr.cell? ⟨gb540, 0, none⟩ = some (.int .i64 a1_0) := (blk_cell BK540.out 0).trans rfl
        have hcz22_1 : wr.cell? ⟨gb540, 1, none⟩ = some (.slice A1_1 l1_1.length c1_1) := (blk_cell BK540.out 1).trans rfl
        have hfz22_0 := blk_frozen BK540.out 0
        have hfz22_1 := blk_frozen BK540.out 1
        have p550 : 0 ≤ (a1_0 : Int) := aD
        have q550 : a1_0 < (l0.length : Int) := aD
        obtain ⟨ad550, e550, hx550_0, hx550_1, hx550_2⟩ := at_T68 HR0.out a1_0 p550 q550
        cases e550
        replace hx550_0 := (HB.out.cell (World.block_lt_of_cell? w _ hx550_0)).trans hx550_0
        replace hx550_1 := (HB.out.cell (World.block_lt_of_cell? w _ hx550_1)).trans hx550_1
        replace hx550_2 := (HB.out.cell (World.block_lt_of_cell? w _ hx550_2)).trans hx550_2
        replace p550 := eq_true p550
        replace q550 := eq_true q550
        try go_wp2_with (first | ((with_reducible refine gate_dst (N := 8) rfl ?_); refine bE 8 (cs := #[.string (⟨#[]⟩ : ByteArray), .int .i64 0, .int .i64 0]) (t := 68) ?_; intro gb551 hg w23 hbox hb; have BK551 := aM (hbox); have GW551 := aM ((by rw [hg]; exact (below_size aG) : w.heap.size ≤ gb551)); have GE551 := aM ((by rw [hg]; exact (below_size aG) : w.heap.size ≤ gb551)); have NB540_551 := aM ((by rw [hg]; exact Nat.ne_of_lt (blk_lt (g := gb540) (o := .cells #[.int .i64 a1_0, .slice A1_1 l1_1.length c1_1] 39 (0, 0)) aK) : gb540 ≠ gb551)); have NB551_540 := aM ((by rw [hg]; exact Nat.ne_of_gt (blk_lt (g := gb540) (o := .cells #[.int .i64 a1_0, .slice A1_1 l1_1.length c1_1] 39 (0, 0)) aK) : gb551 ≠ gb540)); replace HO_5 := aM (Kd.R_below (aR HO_5) hb); replace BK540 := aM (kB gb540 #[.int .i64 a1_0, .slice A1_1 l1_1.length c1_1] 39 hb); replace HB := aM (below_step aG hb); clear hb hbox hg; have hnb24 := NB551_540.out; have hnc24 := NB540_551.out; have hcz25_0 : w23.cell? ⟨gb551, 0, none⟩ = some (.string (⟨#[]⟩ : ByteArray)) := (blk_cell BK551.out 0).trans rfl; have hcz25_1 : w23.cell? ⟨gb551, 1, none⟩ = some (.int .i64 0) := (blk_cell BK551.out 1).trans rfl; have hcz25_2 : w23.cell? ⟨gb551, 2, none⟩ = some (.int .i64 0) := (blk_cell BK551.out 2).trans rfl; have hfz25_0 := blk_frozen BK551.out 0; have hfz25_1 := blk_frozen BK551.out 1; have hfz25_2 := blk_frozen BK551.out 2))
        have n0_ : Aside0 (Kd.R Kd.string 9 (((w23.setCell ⟨gb551, 0, none⟩ (.string ((rd_T68 l0 a1_0).f0))).setCell ⟨gb551, 1, none⟩ (.int .i64 ((rd_T68 l0 a1_0).f1))).setCell ⟨gb551, 2, none⟩ (.int .i64 ((rd_T68 l0 a1_0).f2))) w.heap.size (fun _ => True) u5 x5_1) := ⟨by (with_reducible repeat apply pR); exact Kd.R_mono (Kd.R_far (p := ⟨gb551, 2, none⟩) (Kd.R_far (p := ⟨gb551, 1, none⟩) (Kd.R_far (p := ⟨gb551, 0, none⟩) (Kd.R_types HO_5.out BK551.out (by decide)) (fun _ hk => hk.2) (.string ((rd_T68 l0 a1_0).f0))) (fun _ hk => hk.2) (.int .i64 ((rd_T68 l0 a1_0).f1))) (fun _ hk => hk.2) (.int .i64 ((rd_T68 l0 a1_0).f2))) (fun _ hk => trivial)⟩
        have n1_ : Aside0 ((((w23.setCell ⟨gb551, 0, none⟩ (.string ((rd_T68 l0 a1_0).f0))).setCell ⟨gb551, 1, none⟩ (.int .i64 ((rd_T68 l0 a1_0).f1))).setCell ⟨gb551, 2, none⟩ (.int .i64 ((rd_T68 l0 a1_0).f2))).heap[gb540]? = some (.cells #[.int .i64 a1_0, .slice A1_1 l1_1.length c1_1] 39 (0, 0))) := ⟨by (with_reducible repeat refine pB ?_); refine blk_far ?_ NB540_551.out _; (with_reducible repeat refine pB ?_); refine blk_far ?_ NB540_551.out _; (with_reducible repeat refine pB ?_); refine blk_far ?_ NB540_551.out _; (with_reducible repeat refine pB ?_); exact BK540.out⟩
        have n2_ : Aside0 ((((w23.setCell ⟨gb551, 0, none⟩ (.string ((rd_T68 l0 a1_0).f0))).setCell ⟨gb551, 1, none⟩ (.int .i64 ((rd_T68 l0 a1_0).f1))).setCell ⟨gb551, 2, none⟩ (.int .i64 ((rd_T68 l0 a1_0).f2))).heap[gb551]? = some (.cells #[.string ((rd_T68 l0 a1_0).f0), .int .i64 ((rd_T68 l0 a1_0).f1), .int .i64 ((rd_T68 l0 a1_0).f2)] 68 (0, 0))) := ⟨by (with_reducible repeat refine pB ?_); refine blk_put (cs := #[.string ((rd_T68 l0 a1_0).f0), .int .i64 ((rd_T68 l0 a1_0).f1), .int .i64 0]) ?_ 2 _ rfl; (with_reducible repeat refine pB ?_); refine blk_put (cs := #[.string ((rd_T68 l0 a1_0).f0), .int .i64 0, .int .i64 0]) ?_ 1 _ rfl; (with_reducible repeat refine pB ?_); refine blk_put (cs := #[.string (⟨#[]⟩ : ByteArray), .int .i64 0, .int .i64 0]) ?_ 0 _ rfl; (with_reducible repeat refine pB ?_); exact BK551.out⟩
        have n3_ : Aside0 (Below w.heap.size w (((w23.setCell ⟨gb551, 0, none⟩ (.string ((rd_T68 l0 a1_0).f0))).setCell ⟨gb551, 1, none⟩ (.int .i64 ((rd_T68 l0 a1_0).f1))).setCell ⟨gb551, 2, none⟩ (.int .i64 ((rd_T68 l0 a1_0).f2)))) := ⟨aG⟩
        (try clear HO_5)
        (try clear BK540)
        (try clear BK551)
        (try clear HB)
        generalize (((w23.setCell ⟨gb551, 0, none⟩ (.string ((rd_T68 l0 a1_0).f0))).setCell ⟨gb551, 1, none⟩ (.int .i64 ((rd_T68 l0 a1_0).f1))).setCell ⟨gb551, 2, none⟩ (.int .i64 ((rd_T68 l0 a1_0).f2))) = w26 at n0_ n1_ n2_ n3_ ⊢
        have HO_5 := n0_
        have BK540 := n1_
        have BK551 := n2_
        have HB := n3_
        clear n0_ n1_ n2_ n3_
        replace HO_5 := aM (Kd.R_drew HO_5.out)
        replace BK540 := aM (blk_drew BK540.out)
        replace BK551 := aM (blk_drew BK551.out)
        replace HB := aM (below_drew1 HB.out)
        obtain ⟨Ao28, co28, eo28⟩ := Kd.R_slice HO_5.out
        (first | subst eo28 | (injection eo28 with f1_ f2_ f3_; have f4_ := f1_.symm; have f5_ := f3_.symm; clear f1_ f2_ f3_; subst f4_; subst f5_))
        refine start_ (n := 8) (S := fun w' => w'.cell? ⟨gb551, 0, none⟩ = some (.string ((rd_T68 l0 a1_0).f0)) ∧ w'.cell? ⟨gb551, 1, none⟩ = some (.int .i64 ((rd_T68 l0 a1_0).f1)) ∧ w'.cell? ⟨gb551, 2, none⟩ = some (.int .i64 ((rd_T68 l0 a1_0).f2))) (ds := []) #[false, false, false, false, false, false, false, false] (by kernel_rfl) rfl rfl ⟨(blk_cell BK551.out 0).trans rfl, (blk_cell BK551.out 1).trans rfl, (blk_cell BK551.out 2).trans rfl⟩ (fun hHeld => ?_); refine with_tabW impl_FormatFact.tab10 impl_FormatFact.bits10 (fun HT_ HW_ => ?_)
        generalize w26.drew = w27 at HO_5 BK540 BK551 HB hHeld ⊢
        refine pU 0 32 ?_
        refine pU 2 34 ?_
        refine pU 3 35 ?_
        refine tU3 1 33 hHeld ?_
        refine tU3 4 36 hHeld ?_
        refine oU 5 37 (fun K hK => ?_)
        refine goes_ Tryd.func52 (by kernel_rfl) rfl #[.slice Ao28 x5_1.length co28, .int .i64 ((rd_T68 l0 a1_0).f2)] (by rfl) rfl rfl aA ?_
        with_reducible refine (impl_barred.calls _ _ x5_1 ((rd_T68 l0 a1_0).f2) t552 _ ?side1 ?side2 A20.out).mono ?_
        (case side1 => repeat (first | exact (Kd.R_reads' HO_5.out).2.2 | (with_reducible refine pC ?_)))
        (case side2 => exact (Kd.R_reads' HO_5.out).2.1)
        rintro e w29 ⟨rfl, hb⟩
        refine ⟨_, rfl, ?_⟩
        have n0_ := aM (Kd.R_below (aR HO_5) hb)
        have n1_ := aM (kB gb540 #[.int .i64 a1_0, .slice A1_1 l1_1.length c1_1] 39 hb)
        have n2_ := aM (kB gb551 #[.string ((rd_T68 l0 a1_0).f0), .int .i64 ((rd_T68 l0 a1_0).f1), .int .i64 ((rd_T68 l0 a1_0).f2)] 68 hb)
        have n3_ := aM (below_step aG hb)
        clear HO_5
        clear BK540
        clear BK551
        clear HB
        have HO_5 := n0_
        have BK540 := n1_
        have BK551 := n2_
        have HB := n3_
        clear n0_ n1_ n2_ n3_
        (try clear hb)
        (try clear hb2)
        (try clear hk)
        (try clear hi)
        refine hK.out _ _ ⟨(blk_cell BK551.out 0).trans rfl, (blk_cell BK551.out 1).trans rfl, (blk_cell BK551.out 2).trans rfl⟩ (fun hHeld => ?_)
        clear hK K
        refine nU 37 ?_
        refine pU 6 38 ?_
        refine pU 7 4 ?_
        refine done_ (done_of HT_.out (by kernel_rfl)) ?_
        try go_wp2
        go_ret
        exact ⟨aE, aG⟩
       ·rw [if_neg c21] at H
        exact absurd H (by simp)
      ·rw [if_neg c19] at H
       exact absurd H (by simp)
     ·rw [if_neg c18] at H
      exact absurd H (by simp)
 ·replace c4 := Bool.eq_false_iff.mpr c4
  subst c4
  have H1 : (some (⟨#[]⟩ : ByteArray)) = some r := by rw [if_neg (show ¬ (false = true) by decide)] at H; exact H
  clear H
  have H := H1
  clear H1
  obtain rfl := Option.some.inj H
  go_enter Tryd.func15, Tryd.ntmps15
  go_wp2_with (first | ((with_reducible refine gate_dst (N := 3) rfl ?_); refine bE 3 (cs := #[.int .i64 a1_0, .slice A1_1 l1_1.length c1_1]) (t := 39) ?_; intro gb540 hg w30 hbox hb; have BK540 := aM (hbox); have GW540 := aM ((by rw [hg]; exact (below_size aB) : w.heap.size ≤ gb540)); have GE540 := aM ((by rw [hg]; exact (below_size aB) : w.heap.size ≤ gb540)); replace HB := aM (below_step aB hb); clear hb hbox hg; have hcz31_0 : w30.cell? ⟨gb540, 0, none⟩ = some (.int .i64 a1_0) := (blk_cell BK540.out 0).trans rfl; have hcz31_1 : w30.cell? ⟨gb540, 1, none⟩ = some (.slice A1_1 l1_1.length c1_1) := (blk_cell BK540.out 1).trans rfl; have hfz31_0 := blk_frozen BK540.out 0; have hfz31_1 := blk_frozen BK540.out 1) | ((with_reducible refine gate_callee (f := 50) rfl ?_); refine goesL_ (some 11) rfl rfl Tryd.func50 (by kernel_rfl) rfl #[.slice A0 l0.length c0, .agg #[.int .i64 a1_0, .slice A1_1 l1_1.length c1_1]] rfl aA ?_; (with_reducible refine (impl_IsValidFact.calls _ _ l0 a1_0 _ _ l1_1 false _ ?side1 ?side2 ?side3 ?side4 A3.out).mono ?_); (case side1 => exact aC); (case side2 => exact HC0.out); (case side3 => exact aC); (case side4 => exact HC1_1.out); rintro e w32 ⟨rfl, hb⟩; refine ⟨_, rfl, ?_⟩; replace BK540 := aM (kB gb540 #[.int .i64 a1_0, .slice A1_1 l1_1.length c1_1] 39 hb); replace HB := aM (below_step aG hb); (try clear hb); (try clear hb2); (try clear hk); (try clear hi)))
  go_ret
  exact ⟨aE, aG⟩

/-! ### impl_formatAll: function 45 -/
def impl_formatAll.l0 : Nat → List ByteArray → List (S39) → Int → Int → List (S68) → List (S39) → Option (ByteArray)
 | 0, _, _, _, _, _, _ => none
 | k + 1, x3, x8, x9, x10, x554000, x554001 => if x10 < x9 then (if 0 ≤ x10 then (if x10 < (x8.length : Int) then ((impl_FormatFact.f k x554000 ((rd_T39 x8 x10).f0) ((rd_T39 x8 x10).f1)).bind fun t559 => (if x3.length < 8796093022208 then (impl_formatAll.l0 k (x3 ++ [t559]) x8 x9 (wrap64 (x10 + 1)) x554000 x554001) else (none))) else (none)) else (none)) else ((strings_Join.f x3 (⟨#[32]⟩ : ByteArray)).bind fun t563 => (some t563))
def impl_formatAll.f (k : Nat) (l0_0 : List (S68)) (l0_1 : List (S39)) : Option (ByteArray) := impl_formatAll.l0 k (([] : List ByteArray)) l0_1 (l0_1.length : Int) 0 l0_0 l0_1
set_option maxHeartbeats 8000000 in
set_option maxRecDepth 100000 in
theorem impl_formatAll.calls (k : Nat) (A0_0 : Option Addr) (c0_0 : Nat) (l0_0 : List (S68)) (A0_1 : Option Addr) (c0_1 : Nat) (l0_1 : List (S39)) (r : ByteArray) (w : World) (hr0_0 : Kd.C k68 w A0_0 l0_0.length l0_0) (hc0_0 : l0_0.length ≤ c0_0) (hr0_1 : Kd.C k39 w A0_1 l0_1.length l0_1) (hc0_1 : l0_1.length ≤ c0_1) (h : impl_formatAll.f k l0_0 l0_1 = some r) (hp_ : Go.Proofs.YtckpikfbhlhhjaaDoor.Shelf.Pow w) :
  Calls Tryd.prog 45 #[.agg #[.slice A0_0 l0_0.length c0_0, .slice A0_1 l0_1.length c0_1]] w fun e w' => e = .returned (.string r) ∧ Below w.heap.size w w' := by
 have hu31 := Tryd.underlying31
 have hu39 := Tryd.underlying39
 have HR0_0 := aM hr0_0
 have HC0_0 := aM hc0_0
 clear hr0_0 hc0_0
 have HR0_1 := aM hr0_1
 have HC0_1 := aM hc0_1
 clear hr0_1 hc0_1
 have HB := aM (Below.refl w.heap.size w)
 have H : (impl_formatAll.l0 k (([] : List ByteArray)) l0_1 (l0_1.length : Int) 0 l0_0 l0_1) = some r := h
 clear h
 obtain ⟨y554, hy554⟩ : ∃ y_ : List ByteArray, y_ = (([] : List ByteArray)) := ⟨_, rfl⟩
 first | replace H := bY hy554 H | rw [← hy554] at H
 have Ny554 := aM hy554
 clear hy554
 have H' := aM H
 clear H
 go_enter Tryd.func45, Tryd.ntmps45
 go_wp2_with (first | ((with_reducible refine gate_dst (N := 1) rfl ?_); refine bE 1 (cs := #[.slice A0_0 l0_0.length c0_0, .slice A0_1 l0_1.length c0_1]) (t := 31) ?_; intro gb553 hg w2 hbox hb; have BK553 := aM (hbox); have GW553 := aM ((by rw [hg]; exact (below_size aB) : w.heap.size ≤ gb553)); have GE553 := aM ((by rw [hg]; exact (below_size aB) : w.heap.size ≤ gb553)); replace HB := aM (below_step aB hb); clear hb hbox hg) | ((with_reducible refine gate_dst (N := 6) rfl ?_); refine Kd.R_lit Kd.string _ 9 ?hg (N := 6) ?hd (xs := ([] : List ByteArray)) (inner := []) (ok := fun _ => True) (okp := fun _ => True) ?hr ?hp (fun _ hk => hk) trivial (Below.refl _ _) (Nat.le_refl _) (by simp) ?_; (case hd => rfl); (case hg => rfl); (case hr => first | (go_simp; done) | (go_simp; rfl)); (case hp => exact (Reps.none _ _)); intro v555 w3 ho4 hb hg_ hnew_; clear hg_ hnew_; (first | rw [← Ny554.out] at ho4 | (simp only [Int.reduceToNat] at ho4; rw [← Ny554.out] at ho4)); have HO556 := aM (Kd.R_lower ho4 (below_size aG)); replace BK553 := aM (kB gb553 #[.slice A0_0 l0_0.length c0_0, .slice A0_1 l0_1.length c0_1] 31 hb); replace HB := aM (below_step aG hb); clear hb ho4; have hcz5_0 : w3.cell? ⟨gb553, 0, none⟩ = some (.slice A0_0 l0_0.length c0_0) := (blk_cell BK553.out 0).trans rfl; have hcz5_1 : w3.cell? ⟨gb553, 1, none⟩ = some (.slice A0_1 l0_1.length c0_1) := (blk_cell BK553.out 1).trans rfl; have hfz5_0 := blk_frozen BK553.out 0; have hfz5_1 := blk_frozen BK553.out 1))
 go_loopg [3, 10] k (fun kq v3 v10 w' => ∃ (x3_1 : List ByteArray) (x10_1 : Int), v10 = .int .i64 x10_1 ∧ Aside0 (impl_formatAll.l0 kq x3_1 l0_1 (l0_1.length : Int) x10_1 l0_0 l0_1 = some r) ∧ Aside0 (kq ≤ k) ∧ Aside0 (Kd.R Kd.string 9 w' w.heap.size (fun _ => True) v3 x3_1) ∧ Aside0 (w'.heap[gb553]? = some (.cells #[(.slice A0_0 l0_0.length c0_0), (.slice A0_1 l0_1.length c0_1)] 31 (0, 0))) ∧ Aside0 (Below w.heap.size w w'))
 case atStart => exact ⟨(y554), (0), aX, H', ⟨Nat.le_refl _⟩, ⟨aR HO556⟩, ⟨aK⟩, ⟨aG⟩⟩
 case round =>
  clear H'
  try clear p2
  try clear c4
  try clear hcz5_0
  try clear hcz5_1
  try clear hfz5_0
  try clear hfz5_1
  obtain ⟨x3_1, x10_1, rfl, HA, HK1, HO_3, BK553, HB⟩ := hrel
  cases gk with
  | zero => exact absurd HA.out (by simp [impl_formatAll.l0])
  | succ k1 =>
   have H := HA.out
   clear HA
   simp only [impl_formatAll.l0] at H
   by_cases c6 : x10_1 < (l0_1.length : Int)
   ·rw [if_pos c6] at H
    have c6b0 : decide (x10_1 < (l0_1.length : Int)) = true := decide_eq_true c6
    clear c6
    by_cases c7 : 0 ≤ x10_1
    ·rw [if_pos c7] at H
     have c7b0 : decide (0 ≤ x10_1) = true := decide_eq_true c7
     clear c7
     by_cases c8 : x10_1 < (l0_1.length : Int)
     ·rw [if_pos c8] at H
      have c8b0 : decide (x10_1 < (l0_1.length : Int)) = true := decide_eq_true c8
      clear c8
      replace H := bM H
      obtain ⟨t559, A90, H⟩ := H
      have A9 := aM A90
      clear A90
      by_cases c10 : x3_1.length < 8796093022208
      ·rw [if_pos c10] at H
       have LMc10 := aM c10
       clear c10
       obtain ⟨y560, hy560⟩ : ∃ y_ : List ByteArray, y_ = (x3_1 ++ [t559]) := ⟨_, rfl⟩
       first | replace H := bY hy560 H | rw [← hy560] at H
       have Ny560 := aM hy560
       clear hy560
       have H' := aM H
       clear H
       have p557 : 0 ≤ (x10_1 : Int) := aD
       have q557 : x10_1 < (l0_1.length : Int) := aD
       obtain ⟨ad557, A557_1, c557_1, e557, hx557_0, hx557_1, hl557_1, hi557_1⟩ := at_T39 HR0_1.out x10_1 p557 q557
       cases e557
       replace hx557_0 := (HB.out.cell (World.block_lt_of_cell? w _ hx557_0)).trans hx557_0
       replace hx557_1 := (HB.out.cell (World.block_lt_of_cell? w _ hx557_1)).trans hx557_1
       have HR557_1 := aM hi557_1
       have HC557_1 := aM hl557_1
       clear hi557_1 hl557_1
       replace p557 := eq_true p557
       replace q557 := eq_true q557
       go_wp2_with (first | ((with_reducible refine gate_dst (N := 5) rfl ?_); refine bE 5 (cs := #[.int .i64 0, .slice none 0 0]) (t := 39) ?_; intro gb558 hg w11 hbox hb; have BK558 := aM (hbox); have GW558 := aM ((by rw [hg]; exact (below_size aG) : w.heap.size ≤ gb558)); have GE558 := aM ((by rw [hg]; exact (below_size aG) : w.heap.size ≤ gb558)); have NB553_558 := aM ((by rw [hg]; exact Nat.ne_of_lt (blk_lt (g := gb553) (o := .cells #[.slice A0_0 l0_0.length c0_0, .slice (some ad557) l0_1.length c0_1] 31 (0, 0)) aK) : gb553 ≠ gb558)); have NB558_553 := aM ((by rw [hg]; exact Nat.ne_of_gt (blk_lt (g := gb553) (o := .cells #[.slice A0_0 l0_0.length c0_0, .slice (some ad557) l0_1.length c0_1] 31 (0, 0)) aK) : gb558 ≠ gb553)); replace HO_3 := aM (Kd.R_below (aR HO_3) hb); replace BK553 := aM (kB gb553 #[.slice A0_0 l0_0.length c0_0, .slice (some ad557) l0_1.length c0_1] 31 hb); replace HB := aM (below_step aG hb); clear hb hbox hg; have hnb12 := NB558_553.out; have hnc12 := NB553_558.out; have hcz13_0 : w11.cell? ⟨gb558, 0, none⟩ = some (.int .i64 0) := (blk_cell BK558.out 0).trans rfl; have hcz13_1 : w11.cell? ⟨gb558, 1, none⟩ = some (.slice none 0 0) := (blk_cell BK558.out 1).trans rfl; have hfz13_0 := blk_frozen BK558.out 0; have hfz13_1 := blk_frozen BK558.out 1; have hcz14_0 : w11.cell? ⟨gb553, 0, none⟩ = some (.slice A0_0 l0_0.length c0_0) := (blk_cell BK553.out 0).trans rfl; have hcz14_1 : w11.cell? ⟨gb553, 1, none⟩ = some (.slice (some ad557) l0_1.length c0_1) := (blk_cell BK553.out 1).trans rfl; have hfz14_0 := blk_frozen BK553.out 0; have hfz14_1 := blk_frozen BK553.out 1) | ((with_reducible refine gate_callee (f := 15) rfl ?_); refine goesL_ (some 18) rfl rfl Tryd.func15 (by kernel_rfl) rfl #[.slice A0_0 l0_0.length c0_0, .agg #[.int .i64 ((rd_T39 l0_1 x10_1).f0), .slice A557_1 ((rd_T39 l0_1 x10_1).f1).length c557_1]] rfl aA ?_; (with_reducible refine (impl_FormatFact.calls k1 _ _ l0_0 ((rd_T39 l0_1 x10_1).f0) _ _ ((rd_T39 l0_1 x10_1).f1) t559 _ ?side1 ?side2 ?side3 ?side4 A9.out (hp_.on aG)).mono ?_); (case side1 => exact Kd.C_below HR0_0.out aG); (case side2 => exact HC0_0.out); (case side3 => exact Kd.C_below HR557_1.out aG); (case side4 => exact HC557_1.out); rintro e w15 ⟨rfl, hb⟩; refine ⟨_, rfl, ?_⟩; replace HO_3 := aM (Kd.R_below (by (with_reducible repeat apply pR); exact (Kd.R_mono (Kd.R_far (p := ⟨gb558, 1, none⟩) (Kd.R_far (p := ⟨gb558, 0, none⟩) (Kd.R_types HO_3.out BK558.out (by decide)) (fun _ hk => hk.2) (.int .i64 ((rd_T39 l0_1 x10_1).f0))) (fun _ hk => hk.2) (.slice A557_1 ((rd_T39 l0_1 x10_1).f1).length c557_1)) (fun _ h_ => h_.1))) hb); replace BK553 := aM (blk_below (g := gb553) (o := .cells #[.slice A0_0 l0_0.length c0_0, .slice (some ad557) l0_1.length c0_1] 31 (0, 0)) (by (with_reducible repeat refine pB ?_); refine blk_far ?_ NB553_558.out _; (with_reducible repeat refine pB ?_); refine blk_far ?_ NB553_558.out _; (with_reducible repeat refine pB ?_); exact BK553.out) hb); replace BK558 := aM (blk_below (g := gb558) (o := .cells #[.int .i64 ((rd_T39 l0_1 x10_1).f0), .slice A557_1 ((rd_T39 l0_1 x10_1).f1).length c557_1] 39 (0, 0)) (by (with_reducible repeat refine pB ?_); refine blk_put (cs := #[.int .i64 ((rd_T39 l0_1 x10_1).f0), .slice none 0 0]) ?_ 1 _ rfl; (with_reducible repeat refine pB ?_); refine blk_put (cs := #[.int .i64 0, .slice none 0 0]) ?_ 0 _ rfl; (with_reducible repeat refine pB ?_); exact BK558.out) hb); replace HB := aM (below_step aG hb); (try clear hb); (try clear hb2); (try clear hk); (try clear hi)) | ((with_reducible refine gate_builtin (b := .append) (xs := #[.tmp 14, .tmp 19]) rfl ?_); at_builtin; refine Kd.R_append Kd.string (w0 := w) w.heap.size rfl (.tmp 14) (.tmp 19) 72 9 (.string ⟨#[]⟩) 16 rfl Tryd.underlying72 info9 rfl (by decide) (by omega) u3 x3_1 t559 [.string t559] (fun _ => True) (fun _ => False) rfl rfl ?aP (fun _ hk => hk.elim) ?aF ?aO ?aB ?aS ?aL ?_; (case aP => exact rfl); (case aB => exact aG); (case aF => exact (fun _ _ => trivial)); (case aO => exact (aR HO_3)); (case aS => exact (below_size aG)); (case aL => have := LMc10.out; omega); intro v561 w16 ho hb hg hat; rw [← Ny560.out] at ho; have n0_ := aM (blk_grown (g := gb553) (o := .cells #[.slice A0_0 l0_0.length c0_0, .slice (some ad557) l0_1.length c0_1] 31 (0, 0)) aK hg (Kd.R_ne HO_3.out BK553.out (by decide))); have n1_ := aM (blk_grown (g := gb558) (o := .cells #[.int .i64 ((rd_T39 l0_1 x10_1).f0), .slice A557_1 ((rd_T39 l0_1 x10_1).f1).length c557_1] 39 (0, 0)) aK hg (Kd.R_ne HO_3.out BK558.out (by decide))); have n2_ := aM (hb); have n3_ := aM (ho); clear BK553; clear BK558; clear HB; clear HO_3; have BK553 := n0_; have BK558 := n1_; have HB := n2_; have HO562 := n3_; clear n0_ n1_ n2_ n3_; clear ho hb hg hat))
       go_roundg k1
       case measure => have := HK1.out; omega
       case rel => exact ⟨(y560), (wrap64 (x10_1 + 1)), aX, H', ⟨by have := HK1.out; omega⟩, ⟨aR HO562⟩, ⟨aK⟩, ⟨aG⟩⟩
      ·rw [if_neg c10] at H
       exact absurd H (by simp)
     ·rw [if_neg c8] at H
      exact absurd H (by simp)
    ·rw [if_neg c7] at H
     exact absurd H (by simp)
   ·rw [if_neg c6] at H
    have c6b0 : decide (x10_1 < (l0_1.length : Int)) = false := decide_eq_false c6
    clear c6
    replace H := bM H
    obtain ⟨t563, A170, H⟩ := H
    have A17 := aM A170
    clear A170
    obtain rfl := Option.some.inj H
    obtain ⟨Ao18, co18, eo18⟩ := Kd.R_slice HO_3.out
    subst eo18
    go_wp2_with (first | ((with_reducible refine gate_callee (f := 44) rfl ?_); refine goesL_ (some 23) rfl rfl Tryd.func44 (by kernel_rfl) rfl #[.slice Ao18 x3_1.length co18, .string (⟨#[32]⟩ : ByteArray)] rfl aA ?_; (with_reducible refine (strings_Join.calls _ _ x3_1 (⟨#[32]⟩ : ByteArray) t563 _ ?side1 ?side2 A17.out).mono ?_); (case side1 => repeat (first | exact (Kd.R_reads' HO_3.out).2.2 | (with_reducible refine pC ?_))); (case side2 => exact (Kd.R_reads' HO_3.out).2.1); rintro e w19 ⟨rfl, hb⟩; refine ⟨_, rfl, ?_⟩; replace HO_3 := aM (Kd.R_below (aR HO_3) hb); replace BK553 := aM (kB gb553 #[.slice A0_0 l0_0.length c0_0, .slice A0_1 l0_1.length c0_1] 31 hb); replace HB := aM (below_step aG hb); (try clear hb); (try clear hb2); (try clear hk); (try clear hi)))
    go_ret
    exact ⟨aE, aG⟩

/-! ### impl_FormatFacts: function 31 -/
def impl_FormatFacts.f (k : Nat) (l0_0 : List (S68)) (l0_1 : List (S39)) (l1 : List Int) : Option (ByteArray) := (impl_SelectFacts.f k l0_0 l0_1 l1).bind fun bt565 => (if bt565.2.2 = true then ((impl_formatAll.f k bt565.1 bt565.2.1).bind fun t573 => (some t573)) else (some (⟨#[]⟩ : ByteArray)))
set_option maxHeartbeats 8000000 in
set_option maxRecDepth 100000 in
theorem impl_FormatFacts.calls (k : Nat) (A0_0 : Option Addr) (c0_0 : Nat) (l0_0 : List (S68)) (A0_1 : Option Addr) (c0_1 : Nat) (l0_1 : List (S39)) (A1 : Option Addr) (c1 : Nat) (l1 : List Int) (r : ByteArray) (w : World) (hr0_0 : Kd.C k68 w A0_0 l0_0.length l0_0) (hc0_0 : l0_0.length ≤ c0_0) (hr0_1 : Kd.C k39 w A0_1 l0_1.length l0_1) (hc0_1 : l0_1.length ≤ c0_1) (hr1 : Kd.C (Kd.int .i64) w A1 l1.length l1) (hc1 : l1.length ≤ c1) (h : impl_FormatFacts.f k l0_0 l0_1 l1 = some r) (hp_ : Go.Proofs.YtckpikfbhlhhjaaDoor.Shelf.Pow w) :
  Calls Tryd.prog 31 #[.agg #[.slice A0_0 l0_0.length c0_0, .slice A0_1 l0_1.length c0_1], .slice A1 l1.length c1] w fun e w' => e = .returned (.string r) ∧ Below w.heap.size w w' := by
 have hu31 := Tryd.underlying31
 have HR0_0 := aM hr0_0
 have HC0_0 := aM hc0_0
 clear hr0_0 hc0_0
 have HR0_1 := aM hr0_1
 have HC0_1 := aM hc0_1
 clear hr0_1 hc0_1
 have HR1 := aM hr1
 have HC1 := aM hc1
 clear hr1 hc1
 have HB := aM (Below.refl w.heap.size w)
 have H : ((impl_SelectFacts.f k l0_0 l0_1 l1).bind fun bt565 => (if bt565.2.2 = true then ((impl_formatAll.f k bt565.1 bt565.2.1).bind fun t573 => (some t573)) else (some (⟨#[]⟩ : ByteArray)))) = some r := h
 clear h
 replace H := bM H
 obtain ⟨⟨t565, t568, t571⟩, A30, H⟩ := H
 dsimp only at H
 have A3 := aM A30
 clear A30
 by_cases c4 : t571 = true
 ·subst c4
  replace H := iT H
  replace H := bM H
  obtain ⟨t573, A50, H⟩ := H
  have A5 := aM A50
  clear A50
  obtain rfl := Option.some.inj H
  go_enter Tryd.func31, Tryd.ntmps31
  go_wp2_with (first | ((with_reducible refine gate_dst (N := 2) rfl ?_); refine bE 2 (cs := #[.slice A0_0 l0_0.length c0_0, .slice A0_1 l0_1.length c0_1]) (t := 31) ?_; intro gb564 hg w6 hbox hb; have BK564 := aM (hbox); have GW564 := aM ((by rw [hg]; exact (below_size aB) : w.heap.size ≤ gb564)); have GE564 := aM ((by rw [hg]; exact (below_size aB) : w.heap.size ≤ gb564)); replace HB := aM (below_step aB hb); clear hb hbox hg; have hcz7_0 : w6.cell? ⟨gb564, 0, none⟩ = some (.slice A0_0 l0_0.length c0_0) := (blk_cell BK564.out 0).trans rfl; have hcz7_1 : w6.cell? ⟨gb564, 1, none⟩ = some (.slice A0_1 l0_1.length c0_1) := (blk_cell BK564.out 1).trans rfl; have hfz7_0 := blk_frozen BK564.out 0; have hfz7_1 := blk_frozen BK564.out 1) | ((with_reducible refine gate_callee (f := 28) rfl ?_); refine goesL_ (some 10) rfl rfl Tryd.func28 (by kernel_rfl) rfl #[.agg #[.slice A0_0 l0_0.length c0_0, .slice A0_1 l0_1.length c0_1], .slice A1 l1.length c1] rfl aA ?_; (with_reducible refine (impl_SelectFacts.calls k _ _ l0_0 _ _ l0_1 _ _ l1 t565 t568 true _ ?side1 ?side2 ?side3 ?side4 ?side5 ?side6 A3.out).mono ?_); (case side1 => exact aC); (case side2 => exact HC0_0.out); (case side3 => exact aC); (case side4 => exact HC0_1.out); (case side5 => exact aC); (case side6 => exact HC1.out); rintro e w8 ⟨v566, v569, rfl, ho0, ho1, hb⟩; refine ⟨_, rfl, ?_⟩; have HO567 := aM (Kd.R_lower (Kd.R_mono (ok' := fun k_ => True) ho0 (fun _ hk_ => trivial)) (below_size aG)); have HO570 := aM (Kd.N_lower (Kd.N_mono (ok' := fun k_ => some k_ ≠ (v566 : Value).ownBlock ∧ k_ ≠ gb564) ho1 (fun k_ hk_ => ⟨hk_.2, (Kd.freshB (g := gb564) (o := .cells #[.slice A0_0 l0_0.length c0_0, .slice A0_1 l0_1.length c0_1] 31 (0, 0)) aK k_ hk_.1)⟩)) (below_size aG)); replace BK564 := aM (kB gb564 #[.slice A0_0 l0_0.length c0_0, .slice A0_1 l0_1.length c0_1] 31 hb); replace HB := aM (below_step aG hb); (try clear hb); (try clear hb2); (try clear hk); (try clear hi); (try clear ho0); (try clear ho1)) | ((with_reducible refine gate_dst (N := 5) rfl ?_); refine bE 5 (cs := #[.slice none 0 0, .slice none 0 0]) (t := 31) ?_; intro gb572 hg w9 hbox hb; have BK572 := aM (hbox); have GW572 := aM ((by rw [hg]; exact (below_size aG) : w.heap.size ≤ gb572)); have GE572 := aM ((by rw [hg]; exact (below_size aG) : w.heap.size ≤ gb572)); have NB564_572 := aM ((by rw [hg]; exact Nat.ne_of_lt (blk_lt (g := gb564) (o := .cells #[.slice A0_0 l0_0.length c0_0, .slice A0_1 l0_1.length c0_1] 31 (0, 0)) aK) : gb564 ≠ gb572)); have NB572_564 := aM ((by rw [hg]; exact Nat.ne_of_gt (blk_lt (g := gb564) (o := .cells #[.slice A0_0 l0_0.length c0_0, .slice A0_1 l0_1.length c0_1] 31 (0, 0)) aK) : gb572 ≠ gb564)); replace HO567 := aM (Kd.R_below (aR HO567) hb); replace HO570 := aM (Kd.N_below (Kd.N_elderB (aN HO570) gb572 (Nat.le_of_eq hg.symm)) hb); replace BK564 := aM (kB gb564 #[.slice A0_0 l0_0.length c0_0, .slice A0_1 l0_1.length c0_1] 31 hb); replace HB := aM (below_step aG hb); clear hb hbox hg; obtain ⟨Ao10, co10, eo10⟩ := Kd.R_slice HO567.out; subst eo10; have hnb11 := NB572_564.out; have hnc11 := NB564_572.out; have hcz12_0 : w9.cell? ⟨gb572, 0, none⟩ = some (.slice none 0 0) := (blk_cell BK572.out 0).trans rfl; have hcz12_1 : w9.cell? ⟨gb572, 1, none⟩ = some (.slice none 0 0) := (blk_cell BK572.out 1).trans rfl; have hfz12_0 := blk_frozen BK572.out 0; have hfz12_1 := blk_frozen BK572.out 1; obtain ⟨Ao13, co13, eo13⟩ := Kd.N_slice HO570.out; subst eo13) | ((with_reducible refine gate_callee (f := 45) rfl ?_); refine goesL_ (some 16) rfl rfl Tryd.func45 (by kernel_rfl) rfl #[.agg #[.slice Ao10 t565.length co10, .slice Ao13 t568.length co13]] rfl aA ?_; (with_reducible refine (impl_formatAll.calls k _ _ t565 _ _ t568 t573 _ ?side1 ?side2 ?side3 ?side4 A5.out (hp_.on aG)).mono ?_); (case side1 => refine (Kd.R_reads' (e := 68) (base := w.heap.size) (ok := fun k_ => True) (n := t565.length) (c := co10) ?_).2.2; exact (by (with_reducible repeat apply pR); exact (Kd.R_mono (Kd.R_far (p := ⟨gb572, 1, none⟩) (Kd.R_far (p := ⟨gb572, 0, none⟩) (Kd.R_types HO567.out BK572.out (by decide)) (fun _ hk => hk.2) (.slice Ao10 t565.length co10)) (fun _ hk => hk.2) (.slice Ao13 t568.length co13)) (fun _ h_ => h_.1)))); (case side2 => exact (Kd.R_reads' HO567.out).2.1); (case side3 => refine (Kd.N_reads' (e := 39) (base := w.heap.size) (ok := fun k_ => ((some k_ ≠ (.slice Ao10 t565.length co10 : Value).ownBlock ∧ k_ ≠ gb564) ∧ k_ ≠ gb572)) (n := t568.length) (c := co13) ?_).2.2; exact (by (with_reducible repeat apply pN); exact (Kd.N_mono (Kd.N_far (p := ⟨gb572, 1, none⟩) (Kd.N_far (p := ⟨gb572, 0, none⟩) (Kd.N_mono HO570.out (fun k_ hk => (⟨hk, hk.2⟩ : _ ∧ k_ ≠ gb572))) (fun _ hk => hk.2) (.slice Ao10 t565.length co10)) (fun _ hk => hk.2) (.slice Ao13 t568.length co13)) (fun _ h_ => h_.1)))); (case side4 => exact (Kd.N_reads' HO570.out).2.1); rintro e w14 ⟨rfl, hb⟩; refine ⟨_, rfl, ?_⟩; replace HO567 := aM (Kd.R_below (by (with_reducible repeat apply pR); exact (Kd.R_mono (Kd.R_far (p := ⟨gb572, 1, none⟩) (Kd.R_far (p := ⟨gb572, 0, none⟩) (Kd.R_types HO567.out BK572.out (by decide)) (fun _ hk => hk.2) (.slice Ao10 t565.length co10)) (fun _ hk => hk.2) (.slice Ao13 t568.length co13)) (fun _ h_ => h_.1))) hb); replace HO570 := aM (Kd.N_below (by (with_reducible repeat apply pN); exact (Kd.N_mono (Kd.N_far (p := ⟨gb572, 1, none⟩) (Kd.N_far (p := ⟨gb572, 0, none⟩) (Kd.N_mono HO570.out (fun k_ hk => (⟨hk, hk.2⟩ : _ ∧ k_ ≠ gb572))) (fun _ hk => hk.2) (.slice Ao10 t565.length co10)) (fun _ hk => hk.2) (.slice Ao13 t568.length co13)) (fun _ h_ => h_.1))) hb); replace BK564 := aM (blk_below (g := gb564) (o := .cells #[.slice A0_0 l0_0.length c0_0, .slice A0_1 l0_1.length c0_1] 31 (0, 0)) (by (with_reducible repeat refine pB ?_); refine blk_far ?_ NB564_572.out _; (with_reducible repeat refine pB ?_); refine blk_far ?_ NB564_572.out _; (with_reducible repeat refine pB ?_); exact BK564.out) hb); replace BK572 := aM (blk_below (g := gb572) (o := .cells #[.slice Ao10 t565.length co10, .slice Ao13 t568.length co13] 31 (0, 0)) (by (with_reducible repeat refine pB ?_); refine blk_put (cs := #[.slice Ao10 t565.length co10, .slice none 0 0]) ?_ 1 _ rfl; (with_reducible repeat refine pB ?_); refine blk_put (cs := #[.slice none 0 0, .slice none 0 0]) ?_ 0 _ rfl; (with_reducible repeat refine pB ?_); exact BK572.out) hb); replace HB := aM (below_step aG hb); (try clear hb); (try clear hb2); (try clear hk); (try clear hi)))
  go_ret
  exact ⟨aE, aG⟩
 ·replace c4 := Bool.eq_false_iff.mpr c4
  subst c4
  have H1 : (some (⟨#[]⟩ : ByteArray)) = some r := by rw [if_neg (show ¬ (false = true) by decide)] at H; exact H
  clear H
  have H := H1
  clear H1
  obtain rfl := Option.some.inj H
  go_enter Tryd.func31, Tryd.ntmps31
  go_wp2_with (first | ((with_reducible refine gate_dst (N := 2) rfl ?_); refine bE 2 (cs := #[.slice A0_0 l0_0.length c0_0, .slice A0_1 l0_1.length c0_1]) (t := 31) ?_; intro gb564 hg w15 hbox hb; have BK564 := aM (hbox); have GW564 := aM ((by rw [hg]; exact (below_size aB) : w.heap.size ≤ gb564)); have GE564 := aM ((by rw [hg]; exact (below_size aB) : w.heap.size ≤ gb564)); replace HB := aM (below_step aB hb); clear hb hbox hg; have hcz16_0 : w15.cell? ⟨gb564, 0, none⟩ = some (.slice A0_0 l0_0.length c0_0) := (blk_cell BK564.out 0).trans rfl; have hcz16_1 : w15.cell? ⟨gb564, 1, none⟩ = some (.slice A0_1 l0_1.length c0_1) := (blk_cell BK564.out 1).trans rfl; have hfz16_0 := blk_frozen BK564.out 0; have hfz16_1 := blk_frozen BK564.out 1) | ((with_reducible refine gate_callee (f := 28) rfl ?_); refine goesL_ (some 10) rfl rfl Tryd.func28 (by kernel_rfl) rfl #[.agg #[.slice A0_0 l0_0.length c0_0, .slice A0_1 l0_1.length c0_1], .slice A1 l1.length c1] rfl aA ?_; (with_reducible refine (impl_SelectFacts.calls k _ _ l0_0 _ _ l0_1 _ _ l1 t565 t568 false _ ?side1 ?side2 ?side3 ?side4 ?side5 ?side6 A3.out).mono ?_); (case side1 => exact aC); (case side2 => exact HC0_0.out); (case side3 => exact aC); (case side4 => exact HC0_1.out); (case side5 => exact aC); (case side6 => exact HC1.out); rintro e w17 ⟨v566, v569, rfl, ho0, ho1, hb⟩; refine ⟨_, rfl, ?_⟩; have HO567 := aM (Kd.R_lower (Kd.R_mono (ok' := fun k_ => True) ho0 (fun _ hk_ => trivial)) (below_size aG)); have HO570 := aM (Kd.N_lower (Kd.N_mono (ok' := fun k_ => some k_ ≠ (v566 : Value).ownBlock ∧ k_ ≠ gb564) ho1 (fun k_ hk_ => ⟨hk_.2, (Kd.freshB (g := gb564) (o := .cells #[.slice A0_0 l0_0.length c0_0, .slice A0_1 l0_1.length c0_1] 31 (0, 0)) aK k_ hk_.1)⟩)) (below_size aG)); replace BK564 := aM (kB gb564 #[.slice A0_0 l0_0.length c0_0, .slice A0_1 l0_1.length c0_1] 31 hb); replace HB := aM (below_step aG hb); (try clear hb); (try clear hb2); (try clear hk); (try clear hi); (try clear ho0); (try clear ho1)) | ((with_reducible refine gate_dst (N := 5) rfl ?_); refine bE 5 (cs := #[.slice none 0 0, .slice none 0 0]) (t := 31) ?_; intro gb572 hg w18 hbox hb; have BK572 := aM (hbox); have GW572 := aM ((by rw [hg]; exact (below_size aG) : w.heap.size ≤ gb572)); have GE572 := aM ((by rw [hg]; exact (below_size aG) : w.heap.size ≤ gb572)); have NB564_572 := aM ((by rw [hg]; exact Nat.ne_of_lt (blk_lt (g := gb564) (o := .cells #[.slice A0_0 l0_0.length c0_0, .slice A0_1 l0_1.length c0_1] 31 (0, 0)) aK) : gb564 ≠ gb572)); have NB572_564 := aM ((by rw [hg]; exact Nat.ne_of_gt (blk_lt (g := gb564) (o := .cells #[.slice A0_0 l0_0.length c0_0, .slice A0_1 l0_1.length c0_1] 31 (0, 0)) aK) : gb572 ≠ gb564)); replace HO567 := aM (Kd.R_below (aR HO567) hb); replace HO570 := aM (Kd.N_below (Kd.N_elderB (aN HO570) gb572 (Nat.le_of_eq hg.symm)) hb); replace BK564 := aM (kB gb564 #[.slice A0_0 l0_0.length c0_0, .slice A0_1 l0_1.length c0_1] 31 hb); replace HB := aM (below_step aG hb); clear hb hbox hg; obtain ⟨Ao19, co19, eo19⟩ := Kd.R_slice HO567.out; subst eo19; have hnb20 := NB572_564.out; have hnc20 := NB564_572.out; have hcz21_0 : w18.cell? ⟨gb572, 0, none⟩ = some (.slice none 0 0) := (blk_cell BK572.out 0).trans rfl; have hcz21_1 : w18.cell? ⟨gb572, 1, none⟩ = some (.slice none 0 0) := (blk_cell BK572.out 1).trans rfl; have hfz21_0 := blk_frozen BK572.out 0; have hfz21_1 := blk_frozen BK572.out 1; obtain ⟨Ao22, co22, eo22⟩ := Kd.N_slice HO570.out; subst eo22))
  go_ret
  exact ⟨aE, aG⟩

/-! ### spec_FormatInt: function 81 -/
def spec_FormatInt.l0 : Nat → Int → ByteArray → Bool → Option (ByteArray)
 | 0, _, _, _ => none
 | k + 1, x0, x3, x4 => if x0 = 0 then (if x4 = true then (if 1 + x3.size ≤ 9223372036854775807 then (some ((⟨#[45]⟩ : ByteArray) ++ x3)) else (none)) else (some x3)) else (if (Int.tmod x0 10) < 0 then ((some (([(wrap64 (48 + (wrap64 (-(Int.tmod x0 10))))) % 256] : List Int) : List Int)).bind fun y574 => (if (strOfNums y574).size + x3.size ≤ 9223372036854775807 then (spec_FormatInt.l0 k (wrap64 (Int.tdiv x0 10)) ((strOfNums y574) ++ x3) x4) else (none))) else ((some (([(wrap64 (48 + (Int.tmod x0 10))) % 256] : List Int) : List Int)).bind fun y577 => (if (strOfNums y577).size + x3.size ≤ 9223372036854775807 then (spec_FormatInt.l0 k (wrap64 (Int.tdiv x0 10)) ((strOfNums y577) ++ x3) x4) else (none))))
def spec_FormatInt.f (k : Nat) (a0 : Int) : Option (ByteArray) := if a0 = 0 then (some (⟨#[48]⟩ : ByteArray)) else (spec_FormatInt.l0 k a0 (⟨#[]⟩ : ByteArray) (decide (a0 < 0)))
set_option maxHeartbeats 8000000 in
set_option maxRecDepth 100000 in
theorem spec_FormatInt.calls (k : Nat) (a0 : Int) (r : ByteArray) (w : World) (h : spec_FormatInt.f k a0 = some r) :
  Calls Tryd.prog 81 #[.int .i64 a0] w fun e w' => e = .returned (.string r) ∧ Below w.heap.size w w' := by
 have HB := aM (Below.refl w.heap.size w)
 have H : (if a0 = 0 then (some (⟨#[48]⟩ : ByteArray)) else (spec_FormatInt.l0 k a0 (⟨#[]⟩ : ByteArray) (decide (a0 < 0)))) = some r := h
 clear h
 by_cases c2 : a0 = 0
 ·rw [if_pos c2] at H
  have c2b0 : (a0 == 0) = true := beq_iff_eq.mpr c2
  have c2b1 : (a0 != 0) = false := bne_eq_false_iff_eq.mpr c2
  clear c2
  obtain rfl := Option.some.inj H
  go_enter Tryd.func81, Tryd.ntmps81
  go_wp2
  go_ret
  exact ⟨aE, aB⟩
 ·rw [if_neg c2] at H
  have c2b0 : (a0 == 0) = false := beq_eq_false_iff_ne.mpr c2
  have c2b1 : (a0 != 0) = true := bne_iff_ne.mpr c2
  have H' := aM H
  clear H
  go_enter Tryd.func81, Tryd.ntmps81
  go_wp2
  go_loopg [0, 3] k (fun kq v0 v3 w' => ∃ (x0_1 : Int) (x3_1 : ByteArray), v0 = .int .i64 x0_1 ∧ v3 = .string x3_1 ∧ Aside0 (spec_FormatInt.l0 kq x0_1 x3_1 (decide (a0 < 0)) = some r) ∧ Aside0 (kq ≤ k) ∧ Aside0 (Below w.heap.size w w'))
  case atStart => exact ⟨(a0), ((⟨#[]⟩ : ByteArray)), aX, aX, H', ⟨Nat.le_refl _⟩, ⟨aB⟩⟩
  case round =>
   clear H'
   try clear c2
   try clear c2b0
   try clear c2b1
   try clear p2
   obtain ⟨x0_1, x3_1, rfl, rfl, HA, HK1, HB⟩ := hrel
   cases gk with
   | zero => exact absurd HA.out (by simp [spec_FormatInt.l0])
   | succ k1 =>
    have H := HA.out
    clear HA
    simp only [spec_FormatInt.l0] at H
    by_cases c3 : x0_1 = 0
    ·rw [if_pos c3] at H
     have c3b0 : (x0_1 == 0) = true := beq_iff_eq.mpr c3
     have c3b1 : (x0_1 != 0) = false := bne_eq_false_iff_eq.mpr c3
     clear c3
     by_cases c4 : (decide (a0 < 0)) = true
     ·rw [if_pos c4] at H
      have c4b0 : (decide (a0 < 0)) = true := c4
      clear c4
      by_cases c5 : 1 + x3_1.size ≤ 9223372036854775807
      ·rw [if_pos c5] at H
       have c5b0 := eq_true c5
       have c5b1 : decide (1 + x3_1.size ≤ 9223372036854775807) = true := decide_eq_true c5
       try have c5b2 : (9223372036854775807 < 1 + x3_1.size) = False := eq_false (Nat.not_lt.2 c5)
       obtain rfl := Option.some.inj H
       go_wp2
       all_goals first | (exfalso; have := of_decide_eq_true c4b0; omega) | (go_ret; exact ⟨aE, aB⟩)
      ·rw [if_neg c5] at H
       exact absurd H (by simp)
     ·rw [if_neg c4] at H
      have c4b0 : (decide (a0 < 0)) = false := by simpa using c4
      clear c4
      obtain rfl := Option.some.inj H
      go_wp2
      all_goals first | (exfalso; have := of_decide_eq_false c4b0; omega) | (go_ret; exact ⟨aE, aB⟩)
    ·rw [if_neg c3] at H
     have c3b0 : (x0_1 == 0) = false := beq_eq_false_iff_ne.mpr c3
     have c3b1 : (x0_1 != 0) = true := bne_iff_ne.mpr c3
     by_cases c6 : (Int.tmod x0_1 10) < 0
     ·rw [if_pos c6] at H
      have c6b0 : decide ((Int.tmod x0_1 10) < 0) = true := decide_eq_true c6
      clear c6
      obtain ⟨y574, hy574⟩ : ∃ y_ : List Int, y_ = (([(wrap64 (48 + (wrap64 (-(Int.tmod x0_1 10))))) % 256] : List Int)) := ⟨_, rfl⟩
      first | replace H := bY hy574 H | rw [← hy574] at H
      have Ny574 := aM hy574
      clear hy574
      by_cases c7 : (strOfNums y574).size + x3_1.size ≤ 9223372036854775807
      ·rw [if_pos c7] at H
       have c7b0 := eq_true c7
       have c7b1 : decide ((strOfNums y574).size + x3_1.size ≤ 9223372036854775807) = true := decide_eq_true c7
       try have c7b2 : (9223372036854775807 < (strOfNums y574).size + x3_1.size) = False := eq_false (Nat.not_lt.2 c7)
       have H' := aM H
       clear H
       go_wp2_with (first | ((with_reducible refine gate_dst (N := 21) rfl ?_); refine Kd.R_lit (Kd.int .u8) _ 5 ?hg (N := 21) ?hd (xs := ([(wrap64 (48 + (wrap64 (-(Int.tmod x0_1 10))))) % 256] : List Int)) (inner := [.int .u8 ((wrap64 (48 + (wrap64 (-(Int.tmod x0_1 10))))) % 256)]) (ok := fun _ => True) (okp := fun _ => True) ?hr ?hp (fun _ hk => hk) trivial (Below.refl _ _) (Nat.le_refl _) (by simp) ?_; (case hd => rfl); (case hg => rfl); (case hr => first | (go_simp; done) | (go_simp; rfl)); (case hp => exact (Reps.one (show Kd.M (Kd.int .u8) _ _ _ ((wrap64 (48 + (wrap64 (-(Int.tmod x0_1 10))))) % 256) [.int .u8 ((wrap64 (48 + (wrap64 (-(Int.tmod x0_1 10))))) % 256)] from rfl) (Reps.none _ _))); intro v575 w8 ho9 hb hg_ hnew_; clear hg_ hnew_; (first | rw [← Ny574.out] at ho9 | (simp only [Int.reduceToNat] at ho9; rw [← Ny574.out] at ho9)); have HO576 := aM (Kd.R_lower ho9 (below_size aB)); replace HB := aM (below_step aB hb); clear hb ho9; have hcv10 := own_string (P := Tryd.prog) Tryd.underlying35 Tryd.underlying5 Tryd.underlying9 (Kd.own_of_R HO576.out)))
       go_roundg k1
       case measure => have := HK1.out; omega
       case rel => exact ⟨(wrap64 (Int.tdiv x0_1 10)), ((strOfNums y574) ++ x3_1), aX, aX, H', ⟨by have := HK1.out; omega⟩, ⟨aB⟩⟩
      ·rw [if_neg c7] at H
       exact absurd H (by simp)
     ·rw [if_neg c6] at H
      have c6b0 : decide ((Int.tmod x0_1 10) < 0) = false := decide_eq_false c6
      clear c6
      obtain ⟨y577, hy577⟩ : ∃ y_ : List Int, y_ = (([(wrap64 (48 + (Int.tmod x0_1 10))) % 256] : List Int)) := ⟨_, rfl⟩
      first | replace H := bY hy577 H | rw [← hy577] at H
      have Ny577 := aM hy577
      clear hy577
      by_cases c11 : (strOfNums y577).size + x3_1.size ≤ 9223372036854775807
      ·rw [if_pos c11] at H
       have c11b0 := eq_true c11
       have c11b1 : decide ((strOfNums y577).size + x3_1.size ≤ 9223372036854775807) = true := decide_eq_true c11
       try have c11b2 : (9223372036854775807 < (strOfNums y577).size + x3_1.size) = False := eq_false (Nat.not_lt.2 c11)
       have H' := aM H
       clear H
       go_wp2_with (first | ((with_reducible refine gate_dst (N := 21) rfl ?_); refine Kd.R_lit (Kd.int .u8) _ 5 ?hg (N := 21) ?hd (xs := ([(wrap64 (48 + (Int.tmod x0_1 10))) % 256] : List Int)) (inner := [.int .u8 ((wrap64 (48 + (Int.tmod x0_1 10))) % 256)]) (ok := fun _ => True) (okp := fun _ => True) ?hr ?hp (fun _ hk => hk) trivial (Below.refl _ _) (Nat.le_refl _) (by simp) ?_; (case hd => rfl); (case hg => rfl); (case hr => first | (go_simp; done) | (go_simp; rfl)); (case hp => exact (Reps.one (show Kd.M (Kd.int .u8) _ _ _ ((wrap64 (48 + (Int.tmod x0_1 10))) % 256) [.int .u8 ((wrap64 (48 + (Int.tmod x0_1 10))) % 256)] from rfl) (Reps.none _ _))); intro v578 w12 ho13 hb hg_ hnew_; clear hg_ hnew_; (first | rw [← Ny577.out] at ho13 | (simp only [Int.reduceToNat] at ho13; rw [← Ny577.out] at ho13)); have HO579 := aM (Kd.R_lower ho13 (below_size aB)); replace HB := aM (below_step aB hb); clear hb ho13; have hcv14 := own_string (P := Tryd.prog) Tryd.underlying35 Tryd.underlying5 Tryd.underlying9 (Kd.own_of_R HO579.out)))
       go_roundg k1
       case measure => have := HK1.out; omega
       case rel => exact ⟨(wrap64 (Int.tdiv x0_1 10)), ((strOfNums y577) ++ x3_1), aX, aX, H', ⟨by have := HK1.out; omega⟩, ⟨aB⟩⟩
      ·rw [if_neg c11] at H
       exact absurd H (by simp)

/-! ### spec_FormatFact: function 55 -/
def spec_FormatFact.l0 : Nat → List (S68) → ByteArray → Int → Int → List Int → Option (ByteArray)
 | 0, _, _, _, _, _ => none
 | k + 1, x0, x5, x6, x581000, x581001 => if x6 < (x581001.length : Int) then (if 0 ≤ x581000 then (if x581000 < (x0.length : Int) then (if x6 = ((rd_T68 x0 x581000).f2) then (if x5.size + 1 ≤ 9223372036854775807 then (if 0 ≤ x6 then ((spec_FormatInt.f k (rd x581001 x6)).bind fun t585 => (if (x5 ++ (⟨#[124]⟩ : ByteArray)).size + t585.size ≤ 9223372036854775807 then (spec_FormatFact.l0 k x0 ((x5 ++ (⟨#[124]⟩ : ByteArray)) ++ t585) (wrap64 (x6 + 1)) x581000 x581001) else (none))) else (none)) else (none)) else (if 0 ≤ x6 then ((spec_FormatInt.f k (rd x581001 x6)).bind fun t587 => (if x5.size + t587.size ≤ 9223372036854775807 then (spec_FormatFact.l0 k x0 (x5 ++ t587) (wrap64 (x6 + 1)) x581000 x581001) else (none))) else (none))) else (none)) else (none)) else (some x5)
def spec_FormatFact.f (k : Nat) (l0 : List (S68)) (a1_0 : Int) (l1_1 : List Int) : Option (ByteArray) := (spec_IsValidFact.f k l0 a1_0 l1_1).bind fun t581 => (if t581 = true then (if 0 ≤ a1_0 then (if a1_0 < (l0.length : Int) then (spec_FormatFact.l0 k l0 ((rd_T68 l0 a1_0).f0) 0 a1_0 l1_1) else (none)) else (none)) else (some (⟨#[]⟩ : ByteArray)))
set_option maxHeartbeats 8000000 in
set_option maxRecDepth 100000 in
theorem spec_FormatFact.calls (k : Nat) (A0 : Option Addr) (c0 : Nat) (l0 : List (S68)) (a1_0 : Int) (A1_1 : Option Addr) (c1_1 : Nat) (l1_1 : List Int) (r : ByteArray) (w : World) (hr0 : Kd.C k68 w A0 l0.length l0) (hc0 : l0.length ≤ c0) (hr1_1 : Kd.C (Kd.int .i64) w A1_1 l1_1.length l1_1) (hc1_1 : l1_1.length ≤ c1_1) (h : spec_FormatFact.f k l0 a1_0 l1_1 = some r) :
  Calls Tryd.prog 55 #[.slice A0 l0.length c0, .agg #[.int .i64 a1_0, .slice A1_1 l1_1.length c1_1]] w fun e w' => e = .returned (.string r) ∧ Below w.heap.size w w' := by
 have hu39 := Tryd.underlying39
 obtain ⟨W, hW⟩ : ∃ W, w.alloc (.cells #[.int .i64 a1_0, .slice A1_1 l1_1.length c1_1] 39) = W := ⟨_, rfl⟩
 have q0 := qa (w := W) (p := ⟨w.heap.size, 0, none⟩) (v := .int .i64 a1_0) (by subst hW; go_simp)
 have q1 := qa (w := W) (p := ⟨w.heap.size, 1, none⟩) (v := .slice A1_1 l1_1.length c1_1) (by subst hW; go_simp)
 have HB : Below w.heap.size w W := by subst hW; exact zB
 have HW := Below.refl W.heap.size W
 have hb := aM HB
 unfold spec_FormatFact.f at h
 replace h := bs h; obtain ⟨t581, B0, h⟩ := h
 replace h := ib h; rcases h with ⟨rfl, h⟩ | ⟨rfl, h⟩
 replace h := ie h; rcases h with ⟨c2, c2a, h⟩ | ⟨c2, c2a, h⟩
 replace h := il h; rcases h with ⟨c3, c3a, h⟩ | ⟨c3, c3a, h⟩
 ·obtain ⟨ad582, e582, hx582_0, hx582_1, hx582_2⟩ := at_T68 hr0 (a1_0 : Int) aD aD
  have p582 := eq_true (aD : 0 ≤ (a1_0 : Int))
  have q582 := eq_true (aD : a1_0 < (l0.length : Int))
  cases e582
  replace hx582_0 := qa hx582_0
  replace hx582_1 := qa hx582_1
  replace hx582_2 := qa hx582_2
  go_enter Tryd.func55, Tryd.ntmps55
  go_wp2_with (first | (go_at_call 20; refine (spec_IsValidFact.calls ?_ _ _ _ _ _ _ _ ?_ _ ?_ ?_ ?_ ?_ ?h).mono ?_; (case h => exact zA); (iterate 4 (first | exact zC | exact zA)); rintro e w1 ⟨rfl, hb⟩; replace hb := aM hb; have HW : Below W.heap.size W w1 := zB; have HB : Below w.heap.size w w1 := zB) | (go_at_call 81; refine (spec_FormatInt.calls ?_ _ ?_ _ ?h).mono ?_; (case h => exact zA); rintro e w1 ⟨rfl, hb⟩; replace hb := aM hb; have HW : Below W.heap.size W w1 := zB; have HB : Below w.heap.size w w1 := zB))
  go_loopg [5, 6] k (fun kq v5 v6 w' => ∃ (x5_4 : ByteArray) (x6_4 : Int), v5 = .string x5_4 ∧ v6 = .int .i64 x6_4 ∧ spec_FormatFact.l0 kq l0 x5_4 x6_4 a1_0 l1_1 = some r ∧ Below W.heap.size W w')
  case atStart => exact ⟨_, _, zR, zR, zA, zB⟩
  case round =>
   clear h
   obtain ⟨x5_4, x6_4, rfl, rfl, h, hb⟩ := hrel
   replace hb := aM hb
   have HW : Below W.heap.size W wr := zB
   have HB : Below w.heap.size w wr := zB
   rcases gk with _ | kk4
   exact absurd h (by simp [spec_FormatFact.l0])
   simp only [spec_FormatFact.l0] at h
   replace h := il h; rcases h with ⟨c5, c5a, h⟩ | ⟨c5, c5a, h⟩
   replace h := ie h; rcases h with ⟨c6, c6a, h⟩ | ⟨c6, c6a, h⟩
   replace h := il h; rcases h with ⟨c7, c7a, h⟩ | ⟨c7, c7a, h⟩
   replace h := iq h; rcases h with ⟨c8, ⟨c8a, c8b⟩, h⟩ | ⟨c8, ⟨c8a, c8b⟩, h⟩
   replace h := ieN h; rcases h with ⟨c9, c9a, h⟩ | ⟨c9, c9a, h⟩
   have c9x0 : decide (x5_4.size + 1 ≤ 9223372036854775807) = true := decide_eq_true (of_eq_true c9a)
   have c9x1 : (9223372036854775807 < x5_4.size + 1) = False := eq_false (Nat.not_lt.2 (of_eq_true c9a))
   replace h := ie h; rcases h with ⟨c10, c10a, h⟩ | ⟨c10, c10a, h⟩
   replace h := bs h; obtain ⟨t585, B11, h⟩ := h
   replace h := ieN h; rcases h with ⟨c12, c12a, h⟩ | ⟨c12, c12a, h⟩
   have c12x0 : decide ((x5_4 ++ (⟨#[124]⟩ : ByteArray)).size + t585.size ≤ 9223372036854775807) = true := decide_eq_true (of_eq_true c12a)
   have c12x1 : (9223372036854775807 < (x5_4 ++ (⟨#[124]⟩ : ByteArray)).size + t585.size) = False := eq_false (Nat.not_lt.2 (of_eq_true c12a))
   have c12y := c12a; simp only [ByteArray.size_append, (show (⟨#[124]⟩ : ByteArray).size = 1 from rfl)] at c12y; have c12y0 := decide_eq_true (of_eq_true c12y); have c12y1 := eq_false (Nat.not_lt.2 (of_eq_true c12y))
   obtain ⟨kf, hkf⟩ : ∃ kf, kf = kk4 := ⟨_, rfl⟩; rw [← hkf] at h
   obtain ⟨ad583, e583, hx583_0, hx583_1, hx583_2⟩ := at_T68 hr0 (a1_0 : Int) aD aD
   have p583 := eq_true (aD : 0 ≤ (a1_0 : Int))
   have q583 := eq_true (aD : a1_0 < (l0.length : Int))
   cases e583
   replace hx583_0 := qa hx583_0
   replace hx583_1 := qa hx583_1
   replace hx583_2 := qa hx583_2
   obtain ⟨ad584, e584, hx584_0⟩ := Kd.at_int hr1_1 (x6_4 : Int) aD aD
   have p584 := eq_true (aD : 0 ≤ (x6_4 : Int))
   have q584 := eq_true (aD : x6_4 < (l1_1.length : Int))
   cases e584
   replace hx584_0 := qa hx584_0
   rotate_left
   exact absurd h (by simp)
   exact absurd h (by simp)
   exact absurd h (by simp)
   replace h := ie h; rcases h with ⟨c13, c13a, h⟩ | ⟨c13, c13a, h⟩
   replace h := bs h; obtain ⟨t587, B14, h⟩ := h
   replace h := ieN h; rcases h with ⟨c15, c15a, h⟩ | ⟨c15, c15a, h⟩
   have c15x0 : decide (x5_4.size + t587.size ≤ 9223372036854775807) = true := decide_eq_true (of_eq_true c15a)
   have c15x1 : (9223372036854775807 < x5_4.size + t587.size) = False := eq_false (Nat.not_lt.2 (of_eq_true c15a))
   obtain ⟨kf, hkf⟩ : ∃ kf, kf = kk4 := ⟨_, rfl⟩; rw [← hkf] at h
   obtain ⟨ad583, e583, hx583_0, hx583_1, hx583_2⟩ := at_T68 hr0 (a1_0 : Int) aD aD
   have p583 := eq_true (aD : 0 ≤ (a1_0 : Int))
   have q583 := eq_true (aD : a1_0 < (l0.length : Int))
   cases e583
   replace hx583_0 := qa hx583_0
   replace hx583_1 := qa hx583_1
   replace hx583_2 := qa hx583_2
   obtain ⟨ad586, e586, hx586_0⟩ := Kd.at_int hr1_1 (x6_4 : Int) aD aD
   have p586 := eq_true (aD : 0 ≤ (x6_4 : Int))
   have q586 := eq_true (aD : x6_4 < (l1_1.length : Int))
   cases e586
   replace hx586_0 := qa hx586_0
   rotate_left
   exact absurd h (by simp)
   exact absurd h (by simp)
   exact absurd h (by simp)
   exact absurd h (by simp)
   obtain rfl := si h
   rotate_left
   all_goals (go_wp2_with (first | (go_at_call 20; refine (spec_IsValidFact.calls ?_ _ _ _ _ _ _ _ ?_ _ ?_ ?_ ?_ ?_ ?h).mono ?_; (case h => exact zA); (iterate 4 (first | exact zC | exact zA)); rintro e w1 ⟨rfl, hb⟩; replace hb := aM hb; have HW : Below W.heap.size W w1 := zB; have HB : Below w.heap.size w w1 := zB) | (go_at_call 81; refine (spec_FormatInt.calls ?_ _ ?_ _ ?h).mono ?_; (case h => exact zA); rintro e w1 ⟨rfl, hb⟩; replace hb := aM hb; have HW : Below W.heap.size W w1 := zB; have HB : Below w.heap.size w w1 := zB)); first | (go_ret; exact zE zB) | (go_roundg kf; (case measure => omega); (case rel => exact ⟨_, _, zR, zR, zA, zB⟩)))
 exact absurd h (by simp)
 exact absurd h (by simp)
 obtain rfl := si h
 rotate_left
 all_goals (go_enter Tryd.func55, Tryd.ntmps55; go_wp2_with (first | (go_at_call 20; refine (spec_IsValidFact.calls ?_ _ _ _ _ _ _ _ ?_ _ ?_ ?_ ?_ ?_ ?h).mono ?_; (case h => exact zA); (iterate 4 (first | exact zC | exact zA)); rintro e w1 ⟨rfl, hb⟩; replace hb := aM hb; have HW : Below W.heap.size W w1 := zB; have HB : Below w.heap.size w w1 := zB) | (go_at_call 81; refine (spec_FormatInt.calls ?_ _ ?_ _ ?h).mono ?_; (case h => exact zA); rintro e w1 ⟨rfl, hb⟩; replace hb := aM hb; have HW : Below W.heap.size W w1 := zB; have HB : Below w.heap.size w w1 := zB)); go_ret; exact zE zB)

/-! ### spec_FormatFacts: function 32 -/
mutual
def spec_FormatFacts.l0 : Nat → List Int → ByteArray → Int → List (S68) → List (S39) → Option (ByteArray)
 | 0, _, _, _, _, _ => none
 | k + 1, x1, x5, x6, x589000, x589001 => if x6 < (x1.length : Int) then ((spec_IsValidDatabase.f k x589000 x589001).bind fun t589 => (if t589 = true then ((spec_l4Set.f k x589000 x589001 x1).bind fun t590 => (spec_FormatFacts.j1 k x1 x5 x6 t590 x589000 x589001)) else (spec_FormatFacts.j1 k x1 x5 x6 false x589000 x589001))) else (spec_FormatFacts.j1 k x1 x5 x6 false x589000 x589001)
def spec_FormatFacts.j1 : Nat → List Int → ByteArray → Int → Bool → List (S68) → List (S39) → Option (ByteArray)
 | 0, _, _, _, _, _, _ => none
 | k + 1, x1, x5, x6, x19, x589000, x589001 => if x19 = true then (if x6 > 0 then (if x5.size + 1 ≤ 9223372036854775807 then (if 0 ≤ x6 then (if x6 < (x1.length : Int) then (if 0 ≤ (rd x1 x6) then (if (rd x1 x6) < (x589001.length : Int) then ((spec_FormatFact.f k x589000 ((rd_T39 x589001 (rd x1 x6)).f0) ((rd_T39 x589001 (rd x1 x6)).f1)).bind fun t593 => (if (x5 ++ (⟨#[32]⟩ : ByteArray)).size + t593.size ≤ 9223372036854775807 then (spec_FormatFacts.l0 k x1 ((x5 ++ (⟨#[32]⟩ : ByteArray)) ++ t593) (wrap64 (x6 + 1)) x589000 x589001) else (none))) else (none)) else (none)) else (none)) else (none)) else (none)) else (if 0 ≤ x6 then (if x6 < (x1.length : Int) then (if 0 ≤ (rd x1 x6) then (if (rd x1 x6) < (x589001.length : Int) then ((spec_FormatFact.f k x589000 ((rd_T39 x589001 (rd x1 x6)).f0) ((rd_T39 x589001 (rd x1 x6)).f1)).bind fun t596 => (if x5.size + t596.size ≤ 9223372036854775807 then (spec_FormatFacts.l0 k x1 (x5 ++ t596) (wrap64 (x6 + 1)) x589000 x589001) else (none))) else (none)) else (none)) else (none)) else (none))) else (some x5)
end
def spec_FormatFacts.f (k : Nat) (l0_0 : List (S68)) (l0_1 : List (S39)) (l1 : List Int) : Option (ByteArray) := spec_FormatFacts.l0 k l1 (⟨#[]⟩ : ByteArray) 0 l0_0 l0_1
set_option maxHeartbeats 8000000 in
set_option maxRecDepth 100000 in
theorem spec_FormatFacts.calls (k : Nat) (A0_0 : Option Addr) (c0_0 : Nat) (l0_0 : List (S68)) (A0_1 : Option Addr) (c0_1 : Nat) (l0_1 : List (S39)) (A1 : Option Addr) (c1 : Nat) (l1 : List Int) (r : ByteArray) (w : World) (hr0_0 : Kd.C k68 w A0_0 l0_0.length l0_0) (hc0_0 : l0_0.length ≤ c0_0) (hr0_1 : Kd.C k39 w A0_1 l0_1.length l0_1) (hc0_1 : l0_1.length ≤ c0_1) (hr1 : Kd.C (Kd.int .i64) w A1 l1.length l1) (hc1 : l1.length ≤ c1) (h : spec_FormatFacts.f k l0_0 l0_1 l1 = some r) :
  Calls Tryd.prog 32 #[.agg #[.slice A0_0 l0_0.length c0_0, .slice A0_1 l0_1.length c0_1], .slice A1 l1.length c1] w fun e w' => e = .returned (.string r) ∧ Below w.heap.size w w' := by
 have hu31 := Tryd.underlying31
 have hu39 := Tryd.underlying39
 obtain ⟨W, hW⟩ : ∃ W, w.alloc (.cells #[.slice A0_0 l0_0.length c0_0, .slice A0_1 l0_1.length c0_1] 31) = W := ⟨_, rfl⟩
 have q0 := qa (w := W) (p := ⟨w.heap.size, 0, none⟩) (v := .slice A0_0 l0_0.length c0_0) (by subst hW; go_simp)
 have q1 := qa (w := W) (p := ⟨w.heap.size, 1, none⟩) (v := .slice A0_1 l0_1.length c0_1) (by subst hW; go_simp)
 have HB : Below w.heap.size w W := by subst hW; exact zB
 have HW := Below.refl W.heap.size W
 have hb := aM HB
 have rg_ := @bcl w
 have rd_ := @bdr w
 have rG_ := @bcl W
 have rD_ := @bdr W
 unfold spec_FormatFacts.f at h
 ·go_enter Tryd.func32, Tryd.ntmps32
  go_wp2_with (first | (go_at_call 33; refine (spec_IsValidDatabase.calls ?_ _ _ _ _ _ _ ?_ _ ?_ ?_ ?_ ?_ ?h).mono ?_; (case h => exact zA); (iterate 4 (first | exact zC | exact zA)); rintro e w1 ⟨rfl, hb⟩; replace hb := aM hb; have HW : Below W.heap.size W w1 := zB; have HB : Below w.heap.size w w1 := zB) | (go_at_call 75; refine (spec_l4Set.calls ?_ _ _ _ _ _ _ _ _ _ ?_ _ ?_ ?_ ?_ ?_ ?_ ?_ ?h).mono ?_; (case h => exact zA); (iterate 6 (first | exact zC | exact zA)); rintro e w1 ⟨rfl, hb⟩; replace hb := aM hb; have HW : Below W.heap.size W w1 := zB; have HB : Below w.heap.size w w1 := zB))
  (repeat ((refine nw (w0 := w) zB ?_; intro W1 HB hb hd; have HW : Below W.heap.size W W1 := zB; (first | (refine Txt.rg (id := 7) [0, 1, 2, 3, 4, 5, 6, 7, 8, 9, 10, 11, 12, 13] (by kernel_rfl) (by kernel_rfl) ?_; simp only [List.map_cons, List.map_nil, List.getD_cons_zero, List.getD_cons_succ])); (repeat (first | (refine Txt.off rfl ?_; simp only [Act.put, List.setIfInBounds_toArray, List.set_cons_zero, List.set_cons_succ]) | (refine Txt.take rfl rfl ?_; intro K hK; go_big_quiet_op; go_big_quiet_on) | (refine Txt.call rfl rfl Tryd.func55 (by kernel_rfl) rfl (spec_FormatFact.calls ?_ _ _ _ _ _ _ _ ?_ _ ?_ ?_ ?_ ?_ ?h) rfl ?_; (case h => exact zA); (iterate 4 (first | exact zC | exact zA)); rintro e w1 ⟨rfl, hb⟩; replace hb := aM hb; have HW : Below W.heap.size W w1 := zB; have HB : Below w.heap.size w w1 := zB; refine ⟨_, rfl, zS, ?_⟩; simp only [Act.put, List.setIfInBounds_toArray, List.set_cons_zero, List.set_cons_succ]))); refine Txt.nil ?_); (try go_wp2_with (first | (go_at_call 33; refine (spec_IsValidDatabase.calls ?_ _ _ _ _ _ _ ?_ _ ?_ ?_ ?_ ?_ ?h).mono ?_; (case h => exact zA); (iterate 4 (first | exact zC | exact zA)); rintro e w1 ⟨rfl, hb⟩; replace hb := aM hb; have HW : Below W.heap.size W w1 := zB; have HB : Below w.heap.size w w1 := zB) | (go_at_call 75; refine (spec_l4Set.calls ?_ _ _ _ _ _ _ _ _ _ ?_ _ ?_ ?_ ?_ ?_ ?_ ?_ ?h).mono ?_; (case h => exact zA); (iterate 6 (first | exact zC | exact zA)); rintro e w1 ⟨rfl, hb⟩; replace hb := aM hb; have HW : Below W.heap.size W w1 := zB; have HB : Below w.heap.size w w1 := zB)))))
  go_loopg [5, 6] k (fun kq v5 v6 w' => ∃ (x5_0 : ByteArray) (x6_0 : Int), v5 = .string x5_0 ∧ v6 = .int .i64 x6_0 ∧ spec_FormatFacts.l0 kq l1 x5_0 x6_0 l0_0 l0_1 = some r ∧ Below W.heap.size W w')
  case atStart => exact ⟨_, _, zR, zR, zA, zB⟩
  case round =>
   clear h
   obtain ⟨x5_0, x6_0, rfl, rfl, h, hb⟩ := hrel
   replace hb := aM hb
   have HW : Below W.heap.size W wr := zB
   have HB : Below w.heap.size w wr := zB
   rcases gk with _ | kk0
   exact absurd h (by simp [spec_FormatFacts.l0])
   simp only [spec_FormatFacts.l0] at h
   replace h := il h; rcases h with ⟨c1, c1a, h⟩ | ⟨c1, c1a, h⟩
   replace h := bs h; obtain ⟨t589, B2, h⟩ := h
   replace h := ib h; rcases h with ⟨rfl, h⟩ | ⟨rfl, h⟩
   replace h := bs h; obtain ⟨t590, B4, h⟩ := h
   rcases kk0 with _ | kj5
   exact absurd h (by simp [spec_FormatFacts.j1])
   simp only [spec_FormatFacts.j1] at h
   replace h := ib h; rcases h with ⟨rfl, h⟩ | ⟨rfl, h⟩
   replace h := ig h; rcases h with ⟨c7, c7a, h⟩ | ⟨c7, c7a, h⟩
   replace h := ieN h; rcases h with ⟨c8, c8a, h⟩ | ⟨c8, c8a, h⟩
   have c8x0 : decide (x5_0.size + 1 ≤ 9223372036854775807) = true := decide_eq_true (of_eq_true c8a)
   have c8x1 : (9223372036854775807 < x5_0.size + 1) = False := eq_false (Nat.not_lt.2 (of_eq_true c8a))
   replace h := ie h; rcases h with ⟨c9, c9a, h⟩ | ⟨c9, c9a, h⟩
   replace h := il h; rcases h with ⟨c10, c10a, h⟩ | ⟨c10, c10a, h⟩
   replace h := ie h; rcases h with ⟨c11, c11a, h⟩ | ⟨c11, c11a, h⟩
   replace h := il h; rcases h with ⟨c12, c12a, h⟩ | ⟨c12, c12a, h⟩
   replace h := bs h; obtain ⟨t593, B13, h⟩ := h
   replace h := ieN h; rcases h with ⟨c14, c14a, h⟩ | ⟨c14, c14a, h⟩
   have c14x0 : decide ((x5_0 ++ (⟨#[32]⟩ : ByteArray)).size + t593.size ≤ 9223372036854775807) = true := decide_eq_true (of_eq_true c14a)
   have c14x1 : (9223372036854775807 < (x5_0 ++ (⟨#[32]⟩ : ByteArray)).size + t593.size) = False := eq_false (Nat.not_lt.2 (of_eq_true c14a))
   have c14y := c14a; simp only [ByteArray.size_append, (show (⟨#[32]⟩ : ByteArray).size = 1 from rfl)] at c14y; have c14y0 := decide_eq_true (of_eq_true c14y); have c14y1 := eq_false (Nat.not_lt.2 (of_eq_true c14y))
   obtain ⟨kf, hkf⟩ : ∃ kf, kf = kj5 := ⟨_, rfl⟩; rw [← hkf] at h
   obtain ⟨ad591, e591, hx591_0⟩ := Kd.at_int hr1 (x6_0 : Int) aD aD
   have p591 := eq_true (aD : 0 ≤ (x6_0 : Int))
   have q591 := eq_true (aD : x6_0 < (l1.length : Int))
   cases e591
   replace hx591_0 := qa hx591_0
   obtain ⟨ad592, A592_1, c592_1, e592, hx592_0, hx592_1, hl592_1, hi592_1⟩ := at_T39 hr0_1 ((rd l1 x6_0) : Int) aD aD
   have p592 := eq_true (aD : 0 ≤ ((rd l1 x6_0) : Int))
   have q592 := eq_true (aD : (rd l1 x6_0) < (l0_1.length : Int))
   cases e592
   replace hx592_0 := qa hx592_0
   replace hx592_1 := qa hx592_1
   rotate_left
   exact absurd h (by simp)
   exact absurd h (by simp)
   exact absurd h (by simp)
   exact absurd h (by simp)
   exact absurd h (by simp)
   exact absurd h (by simp)
   replace h := ie h; rcases h with ⟨c15, c15a, h⟩ | ⟨c15, c15a, h⟩
   replace h := il h; rcases h with ⟨c16, c16a, h⟩ | ⟨c16, c16a, h⟩
   replace h := ie h; rcases h with ⟨c17, c17a, h⟩ | ⟨c17, c17a, h⟩
   replace h := il h; rcases h with ⟨c18, c18a, h⟩ | ⟨c18, c18a, h⟩
   replace h := bs h; obtain ⟨t596, B19, h⟩ := h
   replace h := ieN h; rcases h with ⟨c20, c20a, h⟩ | ⟨c20, c20a, h⟩
   have c20x0 : decide (x5_0.size + t596.size ≤ 9223372036854775807) = true := decide_eq_true (of_eq_true c20a)
   have c20x1 : (9223372036854775807 < x5_0.size + t596.size) = False := eq_false (Nat.not_lt.2 (of_eq_true c20a))
   obtain ⟨kf, hkf⟩ : ∃ kf, kf = kj5 := ⟨_, rfl⟩; rw [← hkf] at h
   obtain ⟨ad594, e594, hx594_0⟩ := Kd.at_int hr1 (x6_0 : Int) aD aD
   have p594 := eq_true (aD : 0 ≤ (x6_0 : Int))
   have q594 := eq_true (aD : x6_0 < (l1.length : Int))
   cases e594
   replace hx594_0 := qa hx594_0
   obtain ⟨ad595, A595_1, c595_1, e595, hx595_0, hx595_1, hl595_1, hi595_1⟩ := at_T39 hr0_1 ((rd l1 x6_0) : Int) aD aD
   have p595 := eq_true (aD : 0 ≤ ((rd l1 x6_0) : Int))
   have q595 := eq_true (aD : (rd l1 x6_0) < (l0_1.length : Int))
   cases e595
   replace hx595_0 := qa hx595_0
   replace hx595_1 := qa hx595_1
   rotate_left
   exact absurd h (by simp)
   exact absurd h (by simp)
   exact absurd h (by simp)
   exact absurd h (by simp)
   exact absurd h (by simp)
   obtain rfl := si h
   rotate_left
   rcases kk0 with _ | kj21
   exact absurd h (by simp [spec_FormatFacts.j1])
   simp only [spec_FormatFacts.j1] at h
   (try replace h := iff_ h)
   obtain rfl := si h
   rotate_left
   rcases kk0 with _ | kj22
   exact absurd h (by simp [spec_FormatFacts.j1])
   simp only [spec_FormatFacts.j1] at h
   (try replace h := iff_ h)
   obtain rfl := si h
   rotate_left
   all_goals (go_wp2_with (first | (go_at_call 33; refine (spec_IsValidDatabase.calls ?_ _ _ _ _ _ _ ?_ _ ?_ ?_ ?_ ?_ ?h).mono ?_; (case h => exact zA); (iterate 4 (first | exact zC | exact zA)); rintro e w1 ⟨rfl, hb⟩; replace hb := aM hb; have HW : Below W.heap.size W w1 := zB; have HB : Below w.heap.size w w1 := zB) | (go_at_call 75; refine (spec_l4Set.calls ?_ _ _ _ _ _ _ _ _ _ ?_ _ ?_ ?_ ?_ ?_ ?_ ?_ ?h).mono ?_; (case h => exact zA); (iterate 6 (first | exact zC | exact zA)); rintro e w1 ⟨rfl, hb⟩; replace hb := aM hb; have HW : Below W.heap.size W w1 := zB; have HB : Below w.heap.size w w1 := zB)); (repeat ((refine nw (w0 := w) zB ?_; intro W1 HB hb hd; have HW : Below W.heap.size W W1 := zB; (first | (refine Txt.rg (id := 7) [0, 1, 2, 3, 4, 5, 6, 7, 8, 9, 10, 11, 12, 13] (by kernel_rfl) (by kernel_rfl) ?_; simp only [List.map_cons, List.map_nil, List.getD_cons_zero, List.getD_cons_succ])); (repeat (first | (refine Txt.off rfl ?_; simp only [Act.put, List.setIfInBounds_toArray, List.set_cons_zero, List.set_cons_succ]) | (refine Txt.take rfl rfl ?_; intro K hK; go_big_quiet_op; go_big_quiet_on) | (refine Txt.call rfl rfl Tryd.func55 (by kernel_rfl) rfl (spec_FormatFact.calls ?_ _ _ _ _ _ _ _ ?_ _ ?_ ?_ ?_ ?_ ?h) rfl ?_; (case h => exact zA); (iterate 4 (first | exact zC | exact zA)); rintro e w1 ⟨rfl, hb⟩; replace hb := aM hb; have HW : Below W.heap.size W w1 := zB; have HB : Below w.heap.size w w1 := zB; refine ⟨_, rfl, zS, ?_⟩; simp only [Act.put, List.setIfInBounds_toArray, List.set_cons_zero, List.set_cons_succ]))); refine Txt.nil ?_); (try go_wp2_with (first | (go_at_call 33; refine (spec_IsValidDatabase.calls ?_ _ _ _ _ _ _ ?_ _ ?_ ?_ ?_ ?_ ?h).mono ?_; (case h => exact zA); (iterate 4 (first | exact zC | exact zA)); rintro e w1 ⟨rfl, hb⟩; replace hb := aM hb; have HW : Below W.heap.size W w1 := zB; have HB : Below w.heap.size w w1 := zB) | (go_at_call 75; refine (spec_l4Set.calls ?_ _ _ _ _ _ _ _ _ _ ?_ _ ?_ ?_ ?_ ?_ ?_ ?_ ?h).mono ?_; (case h => exact zA); (iterate 6 (first | exact zC | exact zA)); rintro e w1 ⟨rfl, hb⟩; replace hb := aM hb; have HW : Below W.heap.size W w1 := zB; have HB : Below w.heap.size w w1 := zB))))); first | (go_ret; exact zE zB) | (go_roundg kf; (case measure => omega); (case rel => exact ⟨_, _, zR, zR, zA, zB⟩)))

end Go.Proofs.YtckpikfbhlhhjaaDoor.PFnSelectFacts
