import Derived.Test.YteddnlklfjpgoaaPFnInsertDeletex0
namespace Go.Proofs.Yteddnlklfjpgoaa.PFnInsertDelete
open Go.RowKit Go.Proofs.YteddnlklfjpgoaaW.PrintWords Go.Proofs.YteddnlklfjpgoaaW.PrintLast Go.Proofs.YteddnlklfjpgoaaW.PrintMore
attribute [local go_sem] max2_int min2_int max_two min_two max_three min_three max_four min_four
set_option linter.unusedVariables false
set_option linter.unusedSimpArgs false

/-! ### impl_Fact_52: function 52 -/
section
open Go.Lib
section
variable {P : Program}
theorem run_copy_cellsZ (w : World) (dT sT ty elem : TypeId) (sz b o dLen dCap : Nat) (a : Addr) (sLen sCap : Nat) (cs : List Value)
  (hu : P.underlying dT = some (.slice elem)) (hs : (P.info? elem).map (·.size) = some sz) (hn : cs.length = Nat.min sLen dLen * sz)
  (hsrc : ∀ j v, cs[j]? = some v → w.cell? (a.add j) = some v) (hc : ∀ j, j < cs.length → (w.cell? ⟨b, o + j, none⟩).isSome = true) (hf : ∀ j, j < cs.length → w.frozen? ⟨b, o + j, none⟩ = false) (h1 : ∀ v ∈ cs, v.oneCell' = true) :
  (Builtin.copy_ #[dT, sT] ty #[.slice (some ⟨b, o, none⟩) dLen dCap, .slice (some a) sLen sCap]).run P w = .ok (goInt (Nat.min sLen dLen : Nat)) (w.setCells b o cs) := by
 have hl := run_loadCells_list (P := P) w a cs hsrc
 have hst := run_storeCells_cells (P := P) b o cs 0 w (by simpa using hc) (by simpa using hf) h1
 rw [hn] at hl
 cases hq : P.info? elem with
 | none => simp [hq] at hs
 | some i =>
  have hi : i.size = sz := by simpa [hq] using hs
  simp [Builtin.copy_, run_underlying hu, Builtin.lenOf, Builtin.firstCells, sizeOf, typeInfo, hq, hi, hl, hst]
theorem copyZ_wpList (w : World) {ops : Array Oper} {rest : List Oper} {o : Oper} {a : Act} {Q : Exit → Act → World → Prop} (hgd : o.guard = none) (d s : Operand) (t t' : TypeId)
  (ho : o.op = .call { callee := .builtin .copy, args := #[d, s], argTypes := #[t, t'] }) (v u : Value) (hd : a.eval d = v) (hs : a.eval s = u) {v' : Value} {w' : World}
  (hr : (Builtin.copy_ #[t, t'] o.type #[v, u]).run P w = .ok v' w') (h : wpList P ops Q rest (a.put o.dst v') w') : wpList P ops Q (o :: rest) a w :=
 wpList_plain hgd fun _ hK => by
  unfold Oper.wp execOp
  simp only [ho, resolve, invoke, builtin, Sem.run_bind, Sem.run_pure, Result.andThen_ok, List.map_toArray, List.map_cons, List.map_nil, hd, hs, hr]
  exact hK _ _ h
theorem copyZ_step {ops : Array Oper} {o : Oper} {a : Act} {w : World} {K : Act → World → Prop} {Q : Exit → Act → World → Prop} {E : Prop}
  (hg : o.guard = none) (d x : Operand) (dT sT : TypeId) (hop : o.op = Op.call { callee := Callee.builtin Builtin.copy, args := #[d, x], argTypes := #[dT, sT] })
  (v u : Value) (hd : a.eval d = v) (hx : a.eval x = u) {v' : Value} {w' : World} (hr : (Builtin.copy_ #[dT, sT] o.type #[v, u]).run P w = .ok v' w') (hK : K (a.put o.dst v') w') :
  if Region.wanted o (yielded ops a.tmps) = true then Oper.wp P o a w K Q else E := by
 have hw : Region.wanted o (yielded ops a.tmps) = true := by simp [Region.wanted, hg]
 rw [if_pos hw]
 unfold Oper.wp
 simp [execOp, hop, resolve, invoke, builtin, hd, hx, hr, Result.andThen]
 exact hK
theorem setCells_some (b : Nat) (vs : List Value) (o : Nat) (w : World) (h : ∀ j, j < vs.length → (w.cell? ⟨b, o + j, none⟩).isSome = true) (k : Nat) (hk : (w.cell? ⟨b, k, none⟩).isSome = true) : ((w.setCells b o vs).cell? ⟨b, k, none⟩).isSome = true := by
 by_cases hin : o ≤ k ∧ k < o + vs.length
 ·have := World.cell?_setCells_in b vs o w h (k - o) (by omega)
  rw [show o + (k - o) = k by omega] at this
  rw [this]; rfl
 ·rw [World.cell?_setCells_out b vs o w ⟨b, k, none⟩ (fun _ _ => by show k < o ∨ o + vs.length ≤ k; omega)]
  exact hk
end
set_option maxHeartbeats 4000000 in
set_option maxRecDepth 100000 in
theorem ins_shift (b n c i vb vc : Nat) (cs vs : List Value) (w : World) (hi : i < n) (hroom : n + 1 ≤ c) (hc63 : c ≤ 9223372036854775807) (hvb : vb ≠ b)
  (hcl : cs.length = n * 2) (hvl : vs.length = 2)
  (hcs : ∀ j v, cs[j]? = some v → w.cell? ⟨b, j, none⟩ = some v) (hsp : ∀ j, j < (n + 1) * 2 → (w.cell? ⟨b, j, none⟩).isSome = true) (hfz : ∀ j, j < (n + 1) * 2 → w.frozen? ⟨b, j, none⟩ = false)
  (hvs : ∀ j v, vs[j]? = some v → w.cell? ⟨vb, j, none⟩ = some v) (h1c : ∀ v ∈ cs, v.oneCell' = true) (h1v : ∀ v ∈ vs, v.oneCell' = true)
  (tA tB : TypeId) (kA kB : Nat) (hsa : w.shape? vb = some (tA, kA)) (hsb : w.shape? b = some (tB, kB)) (hkB : kB ≠ 0) (hfa : w.frozen? ⟨vb, 0, none⟩ = false) (hfe : w.frozen? ⟨vb, kA, none⟩ = false) :
  Calls Try.prog 52 #[.slice (some ⟨b, 0, none⟩) n c, .int .i64 i, .slice (some ⟨vb, 0, none⟩) 1 vc] w fun e w' =>
   e = .returned (.slice (some ⟨b, 0, none⟩) (n + 1) c) ∧ w' = (w.drew.setCells b ((i + 1) * 2) (cs.drop (i * 2))).setCells b (i * 2) vs := by
 have hz2 : ¬ ((i : Int) = (n : Int)) := by omega
 have hsz : (Try.prog.info? 45).map (·.size) = some 2 := by
  obtain ⟨i0, hi0, h0, h1, h2⟩ := info_parts info45
  rw [hi0]; simp [h1]
 have hdl : (cs.drop (i * 2)).length = (n - i) * 2 := by rw [List.length_drop, hcl, Nat.sub_mul]
 have mixed : Try.prog.follows Departure.mixedOrders = true := by kernel_rfl
 have hw1 : IntKind.i64.wrap ((i : Int) + 1) = (i : Int) + 1 := by rw [IntKind.wrap_i64]; omega
 have hb1 : (0 : Int) ≤ (i : Int) + 1 := by omega
 have hin : i ≤ n := by omega
 have htn : ((i : Int) + 1).toNat = i + 1 := by omega
 have hb2 : ¬ (c = i + 1) := by omega
 have hb3 : (i : Int) ≤ (n : Int) + 1 := by omega
 have hb4 : ¬ (c = i) := by omega
 have hsz0 : ∀ w, (Go.sizeOf 45).run Try.prog w = .ok 2 w := fun w => by
  obtain ⟨i0, hi0, h0, h1, h2⟩ := info_parts info45
  simp [sizeOf, typeInfo, hi0, h1]
 have hov : ∀ lb cb, (callFunc 71 #[.slice (some ⟨vb, 0, none⟩) 1 vc, .slice (some ⟨b, (i + 1) * 2, none⟩) lb cb]).run Try.prog w = .ok (.value (.bool false)) w := fun lb cb => by
  rw [run_callFunc_extern Try.func71 (by kernel_rfl) (by kernel_rfl) (by kernel_rfl) (e := Extern.SlicesOverlaps.overlaps #[29, 29] #[4]) (by kernel_rfl),
   Lib.run_overlaps_apart w 29 4 45 Try.underlying29 2 hsz0 ⟨vb, 0, none⟩ ⟨b, (i + 1) * 2, none⟩ 1 vc lb cb hvb tA tB kA kB hsa hsb hkB hfa hfe]
  rfl
 have hcp1 : ∀ ty dc sc, (Builtin.copy_ #[29, 29] ty #[.slice (some ⟨b, (i + 1) * 2, none⟩) (n - i) dc, .slice (some ⟨b, i * 2, none⟩) (n + 1 - i) sc]).run Try.prog w.drew = .ok (goInt (Nat.min (n + 1 - i) (n - i) : Nat)) (w.drew.setCells b ((i + 1) * 2) (cs.drop (i * 2))) := fun ty dc sc =>
  run_copy_cellsZ w.drew _ _ ty 45 2 b ((i + 1) * 2) (n - i) dc ⟨b, i * 2, none⟩ (n + 1 - i) sc (cs.drop (i * 2)) Try.underlying29 hsz (by rw [hdl]; congr 1; simp only [Nat.min_def]; split <;> omega)
   (fun j v hj => by rw [Addr.add_lit]; exact hcs (i * 2 + j) v (by rwa [List.getElem?_drop] at hj))
   (fun j hj => hsp _ (by omega)) (fun j hj => hfz _ (by omega)) (fun v hv => h1c v (List.mem_of_mem_drop hv))
 obtain ⟨W1, hW1⟩ : ∃ W1, W1 = w.drew.setCells b ((i + 1) * 2) (cs.drop (i * 2)) := ⟨_, rfl⟩
 have hsp1 : ∀ k, k < (n + 1) * 2 → (W1.cell? ⟨b, k, none⟩).isSome = true := fun k hk => by
  rw [hW1]
  exact setCells_some b (cs.drop (i * 2)) ((i + 1) * 2) w.drew (fun j hj => hsp _ (by omega)) _ (hsp k hk)
 have hcp2 : ∀ (W : World), (∀ x, W.cell? x = W1.cell? x) → (∀ x, W.frozen? x = W1.frozen? x) → ∀ ty dc, (Builtin.copy_ #[29, 29] ty #[.slice (some ⟨b, i * 2, none⟩) (n + 1 - i) dc, .slice (some ⟨vb, 0, none⟩) 1 vc]).run Try.prog W = .ok (goInt (Nat.min 1 (n + 1 - i) : Nat)) (W.setCells b (i * 2) vs) := fun W hWc hWf ty dc =>
  run_copy_cellsZ W _ _ ty 45 2 b (i * 2) (n + 1 - i) dc ⟨vb, 0, none⟩ 1 vc vs Try.underlying29 hsz (by rw [hvl, show Nat.min 1 (n + 1 - i) = 1 from Nat.min_eq_left (by omega)])
   (fun j v hj => by
    rw [Addr.add_lit, hWc, hW1, World.cell?_setCells_out b _ _ _ _ (fun h _ => absurd h hvb), Nat.zero_add]
    exact hvs j v hj)
   (fun j hj => by rw [hWc]; exact hsp1 _ (by omega)) (fun j hj => by rw [hWf, hW1, World.frozen?_setCells]; exact hfz _ (by omega)) h1v
 rw [← hW1] at hcp1
 go_enter Try.func52, Try.ntmps52
 go_wp2_with (simp only [hov])
 go_region_law_o (refine copyZ_step rfl _ _ 29 29 rfl _ _ (by simp [Act.eval, Act.put]) (by simp [Act.eval, Act.put]; rfl) (hcp1 _ _ _) ?_)
 go_wp2_with (at_builtin; refine copyZ_wpList _ rfl _ _ 29 29 rfl _ _ rfl rfl (hcp2 _ (fun _ => rfl) (fun _ => rfl) _ _) ?_)
 go_ret
 first | exact ⟨rfl, rfl⟩ | exact ⟨rfl, by rw [hW1]⟩

set_option maxHeartbeats 4000000 in
set_option maxRecDepth 100000 in
theorem ins_end_room (b n c vb vc : Nat) (vs : List Value) (w : World) (hroom : n + 1 ≤ c) (hc63 : c ≤ 9223372036854775807)
  (hvl : vs.length = 2) (hsp : ∀ j, j < 2 → (w.cell? ⟨b, n * 2 + j, none⟩).isSome = true) (hfz : ∀ j, j < 2 → w.frozen? ⟨b, n * 2 + j, none⟩ = false)
  (hvs : ∀ j v, vs[j]? = some v → w.cell? ⟨vb, j, none⟩ = some v) (h1v : ∀ v ∈ vs, v.oneCell' = true) :
  Calls Try.prog 52 #[.slice (some ⟨b, 0, none⟩) n c, .int .i64 n, .slice (some ⟨vb, 0, none⟩) 1 vc] w fun e w' =>
   e = .returned (.slice (some ⟨b, 0, none⟩) (n + 1) c) ∧ w' = w.setCells b (n * 2) vs := by
 obtain ⟨i0, hi0, hz0, hzs, hzb⟩ := info_parts info45
 have mixed : Try.prog.follows Departure.mixedOrders = true := by kernel_rfl
 have hsrc : Src Try.prog i0.size 29 (.slice (some ⟨vb, 0, none⟩) 1 vc) 1 vs w := by
  rw [hzs]
  exact Src.ofSlice w Try.underlying29 ⟨vb, 0, none⟩ 1 vc vs (by omega) (fun j u hj => by rw [Addr.add_lit, Nat.zero_add]; exact hvs j u hj) h1v
 have hrun := fun ty => run_append_room_src (P := Try.prog) (w := w) 29 29 ty 45 i0 Try.underlying29 hi0 b 0 n c _ 1 vs hsrc hroom (by rw [hvl, hzs, Nat.zero_add]; exact hsp) (by rw [hvl, hzs, Nat.zero_add]; exact hfz)
 rw [hzs, Nat.zero_add] at hrun
 go_enter Try.func52, Try.ntmps52
 go_wp2_with (at_builtin; refine Lib.wpList_append_run _ rfl _ _ _ _ rfl _ _ rfl rfl _ _ (hrun _) ?_)
 all_goals (go_ret; exact ⟨rfl, rfl⟩)

set_option maxHeartbeats 4000000 in
set_option maxRecDepth 100000 in
theorem ins_end_grow (base : Option Addr) (n c vb vc : Nat) (cs vs : List Value) (w : World) (hnc : n ≤ c) (hroom : c < n + 1) (hbig : (n + 1) * 32 ≤ 140737488355328)
  (hcl : cs.length = n * 2) (hvl : vs.length = 2) (hnil : base = none → n = 0)
  (hcs : ∀ a, base = some a → ∀ j v, cs[j]? = some v → w.cell? (a.add j) = some v)
  (hvs : ∀ j v, vs[j]? = some v → w.cell? ⟨vb, j, none⟩ = some v) (h1v : ∀ v ∈ vs, v.oneCell' = true) :
  Calls Try.prog 52 #[.slice base n c, .int .i64 n, .slice (some ⟨vb, 0, none⟩) 1 vc] w fun e w' =>
   e = .returned (.slice (some ⟨w.heap.size, 0, none⟩) (n + 1) (grownCap w (n + 1) c 45)) ∧
   w' = w.drew.alloc (.cells ((cs ++ vs).toArray ++ Builtin.zeroCells (Value.agg #[(.int .i64 0), (.slice none 0 0)]).cells (grownCap w (n + 1) c 45 - (n + 1))) 45) := by
 obtain ⟨i0, hi0, hz0, hzs, hzb⟩ := info_parts info45
 have mixed : Try.prog.follows Departure.mixedOrders = true := by kernel_rfl
 have hsrc : Src Try.prog i0.size 29 (.slice (some ⟨vb, 0, none⟩) 1 vc) 1 vs w := by
  rw [hzs]
  exact Src.ofSlice w Try.underlying29 ⟨vb, 0, none⟩ 1 vc vs (by omega) (fun j u hj => by rw [Addr.add_lit, Nat.zero_add]; exact hvs j u hj) h1v
 have hold : (Builtin.firstCells i0.size n (.slice base n c)).run Try.prog w.drew = .ok cs.toArray w.drew := by
  rw [hzs]
  cases base with
  | none =>
   have h0 := hnil rfl
   subst h0
   rw [List.length_eq_zero_iff.1 (show cs.length = 0 by omega)]
   exact run_firstCells_none w.drew 2 0 0 c
  | some a => exact run_firstCells_some w.drew 2 n a n c cs (by omega) (fun j v hj => hcs a rfl j v hj)
 have hrun : ∀ ty, (Builtin.append_ #[29, 29] ty #[.slice base n c, .slice (some ⟨vb, 0, none⟩) 1 vc]).run Try.prog w = _ := fun ty =>
  run_append_grow_src w 29 29 ty 45 i0 _ Try.underlying29 hi0 hz0 base n c cs hold _ 1 vs hsrc hroom (by omega) (by rw [hzb]; exact growslice_fits hroom hbig)
 go_enter Try.func52, Try.ntmps52
 cases base with
 | none =>
  have h0 := hnil rfl
  subst h0
  go_wp2_with (at_builtin; refine Lib.wpList_append_run _ rfl _ _ _ _ rfl _ _ rfl rfl _ _ (hrun _) ?_)
  go_ret
  exact ⟨rfl, rfl⟩
 | some a =>
  obtain ⟨ab, ao, asp⟩ := a
  go_wp2_with (at_builtin; refine Lib.wpList_append_run _ rfl _ _ _ _ rfl _ _ rfl rfl _ _ (hrun _) ?_)
  all_goals (go_ret; exact ⟨rfl, rfl⟩)

set_option maxHeartbeats 4000000 in
set_option maxRecDepth 100000 in
theorem ins_grow (b n c i vb vc : Nat) (cs vs : List Value) (w : World) (hi : i < n) (hnc : n ≤ c) (hroom : c < n + 1) (hbig : (n + 1) * 32 ≤ 140737488355328)
  (hcl : cs.length = n * 2) (hvl : vs.length = 2)
  (hcs : ∀ j v, cs[j]? = some v → w.cell? ⟨b, j, none⟩ = some v)
  (hvs : ∀ j v, vs[j]? = some v → w.cell? ⟨vb, j, none⟩ = some v) (h1c : ∀ v ∈ cs, v.oneCell' = true) (h1v : ∀ v ∈ vs, v.oneCell' = true) :
  Calls Try.prog 52 #[.slice (some ⟨b, 0, none⟩) n c, .int .i64 i, .slice (some ⟨vb, 0, none⟩) 1 vc] w fun e w' =>
   e = .returned (.slice (some ⟨w.heap.size, 0, none⟩) (n + 1) (grownCap w (n + 1) c 45)) ∧
   ∃ ROW : Array Value, ROW.size = grownCap w (n + 1) c 45 * 2 ∧ ROW.toList.take (i * 2) = cs.take (i * 2) ∧
   w' = (((w.alloc (.cells ROW 45)).drew.setCells w.heap.size (i * 2) vs).drew).setCells w.heap.size ((i + 1) * 2) (cs.drop (i * 2)) := by
 have mixed : Try.prog.follows Departure.mixedOrders = true := by kernel_rfl
 obtain ⟨i0, hi0, hz0, hzs, hzb⟩ := info_parts info45
 have hz2 : ¬ ((i : Int) = (n : Int)) := by omega
 have hz3 : (c : Int) < (n : Int) + 1 := by omega
 have hsz : (Try.prog.info? 45).map (·.size) = some 2 := by rw [hi0]; simp [hzs]
 have hbw : b < w.heap.size := block_lt_of_cell (hcs 0 _ (List.getElem?_eq_getElem (by omega)))
 have hvw : vb < w.heap.size := block_lt_of_cell (hvs 0 _ (List.getElem?_eq_getElem (by omega)))
 have hkk : (n : Int) + 1 - (i : Int) = ((n + 1 - i : Nat) : Int) := by omega
 have hik : i + (n + 1 - i) = n + 1 := by omega
 have htl : (cs.take (i * 2)).length = i * 2 := by rw [List.length_take]; omega
 have hold : (Builtin.firstCells i0.size i (.slice (some ⟨b, 0, none⟩) i c)).run Try.prog w.drew = .ok (cs.take (i * 2)).toArray w.drew := by
  rw [hzs]
  exact run_firstCells_some w.drew 2 i ⟨b, 0, none⟩ i c (cs.take (i * 2)) htl (fun j v hj => by
   rw [Addr.add_lit, Nat.zero_add]
   rw [List.getElem?_take] at hj
   split at hj
   ·exact hcs j v hj
   ·cases hj)
 have hrz : ∀ ty, (Builtin.append_ #[29, 3] ty #[.slice (some ⟨b, 0, none⟩) i c, .int .i64 ((n : Int) + 1 - (i : Int))]).run Try.prog w =
   .ok (.slice (some ⟨w.heap.size, 0, none⟩) (n + 1) (grownCap w (n + 1) c 45)) (w.drew.alloc (.cells ((cs.take (i * 2)).toArray ++ Builtin.zeroCells (Value.agg #[(.int .i64 0), (.slice none 0 0)]).cells (n + 1 - i) ++ Builtin.zeroCells (Value.agg #[(.int .i64 0), (.slice none 0 0)]).cells (grownCap w (n + 1) c 45 - (n + 1))) 45)) := fun ty => by
  have h := Lib.run_append_grow_zeros w 29 3 ty 45 i0 _ .i64 .i64 Try.underlying29 Try.underlying3 hi0 hz0 (some ⟨b, 0, none⟩) i c (cs.take (i * 2)) hold (n + 1 - i) (by omega) (by omega) (by omega) (by omega) (by rw [hzb]; omega) (by rw [hzb, hik]; exact growslice_fits hroom hbig)
  rw [hik] at h
  rw [hkk]
  exact h
 obtain ⟨G, hG⟩ : ∃ G, G = grownCap w (n + 1) c 45 := ⟨_, rfl⟩
 have hGn : n + 1 ≤ G := by rw [hG]; exact grownCap_ge w _ _ _
 have hG63 : G ≤ 9223372036854775807 := by
  have := grownCap_le_maxLen w (n + 1) c 45 (by unfold maxLen; omega)
  rw [← hG] at this
  unfold maxLen at this
  omega
 obtain ⟨ROW, hROW⟩ : ∃ ROW : Array Value, ROW = (cs.take (i * 2)).toArray ++ Builtin.zeroCells (Value.agg #[(.int .i64 0), (.slice none 0 0)]).cells (n + 1 - i) ++ Builtin.zeroCells (Value.agg #[(.int .i64 0), (.slice none 0 0)]).cells (G - (n + 1)) := ⟨_, rfl⟩
 rw [← hG] at hrz ⊢
 rw [← hROW] at hrz
 have hRs : ROW.size = G * 2 := by
  rw [hROW]
  simp [Builtin.zeroCells, Value.cells]
  omega
 have hRt : ROW.toList.take (i * 2) = cs.take (i * 2) := by
  rw [hROW, Array.toList_append, Array.toList_append, List.append_assoc, List.take_append_of_le_length (by simp; omega)]
  exact List.take_of_length_le (by simp; omega)
 have hRl : (n + 1) * 2 ≤ ROW.size := by omega
 obtain ⟨W1, hW1⟩ : ∃ W1, W1 = w.drew.alloc (.cells ROW 45) := ⟨_, rfl⟩
 rw [← hW1] at hrz
 have hN : ∀ j, j < (n + 1) * 2 → (W1.cell? ⟨w.heap.size, j, none⟩).isSome = true := fun j hj => by
  rw [hW1, World.cell?_alloc_at (w := w.drew) ROW _ w.heap.size j rfl, Array.getElem?_eq_getElem (by omega)]; rfl
 have hNf : ∀ j, W1.frozen? ⟨w.heap.size, j, none⟩ = false := fun j => by rw [hW1]; exact World.frozen?_alloc_at (w := w.drew) ROW _ w.heap.size j rfl
 have hOb : ∀ j v, w.cell? ⟨b, j, none⟩ = some v → W1.cell? ⟨b, j, none⟩ = some v := fun j v h => by rw [hW1, World.cell?_alloc_past (w := w.drew) _ b j hbw]; exact h
 have hOv : ∀ j v, w.cell? ⟨vb, j, none⟩ = some v → W1.cell? ⟨vb, j, none⟩ = some v := fun j v h => by rw [hW1, World.cell?_alloc_past (w := w.drew) _ vb j hvw]; exact h
 have hcpA : ∀ (W : World), (∀ x, W.cell? x = W1.cell? x) → (∀ x, W.frozen? x = W1.frozen? x) → ∀ ty dc, (Builtin.copy_ #[29, 29] ty #[.slice (some ⟨w.heap.size, i * 2, none⟩) (n + 1 - i) dc, .slice (some ⟨vb, 0, none⟩) 1 vc]).run Try.prog W = .ok (goInt (Nat.min 1 (n + 1 - i) : Nat)) (W.setCells w.heap.size (i * 2) vs) := fun W hWc hWf ty dc =>
  run_copy_cellsZ W _ _ ty 45 2 w.heap.size (i * 2) (n + 1 - i) dc ⟨vb, 0, none⟩ 1 vc vs Try.underlying29 hsz (by rw [hvl, show Nat.min 1 (n + 1 - i) = 1 from Nat.min_eq_left (by omega)])
   (fun j v hj => by rw [Addr.add_lit, hWc, Nat.zero_add]; exact hOv _ v (hvs j v hj))
   (fun j hj => by rw [hWc]; exact hN _ (by omega)) (fun j hj => by rw [hWf]; exact hNf _) h1v
 have hGi : ¬ (G = i) := by omega
 have hGim : ¬ (G = i + 1) := by omega
 have hci : ¬ (c = i) := by omega
 have hbN : b ≠ w.heap.size := by omega
 have hdl : (cs.drop (i * 2)).length = (n - i) * 2 := by rw [List.length_drop, hcl, Nat.sub_mul]
 have hcpB : ∀ (W : World), (∀ x, W.cell? x = (W1.setCells w.heap.size (i * 2) vs).cell? x) → (∀ x, W.frozen? x = (W1.setCells w.heap.size (i * 2) vs).frozen? x) → ∀ ty dc sc, (Builtin.copy_ #[29, 29] ty #[.slice (some ⟨w.heap.size, (i + 1) * 2, none⟩) (n - i) dc, .slice (some ⟨b, i * 2, none⟩) (n - i) sc]).run Try.prog W = .ok (goInt (Nat.min (n - i) (n - i) : Nat)) (W.setCells w.heap.size ((i + 1) * 2) (cs.drop (i * 2))) := fun W hWc hWf ty dc sc =>
  run_copy_cellsZ W _ _ ty 45 2 w.heap.size ((i + 1) * 2) (n - i) dc ⟨b, i * 2, none⟩ (n - i) sc (cs.drop (i * 2)) Try.underlying29 hsz (by rw [hdl]; congr 1; simp only [Nat.min_def]; split <;> omega)
   (fun j v hj => by
    rw [Addr.add_lit, hWc, World.cell?_setCells_out _ _ _ _ _ (fun h _ => absurd h hbN)]
    exact hOb _ v (hcs (i * 2 + j) v (by rwa [List.getElem?_drop] at hj)))
   (fun j hj => by rw [hWc]; exact setCells_some _ _ _ _ (fun t ht => hN _ (by omega)) _ (hN _ (by omega)))
   (fun j hj => by rw [hWf, World.frozen?_setCells]; exact hNf _) (fun v hv => h1c v (List.mem_of_mem_drop hv))
 subst hW1
 have hE1 : ∀ x, ((w.alloc (.cells ROW 45)).drew).cell? x = (w.drew.alloc (.cells ROW 45)).cell? x := fun x => rfl
 have hE2 : ∀ x, ((w.alloc (.cells ROW 45)).drew).frozen? x = (w.drew.alloc (.cells ROW 45)).frozen? x := fun x => rfl
 have hF1 : ∀ x, (((w.alloc (.cells ROW 45)).drew.setCells w.heap.size (i * 2) vs).drew).cell? x = ((w.drew.alloc (.cells ROW 45)).setCells w.heap.size (i * 2) vs).cell? x := fun x => rfl
 have hF2 : ∀ x, (((w.alloc (.cells ROW 45)).drew.setCells w.heap.size (i * 2) vs).drew).frozen? x = ((w.drew.alloc (.cells ROW 45)).setCells w.heap.size (i * 2) vs).frozen? x := fun x => rfl
 have hw1 : IntKind.i64.wrap ((i : Int) + 1) = (i : Int) + 1 := by rw [IntKind.wrap_i64]; omega
 have hb1 : (0 : Int) ≤ (i : Int) + 1 := by omega
 have hin : i ≤ n := by omega
 have htn : ((i : Int) + 1).toNat = i + 1 := by omega
 have hb3 : (i : Int) ≤ (n : Int) := by omega
 clear hkk hik hold hROW hG hRl htl
 go_enter Try.func52, Try.ntmps52
 go_wp2_with (first
  | (at_builtin; refine Lib.wpList_append_run _ rfl _ _ _ _ rfl _ _ rfl rfl _ _ (hrz _) ?_)
  | (at_builtin; refine copyZ_wpList _ rfl _ _ 29 29 rfl _ _ rfl rfl (hcpA _ hE1 hE2 _ _) ?_)
  | (at_builtin; refine copyZ_wpList _ rfl _ _ 29 29 rfl _ _ rfl rfl (hcpB _ (fun _ => rfl) (fun _ => rfl) _ _ _) ?_))
 go_region_law_o (refine copyZ_step rfl _ _ 29 29 rfl (.slice (some ⟨w.heap.size, (i + 1) * 2, none⟩) (n - i) (G - (i + 1))) (.slice (some ⟨b, i * 2, none⟩) (n - i) (c - i)) (by simp [Act.eval, Act.put]) (by simp [Act.eval, Act.put]) (hcpB _ hF1 hF2 3 (G - (i + 1)) (c - i)) ?_)
 go_wp2
 go_ret
 exact ⟨rfl, ROW, hRs, hRt, rfl⟩
/-- A row into which an element has been laid at place i. -/
theorem S_insert {α : Type} {d : Kd α} {e base i : Nat} {W W1 : World} {ok okp : Nat → Prop} {v v1 : Value} {xs : List α} {p : α} {cs : List Value}
  (h : Kd.S d e W base (fun k => ok k ∧ ¬ okp k) v xs) (hp : d.M W base okp p cs) (hokp : ∀ k, okp k → ok k ∧ some k ≠ v.ownBlock) (hi : i ≤ xs.length)
  (ho1 : ∀ inner, W.ownsRow base e d.sz v xs.length inner → W1.ownsRow base e d.sz v1 (xs.length + 1) (inner.take (i * d.sz) ++ cs ++ inner.drop (i * d.sz))) (hg : W.grownBy W1 v.ownBlock)
  (hat : v1.ownBlock = v.ownBlock ∨ ∃ b, v1.ownBlock = some b ∧ W.heap.size ≤ b ∧ ok b) :
  Kd.S d e W1 base ok v1 (xs.take i ++ p :: xs.drop i) := by
 obtain ⟨f, h⟩ := h
 obtain ⟨h0, inner, ho, hr⟩ := Kd.R_bound h
 have hpb := d.M_bound hp
 rw [List.length_zipIdx] at ho
 have hil : inner.length = xs.length * d.sz := by have := hr.1; rw [List.length_zipIdx] at this; exact this
 have hcl := d.K_len (d.K_of_M hp)
 have hlen : (xs.take i ++ p :: xs.drop i).length = xs.length + 1 := by simp only [List.length_append, List.length_take, List.length_cons, List.length_drop]; omega
 have hne1 : ∀ k, k < W.heap.size → some k ≠ v.ownBlock → some k ≠ v1.ownBlock := by
  intro k hk hkv
  rcases hat with hat | ⟨b, hb, hle, _⟩
  ·rw [hat]; exact hkv
  ·rw [hb]; intro he; injection he with he; omega
 have hown := ho1 inner ho
 classical
 refine ⟨fun b => if okp b then i else if i ≤ f b then f b + 1 else f b, ?_, inner.take (i * d.sz) ++ cs ++ inner.drop (i * d.sz), by rw [List.length_zipIdx, hlen]; exact hown, ?_, ?_⟩
 ·intro k hk
  rcases hat with hat | ⟨b, hb, _, hok⟩
  ·rw [hat] at hk; exact (h0 k hk).1.1
  ·rw [hb] at hk; injection hk with hk; subst hk; exact hok
 ·show (inner.take (i * d.sz) ++ cs ++ inner.drop (i * d.sz)).length = (xs.take i ++ p :: xs.drop i).zipIdx.length * d.sz
  rw [List.length_zipIdx, hlen]
  have hm : i * d.sz ≤ xs.length * d.sz := Nat.mul_le_mul_right _ hi
  simp only [List.length_append, List.length_take, List.length_drop]
  rw [hil, hcl, Nat.succ_mul]
  omega
 ·intro j q hj
  rw [List.getElem?_zipIdx, Nat.zero_add] at hj
  obtain ⟨x, hx, rfl⟩ := Option.map_eq_some_iff.1 hj
  have hm : i * d.sz ≤ inner.length := by rw [hil]; exact Nat.mul_le_mul_right _ hi
  have htl : (inner.take (i * d.sz)).length = i * d.sz := by rw [List.length_take]; omega
  show d.M W1 base (fun k => (ok k ∧ some k ≠ v1.ownBlock) ∧ (if okp k then i else if i ≤ f k then f k + 1 else f k) = j) x (((inner.take (i * d.sz) ++ cs ++ inner.drop (i * d.sz)).drop (j * d.sz)).take d.sz)
  -- one of the elder elements, at its elder place j0
  have old : ∀ j0, xs[j0]? = some x → (if i ≤ j0 then j0 + 1 else j0) = j → d.M W1 base (fun k => (ok k ∧ some k ≠ v1.ownBlock) ∧ (if okp k then i else if i ≤ f k then f k + 1 else f k) = j) x ((inner.drop (j0 * d.sz)).take d.sz) := by
   intro j0 hj0 hjj
   have hm0 := hr.2 j0 (x, j0) (Kd.zip_at hj0)
   have hm1 : d.M W base _ x ((inner.drop (j0 * d.sz)).take d.sz) := hm0
   refine d.M_mono (fun k hk => ?_) (d.M_move (w1 := W1) (fun k hk => hg.block k hk.1.1.2.2.1 hk.1.2) hm1)
   obtain ⟨⟨⟨⟨hok, hnp⟩, hbk, hlt, _⟩, hne⟩, hf⟩ := hk
   refine ⟨⟨hok, hne1 k hlt hne⟩, ?_⟩
   have hf' : f k = j0 := hf
   rw [if_neg hnp, hf']
   exact hjj
  rcases Nat.lt_trichotomy j i with hlt | heq | hgt
  ·rw [List.getElem?_append_left (by rw [List.length_take]; omega), List.getElem?_take, if_pos hlt] at hx
   have := old j hx (if_neg (by omega))
   have hjm : j * d.sz + d.sz ≤ i * d.sz := by rw [← Nat.succ_mul]; exact Nat.mul_le_mul_right _ hlt
   have he : ((inner.take (i * d.sz) ++ cs ++ inner.drop (i * d.sz)).drop (j * d.sz)).take d.sz = (inner.drop (j * d.sz)).take d.sz := by
    rw [List.append_assoc, List.drop_append_of_le_length (by omega), List.take_append_of_le_length (by rw [List.length_drop]; omega), List.drop_take, List.take_take, Nat.min_eq_left (by omega)]
   rw [he]
   exact this
  ·subst heq
   rw [List.getElem?_append_right (by rw [List.length_take]; omega), List.length_take, Nat.min_eq_left hi, Nat.sub_self, List.getElem?_cons_zero] at hx
   have hx' : p = x := by injection hx
   subst hx'
   have he : ((inner.take (j * d.sz) ++ cs ++ inner.drop (j * d.sz)).drop (j * d.sz)).take d.sz = cs := by
    rw [List.append_assoc, List.drop_append, htl, Nat.sub_self, List.drop_zero, List.drop_eq_nil_of_le (by omega), List.nil_append, List.take_append_of_le_length (by omega), List.take_of_length_le (by omega)]
   rw [he]
   refine d.M_mono (fun k hk => ?_) (d.M_move (w1 := W1) (fun k hk => hg.block k hk.2.2.1 (hokp k hk.1).2) hpb)
   exact ⟨⟨(hokp k hk.1).1, hne1 k hk.2.2.1 (hokp k hk.1).2⟩, if_pos hk.1⟩
  ·obtain ⟨j0, rfl⟩ : ∃ j0, j = j0 + 1 := ⟨j - 1, by omega⟩
   rw [List.getElem?_append_right (by rw [List.length_take]; omega), List.length_take, Nat.min_eq_left hi, show j0 + 1 - i = (j0 - i) + 1 by omega, List.getElem?_cons_succ, List.getElem?_drop, show i + (j0 - i) = j0 by omega] at hx
   have := old j0 hx (if_pos (by omega))
   have hjm : i * d.sz ≤ j0 * d.sz := Nat.mul_le_mul_right _ (by omega)
   have he : ((inner.take (i * d.sz) ++ cs ++ inner.drop (i * d.sz)).drop ((j0 + 1) * d.sz)).take d.sz = (inner.drop (j0 * d.sz)).take d.sz := by
    rw [Nat.succ_mul, List.drop_append, List.drop_eq_nil_of_le (by rw [List.length_append, htl, hcl]; omega), List.nil_append, List.length_append, htl, hcl, List.drop_drop, show i * d.sz + (j0 * d.sz + d.sz - (i * d.sz + d.sz)) = j0 * d.sz by omega]
   rw [he]
   exact this

theorem own_uniq {w : World} {base e sz n : Nat} {v : Value} {xs ys : List Value} (h : w.ownsRow base e sz v n xs) (h' : w.ownsRow base e sz v n ys) : xs = ys := by
 obtain ⟨h1, h2⟩ := h
 obtain ⟨h1', h2'⟩ := h'
 rcases h2 with ⟨rfl, rfl⟩ | ⟨g, cap, cur, rfl, hb, hh, hnc, hcm, hcs, ht⟩
 ·rw [List.length_eq_zero_iff.1 (by omega : xs.length = 0), List.length_eq_zero_iff.1 (by omega : ys.length = 0)]
 ·rcases h2' with ⟨hv, _⟩ | ⟨g', cap', cur', hv, hb', hh', hnc', hcm', hcs', ht'⟩
  ·cases hv
  ·injection hv with ha _ hc
   injection ha with ha
   injection ha with hg
   subst hg; subst hc
   rw [hh] at hh'
   injection hh' with hh'
   injection hh' with hh'
   subst hh'
   rw [← ht, ← ht']
theorem own_one {α : Type} {d : Kd α} {e base : Nat} {W : World} {ok : Nat → Prop} {v : Value} {xs : List α} (hs0 : 0 < d.sz) (h : d.R e W base ok v xs) (inner : List Value) (hi : W.ownsRow base e d.sz v xs.length inner) : ∀ u ∈ inner, u.oneCell' = true := by
 obtain ⟨_, inner', hi', hr⟩ := h
 have := own_uniq hi hi'
 subst this
 intro u hu
 obtain ⟨q, hq, rfl⟩ := List.mem_iff_getElem.1 hu
 have hql : q / d.sz < xs.length := by
  rw [Nat.div_lt_iff_lt_mul hs0, ← hr.1]
  exact hq
 have hc := hr.2 (q / d.sz) _ (List.getElem?_eq_getElem hql)
 refine d.K_one (d.K_of_M hc) _ ?_
 rw [List.mem_iff_getElem?]
 refine ⟨q % d.sz, ?_⟩
 rw [List.getElem?_take, if_pos (Nat.mod_lt _ hs0), List.getElem?_drop, Nat.mul_comm, Nat.div_add_mod, List.getElem?_eq_getElem hq]
theorem take3 (A V B Z : List Value) (k : Nat) (hk : k = A.length + V.length + B.length) : (A ++ V ++ (B ++ Z)).take k = A ++ V ++ B := by
 rw [← List.append_assoc]
 exact List.take_left' (by simp only [List.length_append]; omega)
set_option maxHeartbeats 4000000 in
theorem ins_own (okp : Nat → Prop) (base i : Nat) (w W1 : World) (u v1 : Value) (x : S45) (l0 : List S45) (vs inner : List Value) (ho : Kd.S k45 45 w base (fun k => True ∧ ¬ okp k) u l0) (hM : k45.M w base okp x vs)
  (hne : ∀ k, okp k → some k ≠ u.ownBlock) (hi : i ≤ l0.length) (hin : w.ownsRow base 45 2 u l0.length inner) (h1 : W1.ownsRow base 45 2 v1 (l0.length + 1) (inner.take (i * 2) ++ vs ++ inner.drop (i * 2)))
  (hg : w.grownBy W1 u.ownBlock) (hat : v1.ownBlock = u.ownBlock ∨ ∃ b, v1.ownBlock = some b ∧ w.heap.size ≤ b) : Kd.S k45 45 W1 base (fun _ => True) v1 (l0.take i ++ x :: l0.drop i) :=
 S_insert (d := k45) (okp := okp) ho hM (fun k hk => ⟨trivial, hne k hk⟩) hi (fun inner' hi' => by have := own_uniq hin hi'; subst this; exact h1) hg (hat.elim .inl (fun ⟨b, h, hb⟩ => .inr ⟨b, h, hb, trivial⟩))
def impl_Fact_52.f (l0 : List S45) (a1 : Int) (l2 : List S45) : Option (List S45) := if 0 ≤ a1 ∧ a1 ≤ (l0.length : Int) ∧ l2.length = 1 ∧ l0.length < 4398046511104 then some (l0.take a1.toNat ++ l2 ++ l0.drop a1.toNat) else none
set_option maxHeartbeats 4000000 in
set_option maxRecDepth 100000 in
theorem impl_Fact_52.calls (okp : Nat → Prop) (u : Value) (l0 : List S45) (a1 : Int) (A2 : Option Addr) (c2 : Nat) (l2 r1 : List S45) (w0 w : World) (hB : Below w0.heap.size w0 w) (ho : Kd.S k45 45 w w0.heap.size (fun k => True ∧ ¬ okp k) u l0)
  (hp : Kd.R k45 45 w w0.heap.size okp (.slice A2 l2.length c2) l2) (h : impl_Fact_52.f l0 a1 l2 = some r1) :
  Calls Try.prog 52 #[u, .int .i64 a1, .slice A2 l2.length c2] w fun e w' => ∃ v0_ : Value, e = .returned v0_ ∧ Kd.S k45 45 w' w0.heap.size (fun _ => True) v0_ r1 ∧ w.grownBy w' u.ownBlock ∧ Below w0.heap.size w0 w' := by
 unfold impl_Fact_52.f at h
 by_cases hc : 0 ≤ a1 ∧ a1 ≤ (l0.length : Int) ∧ l2.length = 1 ∧ l0.length < 4398046511104
 ·rw [if_pos hc] at h
  obtain rfl := Option.some.inj h
  obtain ⟨h0, h1, h2, h3⟩ := hc
  obtain ⟨i, rfl⟩ := Int.eq_ofNat_of_zero_le h0
  obtain ⟨x, rfl⟩ := List.length_eq_one_iff.1 h2
  have hi : i ≤ l0.length := by omega
  rw [Int.toNat_natCast, List.append_assoc, List.singleton_append]
  obtain ⟨vb, vc_, hva, hvb0, hvbl, cl, hcl⟩ := Kd.R_form hp (by simp)
  injection hva with ha _ hcc
  subst ha; subst hcc
  obtain ⟨vs, hvl, hM, hvs⟩ := Kd.R_getA hp x 0 (by omega) (by simp)
  have hM1 : k45.M w w0.heap.size okp x vs := k45.M_mono (fun _ hk => hk.1) hM
  have hvs' : ∀ j v, vs[j]? = some v → w.cell? ⟨vb, j, none⟩ = some v := fun j v hj => by
   have := hvs j v hj
   rw [Addr.add_lit] at this
   simpa using this
  have hokb : okp vb := hp.1 vb rfl
  have hne : ∀ k, okp k → some k ≠ u.ownBlock := fun k hk he => ((Kd.S_R ho).1 k he.symm).2 hk
  have h1v : ∀ v ∈ vs, v.oneCell' = true := k45.K_one (k45.K_of_M hM)
  have hvl2 : vs.length = 2 := hvl
  obtain ⟨inner, hin⟩ := Kd.S_own ho
  have h1c := own_one (show 0 < k45.sz by decide) (Kd.S_R ho) inner hin
  replace hin : w.ownsRow w0.heap.size 45 2 u l0.length inner := hin
  have hil : inner.length = l0.length * 2 := hin.1
  have hfin := fun W1 v1 => ins_own okp w0.heap.size i w W1 u v1 x l0 vs inner ho hM1 hne hi hin
  have hne1 : some vb ≠ u.ownBlock := hne vb hokb
  have hbase : w0.heap.size ≤ w.heap.size := hB.size
  have hub : ∀ k, u.ownBlock = some k → w0.heap.size ≤ k := Kd.R_base (Kd.S_R ho)
  clear ho hp hM hM1 hvs h h2 hne hokb
  have fin : ∀ (e : Ending) (W1 : World) (v1 : Value), e = .returned v1 → W1.ownsRow w0.heap.size 45 2 v1 (l0.length + 1) (inner.take (i * 2) ++ vs ++ inner.drop (i * 2)) → w.grownBy W1 u.ownBlock → (v1.ownBlock = u.ownBlock ∨ ∃ b, v1.ownBlock = some b ∧ w.heap.size ≤ b) →
    ∃ v0_ : Value, e = .returned v0_ ∧ Kd.S k45 45 W1 w0.heap.size (fun _ => True) v0_ (l0.take i ++ x :: l0.drop i) ∧ w.grownBy W1 u.ownBlock ∧ Below w0.heap.size w0 W1 := fun e W1 v1 he ho1 hg hat =>
   ⟨v1, he, hfin W1 v1 ho1 hg hat, hg, hB.grown hg hbase hub⟩
  have e0 : inner.drop (l0.length * 2) = [] := List.drop_eq_nil_of_le (by omega)
  have e1 : inner.take (l0.length * 2) = inner := List.take_of_length_le (by omega)
  -- no room, at the end
  have endg : ∀ (base : Option Addr) (c : Nat), u = .slice base l0.length c → i = l0.length → l0.length ≤ c → c < l0.length + 1 → (base = none → l0.length = 0) → (∀ a, base = some a → ∀ j v, inner[j]? = some v → w.cell? (a.add j) = some v) →
    Calls Try.prog 52 #[u, .int .i64 i, .slice (some ⟨vb, 0, none⟩) 1 c2] w fun e w' => ∃ v0_ : Value, e = .returned v0_ ∧ Kd.S k45 45 w' w0.heap.size (fun _ => True) v0_ (l0.take i ++ x :: l0.drop i) ∧ w.grownBy w' u.ownBlock ∧ Below w0.heap.size w0 w' := by
   intro base c hu hie hnc hroom hnil hcs
   subst hie
   rw [hu]
   refine (ins_end_grow base l0.length c vb c2 inner vs w hnc hroom (by omega) hil hvl2 hnil hcs hvs' h1v).mono ?_
   rintro e W1 ⟨he, rfl⟩
   rw [← hu]
   have hG := grownCap_ge w (l0.length + 1) c 45
   refine fin e _ _ he ?_ ?_ (.inr ⟨w.heap.size, rfl, Nat.le_refl _⟩)
   ·refine ⟨by rw [e0, e1, List.append_nil, List.length_append]; omega, .inr ⟨w.heap.size, _, _, rfl, hbase, blk_new w.drew _, hG, grownCap_le_maxLen w _ _ _ (by unfold maxLen; omega), ?_, ?_⟩⟩
    ·have hzc : ∀ n, (Builtin.zeroCells (Value.agg #[(.int .i64 0), (.slice none 0 0)]).cells n).size = n * 2 := fun n => by simp [Builtin.zeroCells, Value.cells]
     rw [Array.size_append, hzc, List.size_toArray, List.length_append]
     omega
    ·rw [e0, e1, List.append_nil, Array.toList_append, List.toList_toArray]
     exact List.take_left' (by rw [List.length_append]; omega)
   ·have hga := World.grownBy_alloc w.drew (.cells ((inner ++ vs).toArray ++ Builtin.zeroCells (Value.agg #[(.int .i64 0), (.slice none 0 0)]).cells (grownCap w (l0.length + 1) c 45 - (l0.length + 1))) 45) u.ownBlock
    exact ⟨hga.os, hga.tape, hga.output, hga.size, hga.block⟩
  rcases hin.2 with ⟨hu, hn0⟩ | ⟨g, c, cur, hu, hgb, hh, hnc, hcm, hcs, ht⟩
  ·exact endg none 0 (by rw [hu, hn0]) (by omega) (by omega) (by omega) (fun _ => hn0) (fun a ha => by cases ha)
  ·have hvg : vb ≠ g := fun he => hne1 (by rw [hu, he]; rfl)
   have hcc : ∀ j v, inner[j]? = some v → w.cell? ⟨g, j, none⟩ = some v := fun j v hj => by
    rw [blk_cell hh]
    rw [← ht, List.getElem?_take] at hj
    split at hj
    ·rw [← Array.getElem?_toList]; exact hj
    ·cases hj
   have hgl := blk_lt hh
   unfold maxLen at hcm
   by_cases hroom : l0.length + 1 ≤ c
   ·have hsp : ∀ j, j < (l0.length + 1) * 2 → (w.cell? ⟨g, j, none⟩).isSome = true := fun j hj => by
     rw [blk_cell hh, Array.getElem?_eq_getElem (by omega)]; rfl
    have hLl : cur.toList.length = c * 2 := by rw [Array.length_toList]; exact hcs
    by_cases hie : i = l0.length
    ·subst hie
     rw [hu]
     refine (ins_end_room g l0.length c vb c2 vs w hroom (by omega) hvl2 (fun j hj => hsp _ (by omega)) (fun j hj => blk_frozen hh _) hvs' h1v).mono ?_
     rintro e W1 ⟨he, rfl⟩
     rw [← hu]
     obtain ⟨cur1, q1, q2, q3⟩ := setCells_row vs (l0.length * 2) w cur hh (by omega)
     obtain ⟨s1, s2, s3, s4⟩ := setCells_same g vs (l0.length * 2) w
     refine fin e _ _ he ?_ ⟨s1, s2, s3, by omega, fun k hk hne => setCells_far vs _ k (fun he => hne (by rw [hu, he]; rfl))⟩ (.inl (by rw [hu]; rfl))
     refine ⟨by rw [e0, e1, List.append_nil, List.length_append]; omega, .inr ⟨g, c, cur1, rfl, hgb, q1, hroom, by unfold maxLen; exact hcm, by omega, ?_⟩⟩
     rw [q3, e0, e1, List.append_nil, ht]
     exact List.take_left' (by rw [List.length_append]; omega)
    ·rw [hu]
     refine (ins_shift g l0.length c i vb c2 inner vs w (by omega) hroom (by omega) hvg hil hvl2 hcc hsp (fun j hj => blk_frozen hh _) hvs' h1c h1v 45 45 cl.size cur.size (by simp [World.shape?, hcl]) (by simp [World.shape?, hh]) (by omega) (blk_frozen hcl _) (blk_frozen hcl _)).mono ?_
     rintro e W1 ⟨he, rfl⟩
     rw [← hu]
     obtain ⟨cur1, q1, q2, q3⟩ := setCells_row (inner.drop (i * 2)) ((i + 1) * 2) w.drew cur hh (by rw [List.length_drop]; omega)
     obtain ⟨cur2, p1, p2, p3⟩ := setCells_row vs (i * 2) (w.drew.setCells g ((i + 1) * 2) (inner.drop (i * 2))) cur1 q1 (by omega)
     obtain ⟨s1, s2, s3, s4⟩ := setCells_same g (inner.drop (i * 2)) ((i + 1) * 2) w.drew
     obtain ⟨z1, z2, z3, z4⟩ := setCells_same g vs (i * 2) (w.drew.setCells g ((i + 1) * 2) (inner.drop (i * 2)))
     refine fin e _ _ he ?_ ⟨z1.trans s1, z2.trans s2, z3.trans s3, by rw [z4, s4]; exact Nat.le_refl _, fun k hk hne => (setCells_far vs _ k (fun he => hne (by rw [hu, he]; rfl))).trans (setCells_far _ _ k (fun he => hne (by rw [hu, he]; rfl)))⟩ (.inl (by rw [hu]; rfl))
     refine ⟨by simp only [List.length_append, List.length_take, List.length_drop]; omega, .inr ⟨g, c, cur2, rfl, hgb, p1, hroom, by unfold maxLen; exact hcm, by omega, ?_⟩⟩
     have a1 : cur1.toList.take (i * 2) = inner.take (i * 2) := by
      rw [q3, List.append_assoc, List.take_append_of_le_length (by rw [List.length_take]; omega), List.take_take, ← ht, List.take_take]
      congr 1; omega
     have a2 : cur1.toList.drop (i * 2 + vs.length) = inner.drop (i * 2) ++ cur.toList.drop ((i + 1) * 2 + (inner.drop (i * 2)).length) := by
      rw [q3, List.append_assoc]
      exact List.drop_left' (by rw [List.length_take]; omega)
     rw [p3, a1, a2]
     exact take3 _ _ _ _ _ (by simp only [List.length_take, List.length_drop]; omega)
   ·by_cases hie : i = l0.length
    ·exact endg (some ⟨g, 0, none⟩) c hu hie hnc (by omega) (fun h => by cases h) (fun a ha j v hj => by
      injection ha with ha
      subst ha
      rw [Addr.add_lit, Nat.zero_add]
      exact hcc j v hj)
    ·rw [hu]
     refine (ins_grow g l0.length c i vb c2 inner vs w (by omega) hnc (by omega) (by omega) hil hvl2 hcc hvs' h1c h1v).mono ?_
     rintro e W1 ⟨he, ROW, hR1, hR2, rfl⟩
     rw [← hu]
     have hG := grownCap_ge w (l0.length + 1) c 45
     have hG2 := grownCap_le_maxLen w (l0.length + 1) c 45 (by unfold maxLen; omega)
     obtain ⟨G, hGe⟩ : ∃ G, G = grownCap w (l0.length + 1) c 45 := ⟨_, rfl⟩
     rw [← hGe] at hG hG2 hR1 he
     have hRl : ROW.toList.length = G * 2 := by rw [Array.length_toList]; exact hR1
     obtain ⟨cur1, q1, q2, q3⟩ := setCells_row vs (i * 2) (w.alloc (.cells ROW 45)).drew ROW (blk_new w _) (by omega)
     obtain ⟨cur2, p1, p2, p3⟩ := setCells_row (inner.drop (i * 2)) ((i + 1) * 2) ((w.alloc (.cells ROW 45)).drew.setCells w.heap.size (i * 2) vs).drew cur1 q1 (by rw [List.length_drop]; omega)
     obtain ⟨s1, s2, s3, s4⟩ := setCells_same w.heap.size vs (i * 2) (w.alloc (.cells ROW 45)).drew
     obtain ⟨z1, z2, z3, z4⟩ := setCells_same w.heap.size (inner.drop (i * 2)) ((i + 1) * 2) ((w.alloc (.cells ROW 45)).drew.setCells w.heap.size (i * 2) vs).drew
     refine fin e _ _ he ?_ ⟨z1.trans s1, z2.trans s2, z3.trans s3, ?_, fun k hk hne => (setCells_far (inner.drop (i * 2)) _ k (by omega)).trans ((setCells_far vs _ k (by omega)).trans (Below.heap_alloc _ _ k hk))⟩ (.inr ⟨w.heap.size, rfl, Nat.le_refl _⟩)
     ·refine ⟨by simp only [List.length_append, List.length_take, List.length_drop]; omega, .inr ⟨w.heap.size, G, cur2, rfl, hbase, p1, hG, hG2, by omega, ?_⟩⟩
      have b1 : (inner.take (i * 2)).length = i * 2 := by rw [List.length_take]; omega
      have a1 : cur1.toList.take ((i + 1) * 2) = inner.take (i * 2) ++ vs := by
       rw [q3, hR2]
       exact List.take_left' (by rw [List.length_append]; omega)
      rw [p3, a1, List.append_assoc (inner.take (i * 2) ++ vs)]
      exact take3 _ _ _ _ _ (by simp only [List.length_take, List.length_drop]; omega)
     ·rw [z4]
      show w.heap.size ≤ ((w.alloc (.cells ROW 45)).drew.setCells w.heap.size (i * 2) vs).heap.size
      rw [s4]
      exact (World.grownBy_alloc w (.cells ROW 45) none).size
 ·rw [if_neg hc] at h
  exact absurd h (by simp)
end


end Go.Proofs.Yteddnlklfjpgoaa.PFnInsertDelete
