-- Laid by a program of this claim: what the functions come to, some of them proved by hand.
import Derived.Test.YteddnlklfjpgoaaPFnExactSelectFactsx0
import Derived.Test.YteddnlklfjpgoaaPFnExactSelectFactsx1
import Derived.Test.YteddnlklfjpgoaaPFnExactSelectFactsx5
import Derived.Test.YteddnlklfjpgoaaPFnExactSelectFactsx6
namespace Go.Proofs.Yteddnlklfjpgoaa.PFnExactSelectFacts
open Go.RowKit Go.Proofs.YteddnlklfjpgoaaW.PrintWords Go.Proofs.YteddnlklfjpgoaaW.PrintLast Go.Proofs.YteddnlklfjpgoaaW.PrintMore
attribute [local go_sem] max2_int min2_int max_two min_two max_three min_three max_four min_four   -- for this text's walks alone
set_option linter.unusedVariables false
set_option linter.unusedSimpArgs false

/-! ### impl_SelectFacts: function 11 -/
mutual
def impl_SelectFacts.j0 : Nat → List Int → Bool → List (S74) → List (S45) → Option ((List (S74)) × (List (S45)) × Bool)
 | 0, _, _, _, _ => none
 | k + 1, x1, x20, x245000, x245001 => if x20 = true then (some (([] : List (S74)), ([] : List (S45)), false)) else ((impl_copyDatabase.f k x245000 x245001).bind fun bt248 => (impl_SelectFacts.l0 k x1 (x1.length : Int) 0 bt248.1 bt248.2 bt248.1 ([] : List (S45))))
def impl_SelectFacts.l0 : Nat → List Int → Int → Int → List (S74) → List (S45) → List (S74) → List (S45) → Option ((List (S74)) × (List (S45)) × Bool)
 | 0, _, _, _, _, _, _, _ => none
 | k + 1, x27, x28, x29, x255000, x255001, x256000, x256001 => if x29 < x28 then (if 0 ≤ x29 then (if x29 < (x27.length : Int) then (if 0 ≤ (rd x27 x29) then (if (rd x27 x29) < (x255001.length : Int) then (if x256001.length < 4398046511104 then (impl_SelectFacts.l0 k x27 x28 (wrap64 (x29 + 1)) x255000 x255001 x256000 (x256001 ++ [(⟨(rd_T45 x255001 (rd x27 x29)).f0, (rd_T45 x255001 (rd x27 x29)).f1⟩ : S45)])) else (none)) else (none)) else (none)) else (none)) else (none)) else (some (x256000, x256001, true))
end
def impl_SelectFacts.f (k : Nat) (l0_0 : List (S74)) (l0_1 : List (S45)) (l1 : List Int) : Option ((List (S74)) × (List (S45)) × Bool) := (impl_IsValidDatabase.f l0_0 l0_1).bind fun t246 => (if t246 = true then ((impl_areIndices.f k l1 (l0_1.length : Int)).bind fun t247 => (impl_SelectFacts.j0 k l1 (!t247) l0_0 l0_1)) else (impl_SelectFacts.j0 k l1 true l0_0 l0_1))
def impl_SelectFacts.T8 : Bool × List (List Nat × List Nat) := (true, [([], []), ([0], [0]), ([], []), ([2], [2]), ([], []), ([3, 4], [3, 4]), ([5], [5]), ([6], [6]), ([1, 7], [1, 7]), ([0, 1, 2, 3, 4, 5, 6, 7, 8], []), ([9, 8, 8, 0, 1, 2, 3, 4, 5, 6, 7, 8], [8, 9])])
def impl_SelectFacts.B8 : List Nat := [0, 1, 0, 4, 0, 28, 60, 124, 255, 511, 1023]
theorem impl_SelectFacts.tab8 : rtab .any (opsOf Try.f11 8) = impl_SelectFacts.T8 := by kernel_rfl
theorem impl_SelectFacts.bits8 : waitsOk impl_SelectFacts.T8.2 impl_SelectFacts.B8 = true := by kernel_rfl
/-! rows whose elements' owners are told: the blocks of an element are those that f gives to its number -/
def TN {α : Type} (f : Nat → Nat) (P : List (α × Nat) → Prop) (d : Kd α) (e : Nat) (w : World) (base : Nat) (ok : Nat → Prop) (v : Value) (xs : List α) : Prop := ∃ zs : List (α × Nat), zs.map Prod.fst = xs ∧ P zs ∧ (Kd.tag f d).R e w base ok v zs
def PA {α : Type} (xs : List α) (zs : List (α × Nat)) : Prop := zs = xs.zipIdx
def PX {α : Type} (l : List Int) (i : Int) (zs : List (α × Nat)) : Prop := zs.map Prod.snd = (l.take i.toNat).map Int.toNat
section
variable {α : Type} {f : Nat → Nat} {P P' : List (α × Nat) → Prop} {d : Kd α} {e e' : Nat} {w w1 W : World} {base base' : Nat} {ok ok' : Nat → Prop} {u v v1 : Value} {xs : List α}
theorem TN_map (h : TN f P d e w base ok v xs) (hm : ∀ zs, (Kd.tag f d).R e w base ok v zs → (Kd.tag f d).R e w1 base' ok' v zs) : TN f P d e w1 base' ok' v xs := by
 obtain ⟨zs, a, b, c⟩ := h
 exact ⟨zs, a, b, hm zs c⟩
theorem TN_mono (h : TN f P d e w base ok v xs) (hok : ∀ k, ok k → ok' k) : TN f P d e w base ok' v xs := TN_map h fun _ c => Kd.R_mono c hok
theorem TN_lower (h : TN f P d e w base ok v xs) (hb : base' ≤ base) : TN f P d e w base' ok v xs := TN_map h fun _ c => Kd.R_lower c hb
theorem TN_below (h : TN f P d e w base ok v xs) (hb : Below w.heap.size w w1) : TN f P d e w1 base ok v xs := TN_map h fun _ c => Kd.R_below c hb
theorem TN_alloc (h : TN f P d e w base ok v xs) (o : Obj) : TN f P d e (w.alloc o) base ok v xs := TN_below h (below_alloc (Below.refl _ _) o)
theorem TN_drew (h : TN f P d e w base ok v xs) : TN f P d e w.drew base ok v xs := TN_below h (below_drew1 (Below.refl _ _))
theorem TN_drewN (h : TN f P d e w base ok v xs) (m : Nat) : TN f P d e (w.drewN m) base ok v xs := TN_below h (pw_below_drewN (Below.refl _ _) m)
theorem TN_elderB (h : TN f P d e w base ok v xs) (a : Nat) (ha : w.heap.size ≤ a) : TN f P d e w base (fun k => ok k ∧ k ≠ a) v xs := TN_map h fun _ c => Kd.R_mono (Kd.R_bound c) (fun k hk => ⟨hk.1, by have := hk.2.2.1; omega⟩)
theorem TN_far (h : TN f P d e w base ok v xs) {p : Addr} (hok : ∀ k, ok k → k ≠ p.block) (u : Value) : TN f P d e (w.setCell p u) base ok v xs := TN_map h fun _ c => Kd.R_far c hok u
theorem TN_afterv (h : TN f P d e W base (fun k => ok k ∧ some k ≠ v.ownBlock) u xs) (hg : W.grownBy w1 v.ownBlock) (hat : v1.ownBlock = v.ownBlock ∨ ∃ b, v1.ownBlock = some b ∧ W.heap.size ≤ b) : TN f P d e w1 base (fun k => ok k ∧ some k ≠ v1.ownBlock) u xs := TN_map h fun _ c => Kd.R_after c hg hat
theorem TN_R (h : TN f P d e w base ok v xs) : d.R e w base ok v xs := by
 obtain ⟨zs, rfl, _, h0, inner, ho, hr⟩ := h
 refine ⟨h0, inner, by rw [List.length_map]; exact ho, by rw [List.length_map]; exact hr.1, fun j p hj => ?_⟩
 rw [List.getElem?_map] at hj
 obtain ⟨z, hz, rfl⟩ := Option.map_eq_some_iff.1 hj
 exact d.M_mono (fun _ hk => hk.1) (hr.2 j z hz)
theorem TN_slice (h : TN f P d e w base ok v xs) : ∃ A c, v = .slice A xs.length c := Kd.R_slice (TN_R h)
theorem TN_typed (h : TN f P d e w base ok v xs) : ∀ k, v.ownBlock = some k → ∃ cells, w.heap[k]? = some (.cells cells e (0, 0)) := Kd.R_typed (TN_R h)
theorem TN_lt (h : TN f P d e w base ok v xs) : ∀ k, v.ownBlock = some k → k < w.heap.size := Kd.R_lt (TN_R h)
theorem TN_ne (h : TN f P d e w base ok v xs) {g t : Nat} {cells : Array Value} (hb : w.heap[g]? = some (.cells cells t (0, 0))) (ht : e ≠ t) : some g ≠ v.ownBlock := Kd.R_ne (TN_R h) hb ht
theorem TN_reads' {A : Option Addr} {n c : Nat} (h : TN f P d e w base ok (.slice A n c) xs) : n = xs.length ∧ n ≤ c ∧ d.C w A xs.length xs := Kd.R_reads' (TN_R h)
theorem TN_nil (hp : P []) (d : Kd α) (e : Nat) (w : World) (base : Nat) (ok : Nat → Prop) : TN f P d e w base ok (.slice none 0 0) [] := ⟨[], rfl, hp, Kd.R_nil _ _ _ _ _⟩
theorem TN_mk (h : (Kd.tag f d).R e w base ok v xs.zipIdx) : TN f (PA xs) d e w base ok v xs := ⟨xs.zipIdx, by simp, rfl, h⟩
theorem TN_get {ad : Addr} {n cap : Nat} (h : TN f (PA xs) d e W base ok (.slice (some ad) n cap) xs) (z : α) (i : Int) (h0 : 0 ≤ i) (h1 : i < n) :
  ∃ c, c.length = d.sz ∧ d.M W base (fun k => (ok k ∧ some k ≠ (Value.slice (some ad) n cap).ownBlock) ∧ f k = i.toNat) (xs.getD i.toNat z) c ∧ ∀ j u, c[j]? = some u → W.cell? (ad.add (i.toNat * d.sz + j)) = some u := by
 have hn := (TN_reads' h).1
 obtain ⟨zs, _, hz, h⟩ := h
 have hz' : zs = xs.zipIdx := hz
 subst hz'
 obtain ⟨c, hcl, hM, hcc⟩ := Kd.R_getA h (z, i.toNat) i h0 h1
 have he : (xs.zipIdx).getD i.toNat (z, i.toNat) = (xs.getD i.toNat z, i.toNat) := by
  rw [List.getD_eq_getElem?_getD, List.getElem?_zipIdx, List.getD_eq_getElem?_getD]
  cases xs[i.toNat]? <;> simp
 rw [he] at hM
 exact ⟨c, hcl, hM, hcc⟩
theorem pl_at {ns : List Nat} (h : ns.Nodup) : ∀ (j x : Nat), ns[j]? = some x → ns.idxOf x = j := by
 induction ns with
 | nil => intro j x hj; simp at hj
 | cons n ns ih =>
  intro j x hj
  have hn := List.nodup_cons.1 h
  cases j with
  | zero =>
   have : n = x := by simpa using hj
   subst this
   simp
  | succ j =>
   have hj' : ns[j]? = some x := by simpa using hj
   have hne : n ≠ x := by
    rintro rfl
    exact hn.1 (List.mem_of_getElem? hj')
   rw [List.idxOf_cons, ih hn.2 j x hj']
   have : (n == x) = false := by simpa using hne
   simp [this]
theorem TN_S (h : TN f P d e w base ok v xs) (hP : ∀ zs, P zs → (zs.map Prod.snd).Nodup) : Kd.S d e w base ok v xs := by
 obtain ⟨zs, rfl, hz, h0, inner, ho, hr⟩ := h
 refine ⟨fun b => (zs.map Prod.snd).idxOf (f b), h0, inner, by rw [List.length_zipIdx, List.length_map]; exact ho, by rw [List.length_zipIdx, List.length_map]; exact hr.1, fun j p hj => ?_⟩
 rw [List.getElem?_zipIdx, Nat.zero_add, List.getElem?_map] at hj
 obtain ⟨q, hq, rfl⟩ := Option.map_eq_some_iff.1 hj
 obtain ⟨z, hz', rfl⟩ := Option.map_eq_some_iff.1 hq
 refine d.M_mono (fun b hb => ⟨hb.1, ?_⟩) (hr.2 j z hz')
 have hb2 : f b = z.2 := hb.2
 show (zs.map Prod.snd).idxOf (f b) = j
 rw [hb2]
 exact pl_at (hP zs hz) j z.2 (by rw [List.getElem?_map, hz']; rfl)
end
theorem w64i {x : Int} {n : Nat} (h0 : 0 ≤ x) (h1 : x < (n : Int)) (hn : n ≤ 9223372036854775807) : (wrap64 (x + 1)).toNat = x.toNat + 1 := by unfold wrap64; omega
theorem PX_step {α : Type} {l : List Int} {x : Int} {zs : List (α × Nat)} (h : PX l x zs) (h0 : 0 ≤ x) (h1 : x < (l.length : Int)) (hn : l.length ≤ 9223372036854775807) (y : α) : PX l (wrap64 (x + 1)) (zs ++ [(y, (rd l x).toNat)]) := by
 unfold PX at h ⊢
 rw [w64i h0 h1 hn, List.map_append, h, List.take_succ_eq_append_getElem (by omega), List.map_append]
 congr 1
 unfold rd
 rw [List.getD_eq_getElem?_getD, List.getElem?_eq_getElem (by omega)]
 rfl
theorem within_le {x b : Int} (h : impl_within.f x 0 b = some true) : 0 ≤ x := by
 unfold impl_within.f at h
 split at h
 ·assumption
 ·simp at h
theorem areI_l (l : List Int) (n : Int) (hl : l.length ≤ 9223372036854775807) : ∀ (k i : Nat), impl_areIndices.l0 k l n l l.length i = some true → ∀ j, i ≤ j → j < l.length → 0 ≤ l.getD j 0 ∧ (0 < j → l.getD (j - 1) 0 < l.getD j 0)
 | 0, i, h, j, _, _ => by simp [impl_areIndices.l0] at h
 | k + 1, i, h, j, hij, hj => by
  have hi : i < l.length := by omega
  have e1 : wrap64 ((i : Int) + 1) = ((i + 1 : Nat) : Int) := by unfold wrap64; omega
  have e2 : rd l (i : Int) = l.getD i 0 := by unfold rd; rw [Int.toNat_natCast]
  rw [impl_areIndices.l0, if_pos (by omega), if_pos (by omega), if_pos (by omega)] at h
  obtain ⟨t, ht, h⟩ := Option.bind_eq_some_iff.mp h
  cases t with
  | false => simp at h
  | true =>
   rw [if_pos rfl] at h
   have hw := within_le ht
   rw [e2] at hw h
   by_cases h0 : (i : Int) > 0
   ·have e3 : wrap64 ((i : Int) - 1) = ((i - 1 : Nat) : Int) := by unfold wrap64; omega
    have e4 : rd l ((i - 1 : Nat) : Int) = l.getD (i - 1) 0 := by unfold rd; rw [Int.toNat_natCast]
    rw [if_pos h0, e3, e4, if_pos (by omega), if_pos (by omega)] at h
    by_cases hc : l.getD (i - 1) 0 ≥ l.getD i 0
    ·rw [if_pos hc] at h; simp at h
    ·rw [if_neg hc, e1] at h
     by_cases hji : j = i
     ·subst hji; exact ⟨hw, fun _ => by omega⟩
     ·exact areI_l l n hl k (i + 1) h j (by omega) hj
   ·rw [if_neg h0, e1] at h
    by_cases hji : j = i
    ·subst hji; exact ⟨hw, fun h' => by omega⟩
    ·exact areI_l l n hl k (i + 1) h j (by omega) hj
def AI (l : List Int) : Prop := (l.map Int.toNat).Nodup
theorem areI_nd {l : List Int} {n : Int} {k : Nat} (hl : l.length ≤ 9223372036854775807) (h : impl_areIndices.f k l n = some true) : AI l := by
 have hs := areI_l l n hl k 0 h
 have hlt : ∀ d i, i + d + 1 < l.length → l.getD i 0 < l.getD (i + d + 1) 0 := by
  intro d
  induction d with
  | zero => intro i hi; have := (hs (i + 1) (by omega) (by omega)).2 (by omega); simpa using this
  | succ d ih =>
   intro i hi
   have h1 := ih i (by omega)
   have h2 := (hs (i + (d + 1) + 1) (by omega) (by omega)).2 (by omega)
   rw [show i + (d + 1) + 1 - 1 = i + d + 1 by omega] at h2
   omega
 unfold AI List.Nodup
 rw [List.pairwise_iff_getElem]
 intro i j hi hj hij
 rw [List.length_map] at hi hj
 have h1 := hlt (j - i - 1) i (by omega)
 rw [show i + (j - i - 1) + 1 = j by omega] at h1
 have h0 := (hs i (by omega) hi).1
 rw [List.getD_eq_getElem?_getD, List.getElem?_eq_getElem hi] at h1 h0
 rw [List.getD_eq_getElem?_getD, List.getElem?_eq_getElem hj] at h1
 simp only [Option.getD_some] at h1 h0
 rw [List.getElem_map, List.getElem_map]
 omega
theorem PX_nd {α : Type} {l : List Int} {i : Int} (h : AI l) (zs : List (α × Nat)) (hz : PX l i zs) : (zs.map Prod.snd).Nodup := by
 unfold PX at hz
 rw [hz, List.map_take]
 exact List.Nodup.sublist (List.take_sublist _ _) h
set_option maxHeartbeats 8000000 in
set_option maxRecDepth 100000 in
theorem impl_SelectFacts.calls (k : Nat) (A0_0 : Option Addr) (c0_0 : Nat) (l0_0 : List (S74)) (A0_1 : Option Addr) (c0_1 : Nat) (l0_1 : List (S45)) (A1 : Option Addr) (c1 : Nat) (l1 : List Int) (r1 : List (S74)) (r2 : List (S45)) (r3 : Bool) (w : World) (hr0_0 : Kd.C k74 w A0_0 l0_0.length l0_0) (hc0_0 : l0_0.length ≤ c0_0) (hr0_1 : Kd.C k45 w A0_1 l0_1.length l0_1) (hc0_1 : l0_1.length ≤ c0_1) (hr1 : Kd.C (Kd.int .i64) w A1 l1.length l1) (hc1 : l1.length ≤ c1) (h : impl_SelectFacts.f k l0_0 l0_1 l1 = some (r1, r2, r3)) :
  Calls Try.prog 11 #[.agg #[.slice A0_0 l0_0.length c0_0, .slice A0_1 l0_1.length c0_1], .slice A1 l1.length c1] w fun e w' => ∃ v0_ v1_ : Value, e = .returned (.tuple #[.agg #[v0_, v1_], .bool r3]) ∧ Kd.R k74 74 w' w.heap.size (fun _ => True) v0_ r1 ∧ Kd.S k45 45 w' w.heap.size (fun _ => True) v1_ r2 ∧ Below w.heap.size w w' := by
 have hu31 := Try.underlying31
 have hu45 := Try.underlying45
 have HR0_0 := aM hr0_0
 have HC0_0 := aM hc0_0
 clear hr0_0 hc0_0
 have HR0_1 := aM hr0_1
 have HC0_1 := aM hc0_1
 clear hr0_1 hc0_1
 have HR1 := aM hr1
 have HC1 := aM hc1
 clear hr1 hc1
 have HB := aM (Below.refl w.heap.size w)
 have H : ((impl_IsValidDatabase.f l0_0 l0_1).bind fun t246 => (if t246 = true then ((impl_areIndices.f k l1 (l0_1.length : Int)).bind fun t247 => (impl_SelectFacts.j0 k l1 (!t247) l0_0 l0_1)) else (impl_SelectFacts.j0 k l1 true l0_0 l0_1))) = some (r1, r2, r3) := h
 clear h
 have HC3 := aM H
 clear H
 go_enter Try.func11, Try.ntmps11
 go_upto_region 1 with (first | ((with_reducible refine gate_dst (N := 2) rfl ?_); (try (refine gate_guard (by rfl) ?_; dsimp only)); refine box_event ?hg (N := 2) ?hd (cs := #[.slice A0_0 l0_0.length c0_0, .slice A0_1 l0_1.length c0_1]) (t := 31) ?hr ?_; (case hd => rfl); (case hg => rfl); (case hr => first | (go_simp; done) | (go_simp; rfl)); intro gb244 hg w4 hbox hb; have n0_ := aM (below_step aB hb); have n1_ := aM (hbox); have n2_ := aM ((by rw [hg]; exact (below_size aB) : w.heap.size ≤ gb244)); have n3_ := aM ((by rw [hg]; exact (below_size aB) : w.heap.size ≤ gb244)); clear HB; have HB := n0_; have BK244 := n1_; have GW244 := n2_; have GE244 := n3_; clear n0_ n1_ n2_ n3_; clear hb hbox hg) | ((with_reducible refine gate_dst (N := 4) rfl ?_); (try (refine gate_guard (by rfl) ?_; dsimp only)); refine box_event ?hg (N := 4) ?hd (cs := #[.slice none 0 0, .slice none 0 0]) (t := 31) ?hr ?_; (case hd => rfl); (case hg => rfl); (case hr => first | (go_simp; done) | (go_simp; rfl)); intro gb245 hg w5 hbox hb; have n0_ := aM (blk_below (g := gb244) (o := .cells #[.slice A0_0 l0_0.length c0_0, .slice A0_1 l0_1.length c0_1] 31 (0, 0)) aK hb); have n1_ := aM (below_step aG hb); have n2_ := aM (hbox); have n3_ := aM ((by rw [hg]; exact (below_size aG) : w.heap.size ≤ gb245)); have n4_ := aM ((by rw [hg]; exact (below_size aG) : w.heap.size ≤ gb245)); have n5_ := aM ((by rw [hg]; exact Nat.ne_of_lt (blk_lt (g := gb244) (o := .cells #[.slice A0_0 l0_0.length c0_0, .slice A0_1 l0_1.length c0_1] 31 (0, 0)) aK) : gb244 ≠ gb245)); have n6_ := aM ((by rw [hg]; exact Nat.ne_of_gt (blk_lt (g := gb244) (o := .cells #[.slice A0_0 l0_0.length c0_0, .slice A0_1 l0_1.length c0_1] 31 (0, 0)) aK) : gb245 ≠ gb244)); clear BK244; clear HB; have BK244 := n0_; have HB := n1_; have BK245 := n2_; have GW245 := n3_; have GE245 := n4_; have NB244_245 := n5_; have NB245_244 := n6_; clear n0_ n1_ n2_ n3_ n4_ n5_ n6_; clear hb hbox hg))
 (try simp only [Act.put, List.setIfInBounds_toArray, List.set_cons_zero, List.set_cons_succ])
 go_cut [20] (fun v20 wc => ∃ (kq : Nat) (x20_2 : Bool), v20 = .bool x20_2 ∧ Aside0 (impl_SelectFacts.j0 kq l1 x20_2 l0_0 l0_1 = some (r1, r2, r3)) ∧ Aside0 (kq ≤ k) ∧ Aside0 (wc.heap[gb244]? = some (.cells #[(.slice A0_0 l0_0.length c0_0), (.slice A0_1 l0_1.length c0_1)] 31 (0, 0))) ∧ Aside0 (wc.heap[gb245]? = some (.cells #[(.slice none 0 0), (.slice none 0 0)] 31 (0, 0))) ∧ Aside0 (Below w.heap.size w wc) ∧ Aside0 (x20_2 = false → AI l1))
 case first =>
  have H := HC3.out
  clear HC3
  replace H := Option.bind_eq_some_iff.mp H
  obtain ⟨t246, A60, H⟩ := H
  replace H : (if t246 = true then ((impl_areIndices.f k l1 (l0_1.length : Int)).bind fun t247 => (impl_SelectFacts.j0 k l1 (!t247) l0_0 l0_1)) else (impl_SelectFacts.j0 k l1 true l0_0 l0_1)) = some (r1, r2, r3) := H
  have A6 := aM A60
  clear A60
  by_cases c7 : t246 = true
  ·subst c7
   have H1 : ((impl_areIndices.f k l1 (l0_1.length : Int)).bind fun t247 => (impl_SelectFacts.j0 k l1 (!t247) l0_0 l0_1)) = some (r1, r2, r3) := by rw [if_pos rfl] at H; exact H
   clear H
   have H := H1
   clear H1
   replace H := Option.bind_eq_some_iff.mp H
   obtain ⟨t247, A80, H⟩ := H
   replace H : (impl_SelectFacts.j0 k l1 (!t247) l0_0 l0_1) = some (r1, r2, r3) := H
   have A8 := aM A80
   clear A80
   have H' := aM H
   clear H
   have hnb9 := NB244_245.out
   have hnc9 := NB245_244.out
   have hcz10_0 : w5.cell? ⟨gb244, 0, none⟩ = some (.slice A0_0 l0_0.length c0_0) := (blk_cell BK244.out 0).trans rfl
   have hcz10_1 : w5.cell? ⟨gb244, 1, none⟩ = some (.slice A0_1 l0_1.length c0_1) := (blk_cell BK244.out 1).trans rfl
   have hfz10_0 := blk_frozen BK244.out 0
   have hfz10_1 := blk_frozen BK244.out 1
   go_wp2_with (first | ((with_reducible refine gate_callee (f := 27) rfl ?_); refine goesL_ (some 11) rfl rfl Try.func27 (by kernel_rfl) rfl #[.agg #[.slice A0_0 l0_0.length c0_0, .slice A0_1 l0_1.length c0_1]] rfl (by (try simp only [List.map_toArray, List.map_cons, List.map_nil]); first | done | rfl | (simp only [List.length_drop, List.length_take]; rfl)) ?_; (with_reducible refine (impl_IsValidDatabase.calls _ _ l0_0 _ _ l0_1 true _ ?side1 ?side2 ?side3 ?side4 A6.out).mono ?_); (case side1 => exact aC); (case side2 => exact HC0_0.out); (case side3 => exact aC); (case side4 => exact HC0_1.out); rintro e w11 ⟨rfl, hb⟩; refine ⟨_, rfl, ?_⟩; have n0_ := aM (blk_below (g := gb244) (o := .cells #[.slice A0_0 l0_0.length c0_0, .slice A0_1 l0_1.length c0_1] 31 (0, 0)) aK hb); have n1_ := aM (blk_below (g := gb245) (o := .cells #[.slice none 0 0, .slice none 0 0] 31 (0, 0)) aK hb); have n2_ := aM (below_step aG hb); clear BK244; clear BK245; clear HB; have BK244 := n0_; have BK245 := n1_; have HB := n2_; clear n0_ n1_ n2_; (try clear hb); (try clear hb2); (try clear hk); (try clear hi); have hcz12_0 : w11.cell? ⟨gb244, 0, none⟩ = some (.slice A0_0 l0_0.length c0_0) := (blk_cell BK244.out 0).trans rfl; have hcz12_1 : w11.cell? ⟨gb244, 1, none⟩ = some (.slice A0_1 l0_1.length c0_1) := (blk_cell BK244.out 1).trans rfl; have hfz12_0 := blk_frozen BK244.out 0; have hfz12_1 := blk_frozen BK244.out 1) | (go_at_call 37; (with_reducible refine (impl_areIndices.calls k _ _ l1 (l0_1.length : Int) t247 _ ?side1 ?side2 A8.out).mono ?_); (case side1 => exact aC); (case side2 => exact HC1.out); rintro e w' ⟨rfl, ⟨nd, rfl⟩⟩))
   go_meet
   case rel => exact ⟨_, (!t247), (by first | rfl | (simp; done) | (simp [*]; done)), H', ⟨by first | omega | exact Nat.le_refl _⟩, ⟨by (with_reducible repeat (first | refine blk_drewN ?_ _ | refine blk_drew ?_ | refine blk_alloc ?_ _)); exact BK244.out⟩, ⟨by (with_reducible repeat (first | refine blk_drewN ?_ _ | refine blk_drew ?_ | refine blk_alloc ?_ _)); exact BK245.out⟩, ⟨by repeat (first | (with_reducible first | exact HB.out | apply below_alloc | apply pw_below_drewN | apply below_drew1 | refine below_set ?_ GE244.out | refine below_set ?_ GE245.out) | exact HB.out)⟩, ⟨fun he => areI_nd HR1.out.2.1 (A8.out.trans (congrArg some (by simpa using he)))⟩⟩
  ·replace c7 := Bool.eq_false_iff.mpr c7
   subst c7
   have H1 : (impl_SelectFacts.j0 k l1 true l0_0 l0_1) = some (r1, r2, r3) := by rw [if_neg (show ¬ (false = true) by decide)] at H; exact H
   clear H
   have H := H1
   clear H1
   have H' := aM H
   clear H
   have hnb13 := NB244_245.out
   have hnc13 := NB245_244.out
   have hcz14_0 : w5.cell? ⟨gb244, 0, none⟩ = some (.slice A0_0 l0_0.length c0_0) := (blk_cell BK244.out 0).trans rfl
   have hcz14_1 : w5.cell? ⟨gb244, 1, none⟩ = some (.slice A0_1 l0_1.length c0_1) := (blk_cell BK244.out 1).trans rfl
   have hfz14_0 := blk_frozen BK244.out 0
   have hfz14_1 := blk_frozen BK244.out 1
   go_wp2_with (first | ((with_reducible refine gate_callee (f := 27) rfl ?_); refine goesL_ (some 11) rfl rfl Try.func27 (by kernel_rfl) rfl #[.agg #[.slice A0_0 l0_0.length c0_0, .slice A0_1 l0_1.length c0_1]] rfl (by (try simp only [List.map_toArray, List.map_cons, List.map_nil]); first | done | rfl | (simp only [List.length_drop, List.length_take]; rfl)) ?_; (with_reducible refine (impl_IsValidDatabase.calls _ _ l0_0 _ _ l0_1 false _ ?side1 ?side2 ?side3 ?side4 A6.out).mono ?_); (case side1 => exact aC); (case side2 => exact HC0_0.out); (case side3 => exact aC); (case side4 => exact HC0_1.out); rintro e w15 ⟨rfl, hb⟩; refine ⟨_, rfl, ?_⟩; have n0_ := aM (blk_below (g := gb244) (o := .cells #[.slice A0_0 l0_0.length c0_0, .slice A0_1 l0_1.length c0_1] 31 (0, 0)) aK hb); have n1_ := aM (blk_below (g := gb245) (o := .cells #[.slice none 0 0, .slice none 0 0] 31 (0, 0)) aK hb); have n2_ := aM (below_step aG hb); clear BK244; clear BK245; clear HB; have BK244 := n0_; have BK245 := n1_; have HB := n2_; clear n0_ n1_ n2_; (try clear hb); (try clear hb2); (try clear hk); (try clear hi)))
   go_meet
   case rel => exact ⟨_, (true), (by first | rfl | (simp; done) | (simp [*]; done)), H', ⟨by first | omega | exact Nat.le_refl _⟩, ⟨by (with_reducible repeat (first | refine blk_drewN ?_ _ | refine blk_drew ?_ | refine blk_alloc ?_ _)); exact BK244.out⟩, ⟨by (with_reducible repeat (first | refine blk_drewN ?_ _ | refine blk_drew ?_ | refine blk_alloc ?_ _)); exact BK245.out⟩, ⟨by repeat (first | (with_reducible first | exact HB.out | apply below_alloc | apply pw_below_drewN | apply below_drew1 | refine below_set ?_ GE244.out | refine below_set ?_ GE245.out) | exact HB.out)⟩, ⟨fun he => absurd he (by decide)⟩⟩
 case rest =>
  clear HC3
  try clear c1
  try clear c2
  try clear p2
  try clear c7
  try clear c9
  try clear c11
  try clear c13
  try clear hcz10_0
  try clear hcz10_1
  try clear hcz12_0
  try clear hcz12_1
  try clear hcz14_0
  try clear hcz14_1
  try clear hfz10_0
  try clear hfz10_1
  try clear hfz12_0
  try clear hfz12_1
  try clear hfz14_0
  try clear hfz14_1
  obtain ⟨kq, x20_2, rfl, HA, HJ2, BK244, BK245, HB, HAI⟩ := hcut
  cases kq with
  | zero => exact absurd HA.out (by simp [impl_SelectFacts.j0])
  | succ kj2 =>
   have H := HA.out
   clear HA
   simp only [impl_SelectFacts.j0] at H
   by_cases c16 : x20_2 = true
   ·subst c16
    have H1 : (some (([] : List (S74)), ([] : List (S45)), false)) = some (r1, r2, r3) := by rw [if_pos rfl] at H; exact H
    clear H
    have H := H1
    clear H1
    simp only [Option.some.injEq, Prod.mk.injEq] at H
    obtain ⟨rfl, rfl, rfl⟩ := H
    have hnb17 := NB245_244.out
    have hnc17 := NB244_245.out
    have hcz18_0 : wc.cell? ⟨gb245, 0, none⟩ = some (.slice none 0 0) := (blk_cell BK245.out 0).trans rfl
    have hcz18_1 : wc.cell? ⟨gb245, 1, none⟩ = some (.slice none 0 0) := (blk_cell BK245.out 1).trans rfl
    have hfz18_0 := blk_frozen BK245.out 0
    have hfz18_1 := blk_frozen BK245.out 1
    go_wp2
    refine bodyPost_ret (results_ct rfl _ _ gb245 31 #[.slice none 0 0, .slice none 0 0] (0, 0) _ rfl (by (with_reducible repeat (first | refine blk_drewN ?_ _ | refine blk_drew ?_ | refine blk_alloc ?_ _)); refine blk_put (cs := #[.slice none 0 0, .slice none 0 0]) ?_ 1 _ rfl; (with_reducible repeat (first | refine blk_drewN ?_ _ | refine blk_drew ?_ | refine blk_alloc ?_ _)); refine blk_put (cs := #[.slice none 0 0, .slice none 0 0]) ?_ 0 _ rfl; (with_reducible repeat (first | refine blk_drewN ?_ _ | refine blk_drew ?_ | refine blk_alloc ?_ _)); exact BK245.out) Try.underlying31 rfl (by kernel_rfl)) rfl ?_
    exact ⟨_, _, by first | rfl | (simp [errW_none, errW_some] <;> rfl) | (simp [*, errW_none, errW_some] <;> rfl), by first | exact Kd.R_nil _ _ _ _ _ | exact Kd.N_nil _ _ _ _ _ | exact Kd.V_nil _ _ _ _ _ | exact Kd.Q_nil _ _ _ _ _ | exact Kd.S_nil _ _ _ _ _, by first | exact Kd.S_nil _ _ _ _ _ | exact Kd.N_nil _ _ _ _ _ | exact Kd.V_nil _ _ _ _ _ | exact Kd.Q_nil _ _ _ _ _ | exact Kd.R_nil _ _ _ _ _, by repeat (first | (with_reducible first | exact HB.out | apply below_alloc | apply pw_below_drewN | apply below_drew1 | refine below_set ?_ GE244.out | refine below_set ?_ GE245.out) | exact HB.out)⟩
   ·replace c16 := Bool.eq_false_iff.mpr c16
    subst c16
    have H1 : ((impl_copyDatabase.f kj2 l0_0 l0_1).bind fun bt248 => (impl_SelectFacts.l0 kj2 l1 (l1.length : Int) 0 bt248.1 bt248.2 bt248.1 ([] : List (S45)))) = some (r1, r2, r3) := by rw [if_neg (show ¬ (false = true) by decide)] at H; exact H
    clear H
    have H := H1
    clear H1
    replace H := Option.bind_eq_some_iff.mp H
    obtain ⟨⟨t248, t251⟩, A190, H⟩ := H
    replace H : (impl_SelectFacts.l0 kj2 l1 (l1.length : Int) 0 t248 t251 t248 ([] : List (S45))) = some (r1, r2, r3) := H
    have A19 := aM A190
    clear A190
    have H' := aM H
    clear H
    have hnb20 := NB244_245.out
    have hnc20 := NB245_244.out
    have hcz21_0 : wc.cell? ⟨gb244, 0, none⟩ = some (.slice A0_0 l0_0.length c0_0) := (blk_cell BK244.out 0).trans rfl
    have hcz21_1 : wc.cell? ⟨gb244, 1, none⟩ = some (.slice A0_1 l0_1.length c0_1) := (blk_cell BK244.out 1).trans rfl
    have hfz21_0 := blk_frozen BK244.out 0
    have hfz21_1 := blk_frozen BK244.out 1
    go_wp2_with (first | ((with_reducible refine gate_callee (f := 38) rfl ?_); refine goesL_ (some 23) rfl rfl Try.func38 (by kernel_rfl) rfl #[.agg #[.slice A0_0 l0_0.length c0_0, .slice A0_1 l0_1.length c0_1]] rfl (by (try simp only [List.map_toArray, List.map_cons, List.map_nil]); first | done | rfl | (simp only [List.length_drop, List.length_take]; rfl)) ?_; (with_reducible refine (impl_copyDatabase.calls kj2 _ _ l0_0 _ _ l0_1 t248 t251 _ ?side1 ?side2 ?side3 ?side4 A19.out).mono ?_); (case side1 => exact aC); (case side2 => exact HC0_0.out); (case side3 => exact aC); (case side4 => exact HC0_1.out); rintro e w22 ⟨v249, v252, rfl, ho0, ⟨f_, ho1⟩, hb⟩; refine ⟨_, rfl, ?_⟩; have n0_ := aM (Kd.R_lower (Kd.R_newM (M := fun k_ => (w.heap.size ≤ k_)) ho0 (below_size aG) (fun k_ h_ => h_)) (below_size aG)); have n1_ := aM (TN_lower (TN_mono (ok' := fun k_ => (w.heap.size ≤ k_) ∧ some k_ ≠ (v249 : Value).ownBlock ∧ k_ ≠ gb244 ∧ k_ ≠ gb245) (TN_mk (Kd.R_bound (Kd.R_apart' ho1 (Kd.R_typed ho0) (show ∀ q, q ∈ 45 :: k45.E → q ≠ 74 by decide)))) (fun k_ hk_ => ⟨(Nat.le_trans (below_size aG) hk_.2.1), hk_.1.2, (Kd.freshB (g := gb244) (o := .cells #[.slice A0_0 l0_0.length c0_0, .slice A0_1 l0_1.length c0_1] 31 (0, 0)) aK k_ hk_.2.1), (Kd.freshB (g := gb245) (o := .cells #[.slice none 0 0, .slice none 0 0] 31 (0, 0)) aK k_ hk_.2.1)⟩)) (below_size aG)); have n2_ := aM (blk_below (g := gb244) (o := .cells #[.slice A0_0 l0_0.length c0_0, .slice A0_1 l0_1.length c0_1] 31 (0, 0)) aK hb); have n3_ := aM (blk_below (g := gb245) (o := .cells #[.slice none 0 0, .slice none 0 0] 31 (0, 0)) aK hb); have n4_ := aM (below_step aG hb); clear BK244; clear BK245; clear HB; have HO250 := n0_; have HO253 := n1_; have BK244 := n2_; have BK245 := n3_; have HB := n4_; clear n0_ n1_ n2_ n3_ n4_; (try clear hb); (try clear hb2); (try clear hk); (try clear hi); (try clear ho0); (try clear ho1)) | ((with_reducible refine gate_dst (N := 6) rfl ?_); (try (refine gate_guard (by rfl) ?_; dsimp only)); refine box_event ?hg (N := 6) ?hd (cs := #[.slice none 0 0, .slice none 0 0]) (t := 31) ?hr ?_; (case hd => rfl); (case hg => rfl); (case hr => first | (go_simp; done) | (go_simp; rfl)); intro gb254 hg w23 hbox hb; have n0_ := aM (Kd.R_below (aR HO250) hb); have n1_ := aM (TN_below (TN_elderB (by (with_reducible repeat (first | apply TN_alloc | apply TN_drewN | apply TN_drew)); exact HO253.out) gb254 (Nat.le_of_eq hg.symm)) hb); have n2_ := aM (blk_below (g := gb244) (o := .cells #[.slice A0_0 l0_0.length c0_0, .slice A0_1 l0_1.length c0_1] 31 (0, 0)) aK hb); have n3_ := aM (blk_below (g := gb245) (o := .cells #[.slice none 0 0, .slice none 0 0] 31 (0, 0)) aK hb); have n4_ := aM (below_step aG hb); have n5_ := aM (hbox); have n6_ := aM ((by rw [hg]; exact (below_size aG) : w.heap.size ≤ gb254)); have n7_ := aM ((by rw [hg]; exact (below_size aG) : w.heap.size ≤ gb254)); have n8_ := aM ((by rw [hg]; exact Nat.ne_of_lt (blk_lt (g := gb244) (o := .cells #[.slice A0_0 l0_0.length c0_0, .slice A0_1 l0_1.length c0_1] 31 (0, 0)) aK) : gb244 ≠ gb254)); have n9_ := aM ((by rw [hg]; exact Nat.ne_of_gt (blk_lt (g := gb244) (o := .cells #[.slice A0_0 l0_0.length c0_0, .slice A0_1 l0_1.length c0_1] 31 (0, 0)) aK) : gb254 ≠ gb244)); have n10_ := aM ((by rw [hg]; exact Nat.ne_of_lt (blk_lt (g := gb245) (o := .cells #[.slice none 0 0, .slice none 0 0] 31 (0, 0)) aK) : gb245 ≠ gb254)); have n11_ := aM ((by rw [hg]; exact Nat.ne_of_gt (blk_lt (g := gb245) (o := .cells #[.slice none 0 0, .slice none 0 0] 31 (0, 0)) aK) : gb254 ≠ gb245)); clear HO250; clear HO253; clear BK244; clear BK245; clear HB; have HO250 := n0_; have HO253 := n1_; have BK244 := n2_; have BK245 := n3_; have HB := n4_; have BK254 := n5_; have GW254 := n6_; have GE254 := n7_; have NB244_254 := n8_; have NB254_244 := n9_; have NB245_254 := n10_; have NB254_245 := n11_; clear n0_ n1_ n2_ n3_ n4_ n5_ n6_ n7_ n8_ n9_ n10_ n11_; clear hb hbox hg; obtain ⟨Ao24, co24, eo24⟩ := Kd.R_slice HO250.out; subst eo24; have hnb25 := NB254_244.out; have hnc25 := NB244_254.out; have hnb26 := NB254_245.out; have hnc26 := NB245_254.out; have hcz27_0 : w23.cell? ⟨gb254, 0, none⟩ = some (.slice none 0 0) := (blk_cell BK254.out 0).trans rfl; have hcz27_1 : w23.cell? ⟨gb254, 1, none⟩ = some (.slice none 0 0) := (blk_cell BK254.out 1).trans rfl; have hfz27_0 := blk_frozen BK254.out 0; have hfz27_1 := blk_frozen BK254.out 1; obtain ⟨Ao28, co28, eo28⟩ := TN_slice HO253.out; subst eo28) | ((with_reducible refine gate_dst (N := 7) rfl ?_); (try (refine gate_guard (by rfl) ?_; dsimp only)); refine box_event ?hg (N := 7) ?hd (cs := #[.slice none 0 0, .slice none 0 0]) (t := 31) ?hr ?_; (case hd => rfl); (case hg => rfl); (case hr => first | (go_simp; done) | (go_simp; rfl)); intro gb255 hg w29 hbox hb; have n0_ := aM (Kd.R_below (by (with_reducible repeat (first | apply Kd.R_alloc | apply Kd.R_drewN | apply Kd.R_drew)); exact (Kd.R_mono (Kd.R_far (p := ⟨gb254, 1, none⟩) (Kd.R_far (p := ⟨gb254, 0, none⟩) (Kd.R_types HO250.out BK254.out (by decide)) (fun _ hk => hk.2) (.slice Ao24 t248.length co24)) (fun _ hk => hk.2) (.slice Ao28 t251.length co28)) (fun _ h_ => h_.1))) hb); have n1_ := aM (TN_below (TN_elderB (by (with_reducible repeat (first | apply TN_alloc | apply TN_drewN | apply TN_drew)); exact (TN_mono (TN_far (p := ⟨gb254, 1, none⟩) (TN_far (p := ⟨gb254, 0, none⟩) (TN_mono HO253.out (fun k_ hk => (⟨hk, hk.2⟩ : _ ∧ k_ ≠ gb254))) (fun _ hk => hk.2) (.slice Ao24 t248.length co24)) (fun _ hk => hk.2) (.slice Ao28 t251.length co28)) (fun _ h_ => h_.1))) gb255 (Nat.le_of_eq hg.symm)) hb); have n2_ := aM (blk_below (g := gb244) (o := .cells #[.slice A0_0 l0_0.length c0_0, .slice A0_1 l0_1.length c0_1] 31 (0, 0)) (by (with_reducible repeat (first | refine blk_drewN ?_ _ | refine blk_drew ?_ | refine blk_alloc ?_ _)); refine blk_far ?_ NB244_254.out _; (with_reducible repeat (first | refine blk_drewN ?_ _ | refine blk_drew ?_ | refine blk_alloc ?_ _)); refine blk_far ?_ NB244_254.out _; (with_reducible repeat (first | refine blk_drewN ?_ _ | refine blk_drew ?_ | refine blk_alloc ?_ _)); exact BK244.out) hb); have n3_ := aM (blk_below (g := gb245) (o := .cells #[.slice none 0 0, .slice none 0 0] 31 (0, 0)) (by (with_reducible repeat (first | refine blk_drewN ?_ _ | refine blk_drew ?_ | refine blk_alloc ?_ _)); refine blk_far ?_ NB245_254.out _; (with_reducible repeat (first | refine blk_drewN ?_ _ | refine blk_drew ?_ | refine blk_alloc ?_ _)); refine blk_far ?_ NB245_254.out _; (with_reducible repeat (first | refine blk_drewN ?_ _ | refine blk_drew ?_ | refine blk_alloc ?_ _)); exact BK245.out) hb); have n4_ := aM (blk_below (g := gb254) (o := .cells #[.slice Ao24 t248.length co24, .slice Ao28 t251.length co28] 31 (0, 0)) (by (with_reducible repeat (first | refine blk_drewN ?_ _ | refine blk_drew ?_ | refine blk_alloc ?_ _)); refine blk_put (cs := #[.slice Ao24 t248.length co24, .slice none 0 0]) ?_ 1 _ rfl; (with_reducible repeat (first | refine blk_drewN ?_ _ | refine blk_drew ?_ | refine blk_alloc ?_ _)); refine blk_put (cs := #[.slice none 0 0, .slice none 0 0]) ?_ 0 _ rfl; (with_reducible repeat (first | refine blk_drewN ?_ _ | refine blk_drew ?_ | refine blk_alloc ?_ _)); exact BK254.out) hb); have n5_ := aM (below_step aG hb); have n6_ := aM (hbox); have n7_ := aM ((by rw [hg]; exact (below_size aG) : w.heap.size ≤ gb255)); have n8_ := aM ((by rw [hg]; exact (below_size aG) : w.heap.size ≤ gb255)); have n9_ := aM ((by rw [hg]; exact Nat.ne_of_lt (blk_lt (g := gb244) (o := .cells #[.slice A0_0 l0_0.length c0_0, .slice A0_1 l0_1.length c0_1] 31 (0, 0)) (by (with_reducible repeat (first | refine blk_drewN ?_ _ | refine blk_drew ?_ | refine blk_alloc ?_ _)); refine blk_far ?_ NB244_254.out _; (with_reducible repeat (first | refine blk_drewN ?_ _ | refine blk_drew ?_ | refine blk_alloc ?_ _)); refine blk_far ?_ NB244_254.out _; (with_reducible repeat (first | refine blk_drewN ?_ _ | refine blk_drew ?_ | refine blk_alloc ?_ _)); exact BK244.out)) : gb244 ≠ gb255)); have n10_ := aM ((by rw [hg]; exact Nat.ne_of_gt (blk_lt (g := gb244) (o := .cells #[.slice A0_0 l0_0.length c0_0, .slice A0_1 l0_1.length c0_1] 31 (0, 0)) (by (with_reducible repeat (first | refine blk_drewN ?_ _ | refine blk_drew ?_ | refine blk_alloc ?_ _)); refine blk_far ?_ NB244_254.out _; (with_reducible repeat (first | refine blk_drewN ?_ _ | refine blk_drew ?_ | refine blk_alloc ?_ _)); refine blk_far ?_ NB244_254.out _; (with_reducible repeat (first | refine blk_drewN ?_ _ | refine blk_drew ?_ | refine blk_alloc ?_ _)); exact BK244.out)) : gb255 ≠ gb244)); have n11_ := aM ((by rw [hg]; exact Nat.ne_of_lt (blk_lt (g := gb245) (o := .cells #[.slice none 0 0, .slice none 0 0] 31 (0, 0)) (by (with_reducible repeat (first | refine blk_drewN ?_ _ | refine blk_drew ?_ | refine blk_alloc ?_ _)); refine blk_far ?_ NB245_254.out _; (with_reducible repeat (first | refine blk_drewN ?_ _ | refine blk_drew ?_ | refine blk_alloc ?_ _)); refine blk_far ?_ NB245_254.out _; (with_reducible repeat (first | refine blk_drewN ?_ _ | refine blk_drew ?_ | refine blk_alloc ?_ _)); exact BK245.out)) : gb245 ≠ gb255)); have n12_ := aM ((by rw [hg]; exact Nat.ne_of_gt (blk_lt (g := gb245) (o := .cells #[.slice none 0 0, .slice none 0 0] 31 (0, 0)) (by (with_reducible repeat (first | refine blk_drewN ?_ _ | refine blk_drew ?_ | refine blk_alloc ?_ _)); refine blk_far ?_ NB245_254.out _; (with_reducible repeat (first | refine blk_drewN ?_ _ | refine blk_drew ?_ | refine blk_alloc ?_ _)); refine blk_far ?_ NB245_254.out _; (with_reducible repeat (first | refine blk_drewN ?_ _ | refine blk_drew ?_ | refine blk_alloc ?_ _)); exact BK245.out)) : gb255 ≠ gb245)); have n13_ := aM ((by rw [hg]; exact Nat.ne_of_lt (blk_lt (g := gb254) (o := .cells #[.slice Ao24 t248.length co24, .slice Ao28 t251.length co28] 31 (0, 0)) (by (with_reducible repeat (first | refine blk_drewN ?_ _ | refine blk_drew ?_ | refine blk_alloc ?_ _)); refine blk_put (cs := #[.slice Ao24 t248.length co24, .slice none 0 0]) ?_ 1 _ rfl; (with_reducible repeat (first | refine blk_drewN ?_ _ | refine blk_drew ?_ | refine blk_alloc ?_ _)); refine blk_put (cs := #[.slice none 0 0, .slice none 0 0]) ?_ 0 _ rfl; (with_reducible repeat (first | refine blk_drewN ?_ _ | refine blk_drew ?_ | refine blk_alloc ?_ _)); exact BK254.out)) : gb254 ≠ gb255)); have n14_ := aM ((by rw [hg]; exact Nat.ne_of_gt (blk_lt (g := gb254) (o := .cells #[.slice Ao24 t248.length co24, .slice Ao28 t251.length co28] 31 (0, 0)) (by (with_reducible repeat (first | refine blk_drewN ?_ _ | refine blk_drew ?_ | refine blk_alloc ?_ _)); refine blk_put (cs := #[.slice Ao24 t248.length co24, .slice none 0 0]) ?_ 1 _ rfl; (with_reducible repeat (first | refine blk_drewN ?_ _ | refine blk_drew ?_ | refine blk_alloc ?_ _)); refine blk_put (cs := #[.slice none 0 0, .slice none 0 0]) ?_ 0 _ rfl; (with_reducible repeat (first | refine blk_drewN ?_ _ | refine blk_drew ?_ | refine blk_alloc ?_ _)); exact BK254.out)) : gb255 ≠ gb254)); clear HO250; clear HO253; clear BK244; clear BK245; clear BK254; clear HB; have HO250 := n0_; have HO253 := n1_; have BK244 := n2_; have BK245 := n3_; have BK254 := n4_; have HB := n5_; have BK255 := n6_; have GW255 := n7_; have GE255 := n8_; have NB244_255 := n9_; have NB255_244 := n10_; have NB245_255 := n11_; have NB255_245 := n12_; have NB254_255 := n13_; have NB255_254 := n14_; clear n0_ n1_ n2_ n3_ n4_ n5_ n6_ n7_ n8_ n9_ n10_ n11_ n12_ n13_ n14_; clear hb hbox hg; have hnb30 := NB255_244.out; have hnc30 := NB244_255.out; have hnb31 := NB255_245.out; have hnc31 := NB245_255.out; have hnb32 := NB255_254.out; have hnc32 := NB254_255.out; have hcz33_0 : w29.cell? ⟨gb255, 0, none⟩ = some (.slice none 0 0) := (blk_cell BK255.out 0).trans rfl; have hcz33_1 : w29.cell? ⟨gb255, 1, none⟩ = some (.slice none 0 0) := (blk_cell BK255.out 1).trans rfl; have hfz33_0 := blk_frozen BK255.out 0; have hfz33_1 := blk_frozen BK255.out 1))
    go_loopg [29] kj2 (fun kq v29 w' => ∃ (x29_2 : Int) (x256001_2 : List (S45)) (u256001 : Value), v29 = .int .i64 x29_2 ∧ Aside0 (impl_SelectFacts.l0 kq l1 (l1.length : Int) x29_2 t248 t251 t248 x256001_2 = some (r1, r2, r3)) ∧ Aside0 (kq ≤ kj2) ∧ Aside0 (Kd.R k74 74 w' w.heap.size (fun k_ => (w.heap.size ≤ k_)) (.slice Ao24 t248.length co24) t248) ∧ Aside0 (TN f_ (PA t251) k45 45 w' w.heap.size (fun k_ => (w.heap.size ≤ k_) ∧ some k_ ≠ ((.slice Ao24 t248.length co24) : Value).ownBlock ∧ some k_ ≠ ((.slice Ao24 t248.length co24) : Value).ownBlock ∧ some k_ ≠ (u256001 : Value).ownBlock ∧ k_ ≠ gb244 ∧ k_ ≠ gb245 ∧ k_ ≠ gb254 ∧ k_ ≠ gb255) (.slice Ao28 t251.length co28) t251) ∧ Aside0 (Kd.R k74 74 w' w.heap.size (fun k_ => (w.heap.size ≤ k_)) (.slice Ao24 t248.length co24) t248) ∧ Aside0 (TN f_ (PX l1 x29_2) k45 45 w' w.heap.size (fun k_ => (w.heap.size ≤ k_) ∧ some k_ ≠ ((.slice Ao24 t248.length co24) : Value).ownBlock ∧ some k_ ≠ ((.slice Ao28 t251.length co28) : Value).ownBlock ∧ some k_ ≠ ((.slice Ao24 t248.length co24) : Value).ownBlock ∧ k_ ≠ gb244 ∧ k_ ≠ gb245 ∧ k_ ≠ gb254 ∧ k_ ≠ gb255) u256001 x256001_2) ∧ Aside0 (w'.heap[gb244]? = some (.cells #[(.slice A0_0 l0_0.length c0_0), (.slice A0_1 l0_1.length c0_1)] 31 (0, 0))) ∧ Aside0 (w'.heap[gb245]? = some (.cells #[(.slice none 0 0), (.slice none 0 0)] 31 (0, 0))) ∧ Aside0 (w'.heap[gb254]? = some (.cells #[(.slice Ao24 t248.length co24), (.slice Ao28 t251.length co28)] 31 (0, 0))) ∧ Aside0 (w'.heap[gb255]? = some (.cells #[(.slice Ao24 t248.length co24), u256001] 31 (0, 0))) ∧ Aside0 (Below w.heap.size w w'))
    case atStart => exact ⟨(0), (([] : List (S45))), (.slice none 0 0), (by first | rfl | (simp; done) | (simp [*]; done)), H', ⟨Nat.le_refl _⟩, ⟨by (with_reducible repeat (first | apply Kd.R_alloc | apply Kd.R_drewN | apply Kd.R_drew)); exact Kd.R_mono (Kd.R_far (p := ⟨gb255, 1, none⟩) (Kd.R_far (p := ⟨gb255, 0, none⟩) (Kd.R_types HO250.out BK255.out (by decide)) (fun _ hk => hk.2) (.slice Ao24 t248.length co24)) (fun _ hk => hk.2) (.slice none 0 0)) (fun _ hk => hk.1.1)⟩, ⟨by (with_reducible repeat (first | apply TN_alloc | apply TN_drewN | apply TN_drew)); exact TN_mono (TN_far (p := ⟨gb255, 1, none⟩) (TN_far (p := ⟨gb255, 0, none⟩) (TN_mono HO253.out (fun k_ hk => (⟨hk, hk.2⟩ : _ ∧ k_ ≠ gb255))) (fun _ hk => hk.2) (.slice Ao24 t248.length co24)) (fun _ hk => hk.2) (.slice none 0 0)) (fun _ hk => ⟨hk.1.1.1.1, ⟨hk.1.1.1.2.1, ⟨hk.1.1.1.2.1, ⟨(by simp [Value.ownBlock]), ⟨hk.1.1.1.2.2.1, ⟨hk.1.1.1.2.2.2, ⟨hk.1.1.2, hk.1.2⟩⟩⟩⟩⟩⟩⟩)⟩, ⟨by (with_reducible repeat (first | apply Kd.R_alloc | apply Kd.R_drewN | apply Kd.R_drew)); exact Kd.R_mono (Kd.R_far (p := ⟨gb255, 1, none⟩) (Kd.R_far (p := ⟨gb255, 0, none⟩) (Kd.R_types HO250.out BK255.out (by decide)) (fun _ hk => hk.2) (.slice Ao24 t248.length co24)) (fun _ hk => hk.2) (.slice none 0 0)) (fun _ hk => hk.1.1)⟩, ⟨TN_nil (by simp [PX]) _ _ _ _ _⟩, ⟨by (with_reducible repeat (first | refine blk_drewN ?_ _ | refine blk_drew ?_ | refine blk_alloc ?_ _)); refine blk_far ?_ NB244_255.out _; (with_reducible repeat (first | refine blk_drewN ?_ _ | refine blk_drew ?_ | refine blk_alloc ?_ _)); refine blk_far ?_ NB244_255.out _; (with_reducible repeat (first | refine blk_drewN ?_ _ | refine blk_drew ?_ | refine blk_alloc ?_ _)); exact BK244.out⟩, ⟨by (with_reducible repeat (first | refine blk_drewN ?_ _ | refine blk_drew ?_ | refine blk_alloc ?_ _)); refine blk_far ?_ NB245_255.out _; (with_reducible repeat (first | refine blk_drewN ?_ _ | refine blk_drew ?_ | refine blk_alloc ?_ _)); refine blk_far ?_ NB245_255.out _; (with_reducible repeat (first | refine blk_drewN ?_ _ | refine blk_drew ?_ | refine blk_alloc ?_ _)); exact BK245.out⟩, ⟨by (with_reducible repeat (first | refine blk_drewN ?_ _ | refine blk_drew ?_ | refine blk_alloc ?_ _)); refine blk_far ?_ NB254_255.out _; (with_reducible repeat (first | refine blk_drewN ?_ _ | refine blk_drew ?_ | refine blk_alloc ?_ _)); refine blk_far ?_ NB254_255.out _; (with_reducible repeat (first | refine blk_drewN ?_ _ | refine blk_drew ?_ | refine blk_alloc ?_ _)); exact BK254.out⟩, ⟨by (with_reducible repeat (first | refine blk_drewN ?_ _ | refine blk_drew ?_ | refine blk_alloc ?_ _)); refine blk_put (cs := #[.slice Ao24 t248.length co24, .slice none 0 0]) ?_ 1 _ rfl; (with_reducible repeat (first | refine blk_drewN ?_ _ | refine blk_drew ?_ | refine blk_alloc ?_ _)); refine blk_put (cs := #[.slice none 0 0, .slice none 0 0]) ?_ 0 _ rfl; (with_reducible repeat (first | refine blk_drewN ?_ _ | refine blk_drew ?_ | refine blk_alloc ?_ _)); exact BK255.out⟩, ⟨by repeat (first | (with_reducible first | exact HB.out | apply below_alloc | apply pw_below_drewN | apply below_drew1 | refine below_set ?_ GE244.out | refine below_set ?_ GE245.out | refine below_set ?_ GE254.out | refine below_set ?_ GE255.out) | exact HB.out)⟩⟩
    case round =>
     clear H'
     try clear c1
     try clear c2
     try clear p2
     try clear c3
     try clear c7
     try clear c9
     try clear c11
     try clear c13
     try clear c16
     try clear c17
     try clear c20
     try clear c25
     try clear c26
     try clear c27
     try clear c30
     try clear c31
     try clear c32
     try clear hcz10_0
     try clear hcz10_1
     try clear hcz12_0
     try clear hcz12_1
     try clear hcz14_0
     try clear hcz14_1
     try clear hcz18_0
     try clear hcz18_1
     try clear hcz21_0
     try clear hcz21_1
     try clear hcz27_0
     try clear hcz27_1
     try clear hcz33_0
     try clear hcz33_1
     try clear hfz10_0
     try clear hfz10_1
     try clear hfz12_0
     try clear hfz12_1
     try clear hfz14_0
     try clear hfz14_1
     try clear hfz18_0
     try clear hfz18_1
     try clear hfz21_0
     try clear hfz21_1
     try clear hfz27_0
     try clear hfz27_1
     try clear hfz33_0
     try clear hfz33_1
     try clear p2
     obtain ⟨x29_2, x256001_2, u256001, rfl, HA, HK2, HO_255000, HO_255001, HO_256000, HO_256001, BK244, BK245, BK254, BK255, HB⟩ := hrel
     cases gk with
     | zero => exact absurd HA.out (by simp [impl_SelectFacts.l0])
     | succ k2 =>
      have H := HA.out
      clear HA
      simp only [impl_SelectFacts.l0] at H
      by_cases c34 : x29_2 < (l1.length : Int)
      ·rw [if_pos c34] at H
       have c34b0 : decide (x29_2 < (l1.length : Int)) = true := decide_eq_true c34
       clear c34
       by_cases c35 : 0 ≤ x29_2
       ·rw [if_pos c35] at H
        have c35b0 : decide (0 ≤ x29_2) = true := decide_eq_true c35
        clear c35
        by_cases c36 : x29_2 < (l1.length : Int)
        ·rw [if_pos c36] at H
         have c36b0 : decide (x29_2 < (l1.length : Int)) = true := decide_eq_true c36
         clear c36
         by_cases c37 : 0 ≤ (rd l1 x29_2)
         ·rw [if_pos c37] at H
          have c37b0 : decide (0 ≤ (rd l1 x29_2)) = true := decide_eq_true c37
          clear c37
          by_cases c38 : (rd l1 x29_2) < (t251.length : Int)
          ·rw [if_pos c38] at H
           have c38b0 : decide ((rd l1 x29_2) < (t251.length : Int)) = true := decide_eq_true c38
           clear c38
           by_cases c39 : x256001_2.length < 4398046511104
           ·rw [if_pos c39] at H
            have LMc39 := aM c39
            clear c39
            obtain ⟨y258, hy258⟩ : ∃ y_ : List (S45), y_ = (x256001_2 ++ [(⟨(rd_T45 t251 (rd l1 x29_2)).f0, (rd_T45 t251 (rd l1 x29_2)).f1⟩ : S45)]) := ⟨_, rfl⟩
            replace H : (impl_SelectFacts.l0 k2 l1 (l1.length : Int) (wrap64 (x29_2 + 1)) t248 t251 t248 y258) = some (r1, r2, r3) := by first | (rw [hy258]; with_reducible exact H) | (have H2_ := (Option.bind_some _ _).symm.trans H; rw [hy258]; with_reducible exact H2_) | (have H2_ := (Option.bind_some _ _).symm.trans H; with_reducible exact H2_) | with_reducible exact H | (rw [hy258]; exact H) | exact H
            have Ny258 := aM hy258
            clear hy258
            have H' := aM H
            clear H
            have p256 : 0 ≤ (x29_2 : Int) := aD
            have q256 : x29_2 < (l1.length : Int) := aD
            obtain ⟨ad256, e256, hx256_0⟩ := Kd.at_int HR1.out x29_2 p256 q256
            cases e256
            replace hx256_0 := (HB.out.cell (World.block_lt_of_cell? w _ hx256_0)).trans hx256_0
            replace p256 := eq_true p256
            replace q256 := eq_true q256
            try go_wp2
            have n0_ := aM (Kd.R_drew HO_255000.out)
            have n1_ := aM (TN_drew HO_255001.out)
            have n2_ := aM (Kd.R_drew HO_256000.out)
            have n3_ := aM (TN_drew HO_256001.out)
            have n4_ := aM (blk_drew BK244.out)
            have n5_ := aM (blk_drew BK245.out)
            have n6_ := aM (blk_drew BK254.out)
            have n7_ := aM (blk_drew BK255.out)
            have n8_ := aM (below_drew1 HB.out)
            clear HO_255000
            clear HO_255001
            clear HO_256000
            clear HO_256001
            clear BK244
            clear BK245
            clear BK254
            clear BK255
            clear HB
            have HO_255000 := n0_
            have HO_255001 := n1_
            have HO_256000 := n2_
            have HO_256001 := n3_
            have BK244 := n4_
            have BK245 := n5_
            have BK254 := n6_
            have BK255 := n7_
            have HB := n8_
            clear n0_ n1_ n2_ n3_ n4_ n5_ n6_ n7_ n8_
            have p257 : 0 ≤ ((rd l1 x29_2) : Int) := aD
            have q257 : (rd l1 x29_2) < (t251.length : Int) := aD
            obtain ⟨ad257, A257_1, c257_1, e257, hx257_0, hx257_1, hl257_1, hi257_1⟩ := at_T45 (TN_reads' HO_255001.out).2.2 (rd l1 x29_2) p257 q257
            cases e257
            obtain ⟨ce257, hce257, hMe257, hcc257⟩ := TN_get HO_255001.out z45 (rd l1 x29_2) p257 (by first | exact q257 | exact aD | (have e_ := (TN_reads' HO_255001.out).1; omega))
            obtain ⟨ve257, rfl, hve257⟩ := k45_openM hMe257
            have hv257_1 := hcc257 1 _ rfl
            rw [add_field _ _ 1 (by omega)] at hv257_1
            replace hv257_1 := Option.some.inj (hv257_1.symm.trans hx257_1)
            subst hv257_1
            have HL257_1 := aM hve257
            clear hve257
            clear hcc257 hce257
            have HR257_1 := aM hi257_1
            have HC257_1 := aM hl257_1
            clear hi257_1 hl257_1
            replace p257 := eq_true p257
            replace q257 := eq_true q257
            refine start_ (n := 11) (S := fun w' => w'.cell? ⟨gb255, 0, none⟩ = some (.slice Ao24 t248.length co24) ∧ w'.cell? ⟨gb255, 1, none⟩ = some (u256001) ∧ w'.cell? ⟨gb254, 0, none⟩ = some (.slice Ao24 t248.length co24) ∧ w'.cell? ⟨gb254, 1, none⟩ = some (.slice (some ad257) t251.length co28) ∧ w'.cell? (ad257.add (((rd l1 x29_2)).toNat * 2)) = some (.int .i64 ((rd_T45 t251 (rd l1 x29_2)).f0)) ∧ w'.cell? ⟨(ad257.add (((rd l1 x29_2)).toNat * 2)).block, (ad257.add (((rd l1 x29_2)).toNat * 2)).off + 1, none⟩ = some (.slice A257_1 ((rd_T45 t251 (rd l1 x29_2)).f1).length c257_1)) (ds := [8, 10]) #[false, false, false, false, false, false, false, false, false, false, false] (by kernel_rfl) rfl rfl ⟨(blk_cell BK255.out 0).trans rfl, (blk_cell BK255.out 1).trans rfl, (blk_cell BK254.out 0).trans rfl, (blk_cell BK254.out 1).trans rfl, hx257_0, hx257_1⟩ (fun hHeld => ?_); refine with_tabW impl_SelectFacts.tab8 impl_SelectFacts.bits8 (fun HT_ HW_ => ?_)
            generalize wr.drew = w40 at HO_255000 HO_255001 HO_256000 HO_256001 BK244 BK245 BK254 BK255 HB HL257_1 HR257_1 hx257_0 hx257_1 hHeld ⊢
            refine pure_ (i := 0) (N := some 33) (v := ?_) (a' := ?_) #[true, false, false, false, false, false, false, false, false, false, false] rfl rfl (any_of HT_.out (by kernel_rfl)) (fun _ _ _ h => h) (Or.inl ⟨by rfl, ?_⟩) ?_ ?_
            rotate_left
            ·exact aI
            rotate_left
            ·exact aP
            refine pure_ (i := 2) (N := some 35) (v := ?_) (a' := ?_) #[true, false, true, false, false, false, false, false, false, false, false] rfl rfl (any_of HT_.out (by kernel_rfl)) (fun _ _ _ h => h) (Or.inl ⟨by rfl, ?_⟩) ?_ ?_
            rotate_left
            ·exact aI
            rotate_left
            ·exact aP
            refine pure_ (i := 4) (N := some 37) (v := ?_) (a' := ?_) #[true, false, true, false, true, false, false, false, false, false, false] rfl rfl (any_of HT_.out (by kernel_rfl)) (fun _ _ _ h => h) (Or.inl ⟨by rfl, ?_⟩) ?_ ?_
            rotate_left
            ·exact aI
            rotate_left
            ·exact aP
            refine take_ (i := 1) (N := some 34) (v := ?_) (a' := ?_) #[true, true, true, false, true, false, false, false, false, false, false] rfl rfl (take_ofW HT_.out HW_.out (by kernel_rfl)) (fun _ _ _ h => h) (Or.inl ⟨by rfl, ?_⟩) hHeld ?_ ?_
            rotate_left
            ·rintro w' ⟨s0, s1, s2, s3, s4, s5⟩
             go_simp
             with_reducible rfl
            rotate_left
            ·exact aP
            refine take_ (i := 3) (N := some 36) (v := ?_) (a' := ?_) #[true, true, true, true, true, false, false, false, false, false, false] rfl rfl (take_ofW HT_.out HW_.out (by kernel_rfl)) (fun _ _ _ h => h) (Or.inl ⟨by rfl, ?_⟩) hHeld ?_ ?_
            rotate_left
            ·rintro w' ⟨s0, s1, s2, s3, s4, s5⟩
             go_simp
             with_reducible rfl
            rotate_left
            ·exact aP
            refine pure_ (i := 5) (N := some 38) (v := ?_) (a' := ?_) #[true, true, true, true, true, true, false, false, false, false, false] rfl rfl (any_of HT_.out (by kernel_rfl)) (fun _ _ _ h => h) (Or.inl ⟨by rfl, ?_⟩) ?_ ?_
            rotate_left
            ·exact aI
            rotate_left
            ·exact aP
            refine take_ (i := 6) (N := some 39) (v := ?_) (a' := ?_) #[true, true, true, true, true, true, true, false, false, false, false] rfl rfl (take_ofW HT_.out HW_.out (by kernel_rfl)) (fun _ _ _ h => h) (Or.inl ⟨by rfl, ?_⟩) hHeld ?_ ?_
            rotate_left
            ·rintro w' ⟨s0, s1, s2, s3, s4, s5⟩
             go_simp
             with_reducible rfl
            rotate_left
            ·exact aP
            refine one_ (i := 7) (N := some 40) #[true, true, true, true, true, true, true, true, false, false, false] rfl rfl (one_of HT_.out (by kernel_rfl)) (by decide) (fun K hK => ?_)
            refine value_ (w1 := ?_) (v := ?_) (by rfl) rfl ?_ ?_
            rotate_left 2
            ·go_simp
             constructor
             ·rfl
             ·rfl
            refine hK.out _ _ ⟨(blk_cell (blk_alloc BK255.out _) 0).trans rfl, (blk_cell (blk_alloc BK255.out _) 1).trans rfl, (blk_cell (blk_alloc BK254.out _) 0).trans rfl, (blk_cell (blk_alloc BK254.out _) 1).trans rfl, (World.cell?_alloc_lt _ _ _ (World.block_lt_of_cell? _ _ (hHeld.2.2.2.2.1))).trans (hHeld.2.2.2.2.1), (World.cell?_alloc_lt _ _ _ (World.block_lt_of_cell? _ _ (hHeld.2.2.2.2.2))).trans (hHeld.2.2.2.2.2)⟩ (fun hHeld => ?_)
            clear hK K
            refine norm_ (a' := ?_) ?_ ?_
            rotate_left
            ·show Act.put _ (some 40) _ = _
             simp only [Act.put, List.setIfInBounds_toArray, List.set_cons_zero, List.set_cons_succ, i64_w, i32_w]
             rfl
            refine last_ (i := 8) (N := some 41) #[true, true, true, true, true, true, true, true, true, false, false] rfl rfl (one_of HT_.out (by kernel_rfl)) (by decide) (fun K hK => ?_)
            obtain ⟨zs_, hz1_, hz2_, hz3_⟩ := HO_256001.out
            refine Kd.R_append_step (Kd.tag f_ k45) (w0 := w) w.heap.size (by rfl) (.tmp 34) (.tmp 40) 29 45 (.agg #[(.int .i64 0), (.slice none 0 0)]) 32 rfl Try.underlying29 info45 rfl (show 0 < k45.sz by decide) (by omega) u256001 zs_ ((⟨(rd_T45 t251 (rd l1 x29_2)).f0, (rd_T45 t251 (rd l1 x29_2)).f1⟩ : S45), (rd l1 x29_2).toNat) [.int .i64 ((rd_T45 t251 (rd l1 x29_2)).f0), .slice A257_1 ((rd_T45 t251 (rd l1 x29_2)).f1).length c257_1] (fun k_ => (w.heap.size ≤ k_) ∧ some k_ ≠ (.slice Ao24 t248.length co24 : Value).ownBlock ∧ some k_ ≠ (.slice (some ad257) t251.length co28 : Value).ownBlock ∧ some k_ ≠ (.slice Ao24 t248.length co24 : Value).ownBlock ∧ k_ ≠ gb244 ∧ k_ ≠ gb245 ∧ k_ ≠ gb254 ∧ k_ ≠ gb255) (fun k_ => ((fun k_ => (w.heap.size ≤ k_) ∧ some k_ ≠ (.slice Ao24 t248.length co24 : Value).ownBlock ∧ some k_ ≠ (.slice (some ad257) t251.length co28 : Value).ownBlock ∧ some k_ ≠ (.slice Ao24 t248.length co24 : Value).ownBlock ∧ k_ ≠ gb244 ∧ k_ ≠ gb245 ∧ k_ ≠ gb254 ∧ k_ ≠ gb255)) k_ ∧ some k_ ≠ (u256001 : Value).ownBlock) rfl rfl ?aP (fun _ hk => hk) ?aF ?aO ?aB ?aS ?aL ?_
            (case aP => exact (k45_mkM _ _ _ (⟨(rd_T45 t251 (rd l1 x29_2)).f0, (rd_T45 t251 (rd l1 x29_2)).f1⟩ : S45) (Kd.R_mono HL257_1.out (fun k_ hk0 => ⟨(fun hk => ⟨⟨hk.1.1, ⟨hk.1.2.1, ⟨hk.2, ⟨hk.1.2.2.1, ⟨hk.1.2.2.2.2.1, ⟨hk.1.2.2.2.2.2.1, ⟨hk.1.2.2.2.2.2.2.1, hk.1.2.2.2.2.2.2.2⟩⟩⟩⟩⟩⟩⟩, hk.1.2.2.2.1⟩) hk0.1, hk0.2⟩))))
            (case aB => exact aG)
            (case aF => exact (fun k_ hk => ⟨(Nat.le_trans (below_size aG) hk), Kd.fresh' (Kd.R_lt (aR HO_255000)) k_ hk, Kd.fresh' (TN_lt (by (with_reducible repeat (first | apply TN_alloc | apply TN_drewN | apply TN_drew)); exact HO_255001.out)) k_ hk, Kd.fresh' (Kd.R_lt (aR HO_256000)) k_ hk, Kd.freshB (g := gb244) (o := .cells #[.slice A0_0 l0_0.length c0_0, .slice A0_1 l0_1.length c0_1] 31 (0, 0)) aK k_ hk, Kd.freshB (g := gb245) (o := .cells #[.slice none 0 0, .slice none 0 0] 31 (0, 0)) aK k_ hk, Kd.freshB (g := gb254) (o := .cells #[.slice Ao24 t248.length co24, .slice (some ad257) t251.length co28] 31 (0, 0)) aK k_ hk, Kd.freshB (g := gb255) (o := .cells #[.slice Ao24 t248.length co24, u256001] 31 (0, 0)) aK k_ hk⟩))
            (case aO => exact hz3_)
            (case aS => exact (below_size aG))
            (case aL => have := LMc39.out; have hz4_ := congrArg List.length hz1_; rw [List.length_map] at hz4_; omega)
            intro v259 w41 ho hb hg hat
            replace ho : TN f_ (PX l1 (wrap64 (x29_2 + 1))) k45 45 w41 _ _ v259 y258 := ⟨_, by rw [List.map_append, hz1_, Ny258.out]; rfl, PX_step hz2_ (of_decide_eq_true c35b0) (of_decide_eq_true c36b0) HR1.out.2.1 _, ho⟩
            clear hz1_ hz2_ hz3_
            have n0_ := aM (Kd.R_over' (aR HO_255000) (TN_typed (by (with_reducible repeat (first | apply TN_alloc | apply TN_drewN | apply TN_drew)); exact HO_256001.out)) (by decide) hg)
            have n1_ := aM (TN_afterv (ok := (fun k_ => (w.heap.size ≤ k_) ∧ some k_ ≠ (.slice Ao24 t248.length co24 : Value).ownBlock ∧ some k_ ≠ (.slice Ao24 t248.length co24 : Value).ownBlock ∧ k_ ≠ gb244 ∧ k_ ≠ gb245 ∧ k_ ≠ gb254 ∧ k_ ≠ gb255)) (by (with_reducible repeat (first | apply TN_alloc | apply TN_drewN | apply TN_drew)); exact TN_mono HO_255001.out (fun _ hk => ⟨⟨hk.1, ⟨hk.2.1, ⟨hk.2.2.1, ⟨hk.2.2.2.2.1, ⟨hk.2.2.2.2.2.1, ⟨hk.2.2.2.2.2.2.1, hk.2.2.2.2.2.2.2⟩⟩⟩⟩⟩⟩, hk.2.2.2.1⟩)) hg hat)
            have n2_ := aM (Kd.R_over' (aR HO_256000) (TN_typed (by (with_reducible repeat (first | apply TN_alloc | apply TN_drewN | apply TN_drew)); exact HO_256001.out)) (by decide) hg)
            have n3_ := aM (blk_grown (g := gb244) (o := .cells #[.slice A0_0 l0_0.length c0_0, .slice A0_1 l0_1.length c0_1] 31 (0, 0)) aK hg (TN_ne HO_256001.out BK244.out (by decide)))
            have n4_ := aM (blk_grown (g := gb245) (o := .cells #[.slice none 0 0, .slice none 0 0] 31 (0, 0)) aK hg (TN_ne HO_256001.out BK245.out (by decide)))
            have n5_ := aM (blk_grown (g := gb254) (o := .cells #[.slice Ao24 t248.length co24, .slice (some ad257) t251.length co28] 31 (0, 0)) aK hg (TN_ne HO_256001.out BK254.out (by decide)))
            have n6_ := aM (blk_grown (g := gb255) (o := .cells #[.slice Ao24 t248.length co24, u256001] 31 (0, 0)) aK hg (TN_ne HO_256001.out BK255.out (by decide)))
            have n7_ := aM trivial
            have n8_ := aM (hb)
            have n9_ := aM (ho)
            clear HO_255000
            clear HO_255001
            clear HO_256000
            clear BK244
            clear BK245
            clear BK254
            clear BK255
            clear HL257_1
            clear HB
            clear HO_256001
            have HO_255000 := n0_
            have HO_255001 := n1_
            have HO_256000 := n2_
            have BK244 := n3_
            have BK245 := n4_
            have BK254 := n5_
            have BK255 := n6_
            have HL257_1 := n7_
            have HB := n8_
            have HO260 := n9_
            clear n0_ n1_ n2_ n3_ n4_ n5_ n6_ n7_ n8_ n9_
            clear ho hb hg hat
            obtain ⟨Ao42, co42, eo42⟩ := TN_slice HO260.out
            (first | subst eo42 | (injection eo42 with f1_ f2_ f3_; have f4_ := f1_.symm; have f5_ := f3_.symm; clear f1_ f2_ f3_; subst f4_; subst f5_))
            refine hK.out _ _ ?_
            clear hK K
            refine norm_ (a' := ?_) ?_ ?_
            rotate_left
            ·show Act.put _ (some 41) _ = _
             simp only [Act.put, List.setIfInBounds_toArray, List.set_cons_zero, List.set_cons_succ, i64_w, i32_w]
             rfl
            refine pure_ (i := 9) (N := some 42) (v := ?_) (a' := ?_) #[true, true, true, true, true, true, true, true, true, true, false] rfl rfl (any_of HT_.out (by kernel_rfl)) (fun _ _ _ h => h) (Or.inl ⟨by rfl, ?_⟩) ?_ ?_
            rotate_left
            ·exact aI
            rotate_left
            ·exact aP
            refine last_ (i := 10) (N := none) #[true, true, true, true, true, true, true, true, true, true, true] rfl rfl (one_of HT_.out (by kernel_rfl)) (by decide) (fun K hK => ?_)
            have hs43 : w41.cell? ⟨gb255, 1, none⟩ = some (u256001) := (blk_cell BK255.out 1).trans rfl
            have hfs43 := blk_frozen BK255.out 1
            have hns43_0 := NB244_255.out
            have hns43_1 := NB245_255.out
            have hns43_2 := NB254_255.out
            have hms43_0 := NB255_244.out
            have hms43_1 := NB255_245.out
            have hms43_2 := NB255_254.out
            refine skip_ (w1 := ?_) (by rfl) rfl ?_ ?_
            rotate_left
            ·go_simp
             rfl
            refine hK.out _ _ ?_
            clear hK K
            refine done_ (done_of HT_.out (by kernel_rfl)) ?_
            try go_wp2
            go_roundg k2
            case measure => have := HJ2.out; have := HK2.out; omega
            case rel => exact ⟨(wrap64 (x29_2 + 1)), (y258), (.slice Ao42 y258.length co42), (by first | rfl | (simp; done) | (simp [*]; done)), H', ⟨by have := HJ2.out; have := HK2.out; omega⟩, ⟨by (with_reducible repeat (first | apply Kd.R_alloc | apply Kd.R_drewN | apply Kd.R_drew)); exact Kd.R_mono (Kd.R_far (p := ⟨gb255, 1, none⟩) (Kd.R_types HO_255000.out BK255.out (by decide)) (fun _ hk => hk.2) (.slice Ao42 y258.length co42)) (fun _ hk => hk.1)⟩, ⟨by (with_reducible repeat (first | apply TN_alloc | apply TN_drewN | apply TN_drew)); exact TN_mono (TN_far (p := ⟨gb255, 1, none⟩) (TN_mono HO_255001.out (fun k_ hk => (⟨hk, hk.1.2.2.2.2.2.2⟩ : _ ∧ k_ ≠ gb255))) (fun _ hk => hk.2) (.slice Ao42 y258.length co42)) (fun _ hk => ⟨hk.1.1.1, ⟨hk.1.1.2.1, ⟨hk.1.1.2.2.1, ⟨hk.1.2, ⟨hk.1.1.2.2.2.1, ⟨hk.1.1.2.2.2.2.1, ⟨hk.1.1.2.2.2.2.2.1, hk.1.1.2.2.2.2.2.2⟩⟩⟩⟩⟩⟩⟩)⟩, ⟨by (with_reducible repeat (first | apply Kd.R_alloc | apply Kd.R_drewN | apply Kd.R_drew)); exact Kd.R_mono (Kd.R_far (p := ⟨gb255, 1, none⟩) (Kd.R_types HO_256000.out BK255.out (by decide)) (fun _ hk => hk.2) (.slice Ao42 y258.length co42)) (fun _ hk => hk.1)⟩, ⟨by (with_reducible repeat (first | apply TN_alloc | apply TN_drewN | apply TN_drew)); exact TN_mono (TN_far (p := ⟨gb255, 1, none⟩) (TN_mono HO260.out (fun k_ hk => (⟨hk, hk.2.2.2.2.2.2.2⟩ : _ ∧ k_ ≠ gb255))) (fun _ hk => hk.2) (.slice Ao42 y258.length co42)) (fun _ hk => ⟨hk.1.1, ⟨hk.1.2.1, ⟨hk.1.2.2.1, ⟨hk.1.2.2.2.1, ⟨hk.1.2.2.2.2.1, ⟨hk.1.2.2.2.2.2.1, ⟨hk.1.2.2.2.2.2.2.1, hk.1.2.2.2.2.2.2.2⟩⟩⟩⟩⟩⟩⟩)⟩, ⟨by (with_reducible repeat (first | refine blk_drewN ?_ _ | refine blk_drew ?_ | refine blk_alloc ?_ _)); refine blk_far ?_ NB244_255.out _; (with_reducible repeat (first | refine blk_drewN ?_ _ | refine blk_drew ?_ | refine blk_alloc ?_ _)); exact BK244.out⟩, ⟨by (with_reducible repeat (first | refine blk_drewN ?_ _ | refine blk_drew ?_ | refine blk_alloc ?_ _)); refine blk_far ?_ NB245_255.out _; (with_reducible repeat (first | refine blk_drewN ?_ _ | refine blk_drew ?_ | refine blk_alloc ?_ _)); exact BK245.out⟩, ⟨by (with_reducible repeat (first | refine blk_drewN ?_ _ | refine blk_drew ?_ | refine blk_alloc ?_ _)); refine blk_far ?_ NB254_255.out _; (with_reducible repeat (first | refine blk_drewN ?_ _ | refine blk_drew ?_ | refine blk_alloc ?_ _)); exact BK254.out⟩, ⟨by (with_reducible repeat (first | refine blk_drewN ?_ _ | refine blk_drew ?_ | refine blk_alloc ?_ _)); refine blk_put (cs := #[.slice Ao24 t248.length co24, u256001]) ?_ 1 _ rfl; (with_reducible repeat (first | refine blk_drewN ?_ _ | refine blk_drew ?_ | refine blk_alloc ?_ _)); exact BK255.out⟩, ⟨by repeat (first | (with_reducible first | exact HB.out | apply below_alloc | apply pw_below_drewN | apply below_drew1 | refine below_set ?_ GE244.out | refine below_set ?_ GE245.out | refine below_set ?_ GE254.out | refine below_set ?_ GE255.out) | exact HB.out)⟩⟩
           ·rw [if_neg c39] at H
            exact absurd H (by simp)
          ·rw [if_neg c38] at H
           exact absurd H (by simp)
         ·rw [if_neg c37] at H
          exact absurd H (by simp)
        ·rw [if_neg c36] at H
         exact absurd H (by simp)
       ·rw [if_neg c35] at H
        exact absurd H (by simp)
      ·rw [if_neg c34] at H
       have c34b0 : decide (x29_2 < (l1.length : Int)) = false := decide_eq_false c34
       clear c34
       simp only [Option.some.injEq, Prod.mk.injEq] at H
       obtain ⟨rfl, rfl, rfl⟩ := H
       have hnb44 := NB255_244.out
       have hnc44 := NB244_255.out
       have hnb45 := NB255_245.out
       have hnc45 := NB245_255.out
       have hnb46 := NB255_254.out
       have hnc46 := NB254_255.out
       have hcz47_0 : wr.cell? ⟨gb255, 0, none⟩ = some (.slice Ao24 t248.length co24) := (blk_cell BK255.out 0).trans rfl
       have hcz47_1 : wr.cell? ⟨gb255, 1, none⟩ = some (u256001) := (blk_cell BK255.out 1).trans rfl
       have hfz47_0 := blk_frozen BK255.out 0
       have hfz47_1 := blk_frozen BK255.out 1
       have hnb48 := NB245_244.out
       have hnc48 := NB244_245.out
       have hnb49 := NB245_254.out
       have hnc49 := NB254_245.out
       have hcz50_0 : wr.cell? ⟨gb245, 0, none⟩ = some (.slice none 0 0) := (blk_cell BK245.out 0).trans rfl
       have hcz50_1 : wr.cell? ⟨gb245, 1, none⟩ = some (.slice none 0 0) := (blk_cell BK245.out 1).trans rfl
       have hfz50_0 := blk_frozen BK245.out 0
       have hfz50_1 := blk_frozen BK245.out 1
       obtain ⟨Ao51, co51, eo51⟩ := TN_slice HO_256001.out
       subst eo51
       go_wp2
       refine bodyPost_ret (results_ct rfl _ _ gb245 31 #[.slice Ao24 t248.length co24, .slice Ao51 x256001_2.length co51] (0, 0) _ rfl (by (with_reducible repeat (first | refine blk_drewN ?_ _ | refine blk_drew ?_ | refine blk_alloc ?_ _)); refine blk_put (cs := #[.slice Ao24 t248.length co24, .slice none 0 0]) ?_ 1 _ rfl; (with_reducible repeat (first | refine blk_drewN ?_ _ | refine blk_drew ?_ | refine blk_alloc ?_ _)); refine blk_put (cs := #[.slice none 0 0, .slice none 0 0]) ?_ 0 _ rfl; (with_reducible repeat (first | refine blk_drewN ?_ _ | refine blk_drew ?_ | refine blk_alloc ?_ _)); exact BK245.out) Try.underlying31 rfl (by kernel_rfl)) rfl ?_
       exact ⟨_, _, by first | rfl | (simp [errW_none, errW_some] <;> rfl) | (simp [*, errW_none, errW_some] <;> rfl), by (with_reducible repeat (first | apply Kd.R_alloc | apply Kd.R_drewN | apply Kd.R_drew)); exact Kd.R_mono (Kd.R_far (p := ⟨gb245, 1, none⟩) (Kd.R_far (p := ⟨gb245, 0, none⟩) (Kd.R_types HO_256000.out BK245.out (by decide)) (fun _ hk => hk.2) (.slice Ao24 t248.length co24)) (fun _ hk => hk.2) (.slice Ao51 x256001_2.length co51)) (fun _ _ => trivial), by refine TN_S (f := f_) (P := PX l1 x29_2) ?_ (PX_nd (HAI.out (by simp))); (with_reducible repeat (first | apply TN_alloc | apply TN_drewN | apply TN_drew)); exact TN_mono (TN_far (p := ⟨gb245, 1, none⟩) (TN_far (p := ⟨gb245, 0, none⟩) (TN_mono HO_256001.out (fun k_ hk => (⟨hk, hk.2.2.2.2.2.1⟩ : _ ∧ k_ ≠ gb245))) (fun _ hk => hk.2) (.slice Ao24 t248.length co24)) (fun _ hk => hk.2) (.slice Ao51 x256001_2.length co51)) (fun _ _ => trivial), by repeat (first | (with_reducible first | exact HB.out | apply below_alloc | apply pw_below_drewN | apply below_drew1 | refine below_set ?_ GE244.out | refine below_set ?_ GE245.out | refine below_set ?_ GE254.out | refine below_set ?_ GE255.out) | exact HB.out)⟩


end Go.Proofs.Yteddnlklfjpgoaa.PFnExactSelectFacts
