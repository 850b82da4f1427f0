/- The row of the law FnDatabaseFormat: called with any arguments that read as data it returns true and leaves them as they read. No condition beyond the row's own. -/
import Derived.Test.YtckpikfbhlhhjaaGreatDoorCards
import Derived.Test.YtckpikfbhlhhjaaGreatDoorTie
import Derived.Test.YtckpikfbhlhhjaaGreatDoorShelfC
import Derived.Shelf.Vars
import Derived.Test.YtckpikfbhlhhjaaGreatDoorPureFnDatabaseFormat
import Derived.WalkKit
import Derived.ProofKit
import Derived.OpenShut
import Derived.ShutString
import Derived.ChangeOld
import Derived.Below
import Derived.SizedLaws
import Derived.Carry
import Derived.Deep.DeepLaidRun
import Derived.MakeChecks
import Derived.SevenTiedAt
namespace Go.Proofs.YtckpikfbhlhhjaaGreatDoor.fnDatabaseFormat
open Go.ChangeShapes Go.WideShapes Go.ChangeAt Go.RowKit Go.Proofs.YtckpikfbhlhhjaaGreatDoor.PFnDatabaseFormat Go.Proofs.YtckpikfbhlhhjaaGreatDoorW.PrintWords
open Go.ChangeMaps (open_string shut_string)
set_option linter.unusedVariables false
theorem own : ownKnob Tryz.prog.godebug = none := by kernel_rfl
theorem laidOut : laidOutB Tryz.prog = true := by kernel_rfl
abbrev tabs : List (String × DataW Unit) := [("math/bits.deBruijn32tab", Rows.laid_math_bits_deBruijn32tab), ("math/bits.deBruijn64tab", Rows.laid_math_bits_deBruijn64tab), ("internal/strconv.uint64pow10", Rows.laid_internal_strconv_uint64pow10), ("unicode/utf8.acceptRanges", Rows.laid_unicode_utf8_acceptRanges), ("unicode/utf8.first", Rows.laid_unicode_utf8_first)]
theorem pow_of5 {W : World} (h : laidMet Tryz.prog tabs W) : Shelf.Pow W := by
  have h2 := laidMet.tail (laidMet.tail h)
  exact Lib.tabBelow_of_tabIs (Lib.tabIs_of_head (g := 3) (t := 141) (e := 131) (n := 20) (by kernel_rfl) (by kernel_rfl) Tryz.underlying141 (by kernel_rfl) (by kernel_rfl) (by kernel_rfl) (zs := Lib.pow10Tab) h2)
/-- The numbers of a listed table, as cells. -/
def cellsOf (d : DataW Unit) : Array Value := match d with
  | .agg l => (l.flatMap fun d => match d with | .lit (.int k n) => [Value.int k n] | .agg m => (m.map fun d => match d with | .lit (.int k n) => Value.int k n | _ => .bool false) | _ => [.bool false]).toArray
  | _ => #[]
def putTab (h : Array Obj) (i : Nat) (c : Array Value) : Array Obj := h.modify i fun
  | .cells _ t frozen => .cells c t frozen
  | o => o
/-- The settled world, the five tables laid. -/
noncomputable def laidWorld (os : Os) : World :=
  let h0 := (World.holding Tryz.prog os ⟨#[], #[], []⟩).heap
  { World.holding Tryz.prog os ⟨#[], #[], []⟩ with heap := putTab (putTab (putTab (putTab (putTab h0 4 (cellsOf Rows.laid_math_bits_deBruijn32tab)) 5 (cellsOf Rows.laid_math_bits_deBruijn64tab)) 3 (cellsOf Rows.laid_internal_strconv_uint64pow10)) 2 (cellsOf Rows.laid_unicode_utf8_acceptRanges)) 1 (cellsOf Rows.laid_unicode_utf8_first) }
set_option maxRecDepth 100000 in
theorem laidWorld_met (os : Os) (args : Array Value) : laidMet Tryz.prog tabs ((laidWorld os).forCall (fun _ _ => 0) ⟨#[], args, []⟩).memory :=
  laidMet_of_run3 8 (by kernel_rfl) (by kernel_rfl) (by kernel_rfl)
set_option maxRecDepth 100000 in
theorem lifted (os : Os) (started : os.Started) (H : Type) (enc : TypeId × Value → H) :
    ReturnsInHanded {} Tryz.checked os 4 .any (fun w args => (Rows.fnDatabaseFormatSpec.pre enc Tryz.prog Tryz.f4 Rows.fnDatabaseFormatRow.domain false w args ∧ laidMet Tryz.prog tabs w) ∧ sizedMet enc Tryz.prog Tryz.f4 (OpenSpec.ofChange Rows.fnDatabaseFormatSpec) false w args) (Rows.fnDatabaseFormatSpec.post enc Tryz.prog Tryz.f4 false true false false) := by
  refine returnsInHanded_of_calls own started (by kernel_rfl) (ChangeSpec.witness_at (enc := enc) (C := Tryz.checked) (os := os) (X := fun w _ => laidMet Tryz.prog tabs w) false (laidWorld os) #[.slice none 0 0] 8 rfl (by kernel_rfl) (by kernel_rfl) (by kernel_rfl) (by kernel_rfl) (by kernel_rfl) (laidWorld_met os _)) ?_
  intro w tape i _ hsh _ hok hpre _
  obtain ⟨_, _, _, fn', hfn', _, _, _, _, hval0⟩ := hok
  obtain rfl : fn' = Tryz.f4 := Option.some.inj (hfn'.symm.trans Tryz.func4)
  obtain ⟨⟨⟨ds, gs, before, hw, hcnd⟩, hl⟩, hz⟩ := hpre
  have hW := DataW.Whole.of_heap (w' := w.forCall tape i) (by rfl) hw
  have hsz0 := hz.weights hw
  have hL : laidMet Tryz.prog tabs (w.forCall tape i) := laidMet.of_heap (by rfl) hl
  suffices hh : Calls Tryz.prog 4 i.args (w.forCall tape i) fun e W' => ∃ v, e = .returned v ∧ Rows.fnDatabaseFormatSpec.post enc Tryz.prog Tryz.f4 false true false false (w.forCall tape i) i.args v W' from
    hh.mono fun e W' ⟨v, he, hp⟩ => by
      subst he
      exact ChangeSpec.post_blind hp
  clear hw hl hz
  generalize w.forCall tape i = W at hsh hval0 hW hL ⊢
  generalize w.heap.size = base at hval0
  generalize i.args = args at hval0 hW ⊢
  have hsz : (DataW.weightsEach Tryz.prog (Tryz.f4.params.toList ++ Rows.fnDatabaseFormatSpec.plain.varTypes Tryz.prog) (ds ++ gs)).all (· ≤ reachBytes) = true := hsz0
  have hval : ∀ (j : Nat) t v, Tryz.f4.params[j]? = some t → args[j]? = some v → Value.okWide Tryz.prog W .any base t v := hval0
  have hW' := hW
  obtain ⟨p, q, hA0, hV, rfl, hfz, hnd⟩ := hW
  have hA : DataW.TrodAll enc Tryz.prog W 0 (fun _ => true) true Tryz.f4.params.toList args.toList ds p := hA0
  rw [Tryz.params4] at hA hval hsz
  obtain ⟨v0, vs0, d0, ds0, p0, q0, hargs, rfl, rfl, h0, r0⟩ := trodAll_cons hA
  obtain ⟨rfl, rfl, rfl⟩ := trodAll_nil r0
  obtain rfl : args = #[v0] := by cases args; simp_all
  obtain ⟨rfl, rfl⟩ := trodVars_none hV
  have t0 := h0
  have lt0 : ∀ x ∈ p0, x.block < W.heap.size := by obtain ⟨m, hm⟩ := t0; exact DataW.trod_lt m _ _ _ hm
  obtain ⟨A0, c0, x0, rfl, hc0, hr0, wl0, wx0⟩ := Opens.opens_slice_arg Tryz.underlying31 (by kernel_rfl) (Opens.opens_int Tryz.underlying5) (hval 0 31 v0 rfl rfl) h0
  have w0 := And.intro wl0 wx0
  clear hA0 hval0 hsz0 hsz
  obtain ⟨k, h⟩ := Pure.FnDatabaseFormat x0 w0
  refine (laws_FnDatabaseFormat.calls k A0 c0 x0 true W hr0 hc0 h rfl (⟨pow_of5 hL, ⟨cell_of_shapedOpen_int (P := Tryz.prog) (g := 0) (t := 3) (zero := #[.int .i64 0]) hsh (of_decide_eq_true (by kernel_rfl)) (by kernel_rfl) rfl (by kernel_rfl) (by kernel_rfl) Tryz.underlying3⟩⟩ : Shelf.PowM W)).mono fun e W' ⟨he, bel⟩ => ?_
  subst he
  exact ⟨_, rfl, _, _, _, [], _, [], hW', trodAll_mk1 (shut_bool Tryz.underlying4 _), (trodAll_cons_mk (Below.trod laidOut (by kernel_rfl) (of_decide_eq_true (by kernel_rfl)) t0 bel lt0) trodAll_mk0), rfl, bel.frame _, fun h => by cases h⟩
theorem over : Rows.fnDatabaseFormatRow.holds Tryz.pinned (OpenSpec.ofChange Rows.fnDatabaseFormatSpec) :=
  OpenClaim.holds_of_wide 4 Tryz.f4 rfl rfl rfl rfl rfl rfl rfl ⟨rfl, rfl, rfl, rfl, rfl⟩ rfl rfl rfl rfl rfl (by kernel_rfl) Tryz.func4 (by kernel_rfl)
    (of_decide_eq_true (by kernel_rfl)) (by unfold Func.isWrapper; first | (rw [if_pos (by decide +kernel)]; kernel_rfl) | (rw [if_neg (by decide +kernel)]; exact ⟨rfl, rfl⟩))
    (fun os started H enc _ => lifted os started H enc)
set_option maxRecDepth 100000 in
theorem proved : Rows.FnDatabaseFormatCardSaid :=
  Claim7.holds_tied_plain_at .later [] [.data, .data, .data, .data, .pinned] true (true, "83345acfbac6bcd6080c52845d4ffbe92a4ed9909a2923e734b9f5734706ef30") false
    over (fun _ h => by cases h) (by kernel_rfl) (fun _ h => by cases h) fnDatabaseFormat_row_tie rfl ⟨rfl, rfl⟩ (by kernel_rfl) rfl
    (fun f fn hf hfn => by
      obtain rfl : f = 4 := Option.some.inj ((show Tryz.prog.funcNamed "loop.example/g01918/laws.FnDatabaseFormat" = some 4 by kernel_rfl).symm.trans hf) |>.symm
      obtain rfl : fn = Tryz.f4 := (Option.some.inj (Tryz.func4.symm.trans hfn)).symm
      exact ⟨by kernel_rfl, fun j t ht => by
        rw [Tryz.params4] at ht
        rcases j with _ | _
        all_goals simp at ht
        all_goals subst ht
        · exact (show Tryz.prog.wantsStandIn 31 = false by kernel_rfl)⟩)
    (by kernel_rfl)
end Go.Proofs.YtckpikfbhlhhjaaGreatDoor.fnDatabaseFormat
namespace Go.Proofs.YtckpikfbhlhhjaaGreatDoor
/-- The row, under a short name, for the claim. -/
theorem fnDatabaseFormat_holds : Rows.FnDatabaseFormatCardSaid := fnDatabaseFormat.proved
end Go.Proofs.YtckpikfbhlhhjaaGreatDoor
