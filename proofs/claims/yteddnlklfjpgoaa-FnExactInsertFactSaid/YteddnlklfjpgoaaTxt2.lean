/- A region that draws its order, in which two operations may come up at once: walked as a tree. No condition beyond those each states. -/
import Derived.Test.YteddnlklfjpgoaaTxt
namespace Go.Proofs.Yteddnlklfjpgoaa.Txt
open Go
set_option linter.unusedVariables false
inductive Tr where
  | nil : Tr
  | one : Nat → Tr → Tr
  | two : Nat → Nat → Tr → Tr → Tr
def Tr.deep : Tr → Nat
  | .nil => 0
  | .one _ t => t.deep + 1
  | .two _ _ t _ => t.deep + 1
/-- The tree with its operations written out. -/
inductive TO where
  | nil : TO
  | one : Oper → TO → TO
  | two : Oper → Oper → TO → TO → TO
def Tr.ops (l : List Oper) : Tr → TO
  | .nil => .nil
  | .one i t => .one (l.getD i default) (t.ops l)
  | .two i j t u => .two (l.getD i default) (l.getD j default) (t.ops l) (u.ops l)
def quick (ops : Array Oper) (i : Nat) : Bool := match ops[i]? with
  | some o => still o
  | none => true
def okT (ops : Array Oper) : Tr → Array Bool → Bool
  | .nil, l => Region.ready .any ops l == []
  | .one i t, l => ok1 ops l i && okT ops t (l.setIfInBounds i true)
  | .two i j t u, l => (Region.ready .any ops l == [i, j]) && !quick ops i && !quick ops j && (u.deep == t.deep) && okT ops t (l.setIfInBounds i true) && okT ops u (l.setIfInBounds j true)
def okTr (ops : Array Oper) (t : Tr) : Bool := Region.noSelect ops && t.deep == ops.size && okT ops t (Array.replicate ops.size false)
section
variable {P : Program} {ops : Array Oper} {Q : Exit → Act → World → Prop} {S : World → Prop}
def stp (P : Program) (ops : Array Oper) (Q : Exit → Act → World → Prop) (S : World → Prop) (o : Oper) (c : Act → World → Prop) (a : Act) (w : World) : Prop :=
  if Region.wanted o (yielded ops a.tmps) = true then (if still o = true then o.quiet P a S (fun a' => c a' w) else o.wp P a w (fun a' w' => S w' ∧ c a' w') Q) else c (a.put o.dst undef) w
def walkT (P : Program) (ops : Array Oper) (Q : Exit → Act → World → Prop) (S : World → Prop) : TO → Act → World → Prop
  | .nil, a, w => Q .normal a w
  | .one o t, a, w => stp P ops Q S o (fun a w => walkT P ops Q S t a w) a w
  | .two o p t u, a, w => stp P ops Q S o (fun a w => walkT P ops Q S t a w) a w ∧ stp P ops Q S p (fun a w => walkT P ops Q S u a w) a w
theorem ready_step {i : Nat} {o : Oper} {l : Array Bool} {n : Nat} {a : Act} {w : World} {c : Act → World → Prop} (ho : ops[i]? = some o) (hs : still o = false) (hS : S w) (hc : ∀ a w, S w → c a w → wpAnyH P .any ops Q S n (l.setIfInBounds i true) a w) (h : stp P ops Q S o c a w)
    (K : Act → World → Prop) (hK : Shut (∀ a w, S w → (S w → wpAnyH P .any ops Q S n (l.setIfInBounds i true) a w) → K a w)) : if Region.wanted o (yielded ops a.tmps) = true then Oper.wp P o a w K Q else K (a.put o.dst undef) w := by
  unfold stp at h
  by_cases hw : Region.wanted o (yielded ops a.tmps) = true
  · rw [if_pos hw, if_neg (by rw [hs]; decide)] at h
    rw [if_pos hw]
    exact Oper.wp_mono (fun a' w' hh => hK.out a' w' hh.1 (fun hS' => hc _ _ hS' hh.2)) h
  · rw [if_neg hw] at h
    rw [if_neg hw]
    exact hK.out _ _ hS (fun hS' => hc _ _ hS' h)
theorem any_of_walkT (l0 : List Oper) (hl0 : l0.toArray = ops) (hsel : Region.noSelect ops = true) (hQ : ∀ c (a : Act) d v w, Q (.panic c) (a.put d v) w → Q (.panic c) a w) : ∀ (t : Tr) (l : Array Bool), okT ops t l = true → ∀ (a : Act) (w : World), S w → walkT P ops Q S (t.ops l0) a w → wpAnyH P .any ops Q S t.deep l a w := by
  intro t
  induction t with
  | nil =>
    intro l hk a w hS h
    exact wpAnyH_done (by simpa [okT] using hk) h 0
  | one i t ih =>
    intro l hk a w hS h
    rw [okT, Bool.and_eq_true] at hk
    obtain ⟨hk, hr⟩ := hk
    unfold ok1 at hk
    rw [Tr.ops, walkT] at h
    cases ho : ops[i]? with
    | none => rw [ho] at hk; cases hk
    | some o =>
      have hg : l0.getD i default = o := by subst hl0; rw [List.getElem?_toArray] at ho; rw [List.getD_eq_getElem?_getD, ho]; rfl
      rw [ho] at hk
      rw [hg] at h
      simp only at hk
      cases hs : still o with
      | true =>
        rw [if_pos hs, Bool.and_eq_true] at hk
        unfold stp at h
        by_cases hw : Region.wanted o (yielded ops a.tmps) = true
        · rw [if_pos hw, if_pos hs] at h
          obtain ⟨v, hv, hn⟩ := h
          refine wpAnyH_take (v := v) ho hsel hk.1 hk.2 (fun c a w h => hQ c a _ _ w h) (.inl ⟨hw, fun w' hw' => ?_⟩) hS (ih _ hr _ _ hS hn)
          have h1 := hv w' hw'
          unfold Oper.quietAt at h1
          cases hr : (execOp a.eval o).run P w' with
          | ok n w1 =>
            obtain ⟨u, rfl⟩ := still_value hs hr
            rw [hr] at h1
            obtain ⟨e1, e2⟩ := h1
            rw [e1, e2]
          | halt x w1 =>
            rw [hr] at h1
            exact h1.elim
        · rw [if_neg hw] at h
          exact wpAnyH_take (v := undef) ho hsel hk.1 hk.2 (fun c a w h => hQ c a _ _ w h) (.inr ⟨by simpa using hw, rfl⟩) hS (ih _ hr _ _ hS h)
      | false =>
        rw [if_neg (by rw [hs]; decide)] at hk
        exact wpAnyH_ready (by simpa using hk) (by simp) (AllReadyH.cons ho (ready_step ho hs hS (fun a w hS h => ih _ hr a w hS h) h) AllReadyH.nil)
  | two i j t u iht ihu =>
    intro l hk a w hS h
    rw [okT, Bool.and_eq_true, Bool.and_eq_true, Bool.and_eq_true, Bool.and_eq_true, Bool.and_eq_true] at hk
    obtain ⟨⟨⟨⟨⟨hk, hi⟩, hj⟩, hd⟩, hr⟩, hq⟩ := hk
    rw [Tr.ops, walkT] at h
    unfold quick at hi hj
    cases ho : ops[i]? with
    | none => rw [ho] at hi; cases hi
    | some o =>
      cases hp : ops[j]? with
      | none => rw [hp] at hj; cases hj
      | some p =>
        have hg : l0.getD i default = o := by subst hl0; rw [List.getElem?_toArray] at ho; rw [List.getD_eq_getElem?_getD, ho]; rfl
        have hg' : l0.getD j default = p := by subst hl0; rw [List.getElem?_toArray] at hp; rw [List.getD_eq_getElem?_getD, hp]; rfl
        rw [ho] at hi
        rw [hp] at hj
        rw [hg, hg'] at h
        have hd' : u.deep = t.deep := by simpa using hd
        refine wpAnyH_ready (by simpa using hk) (by simp) (AllReadyH.cons ho (ready_step ho (by simpa using hi) hS (fun a w hS h => iht _ hr a w hS h) h.1) (AllReadyH.cons hp (ready_step hp (by simpa using hj) hS (fun a w hS h => ?_) h.2) AllReadyH.nil))
        have := ihu _ hq a w hS h
        rwa [hd'] at this
structure WalkT (P : Program) (ops : Array Oper) (Q : Exit → Act → World → Prop) (S : World → Prop) (t : TO) (a : Act) (w : World) : Prop where mk :: (out : walkT P ops Q S t a w)
variable {a : Act} {w : World} {o p : Oper} {t u : TO}
theorem rgT {id : Nat} {l : List Oper} (t : Tr) (hm : P.follows .mixedOrders = true) (hB : okTr l.toArray t = true)
    (h : WalkT P l.toArray Q (fun w' => ∃ p : Regrown, w' = Go.Sort.grow (redrawn w p.d) p.os) (t.ops l) a w.drew) (hQ : ∀ c (a : Act) d v w, Q (.panic c) (a.put d v) w → Q (.panic c) a w := by (intro _ _ d _ _ h; cases d <;> exact h)) : (Code.region id l.toArray true).wp P Q a w := by
  unfold okTr at hB
  rw [Bool.and_eq_true, Bool.and_eq_true] at hB
  obtain ⟨⟨h1, h2⟩, h3⟩ := hB
  have hS : (fun w' => ∃ p : Regrown, w' = Go.Sort.grow (redrawn w p.d) p.os) w.drew := regrown_of_below (w := w) (w' := w.drew) ⟨rfl, rfl, rfl, Nat.le_refl _, fun _ _ => rfl⟩
  refine wp_region_held_drew (S := fun w' => ∃ p : Regrown, w' = Go.Sort.grow (redrawn w p.d) p.os) hm hS (fun _ => ?_)
  have := any_of_walkT l rfl h1 hQ t _ h3 a _ hS h.out
  rwa [beq_iff_eq.1 h2] at this
theorem nilT (h : Q .normal a w) : WalkT P ops Q S .nil a w := ⟨h⟩
theorem takeT (hw : Region.wanted o (yielded ops a.tmps) = true) (hs : still o = true) (h : ∀ K : Act → Prop, (∀ a', WalkT P ops Q S t a' w → K a') → o.quiet P a S K) : WalkT P ops Q S (.one o t) a w := by
  refine ⟨?_⟩
  rw [walkT, stp, if_pos hw, if_pos hs]
  exact h _ (fun _ h => h.out)
theorem stepT (hs : still o = false) (h : ∀ K : Act → World → Prop, (∀ a' w', S w' → WalkT P ops Q S t a' w' → K a' w') → S w → if Region.wanted o (yielded ops a.tmps) = true then Oper.wp P o a w K Q else K (a.put o.dst undef) w) (hS : S w) : WalkT P ops Q S (.one o t) a w := by
  refine ⟨?_⟩
  rw [walkT, stp]
  have h1 := h (fun a' w' => S w' ∧ walkT P ops Q S t a' w') (fun a' w' hS hW => ⟨hS, hW.out⟩) hS
  by_cases hw : Region.wanted o (yielded ops a.tmps) = true
  · rw [if_pos hw] at h1
    rw [if_pos hw, if_neg (by rw [hs]; decide)]
    exact h1
  · rw [if_neg hw] at h1
    rw [if_neg hw]
    exact h1.2
theorem twoT (h1 : WalkT P ops Q S (.one o t) a w) (h2 : WalkT P ops Q S (.one p u) a w) : WalkT P ops Q S (.two o p t u) a w := by
  have e1 := h1.out
  have e2 := h2.out
  rw [walkT] at e1 e2
  exact ⟨by rw [walkT]; exact ⟨e1, e2⟩⟩
theorem callT {f : FuncId} {fn : Func} {as : List Operand} {ts : Array TypeId} {args : List Value} {R : Ending → World → Prop} (hop : o.op = .call { callee := .value (.func f), args := as.toArray, argTypes := ts }) (hw : Region.wanted o (yielded ops a.tmps) = true) (hf : P.funcs[f]? = some fn) (hname : (fn.name == "runtime.NumGoroutine") = false) (hb : fn.body.isSome = true)
    (hc : Calls P f args.toArray w R) (hargs : as.map a.eval = args)
    (h : ∀ e w', R e w' → ∃ v, e = .returned v ∧ S w' ∧ WalkT P ops Q S t (a.put o.dst v) w') : WalkT P ops Q S (.one o t) a w := by
  refine ⟨?_⟩
  rw [walkT, stp, if_pos hw, if_neg (by simp [still, hop])]
  have h1 : fn.name ≠ "runtime.NumGoroutine" := by simpa using hname
  obtain ⟨c, hcb⟩ := Option.isSome_iff_exists.1 hb
  have he : (callFunc f args.toArray).run P w = .ok (.enter f args.toArray) w := by simp [callFunc, hf, h1, hcb]
  have hrun : (execOp a.eval o).run P w = .ok (.enter f args.toArray) w := by
    unfold execOp
    subst hargs
    simp [hop, resolve, Deferred.ofValue, invoke, Act.eval, he]
  unfold Oper.wp
  rw [hrun, Oper.upon_enter]
  refine hc.mono fun e w'' hh => ?_
  obtain ⟨v, rfl, hk⟩ := h e w'' hh
  exact ⟨hk.1, hk.2.out⟩
end
end Go.Proofs.Yteddnlklfjpgoaa.Txt
