/- The evaluator and its soundness, part 3. Each theorem bears its own conditions. -/
import Derived.Test.YtbmjbachkbomaaaGreatDoorEvB
import Derived.RangeFuncIn
import Derived.Test.YtbmjbachkbomaaaGreatDoorEvA
import Derived.Orders
/- Calls: a function entered, its body, its deferred calls, its results. Each theorem bears its own conditions. -/
set_option linter.unusedVariables false
set_option linter.unusedSectionVars false
set_option linter.unusedSimpArgs false
namespace Go.Ev
open Go.RowKit
variable [Globs]
section
variable {Z : Nat → Nat → Prop} {H H' : Heap} {L L' : Locs} {w w' : World} {B : Nat} {C : Ctx}

/-- The two worlds differ in one block alone, which is no row of cells. -/
structure But (r : Nat) (w w' : World) : Prop where
  same : ∀ i, i ≠ r → w'.heap[i]? = w.heap[i]?
  old : ∀ cs e fz, w.heap[r]? ≠ some (.cells cs e fz)
  new : ∀ cs e fz, w'.heap[r]? ≠ some (.cells cs e fz)
  size : w'.heap.size = w.heap.size
  os : w'.os = w.os
  tape : w'.tape = w.tape
  output : w'.output = w.output

theorem But.cell {r : Nat} (h : But r w w') (b off : Nat) : w'.cell? ⟨b, off, none⟩ = w.cell? ⟨b, off, none⟩ := by
  by_cases hb : b = r
  · subst hb
    have h1 : w.cell? ⟨b, off, none⟩ = none := by
      unfold World.cell?
      dsimp only
      split
      · rename_i c e f hc; exact absurd hc (h.old _ _ _)
      · rfl
    have h2 : w'.cell? ⟨b, off, none⟩ = none := by
      unfold World.cell?
      dsimp only
      split
      · rename_i c e f hc; exact absurd hc (h.new _ _ _)
      · rfl
    rw [h1, h2]
  · exact cell?_same (h.same b hb)
theorem But.row {r b : Nat} (h : But r w w') {cs : Array Value} {e : TypeId} {fz : Nat × Nat} (hb : w.heap[b]? = some (.cells cs e fz)) : w'.heap[b]? = some (.cells cs e fz) := by
  by_cases hr : b = r
  · subst hr; exact absurd hb (h.old _ _ _)
  · exact (h.same b hr).trans hb

theorem VRel.but {r : Nat} (hb : But r w w') {x : AVal} {v : Value} (h : VRel Z H L w x v) : VRel Z H L w' x v := by
  induction h with
  | data x v hx => exact .data _ _ (hx.mono fun b off v hs hc => ⟨(hb.cell b off).trans hc, hs⟩)
  | agg cs cs' hc h1 _ ih => exact .agg cs cs' hc h1 ih
  | tup cs cs' hc _ ih => exact .tup cs cs' hc ih
  | func f as cs as' cs' ha hc _ _ iha ihc => exact .func f as cs as' cs' ha hc iha ihc
  | iface t x v _ ih => exact .iface t x v ih
  | ptr id off b t ro cs ho hl => exact .ptr id off b t ro cs ho hl
  | arr id gen off len b base cap e ro sz xs cs' e' fz ho hl hx hc hbb hs => exact .arr id gen off len b base cap e ro sz xs cs' e' fz ho hl hx hc (hb.row hbb) hs
  | arrOld id gen off len a c hs hc e g ro sz xs ho hg => exact .arrOld _ _ _ _ _ _ hs hc _ _ _ _ _ ho hg
  | aptr id gen i off b base e ro sz xs ho hl => exact .aptr _ _ _ _ _ _ _ _ _ _ ho hl
  | aptrOld id gen i off a hs e g ro sz xs ho hg => exact .aptrOld _ _ _ _ _ hs _ _ _ _ _ ho hg
  | map id b es clock ho hl => exact .map _ _ _ _ ho hl
  | iter id b s pos ho hl => exact .iter _ _ _ _ ho hl
  | yield id b fn env ps as bd st pd ho hl => exact .yield _ _ _ _ _ _ _ _ _ ho hl
theorem ERel.but {r : Nat} (hb : But r w w') {e : Env} {tmps : Array Value} (h : ERel Z H L w e tmps) : ERel Z H L w' e tmps := fun t => (h t).imp id fun h => h.but hb

theorem ORel.but {r : Nat} (hb : But r w w') {o : AObj} {b base : Nat} (hr : b ≠ r) (h : ORel Z H L w o b base) : ORel Z H L w' o b base := by
  have hs := hb.same b hr
  cases o with
  | cells t ro cs =>
    obtain ⟨h0, cs', h1, h2, h3, h4⟩ := h
    exact ⟨h0, cs', hs.trans h1, h2, h3, fun j y u hy hu => (h4 j y u hy hu).but hb⟩
  | arr e g ro sz xs =>
    obtain ⟨h0, cs', fz, h1, h2, h3, h4, h5, h6⟩ := h
    exact ⟨h0, cs', fz, hs.trans h1, h2, h3, h4, fun i x hi j y u hy hu => (h5 i x hi j y u hy hu).but hb, h6⟩
  | map es clock =>
    obtain ⟨h0, es', h1, h2, h3⟩ := h
    exact ⟨h0, es', hs.trans h1, h2, fun i k v n m hi hm => let ⟨a, b, c, d⟩ := h3 i k v n m hi hm; ⟨a, b.but hb, c.but hb, d⟩⟩
  | siter s pos => obtain ⟨h0, s', h1, h2⟩ := h; exact ⟨h0, s', hs.trans h1, h2⟩
  | loop fn env ps as bd st pd =>
    obtain ⟨h0, l, h1, h2, h3, h4, h5, h6, h7, h8, h9⟩ := h
    exact ⟨h0, l, hs.trans h1, h2, h3, h4, h5, h6, h7, h8.but hb, h9⟩
theorem HRel.but {r : Nat} (hb : But r w w') (hf : ∀ id base, locOf L id ≠ some (r, base)) (h : HRel B Z H L w) : HRel B Z H L w' where
  len := h.len
  inj := h.inj
  lo := h.lo
  zB := h.zB
  bsz := by rw [hb.size]; exact h.bsz
  glob := h.glob.cells fun b off => hb.cell b off
  obj id b base hl := by
    obtain ⟨o, h1, h2⟩ := h.obj id b base hl
    exact ⟨o, h1, h2.but hb (fun hbr => hf id base (hbr ▸ hl))⟩
/-- A mark that is taken is nothing to who came before it. -/
theorem Wrote.but {H0 : Heap} {L0 : Locs} {w0 : World} {r : Nat} (hW : Wrote B Z H0 L0 w0 H L w) (hb : But r w w') (hf : ∀ id base, locOf L id ≠ some (r, base)) (hr : w0.heap.size ≤ r) (hB : B ≤ w0.heap.size) : Wrote B Z H0 L0 w0 H L w' where
  rel := hW.rel.but hb hf
  hole := hW.hole
  ext := {
    obj := hW.ext.obj
    loc := hW.ext.loc
    size := fun b cs e fz h => let ⟨c2, e2, f2, h1, h2⟩ := hW.ext.size b cs e fz h; ⟨c2, e2, f2, hb.row h1, h2⟩
    stab := fun b off v hs hc => let ⟨h1, h2⟩ := hW.ext.stab b off v hs hc; ⟨(hb.cell b off).trans h1, h2⟩
    below := ⟨hb.os.trans hW.ext.below.os, hb.tape.trans hW.ext.below.tape, hb.output.trans hW.ext.below.output, by rw [hb.size]; exact hW.ext.below.size, fun i hi => (hb.same i (by omega)).trans (hW.ext.below.block i hi)⟩
    free := fun b h hlt => let ⟨h1, h2⟩ := hW.ext.free b h hlt; ⟨(hb.same b (by omega)).trans h1, h2⟩ }

theorem setBlock_but {r : Nat} {o o' : Obj} (hr : w.heap[r]? = some o) (h1 : ∀ cs e fz, o ≠ .cells cs e fz) (h2 : ∀ cs e fz, o' ≠ .cells cs e fz) : But r w (setBlock w r o') where
  same i hi := setBlock_other r i o' hi
  old cs e fz h := by rw [hr] at h; exact h1 _ _ _ (Option.some.inj h)
  new cs e fz h := by rw [setBlock_same r o' (Array.getElem?_eq_some_iff.1 hr).1] at h; exact h2 _ _ _ (Option.some.inj h)
  size := by simp [setBlock]
  os := rfl
  tape := rfl
  output := rfl

theorem DefRel.but {N r : Nat} (hb : But r w w') {ds : List (FuncId × List AVal)} {D : List Deferred} (hno : ∀ x a, ({ target := .collected x, args := a } : Deferred) ∈ D → x ≠ r) (h : DefRel N Z H L w ds D) : DefRel N Z H L w' ds D := by
  induction h with
  | nil => exact .nil
  | call f args caps vs ds D hl hr _ ih => exact .call f args caps vs ds D hl (fun j y u a b => (hr j y u a b).but hb) (ih fun x a hx => hno x a (.tail _ hx))
  | mark x ds D hr hB hf hn _ ih => exact .mark x ds D ((hb.same x (hno x _ (.head _))).trans hr) hB hf hn (ih fun x a hx => hno x a (.tail _ hx))

/-- What a call came to. -/
def CR.heap : CR → Heap
  | .ret _ H _ | .pan _ H _ => H
def CR.recd : CR → Bool
  | .ret _ _ r | .pan _ _ r => r

/-- Among which callers a function is entered: as any call is, or as a deferred one. -/
def KindRel (Z : Nat → Nat → Prop) (H : Heap) (L : Locs) (w : World) (p : Option AVal) (kind : CallKind) (cs : List Frame) : Prop :=
  (kind = .normal ∧ p = none) ∨ (kind = .deferred ∧ ∃ c rest, cs = c :: rest ∧ ((p = none ∧ c.mode = .returning) ∨ ∃ v u, p = some v ∧ live p = true ∧ c.mode = .panicking [{ v := u, recovered := false }] ∧ VRel Z H L w v u))

/-- How a frame stands that has nothing more to do. -/
def Stands (P : Program) (Z : Nat → Nat → Prop) (L : Locs) (w : World) (fr : Frame) : CR → Prop
  | .ret v H _ => fr.mode = .returning ∧ ∃ fn u, P.funcs[fr.fn]? = some fn ∧ (results fn fr.tmps).run P w = .ok u w ∧ VRel Z H L w v u
  | .pan v H _ => (∃ u, fr.mode = .panicking [{ v := u, recovered := false }] ∧ VRel Z H L w v u) ∧ ∃ fn, P.funcs[fr.fn]? = some fn

def CallOk (C : Ctx) (f : FuncId) (args : List AVal) (H : Heap) (p : Option AVal) (r : CR) : Prop :=
  ∀ (B : Nat) (Z : Nat → Nat → Prop) (L : Locs) (w : World) (vs : Array Value) (kind : CallKind) (cs : List Frame), HRel B Z H L w → args.length = vs.size → (∀ (j : Nat) y u, args[j]? = some y → vs[j]? = some u → VRel Z H L w y u) → KindRel Z H L w p kind cs →
    ∃ L' w' fr, Steps C.P (lone (Frame.enter C.P f vs kind) cs w) (lone fr (csAft p r.recd cs) w') ∧ fr.defers = [] ∧ fr.kind = kind ∧ fr.fn = f ∧ Wrote B Z H L w r.heap L' w' ∧ L.length ≤ L'.length ∧ Stands C.P Z L' w' fr r

/-- How the mode of a frame that unwinds reads. -/
def ModeRel (Z : Nat → Nat → Prop) (H : Heap) (L : Locs) (w : World) (p : Option AVal) (u : FrameMode) : Prop :=
  match p with
  | none => u = .returning
  | some v => ∃ x, u = .panicking [{ v := x, recovered := false }] ∧ VRel Z H L w v x

def UnwOk (C : Ctx) (s : St) (p : Option AVal) (r : CR) : Prop :=
  ∀ (B N : Nat) (Z : Nat → Nat → Prop) (H0 : Heap) (L0 : Locs) (w0 : World) (L : Locs) (w : World) (fr : Frame) (cs : List Frame), Wrote B Z H0 L0 w0 s.H L w → B ≤ w0.heap.size → L0.length ≤ L.length →
    ERel Z s.H L w s.env fr.tmps → DefRel w0.heap.size Z s.H L w s.defs fr.defers → fr.fn = s.fn → ModeRel Z s.H L w p fr.mode → (∃ fn, C.fn s.fn = some fn) →
    r.recd = s.recd ∧ ∃ L' w' fr', Steps C.P (lone fr cs w) (lone fr' cs w') ∧ fr'.defers = [] ∧ fr'.kind = fr.kind ∧ fr'.fn = fr.fn ∧ Wrote B Z H0 L0 w0 r.heap L' w' ∧ L0.length ≤ L'.length ∧ Stands C.P Z L' w' fr' r

theorem run_take {P : Program} {r : Nat} (h : w.heap[r]? = some (.deferred (some []))) : (Instr.takeDeferred r).run P w = .ok [] (setBlock w r (.deferred none)) := by
  have h1 : (getObj r).run P w = .ok (.deferred (some [])) w := by
    show (Sem.getObj r .pure).run P w = _
    simp only [Sem.run, h]
  have h2 : (setObj r (.deferred none)).run P w = .ok () (setBlock w r (.deferred none)) := by
    show (Sem.setObj r _ (.pure ())).run P w = _
    simp only [Sem.run, h]
    rfl
  simp only [Instr.takeDeferred, Sem.run_bind, h1, Result.andThen_ok, h2, Sem.run_pure]

theorem ModeRel.but {r : Nat} (hb : But r w w') {p : Option AVal} {u : FrameMode} (h : ModeRel Z H L w p u) : ModeRel Z H L w' p u := by
  cases p with
  | none => exact h
  | some v => obtain ⟨x, h1, h2⟩ := h; exact ⟨x, h1, h2.but hb⟩
theorem ModeRel.notRun {p : Option AVal} {u : FrameMode} (h : ModeRel Z H L w p u) : u ≠ .run := by
  cases p with
  | none => rw [show u = _ from h]; simp
  | some v => obtain ⟨x, h1, _⟩ := h; rw [h1]; simp

theorem step_take {P : Program} {fr : Frame} {cs : List Frame} {r : Nat} {a : Array Value} {D : List Deferred} (hm : fr.mode ≠ .run) (hd : fr.defers = { target := .collected r, args := a } :: D) (hr : w.heap[r]? = some (.deferred (some []))) :
    Go.step P (lone fr cs w) = .next (lone { fr with defers := D } cs (setBlock w r (.deferred none))) := by
  refine step_lone_go ?_
  have ht := run_take (P := P) hr
  cases hmode : fr.mode with
  | run => exact absurd hmode hm
  | returning => simp [stepG, unwind, hmode, hd, Sem.runT_eq, ht]
  | panicking ch => simp [stepG, unwind, hmode, hd, Sem.runT_eq, ht]

/-- The marks in front are taken. -/
theorem strip {P : Program} {H0 : Heap} {L0 : Locs} {w0 : World} {e : Env} {p : Option AVal} (hB : B ≤ w0.heap.size) : ∀ (n : Nat) (ds : List (FuncId × List AVal)) (D : List Deferred) (w : World) (fr : Frame) (cs : List Frame), D.length ≤ n → fr.defers = D → Wrote B Z H0 L0 w0 H L w →
    ERel Z H L w e fr.tmps → DefRel w0.heap.size Z H L w ds D → ModeRel Z H L w p fr.mode →
    ∃ w' D', Steps P (lone fr cs w) (lone { fr with defers := D' } cs w') ∧ Wrote B Z H0 L0 w0 H L w' ∧ ERel Z H L w' e fr.tmps ∧ ModeRel Z H L w' p fr.mode ∧
      ((ds = [] ∧ D' = []) ∨ ∃ f args ds' caps vs D2, ds = (f, args) :: ds' ∧ D' = { target := .fn (.func f) caps, args := vs } :: D2 ∧ args.length = (vs ++ caps).size ∧
        (∀ (j : Nat) y u, args[j]? = some y → (vs ++ caps)[j]? = some u → VRel Z H L w' y u) ∧ DefRel w0.heap.size Z H L w' ds' D2)
  | n, ds, D, w, fr, cs, hn, hd, hW, he, hD, hm => by
    cases hD with
    | nil => exact ⟨w, [], by rw [← hd]; exact .refl _ _, hW, he, hm, .inl ⟨rfl, rfl⟩⟩
    | call f args caps vs ds' D2 hl hr h => exact ⟨w, _, by rw [← hd]; exact .refl _ _, hW, he, hm, .inr ⟨f, args, ds', caps, vs, D2, rfl, rfl, hl, hr, h⟩⟩
    | mark r _ D2 hr hrB hf hno h =>
      cases n with
      | zero => simp at hn
      | succ n =>
        have hb : But r w (setBlock w r (.deferred none)) := setBlock_but hr (by simp) (by simp)
        obtain ⟨w', D', h1, h2, h3, h4, h5⟩ := strip hB n ds D2 _ { fr with defers := D2 } cs (by simpa using hn) rfl (hW.but hb hf hrB hB) (he.but hb) (h.but hb hno) (hm.but hb)
        exact ⟨w', D', .head (step_take hm.notRun hd hr) h1, h2, h3, h4, h5⟩

theorem live_pan {p : Option AVal} {u : FrameMode} (h : ModeRel Z H L w p u) (hb : p ≠ some .bad) : p = none ∨ live p = true := by
  cases p with
  | none => exact .inl rfl
  | some v => cases v <;> first | exact .inr rfl | exact absurd rfl hb

theorem run_callFunc (hC : TabOk C) {f : FuncId} {fn : Func} {c : Code} (hf : C.fn f = some fn) (hb : fn.body = some c) (vs : Array Value) : (callFunc f vs).run C.P w = .ok (.enter f vs) w := by
  obtain ⟨h1, h2, _⟩ := hC.fn f fn hf
  have h3 : fn.name ≠ "runtime.NumGoroutine" := by simpa using h2
  simp [callFunc, h1, h3, hb]

theorem bodyOf_inv {f : FuncId} {c : Code} {fn : Func} (h : bodyOf C f = some (c, fn)) : C.fn f = some fn ∧ fn.body = some c := by
  unfold bodyOf at h
  obtain ⟨fn', h1, h2⟩ := bindo h
  simp only [Option.map_eq_some_iff, Prod.mk.injEq] at h2
  obtain ⟨c', h3, rfl, rfl⟩ := h2
  exact ⟨h1, h3⟩

def resOne (tmps : Array Value) : ResultVar → Sem Value
  | .tmp t => pure (tmps.getD t undef)
  | .cell a t => do loadVar t (← asAddr (tmps.getD a undef))
theorem results_eq (fn : Func) (tmps : Array Value) : results fn tmps = (do let vs ← fn.results.mapM (resOne tmps); pure (if h : vs.size = 1 then vs[0] else .tuple vs)) := by
  unfold results
  congr 1

/-- The results. -/
theorem results_sound (hC : TabOk C) (hR : HRel B Z H L w) {s : St} (hH : s.H = H) {tmps : Array Value} (he : ERel Z H L w s.env tmps) : ∀ (rs : List ResultVar) (vs : List AVal), resultsA C s rs = some vs →
    ∃ us : List Value, (rs.mapM (resOne tmps)).run C.P w = .ok us w ∧ us.length = vs.length ∧ ∀ (j : Nat) y u, vs[j]? = some y → us[j]? = some u → VRel Z H L w y u
  | [], vs, h => by simp [resultsA] at h; subst h; exact ⟨[], by simp, rfl, by simp⟩
  | .tmp t :: rs, vs, h => by
    simp only [resultsA] at h
    obtain ⟨v, hv, h2⟩ := bindo h
    simp only [Option.map_eq_some_iff] at h2
    obtain ⟨vs', hvs, rfl⟩ := h2
    obtain ⟨us, h3, h4, h5⟩ := results_sound hC hR hH he rs vs' hvs
    have hv' := (opc_as hR (a := { tmps := tmps, defers := [] }) he hv).1
    refine ⟨tmps.getD t undef :: us, ?_, by simp [h4], fun j y u hy hu => ?_⟩
    · simp only [List.mapM_cons, resOne, Sem.run_bind, Sem.run_pure, Result.andThen_ok, h3]
    · cases j with
      | zero =>
        simp only [List.getElem?_cons_zero, Option.some.injEq] at hy hu
        exact hy ▸ hu ▸ hv'
      | succ j => simp at hy hu; exact h5 j y u hy hu
  | .cell t ty :: rs, vs, h => by
    simp only [resultsA] at h
    obtain ⟨v, hv, h2⟩ := bindo h
    simp only [Option.map_eq_some_iff] at h2
    obtain ⟨vs', hvs, rfl⟩ := h2
    obtain ⟨us, h3, h4, h5⟩ := results_sound hC hR hH he rs vs' hvs
    rw [hH] at hv
    obtain ⟨u0, hu0, hu1⟩ := loadA_sound hC hR (srel_of (he t) (by intro hb; rw [hb] at hv; exact loadA_bad hv)) hv
    have hld : (do loadVar ty (← asAddr (tmps.getD t undef)) : Sem Value).run C.P w = .ok u0 w := by
      have hq := hu0
      simp only [Instr.loadAt, Sem.run_bind] at hq
      simp only [Sem.run_bind]
      generalize tmps.getD t undef = q at hq ⊢
      cases q with
      | pointer o => cases o <;> first | exact hq | (simp [Instr.sureAddr, asAddr] at hq)
      | _ => simp [Instr.sureAddr] at hq
    refine ⟨u0 :: us, ?_, by simp [h4], fun j y u hy hu => ?_⟩
    · rw [List.mapM_cons, Sem.run_bind, show (resOne tmps (.cell t ty)).run C.P w = .ok u0 w from hld]
      simp only [Sem.run_bind, Result.andThen_ok, h3, Sem.run_pure]
    · cases j with
      | zero => simp at hy hu; exact hy ▸ hu ▸ hu1
      | succ j => simp at hy hu; exact h5 j y u hy hu

theorem run_results (hC : TabOk C) (hR : HRel B Z H L w) {s : St} (hH : s.H = H) {tmps : Array Value} (he : ERel Z H L w s.env tmps) {fn : Func} {vs : List AVal} (h : resultsA C s fn.results.toList = some vs) :
    ∃ u, (results fn tmps).run C.P w = .ok u w ∧ VRel Z H L w (oneOf vs) u := by
  obtain ⟨us, h1, h2, h3⟩ := results_sound hC hR hH he _ _ h
  have hm : (fn.results.mapM (resOne tmps)).run C.P w = .ok us.toArray w := by
    rw [Array.mapM_eq_mapM_toList, Sem.run_map, h1]
    rfl
  refine ⟨if h : us.toArray.size = 1 then us.toArray[0] else .tuple us.toArray, ?_, ?_⟩
  · rw [results_eq, Sem.run_bind, hm]
    rfl
  · match us, vs, h2, h3 with
    | [], [], _, _ => exact .tup [] _ rfl (by simp)
    | [u], [v], _, h3 => exact h3 0 v u rfl rfl
    | u :: u' :: us, v :: v' :: vs, h2, h3 =>
      rw [dif_neg (by simp)]
      exact .tup _ _ (by simpa using h2.symm) (fun j y z hy hz => h3 j y z hy (by simpa using hz))
end
end Go.Ev
/- Calls, on: deferred calls one by one, the body, the whole. Each theorem bears its own conditions. -/
set_option linter.unusedVariables false
set_option linter.unusedSectionVars false
set_option linter.unusedSimpArgs false
namespace Go.Ev
open Go.RowKit
variable [Globs]
section
variable {Z : Nat → Nat → Prop} {H H' : Heap} {L L' : Locs} {w w' : World} {B : Nat} {C : Ctx}

theorem ModeRel.mono (E : Ext B Z H L w H' L' w') {p : Option AVal} {u : FrameMode} (h : ModeRel Z H L w p u) : ModeRel Z H' L' w' p u := by
  cases p with
  | none => exact h
  | some v => obtain ⟨x, h1, h2⟩ := h; exact ⟨x, h1, h2.mono E⟩

theorem unw_ret (hC : TabOk C) {s : St} {fn : Func} {vs : List AVal} (hd : s.defs = []) (hf : C.fn s.fn = some fn) (hr : resultsA C s fn.results.toList = some vs) : UnwOk C s none (.ret (oneOf vs) s.H s.recd) := by
  intro B N Z H0 L0 w0 L w fr cs hW hB hl he hD hfn hm hfe
  rw [hd] at hD
  obtain ⟨w', D', h1, h2, h3, h4, h5⟩ := strip (P := C.P) hB _ [] fr.defers w fr cs (Nat.le_refl _) rfl hW he hD hm
  have hD' : D' = [] := by
    rcases h5 with ⟨_, h⟩ | ⟨_, _, _, _, _, _, h, _⟩
    · exact h
    · cases h
  subst hD'
  obtain ⟨u, h6, h7⟩ := run_results hC h2.rel rfl h3 hr
  refine ⟨rfl, L, w', _, h1, rfl, rfl, rfl, h2, hl, h4, fn, u, ?_, h6, h7⟩
  show C.P.funcs[fr.fn]? = some fn
  rw [hfn]
  exact (hC.fn _ _ hf).1

theorem unw_pan (hC : TabOk C) {s : St} {v : AVal} (hd : s.defs = []) : UnwOk C s (some v) (.pan v s.H s.recd) := by
  intro B N Z H0 L0 w0 L w fr cs hW hB hl he hD hfn hm hfe
  rw [hd] at hD
  obtain ⟨w', D', h1, h2, h3, h4, h5⟩ := strip (P := C.P) hB _ [] fr.defers w fr cs (Nat.le_refl _) rfl hW he hD hm
  have hD' : D' = [] := by
    rcases h5 with ⟨_, h⟩ | ⟨_, _, _, _, _, _, h, _⟩
    · exact h
    · cases h
  subst hD'
  obtain ⟨fn, hfn2⟩ := hfe
  refine ⟨rfl, L, w', _, h1, rfl, rfl, rfl, h2, hl, h4, fn, ?_⟩
  show C.P.funcs[fr.fn]? = some fn
  rw [hfn]
  exact (hC.fn _ _ hfn2).1

theorem settle_one {u : Value} {r : Bool} : settle (.panicking [{ v := u, recovered := r }]) = if r then .returning else .panicking [{ v := u, recovered := false }] := by
  cases r <;> rfl

theorem unw_call (hC : TabOk C) {s : St} {p : Option AVal} {f : FuncId} {args : List AVal} {ds : List (FuncId × List AVal)} {v : AVal} {H' : Heap} {r : Bool} {res : CR} {c : Code} {fn : Func} (hd : s.defs = (f, args) :: ds) (hb : bodyOf C f = some (c, fn)) (hp : p ≠ some .bad)
    (hcall : CallOk C f args s.H p (.ret v H' r)) (hu : UnwOk C { s with defs := ds, H := H' } (if r then none else p) res) : UnwOk C s p res := by
  intro B N Z H0 L0 w0 L w fr cs hW hB hl he hD hfn hm hfe
  rw [hd] at hD
  obtain ⟨w1, D', h1, h2, h3, h4, h5⟩ := strip (P := C.P) hB _ _ fr.defers w fr cs (Nat.le_refl _) rfl hW he hD hm
  rcases h5 with ⟨h, _⟩ | ⟨f', args', ds', caps, vs, D2, hds, hD', hal, har, hD2⟩
  · cases h
  cases hds
  obtain ⟨hf1, hf2⟩ := bodyOf_inv hb
  have henter := step_defer (P := C.P) (fr := { fr with defers := D' }) (cs := cs) (w := w1) (d := { target := .fn (.func f) caps, args := vs }) (ds := D2) (fv := .func f) (cap := caps) (f := f) (args := vs ++ caps) h4.notRun hD' rfl (run_callFunc hC hf1 hf2 _)
  have hk : KindRel Z s.H L w1 p .deferred ({ fr with defers := D2 } :: cs) := by
    refine .inr ⟨rfl, _, _, rfl, ?_⟩
    rcases live_pan h4 hp with h | h
    · subst h; exact .inl ⟨rfl, h4⟩
    · cases p with
      | none => cases h
      | some q => obtain ⟨x, h6, h7⟩ := h4; exact .inr ⟨q, x, rfl, h, h6, h7⟩
  obtain ⟨L2, w2, fr2, g1, g2, g3, g4, g5, g6, g7⟩ := hcall B Z L w1 (vs ++ caps) .deferred ({ fr with defers := D2 } :: cs) h2.rel hal har hk
  obtain ⟨k1, fn2, q, k2, k3, k4⟩ := g7
  have hcs : ∃ m, csAft p r ({ fr with defers := D2 } :: cs) = { fr with defers := D2, mode := m } :: cs ∧ ModeRel Z H' L2 w2 (if r then none else p) (settle m) := by
    rcases live_pan h4 hp with h | h
    · subst h
      have h4' : fr.mode = .returning := h4
      refine ⟨fr.mode, by simp [csAft, live], ?_⟩
      rw [h4']
      cases r <;> rfl
    · cases p with
      | none => cases h
      | some qv =>
        obtain ⟨x, h6, h7⟩ := h4
        refine ⟨.panicking [{ v := x, recovered := r }], ?_, ?_⟩
        · simp only [csAft, h, if_true, aft, setRec, h6]
        · rw [settle_one]
          cases r with
          | true => rfl
          | false => exact ⟨x, rfl, h7.mono g5.ext⟩
  obtain ⟨m, hm1, hm2⟩ := hcs
  have hback := step_going_returned (P := C.P) (fr := fr2) (c := { fr with defers := D2, mode := m }) (cs := cs) (w := w2) (v := q) g3 ⟨k1, g2, fn2, k2, k3⟩
  have hW2 : Wrote B Z H0 L0 w0 H' L2 w2 := h2.trans g5 hl
  obtain ⟨e1, L3, w3, fr3, s1, s2, s3, s4, s5, s6, s7⟩ := hu B N Z H0 L0 w0 L2 w2 { fr with defers := D2, mode := settle m } cs hW2 hB (Nat.le_trans hl g6) (h3.mono g5.ext) (hD2.mono g5.ext) hfn hm2 hfe
  refine ⟨e1, L3, w3, fr3, ?_, s2, s3, s4, s5, s6, s7⟩
  refine h1.trans (.head henter (g1.trans (.head ?_ s1)))
  show Go.step C.P (lone fr2 (csAft p r _) w2) = _
  rw [hm1]
  exact hback

/-- A call: the body, then what was deferred. -/
theorem get_args : ∀ (args : List AVal) (n t : Nat), get ((args.zipIdx n).map fun (v, i) => (i, v)) t = if n ≤ t then (args[t - n]?).getD .bad else .bad
  | [], n, t => by simp [get_nil]
  | v :: args, n, t => by
    simp only [List.zipIdx_cons, List.map_cons]
    rw [get_cons, get_args args (n + 1) t]
    by_cases h1 : n = t
    · subst h1; simp
    · rw [if_neg h1]
      by_cases h2 : n + 1 ≤ t
      · rw [if_pos h2, if_pos (by omega), show t - n = (t - (n + 1)) + 1 by omega]
        simp
      · rw [if_neg h2, if_neg (by omega)]

def startOf (f : FuncId) (args : List AVal) (H : Heap) (p : Option AVal) : St := { fn := f, env := args.zipIdx.map fun (v, i) => (i, v), defs := [], H := H, pan := p, recd := false }

theorem call_sound (hC : TabOk C) {f : FuncId} {args : List AVal} {H : Heap} {p q : Option AVal} {c : Code} {fn : Func} {e : Ex} {s : St} {r : CR} (hb : bodyOf C f = some (c, fn)) (hp : p ≠ some .bad) (hcode : CodeOk C c (startOf f args H p) e s) (hsf : s.fn = f)
    (he : (q = none ∧ (e = .normal ∨ e = .ret)) ∨ ∃ v, q = some v ∧ e = .panic v) (hu : UnwOk C s q r) : CallOk C f args H p r := by
  obtain ⟨hf1, hf2⟩ := bodyOf_inv hb
  obtain ⟨hfP, _, hok⟩ := hC.fn f fn hf1
  intro B Z L w vs kind cs hR hal har hk
  let b : Frame := { (default : Frame) with fn := f, kind := kind }
  let a : Act := { tmps := vs ++ Array.replicate (fn.ntmps - vs.size) undef, defers := [] }
  have henter : Frame.enter C.P f vs kind = b.atR a [.code c] := by
    simp [Frame.enter, Frame.atR, hfP, hf2, b, a]
    rfl
  have hpr : PanRel Z H L w p false b cs := by
    unfold PanRel
    rcases hk with ⟨h1, h2⟩ | ⟨h1, c0, rest, h2, ⟨h3, h4⟩ | ⟨v, u, h3, h4, h5, h6⟩⟩
    · subst h2
      simp only [live, Bool.false_eq_true, if_false]
      refine fun _ => ⟨rfl, fun fr hfr => ?_⟩
      have : fr.kind = .normal := hfr.trans h1
      cases cs <;> simp [tryRecover, this]
    · subst h3
      simp only [live, Bool.false_eq_true, if_false]
      refine fun _ => ⟨rfl, fun fr hfr => ?_⟩
      have : fr.kind = .deferred := hfr.trans h1
      subst h2
      simp [tryRecover, this, h4]
    · rw [if_pos h4]
      exact ⟨rfl, h1, v, c0, rest, u, h3, h2, h5, h6⟩
  have hS : StRel B w.heap.size Z (startOf f args H p) L w b a cs := by
    refine ⟨hR, fun t => ?_, rfl, .nil, Nat.le_refl _, hpr, fun l hl => ?_⟩
    · show SRel Z H L w (get (args.zipIdx.map fun (v, i) => (i, v)) t) _
      rw [get_args args 0 t, if_pos (Nat.zero_le _), Nat.sub_zero]
      cases hx : args[t]? with
      | none => exact .inl rfl
      | some x =>
        have hlt : t < vs.size := by have := (List.getElem?_eq_some_iff.1 hx).1; omega
        have := har t x vs[t] hx (Array.getElem?_eq_getElem hlt)
        refine .inr ?_
        rw [Array.getD_eq_getD_getElem?, Array.getElem?_append, if_pos hlt, Array.getElem?_eq_getElem hlt]
        exact this
    · have : b.roundOf = none := rfl
      rw [this] at hl
      cases hl
  have hsz : okC a.tmps.size c = true := by
    have h1 := hok c hf2
    have h2 : fn.ntmps ≤ a.tmps.size := by simp [a]; omega
    exact okC_mono h2 h1
  obtain ⟨L1, w1, a1, h1, h2, h3, h4, h5, h6⟩ := hcode B w.heap.size Z L w b a cs [] hS hsz
  have hcs1 : csAft p s.recd cs = csAft (startOf f args H p).pan s.recd cs := rfl
  have stand : ∃ fr : Frame, Steps C.P (lone (Frame.enter C.P f vs kind) cs w) (lone fr (csAft p s.recd cs) w1) ∧ fr.tmps = a1.tmps ∧ fr.defers = a1.defers ∧ fr.fn = f ∧ fr.kind = kind ∧ ModeRel Z s.H L1 w1 q fr.mode := by
    rw [henter]
    rcases he with ⟨hq, he | he⟩ | ⟨v, hq, he⟩
    · subst he; subst hq
      exact ⟨_, Steps.trans h1 (.one (stepR_end rfl)), rfl, rfl, rfl, rfl, rfl⟩
    · subst he; subst hq
      obtain ⟨k₁, h1⟩ := h1
      exact ⟨_, h1.trans (.one (stepR_ret rfl)), rfl, rfl, rfl, rfl, rfl⟩
    · subst he; subst hq
      obtain ⟨k₁, u, hu1, h1⟩ := h1
      exact ⟨_, h1, rfl, rfl, rfl, rfl, u, rfl, hu1⟩
  obtain ⟨fr, s1, s2, s3, s4, s5, s6⟩ := stand
  obtain ⟨e1, L2, w2, fr2, g1, g2, g3, g4, g5, g6, g7⟩ := hu B w.heap.size Z H L w L1 w1 fr (csAft p s.recd cs) h2 hR.bsz h6 (by rw [s2]; exact h3.env) (by rw [s3]; exact h3.defs) (s4.trans hsf.symm) s6 ⟨fn, by rw [hsf]; exact hf1⟩
  rw [e1]
  exact ⟨L2, w2, fr2, s1.trans g1, g2, g3.trans s5, g4.trans s4, g5, g6, g7⟩
/-- What is to be shown of a call that is no deferred one. -/
def CallN (C : Ctx) (f : FuncId) (args : List AVal) (H : Heap) (r : CR) : Prop :=
  ∀ (B : Nat) (Z : Nat → Nat → Prop) (L : Locs) (w : World) (vs : Array Value) (cs : List Frame), HRel B Z H L w → args.length = vs.size → (∀ (j : Nat) y u, args[j]? = some y → vs[j]? = some u → VRel Z H L w y u) →
    ∃ L' w' fr, Steps C.P (lone (Frame.enter C.P f vs .normal) cs w) (lone fr cs w') ∧ fr.defers = [] ∧ fr.kind = .normal ∧ fr.fn = f ∧ Wrote B Z H L w r.heap L' w' ∧ L.length ≤ L'.length ∧ Stands C.P Z L' w' fr r
theorem CallOk.n {f : FuncId} {args : List AVal} {r : CR} (h : CallOk C f args H none r) : CallN C f args H r := by
  intro B Z L w vs cs hR hl ha
  obtain ⟨L', w', fr, h1, h2, h3, h4, h5, h6, h7⟩ := h B Z L w vs .normal cs hR hl ha (.inl ⟨rfl, rfl⟩)
  exact ⟨L', w', fr, by simpa [csAft, live] using h1, h2, h3, h4, h5, h6, h7⟩
end
end Go.Ev
/- Calls as operations; rounds of a range over a function. Each theorem bears its own conditions. -/
set_option linter.unusedVariables false
set_option linter.unusedSectionVars false
set_option linter.unusedSimpArgs false
namespace Go.Ev
open Go.RowKit
variable [Globs]
section
variable {Z : Nat → Nat → Prop} {H H' : Heap} {L L' : Locs} {w w' : World} {B : Nat} {C : Ctx}

def oaOf (s : St) : CR → OA
  | .ret v H _ => .ok v { s with H := H }
  | .pan v H _ => .pan v { s with H := H }

theorem csAft_recd {p : Option AVal} {r : Bool} {b : Frame} {cs : List Frame} (h : PanRel Z H L w p r b cs) : csAft p r cs = cs := csAft_same h

/-- A call of a function that has a body, in the caller's heap. -/
theorem op_enter (hC : TabOk C) {ops : Array Oper} {i : Nat} {o : Oper} {s : St} {f : FuncId} {args : List AVal} {r : CR} {c : Code} {fn : Func} (h : evX C s.env s.H o = some (.enter f args)) (hb : bodyOf C f = some (c, fn)) (hcall : CallN C f args s.H r) :
    OpOk C ops i o s (oaOf s r) := by
  intro B N Z L w b a cs rest k hS ho hw
  obtain ⟨vs, h1, h2, h3⟩ := evX_sound hC hS.heap hS.env h
  have hsem := o.semAt_eq b.roundOf a.eval (fun c hd => by obtain ⟨f, args, hx⟩ := evX_defer h hd; cases hx)
  obtain ⟨hf1, hf2⟩ := bodyOf_inv hb
  have hcs : csAft s.pan s.recd cs = cs := csAft_same hS.pan
  have hg := stepGR_op (P := C.P) (b := b) (k := k) (cs := cs) (w := w) (rest := rest) ho hw
  have henter : Go.step C.P (lone (b.atR a (.inRegion ops (i :: rest) :: k)) cs w) = .next (lone (Frame.enter C.P f vs .normal) (b.atR a (.inRegion ops (i :: rest) :: k) :: cs) w) := by
    refine step_lone_go ?_
    rw [hg, hsem]
    simp only [stepG.apply, Sem.runT_eq, if_true, h1, run_callFunc hC hf1 hf2, GStep.bare_after]
    simp [Frame.atR]
  obtain ⟨L', w', fr, g1, g2, g3, g4, g5, g6, g7⟩ := hcall B Z L w vs (b.atR a (.inRegion ops (i :: rest) :: k) :: cs) hS.heap h2 h3
  have g1' := g1
  cases r with
  | ret v H' q =>
    obtain ⟨k1, fn2, u, k2, k3, k4⟩ := g7
    have hfin := Frame.finish_atR b a ops i rest k u
    rw [ho] at hfin
    have hback : Go.step C.P (lone fr (b.atR a (.inRegion ops (i :: rest) :: k) :: cs) w') = .next (lone (b.atR (a.put o.dst u) (.inRegion ops rest :: k)) cs w') := by
      rw [step_leave_returned ⟨k1, g2, g3, fn2, k2, k3⟩, hfin]
      rfl
    refine ⟨L', w', a.defers, u, ?_, g5, ?_, fun _ => .inr k4, rfl, rfl, g6⟩
    · show Steps C.P _ (lone _ (csAft s.pan s.recd cs) _)
      rw [hcs]
      exact .head henter (g1'.trans (.one hback))
    · show StRel B N Z _ _ w' b a (csAft s.pan s.recd cs)
      rw [hcs]
      exact hS.turn g5
  | pan v H' q =>
    obtain ⟨⟨u, k1, k2⟩, fn2, k3⟩ := g7
    refine ⟨L', w', .inRegion ops (i :: rest) :: k, u, ?_, g5, ?_, k2, rfl, g6⟩
    · show Steps C.P _ (lone _ (csAft s.pan s.recd cs) _)
      rw [hcs]
      have hback := step_leave_panicked (P := C.P) (fr := fr) (c := b.atR a (.inRegion ops (i :: rest) :: k)) (cs := cs) (w := w') (chain := [{ v := u, recovered := false }]) ⟨k1, g2, fn2, k3⟩
      rw [Frame.raise_atR] at hback
      exact .head henter (g1'.trans (.one hback))
    · show StRel B N Z _ _ w' b a (csAft s.pan s.recd cs)
      rw [hcs]
      exact hS.turn g5

/-! ### Rounds -/
theorem run_getLoop {P : Program} {b : Nat} {l : Loop} (h : w.heap[b]? = some (.loop l)) : (Instr.getLoop b).run P w = .ok l w := by
  have h1 : (getObj b).run P w = .ok (.loop l) w := by
    show (Sem.getObj b .pure).run P w = _
    simp only [Sem.run, h]
  simp only [Instr.getLoop, Sem.run_bind, h1, Result.andThen_ok, Sem.run_pure]
theorem run_setLoop {P : Program} {b : Nat} {l : Loop} (h : w.heap[b]? = some (.loop l)) (o : Obj) : (setObj b o).run P w = .ok () (setBlock w b o) := by
  show (Sem.setObj b o (.pure ())).run P w = _
  simp only [Sem.run, h]
  rfl

theorem loop_parts (hR : HRel B Z H L w) {id b : Nat} {fn : FuncId} {env : Env} {ps : List Tmp} {as bd : Code} {st : Nat} {pd : Option Code} (ho : H[id]? = some (.loop fn env ps as bd st pd)) (hl : locOf L id = some (b, 0)) :
    ∃ l : Loop, w.heap[b]? = some (.loop l) ∧ l.fn = fn ∧ l.params.toList = ps ∧ l.assign = as ∧ l.body = bd ∧ stNat l.state = st ∧ l.pending = pd ∧ ERel Z H L w env l.tmps ∧ okC l.tmps.size as = true ∧ okC l.tmps.size bd = true ∧ ps.all (fun t => decide (t < l.tmps.size)) = true := by
  obtain ⟨o, h1, h2⟩ := hR.obj id b 0 hl
  rw [ho] at h1
  cases h1
  exact h2.2

/-- A loop's record is turned. -/
theorem loop_turned (hR : HRel B Z H L w) {id b : Nat} {fn : FuncId} {env : Env} {ps : List Tmp} {as bd : Code} {st st' : Nat} {pd pd' : Option Code} (ho : H[id]? = some (.loop fn env ps as bd st pd)) (hl : locOf L id = some (b, 0)) {l : Loop} (hb : w.heap[b]? = some (.loop l))
    {s' : LoopState} (hs : stNat s' = st') :
    Wrote B Z H L w (H.set id (.loop fn env ps as bd st' pd')) L (setBlock w b (.loop { l with state := s', pending := pd' })) := by
  obtain ⟨l2, h1, h2, h3, h4, h5, h6, h7, h8, h9⟩ := loop_parts hR ho hl
  rw [hb] at h1
  cases h1
  exact block_turned hR (o' := .loop fn env ps as bd st' pd') hl ho ⟨rfl, rfl, rfl, rfl⟩ hb (by simp) (by simp [keptAt]) fun E hb2 => ⟨rfl, _, hb2, h2, h3, h4, h5, hs, rfl, h8.mono E, h9⟩

theorem putArgs_sound : ∀ (ps : List Tmp) (args : List AVal) (us : List Value) (e : Env) (tmps : Array Value), ERel Z H L w e tmps → ps.length = args.length → args.length = us.length → (∀ (j : Nat) y u, args[j]? = some y → us[j]? = some u → VRel Z H L w y u) → (∀ t ∈ ps, t < tmps.size) →
    ERel Z H L w (putArgs e ps args) ((ps.zip us).foldl (fun tmps (p : Tmp × Value) => tmps.setIfInBounds p.1 p.2) tmps) ∧ ((ps.zip us).foldl (fun tmps (p : Tmp × Value) => tmps.setIfInBounds p.1 p.2) tmps).size = tmps.size
  | [], [], [], e, tmps, he, _, _, _, _ => ⟨he, rfl⟩
  | p :: ps, y :: args, u :: us, e, tmps, he, h1, h2, h3, h4 => by
    simp only [putArgs, List.zip_cons_cons, List.foldl_cons]
    have := putArgs_sound ps args us ((p, y) :: e) (tmps.setIfInBounds p u) (he.put (h4 p (by simp)) (.inr (h3 0 y u rfl rfl))) (by simpa using h1) (by simpa using h2) (fun j y u a b => h3 (j + 1) y u a b) (fun t ht => by simpa using h4 t (by simp [ht]))
    exact ⟨this.1, by rw [this.2]; simp⟩
  | [], _ :: _, _, _, _, _, h, _, _, _ => by simp at h
  | _ :: _, [], _, _, _, _, h, _, _, _ => by simp at h
  | [], [], _ :: _, _, _, _, _, h, _, _ => by simp at h
  | _ :: _, _ :: _, [], _, _, _, _, h, _, _ => by simp at h

/-- What comes of a round. -/
def roundEnd (s : St) (id : Nat) (s2 : St) (fn : FuncId) (env : Env) (ps : List Tmp) (as bd : Code) : Ex → OA
  | .panic v => .pan v { s with H := s2.H }
  | .normal => .ok (.bool true) { s with H := s2.H.set id (.loop fn env ps as bd 0 none) }
  | e => .ok (.bool false) { s with H := s2.H.set id (.loop fn env ps as bd 2 (jumpOf e)) }

theorem run_yield {P : Program} {b : Nat} {l : Loop} (h : w.heap[b]? = some (.loop l)) {vs : Array Value} (hs : vs.size = l.params.size) :
    (Instr.yield b vs).run P w = .ok (.round b l.fn ((l.params.toList.zip vs.toList).foldl (fun tmps (p : Tmp × Value) => tmps.setIfInBounds p.1 p.2) l.tmps) l.assign l.body) w := by
  simp only [Instr.yield, Sem.run_bind, run_getLoop h, Result.andThen_ok, hs, ne_eq, not_true_eq_false, if_false, Sem.run_pure]
  congr 2
  rw [← Array.foldl_toList, Array.toList_zip]

theorem run_endRound {P : Program} {b : Nat} {l : Loop} (h : w.heap[b]? = some (.loop l)) (j : Option Code) :
    (Instr.endRound b j).run P w = .ok (.bool j.isNone) (setBlock w b (.loop { l with state := if j.isNone then .ready else .done, pending := j })) := by
  simp only [Instr.endRound, Sem.run_bind, run_getLoop h, Result.andThen_ok, run_setLoop h, Sem.run_pure]
theorem run_beginRound {P : Program} {b : Nat} {l : Loop} (h : w.heap[b]? = some (.loop l)) (hs : l.state = .ready) :
    (Instr.beginRound b).run P w = .ok () (setBlock w b (.loop { l with state := .busy })) := by
  simp only [Instr.beginRound, Sem.run_bind, run_getLoop h, Result.andThen_ok, run_setLoop h, hs, Sem.run_pure]

theorem locOf_lt {id : Nat} {x : Nat × Nat} (h : locOf L id = some x) : id < L.length := by
  rcases Nat.lt_or_ge id L.length with h' | h'
  · exact h'
  · rw [locOf_none h'] at h; cases h

set_option maxHeartbeats 1000000 in
theorem op_yield (hC : TabOk C) {ops : Array Oper} {i : Nat} {o : Oper} {s s1 s2 : St} {id : Nat} {args : List AVal} {fn fn1 fn2 : FuncId} {env env1 env2 : Env} {ps ps1 ps2 : List Tmp} {as bd as1 bd1 as2 bd2 : Code} {pd pd1 pd2 : Option Code} {st2 : Nat} {e : Ex}
    (h : evX C s.env s.H o = some (.yield id args)) (ho1 : s.H[id]? = some (.loop fn env ps as bd 0 pd)) (hlen : ps.length = args.length)
    (hA : CodeOk C as { fn := fn, env := putArgs env ps args, defs := [], H := s.H, pan := some .bad, recd := false } .normal s1)
    (h1 : s1.H[id]? = some (.loop fn1 env1 ps1 as1 bd1 0 pd1)) (hBd : CodeOk C bd { s1 with H := s1.H.set id (.loop fn1 env1 ps1 as1 bd1 1 pd1) } e s2) (hd : s2.defs = [])
    (h2 : s2.H[id]? = some (.loop fn2 env2 ps2 as2 bd2 st2 pd2)) (hfn : ∃ f, C.P.funcs[fn]? = some f) : OpOk C ops i o s (roundEnd s id s2 fn2 env2 ps2 as2 bd2 e) := by
  intro B N Z L w b a cs rest k hS ho hw
  obtain ⟨blk, vs, hl, hx, hal, har⟩ := evX_sound hC hS.heap hS.env h
  have hsem := o.semAt_eq b.roundOf a.eval (fun c hd => by obtain ⟨f, args, hx⟩ := evX_defer h hd; cases hx)
  have hcs : csAft s.pan s.recd cs = cs := csAft_same hS.pan
  obtain ⟨l, hb, l1, l2, l3, l4, l5, l6, l7, l8, l9, l10⟩ := loop_parts hS.heap ho1 hl
  have hsz : vs.size = l.params.size := by rw [← hal, ← hlen, ← l2]; simp
  have hg := stepGR_op (P := C.P) (b := b) (k := k) (cs := cs) (w := w) (rest := rest) ho hw
  obtain ⟨hput, hpsz⟩ := putArgs_sound (Z := Z) (H := s.H) (L := L) (w := w) ps args vs.toList env l.tmps l7 hlen (by simpa using hal) (fun j y u p q => har j y u p (by simpa using q)) (by simpa [List.all_eq_true] using l10)
  rw [← l2] at hput hpsz
  generalize htm : (l.params.toList.zip vs.toList).foldl (fun tmps (p : Tmp × Value) => tmps.setIfInBounds p.1 p.2) l.tmps = tm at hput hpsz
  have hyr := run_yield (P := C.P) hb hsz
  rw [htm] at hyr
  let b' : Frame := { (default : Frame) with fn := l.fn, kind := .normal, roundOf := some blk }
  have henter : Go.step C.P (lone (b.atR a (.inRegion ops (i :: rest) :: k)) cs w) = .next (lone (b'.atR { tmps := tm, defers := [] } [.code as, .beginRound, .code bd]) (b.atR a (.inRegion ops (i :: rest) :: k) :: cs) w) := by
    refine step_lone_go ?_
    rw [hg, hsem]
    simp only [stepG.apply, Sem.runT_eq, if_true, hx, hyr, GStep.bare_after, l3, l4]
    rfl
  have hS1 : StRel B w.heap.size Z { fn := fn, env := putArgs env ps args, defs := [], H := s.H, pan := some .bad, recd := false } L w b' { tmps := tm, defers := [] } (b.atR a (.inRegion ops (i :: rest) :: k) :: cs) := by
    refine ⟨hS.heap, by rw [← l2]; exact hput, l1, .nil, Nat.le_refl _, ?_, fun x hx => ?_⟩
    · unfold PanRel
      simp only [live, Bool.false_eq_true, if_false]
      intro h; cases h
    · obtain rfl : blk = x := Option.some.inj hx
      exact ⟨rfl, id, _, _, _, _, _, _, _, hl, ho1⟩
  obtain ⟨L1, w1, a1, g1, g2, g3, g4, g5, g6⟩ := hA B w.heap.size Z L w b' _ _ [.beginRound, .code bd] hS1 (by simp only; rw [hpsz]; exact l8)
  have hcs1 : ∀ r (cs : List Frame), csAft (some .bad) r cs = cs := fun r cs => by simp [csAft, live]
  simp only [hcs1] at g1 g3
  have hl1 : locOf L1 id = some (blk, 0) := g2.ext.loc id blk 0 _ _ hl ho1 h1 trivial
  obtain ⟨lp1, hb1, _, _, _, _, m5, _⟩ := loop_parts g3.heap h1 hl1
  have hready : lp1.state = .ready := by cases hst : lp1.state <;> rw [hst] at m5 <;> simp [stNat] at m5 ⊢
  have hW1 := loop_turned (st' := 1) (pd' := pd1) g3.heap h1 hl1 hb1 (s' := .busy) rfl
  have hpd1 : lp1.pending = pd1 := by obtain ⟨q, hq, _, _, _, _, _, hq2, _⟩ := loop_parts g3.heap h1 hl1; rw [hb1] at hq; cases hq; exact hq2
  have hbr : (Instr.beginRound blk).run C.P w1 = .ok () (setBlock w1 blk (.loop { lp1 with state := .busy, pending := pd1 })) := by
    rw [run_beginRound hb1 hready]
    rw [← hpd1]
  have sbeg := stepR_beginRound (P := C.P) (b := b') (a := a1) (k := [.code bd]) (cs := b.atR a (.inRegion ops (i :: rest) :: k) :: cs) (w := w1) rfl hbr
  have hS2 := g3.turn hW1
  have hp1 : s1.pan = some .bad := g4
  obtain ⟨L2, w2, a2, q1, q2, q3, q4, q5, q6⟩ := hBd B w.heap.size Z L1 _ b' a1 _ [] hS2 (by rw [g5]; simp only; rw [hpsz]; exact l9)
  have hcs2 : ∀ r (cs : List Frame), csAft s1.pan r cs = cs := fun r cs => by rw [hp1]; exact hcs1 r cs
  simp only [hcs2] at q1 q3
  have hWall : Wrote B Z s.H L w s2.H L2 w2 := (g2.trans hW1 g6).trans q2 (by omega)
  have hl2 : locOf L2 id = some (blk, 0) := hWall.ext.loc id blk 0 _ _ hl ho1 h2 trivial
  obtain ⟨lp2, hb2, _⟩ := loop_parts q3.heap h2 hl2
  have hpre : Steps C.P (lone (b.atR a (.inRegion ops (i :: rest) :: k)) cs w) (lone (b'.atR a1 [.code bd]) (b.atR a (.inRegion ops (i :: rest) :: k) :: cs) (setBlock w1 blk (.loop { lp1 with state := .busy, pending := pd1 }))) :=
    .head henter (Steps.trans g1 (.one sbeg))
  have fin : ∀ (j : Option Code) (st3 : Nat) (r : Bool), (stNat (if j.isNone then .ready else .done) = st3) → r = j.isNone → 
      Steps C.P (lone (b.atR a (.inRegion ops (i :: rest) :: k)) cs w) (lone ((b.atR a (.inRegion ops (i :: rest) :: k)).finish (.bool j.isNone)) cs (setBlock w2 blk (.loop { lp2 with state := if j.isNone then .ready else .done, pending := j }))) →
      match (OA.ok (.bool r) { s with H := s2.H.set id (.loop fn2 env2 ps2 as2 bd2 st3 j) } : OA) with
      | .ok v s' => ∃ L' w' D' u, Steps C.P (lone (b.atR a (.inRegion ops (i :: rest) :: k)) cs w) (lone (b.atR (Act.put { tmps := a.tmps, defers := D' } o.dst u) (.inRegion ops rest :: k)) (csAft s.pan s'.recd cs) w') ∧
          Wrote B Z s.H L w s'.H L' w' ∧ StRel B N Z s' L' w' b { tmps := a.tmps, defers := D' } (csAft s.pan s'.recd cs) ∧ (o.dst.isSome = true → SRel Z s'.H L' w' v u) ∧ s'.pan = s.pan ∧ s'.env = s.env ∧ L.length ≤ L'.length
      | .pan v s' => False := by
    intro j st3 r hst hr hsteps
    subst hr
    have hW3 := loop_turned (st' := st3) (pd' := j) q3.heap h2 hl2 hb2 (s' := if j.isNone then .ready else .done) hst
    have hW4 := hWall.trans hW3 (by omega)
    have hfin := Frame.finish_atR b a ops i rest k (.bool j.isNone)
    rw [ho] at hfin
    rw [hfin] at hsteps
    refine ⟨L2, _, a.defers, .bool j.isNone, ?_, hW4, ?_, fun _ => .inr (vbool _), rfl, rfl, by omega⟩
    · show Steps C.P _ (lone _ (csAft s.pan s.recd cs) _)
      rw [hcs]
      exact hsteps
    · show StRel B N Z _ _ _ b a (csAft s.pan s.recd cs)
      rw [hcs]
      exact hS.turn hW4
  cases e with
  | normal =>
    refine fin none 0 true rfl rfl (hpre.trans (Steps.trans q1 (.one ?_)))
    exact stepR_round_end (P := C.P) (b := b') (a := a2) (c := b.atR a (.inRegion ops (i :: rest) :: k)) (cs := cs) rfl rfl (run_endRound hb2 none)
  | ret =>
    obtain ⟨k₁, q1⟩ := q1
    refine fin (some .ret) 2 false rfl rfl (hpre.trans (q1.trans (.one ?_)))
    exact stepR_round_ret (P := C.P) (b := b') (a := a2) (c := b.atR a (.inRegion ops (i :: rest) :: k)) (cs := cs) rfl rfl (run_endRound hb2 _)
  | exit x =>
    obtain ⟨k₁, hk, q1⟩ := q1
    refine fin (some (.exit x)) 2 false rfl rfl (hpre.trans (q1.trans (.one ?_)))
    exact stepR_round_exit (P := C.P) (b := b') (a := a2) (c := b.atR a (.inRegion ops (i :: rest) :: k)) (cs := cs) rfl rfl (hk.trans (by simp [exitTo])) (run_endRound hb2 _)
  | goto x =>
    obtain ⟨k₁, hk, q1⟩ := q1
    refine fin (some (.goto x)) 2 false rfl rfl (hpre.trans (q1.trans (.one ?_)))
    exact stepR_round_goto (P := C.P) (b := b') (a := a2) (c := b.atR a (.inRegion ops (i :: rest) :: k)) (cs := cs) rfl rfl (hk.trans (by simp [gotoIn])) (run_endRound hb2 _)
  | panic v =>
    obtain ⟨k₁, u, hu, q1⟩ := q1
    have hD := q3.defs
    rw [hd] at hD
    obtain ⟨w3, D', t1, t2, t3, t4, t5⟩ := strip (P := C.P) (p := some v) hS.heap.bsz _ [] a2.defers w2 { b'.atR a2 k₁ with mode := .panicking [{ v := u, recovered := false }] } (b.atR a (.inRegion ops (i :: rest) :: k) :: cs) (Nat.le_refl _) rfl hWall q3.env hD ⟨u, rfl, hu⟩
    have hD' : D' = [] := by
      rcases t5 with ⟨_, h⟩ | ⟨_, _, _, _, _, _, h, _⟩
      · exact h
      · cases h
    subst hD'
    obtain ⟨x, hx1, hx2⟩ := t4
    obtain ⟨f, hf⟩ := hfn
    have hback := step_leave_panicked (P := C.P) (fr := { b'.atR a2 k₁ with mode := .panicking [{ v := u, recovered := false }], defers := [] }) (c := b.atR a (.inRegion ops (i :: rest) :: k)) (cs := cs) (w := w3) (chain := [{ v := u, recovered := false }])
      ⟨rfl, rfl, f, by show C.P.funcs[l.fn]? = some f; rw [l1]; exact hf⟩
    rw [Frame.raise_atR] at hback
    have hux : x = u := by simp only [FrameMode.panicking.injEq, List.cons.injEq, PanicEntry.mk.injEq, and_true] at hx1; exact hx1.symm
    subst hux
    refine ⟨L2, w3, .inRegion ops (i :: rest) :: k, x, ?_, t2, ?_, hx2, rfl, by omega⟩
    · show Steps C.P _ (lone _ (csAft s.pan s.recd cs) _)
      rw [hcs]
      exact hpre.trans (q1.trans (t1.trans (.one hback)))
    · show StRel B N Z _ _ _ b a (csAft s.pan s.recd cs)
      rw [hcs]
      exact hS.turn t2
end
end Go.Ev
/- The statement that ranges over a function. Each theorem bears its own conditions. -/
set_option linter.unusedVariables false
set_option linter.unusedSectionVars false
set_option linter.unusedSimpArgs false
namespace Go.Ev
open Go.RowKit
variable [Globs]
section
variable {Z : Nat → Nat → Prop} {H H' : Heap} {L L' : Locs} {w w' : World} {B : Nat} {C : Ctx}

theorem run_enterLoop_none {P : Program} {fn : FuncId} {tmps : Array Value} {ps : Array Tmp} {as bd : Code} :
    (Instr.enterLoop fn tmps ps as bd none).run P w = .ok (w.heap.size + 1, [{ target := .collected w.heap.size, args := #[] }])
      ((w.alloc (.deferred (some []))).alloc (.loop { state := .ready, pending := none, fn := fn, tmps := tmps, params := ps, assign := as, body := bd, defers := w.heap.size })) := by
  simp [Instr.enterLoop]
theorem run_enterLoop_some {P : Program} {fn : FuncId} {tmps : Array Value} {ps : Array Tmp} {as bd : Code} {b : Nat} {l : Loop} (h : w.heap[b]? = some (.loop l)) :
    (Instr.enterLoop fn tmps ps as bd (some b)).run P w = .ok (w.heap.size, []) (w.alloc (.loop { state := .ready, pending := none, fn := fn, tmps := tmps, params := ps, assign := as, body := bd, defers := l.defers })) := by
  simp [Instr.enterLoop, run_getLoop h]
theorem run_endLoop {P : Program} {b : Nat} {l : Loop} (h : w.heap[b]? = some (.loop l)) (hs : l.state ≠ .busy) : (Instr.endLoop b).run P w = .ok l.pending (setBlock w b (.loop { l with state := .exhausted })) := by
  have : (l.state == LoopState.busy) = false := by cases hst : l.state <;> simp_all <;> rfl
  simp only [Instr.endLoop, Sem.run_bind, run_getLoop h, Result.andThen_ok, this, run_setLoop h, Sem.run_pure]
  simp [run_setLoop h]

theorem DefRel.marks_lt {N : Nat} {ds : List (FuncId × List AVal)} {D : List Deferred} (h : DefRel N Z H L w ds D) : ∀ x a, ({ target := .collected x, args := a } : Deferred) ∈ D → x < w.heap.size := by
  induction h with
  | nil => intro x a hx; cases hx
  | call f args caps vs ds D hl hr _ ih =>
    intro x a hx
    cases hx with
    | tail _ hx => exact ih x a hx
  | mark r ds D hr hB hf hno _ ih =>
    intro x a hx
    cases hx with
    | head => exact (Array.getElem?_eq_some_iff.1 hr).1
    | tail _ hx => exact ih x a hx

/-- The loop's record is laid, and its mark among what is deferred. -/
theorem enter_sound {P : Program} {N : Nat} {s : St} {b : Frame} {a : Act} {cs : List Frame} (hS : StRel B N Z s L w b a cs) {ps : Array Tmp} {as bd : Code} (hok1 : okC a.tmps.size as = true) (hok2 : okC a.tmps.size bd = true) (hps : ps.toList.all (fun t => decide (t < a.tmps.size)) = true) :
    ∃ blk mark w1, (Instr.enterLoop b.fn a.tmps ps as bd b.roundOf).run P w = .ok (blk, mark) w1 ∧
      Wrote B Z s.H L w (s.H ++ [.loop s.fn s.env ps.toList as bd 0 none]) (L ++ [some (blk, 0)]) w1 ∧ DefRel N Z (s.H ++ [.loop s.fn s.env ps.toList as bd 0 none]) (L ++ [some (blk, 0)]) w1 s.defs (mark ++ a.defers) := by
  have gen : ∀ (w0 : World) (dq : Nat), Below w.heap.size w w0 → ∀ (l : Loop), l = { state := .ready, pending := none, fn := b.fn, tmps := a.tmps, params := ps, assign := as, body := bd, defers := dq } →
      Wrote B Z s.H L w (s.H ++ [.loop s.fn s.env ps.toList as bd 0 none]) (L ++ [some (w0.heap.size, 0)]) (w0.alloc (.loop l)) := by
    intro w0 dq hb0 l hl
    subst hl
    have hR0 := HRel.grown hS.heap hb0
    have hE0 := Ext.grown hS.heap hb0
    have hlen := hS.heap.len
    have hbr := born_obj (B := B) (Z := Z) (H := s.H ++ [.loop s.fn s.env ps.toList as bd 0 none]) (L := L ++ [none]) (w := w0) (HRel.hole hR0 _) (id := s.H.length) (by simp [hlen]) (by rw [locOf_append, if_pos hlen.symm]) (ao := .loop s.fn s.env ps.toList as bd 0 none) (by simp)
      (o := .loop { state := .ready, pending := none, fn := b.fn, tmps := a.tmps, params := ps, assign := as, body := bd, defers := dq }) (fun E => ⟨rfl, _, heap_alloc_new _ _, hS.fn, rfl, rfl, rfl, rfl, rfl, (hS.env.mono hE0).mono ((Ext.hole hR0 _).trans E), hok1, hok2, hps⟩)
      (v := .bool true) (u := .bool true) (fun _ => vbool true)
    have hset : (L ++ [none]).set s.H.length (some (w0.heap.size, 0)) = L ++ [some (w0.heap.size, 0)] := by rw [← hlen]; simp
    have hW := wrote_new hR0 hbr
    rw [hset] at hW
    exact ⟨hE0.trans hW.ext, hW.rel, hW.hole⟩
  cases hro : b.roundOf with
  | none =>
    have hb0 : Below w.heap.size w (w.alloc (.deferred (some []))) := (Below.refl _ _).alloc (Nat.le_refl _) _
    have hW := gen _ w.heap.size hb0 _ rfl
    rw [show (w.alloc (.deferred (some []))).heap.size = w.heap.size + 1 by simp] at hW
    refine ⟨_, _, _, run_enterLoop_none, hW, ?_⟩
    have hf : ∀ id base, locOf (L ++ [some (w.heap.size + 1, 0)]) id ≠ some (w.heap.size, base) := by
      intro id base h
      rw [locOf_append] at h
      split at h
      · simp at h
      · have := hS.heap.hi h; omega
    refine .mark w.heap.size _ _ ?_ hS.base hf (fun x q hx => by have := hS.defs.marks_lt x q hx; omega) (hS.defs.mono hW.ext)
    rw [heap_alloc_old _ _ _ (by simp)]
    exact heap_alloc_new _ _
  | some l0 =>
    obtain ⟨_, id, fn', env', ps', as', bd', st', pd', hl, ho⟩ := hS.rnd l0 hro
    obtain ⟨r0, hb0, _⟩ := loop_parts hS.heap ho hl
    have hW := gen w r0.defers (Below.refl _ _) _ rfl
    exact ⟨_, [], _, run_enterLoop_some hb0, hW, hS.defs.mono hW.ext⟩

/-- The function that is ranged over has been called. -/
theorem rangeFunc_call (hC : TabOk C) {x : Operand} {ps : Array Tmp} {as bd : Code} {s : St} {g : FuncId} {fs caps : List AVal} {r : CR} {c : Code} {fn : Func} (hx : opd s.env x = .func g fs caps) (hb : bodyOf C g = some (c, fn))
    (hcall : CallOk C g (fs ++ .yield s.H.length :: caps) (s.H ++ [.loop s.fn s.env ps.toList as bd 0 none]) none r)
    {N : Nat} {b : Frame} {a : Act} {cs : List Frame} {k : List Item} (hS : StRel B N Z s L w b a cs) (hok : okC a.tmps.size (.rangeFunc x ps as bd) = true) :
    ∃ blk D L' w' fr, Steps C.P (lone (b.atR a (.code (.rangeFunc x ps as bd) :: k)) cs w) (lone fr (b.atR { tmps := a.tmps, defers := D } (.inRangeFunc blk :: k) :: cs) w') ∧ fr.defers = [] ∧ fr.kind = .normal ∧ Stands C.P Z L' w' fr r ∧ Wrote B Z s.H L w r.heap L' w' ∧ L.length ≤ L'.length ∧
      StRel B N Z { s with H := r.heap } L' w' b { tmps := a.tmps, defers := D } cs ∧ (∀ o, r.heap[s.H.length]? = some o → locOf L' s.H.length = some (blk, 0)) := by
  simp only [okC, Bool.and_eq_true] at hok
  obtain ⟨blk, mark, w1, h1, h2, h3⟩ := enter_sound (P := C.P) hS hok.1.2 hok.2 hok.1.1
  obtain ⟨as', cs', f1, f2, f3, f4, f5⟩ := (srel_of (hx ▸ opd_rel hS.heap hS.env x) (by simp)).func_inv
  obtain ⟨hf1, hf2⟩ := bodyOf_inv hb
  have hlen := hS.heap.len
  have hres : (resolve a.eval (rangeCall x blk) 0).run C.P w1 = .ok { target := .fn (.func g) cs', args := as' ++ #[.func (.yield blk) #[] #[]] } w1 := by
    have hm : Array.map a.eval #[Operand.const (.func (.yield blk) #[] #[])] = #[.func (.yield blk) #[] #[]] := by simp [Act.eval]
    simp only [resolve, f1, Deferred.ofValue, Sem.run_pure, hm]
  have hloc : locOf (L ++ [some (blk, 0)]) s.H.length = some (blk, 0) := by rw [locOf_append, if_pos hlen.symm]
  have hyv : VRel Z (s.H ++ [.loop s.fn s.env ps.toList as bd 0 none]) (L ++ [some (blk, 0)]) w1 (.yield s.H.length) (.func (.yield blk) #[] #[]) :=
    .yield _ _ s.fn s.env ps.toList as bd 0 none (by simp) hloc
  have henter := stepR_rangeFunc (P := C.P) (b := b) (a := a) (k := k) (cs := cs) (w := w) h1 hres (run_callFunc hC hf1 hf2 _)
  obtain ⟨hal, har⟩ := app_rel (R := VRel Z (s.H ++ [.loop s.fn s.env ps.toList as bd 0 none]) (L ++ [some (blk, 0)]) w1) (vs := [.yield s.H.length]) (vs' := #[.func (.yield blk) #[] #[]]) f2 rfl f3 (fun j y u p q => (f4 j y u p q).mono h2.ext)
    (fun j y u p q => by
      cases j with
      | zero =>
        have p' : AVal.yield s.H.length = y := Option.some.inj p
        have q' : Value.func (.yield blk) #[] #[] = u := Option.some.inj q
        exact p' ▸ q' ▸ hyv
      | succ j => cases p) (fun j y u p q => (f5 j y u p q).mono h2.ext)
  rw [List.append_assoc] at hal har
  simp only [List.singleton_append] at hal har
  obtain ⟨L', w', fr, g1, g2, g3, g4, g5, g6, g7⟩ := hcall B Z (L ++ [some (blk, 0)]) w1 (as' ++ #[Value.func (Fn.yield blk) #[] #[]] ++ cs') .normal (b.atR { a with defers := mark ++ a.defers } (.inRangeFunc blk :: k) :: cs) h2.rel hal har (.inl ⟨rfl, rfl⟩)
  have g1' : Steps C.P (lone (Frame.enter C.P g (as' ++ #[.func (.yield blk) #[] #[]] ++ cs') .normal) (b.atR { a with defers := mark ++ a.defers } (.inRangeFunc blk :: k) :: cs) w1) (lone fr (b.atR { a with defers := mark ++ a.defers } (.inRangeFunc blk :: k) :: cs) w') := by simpa [csAft, live] using g1
  have hW := h2.trans g5 (by simp)
  refine ⟨blk, mark ++ a.defers, L', w', fr, .head henter g1', g2, g3, g7, hW, by simp at g6; omega, ?_, fun o ho => ?_⟩
  · have hS' := hS.turn hW
    exact ⟨hS'.heap, hS'.env, hS'.fn, h3.mono g5.ext, hS'.base, hS'.pan, hS'.rnd⟩
  · obtain ⟨o', p1, p2⟩ := g5.ext.obj s.H.length (.loop s.fn s.env ps.toList as bd 0 none) (by simp)
    rw [ho] at p1
    cases p1
    exact g5.ext.loc _ blk 0 (.loop s.fn s.env ps.toList as bd 0 none) o hloc (by simp) ho (by cases o <;> trivial)

/-- It has returned: what a round has left pending comes next. -/
theorem rangeFunc_back (hC : TabOk C) {x : Operand} {ps : Array Tmp} {as bd : Code} {s : St} {g : FuncId} {fs caps : List AVal} {v : AVal} {H2 : Heap} {q : Bool} {c : Code} {fn : Func} (hx : opd s.env x = .func g fs caps) (hb : bodyOf C g = some (c, fn))
    (hcall : CallOk C g (fs ++ .yield s.H.length :: caps) (s.H ++ [.loop s.fn s.env ps.toList as bd 0 none]) none (.ret v H2 q)) {fn2 : FuncId} {env2 : Env} {ps2 : List Tmp} {as2 bd2 : Code} {st : Nat} {pend : Option Code}
    (ho : H2[s.H.length]? = some (.loop fn2 env2 ps2 as2 bd2 st pend)) (hst : st ≠ 1) {N : Nat} {b : Frame} {a : Act} {cs : List Frame} {k : List Item} (hS : StRel B N Z s L w b a cs) (hok : okC a.tmps.size (.rangeFunc x ps as bd) = true) :
    ∃ D L' w', Steps C.P (lone (b.atR a (.code (.rangeFunc x ps as bd) :: k)) cs w) (lone (b.atR { tmps := a.tmps, defers := D } ((pend.map Item.code).toList ++ k)) cs w') ∧
      Wrote B Z s.H L w (H2.set s.H.length (.loop fn2 env2 ps2 as2 bd2 3 pend)) L' w' ∧ L.length ≤ L'.length ∧ StRel B N Z { s with H := H2.set s.H.length (.loop fn2 env2 ps2 as2 bd2 3 pend) } L' w' b { tmps := a.tmps, defers := D } cs := by
  obtain ⟨blk, D, L', w', fr, h1, h2, h3, h4, h5, h6, h7, h8⟩ := rangeFunc_call hC hx hb hcall (k := k) hS hok
  obtain ⟨k1, fn3, u, k2, k3, k4⟩ := h4
  have hl := h8 _ ho
  have hR : HRel B Z H2 L' w' := h5.rel
  obtain ⟨l, hlb, m1, m2, m3, m4, m5, m6, m7⟩ := loop_parts hR ho hl
  have hne : l.state ≠ .busy := by intro hbz; rw [hbz] at m5; exact hst m5.symm
  have hW := loop_turned (st' := 3) (pd' := pend) hR ho hl hlb (s' := .exhausted) rfl
  have hend := run_endLoop (P := C.P) hlb hne
  rw [show ({ l with state := .exhausted } : Loop) = { l with state := .exhausted, pending := pend } by rw [← m6], m6] at hend
  have hback := step_leave_returned (P := C.P) (fr := fr) (c := b.atR { tmps := a.tmps, defers := D } (.inRangeFunc blk :: k)) (cs := cs) (w := w') (v := u) ⟨k1, h2, h3, fn3, k2, k3⟩
  rw [finish_atR_inRangeFunc] at hback
  refine ⟨D, L', _, h1.trans (.head hback (.one (stepR_endRangeFunc hend))), h5.trans hW h6, h6, ?_⟩
  exact h7.turn hW

theorem ok_range_normal (hC : TabOk C) {x : Operand} {ps : Array Tmp} {as bd : Code} {s : St} {g : FuncId} {fs caps : List AVal} {v : AVal} {H2 : Heap} {q : Bool} {c : Code} {fn : Func} (hx : opd s.env x = .func g fs caps) (hb : bodyOf C g = some (c, fn))
    (hcall : CallOk C g (fs ++ .yield s.H.length :: caps) (s.H ++ [.loop s.fn s.env ps.toList as bd 0 none]) none (.ret v H2 q)) {fn2 : FuncId} {env2 : Env} {ps2 : List Tmp} {as2 bd2 : Code} {st : Nat}
    (ho : H2[s.H.length]? = some (.loop fn2 env2 ps2 as2 bd2 st none)) (hst : st ≠ 1) : CodeOk C (.rangeFunc x ps as bd) s .normal { s with H := H2.set s.H.length (.loop fn2 env2 ps2 as2 bd2 3 none) } := by
  intro B N Z L w b a cs k hS hok
  obtain ⟨D, L', w', h1, h2, h3, h4⟩ := rangeFunc_back hC hx hb hcall ho hst (k := k) hS hok
  have hcs : csAft s.pan s.recd cs = cs := csAft_same hS.pan
  refine ⟨L', w', { tmps := a.tmps, defers := D }, ?_, h2, ?_, rfl, rfl, h3⟩
  · show Steps C.P _ (lone _ (csAft s.pan s.recd cs) _)
    rw [hcs]
    exact h1
  · show StRel B N Z _ _ _ b _ (csAft s.pan s.recd cs)
    rw [hcs]
    exact h4

theorem ok_range_jump (hC : TabOk C) {x : Operand} {ps : Array Tmp} {as bd : Code} {s s' : St} {e : Ex} {g : FuncId} {fs caps : List AVal} {v : AVal} {H2 : Heap} {q : Bool} {c j : Code} {fn : Func} (hx : opd s.env x = .func g fs caps) (hb : bodyOf C g = some (c, fn))
    (hcall : CallOk C g (fs ++ .yield s.H.length :: caps) (s.H ++ [.loop s.fn s.env ps.toList as bd 0 none]) none (.ret v H2 q)) {fn2 : FuncId} {env2 : Env} {ps2 : List Tmp} {as2 bd2 : Code} {st : Nat}
    (ho : H2[s.H.length]? = some (.loop fn2 env2 ps2 as2 bd2 st (some j))) (hst : st ≠ 1) (hj : ∀ n, okC n j = true) (h : CodeOk C j { s with H := H2.set s.H.length (.loop fn2 env2 ps2 as2 bd2 3 (some j)) } e s') : CodeOk C (.rangeFunc x ps as bd) s e s' := by
  intro B N Z L w b a cs k hS hok
  obtain ⟨D, L', w', h1, h2, h3, h4⟩ := rangeFunc_back hC hx hb hcall ho hst (k := k) hS hok
  obtain ⟨L2, w2, a2, g1, g2, g3, g4, g5, g6⟩ := h B N Z L' w' b _ cs k h4 (hj _)
  exact ⟨L2, w2, a2, .of_steps h1 g1, h2.trans g2 h3, g3, g4, g5, Nat.le_trans h3 g6⟩

theorem ok_range_pan (hC : TabOk C) {x : Operand} {ps : Array Tmp} {as bd : Code} {s : St} {g : FuncId} {fs caps : List AVal} {v : AVal} {H2 : Heap} {q : Bool} {c : Code} {fn : Func} (hx : opd s.env x = .func g fs caps) (hb : bodyOf C g = some (c, fn))
    (hcall : CallOk C g (fs ++ .yield s.H.length :: caps) (s.H ++ [.loop s.fn s.env ps.toList as bd 0 none]) none (.pan v H2 q)) : CodeOk C (.rangeFunc x ps as bd) s (.panic v) { s with H := H2 } := by
  intro B N Z L w b a cs k hS hok
  obtain ⟨blk, D, L', w', fr, h1, h2, h3, h4, h5, h6, h7, _⟩ := rangeFunc_call hC hx hb hcall (k := k) hS hok
  obtain ⟨⟨u, k1, k2⟩, fn3, k3⟩ := h4
  have hcs : csAft s.pan s.recd cs = cs := csAft_same hS.pan
  have hback := step_leave_panicked (P := C.P) (fr := fr) (c := b.atR { tmps := a.tmps, defers := D } (.inRangeFunc blk :: k)) (cs := cs) (w := w') (chain := [{ v := u, recovered := false }]) ⟨k1, h2, fn3, k3⟩
  rw [Frame.raise_atR] at hback
  refine ⟨L', w', { tmps := a.tmps, defers := D }, ⟨.inRangeFunc blk :: k, u, k2, ?_⟩, h5, ?_, rfl, rfl, h6⟩
  · show Steps C.P _ (lone _ (csAft s.pan s.recd cs) _)
    rw [hcs]
    exact h1.trans (.one hback)
  · show StRel B N Z _ _ _ b _ (csAft s.pan s.recd cs)
    rw [hcs]
    exact h7
end
end Go.Ev
/- What a callee sees of values that are kept from then on. Each theorem bears its own conditions. -/
set_option linter.unusedVariables false
set_option linter.unusedSectionVars false
set_option linter.unusedSimpArgs false
namespace Go.Ev
open Go.RowKit
variable [Globs]
section
variable {Z : Nat → Nat → Prop} {H H' : Heap} {L L' : Locs} {w w' : World} {B : Nat} {C : Ctx}

theorem mapM_fr {α β : Type} {f : α → Option β} : ∀ {l : List α} {r : List β}, l.mapM f = some r → r.length = l.length ∧ ∀ (j : Nat) a, l[j]? = some a → ∃ b, r[j]? = some b ∧ f a = some b
  | [], r, h => by simp at h; subst h; simp
  | a :: l, r, h => by
    simp only [List.mapM_cons, Option.pure_def, Option.bind_eq_bind, Option.bind_eq_some_iff, Option.some.injEq] at h
    obtain ⟨b, hb, bs, hbs, rfl⟩ := h
    obtain ⟨h1, h2⟩ := mapM_fr hbs
    refine ⟨by simp [h1], fun j x hx => ?_⟩
    cases j with
    | zero => simp at hx; subst hx; exact ⟨b, rfl, hb⟩
    | succ j => simp at hx; obtain ⟨b', h3, h4⟩ := h2 j x hx; exact ⟨b', by simpa using h3, h4⟩

theorem mem_flat {ys : List (AVal × List Nat)} {j : Nat} {y : AVal × List Nat} (h : ys[j]? = some y) : ∀ id ∈ y.2, id ∈ (ys.map (·.2)).flatten := fun id hid => by
  rw [List.mem_flatten]
  exact ⟨y.2, List.mem_map.2 ⟨y, List.mem_of_getElem? h, rfl⟩, hid⟩

/-- The cells of what is led to are kept. -/
def Reach (S : Nat → Nat → Prop) (H : Heap) (L : Locs) (ids : List Nat) : Prop :=
  ∀ id ∈ ids, ∀ b base off, locOf L id = some (b, base) → (match H[id]? with
    | some (.cells _ _ _) => True
    | some (.arr _ _ _ sz xs) => off < base + xs.length * sz
    | _ => False) → S b off

theorem Reach.sub {S : Nat → Nat → Prop} {ids ids' : List Nat} (h : Reach S H L ids) (hs : ∀ id ∈ ids', id ∈ ids) : Reach S H L ids' := fun id hid => h id (hs id hid)

theorem freeze_hard {n : Nat} {v : AVal} (h : hard v = true) : freeze (n + 1) H v = some (v, []) := by
  unfold freeze
  rw [if_pos h]

theorem cellHard_data {S : Nat → Nat → Prop} (hS : ∀ b off, Stable Z H L b off → S b off) {v : AVal} {u : Value} (h : cellHard v = true) (hv : VRel Z H L w v u) : DRel w S v u := by
  cases hv with
  | data _ _ hd => exact hd.mono fun b off v hs hc => ⟨hc, hS b off hs⟩
  | func f as cs as' cs' ha hc _ _ =>
    cases as with
    | cons => simp [cellHard] at h
    | nil =>
      cases cs with
      | cons => simp [cellHard] at h
      | nil => exact .func f [] [] as' cs' ha hc (by simp) (by simp)
  | _ => simp [cellHard] at h

theorem hard_data {S : Nat → Nat → Prop} (hS : ∀ b off, Stable Z H L b off → S b off) {v : AVal} {u : Value} (h : hard v = true) (hv : VRel Z H L w v u) : DRel w S v u := by
  by_cases ha : ∃ cs, v = .agg cs
  · obtain ⟨cs, rfl⟩ := ha
    obtain ⟨cs', rfl, h1, h2, h3⟩ := hv.agg_inv
    simp only [hard, List.all_eq_true] at h
    exact .agg cs cs' h1 h2 fun j y u hy hu => cellHard_data hS (h y (List.mem_of_getElem? hy)) (h3 j y u hy hu)
  · exact cellHard_data hS (by cases v <;> first | exact h | exact absurd ⟨_, rfl⟩ ha) hv

/-- What is shown of a value that is kept. -/
def FrOk (Z : Nat → Nat → Prop) (H : Heap) (L : Locs) (w : World) (S : Nat → Nat → Prop) (x x' : AVal) : Prop :=
  x'.cells.length = x.cells.length ∧ (∀ u, VRel Z H L w x u → DRel w S x' u) ∧ ∀ (j : Nat) y y', x.cells[j]? = some y → x'.cells[j]? = some y' → ∀ u, VRel Z H L w y u → DRel w S y' u

theorem frok_one {S : Nat → Nat → Prop} {x x' : AVal} (h : x.cells = [x]) (h' : x'.cells = [x']) (hd : ∀ u, VRel Z H L w x u → DRel w S x' u) : FrOk Z H L w S x x' := by
  refine ⟨by rw [h, h']; rfl, hd, fun j y y' hy hy' u hu => ?_⟩
  rw [h] at hy
  rw [h'] at hy'
  cases j with
  | zero => simp at hy hy'; subst hy; subst hy'; exact hd u hu
  | succ j => simp at hy

theorem frok_elem (hR : HRel B Z H L w) {S : Nat → Nat → Prop} {b o sz : Nat} {x x' : AVal} (hl : LieAt Z H L w x.cells b o) (hS : ∀ j, j < x.cells.length → S b (o + j)) (hf : FrOk Z H L w S x x') (j : Nat) (y' : AVal) (hy' : x'.cells[j]? = some y') :
    w.cell? ⟨b, o + j, none⟩ = some ((w.cell? ⟨b, o + j, none⟩).getD undef) ∧ S b (o + j) ∧ ((w.cell? ⟨b, o + j, none⟩).getD undef).oneCell' = true ∧ DRel w S y' ((w.cell? ⟨b, o + j, none⟩).getD undef) := by
  obtain ⟨h1, _, h3⟩ := hf
  have hj : j < x.cells.length := by have := (List.getElem?_eq_some_iff.1 hy').1; omega
  obtain ⟨u, h4, h5, h6⟩ := hl j _ (List.getElem?_eq_getElem hj)
  rw [h4]
  exact ⟨rfl, hS j hj, h5, h3 j _ y' (List.getElem?_eq_getElem hj) hy' u h6⟩

theorem freeze_ok (hR : HRel B Z H L w) {S : Nat → Nat → Prop} (hS : ∀ b off, Stable Z H L b off → S b off) : ∀ (n : Nat) (x x' : AVal) (ids : List Nat), freeze n H x = some (x', ids) → Reach S H L ids → FrOk Z H L w S x x'
  | 0, _, _, _, h, _ => by simp [freeze] at h
  | n + 1, x, x', ids, h, hr => by
    by_cases hh : hard x = true
    · rw [freeze_hard hh] at h
      cases h
      refine ⟨rfl, fun u hu => hard_data hS hh hu, fun j y y' hy hy' u hu => ?_⟩
      rw [hy] at hy'
      cases hy'
      by_cases ha : ∃ cs, x = .agg cs
      · obtain ⟨cs, rfl⟩ := ha
        simp only [hard, List.all_eq_true] at hh
        exact cellHard_data hS (hh y (List.mem_of_getElem? hy)) hu
      · have hx : x.cells = [x] := by cases x <;> first | rfl | exact absurd ⟨_, rfl⟩ ha
        rw [hx] at hy
        cases j with
        | zero => simp at hy; subst hy; exact hard_data hS hh hu
        | succ j => simp at hy
    · unfold freeze at h
      rw [if_neg hh] at h
      cases x with
      | arr id gen off len =>
        dsimp only at h
        obtain ⟨xs, hxs, h2⟩ := bindo h
        simp only [Option.map_eq_some_iff, Prod.mk.injEq] at h2
        obtain ⟨ys, hys, rfl, rfl⟩ := h2
        obtain ⟨hl, hg⟩ := mapM_fr hys
        refine frok_one rfl rfl fun u hu => ?_
        cases hu with
        | data _ _ hd => cases hd
        | arrOld _ _ _ _ a c hs hc e g ro sz xo ho hgn =>
          simp only [elems, ho] at hxs
          split at hxs
          · rename_i hcnd
            simp only [Bool.and_eq_true, beq_iff_eq] at hcnd
            omega
          · cases hxs
        | arr _ _ _ _ b base cap e ro sz xo cs' e' fz ho hlo hx hc hb hs =>
          clear hx
          have hx : off + len ≤ xo.length := by
            simp only [elems, ho, beq_self_eq_true, Bool.true_and] at hxs
            split at hxs
            · rename_i hcnd; simpa using hcnd
            · cases hxs
          simp only [elems, ho, beq_self_eq_true, Bool.true_and, decide_eq_true hx, if_true, Option.some.injEq] at hxs
          subst hxs
          have hlen : ys.length = len := by rw [hl]; simp; omega
          have hsz : ∀ (i : Nat) (x : AVal), xo[i]? = some x → x.cells.length = sz := by
            obtain ⟨_, c2, f2, _, har, _⟩ := arr_parts hR ho hlo
            exact fun i x hi => (har.el i x hi).1
          have hel : ∀ (i : Nat) (z : AVal), (ys.map (·.1))[i]? = some z → ∃ y, xo[off + i]? = some y ∧ FrOk Z H L w S y z ∧ i < len := by
            intro i z hz
            simp only [List.getElem?_map, Option.map_eq_some_iff] at hz
            obtain ⟨q, hq, rfl⟩ := hz
            have hi : i < ys.length := (List.getElem?_eq_some_iff.1 hq).1
            have hi2 : ((xo.drop off).take len)[i]? = some (xo[off + i]'(by omega)) := by
              rw [List.getElem?_take, if_pos (by omega), List.getElem?_drop, List.getElem?_eq_getElem]
            obtain ⟨q', hq', hf⟩ := hg i _ hi2
            rw [hq] at hq'
            cases hq'
            exact ⟨_, List.getElem?_eq_getElem (by omega), freeze_ok hR hS n _ _ _ hf (hr.sub fun id hid => .tail _ (mem_flat hq id hid)), by omega⟩
          have key : ∀ (i : Nat) (z : AVal), (ys.map (·.1))[i]? = some z → ∀ (j : Nat) (y : AVal), z.cells[j]? = some y →
              w.cell? ⟨b, base + off * sz + (i * sz + j), none⟩ = some ((w.cell? ⟨b, base + off * sz + (i * sz + j), none⟩).getD undef) ∧ S b (base + off * sz + (i * sz + j)) ∧
                ((w.cell? ⟨b, base + off * sz + (i * sz + j), none⟩).getD undef).oneCell' = true ∧ DRel w S y ((w.cell? ⟨b, base + off * sz + (i * sz + j), none⟩).getD undef) := by
            intro i z hz j y hy
            obtain ⟨y0, hy0, hf, hi⟩ := hel i z hz
            have hlie := lie_elem hR ho hlo hy0
            have := frok_elem (sz := sz) hR hlie (fun j hj => hr id (by simp) b base _ hlo (by
              rw [ho]
              have h1 := hsz _ _ hy0
              have h2 := mul_lt_of (show off + i < xo.length by omega) (show j < sz by omega)
              show base + (off + i) * sz + j < base + xo.length * sz
              omega)) hf j y hy
            rw [show base + off * sz + (i * sz + j) = base + (off + i) * sz + j by rw [Nat.add_mul]; omega]
            exact this
          refine .lst _ ⟨b, base + off * sz, none⟩ len cap sz (fun i j => (w.cell? ⟨b, base + off * sz + (i * sz + j), none⟩).getD undef) rfl (by simp [hlen]) hc (fun i z hz => ?_) (fun i z hz j y hy => ?_) fun i z hz j y hy => (key i z hz j y hy).2.2.2
          · obtain ⟨y0, hy0, hf, hi⟩ := hel i z hz
            rw [hf.1]
            exact hsz _ _ hy0
          · exact ⟨(key i z hz j y hy).1, (key i z hz j y hy).2.1, (key i z hz j y hy).2.2.1⟩
      | ptr id off =>
        dsimp only at h
        split at h
        · rename_i t ro cs ho
          simp only [Option.map_eq_some_iff, Prod.mk.injEq] at h
          obtain ⟨ys, hys, rfl, rfl⟩ := h
          obtain ⟨hl, hg⟩ := mapM_fr hys
          refine frok_one rfl rfl fun u hu => ?_
          obtain ⟨b, t2, ro2, cs2, rfl, ho2, hlo⟩ := hu.ptr_inv
          have hlie := lie_cells hR ho hlo
          have key : ∀ (j : Nat) (y : AVal), (ys.map (·.1))[j]? = some y → ∃ u, w.cell? ⟨b, off + j, none⟩ = some u ∧ S b (off + j) ∧ u.oneCell' = true ∧ DRel w S y u := by
            intro j y hy
            simp only [List.getElem?_map, Option.map_eq_some_iff] at hy
            obtain ⟨q, hq, rfl⟩ := hy
            have hj : j < (cs.drop off).length := by rw [← hl]; exact (List.getElem?_eq_some_iff.1 hq).1
            obtain ⟨q', hq', hf⟩ := hg j _ (List.getElem?_eq_getElem hj)
            rw [hq] at hq'
            cases hq'
            have hc : cs[off + j]? = some (cs.drop off)[j] := by rw [← List.getElem?_drop]; exact List.getElem?_eq_getElem hj
            obtain ⟨u, h1, h2, h3⟩ := hlie (off + j) _ hc
            rw [Nat.zero_add] at h1
            exact ⟨u, h1, hr id (by simp) b 0 _ hlo (by rw [ho]; trivial), h2, (freeze_ok hR hS n _ _ _ hf (hr.sub fun id hid => .tail _ (mem_flat hq id hid))).2.1 u h3⟩
          refine .fptr _ ⟨b, off, none⟩ (fun j => (w.cell? ⟨b, off + j, none⟩).getD undef) rfl (fun j y hy => ?_) fun j y hy => ?_
          · obtain ⟨u, h1, h2, h3, h4⟩ := key j y hy
            simp only [h1, Option.getD_some]
            exact ⟨trivial, h2, h3⟩
          · obtain ⟨u, h1, h2, h3, h4⟩ := key j y hy
            simp only [h1, Option.getD_some]
            exact h4
        · cases h
      | aptr id gen i off =>
        dsimp only at h
        split at h
        · rename_i e g ro sz xs ho
          split at h
          · rename_i hgen
            split at h
            · rename_i z hz
              simp only [Option.map_eq_some_iff, Prod.mk.injEq] at h
              obtain ⟨ys, hys, rfl, rfl⟩ := h
              obtain ⟨hl, hg⟩ := mapM_fr hys
              have hgen' : g = gen := by simpa using hgen
              subst hgen'
              refine frok_one rfl rfl fun u hu => ?_
              cases hu with
              | data _ _ hd => cases hd
              | aptrOld _ _ _ _ a hs e2 g2 ro2 sz2 xs2 ho2 hg2 => rw [ho] at ho2; cases ho2; omega
              | aptr _ _ _ _ b base e2 ro2 sz2 xs2 ho2 hlo =>
                rw [ho] at ho2
                cases ho2
                have hlie := lie_elem hR ho hlo hz
                obtain ⟨_, c2, f2, _, har, _⟩ := arr_parts hR ho hlo
                have hsz := (har.el i z hz).1
                have hil := (List.getElem?_eq_some_iff.1 hz).1
                have key : ∀ (j : Nat) (y : AVal), (ys.map (·.1))[j]? = some y → ∃ u, w.cell? ⟨b, base + (i * sz + off) + j, none⟩ = some u ∧ S b (base + (i * sz + off) + j) ∧ u.oneCell' = true ∧ DRel w S y u := by
                  intro j y hy
                  simp only [List.getElem?_map, Option.map_eq_some_iff] at hy
                  obtain ⟨q, hq, rfl⟩ := hy
                  have hj : j < (z.cells.drop off).length := by rw [← hl]; exact (List.getElem?_eq_some_iff.1 hq).1
                  obtain ⟨q', hq', hf⟩ := hg j _ (List.getElem?_eq_getElem hj)
                  rw [hq] at hq'
                  cases hq'
                  have hc : z.cells[off + j]? = some (z.cells.drop off)[j] := by rw [← List.getElem?_drop]; exact List.getElem?_eq_getElem hj
                  obtain ⟨u, h1, h2, h3⟩ := hlie (off + j) _ hc
                  have hj2 : off + j < sz := by have := (List.getElem?_eq_some_iff.1 hc).1; omega
                  have h5 := mul_lt_of hil hj2
                  rw [show base + i * sz + (off + j) = base + (i * sz + off) + j by omega] at h1
                  exact ⟨u, h1, hr id (by simp) b base _ hlo (by rw [ho]; show base + (i * sz + off) + j < base + xs.length * sz; omega), h2, (freeze_ok hR hS n _ _ _ hf (hr.sub fun id hid => .tail _ (mem_flat hq id hid))).2.1 u h3⟩
                refine .fptr _ ⟨b, base + (i * sz + off), none⟩ (fun j => (w.cell? ⟨b, base + (i * sz + off) + j, none⟩).getD undef) rfl (fun j y hy => ?_) fun j y hy => ?_
                · obtain ⟨u, h1, h2, h3, h4⟩ := key j y hy
                  simp only [h1, Option.getD_some]
                  exact ⟨trivial, h2, h3⟩
                · obtain ⟨u, h1, h2, h3, h4⟩ := key j y hy
                  simp only [h1, Option.getD_some]
                  exact h4
            · cases h
          · cases h
        · cases h
      | agg cs =>
        dsimp only at h
        simp only [Option.map_eq_some_iff, Prod.mk.injEq] at h
        obtain ⟨ys, hys, rfl, rfl⟩ := h
        obtain ⟨hl, hg⟩ := mapM_fr hys
        have key : ∀ (j : Nat) y y', cs[j]? = some y → (ys.map (·.1))[j]? = some y' → ∀ u, VRel Z H L w y u → DRel w S y' u := by
          intro j y y' hy hy' u hu
          obtain ⟨q, hq, hf⟩ := hg j y hy
          simp only [List.getElem?_map, hq, Option.map_some, Option.some.injEq] at hy'
          subst hy'
          exact (freeze_ok hR hS n _ _ _ hf (hr.sub fun id hid => mem_flat hq id hid)).2.1 u hu
        refine ⟨by simp [AVal.cells, hl], fun u hu => ?_, key⟩
        obtain ⟨cs', rfl, h1, h2, h3⟩ := hu.agg_inv
        refine .agg _ cs' (by simp [hl, h1]) h2 fun j y' u hy' hu => ?_
        have hj : j < cs.length := by have := (List.getElem?_eq_some_iff.1 hy').1; simp [hl] at this; exact this
        exact key j _ y' (List.getElem?_eq_getElem hj) hy' u (h3 j _ u (List.getElem?_eq_getElem hj) hu)
      | tup cs =>
        dsimp only at h
        simp only [Option.map_eq_some_iff, Prod.mk.injEq] at h
        obtain ⟨ys, hys, rfl, rfl⟩ := h
        obtain ⟨hl, hg⟩ := mapM_fr hys
        refine frok_one rfl rfl fun u hu => ?_
        obtain ⟨cs', rfl, h1, h3⟩ := hu.tup_inv
        refine .tup _ cs' (by simp [hl, h1]) fun j y' u hy' hu => ?_
        have hj : j < cs.length := by have := (List.getElem?_eq_some_iff.1 hy').1; simp [hl] at this; exact this
        obtain ⟨q, hq, hf⟩ := hg j _ (List.getElem?_eq_getElem hj)
        simp only [List.getElem?_map, hq, Option.map_some, Option.some.injEq] at hy'
        subst hy'
        exact (freeze_ok hR hS n _ _ _ hf (hr.sub fun id hid => mem_flat hq id hid)).2.1 u (h3 j _ u (List.getElem?_eq_getElem hj) hu)
      | func f as cs =>
        dsimp only at h
        obtain ⟨xs, hxs, h2⟩ := bindo h
        simp only [Option.map_eq_some_iff, Prod.mk.injEq] at h2
        obtain ⟨ys, hys, rfl, rfl⟩ := h2
        obtain ⟨hl, hg⟩ := mapM_fr hys
        obtain ⟨hl', hg'⟩ := mapM_fr hxs
        refine frok_one rfl rfl fun u hu => ?_
        obtain ⟨as', cs', rfl, h1, h3, h4, h5⟩ := hu.func_inv
        refine .func f _ _ as' cs' (by simp [hl', h1]) (by simp [hl, h3]) (fun j y' u hy' hu => ?_) fun j y' u hy' hu => ?_
        · have hj : j < as.length := by have := (List.getElem?_eq_some_iff.1 hy').1; simp [hl'] at this; exact this
          obtain ⟨q, hq, hf⟩ := hg' j _ (List.getElem?_eq_getElem hj)
          simp only [List.getElem?_map, hq, Option.map_some, Option.some.injEq] at hy'
          subst hy'
          exact (freeze_ok hR hS n _ _ _ hf (hr.sub fun id hid => List.mem_append.2 (.inl (mem_flat hq id hid)))).2.1 u (h4 j _ u (List.getElem?_eq_getElem hj) hu)
        · have hj : j < cs.length := by have := (List.getElem?_eq_some_iff.1 hy').1; simp [hl] at this; exact this
          obtain ⟨q, hq, hf⟩ := hg j _ (List.getElem?_eq_getElem hj)
          simp only [List.getElem?_map, hq, Option.map_some, Option.some.injEq] at hy'
          subst hy'
          exact (freeze_ok hR hS n _ _ _ hf (hr.sub fun id hid => List.mem_append.2 (.inr (mem_flat hq id hid)))).2.1 u (h5 j _ u (List.getElem?_eq_getElem hj) hu)
      | iface t y =>
        dsimp only at h
        simp only [Option.map_eq_some_iff, Prod.mk.injEq] at h
        obtain ⟨⟨y', ids'⟩, hy, rfl, rfl⟩ := h
        refine frok_one rfl rfl fun u hu => ?_
        obtain ⟨v, rfl, h1⟩ := hu.iface_inv
        exact .iface t y' v ((freeze_ok hR hS n _ _ _ hy hr).2.1 v h1)
      | _ => cases h

theorem cellFlat_any {S S' : Nat → Nat → Prop} {v : AVal} {u : Value} (h : DRel w S v u) (hf : cellFlat v = true) : DRel w' S' v u := by
  cases h with
  | int k n => exact .int k n
  | bool b => exact .bool b
  | str l s h => exact .str l s h
  | nils => exact .nils
  | lst xs a len cap sz c hs hl hc hz hw hr =>
    cases xs with
    | nil => exact .lst [] a len cap sz c hs hl hc (by simp) (by simp) (by simp)
    | cons => simp [cellFlat] at hf
  | nilp => exact .nilp
  | nilm => exact .nilm
  | nilf => exact .nilf
  | nili => exact .nili
  | func f as cs as' cs' ha hc _ _ =>
    cases as with
    | cons => simp [cellFlat] at hf
    | nil =>
      cases cs with
      | cons => simp [cellFlat] at hf
      | nil => exact .func f [] [] as' cs' ha hc (by simp) (by simp)
  | _ => simp [cellFlat] at hf
theorem flatV_any {S S' : Nat → Nat → Prop} {v : AVal} {u : Value} (h : DRel w S v u) (hf : flatV v = true) : DRel w' S' v u := by
  by_cases ha : ∃ cs, v = .agg cs
  · obtain ⟨cs, rfl⟩ := ha
    simp only [flatV, List.all_eq_true] at hf
    cases h with
    | agg _ cs' hc h1 hr => exact .agg cs cs' hc h1 fun j y u hy hu => cellFlat_any (hr j y u hy hu) (hf y (List.mem_of_getElem? hy))
  · exact cellFlat_any h (by cases v <;> first | exact hf | exact absurd ⟨_, rfl⟩ ha)
theorem flat_any {S S' : Nat → Nat → Prop} {v : AVal} {u : Value} (h : DRel w S v u) (hf : flat v = true) : DRel w' S' v u := by
  by_cases ha : ∃ vs, v = .tup vs
  · obtain ⟨vs, rfl⟩ := ha
    simp only [flat, List.all_eq_true] at hf
    cases h with
    | tup _ cs' hc hr => exact .tup vs cs' hc fun j y u hy hu => flatV_any (hr j y u hy hu) (hf y (List.mem_of_getElem? hy))
  · by_cases hi : ∃ t x, v = .iface t x
    · obtain ⟨t, x, rfl⟩ := hi
      simp only [flat] at hf
      cases h with
      | iface _ _ u h => exact .iface t x u (flatV_any h hf)
    · exact flatV_any h (by cases v <;> first | exact hf | exact absurd ⟨_, rfl⟩ ha | exact absurd ⟨_, _, rfl⟩ hi)

/-- An object of which nothing is written any more. -/
theorem ro_turned (hR : HRel B Z H L w) {id : Nat} {o o' : AObj} (ho : H[id]? = some o) (hon : objOn o o') (hsg : sameGen o o') (hk : ∀ base off, keptAt (some o) base off → keptAt (some o') base off)
    (hr : ∀ b base, ORel Z H L w o b base → Ext B Z H L w (H.set id o') L w → ORel Z (H.set id o') L w o' b base) : Wrote B Z H L w (H.set id o') L w := by
  have hlt := (List.getElem?_eq_some_iff.1 ho).1
  have E : Ext B Z H L w (H.set id o') L w := by
    refine ⟨fun j oj hj => ?_, fun j bj basej oj oj' hlj hj hj' hg => hlj, fun i cs e fz h => ⟨cs, e, fz, h, rfl⟩, fun b off v hs hc => ⟨hc, hs.1, fun j base hl => ?_⟩, Below.refl _ _, fun b h _ => ⟨rfl, h⟩⟩
    · by_cases h : id = j
      · subst h
        rw [ho] at hj
        cases hj
        exact ⟨o', by simp [hlt], hon⟩
      · exact ⟨oj, by simpa [List.getElem?_set, h] using hj, objOn.refl oj⟩
    · have h0 := hs.2 j base hl
      rw [List.getElem?_set]
      split
      · rename_i h
        subst h
        rw [ho] at h0
        exact hk base off h0
      · exact h0
  refine ⟨E, ⟨by simp [hR.len], hR.inj, hR.lo, hR.zB, hR.bsz, hR.glob, fun j b base hl => ?_⟩, fun _ _ h => h⟩
  obtain ⟨oj, h1, h2⟩ := hR.obj j b base hl
  by_cases h : id = j
  · subst h
    rw [ho] at h1
    cases h1
    exact ⟨o', by simp [hlt], hr b base h2 E⟩
  · exact ⟨oj, by rw [List.getElem?_set, if_neg h]; exact h1, h2.mono E rfl⟩
end
end Go.Ev
/- Objects marked as no more written. Each theorem bears its own conditions. -/
set_option linter.unusedVariables false
set_option linter.unusedSectionVars false
set_option linter.unusedSimpArgs false
namespace Go.Ev
open Go.RowKit
variable [Globs]
section
variable {Z : Nat → Nat → Prop} {H H' : Heap} {L L' : Locs} {w w' : World} {B : Nat} {C : Ctx}

def markOne (H : Heap) (id : Nat) : Heap :=
  match H[id]? with
  | some (AObj.cells t _ cs) => H.set id (.cells t true cs)
  | some (AObj.arr e g _ sz xs) => H.set id (.arr e g true sz xs)
  | _ => H
theorem markRo_fold (ids : List Nat) (H : Heap) : markRo ids H = ids.foldl markOne H := rfl

theorem markOne_wrote (hR : HRel B Z H L w) (id : Nat) : Wrote B Z H L w (markOne H id) L w := by
  unfold markOne
  split
  · rename_i t ro cs ho
    refine ro_turned hR ho ⟨rfl, rfl, fun _ => rfl⟩ trivial (fun base off _ => trivial) fun b base h E => ?_
    obtain ⟨h0, cs', h1, h2, h3, h4⟩ := h
    exact ⟨h0, cs', h1, h2, h3, fun j y u hy hu => (h4 j y u hy hu).mono E⟩
  · rename_i e g ro sz xs ho
    refine ro_turned hR ho ⟨rfl, rfl, Nat.le_refl _, fun _ => rfl⟩ rfl (fun base off hk => ?_) fun b base h E => ?_
    · cases ro with
      | false => simp [keptAt] at hk
      | true => exact hk
    · obtain ⟨h0, cs', fz, h1, h2, h3, h4, h5, h6⟩ := h
      exact ⟨h0, cs', fz, h1, h2, h3, h4, fun i x hi j y u hy hu => (h5 i x hi j y u hy hu).mono E, fun hne => (h6 hne).imp (fun h => ⟨rfl, h.2⟩) (fun h => h)⟩
  · exact Wrote.refl hR

theorem markRo_wrote : ∀ (ids : List Nat) {H : Heap}, HRel B Z H L w → Wrote B Z H L w (markRo ids H) L w
  | [], H, hR => Wrote.refl hR
  | id :: ids, H, hR => by
    have h1 := markOne_wrote hR id
    exact h1.trans (markRo_wrote ids h1.rel) (Nat.le_refl _)

def ro1 : AObj → AObj
  | .cells t _ cs => .cells t true cs
  | .arr e g _ sz xs => .arr e g true sz xs
  | o => o
theorem ro1_ro1 (o : AObj) : ro1 (ro1 o) = ro1 o := by cases o <;> rfl
theorem markOne_get (H : Heap) (id j : Nat) : (markOne H id)[j]? = if j = id then (H[j]?).map ro1 else H[j]? := by
  unfold markOne
  by_cases hj : j = id
  · subst hj
    rw [if_pos rfl]
    split
    · rename_i t ro cs ho
      have hlt := (List.getElem?_eq_some_iff.1 ho).1
      rw [ho]
      simp [hlt, ro1]
    · rename_i e g ro sz xs ho
      have hlt := (List.getElem?_eq_some_iff.1 ho).1
      rw [ho]
      simp [hlt, ro1]
    · rename_i h1 h2
      cases ho : H[j]? with
      | none => rfl
      | some o => cases o <;> first | rfl | exact absurd ho (h1 _ _ _) | exact absurd ho (h2 _ _ _ _ _)
  · rw [if_neg hj]
    have hne : id ≠ j := fun h => hj h.symm
    split
    · rw [List.getElem?_set, if_neg hne]
    · rw [List.getElem?_set, if_neg hne]
    · rfl
theorem markRo_get : ∀ (ids : List Nat) (H : Heap) (j : Nat), (markRo ids H)[j]? = if j ∈ ids then (H[j]?).map ro1 else H[j]?
  | [], H, j => by simp [markRo]
  | id :: ids, H, j => by
    have hf : markRo (id :: ids) H = markRo ids (markOne H id) := rfl
    rw [hf, markRo_get ids, markOne_get]
    by_cases h1 : j = id
    · subst h1
      by_cases h2 : j ∈ ids
      · simp only [h2, if_true, List.mem_cons_self]
        cases H[j]? with
        | none => rfl
        | some o => simp [ro1_ro1]
      · simp [h2]
    · by_cases h2 : j ∈ ids <;> simp [h1, h2]

/-- The cells of the marked objects are kept from then on. -/
theorem markRo_reach (hR : HRel B Z H L w) (ids : List Nat) : Reach (Stable Z (markRo ids H) L) H L ids := by
  intro id hid b base off hl hc
  refine ⟨hR.zB b off (hR.lo id b base hl), fun j basej hj => ?_⟩
  obtain rfl : id = j := hR.inj id j b base basej hl hj
  rw [hl] at hj
  cases hj
  rw [markRo_get, if_pos hid]
  cases ho : H[id]? with
  | none => rw [ho] at hc; exact hc.elim
  | some o =>
    rw [ho] at hc
    cases o <;> first | trivial | exact hc | exact hc.elim
end
end Go.Ev
/- A call that is made as if in an empty heap, on values that are kept. Each theorem bears its own conditions. -/
set_option linter.unusedVariables false
set_option linter.unusedSectionVars false
set_option linter.unusedSimpArgs false
namespace Go.Ev
open Go.RowKit
variable [Globs]
section
variable {Z : Nat → Nat → Prop} {H H' : Heap} {L L' : Locs} {w w' : World} {B : Nat} {C : Ctx}

theorem freezeL_ok (hR : HRel B Z H L w) {S : Nat → Nat → Prop} (hS : ∀ b off, Stable Z H L b off → S b off) {vs as : List AVal} {ids : List Nat} (h : freezeL H vs = some (as, ids)) (hr : Reach S H L ids) :
    as.length = vs.length ∧ ∀ (j : Nat) y, as[j]? = some y → ∃ x, vs[j]? = some x ∧ ∀ u, VRel Z H L w x u → DRel w S y u := by
  unfold freezeL at h
  simp only [Option.map_eq_some_iff, Prod.mk.injEq] at h
  obtain ⟨ys, hys, rfl, rfl⟩ := h
  obtain ⟨hl, hg⟩ := mapM_fr hys
  refine ⟨by simp [hl], fun j y hy => ?_⟩
  have hj : j < vs.length := by have := (List.getElem?_eq_some_iff.1 hy).1; simp [hl] at this; exact this
  obtain ⟨q, hq, hf⟩ := hg j _ (List.getElem?_eq_getElem hj)
  simp only [List.getElem?_map, hq, Option.map_some, Option.some.injEq] at hy
  subst hy
  exact ⟨_, List.getElem?_eq_getElem hj, (freeze_ok hR hS _ _ _ _ hf (hr.sub fun id hid => mem_flat hq id hid)).2.1⟩

/-- A heap without objects. -/
theorem HRel.empty (Z : Nat → Nat → Prop) (w : World) (hz : ∀ b off, w.heap.size ≤ b → Z b off) (hg : GlobOk w.heap.size Z w) : HRel w.heap.size Z [] [] w where
  len := rfl
  inj i j b x y h := by simp [locOf] at h
  lo i b x h := by simp [locOf] at h
  zB b off h := hz b off h
  bsz := Nat.le_refl _
  glob := hg
  obj id b base h := by simp [locOf] at h

theorem kept_ro1 {o : Option AObj} {base off : Nat} (h : keptAt o base off) : keptAt (o.map ro1) base off := by
  cases o with
  | none => exact h
  | some o =>
    cases o with
    | cells t ro cs => trivial
    | arr e g ro sz xs =>
      cases ro with
      | true => exact h
      | false => exact h.elim
    | _ => exact h

theorem stable_mark (ids : List Nat) {b off : Nat} (h : Stable Z H L b off) : Stable Z (markRo ids H) L b off := by
  refine ⟨h.1, fun id base hl => ?_⟩
  rw [markRo_get]
  split
  · exact kept_ro1 (h.2 id base hl)
  · exact h.2 id base hl

theorem stable_new (hR : HRel B Z H L w) {b off : Nat} (hb : w.heap.size ≤ b) : Stable Z H L b off :=
  ⟨hR.zB b off (Nat.le_trans hR.bsz hb), fun id base hl => absurd (hR.hi hl) (Nat.not_lt.2 hb)⟩

theorem markRo_length (ids : List Nat) (H : Heap) : (markRo ids H).length = H.length := by
  rw [markRo_fold]
  induction ids generalizing H with
  | nil => rfl
  | cons i r ih =>
    rw [List.foldl_cons, ih]
    unfold markOne
    split <;> simp

theorem Stands.conv {P : Program} {Z' : Nat → Nat → Prop} {L1 L2 : Locs} {fr : Frame} {v v' : AVal} {H1 H2 : Heap} {q q' : Bool} (hv : ∀ u, VRel Z' H1 L1 w v u → VRel Z H2 L2 w v' u) (h : Stands P Z' L1 w fr (.ret v H1 q)) : Stands P Z L2 w fr (.ret v' H2 q') := by
  obtain ⟨h1, fn, u, h2, h3, h4⟩ := h
  exact ⟨h1, fn, u, h2, h3, hv u h4⟩
theorem Stands.convp {P : Program} {Z' : Nat → Nat → Prop} {L1 L2 : Locs} {fr : Frame} {v v' : AVal} {H1 H2 : Heap} {q q' : Bool} (hv : ∀ u, VRel Z' H1 L1 w v u → VRel Z H2 L2 w v' u) (h : Stands P Z' L1 w fr (.pan v H1 q)) : Stands P Z L2 w fr (.pan v' H2 q') := by
  obtain ⟨⟨u, h2, h3⟩, h4⟩ := h
  exact ⟨⟨u, h2, hv u h3⟩, h4⟩

theorem KindRel.none_conv {Z' : Nat → Nat → Prop} {H1 : Heap} {L1 : Locs} {w1 : World} {kind : CallKind} {cs : List Frame} (h : KindRel Z H L w none kind cs) : KindRel Z' H1 L1 w1 none kind cs := by
  rcases h with h | ⟨h1, c, rest, h2, h3 | ⟨v, u, h3, _⟩⟩
  · exact .inl h
  · exact .inr ⟨h1, c, rest, h2, .inl h3⟩
  · cases h3

/-- What the callee comes to, seen by the caller: S are the cells that are kept. -/
theorem pure_run (hR : HRel B Z H L w) {S : Nat → Nat → Prop} (hS : ∀ b off, Stable Z H L b off → S b off) {f : FuncId} {args as : List AVal} {ids : List Nat} {r : CR} (hfz : freezeL H args = some (as, ids)) (hr : Reach S H L ids)
    (hc : CallN C f as [] r) {vs : Array Value} {cs : List Frame} (hl : args.length = vs.size) (ha : ∀ (j : Nat) y u, args[j]? = some y → vs[j]? = some u → VRel Z H L w y u) :
    ∃ L1 w1 fr, Steps C.P (lone (Frame.enter C.P f vs .normal) cs w) (lone fr cs w1) ∧ fr.defers = [] ∧ fr.kind = .normal ∧ fr.fn = f ∧ Below w.heap.size w w1 ∧ HRel w.heap.size (fun b off => w.heap.size ≤ b ∨ S b off) r.heap L1 w1 ∧
      Stands C.P (fun b off => w.heap.size ≤ b ∨ S b off) L1 w1 fr r := by
  obtain ⟨g1, g2⟩ := freezeL_ok hR hS hfz hr
  have ha' : ∀ (j : Nat) y u, as[j]? = some y → vs[j]? = some u → VRel (fun b off => w.heap.size ≤ b ∨ S b off) [] [] w y u := by
    intro j y u hy hu
    obtain ⟨x, hx, hd⟩ := g2 j y hy
    refine .data _ _ ((hd u (ha j x u hx hu)).mono fun b off v h1 h2 => ⟨h2, .inr h1, fun id base hl => ?_⟩)
    simp [locOf] at hl
  obtain ⟨L1, w1, fr, h1, h2, h3, h4, h5, h6, h7⟩ := hc w.heap.size (fun b off => w.heap.size ≤ b ∨ S b off) [] w vs cs (.empty _ w (fun b off h => .inl h) (hR.glob.up hR.bsz fun b off h1 h2 => .inr (hS b off ⟨h2, fun id base hl => absurd (hR.lo id b base hl) (Nat.not_le.2 h1)⟩))) (by omega) ha'
  exact ⟨L1, w1, fr, h1, h2, h3, h4, h5.ext.below, h5.rel, h7⟩

/-- Nothing of the caller's has turned, but for the marks. -/
theorem wrote_mark (hR : HRel B Z H L w) (hb : Below w.heap.size w w') (ids : List Nat) : Wrote B Z H L w (markRo ids H) L w' := by
  have h2 := markRo_wrote ids (hR.grown hb)
  exact ⟨(Ext.grown hR hb).trans h2.ext, h2.rel, fun i _ h => h⟩
theorem wrote_grown (hR : HRel B Z H L w) (hb : Below w.heap.size w w') : Wrote B Z H L w H L w' :=
  ⟨Ext.grown hR hb, hR.grown hb, fun i _ h => h⟩

theorem reach_all (ids : List Nat) : Reach (fun _ _ => True) H L ids := fun _ _ _ _ _ _ _ => trivial
theorem reach_new {S : Nat → Nat → Prop} {B' : Nat} (hR : HRel B' Z H L w') (hS : ∀ b off, B' ≤ b → S b off) (ids : List Nat) : Reach S H L ids := fun id _ b base off hl _ => hS b off (hR.lo id b base hl)

theorem pure_flat {f : FuncId} {args as : List AVal} {ids ids2 : List Nat} {v v' : AVal} {q : Bool} (hfz : freezeL H args = some (as, ids)) (hc : CallN C f as [] (.ret v H' q)) (hv : freeze depth H' v = some (v', ids2)) (hf : flat v' = true) :
    CallN C f args H (.ret v' H false) := by
  intro B Z L w vs cs hR hl ha
  obtain ⟨L1, w1, fr, h1, h2, h3, h4, h5, h6, h7⟩ := pure_run (S := fun _ _ => True) hR (fun _ _ _ => trivial) hfz (reach_all _) hc hl ha
  refine ⟨L, w1, fr, h1, h2, h3, h4, wrote_grown hR h5, Nat.le_refl _, h7.conv fun u hu => ?_⟩
  exact .data _ _ (flat_any ((freeze_ok h6 (S := fun _ _ => True) (fun _ _ _ => trivial) _ _ _ _ hv (reach_all _)).2.1 u hu) hf)

theorem pure_flatp {f : FuncId} {args as : List AVal} {ids ids2 : List Nat} {v v' : AVal} {q : Bool} (hfz : freezeL H args = some (as, ids)) (hc : CallN C f as [] (.pan v H' q)) (hv : freeze depth H' v = some (v', ids2)) (hf : flat v' = true) :
    CallN C f args H (.pan v' H false) := by
  intro B Z L w vs cs hR hl ha
  obtain ⟨L1, w1, fr, h1, h2, h3, h4, h5, h6, h7⟩ := pure_run (S := fun _ _ => True) hR (fun _ _ _ => trivial) hfz (reach_all _) hc hl ha
  refine ⟨L, w1, fr, h1, h2, h3, h4, wrote_grown hR h5, Nat.le_refl _, h7.convp fun u hu => ?_⟩
  exact .data _ _ (flat_any ((freeze_ok h6 (S := fun _ _ => True) (fun _ _ _ => trivial) _ _ _ _ hv (reach_all _)).2.1 u hu) hf)

theorem stable_callee (hR : HRel B Z H L w) {Hm : Heap} (hm : ∀ b off, w.heap.size ≤ b → Stable Z Hm L b off) {H1 : Heap} {L1 : Locs} :
    ∀ b off, Stable (fun b off => w.heap.size ≤ b ∨ Stable Z Hm L b off) H1 L1 b off → Stable Z Hm L b off := fun b off h => by
  rcases h.1 with h | h
  · exact hm b off h
  · exact h

theorem pure_kept {f : FuncId} {args as : List AVal} {ids ids2 : List Nat} {v v' : AVal} {q : Bool} (hfz : freezeL H args = some (as, ids)) (hc : CallN C f as [] (.ret v H' q)) (hv : freeze depth H' v = some (v', ids2)) :
    CallN C f args H (.ret v' (markRo ids H) false) := by
  intro B Z L w vs cs hR hl ha
  have hm : HRel B Z (markRo ids H) L w := (markRo_wrote ids hR).rel
  obtain ⟨L1, w1, fr, h1, h2, h3, h4, h5, h6, h7⟩ := pure_run (S := Stable Z (markRo ids H) L) hR (fun b off h => stable_mark ids h) hfz (markRo_reach hR ids) hc hl ha
  refine ⟨L, w1, fr, h1, h2, h3, h4, wrote_mark hR h5 ids, Nat.le_refl _, h7.conv fun u hu => ?_⟩
  exact .data _ _ ((freeze_ok h6 (S := Stable Z (markRo ids H) L) (stable_callee hm (fun b off h => stable_new hm h)) _ _ _ _ hv (reach_new h6 (fun b off h => stable_new hm h) _)).2.1 u hu)

theorem pure_keptp {f : FuncId} {args as : List AVal} {ids ids2 : List Nat} {v v' : AVal} {q : Bool} (hfz : freezeL H args = some (as, ids)) (hc : CallN C f as [] (.pan v H' q)) (hv : freeze depth H' v = some (v', ids2)) :
    CallN C f args H (.pan v' (markRo ids H) false) := by
  intro B Z L w vs cs hR hl ha
  have hm : HRel B Z (markRo ids H) L w := (markRo_wrote ids hR).rel
  obtain ⟨L1, w1, fr, h1, h2, h3, h4, h5, h6, h7⟩ := pure_run (S := Stable Z (markRo ids H) L) hR (fun b off h => stable_mark ids h) hfz (markRo_reach hR ids) hc hl ha
  refine ⟨L, w1, fr, h1, h2, h3, h4, wrote_mark hR h5 ids, Nat.le_refl _, h7.convp fun u hu => ?_⟩
  exact .data _ _ ((freeze_ok h6 (S := Stable Z (markRo ids H) L) (stable_callee hm (fun b off h => stable_new hm h)) _ _ _ _ hv (reach_new h6 (fun b off h => stable_new hm h) _)).2.1 u hu)
end
end Go.Ev
/- A call as if in an empty heap, whose result, a new slice, is the caller's own from then on; calls as the evaluator makes them. Each theorem bears its own conditions. -/
set_option linter.unusedVariables false
set_option linter.unusedSectionVars false
set_option linter.unusedSimpArgs false
namespace Go.Ev
open Go.RowKit
variable [Globs]
section
variable {Z : Nat → Nat → Prop} {H H' : Heap} {L L' : Locs} {w w' : World} {B : Nat} {C : Ctx}

theorem ORel.ro1 {o : AObj} {b base : Nat} (h : ORel Z H L w o b base) : ORel Z H L w (ro1 o) b base := by
  cases o with
  | cells t ro cs => exact h
  | arr e g ro sz xs =>
    obtain ⟨h0, cs', fz, h1, h2, h3, h4, h5, h6⟩ := h
    refine ⟨h0, cs', fz, h1, h2, h3, h4, h5, fun hf => ?_⟩
    rcases h6 hf with h | h
    · exact .inl ⟨rfl, h.2⟩
    · exact .inr h
  | _ => exact h

theorem mapM_hard {n : Nat} : ∀ {zs : List AVal} {r : List (AVal × List Nat)}, zs.mapM (freeze (n + 1) H) = some r → (∀ z ∈ zs, hard z = true) → r.map (·.1) = zs
  | [], r, h, _ => by simp at h; subst h; rfl
  | z :: zs, r, h, hh => by
    simp only [List.mapM_cons, Option.pure_def, Option.bind_eq_bind, Option.bind_eq_some_iff, Option.some.injEq] at h
    obtain ⟨b, hb, bs, hbs, rfl⟩ := h
    rw [freeze_hard (hh z (by simp))] at hb
    cases hb
    simp [mapM_hard hbs fun z hz => hh z (by simp [hz])]

/-- A new slice of the callee's, with elements that lead to nothing that is written, becomes the caller's own. -/
theorem adopt {H0 : Heap} {L0 : Locs} {w0 : World} (hR : HRel B Z H0 L0 w0) (hb : Below w0.heap.size w0 w) (ids : List Nat) {b base : Nat} {e : TypeId} {g : Nat} {sz : Nat} {ys : List AVal} (hbl : w0.heap.size ≤ b)
    (ho : ORel Z (markRo ids H0 ++ [.arr e g false sz ys]) (L0 ++ [some (b, base)]) w (.arr e g false sz ys) b base) :
    Wrote B Z H0 L0 w0 (markRo ids H0 ++ [.arr e g false sz ys]) (L0 ++ [some (b, base)]) w := by
  have hlen : L0.length = (markRo ids H0).length := by rw [markRo_length, hR.len]
  have hM := wrote_mark hR hb ids
  have hget : ∀ id o, (markRo ids H0)[id]? = some o → (markRo ids H0 ++ [AObj.arr e g false sz ys])[id]? = some o := fun id o h => by
    rw [List.getElem?_append_left (List.getElem?_eq_some_iff.1 h).1]; exact h
  have hloc : ∀ id x, locOf L0 id = some x → locOf (L0 ++ [some (b, base)]) id = some x := fun id x h => by
    have := locOf_lt h
    rw [locOf_append, if_neg (by omega)]; exact h
  have E : Ext B Z H0 L0 w0 (markRo ids H0 ++ [.arr e g false sz ys]) (L0 ++ [some (b, base)]) w := by
    refine ⟨fun id o h => ?_, fun id b0 x o o' h1 h2 h3 h4 => hloc _ _ h1, hM.ext.size, fun b0 off v h1 h2 => ?_, hM.ext.below, fun b0 h1 h2 => ?_⟩
    · obtain ⟨o', h1, h2⟩ := hM.ext.obj id o h
      exact ⟨o', hget _ _ h1, h2⟩
    · obtain ⟨h3, h4⟩ := hM.ext.stab b0 off v h1 h2
      refine ⟨h3, h4.1, fun id x hl => ?_⟩
      rw [locOf_append] at hl
      split at hl
      · cases hl
        exact absurd (cell?_lt h2) (Nat.not_lt.2 hbl)
      · have hl2 := h4.2 id x hl
        have := locOf_lt hl
        rw [List.getElem?_append_left (by omega)]
        exact hl2
    · refine ⟨(hM.ext.free b0 h1 h2).1, fun id x hl => ?_⟩
      rw [locOf_append] at hl
      split at hl
      · cases hl; omega
      · exact h1 id x hl
  refine ⟨E, ⟨by simp [hlen], fun i j b0 x y h1 h2 => ?_, fun i b0 x h1 => ?_, hM.rel.zB, hM.rel.bsz, hM.rel.glob, fun id b0 x h1 => ?_⟩, fun i hi h => ?_⟩
  · rw [locOf_append] at h1 h2
    split at h1 <;> split at h2
    · omega
    · cases h1; exact absurd (hR.hi h2) (Nat.not_lt.2 hbl)
    · cases h2; exact absurd (hR.hi h1) (Nat.not_lt.2 hbl)
    · exact hR.inj i j b0 x y h1 h2
  · rw [locOf_append] at h1
    split at h1
    · cases h1; exact Nat.le_trans hR.bsz hbl
    · exact hR.lo i b0 x h1
  · rw [locOf_append] at h1
    split at h1
    · rename_i hid
      cases h1
      refine ⟨_, by rw [hid, hlen]; simp, ho⟩
    · obtain ⟨o, h2, h3⟩ := hR.obj id b0 x h1
      have hb0 := hR.hi h1
      have h4 : ORel Z (markRo ids H0 ++ [.arr e g false sz ys]) (L0 ++ [some (b, base)]) w o b0 x := h3.mono E (hb.block b0 hb0)
      have h5 : (markRo ids H0)[id]? = some (if id ∈ ids then Go.Ev.ro1 o else o) := by
        rw [markRo_get, h2]
        split <;> rfl
      refine ⟨_, hget _ _ h5, ?_⟩
      split
      · exact h4.ro1
      · exact h4
  · rw [locOf_append, if_neg (by omega)]; exact h

theorem pure_thaw {f : FuncId} {args as : List AVal} {ids ids2 : List Nat} {v v' : AVal} {q : Bool} {e : TypeId} {g sz : Nat} {ys : List AVal} (hfz : freezeL H args = some (as, ids)) (hc : CallN C f as [] (.ret v H' q)) (hv : freeze depth H' v = some (v', ids2))
    (ho : ownOf H' v v' = some (e, g, sz, ys)) : CallN C f args H (.ret (.arr (markRo ids H).length g 0 ys.length) (markRo ids H ++ [.arr e g false sz ys]) false) := by
  unfold ownOf at ho
  split at ho
  next id gen off len ys' =>
    split at ho
    next e' g' sz' xs hob =>
      split at ho
      next hcond =>
        simp only [Option.some.injEq, Prod.mk.injEq] at ho
        obtain ⟨rfl, rfl, rfl, rfl⟩ := ho
        simp only [Bool.and_eq_true, beq_iff_eq, List.all_eq_true] at hcond
        obtain ⟨hlen, hhard⟩ := hcond
        have hfr : ys' = (xs.drop off).take len ∧ gen = g' := by
          have hv2 : freeze (39 + 1) H' (.arr id gen off len) = some (.lst false ys', ids2) := hv
          unfold freeze at hv2
          rw [if_neg (by simp [hard, cellHard])] at hv2
          dsimp only at hv2
          obtain ⟨zs, hzs, h2⟩ := bindo hv2
          simp only [Option.map_eq_some_iff, Prod.mk.injEq] at h2
          obtain ⟨rs, hrs, h3, h4⟩ := h2
          unfold elems at hzs
          dsimp only at hzs
          rw [hob] at hzs
          dsimp only at hzs
          split at hzs
          next hc2 =>
            cases hzs
            simp only [Bool.and_eq_true, beq_iff_eq] at hc2
            have h5 := mapM_hard hrs fun z hz => hhard z (List.mem_of_mem_drop (List.mem_of_mem_take hz))
            rw [h5] at h3
            cases h3
            exact ⟨rfl, hc2.1.symm⟩
          next => cases hzs
        obtain ⟨hys, rfl⟩ := hfr
        have hlenle : len ≤ (xs.drop off).length := by simp; omega
        have hysl : ys'.length = len := by rw [hys, List.length_take]; omega
        intro B Z L w vs cs hR hl ha
        have hm : HRel B Z (markRo ids H) L w := (markRo_wrote ids hR).rel
        obtain ⟨L1, w1, fr, h1, h2, h3, h4, h5, h6, h7⟩ := pure_run (S := Stable Z (markRo ids H) L) hR (fun b off h => stable_mark ids h) hfz (markRo_reach hR ids) hc hl ha
        obtain ⟨k1, fn, u, k2, k3, k4⟩ := h7
        cases k4 with
        | data _ _ hd => cases hd
        | arrOld _ _ _ _ a c hs hc e2 g2 ro2 sz2 xs2 ho2 hg2 =>
          rw [hob] at ho2
          cases ho2
          omega
        | arr _ _ _ _ b base cap e2 ro2 sz2 xs2 cs' e2' fz ho2 hlo hx hcap hbk hsize =>
          rw [hob] at ho2
          cases ho2
          have hbl : w.heap.size ≤ b := h6.lo id b base hlo
          obtain ⟨hz, cs2, fz2, hb2, har, hfz2⟩ := arr_parts h6 hob hlo
          rw [hb2] at hbk
          cases hbk
          -- no cell of the block is kept in the callee
          have hnot : ∀ o2, ¬ Stable (fun b off => w.heap.size ≤ b ∨ Stable Z (markRo ids H) L b off) H' L1 b o2 := fun o2 h => by
            have := h.2 id base hlo
            rw [hob] at this
            exact this
          have hst : ∀ b0 o0, Stable (fun b off => w.heap.size ≤ b ∨ Stable Z (markRo ids H) L b off) H' L1 b0 o0 → Stable Z (markRo ids H ++ [.arr e' gen false sz' ys']) (L ++ [some (b, base + off * sz')]) b0 o0 := by
            intro b0 o0 h
            have hne : b0 ≠ b := fun h' => hnot o0 (h' ▸ h)
            have hs0 : Stable Z (markRo ids H) L b0 o0 := stable_callee hm (fun b off h => stable_new hm h) b0 o0 h
            refine ⟨hs0.1, fun i x hl => ?_⟩
            rw [locOf_append] at hl
            split at hl
            · cases hl; exact absurd rfl hne
            · have hl2 := hs0.2 i x hl
              have := locOf_lt hl
              rw [List.getElem?_append_left (by rw [markRo_length, ← hR.len]; omega)]
              exact hl2
          have hOR : ORel Z (markRo ids H ++ [.arr e' gen false sz' ys']) (L ++ [some (b, base + off * sz')]) w1 (.arr e' gen false sz' ys') b (base + off * sz') := by
            have hel : ∀ (i : Nat) (x : AVal), ys'[i]? = some x → xs[off + i]? = some x := fun i x h => by
              rw [hys, List.getElem?_take] at h
              split at h
              · rwa [List.getElem?_drop] at h
              · cases h
            refine ⟨hz, cs', fz, hb2, ?_, fun i x hi => har.el _ _ (hel i x hi), har.one, fun i x hi j y u hy hu => ?_, fun hne => ?_⟩
            · rw [hysl]
              have := har.len
              have h8 : off * sz' + len * sz' = xs.length * sz' := by rw [← Nat.add_mul, hlen]
              omega
            · have h9 : base + off * sz' + (i * sz' + j) = base + ((off + i) * sz' + j) := by rw [Nat.add_mul]; omega
              rw [h9] at hu
              have h10 := har.rel _ _ (hel i x hi) j y u hy hu
              have hxh := hhard x (List.mem_of_getElem? (hel i x hi))
              have hyh : cellHard y = true := by
                by_cases hag : ∃ cs, x = .agg cs
                · obtain ⟨cs, rfl⟩ := hag
                  simp only [hard, List.all_eq_true] at hxh
                  exact hxh y (List.mem_of_getElem? hy)
                · have hcx : x.cells = [x] := by cases x <;> first | rfl | exact absurd ⟨_, rfl⟩ hag
                  rw [hcx] at hy
                  cases j with
                  | zero => simp at hy; subst hy; cases x <;> first | exact hxh | exact absurd ⟨_, rfl⟩ hag
                  | succ j => simp at hy
              exact .data _ _ (cellHard_data hst hyh h10)
            · rcases hfz2 hne with h | h
              · cases h.1
              · exact .inr h
          have hW := adopt (w := w1) hR h5 ids (base := base + off * sz') (e := e') (g := gen) (sz := sz') (ys := ys') hbl hOR
          refine ⟨_, w1, fr, h1, h2, h3, h4, hW, by simp, k1, fn, _, k2, k3, ?_⟩
          have hlm : (markRo ids H).length = L.length := by rw [markRo_length, hR.len]
          have := VRel.arr (Z := Z) (H := markRo ids H ++ [.arr e' gen false sz' ys']) (L := L ++ [some (b, base + off * sz')]) (w := w1) (markRo ids H).length gen 0 ys'.length b (base + off * sz') cap e' false sz' ys' cs' e' fz
            (by simp) (by rw [locOf_append, if_pos hlm]) (by omega) (by omega) hb2 (by
              have : (off + cap) * sz' = off * sz' + (0 + cap) * sz' := by rw [Nat.add_mul]; simp
              omega)
          rw [hysl] at this ⊢
          simpa using this
      next => cases ho
    next => cases ho
  next => cases ho
end
end Go.Ev
/- Calls as the evaluator makes them: in the caller's heap, in an empty one, of functions that are answered outright. Each theorem bears its own conditions. -/
set_option linter.unusedVariables false
set_option linter.unusedSectionVars false
set_option linter.unusedSimpArgs false
namespace Go.Ev
open Go.RowKit
variable [Globs]
section
variable {Z : Nat → Nat → Prop} {H H' : Heap} {L L' : Locs} {w w' : World} {B : Nat} {C : Ctx}

/-- A function without a body, that answers outright. -/
def ValOk (C : Ctx) (f : FuncId) (args : List AVal) (H : Heap) (v : AVal) (H' : Heap) : Prop :=
  ∀ (B : Nat) (Z : Nat → Nat → Prop) (L : Locs) (w : World) (vs : Array Value), HRel B Z H L w → args.length = vs.size → (∀ (j : Nat) y u, args[j]? = some y → vs[j]? = some u → VRel Z H L w y u) →
    ∃ u L' w', (callFunc f vs).run C.P w = .ok (.value u) w' ∧ Wrote B Z H L w H' L' w' ∧ L.length ≤ L'.length ∧ VRel Z H' L' w' v u
def HasBody (C : Ctx) (f : FuncId) : Prop := ∃ c fn, bodyOf C f = some (c, fn)
/-- What is to be shown of a call. -/
def EnterOk (C : Ctx) (f : FuncId) (args : List AVal) (H : Heap) (r : CR) : Prop :=
  (HasBody C f ∧ CallN C f args H r) ∨ ∃ v H', r = .ret v H' false ∧ ValOk C f args H v H'
/-- What must be shown of a function that is answered outright. -/
def ExternOk (C : Ctx) (f : FuncId) (as : List AVal) (v : AVal) : Prop :=
  ∀ (w : World) (vs : Array Value), as.length = vs.size → (∀ (j : Nat) y u, as[j]? = some y → vs[j]? = some u → DRel w (fun _ _ => True) y u) →
    ∃ u w', (callFunc f vs).run C.P w = .ok (.value u) w' ∧ Below w.heap.size w w' ∧ DRel w' (fun _ _ => True) v u
structure PrimsOk (C : Ctx) : Prop where
  prim : ∀ f F as v, C.prim f = some F → F as = some v → (HasBody C f ∧ CallN C f as [] (.ret v [] false) ∧ ∃ l, freeze depth [] v = some (v, l)) ∨ (flat v = true ∧ ExternOk C f as v)
  hprim : ∀ f F args H v H', C.hprim f = some F → F args H = some (v, H') → EnterOk C f args H (.ret v H' false)

theorem extern_val {f : FuncId} {args as : List AVal} {ids : List Nat} {v : AVal} (hfz : freezeL H args = some (as, ids)) (hf : flat v = true) (hx : ExternOk C f as v) : ValOk C f args H v H := by
  intro B Z L w vs hR hl ha
  obtain ⟨g1, g2⟩ := freezeL_ok hR (S := fun _ _ => True) (fun _ _ _ => trivial) hfz (reach_all _)
  obtain ⟨u, w', h1, h2, h3⟩ := hx w vs (by omega) fun j y u hy hu => by
    obtain ⟨x, hx, hd⟩ := g2 j y hy
    exact hd u (ha j x u hx hu)
  exact ⟨u, L, w', h1, wrote_grown hR h2, Nat.le_refl _, .data _ _ (flat_any h3 hf)⟩

theorem callPure_sound (hP : PrimsOk C) {rec : Task → Option Res} (hrec : ∀ f args H r, rec (.call f args H none) = some (.call r) → HasBody C f ∧ CallN C f args H r) {f : FuncId} {args : List AVal} {r : PR} (h : callPure rec C f args H = some r) :
    (r.ok = true → (EnterOk C f args H (.ret r.v (if flat r.v = true then H else markRo r.ids H) false)) ∧
      ∀ e g sz ys, r.own = some (e, g, sz, ys) → EnterOk C f args H (.ret (.arr (markRo r.ids H).length g 0 ys.length) (markRo r.ids H ++ [.arr e g false sz ys]) false)) ∧
    (r.ok = false → EnterOk C f args H (.pan r.v (if flat r.v = true then H else markRo r.ids H) false)) := by
  unfold callPure at h
  obtain ⟨⟨as, ids⟩, hfz, h2⟩ := bindo h
  clear h
  dsimp only at h2
  split at h2
  next F hF =>
    simp only [Option.map_eq_some_iff] at h2
    obtain ⟨v, hv, rfl⟩ := h2
    refine ⟨fun _ => ⟨?_, fun e g sz ys h => by cases h⟩, fun h => by cases h⟩
    rcases hP.prim f F as v hF hv with ⟨h1, h2, l, h3⟩ | ⟨h1, h2⟩
    · by_cases hf : flat v = true
      · rw [if_pos hf]; exact .inl ⟨h1, pure_flat hfz h2 h3 hf⟩
      · rw [if_neg hf]; exact .inl ⟨h1, pure_kept hfz h2 h3⟩
    · rw [if_pos h1]; exact .inr ⟨v, H, rfl, extern_val hfz h1 h2⟩
  next hF =>
    split at h2
    next v H' q hr =>
      simp only [Option.map_eq_some_iff] at h2
      obtain ⟨⟨v', l⟩, hv, rfl⟩ := h2
      obtain ⟨hb, hc⟩ := hrec _ _ _ _ hr
      refine ⟨fun _ => ⟨?_, fun e g sz ys h => .inl ⟨hb, pure_thaw hfz hc hv h⟩⟩, fun h => by cases h⟩
      show EnterOk C f args H (.ret v' (if flat v' = true then H else markRo ids H) false)
      by_cases hf : flat v' = true
      · rw [if_pos hf]; exact .inl ⟨hb, pure_flat hfz hc hv hf⟩
      · rw [if_neg hf]; exact .inl ⟨hb, pure_kept hfz hc hv⟩
    next v H' q hr =>
      simp only [Option.map_eq_some_iff] at h2
      obtain ⟨⟨v', l⟩, hv, rfl⟩ := h2
      obtain ⟨hb, hc⟩ := hrec _ _ _ _ hr
      refine ⟨fun h => (by cases h), fun _ => ?_⟩
      show EnterOk C f args H (.pan v' (if flat v' = true then H else markRo ids H) false)
      by_cases hf : flat v' = true
      · rw [if_pos hf]; exact .inl ⟨hb, pure_flatp hfz hc hv hf⟩
      · rw [if_neg hf]; exact .inl ⟨hb, pure_keptp hfz hc hv⟩
    next => cases h2

theorem callA_sound (hP : PrimsOk C) {rec : Task → Option Res} (hrec : ∀ f args H r, rec (.call f args H none) = some (.call r) → HasBody C f ∧ CallN C f args H r) {by_ f : FuncId} {args : List AVal} {r : CR} (h : callA rec C by_ f args H = some r) :
    EnterOk C f args H r := by
  unfold callA at h
  split at h
  next F hF =>
    simp only [Option.map_eq_some_iff] at h
    obtain ⟨⟨v, H'⟩, hv, rfl⟩ := h
    exact hP.hprim f F args H v H' hF hv
  next hF =>
    split at h
    next =>
      simp only [Option.map_eq_some_iff] at h
      obtain ⟨p, hp, rfl⟩ := h
      obtain ⟨h1, h2⟩ := callPure_sound hP hrec hp
      cases hok : p.ok with
      | true =>
        simp only [if_true]
        obtain ⟨h3, h4⟩ := h1 hok
        split
        next e g sz ys ho => exact h4 e g sz ys (by split at ho <;> first | exact ho | cases ho)
        next => exact h3
      | false => simpa using h2 hok
    next =>
      split at h
      next r' hr =>
        cases h
        exact .inl (hrec _ _ _ _ hr)
      next => cases h

/-- A call as an operation. -/
theorem op_call (hC : TabOk C) {ops : Array Oper} {i : Nat} {o : Oper} {s : St} {f : FuncId} {args : List AVal} {r : CR} (h : evX C s.env s.H o = some (.enter f args)) (hr : EnterOk C f args s.H r) : OpOk C ops i o s (oaOf s r) := by
  rcases hr with ⟨⟨c, fn, hb⟩, hc⟩ | ⟨v, H', rfl, hv⟩
  · exact op_enter hC h hb hc
  · intro B N Z L w b a cs rest k hS ho hw
    obtain ⟨vs, h1, h2, h3⟩ := evX_sound hC hS.heap hS.env h
    have hsem := o.semAt_eq b.roundOf a.eval (fun c hd => by obtain ⟨f, args, hx⟩ := evX_defer h hd; cases hx)
    have hcs : csAft s.pan s.recd cs = cs := csAft_same hS.pan
    obtain ⟨u, L', w', k1, k2, k4, k3⟩ := hv B Z L w vs hS.heap h2 h3
    refine ⟨L', w', a.defers, u, ?_, k2, ?_, fun _ => .inr k3, rfl, rfl, k4⟩
    · show Steps C.P _ (lone _ (csAft s.pan s.recd cs) _)
      rw [hcs]
      exact .one (op_value (w' := w') ho hw (by rw [hsem, h1, k1]))
    · show StRel B N Z _ _ w' b a (csAft s.pan s.recd cs)
      rw [hcs]
      exact hS.turn k2
end
end Go.Ev
/- What the evaluator keeps: the records of ranges over functions, the function, that a panic is of an interface's value. Each theorem bears its own conditions. -/
set_option linter.unusedVariables false
set_option linter.unusedSectionVars false
set_option linter.unusedSimpArgs false
namespace Go.Ev
open Go.RowKit
variable [Globs]
section
variable {H H' : Heap} {C : Ctx}

def isLoop : AObj → Bool
  | .loop _ _ _ _ _ _ _ => true
  | _ => false
/-- What records of loops there are were there. -/
def Keeps (H H' : Heap) : Prop := ∀ (id : Nat) (o : AObj), H'[id]? = some o → isLoop o = true → H[id]? = some o
theorem Keeps.refl (H : Heap) : Keeps H H := fun _ _ h _ => h
theorem Keeps.trans {H1 H2 H3 : Heap} (h : Keeps H1 H2) (k : Keeps H2 H3) : Keeps H1 H3 := fun id o h1 h2 => h id o (k id o h1 h2) h2
theorem keeps_set {id : Nat} {o : AObj} (h : isLoop o = false) : Keeps H (H.set id o) := fun j o' h1 h2 => by
  rw [List.getElem?_set] at h1
  split at h1
  · split at h1
    · cases h1; rw [h] at h2; cases h2
    · cases h1
  · exact h1
theorem keeps_snoc {o : AObj} (h : isLoop o = false) : Keeps H (H ++ [o]) := fun j o' h1 h2 => by
  rw [getElem?_snoc] at h1
  split at h1
  · cases h1; rw [h] at h2; cases h2
  · exact h1
theorem keeps_markOne (id : Nat) : Keeps H (markOne H id) := by
  unfold markOne
  split
  · exact keeps_set rfl
  · exact keeps_set rfl
  · exact .refl H
theorem keeps_mark (ids : List Nat) : ∀ (H : Heap), Keeps H (markRo ids H) := by
  induction ids with
  | nil => exact fun H => .refl H
  | cons i r ih =>
    intro H
    rw [markRo_fold, List.foldl_cons, ← markRo_fold]
    exact (keeps_markOne i).trans (ih _)

theorem storeA_keeps {t : TypeId} {p v : AVal} (h : storeA C H t p v = some H') : Keeps H H' := by
  unfold storeA at h
  obtain ⟨T, hT, h2⟩ := bindo h
  clear h
  split at h2
  · cases h2
  split at h2
  · split at h2
    · split at h2
      · cases h2; exact keeps_set rfl
      · cases h2
    · cases h2
  · split at h2
    · split at h2
      · obtain ⟨x, hx, h3⟩ := bindo h2
        simp only [Option.map_eq_some_iff] at h3
        obtain ⟨y, _, rfl⟩ := h3
        exact keeps_set rfl
      · cases h2
    · cases h2
  · cases h2

theorem mapSetA_keeps {t : TypeId} {m k v : AVal} (h : mapSetA C H t m k v = some H') : Keeps H H' := by
  unfold mapSetA at h
  obtain ⟨⟨K, E⟩, hT, h2⟩ := bindo h
  clear h
  dsimp only at h2
  split at h2
  · cases h2
  split at h2
  · split at h2
    · simp only [Option.map_eq_some_iff] at h2
      obtain ⟨r, _, rfl⟩ := h2
      split <;> exact keeps_set rfl
    · cases h2
  · cases h2

theorem mapEntryA_keeps {t : TypeId} {m k v : AVal} (h : mapEntryA C H t m k = some (v, H')) : Keeps H H' := by
  unfold mapEntryA at h
  obtain ⟨⟨K, E⟩, hT, h2⟩ := bindo h
  clear h
  dsimp only at h2
  split at h2
  · cases h2
  split at h2
  · split at h2
    · simp only [Option.map_eq_some_iff] at h2
      obtain ⟨r, _, h3⟩ := h2
      split at h3 <;> (cases h3; exact keeps_set rfl)
    · cases h2
  · cases h2

theorem entryStoreA_keeps {m s v : AVal} (h : entryStoreA H m s v = some H') : Keeps H H' := by
  unfold entryStoreA at h
  split at h
  · split at h
    · simp only [Option.map_eq_some_iff] at h
      obtain ⟨r, _, rfl⟩ := h
      exact keeps_set rfl
    · cases h
  · cases h

theorem deleteA_keeps {t : TypeId} {m k : AVal} (h : deleteA C H t m k = some H') : Keeps H H' := by
  unfold deleteA at h
  obtain ⟨⟨K, E⟩, hT, h2⟩ := bindo h
  clear h
  dsimp only at h2
  split at h2
  · cases h2
  split at h2
  · cases h2; exact .refl _
  · split at h2
    · simp only [Option.map_eq_some_iff] at h2
      obtain ⟨r, _, rfl⟩ := h2
      split
      · exact keeps_set rfl
      · exact .refl _
    · cases h2
  · cases h2

theorem appendA_keeps {t : TypeId} {s x v : AVal} (h : appendA C H t s x = some (v, H')) : Keeps H H' := by
  unfold appendA at h
  obtain ⟨⟨K, E⟩, hT, h2⟩ := bindo h
  clear h
  dsimp only at h2
  obtain ⟨new, _, h3⟩ := bindo h2
  clear h2
  split at h3
  · cases h3
  split at h3
  · split at h3
    · cases h3; exact .refl _
    · split at h3
      · cases h3; exact keeps_snoc rfl
      · cases h3
  · split at h3
    · split at h3
      · cases h3; exact keeps_set rfl
      · cases h3
    · cases h3
  · cases h3

theorem copyA_keeps {t : TypeId} {s x v : AVal} (h : copyA C H t s x = some (v, H')) : Keeps H H' := by
  unfold copyA at h
  obtain ⟨⟨K, E⟩, hT, h2⟩ := bindo h
  clear h
  dsimp only at h2
  obtain ⟨new, _, h3⟩ := bindo h2
  clear h2
  split at h3
  · cases h3
  split at h3
  · split at h3
    · split at h3
      · cases h3; exact keeps_set rfl
      · cases h3
    · cases h3
  · cases h3; exact .refl _
  · cases h3

theorem evX_keeps {e : Env} {o : Oper} {v : AVal} (h : evX C e H o = some (.val v H')) : Keeps H H' := by
  unfold evX at h
  split at h
  · split at h
    · cases h
    · obtain ⟨x, _, h2⟩ := bindo h
      simp only [Option.map_eq_some_iff, XR.val.injEq] at h2
      obtain ⟨H1, h3, rfl, rfl⟩ := h2
      exact storeA_keeps h3
  · split at h
    · cases h
    · obtain ⟨x, _, h2⟩ := bindo h
      simp only [Option.map_eq_some_iff, XR.val.injEq] at h2
      obtain ⟨H1, h3, rfl, rfl⟩ := h2
      exact mapSetA_keeps h3
  · split at h
    · cases h
    · obtain ⟨x, _, h2⟩ := bindo h
      simp only [Option.map_eq_some_iff, XR.val.injEq] at h2
      obtain ⟨H1, h3, rfl, rfl⟩ := h2
      exact mapSetA_keeps h3
  · simp only [Option.map_eq_some_iff, XR.val.injEq] at h
    obtain ⟨⟨r, H1⟩, h3, rfl, rfl⟩ := h
    exact mapEntryA_keeps h3
  · split at h
    · cases h
    · obtain ⟨x, _, h2⟩ := bindo h
      simp only [Option.map_eq_some_iff, XR.val.injEq] at h2
      obtain ⟨H1, h3, rfl, rfl⟩ := h2
      exact entryStoreA_keeps h3
  · split at h
    · split at h
      · split at h
        · split at h
          cases h
          exact keeps_set rfl
        · cases h; exact .refl _
      · cases h
    · cases h
  · split at h <;> cases h
  · split at h
    · simp only [Option.map_eq_some_iff] at h
      obtain ⟨_, _, h2⟩ := h
      cases h2
    · cases h
  · split at h
    · simp only [Option.map_eq_some_iff] at h
      obtain ⟨_, _, h2⟩ := h
      cases h2
    · simp only [Option.map_eq_some_iff] at h
      obtain ⟨_, _, h2⟩ := h
      cases h2
    · cases h
  · split at h
    · obtain ⟨x, _, h2⟩ := bindo h
      simp only [Option.map_eq_some_iff] at h2
      obtain ⟨_, _, h3⟩ := h2
      cases h3
    · cases h
  · split at h
    · split at h
      · obtain ⟨U, _, h2⟩ := bindo h
        clear h
        split at h2
        · simp only [Option.map_eq_some_iff, XR.val.injEq] at h2
          obtain ⟨⟨r, H1⟩, h3, rfl, rfl⟩ := h2
          exact appendA_keeps h3
        · simp only [Option.map_eq_some_iff, XR.val.injEq] at h2
          obtain ⟨⟨r, H1⟩, h3, rfl, rfl⟩ := h2
          exact appendA_keeps h3
        · cases h2
      · cases h
    · split at h
      · simp only [Option.map_eq_some_iff, XR.val.injEq] at h
        obtain ⟨⟨r, H1⟩, h3, rfl, rfl⟩ := h
        exact copyA_keeps h3
      · cases h
    · split at h
      · simp only [Option.map_eq_some_iff, XR.val.injEq] at h
        obtain ⟨H1, h3, rfl, rfl⟩ := h
        exact deleteA_keeps h3
      · cases h
    · cases h
    · split at h <;> cases h
    · split at h
      · cases h; exact .refl _
      · obtain ⟨T, _, h2⟩ := bindo h
        clear h
        split at h2
        · obtain ⟨U, _, h3⟩ := bindo h2
          clear h2
          split at h3
          · split at h3
            · simp only [Option.map_eq_some_iff, XR.val.injEq] at h3
              obtain ⟨s, _, rfl, rfl⟩ := h3
              split
              · exact .refl _
              · exact keeps_set rfl
            · cases h3
          · cases h3
        · cases h2
      · cases h
    · cases h
  · cases h

theorem evB_noLoop {e : Env} {o : Oper} {obj : AObj} {f : Nat → AVal} (h : evB C e H o = some (obj, f)) : isLoop obj = false := by
  unfold evB at h
  split at h
  · simp only [Option.map_eq_some_iff, Prod.mk.injEq] at h
    obtain ⟨_, _, rfl, _⟩ := h; rfl
  · simp only [Option.map_eq_some_iff, Prod.mk.injEq] at h
    obtain ⟨_, _, rfl, _⟩ := h; rfl
  · obtain ⟨⟨K, E⟩, _, h2⟩ := bindo h
    clear h
    dsimp only at h2
    split at h2
    · cases h2
    · obtain ⟨ps, _, h3⟩ := bindo h2
      simp only [Option.map_eq_some_iff, Prod.mk.injEq] at h3
      obtain ⟨_, _, rfl, _⟩ := h3; rfl
  · split at h
    · cases h; rfl
    · obtain ⟨x, _, h2⟩ := bindo h
      split at h2
      · cases h2; rfl
      · cases h2
  · obtain ⟨⟨K, E⟩, _, h2⟩ := bindo h
    clear h
    dsimp only at h2
    obtain ⟨n, _, h3⟩ := bindo h2
    obtain ⟨m, _, h4⟩ := bindo h3
    split at h4
    · cases h4; rfl
    · cases h4
  · obtain ⟨S, _, h2⟩ := bindo h
    obtain ⟨D, _, h3⟩ := bindo h2
    clear h h2
    split at h3
    · obtain ⟨E, _, h4⟩ := bindo h3
      split at h4
      · split at h4
        · cases h4; rfl
        · cases h4
      · cases h4
    · cases h3
  · obtain ⟨T, _, h2⟩ := bindo h
    clear h
    split at h2
    · cases h2; rfl
    · cases h2
  · cases h
end
end Go.Ev
/- On which slots, and on which part of the heap, an operation rests. Each theorem bears its own conditions. -/
set_option linter.unusedVariables false
set_option linter.unusedSectionVars false
set_option linter.unusedSimpArgs false
namespace Go.Ev
open Go.RowKit
variable [Globs]
section
variable {H H' : Heap} {C : Ctx}

theorem opd_env {e e' : Env} {x : Operand} (h : ∀ t ∈ tmpOf x, get e t = get e' t) : opd e x = opd e' x := by
  cases x with
  | tmp t => exact h t (by simp [tmpOf])
  | _ => rfl
theorem opc_env {e e' : Env} {x : Operand} (h : opd e x = opd e' x) : opc e x = opc e' x := by unfold opc; rw [h]
theorem opcs_env {e e' : Env} : ∀ {l : List Operand}, (∀ x ∈ l, opd e x = opd e' x) → opcs e l = opcs e' l
  | [], _ => rfl
  | x :: r, h => by unfold opcs; rw [opc_env (h x (by simp)), opcs_env fun y hy => h y (by simp [hy])]
theorem opps_env {e e' : Env} : ∀ {l : List (Nat × Operand)}, (∀ x ∈ l.map (·.2), opd e x = opd e' x) → opps e l = opps e' l
  | [], _ => rfl
  | (i, x) :: r, h => by unfold opps; rw [opc_env (h x (by simp)), opps_env fun y hy => h y (by simp at hy ⊢; exact .inr hy)]
theorem map_opd_env {e e' : Env} {l : List Operand} (h : ∀ x ∈ l, opd e x = opd e' x) : l.map (opd e) = l.map (opd e') := List.map_congr_left h
theorem omap_opd_env {e e' : Env} {l : Option Operand} (h : ∀ x ∈ l.toArray.toList, opd e x = opd e' x) : l.map (opd e) = l.map (opd e') := by
  cases l with
  | none => rfl
  | some x => simp at h; simp [h]

theorem reads_opd {e e' : Env} {o : Oper} (h : ∀ t ∈ readsOf o, get e t = get e' t) : ∀ x ∈ o.op.operands.toList, opd e x = opd e' x := fun x hx =>
  opd_env fun t ht => h t (List.mem_flatMap.2 ⟨x, hx, ht⟩)

set_option maxHeartbeats 1000000 in
theorem evQ_env {e e' : Env} {o : Oper} (h : ∀ t ∈ readsOf o, get e t = get e' t) : evQ C e H o = evQ C e' H o := by
  have hx := reads_opd h
  unfold evQ
  cases hop : o.op with
  | call c =>
    obtain ⟨callee, args, ats⟩ := c
    rw [hop] at hx
    cases callee with
    | builtin b =>
      have hm : args.toList.map (opd e) = args.toList.map (opd e') := map_opd_env fun x h => hx x (by simp [Op.operands, Call.operands] at h ⊢; first | exact h | exact .inr h | exact .inl h)
      have hm2 : ∀ x ∈ args.toList, opd e x = opd e' x := fun x h => hx x (by simp [Op.operands, Call.operands] at h ⊢; first | exact h | exact .inr h | exact .inl h)
      cases b <;> simp only [hm]
      generalize args.toList = l at hm2
      rcases l with _ | ⟨x, _ | ⟨y, l⟩⟩
      · rfl
      · have hxx : opd e x = opd e' x := hm2 x (by simp)
        cases ats.toList with
        | nil => rfl
        | cons t r => simp only [hxx]
      · rfl
    | _ => rfl
  | build t ps => rw [hop] at hx; simp only [Op.operands] at hx; simp only [opps_env hx]
  | makeFunc fn first caps =>
    rw [hop] at hx
    simp only [Op.operands, Array.toList_append, List.mem_append] at hx
    have h1 := opcs_env (l := first.toList) fun x h => hx x (.inl h)
    have h2 := opcs_env (l := caps.toList) fun x h => hx x (.inr h)
    cases fn <;> simp only [h1, h2]
  | slice t x l hh m =>
    rw [hop] at hx
    simp only [Op.operands, Array.toList_append, List.mem_append] at hx
    simp only
    rw [hx x (by simp), omap_opd_env fun y hy => hx y (.inl (.inl (.inr hy))), omap_opd_env fun y hy => hx y (.inl (.inr hy)), omap_opd_env fun y hy => hx y (.inr hy)]
  | makeInterface t x =>
    rw [hop] at hx
    simp only
    rw [opc_env (hx x (by simp [Op.operands]))]
  | binOp op t x y yt =>
    rw [hop] at hx
    simp only
    rw [hx x (by simp [Op.operands]), hx y (by simp [Op.operands])]
  | pick c a b => rw [hop] at hx; simp only; rw [hx c (by simp [Op.operands]), hx a (by simp [Op.operands]), hx b (by simp [Op.operands])]
  | move x => rw [hop] at hx; simp only; rw [hx x (by simp [Op.operands])]
  | assign x => rw [hop] at hx; simp only; rw [hx x (by simp [Op.operands])]
  | load t x => rw [hop] at hx; simp only; rw [hx x (by simp [Op.operands])]
  | nilCheck x => rw [hop] at hx; simp only; rw [hx x (by simp [Op.operands])]
  | unOp op t x => rw [hop] at hx; simp only; rw [hx x (by simp [Op.operands])]
  | convert s d x => rw [hop] at hx; simp only; rw [hx x (by simp [Op.operands])]
  | fieldAddr s x f => rw [hop] at hx; simp only; rw [hx x (by simp [Op.operands])]
  | field s x f => rw [hop] at hx; simp only; rw [hx x (by simp [Op.operands])]
  | indexAddr t x i => rw [hop] at hx; simp only; rw [hx x (by simp [Op.operands]), hx i (by simp [Op.operands])]
  | index t x i => rw [hop] at hx; simp only; rw [hx x (by simp [Op.operands]), hx i (by simp [Op.operands])]
  | lookup t x i ok => rw [hop] at hx; simp only; rw [hx x (by simp [Op.operands]), hx i (by simp [Op.operands])]
  | typeAssert x a t ok => rw [hop] at hx; simp only; rw [hx x (by simp [Op.operands])]
  | extract x i => rw [hop] at hx; simp only; rw [hx x (by simp [Op.operands])]
  | _ => rfl

theorem evB_env {e e' : Env} {o : Oper} (h : ∀ t ∈ readsOf o, get e t = get e' t) : evB C e H o = evB C e' H' o := by
  have hx := reads_opd h
  unfold evB
  cases hop : o.op with
  | box t x => rw [hop] at hx; simp only; rw [opc_env (hx x (by simp [Op.operands]))]
  | buildSlice t n ps => rw [hop] at hx; simp only [Op.operands] at hx; simp only; rw [opps_env hx]
  | makeMap t r =>
    rw [hop] at hx
    cases r with
    | none => rfl
    | some x => simp only; rw [hx x (by simp [Op.operands])]
  | makeSlice t l c => rw [hop] at hx; simp only; rw [hx l (by simp [Op.operands]), hx c (by simp [Op.operands])]
  | convert s d x => rw [hop] at hx; simp only; rw [hx x (by simp [Op.operands])]
  | range t x => rw [hop] at hx; simp only; rw [hx x (by simp [Op.operands])]
  | _ => rfl

set_option maxHeartbeats 1000000 in
theorem evX_env {e e' : Env} {o : Oper} (h : ∀ t ∈ readsOf o, get e t = get e' t) : evX C e H o = evX C e' H o := by
  have hx := reads_opd h
  unfold evX
  cases hop : o.op with
  | call c =>
    obtain ⟨callee, args, ats⟩ := c
    rw [hop] at hx
    have hm2 : ∀ x ∈ args.toList, opd e x = opd e' x := fun x h => hx x (by cases callee <;> simp [Op.operands, Call.operands] at h ⊢ <;> first | exact h | exact .inr h | exact .inl h)
    have hm : args.toList.map (opd e) = args.toList.map (opd e') := map_opd_env hm2
    have hc : opcs e args.toList = opcs e' args.toList := opcs_env hm2
    cases callee with
    | builtin b => cases b <;> simp only [hm]
    | value f => simp only; rw [hx f (by simp [Op.operands, Call.operands]), hc]
    | invoke r n => simp only; rw [hx r (by simp [Op.operands, Call.operands]), hc]
  | defer c =>
    obtain ⟨callee, args, ats⟩ := c
    rw [hop] at hx
    have hm2 : ∀ x ∈ args.toList, opd e x = opd e' x := fun x h => hx x (by cases callee <;> simp [Op.operands, Call.operands] at h ⊢ <;> first | exact h | exact .inr h | exact .inl h)
    have hc : opcs e args.toList = opcs e' args.toList := opcs_env hm2
    cases callee with
    | value f => simp only; rw [hx f (by simp [Op.operands, Call.operands]), hc]
    | _ => rfl
  | store t a x => rw [hop] at hx; simp only; rw [hx a (by simp [Op.operands]), opc_env (hx x (by simp [Op.operands]))]
  | mapUpdate t m k x => rw [hop] at hx; simp only; rw [hx m (by simp [Op.operands]), hx k (by simp [Op.operands]), opc_env (hx x (by simp [Op.operands]))]
  | insert t m k x => rw [hop] at hx; simp only; rw [hx m (by simp [Op.operands]), hx k (by simp [Op.operands]), opc_env (hx x (by simp [Op.operands]))]
  | mapEntry t m k => rw [hop] at hx; simp only; rw [hx m (by simp [Op.operands]), hx k (by simp [Op.operands])]
  | entryStore t m k x => rw [hop] at hx; simp only; rw [hx m (by simp [Op.operands]), hx k (by simp [Op.operands]), opc_env (hx x (by simp [Op.operands]))]
  | next it s => rw [hop] at hx; cases s <;> simp only; rw [hx it (by simp [Op.operands])]
  | panic x => rw [hop] at hx; simp only; rw [hx x (by simp [Op.operands])]
  | _ => rfl
end
end Go.Ev
/- Quiet operations in a heap that has more objects; the rest on slots. Each theorem bears its own conditions. -/
set_option linter.unusedVariables false
set_option linter.unusedSectionVars false
set_option linter.unusedSimpArgs false
namespace Go.Ev
open Go.RowKit
variable [Globs]
section
variable {H H' : Heap} {C : Ctx}

/-- H' has what H has. -/
def More (H H' : Heap) : Prop := ∀ (id : Nat) (o : AObj), H[id]? = some o → H'[id]? = some o
theorem More.refl (H : Heap) : More H H := fun _ _ h => h
theorem More.trans {H1 H2 H3 : Heap} (h : More H1 H2) (k : More H2 H3) : More H1 H3 := fun id o h1 => k id o (h id o h1)
theorem More.snoc (H : Heap) (o : AObj) : More H (H ++ [o]) := fun id o' h => by
  rw [List.getElem?_append_left (List.getElem?_eq_some_iff.1 h).1]; exact h
theorem More.append (H K : Heap) : More H (H ++ K) := fun id o' h => by
  rw [List.getElem?_append_left (List.getElem?_eq_some_iff.1 h).1]; exact h

theorem loadA_more (hM : More H H') {t : TypeId} {p x : AVal} (h : loadA C H t p = some x) : loadA C H' t p = some x := by
  unfold loadA at h ⊢
  obtain ⟨T, hT, h2⟩ := bindo h
  rw [hT, Option.bind_some]
  clear h
  split at h2
  · split at h2
    next hc => rw [hM _ _ hc]; exact h2
    next => cases h2
  · split at h2
    next hc => rw [hM _ _ hc]; exact h2
    next => cases h2
  · exact h2
  · cases h2

theorem elems_more (hM : More H H') {p : AVal} {x : List AVal} (h : elems H p = some x) : elems H' p = some x := by
  unfold elems at h ⊢
  split at h
  · exact h
  · split at h
    next hc => rw [hM _ _ hc]; exact h
    next => cases h
  · cases h

theorem sliceA_more (hM : More H H') {t : TypeId} {p x : AVal} {lo hi mx : Option AVal} (h : sliceA C H t p lo hi mx = some x) : sliceA C H' t p lo hi mx = some x := by
  unfold sliceA at h ⊢
  obtain ⟨T, hT, h1⟩ := bindo h
  obtain ⟨n, hn, h2⟩ := bindo h1
  obtain ⟨m, hm, h3⟩ := bindo h2
  obtain ⟨hh, hhh, h4⟩ := bindo h3
  obtain ⟨l, hl, h5⟩ := bindo h4
  rw [hT, Option.bind_some, hn, Option.bind_some, hm, Option.bind_some, hhh, Option.bind_some, hl, Option.bind_some]
  clear h h1 h2 h3 h4
  split at h5
  · rename_i hcond
    rw [if_pos hcond]
    split at h5
    · exact h5
    · exact h5
    · obtain ⟨E, hE, h6⟩ := bindo h5
      rw [hE, Option.bind_some]
      clear h5
      split at h6
      next hc => rw [hM _ _ hc]; exact h6
      next => cases h6
    · cases h5
  · cases h5

theorem indexAddrA_more (hM : More H H') {t : TypeId} {p i x : AVal} (h : indexAddrA C H t p i = some x) : indexAddrA C H' t p i = some x := by
  unfold indexAddrA at h ⊢
  obtain ⟨T, hT, h1⟩ := bindo h
  obtain ⟨n, hn, h2⟩ := bindo h1
  rw [hT, Option.bind_some, hn, Option.bind_some]
  clear h h1
  split at h2
  · obtain ⟨E, hE, h6⟩ := bindo h2
    rw [hE, Option.bind_some]
    clear h2
    split at h6
    · cases h6
    · rename_i hz
      rw [if_neg hz]
      split at h6
      · exact h6
      · split at h6
        next hc => rw [hM _ _ hc]; exact h6
        next => cases h6
      · cases h6
  · exact h2
  · cases h2

theorem lookupA_more (hM : More H H') {t : TypeId} {m k x : AVal} {ok : Bool} (h : lookupA C H t m k ok = some x) : lookupA C H' t m k ok = some x := by
  unfold lookupA at h ⊢
  obtain ⟨⟨K, E⟩, hT, h1⟩ := bindo h
  rw [hT, Option.bind_some]
  clear h
  dsimp only at h1 ⊢
  split at h1
  · cases h1
  · rename_i hk
    rw [if_neg hk]
    obtain ⟨r, hr, h2⟩ := bindo h1
    clear h1
    cases m with
    | map o =>
      cases o with
      | none => cases hr; exact h2
      | some id =>
        cases hc : H[id]? with
        | none => simp only [hc] at hr; cases hr
        | some o =>
          simp only [hM _ _ hc]
          simp only [hc] at hr
          rw [hr]
          exact h2
    | _ => cases hr

theorem convertA_more (hM : More H H') {s d : TypeId} {p x : AVal} (h : (convertA C H s d p).map (·.1) = some x) : (convertA C H' s d p).map (·.1) = some x := by
  unfold convertA at h ⊢
  simp only [Option.map_eq_some_iff] at h ⊢
  obtain ⟨⟨v, H1⟩, h0, rfl⟩ := h
  obtain ⟨S, hS, h1⟩ := bindo h0
  obtain ⟨D, hD, h2⟩ := bindo h1
  clear h0 h1
  rw [hS, Option.bind_some, hD, Option.bind_some]
  split at h2
  · cases h2; exact ⟨_, rfl, rfl⟩
  · cases h2; exact ⟨_, rfl, rfl⟩
  · cases h2; exact ⟨_, rfl, rfl⟩
  · split at h2
    · obtain ⟨E, hE, h3⟩ := bindo h2
      rw [hE, Option.bind_some]
      clear h2
      split at h3
      · cases h3
      · rename_i hz
        rw [if_neg hz]
        split at h3
        next hc =>
          rw [hM _ _ hc]
          split at h3
          next hlt => cases h3; exact ⟨(_, H'), by simp [hlt], rfl⟩
          next => cases h3
        next => cases h3
    · cases h2
  · split at h2
    · obtain ⟨E, hE, h3⟩ := bindo h2
      rw [hE, Option.bind_some]
      clear h2
      split at h3
      next hc =>
        rw [hM _ _ hc]
        split at h3
        next hlt => cases h3; exact ⟨(_, H'), by simp only [if_pos hlt], rfl⟩
        next => cases h3
      next => cases h3
    · cases h2
  · split at h2
    · obtain ⟨E, hE, h3⟩ := bindo h2
      rw [hE, Option.bind_some]
      clear h2
      split at h3
      · obtain ⟨xs, hxs, h4⟩ := bindo h3
        rw [elems_more hM hxs, Option.bind_some]
        simp only [Option.map_eq_some_iff, Prod.mk.injEq] at h4 ⊢
        obtain ⟨s, hs, rfl, _⟩ := h4
        exact ⟨_, ⟨s, hs, rfl⟩, rfl⟩
      · cases h3
    · cases h2
  · cases h2

theorem lenA_more (hM : More H H') {t : TypeId} {p : AVal} {n : Nat} (h : lenA C H t p = some n) : lenA C H' t p = some n := by
  unfold lenA at h ⊢
  obtain ⟨T, hT, h1⟩ := bindo h
  rw [hT, Option.bind_some]
  clear h
  split at h1
  · exact h1
  · exact h1
  · exact h1
  · exact h1
  · split at h1
    next hc => rw [hM _ _ hc]; exact h1
    next => cases h1
  · cases h1

theorem evQ_more (hM : More H H') {e : Env} {o : Oper} {x : AVal} (h : evQ C e H o = some x) : evQ C e H' o = some x := by
  unfold evQ at h ⊢
  cases hop : o.op with
  | load t a => simp only [hop] at h ⊢; exact loadA_more hM h
  | convert s d y =>
    simp only [hop] at h ⊢
    split at h
    · split at h
      · cases h
      · exact convertA_more hM h
    · cases h
  | slice t x l hh m => simp only [hop] at h ⊢; exact sliceA_more hM h
  | indexAddr t x i => simp only [hop] at h ⊢; exact indexAddrA_more hM h
  | lookup t m k ok => simp only [hop] at h ⊢; exact lookupA_more hM h
  | call c =>
    obtain ⟨callee, args, ats⟩ := c
    simp only [hop] at h ⊢
    cases callee with
    | builtin b =>
      cases b with
      | len =>
        dsimp only at h ⊢
        split at h
        · simp only [Option.map_eq_some_iff] at h ⊢
          obtain ⟨n, h1, rfl⟩ := h
          exact ⟨n, lenA_more hM h1, rfl⟩
        · cases h
      | _ => exact h
    | _ => exact h
  | makeFunc fn a b => cases fn <;> (simp only [hop] at h ⊢; exact h)
  | _ => simp only [hop] at h ⊢; exact h

/-- Does it look into the heap? -/
def looks (o : Oper) : Bool :=
  match o.op with
  | .load _ _ | .lookup _ _ _ _ | .convert _ _ _ | .call _ | .slice _ _ _ _ _ | .indexAddr _ _ _ => true
  | _ => false
theorem evQ_blind {e : Env} {o : Oper} (h : looks o = false) : evQ C e H o = evQ C e H' o := by
  unfold evQ
  cases hop : o.op with
  | makeFunc fn a b => cases fn <;> rfl
  | _ => simp only [looks, hop, Bool.true_eq_false, Bool.false_eq_true] at h ⊢

theorem freeze_more (hM : More H H') : ∀ (n : Nat) {v : AVal} {r : AVal × List Nat}, freeze n H v = some r → freeze n H' v = some r
  | 0, v, r, h => by cases h
  | n + 1, v, r, h => by
    have hl : ∀ {l : List AVal} {r : List (AVal × List Nat)}, l.mapM (freeze n H) = some r → l.mapM (freeze n H') = some r := by
      intro l
      induction l with
      | nil => exact fun h => h
      | cons x l ih =>
        intro r h
        simp only [List.mapM_cons, Option.pure_def, Option.bind_eq_bind, Option.bind_eq_some_iff, Option.some.injEq] at h ⊢
        obtain ⟨b, hb, bs, hbs, rfl⟩ := h
        exact ⟨b, freeze_more hM n hb, bs, ih hbs, rfl⟩
    unfold freeze at h ⊢
    split at h
    · rename_i hh; rw [if_pos hh]; exact h
    · rename_i hh
      rw [if_neg hh]
      split at h
      · obtain ⟨xs, hxs, h2⟩ := bindo h
        rw [elems_more hM hxs, Option.bind_some]
        simp only [Option.map_eq_some_iff] at h2 ⊢
        obtain ⟨ys, hys, rfl⟩ := h2
        exact ⟨ys, hl hys, rfl⟩
      · split at h
        next hc =>
          rw [hM _ _ hc]
          simp only [Option.map_eq_some_iff] at h ⊢
          obtain ⟨ys, hys, rfl⟩ := h
          exact ⟨ys, hl hys, rfl⟩
        next => cases h
      · split at h
        next hc =>
          rw [hM _ _ hc]
          dsimp only
          split at h
          next hg =>
            rw [if_pos hg]
            split at h
            next hx =>
              simp only [hx, Option.map_eq_some_iff] at h ⊢
              obtain ⟨ys, hys, rfl⟩ := h
              exact ⟨ys, hl hys, rfl⟩
            next => cases h
          next => cases h
        next => cases h
      · simp only [Option.map_eq_some_iff] at h ⊢
        obtain ⟨ys, hys, rfl⟩ := h
        exact ⟨ys, hl hys, rfl⟩
      · simp only [Option.map_eq_some_iff] at h ⊢
        obtain ⟨ys, hys, rfl⟩ := h
        exact ⟨ys, hl hys, rfl⟩
      · obtain ⟨xs, hxs, h2⟩ := bindo h
        rw [hl hxs, Option.bind_some]
        simp only [Option.map_eq_some_iff] at h2 ⊢
        obtain ⟨ys, hys, rfl⟩ := h2
        exact ⟨ys, hl hys, rfl⟩
      · simp only [Option.map_eq_some_iff] at h ⊢
        obtain ⟨ys, hys, rfl⟩ := h
        exact ⟨ys, freeze_more hM n hys, rfl⟩
      · cases h

theorem mapM_more {f g : AVal → Option (AVal × List Nat)} (hfg : ∀ v r, f v = some r → g v = some r) : ∀ {l : List AVal} {r : List (AVal × List Nat)}, l.mapM f = some r → l.mapM g = some r
  | [], r, h => by simpa using h
  | x :: l, r, h => by
    simp only [List.mapM_cons, Option.pure_def, Option.bind_eq_bind, Option.bind_eq_some_iff, Option.some.injEq] at h ⊢
    obtain ⟨b, hb, bs, hbs, rfl⟩ := h
    exact ⟨b, hfg _ _ hb, bs, mapM_more hfg hbs, rfl⟩
theorem freezeL_more (hM : More H H') {vs : List AVal} {r : List AVal × List Nat} (h : freezeL H vs = some r) : freezeL H' vs = some r := by
  unfold freezeL at h ⊢
  simp only [Option.map_eq_some_iff] at h ⊢
  obtain ⟨ys, hys, rfl⟩ := h
  exact ⟨ys, mapM_more (fun v r h => freeze_more hM _ h) hys, rfl⟩

/-- A call in an empty heap: what the caller's heap is like plays no part but for the arguments. -/
theorem callPure_more (hM : More H H') {rec : Task → Option Res} {f : FuncId} {args : List AVal} {r : PR} (h : callPure rec C f args H = some r) : callPure rec C f args H' = some r := by
  unfold callPure at h ⊢
  obtain ⟨⟨as, ids⟩, hfz, h2⟩ := bindo h
  rw [freezeL_more hM hfz, Option.bind_some]
  exact h2

/-- The function that an operation calls, if it does. -/
noncomputable def entersA (C : Ctx) (e : Env) (o : Oper) : Option (FuncId × List AVal) :=
  match o.op with
  | .call { callee := .value f, args, .. } => match opd e f with
    | .func g as caps => (opcs e args.toList).map fun vs => (g, as ++ vs ++ caps)
    | _ => none
  | .call { callee := .invoke r name, args, .. } => match opd e r with
    | .iface t v => (C.meth t name).bind fun f => (opcs e args.toList).map fun vs => (f, v :: vs)
    | _ => none
  | _ => none

theorem evX_enters {e : Env} {o : Oper} {f : FuncId} {args : List AVal} (h : evX C e H o = some (.enter f args)) : entersA C e o = some (f, args) := by
  unfold evX at h
  split at h
  · split at h
    · cases h
    · obtain ⟨x, _, h2⟩ := bindo h
      simp only [Option.map_eq_some_iff] at h2
      obtain ⟨_, _, h3⟩ := h2; cases h3
  · split at h
    · cases h
    · obtain ⟨x, _, h2⟩ := bindo h
      simp only [Option.map_eq_some_iff] at h2
      obtain ⟨_, _, h3⟩ := h2; cases h3
  · split at h
    · cases h
    · obtain ⟨x, _, h2⟩ := bindo h
      simp only [Option.map_eq_some_iff] at h2
      obtain ⟨_, _, h3⟩ := h2; cases h3
  · simp only [Option.map_eq_some_iff] at h
    obtain ⟨_, _, h3⟩ := h; cases h3
  · split at h
    · cases h
    · obtain ⟨x, _, h2⟩ := bindo h
      simp only [Option.map_eq_some_iff] at h2
      obtain ⟨_, _, h3⟩ := h2; cases h3
  · split at h
    · split at h
      · split at h
        · split at h
          cases h
        · cases h
      · cases h
    · cases h
  · split at h <;> cases h
  · split at h
    · simp only [Option.map_eq_some_iff] at h
      obtain ⟨_, _, h2⟩ := h
      cases h2
    · cases h
  · rename_i hop
    unfold entersA
    rw [hop]
    dsimp only
    split at h
    · rename_i hf
      simp only [Option.map_eq_some_iff] at h
      obtain ⟨vs, h1, h2⟩ := h
      cases h2
      rw [hf]
      dsimp only
      rw [h1]
      rfl
    · simp only [Option.map_eq_some_iff] at h
      obtain ⟨_, _, h2⟩ := h
      cases h2
    · cases h
  · rename_i hop
    unfold entersA
    rw [hop]
    dsimp only
    split at h
    · rename_i hf
      obtain ⟨x, hx, h2⟩ := bindo h
      simp only [Option.map_eq_some_iff] at h2
      obtain ⟨vs, h1, h3⟩ := h2
      cases h3
      rw [hf]
      dsimp only
      rw [hx, Option.bind_some, h1]
      rfl
    · cases h
  · split at h
    · split at h
      · obtain ⟨U, _, h2⟩ := bindo h
        clear h
        split at h2
        · simp only [Option.map_eq_some_iff] at h2
          obtain ⟨_, _, h3⟩ := h2; cases h3
        · simp only [Option.map_eq_some_iff] at h2
          obtain ⟨_, _, h3⟩ := h2; cases h3
        · cases h2
      · cases h
    · split at h
      · simp only [Option.map_eq_some_iff] at h
        obtain ⟨_, _, h3⟩ := h; cases h3
      · cases h
    · split at h
      · simp only [Option.map_eq_some_iff] at h
        obtain ⟨_, _, h3⟩ := h; cases h3
      · cases h
    · cases h
    · split at h <;> cases h
    · split at h
      · cases h
      · obtain ⟨T, _, h2⟩ := bindo h
        clear h
        split at h2
        · obtain ⟨U, _, h3⟩ := bindo h2
          clear h2
          split at h3
          · split at h3
            · simp only [Option.map_eq_some_iff] at h3
              obtain ⟨_, _, h4⟩ := h3; cases h4
            · cases h3
          · cases h3
        · cases h2
      · cases h
    · cases h
  · cases h

theorem enters_evX {e : Env} {o : Oper} {f : FuncId} {args : List AVal} (h : entersA C e o = some (f, args)) : evX C e H o = some (.enter f args) := by
  unfold entersA at h
  split at h
  · rename_i hop
    split at h
    · rename_i hf
      simp only [Option.map_eq_some_iff, Prod.mk.injEq] at h
      obtain ⟨vs, h1, rfl, rfl⟩ := h
      unfold evX
      rw [hop]
      dsimp only
      rw [hf]
      dsimp only
      rw [h1]
      rfl
    · cases h
  · rename_i hop
    split at h
    · rename_i hf
      obtain ⟨x, hx, h2⟩ := bindo h
      simp only [Option.map_eq_some_iff, Prod.mk.injEq] at h2
      obtain ⟨vs, h1, rfl, rfl⟩ := h2
      unfold evX
      rw [hop]
      dsimp only
      rw [hf]
      dsimp only
      rw [hx, Option.bind_some, h1]
      rfl
    · cases h
  · cases h
/-- Whether an operation is a call does not depend on the heap. -/
theorem evX_enter_any {e : Env} {o : Oper} {f : FuncId} {args : List AVal} (h : evX C e H o = some (.enter f args)) : evX C e H' o = some (.enter f args) := enters_evX (evX_enters h)
end
end Go.Ev
/- A plan that is run, entry by entry. Each theorem bears its own conditions. -/
set_option linter.unusedVariables false
set_option linter.unusedSectionVars false
set_option linter.unusedSimpArgs false
namespace Go.Ev
open Go.RowKit
variable [Globs]
section
variable {H H' : Heap} {C : Ctx} {rec : Task → Option Res}

/-! ### The same values -/
theorem beqL_eq {f : AVal → AVal → Bool} (hf : ∀ x y, f x y = true → x = y) : ∀ {xs ys : List AVal}, beqL f xs ys = true → xs = ys
  | [], [], _ => rfl
  | [], _ :: _, h => by simp [beqL] at h
  | _ :: _, [], h => by simp [beqL] at h
  | x :: xs, y :: ys, h => by
    simp only [beqL, Bool.and_eq_true] at h
    rw [hf x y h.1, beqL_eq hf h.2]
theorem beqN_eq : ∀ (n : Nat) (x y : AVal), beqN n x y = true → x = y
  | 0, _, _, h => by simp [beqN] at h
  | n + 1, x, y, h => by
    unfold beqN at h
    have ih := beqN_eq n
    split at h <;> first
      | rfl
      | (simp only [Bool.and_eq_true, beq_iff_eq] at h; simp_all; done)
      | (simp only [Bool.and_eq_true, beq_iff_eq] at h
         first
          | (obtain ⟨h1, h2⟩ := h; rw [h1, beqL_eq ih h2])
          | (rw [beqL_eq ih h])
          | (obtain ⟨⟨h1, h2⟩, h3⟩ := h; rw [h1, beqL_eq ih h2, beqL_eq ih h3])
          | (obtain ⟨h1, h2⟩ := h; rw [h1, ih _ _ h2]))
      | (rw [beqL_eq ih h]; done)
      | cases h
theorem beqE_eq (n : Nat) : ∀ (xs ys : List (AVal × AVal × Nat)), beqE n xs ys = true → xs = ys
  | [], [], _ => rfl
  | [], _ :: _, h => by simp [beqE] at h
  | _ :: _, [], h => by simp [beqE] at h
  | (a, b, c) :: xs, (a', b', c') :: ys, h => by
    simp only [beqE, Bool.and_eq_true, beq_iff_eq] at h
    rw [beqN_eq n _ _ h.1.1.1, beqN_eq n _ _ h.1.1.2, h.1.2, beqE_eq n xs ys h.2]
theorem beqO_eq (n : Nat) (x y : AObj) (h : beqO n x y = true) : x = y := by
  unfold beqO at h
  split at h
  · simp only [Bool.and_eq_true, beq_iff_eq] at h
    obtain ⟨⟨h1, h2⟩, h3⟩ := h
    rw [h1, h2, beqL_eq (beqN_eq n) h3]
  · simp only [Bool.and_eq_true, beq_iff_eq] at h
    obtain ⟨⟨⟨⟨h1, h2⟩, h3⟩, h4⟩, h5⟩ := h
    rw [h1, h2, h3, h4, beqL_eq (beqN_eq n) h5]
  · simp only [Bool.and_eq_true, beq_iff_eq] at h
    rw [beqE_eq n _ _ h.1, h.2]
  · simp only [Bool.and_eq_true, beq_iff_eq] at h
    rw [h.1, h.2]
  · cases h
theorem sameEnv_eq : ∀ (e f : Env), sameEnv e f = true → e = f
  | [], [], _ => rfl
  | [], _ :: _, h => by simp [sameEnv] at h
  | _ :: _, [], h => by simp [sameEnv] at h
  | (t, v) :: e, (u, w) :: f, h => by
    simp only [sameEnv, Bool.and_eq_true, beq_iff_eq] at h
    rw [h.1.1, beqN_eq _ _ _ h.1.2, sameEnv_eq e f h.2]
theorem sameHeap_eq : ∀ (H K : Heap), sameHeap H K = true → H = K
  | [], [], _ => rfl
  | [], _ :: _, h => by simp [sameHeap] at h
  | _ :: _, [], h => by simp [sameHeap] at h
  | a :: H, b :: K, h => by
    simp only [sameHeap, Bool.and_eq_true] at h
    rw [beqO_eq _ _ _ h.1, sameHeap_eq H K h.2]

/-! ### Quiet operations, calls among them -/
theorem opQ_inv {by_ : FuncId} {e : Env} {o : Oper} {v : AVal} (h : opQ rec C by_ e H o = some v) :
    evQ C e H o = some v ∨ (evQ C e H o = none ∧ ∃ f args r, entersA C e o = some (f, args) ∧ (C.pure f && !C.thaw by_ f && (C.hprim f).isNone) = true ∧ callPure rec C f args H = some r ∧ (r.ok && (flat r.v || r.ids.isEmpty)) = true ∧ v = r.v) := by
  unfold opQ at h
  split at h
  · rename_i hq; cases h; exact .inl hq
  · rename_i hq
    split at h
    · rename_i f args hx
      split at h
      · rename_i hc
        obtain ⟨r, hr, h2⟩ := bindo h
        split at h2
        · rename_i hk
          cases h2
          exact .inr ⟨hq, f, args, r, evX_enters hx, hc, hr, hk, rfl⟩
        · cases h2
      · cases h
    · cases h
theorem evQ_call_none {e : Env} {o : Oper} {f : FuncId} {args : List AVal} (h : entersA C e o = some (f, args)) : evQ C e H o = none := by
  unfold entersA at h
  split at h
  · rename_i hop; unfold evQ; rw [hop]
  · rename_i hop; unfold evQ; rw [hop]
  · cases h
theorem opQ_of_call {by_ : FuncId} {e : Env} {o : Oper} {f : FuncId} {args : List AVal} {r : PR} (h1 : entersA C e o = some (f, args)) (h2 : (C.pure f && !C.thaw by_ f && (C.hprim f).isNone) = true) (h3 : callPure rec C f args H = some r) (h4 : (r.ok && (flat r.v || r.ids.isEmpty)) = true) :
    opQ rec C by_ e H o = some r.v := by
  unfold opQ
  rw [evQ_call_none h1]
  dsimp only
  rw [enters_evX h1]
  dsimp only
  rw [if_pos h2, h3, Option.bind_some, if_pos h4]
theorem opQ_of_quiet {by_ : FuncId} {e : Env} {o : Oper} {v : AVal} (h : evQ C e H o = some v) : opQ rec C by_ e H o = some v := by unfold opQ; rw [h]
theorem opQ_more (hM : More H H') {by_ : FuncId} {e : Env} {o : Oper} {v : AVal} (h : opQ rec C by_ e H o = some v) : opQ rec C by_ e H' o = some v := by
  rcases opQ_inv h with h | ⟨_, f, args, r, h1, h2, h3, h4, rfl⟩
  · exact opQ_of_quiet (evQ_more hM h)
  · exact opQ_of_call h1 h2 (callPure_more hM h3) h4
theorem entersA_looks {e : Env} {o : Oper} {f : FuncId} {args : List AVal} (h : entersA C e o = some (f, args)) : looks o = true := by
  unfold entersA at h
  split at h
  · rename_i hop; unfold looks; rw [hop]
  · rename_i hop; unfold looks; rw [hop]
  · cases h
theorem opQ_blind {by_ : FuncId} {e : Env} {o : Oper} {v : AVal} (hb : looks o = false) (h : opQ rec C by_ e H o = some v) : opQ rec C by_ e H' o = some v := by
  rcases opQ_inv h with h | ⟨_, f, args, r, h1, h2, h3, h4, rfl⟩
  · exact opQ_of_quiet ((evQ_blind hb).symm.trans h)
  · rw [entersA_looks h1] at hb; cases hb
theorem opQ_env {by_ : FuncId} {e e' : Env} {o : Oper} (h : ∀ t ∈ readsOf o, get e t = get e' t) : opQ rec C by_ e H o = opQ rec C by_ e' H o := by
  unfold opQ
  rw [evQ_env h, evX_env h]

def St.withEnv (s : St) (e : Env) : St := { s with env := e }
def OA.withEnv (e : Env) : OA → OA
  | .ok v s => .ok v (s.withEnv e)
  | .pan v s => .pan v (s.withEnv e)

theorem yieldA_env {id : Nat} {args : List AVal} {s : St} {e : Env} {x : OA} (h : yieldA rec C id args s = some x) : yieldA rec C id args (s.withEnv e) = some (x.withEnv e) := by
  unfold yieldA at h ⊢
  have hH : (s.withEnv e).H = s.H := rfl
  simp only [hH]
  split at h
  · split at h
    · cases h
    rename_i hl
    rw [if_neg hl]
    split at h
    · split at h
      · split at h
        · split at h
          · cases h
          rename_i hd
          rw [if_neg hd]
          split at h
          · split at h <;> (cases h; rfl)
          · cases h
        · cases h
      · cases h
    · cases h
  · cases h

theorem opX_env {s : St} {e : Env} {o : Oper} {x : OA} (hr : ∀ t ∈ readsOf o, get s.env t = get e t) (h : opX rec C s o = some x) : opX rec C (s.withEnv e) o = some (x.withEnv e) := by
  unfold opX at h ⊢
  obtain ⟨y, hy, h2⟩ := bindo h
  clear h
  rw [show evX C (s.withEnv e).env (s.withEnv e).H o = some y from (evX_env (H := s.H) hr).symm.trans hy, Option.bind_some]
  split at h2
  · cases h2; rfl
  · simp only [Option.map_eq_some_iff] at h2
    obtain ⟨r, h3, h4⟩ := h2
    rw [show callA rec C (s.withEnv e).fn _ _ (s.withEnv e).H = some r from h3]
    subst h4
    cases r <;> rfl
  · exact yieldA_env h2
  · rw [show (s.withEnv e).pan = s.pan from rfl, show (s.withEnv e).recd = s.recd from rfl]
    split at h2
    · cases h2
    · split at h2
      · rename_i hr; rw [if_pos hr]; cases h2; rfl
      · rename_i hr; rw [if_neg hr]; cases h2; rfl
    · cases h2; rfl
  · rw [show (s.withEnv e).pan = s.pan from rfl]
    split at h2
    · cases h2
    · rename_i h3
      cases hp : s.pan with
      | none => cases h2; simp [OA.withEnv, St.withEnv, hp]
      | some v => cases v <;> first | (exact absurd hp h3) | (cases h2; simp [OA.withEnv, St.withEnv, hp])
  · cases h2; rfl

/-- Of the state all but heap, deferred calls and what was recovered stays. -/
theorem opX_keeps {s : St} {o : Oper} {x : OA} (h : opX rec C s o = some x) : x.st.fn = s.fn ∧ x.st.env = s.env ∧ x.st.pan = s.pan := by
  unfold opX at h
  obtain ⟨y, hy, h2⟩ := bindo h
  clear h
  split at h2
  · cases h2; exact ⟨rfl, rfl, rfl⟩
  · simp only [Option.map_eq_some_iff] at h2
    obtain ⟨r, h3, h4⟩ := h2
    subst h4
    cases r
    · exact ⟨rfl, rfl, rfl⟩
    · exact ⟨rfl, rfl, rfl⟩
  · unfold yieldA at h2
    split at h2
    · split at h2
      · cases h2
      · split at h2
        · split at h2
          · split at h2
            · split at h2
              · cases h2
              · split at h2
                · split at h2
                  · cases h2; exact ⟨rfl, rfl, rfl⟩
                  · cases h2; exact ⟨rfl, rfl, rfl⟩
                  · cases h2; exact ⟨rfl, rfl, rfl⟩
                · cases h2
            · cases h2
          · cases h2
        · cases h2
    · cases h2
  · split at h2
    · cases h2
    · split at h2
      · cases h2; exact ⟨rfl, rfl, rfl⟩
      · cases h2; exact ⟨rfl, rfl, rfl⟩
    · cases h2; exact ⟨rfl, rfl, rfl⟩
  · split at h2
    · cases h2
    · cases h2; exact ⟨rfl, rfl, rfl⟩
  · cases h2; exact ⟨rfl, rfl, rfl⟩
end
end Go.Ev
/- Orders in which a region may be gone through, and what a plan for it must meet. Each theorem bears its own conditions. -/
set_option linter.unusedVariables false
set_option linter.unusedSectionVars false
set_option linter.unusedSimpArgs false
namespace Go.Ev
open Go.RowKit
variable [Globs]

/-- What an operation comes behind. -/
def edgesX (ops : Array Oper) (ex : List (Nat × Nat)) (i : Nat) : List Nat :=
  (match ops[i]? with
    | some o => (o.after.toList.filter fun e => Region.binds .any e).map (·.on)
    | none => []) ++ (ex.filter fun p => p.2 == i).map (·.1)
def lookN : List (Nat × Nat) → Nat → Option Nat
  | [], _ => none
  | (k, m) :: r, i => if k == i then some m else lookN r i
def orM (M : List (Nat × Nat)) : List Nat → Option Nat
  | [] => some 0
  | e :: r => (lookN M e).bind fun m => (orM M r).map fun k => (k ||| m) ||| 2 ^ e
/-- Which operations stand ahead of each, whatever the order. -/
def masksOf (ops : Array Oper) (ex : List (Nat × Nat)) : List Nat → List (Nat × Nat) → Option (List (Nat × Nat))
  | [], M => some M
  | i :: r, M => if (lookN M i).isSome || decide (ops.size ≤ i) then none else (orM M (edgesX ops ex i)).bind fun m => masksOf ops ex r ((i, m) :: M)
def hasM (M : List (Nat × Nat)) (i j : Nat) : Bool :=
  match lookN M i with
  | some m => m.testBit j
  | none => false
def chkA (M : List (Nat × Nat)) : List (Nat × Nat) → Bool
  | [] => true
  | (i, k) :: r => Nat.ble k 2 && (k != 2 || r.all fun x => hasM M x.1 i) && chkA M r
def chkB (ops : Array Oper) (M : List (Nat × Nat)) (wins : List (Nat × Nat × Nat)) (chain : List Nat) : List (Nat × Nat) → Nat → Bool
  | [], _ => true
  | (i, k) :: r, p =>
    (if k == 2 then true else match winOf wins i with
      | some (lo, hi) => Nat.ble lo p && Nat.ble p hi && (match chain[hi]? with
        | some c => hasM M c i
        | none => true)
      | none => (k == 0 && (match ops[i]? with | some o => !looks o | none => false)) || (match chain[p]? with
        | some c => hasM M c i
        | none => true)) && chkB ops M wins chain r (if k == 2 then p + 1 else p)
def dstOf (ops : Array Oper) (i : Nat) : Option Nat := (ops[i]?).bind (·.dst)
/-- The slots that an operation rests on, its guard's too. -/
def restsOn (ops : Array Oper) (o : Oper) : List Nat :=
  readsOf o ++ (match o.guard with
    | some (j, _) => (dstOf ops j).toList
    | none => [])
def chkO (ops : Array Oper) (M : List (Nat × Nat)) (idx : List Nat) : Bool :=
  idx.all fun i => match ops[i]? with
    | some o => (restsOn ops o).all fun t => idx.all fun j => dstOf ops j != some t || hasM M i j || hasM M j i
    | none => false
def nodupN : List Nat → Bool
  | [] => true
  | x :: r => !r.contains x && nodupN r
/-- Do the edges of a mode lead back, along this order? -/
def ordB (md : Region.Mode) (ops : Array Oper) : List Nat → List Nat → Bool
  | [], _ => true
  | i :: r, X => (match ops[i]? with
    | some o => o.after.toList.all fun e => !Region.binds md e || X.contains e.on
    | none => false) && ordB md ops r (i :: X)
def modesB (ops : Array Oper) : Bool :=
  !Region.departs ops || (ordB .text ops (List.range ops.size) [] && ordB .gc ops (Region.linearise .gc ops 0) [] && (List.range ops.size).all fun i => (Region.linearise .gc ops 0).contains i)
def okPlan (ops : Array Oper) (p : Plan) (ex : List (Nat × Nat)) : Bool :=
  modesB ops &&
  match masksOf ops ex (p.steps.map (·.1)) [] with
  | none => false
  | some M => ((List.range ops.size).all fun i => (lookN M i).isSome) && chkA M p.steps &&
    chkB ops M p.wins ((p.steps.filter fun x => x.2 == 2).map (·.1)) p.steps 0 && chkO ops M (p.steps.map (·.1)) && nodupN ((p.steps.map (·.1)).filterMap (dstOf ops))

/-! ### What the masks say -/
def Closed (ops : Array Oper) (ex : List (Nat × Nat)) (X : List Nat) : Prop := ∀ i ∈ X, ∀ e ∈ edgesX ops ex i, e ∈ X

section
variable {ops : Array Oper} {ex : List (Nat × Nat)}
def MaskOk (ops : Array Oper) (ex : List (Nat × Nat)) (M : List (Nat × Nat)) : Prop :=
  ∀ i m, lookN M i = some m → ∀ j, m.testBit j = true → ∀ X, Closed ops ex X → (∀ e ∈ edgesX ops ex i, e ∈ X) → j ∈ X

theorem orM_sem {M : List (Nat × Nat)} (hM : MaskOk ops ex M) : ∀ {l : List Nat} {m : Nat}, orM M l = some m → ∀ j, m.testBit j = true → ∀ X, Closed ops ex X → (∀ e ∈ l, e ∈ X) → j ∈ X
  | [], m, h, j, hj, X, hX, hl => by cases h; simp at hj
  | e :: r, m, h, j, hj, X, hX, hl => by
    obtain ⟨me, hme, h2⟩ := bindo h
    simp only [Option.map_eq_some_iff] at h2
    obtain ⟨k, hk, rfl⟩ := h2
    simp only [Nat.testBit_or, Bool.or_eq_true, Nat.testBit_two_pow, decide_eq_true_eq] at hj
    rcases hj with (hj | hj) | hj
    · exact orM_sem hM hk j hj X hX fun e he => hl e (.tail _ he)
    · exact hM e me hme j hj X hX (hX e (hl e (.head _)))
    · subst hj; exact hl e (.head _)
theorem orM_in {M : List (Nat × Nat)} : ∀ {l : List Nat} {m : Nat}, orM M l = some m → ∀ e ∈ l, (lookN M e).isSome = true
  | e :: r, m, h, e', he => by
    obtain ⟨me, hme, h2⟩ := bindo h
    simp only [Option.map_eq_some_iff] at h2
    obtain ⟨k, hk, rfl⟩ := h2
    rcases List.mem_cons.1 he with rfl | he
    · rw [hme]; rfl
    · exact orM_in hk e' he

theorem lookN_cons {i j m : Nat} {M : List (Nat × Nat)} : lookN ((i, m) :: M) j = if i = j then some m else lookN M j := by
  by_cases h : i = j <;> simp [lookN, h]

/-- M lies in the order in which it was made: what a mask holds lies behind. -/
def Layered : List (Nat × Nat) → Prop
  | [] => True
  | (i, m) :: r => (lookN r i = none) ∧ (∀ j, m.testBit j = true → (lookN r j).isSome = true) ∧ Layered r

theorem orM_back {M : List (Nat × Nat)} (hL : Layered M) : ∀ {l : List Nat} {m : Nat}, orM M l = some m → ∀ j, m.testBit j = true → (lookN M j).isSome = true := by
  have inner : ∀ {M : List (Nat × Nat)}, Layered M → ∀ e me, lookN M e = some me → ∀ j, me.testBit j = true → (lookN M j).isSome = true := by
    intro M
    induction M with
    | nil => intro _ e me h; cases h
    | cons p r ih =>
      obtain ⟨i, m⟩ := p
      intro hL e me h j hj
      obtain ⟨h1, h2, h3⟩ := hL
      rw [lookN_cons] at h ⊢
      split at h
      · cases h
        split
        · rfl
        · exact h2 j hj
      · split
        · rfl
        · exact ih h3 e me h j hj
  intro l
  induction l with
  | nil => intro m h j hj; cases h; simp at hj
  | cons e r ih =>
    intro m h j hj
    obtain ⟨me, hme, h2⟩ := bindo h
    simp only [Option.map_eq_some_iff] at h2
    obtain ⟨k, hk, rfl⟩ := h2
    simp only [Nat.testBit_or, Bool.or_eq_true, Nat.testBit_two_pow, decide_eq_true_eq] at hj
    rcases hj with (hj | hj) | hj
    · exact ih hk j hj
    · exact inner hL e me hme j hj
    · subst hj; rw [hme]; rfl

theorem masks_sem : ∀ {idx : List Nat} {M0 M : List (Nat × Nat)}, masksOf ops ex idx M0 = some M → MaskOk ops ex M0 → Layered M0 →
    MaskOk ops ex M ∧ Layered M ∧ M.map (·.1) = idx.reverse ++ M0.map (·.1) ∧ ∀ i ∈ idx, i < ops.size
  | [], M0, M, h, h1, h2 => by cases h; exact ⟨h1, h2, by simp, by simp⟩
  | i :: r, M0, M, h, h1, h2 => by
    unfold masksOf at h
    split at h
    · cases h
    rename_i hc
    simp only [Bool.or_eq_true, decide_eq_true_eq, not_or, Bool.not_eq_true, Option.isSome_eq_false_iff, Option.isNone_iff_eq_none, Nat.not_le] at hc
    obtain ⟨m, hm, h3⟩ := bindo h
    obtain ⟨g1, g2, g3, g4⟩ := masks_sem h3 (by
      intro k mk hk j hj X hX he
      rw [lookN_cons] at hk
      split at hk
      · rename_i hik; subst hik; cases hk
        exact orM_sem h1 hm j hj X hX he
      · exact h1 k mk hk j hj X hX he) ⟨hc.1, orM_back h2 hm, h2⟩
    refine ⟨g1, g2, by rw [g3]; simp, fun k hk => ?_⟩
    rcases List.mem_cons.1 hk with rfl | hk
    · exact hc.2
    · exact g4 k hk

theorem hasM_sem {M : List (Nat × Nat)} (hM : MaskOk ops ex M) {i j : Nat} (h : hasM M i j = true) {X : List Nat} (hX : Closed ops ex X) (he : ∀ e ∈ edgesX ops ex i, e ∈ X) : j ∈ X := by
  unfold hasM at h
  split at h
  next m hm => exact hM i m hm j h X hX he
  next => cases h
theorem lookN_mem {M : List (Nat × Nat)} {i : Nat} : (lookN M i).isSome = true ↔ i ∈ M.map (·.1) := by
  induction M with
  | nil => simp [lookN]
  | cons p r ih =>
    obtain ⟨k, m⟩ := p
    rw [lookN_cons]
    by_cases h : k = i
    · simp [h]
    · rw [if_neg h, ih]; simp [Ne.symm h]
theorem layered_append {A R : List (Nat × Nat)} : Layered (A ++ R) → Layered R := by
  induction A with
  | nil => exact fun h => h
  | cons p A ih => exact fun h => ih h.2.2
/-- What a mask holds comes earlier in the plan. -/
theorem hasM_before : ∀ {M : List (Nat × Nat)}, Layered M → ∀ {i j : Nat} {S1 S2 : List Nat}, M.map (·.1) = (S1 ++ i :: S2).reverse → hasM M i j = true → j ∈ S1 := by
  intro M
  induction M with
  | nil => intro _ i j S1 S2 hi; simp at hi
  | cons p r ih =>
    obtain ⟨k, m⟩ := p
    intro hL i j S1 S2 hi h
    have hnd : lookN r k = none := hL.1
    rcases List.eq_nil_or_concat S2 with rfl | ⟨S2', z, rfl⟩
    · simp only [List.reverse_append, List.reverse_cons, List.reverse_nil, List.nil_append, List.singleton_append, List.map_cons, List.cons.injEq] at hi
      obtain ⟨rfl, hr⟩ := hi
      unfold hasM at h
      rw [lookN_cons, if_pos rfl] at h
      have := lookN_mem.1 (hL.2.1 j h)
      rw [hr] at this
      simpa using this
    · have hi2 : k = z ∧ r.map (·.1) = (S1 ++ i :: S2').reverse := by simpa [List.concat_eq_append] using hi
      obtain ⟨rfl, hr⟩ := hi2
      have hik : k ≠ i := by
        intro hki
        subst hki
        have : k ∈ r.map (·.1) := by rw [hr]; simp
        rw [← lookN_mem, hnd] at this
        cases this
      unfold hasM at h
      rw [lookN_cons, if_neg hik] at h
      exact ih hL.2.2 hr h
end
end Go.Ev
/- The orders that may be drawn. Each theorem bears its own conditions. -/
set_option linter.unusedVariables false
set_option linter.unusedSectionVars false
set_option linter.unusedSimpArgs false
namespace Go.Ev
open Go.RowKit
variable [Globs]
section
variable {ops : Array Oper} {ex : List (Nat × Nat)}

/-- An order in which what is left may be gone through. -/
def Sched (ops : Array Oper) (ex : List (Nat × Nat)) : List Nat → List Nat → Prop
  | X, [] => ∀ i, i < ops.size → i ∈ X
  | X, i :: r => i < ops.size ∧ i ∉ X ∧ (∀ e ∈ edgesX ops ex i, e ∈ X) ∧ Sched ops ex (i :: X) r

theorem filter_lt {l : List Nat} {p q : Nat → Bool} (hpq : ∀ x ∈ l, q x = true → p x = true) {a : Nat} (ha : a ∈ l) (hp : p a = true) (hq : q a = false) : (l.filter q).length < (l.filter p).length := by
  have le : ∀ l : List Nat, (∀ x ∈ l, q x = true → p x = true) → (l.filter q).length ≤ (l.filter p).length := by
    intro l
    induction l with
    | nil => simp
    | cons x l ih =>
      intro h
      have ih := ih fun y hy => h y (.tail _ hy)
      have hx := h x (.head _)
      rw [List.filter_cons, List.filter_cons]
      cases hqx : q x
      · cases hpx : p x <;> simp <;> omega
      · rw [hx hqx]; simp; exact ih
  induction l with
  | nil => cases ha
  | cons x l ih =>
    have h1 := le l fun y hy => hpq y (.tail _ hy)
    rw [List.filter_cons, List.filter_cons]
    rcases List.mem_cons.1 ha with rfl | ha
    · rw [hp, hq]; simp; omega
    · have ih := ih (fun y hy => hpq y (.tail _ hy)) ha
      have hx := hpq x (.head _)
      cases hqx : q x
      · cases hpx : p x <;> simp <;> omega
      · rw [hx hqx]; simp; exact ih

theorem masks_ready : ∀ {idx : List Nat} {M0 M : List (Nat × Nat)} {X : List Nat}, masksOf ops ex idx M0 = some M → (∀ i ∈ M0.map (·.1), i ∈ X) → (∀ i ∈ idx, (∀ e ∈ edgesX ops ex i, e ∈ X) → i ∈ X) → ∀ i ∈ idx, i ∈ X
  | i :: r, M0, M, X, h, h0, hr, k, hk => by
    unfold masksOf at h
    split at h
    · cases h
    obtain ⟨m, hm, h3⟩ := bindo h
    have hi : i ∈ X := hr i (.head _) fun e he => h0 e (lookN_mem.1 (orM_in hm e he))
    rcases List.mem_cons.1 hk with rfl | hk
    · exact hi
    · exact masks_ready h3 (fun j hj => by rcases List.mem_cons.1 hj with rfl | hj; exact hi; exact h0 j hj) (fun j hj => hr j (.tail _ hj)) k hk

theorem edgesX_nil (i : Nat) : edgesX ops [] i = (match ops[i]? with
    | some o => (o.after.toList.filter fun e => Region.binds .any e).map (·.on)
    | none => []) := by unfold edgesX; simp <;> rfl
theorem edgesX_sub {i e : Nat} (h : e ∈ edgesX ops [] i) : e ∈ edgesX ops ex i := by
  rw [edgesX_nil] at h
  exact List.mem_append.2 (.inl h)
theorem binds_any {md : Region.Mode} {e : Edge} (h : Region.binds .any e = true) : Region.binds md e = true := by
  unfold Region.binds at h ⊢
  cases hg : e.ground <;> simp [hg] at h ⊢

theorem ord_ready {md : Region.Mode} : ∀ {l X0 : List Nat} {X : List Nat}, ordB md ops l X0 = true → (∀ i ∈ X0, i ∈ X) → (∀ i ∈ l, ∀ o, ops[i]? = some o → (∀ e ∈ o.after.toList, Region.binds md e = true → e.on ∈ X) → i ∈ X) → ∀ i ∈ l, i ∈ X
  | i :: r, X0, X, h, h0, hr, k, hk => by
    simp only [ordB, Bool.and_eq_true] at h
    obtain ⟨h1, h2⟩ := h
    have hi : i ∈ X := by
      split at h1
      · rename_i o ho
        rw [List.all_eq_true] at h1
        refine hr i (.head _) o ho fun e he hb => h0 _ ?_
        have := h1 e he
        rw [hb] at this
        simpa using this
      · cases h1
    rcases List.mem_cons.1 hk with rfl | hk
    · exact hi
    · exact ord_ready h2 (fun j hj => by rcases List.mem_cons.1 hj with rfl | hj; exact hi; exact h0 j hj) (fun j hj => hr j (.tail _ hj)) k hk

theorem sched_go {md : Region.Mode} (hord : ∀ X : List Nat, (∀ i, i < ops.size → ∀ o, ops[i]? = some o → (∀ e ∈ o.after.toList, Region.binds md e = true → e.on ∈ X) → i ∈ X) → ∀ i, i < ops.size → i ∈ X) :
    ∀ (fuel t : Nat) (listed : Array Bool) (X : List Nat), listed.size = ops.size → (∀ i, i < ops.size → (listed.getD i true = true ↔ i ∈ X)) → (∀ i ∈ X, i < ops.size) → ((List.range ops.size).filter fun i => !listed.getD i true).length ≤ fuel →
      Sched ops [] X (Region.linearise.go md ops fuel t listed [])
  | 0, t, listed, X, hs, hX, hXs, hc => by
    simp only [Region.linearise.go, List.reverse_nil, Sched]
    intro i hi
    have h0 : ((List.range ops.size).filter fun i => !listed.getD i true) = [] := List.eq_nil_of_length_eq_zero (by omega)
    have := List.filter_eq_nil_iff.1 h0 i (List.mem_range.2 hi)
    exact (hX i hi).1 (by simpa using this)
  | fuel + 1, t, listed, X, hs, hX, hXs, hc => by
    simp only [Region.linearise.go]
    change Sched ops [] X (match (Region.ready md ops listed)[t % (Region.ready md ops listed).length]? with
      | some i => Region.linearise.go md ops fuel (t / (Region.ready md ops listed).length) (listed.setIfInBounds i true) [i]
      | none => [].reverse)
    have hready : ∀ i, i ∈ Region.ready md ops listed ↔ (i < ops.size ∧ listed.getD i true = false ∧ ∃ o, ops[i]? = some o ∧ ∀ e ∈ o.after.toList, Region.binds md e = true → listed.getD e.on false = true) := by
      intro i
      unfold Region.ready
      rw [List.mem_filter, List.mem_range]
      constructor
      · rintro ⟨h1, h2⟩
        simp only [Bool.and_eq_true, Bool.not_eq_true'] at h2
        refine ⟨h1, h2.1, ops[i], by simp [h1], fun e he hb => ?_⟩
        have h3 := h2.2
        rw [show ops[i]? = some ops[i] by simp [h1]] at h3
        simp only [Option.map_some, Option.getD_some] at h3
        rw [← Array.all_toList, List.all_eq_true] at h3
        have := h3 e he
        rw [hb] at this
        simpa using this
      · rintro ⟨h1, h2, o, ho, h3⟩
        refine ⟨h1, ?_⟩
        rw [h2, ho]
        simp only [Bool.not_false, Option.map_some, Option.getD_some, Bool.true_and]
        rw [← Array.all_toList, List.all_eq_true]
        intro e he
        cases hb : Region.binds md e with
        | false => rfl
        | true => rw [h3 e he hb]; rfl
    have hlt : ∀ e, listed.getD e false = true → e ∈ X := by
      intro e he
      by_cases hes : e < ops.size
      · refine (hX e hes).1 ?_
        rw [Array.getD_eq_getD_getElem?] at he ⊢
        have : e < listed.size := by omega
        rw [Array.getElem?_eq_getElem this] at he ⊢
        exact he
      · rw [Array.getD_eq_getD_getElem?, Array.getElem?_eq_none (by omega)] at he
        cases he
    have hlt' : ∀ e, e ∈ X → listed.getD e false = true := by
      intro e he
      have hes := hXs e he
      have := (hX e hes).2 he
      rw [Array.getD_eq_getD_getElem?] at this ⊢
      have hsz : e < listed.size := by omega
      rw [Array.getElem?_eq_getElem hsz] at this ⊢
      exact this
    cases hi : (Region.ready md ops listed)[t % (Region.ready md ops listed).length]? with
    | none =>
      have hnil : Region.ready md ops listed = [] := by
        cases hr : Region.ready md ops listed with
        | nil => rfl
        | cons x xs =>
          rw [hr] at hi
          have hlt : t % (x :: xs).length < (x :: xs).length := Nat.mod_lt _ (by simp)
          simp at hi
          simp at hlt
          omega
      simp only [List.reverse_nil, Sched]
      refine hord X fun i his o ho he => ?_
      by_cases hx : listed.getD i true = true
      · exact (hX i his).1 hx
      · exfalso
        have : i ∈ Region.ready md ops listed := by
          rw [hready]
          exact ⟨his, by simpa using hx, o, ho, fun e hee hb => hlt' _ (he e hee hb)⟩
        rw [hnil] at this
        cases this
    | some i =>
      simp only []
      rw [linearise_go_acc, List.reverse_singleton, List.singleton_append]
      obtain ⟨h1, h2, o, ho, h3⟩ := (hready i).1 (List.mem_of_getElem? hi)
      refine ⟨h1, fun hx => ?_, fun e he => ?_, ?_⟩
      · rw [(hX i h1).2 hx] at h2; cases h2
      · rw [edgesX_nil, ho] at he
        obtain ⟨e', he', rfl⟩ := List.mem_map.1 he
        obtain ⟨he1, he2⟩ := List.mem_filter.1 he'
        exact hlt e'.on (h3 e' he1 (binds_any he2))
      · refine sched_go hord fuel _ _ (i :: X) (by simp [hs]) (fun j hj => ?_) (fun j hj => ?_) ?_
        · rw [Array.getD_eq_getD_getElem?, Array.getElem?_setIfInBounds]
          by_cases hij : i = j
          · subst hij; simp [hs, h1]
          · rw [if_neg hij, ← Array.getD_eq_getD_getElem?, hX j hj]
            simp [Ne.symm hij]
        · rcases List.mem_cons.1 hj with rfl | hj
          · exact h1
          · exact hXs j hj
        · have : ((List.range ops.size).filter fun j => !(listed.setIfInBounds i true).getD j true).length < ((List.range ops.size).filter fun j => !listed.getD j true).length := by
            refine filter_lt (a := i) (fun x hx hq => ?_) (List.mem_range.2 h1) (by simpa using h2) ?_
            · rw [Array.getD_eq_getD_getElem?, Array.getElem?_setIfInBounds] at hq
              split at hq
              · split at hq <;> simp at hq
              · rw [Array.getD_eq_getD_getElem?]; exact hq
            · rw [Array.getD_eq_getD_getElem?, Array.getElem?_setIfInBounds, if_pos rfl]
              simp [hs, h1]
          omega

/-- Of two operations one comes first. -/
theorem sched_loose {a c : Nat} (hac : a ≠ c) : ∀ {σ X : List Nat}, Sched ops [] X σ → a ∉ X → c ∉ X → Sched ops [(a, c)] X σ ∨ Sched ops [(c, a)] X σ := by
  have one : ∀ {σ X : List Nat} {p : Nat × Nat}, Sched ops [] X σ → p.1 ∈ X → Sched ops [p] X σ := by
    intro σ
    induction σ with
    | nil => intro X p h _; exact h
    | cons i r ih =>
      intro X p h hp
      obtain ⟨h1, h2, h3, h4⟩ := h
      refine ⟨h1, h2, fun e he => ?_, ih h4 (.tail _ hp)⟩
      unfold edgesX at he
      rcases List.mem_append.1 he with he | he
      · exact h3 e (by rw [edgesX_nil]; exact he)
      · rw [List.mem_map] at he
        obtain ⟨q, hq, rfl⟩ := he
        rw [List.mem_filter, List.mem_singleton] at hq
        rw [hq.1]; exact hp
  intro σ
  induction σ with
  | nil => intro X h _ _; exact .inl h
  | cons i r ih =>
    intro X h ha hc
    obtain ⟨h1, h2, h3, h4⟩ := h
    have edge : ∀ p : Nat × Nat, p.2 ≠ i → ∀ e ∈ edgesX ops [p] i, e ∈ X := by
      intro p hp e he
      unfold edgesX at he
      rcases List.mem_append.1 he with he | he
      · exact h3 e (by rw [edgesX_nil]; exact he)
      · rw [List.mem_map] at he
        obtain ⟨q, hq, rfl⟩ := he
        rw [List.mem_filter, List.mem_singleton] at hq
        obtain ⟨rfl, hq⟩ := hq
        simp at hq; exact absurd hq hp
    by_cases hia : i = a
    · subst hia
      exact .inl ⟨h1, h2, edge (i, c) (fun h => hac h.symm), one h4 (.head _)⟩
    by_cases hic : i = c
    · subst hic
      exact .inr ⟨h1, h2, edge (i, a) (fun h => hac h), one h4 (.head _)⟩
    rcases ih h4 (by simp [ha, Ne.symm hia]) (by simp [hc, Ne.symm hic]) with h | h
    · exact .inl ⟨h1, h2, edge (a, c) (fun h => hic h.symm), h⟩
    · exact .inr ⟨h1, h2, edge (c, a) (fun h => hia h.symm), h⟩

theorem sched_lin {md : Region.Mode} (hord : ∀ X : List Nat, (∀ i, i < ops.size → ∀ o, ops[i]? = some o → (∀ e ∈ o.after.toList, Region.binds md e = true → e.on ∈ X) → i ∈ X) → ∀ i, i < ops.size → i ∈ X) (t : Nat) : Sched ops [] [] (Region.linearise md ops t) := by
  unfold Region.linearise
  refine sched_go hord ops.size t _ [] (by simp) (fun i hi => ?_) (by simp) ?_
  · simp [Array.getD_eq_getD_getElem?, Array.getElem?_replicate, hi]
  · exact Nat.le_trans (List.length_filter_le _ _) (by simp)

theorem sched_all (hb : modesB ops = true) {idx : List Nat} {M : List (Nat × Nat)} (hM : masksOf ops ex idx [] = some M) (hall : ∀ i, i < ops.size → i ∈ idx) (mixed : Bool) (t : Nat) :
    Sched ops [] [] (Region.schedule mixed ops t) := by
  have hany : ∀ t, Sched ops [] [] (Region.linearise .any ops t) := fun t => by
    refine sched_lin (fun X hX i hi => ?_) t
    refine masks_ready (X := X) hM (by simp) (fun i hi he => ?_) i (hall i hi)
    have his : i < ops.size := (masks_sem hM (fun _ _ h => by cases h) trivial).2.2.2 i hi
    refine hX i his ops[i] (by simp [his]) fun e hee hbe => he _ (edgesX_sub ?_)
    rw [edgesX_nil, show ops[i]? = some ops[i] by simp [his]]
    exact List.mem_map.2 ⟨e, List.mem_filter.2 ⟨hee, hbe⟩, rfl⟩
  unfold modesB at hb
  unfold Region.schedule
  split
  · exact hany t
  · rename_i hd
    simp only [Bool.or_eq_true, Bool.not_eq_true', not_or, Bool.not_eq_true, Bool.not_eq_false] at hd
    rw [hd.2] at hb
    simp only [Bool.not_true, Bool.false_or, Bool.and_eq_true] at hb
    obtain ⟨⟨h1, h2⟩, h3⟩ := hb
    rw [List.all_eq_true] at h3
    split
    · exact sched_lin (fun X hX i hi => ord_ready h1 (by simp) (fun j hj => hX j (List.mem_range.1 hj)) i (List.mem_range.2 hi)) _
    · refine sched_lin (fun X hX i hi => ?_) _
      refine ord_ready h2 (by simp) (fun j _ o ho => hX j ?_ o ho) i (by simpa using h3 i (List.mem_range.2 hi))
      rcases Nat.lt_or_ge j ops.size with h | h
      · exact h
      · rw [Array.getElem?_eq_none h] at ho; cases ho
end
end Go.Ev
