/- The evaluator and its soundness, part 4. Each theorem bears its own conditions. -/
import Derived.Test.YtbmjbachkbomaaaGreatDoorEvC
import Derived.Laws.Externs
import Derived.Lib.Bytealg
import Derived.Lib.Index
import Derived.Lib.MakeNoZero
import Derived.Lib.Builder
/- A plan's run as a row of entries, and what is known of each. Each theorem bears its own conditions. -/
set_option linter.unusedVariables false
set_option linter.unusedSectionVars false
set_option linter.unusedSimpArgs false
namespace Go.Ev
open Go.RowKit
variable [Globs]
section
variable {ops : Array Oper} {ex : List (Nat × Nat)} {C : Ctx} {rec : Task → Option Res}

/-- An operation of a plan that was run: its place, its class, the state ahead of it, whether it was wanted, what it yielded. -/
structure En where
  i : Nat
  k : Nat
  s : St
  w : Bool
  v : AVal

inductive PRun (rec : Task → Option Res) (C : Ctx) (ops : Array Oper) : List (Nat × Nat) → St → List En → Option AVal → St → Prop where
  | nil (s : St) : PRun rec C ops [] s [] none s
  | skip (i k : Nat) (r : List (Nat × Nat)) (s : St) (o : Oper) (T : List En) (p : Option AVal) (s' : St) (ho : ops[i]? = some o) (hw : wantedA s.env ops o = some false)
      (h : PRun rec C ops r { s with env := putA s.env o.dst (.tup []) } T p s') : PRun rec C ops ((i, k) :: r) s (⟨i, k, s, false, .tup []⟩ :: T) p s'
  | quiet (i : Nat) (r : List (Nat × Nat)) (s : St) (o : Oper) (v : AVal) (T : List En) (p : Option AVal) (s' : St) (ho : ops[i]? = some o) (hw : wantedA s.env ops o = some true) (hv : opQ rec C s.fn s.env s.H o = some v)
      (h : PRun rec C ops r { s with env := putA s.env o.dst v } T p s') : PRun rec C ops ((i, 0) :: r) s (⟨i, 0, s, true, v⟩ :: T) p s'
  | birth (i : Nat) (r : List (Nat × Nat)) (s : St) (o : Oper) (obj : AObj) (f : Nat → AVal) (T : List En) (p : Option AVal) (s' : St) (ho : ops[i]? = some o) (hw : wantedA s.env ops o = some true) (hv : evB C s.env s.H o = some (obj, f))
      (h : PRun rec C ops r { s with env := putA s.env o.dst (f s.H.length), H := s.H ++ [obj] } T p s') : PRun rec C ops ((i, 1) :: r) s (⟨i, 1, s, true, f s.H.length⟩ :: T) p s'
  | chain (i : Nat) (r : List (Nat × Nat)) (s : St) (o : Oper) (v : AVal) (s1 : St) (T : List En) (p : Option AVal) (s' : St) (ho : ops[i]? = some o) (hw : wantedA s.env ops o = some true) (hv : opX rec C s o = some (.ok v s1))
      (h : PRun rec C ops r { s1 with env := putA s1.env o.dst v } T p s') : PRun rec C ops ((i, 2) :: r) s (⟨i, 2, s, true, v⟩ :: T) p s'
  | pan (i : Nat) (r : List (Nat × Nat)) (s : St) (o : Oper) (v : AVal) (s1 : St) (ho : ops[i]? = some o) (hw : wantedA s.env ops o = some true) (hv : opX rec C s o = some (.pan v s1)) :
      PRun rec C ops ((i, 2) :: r) s [⟨i, 2, s, true, v⟩] (some v) s1

/-- What is asked of an entry, in a heap. -/
def Ready (rec : Task → Option Res) (C : Ctx) (ops : Array Oper) (en : En) (G : Heap) : Prop :=
  ∀ o, ops[en.i]? = some o → (en.k = 0 → opQ rec C en.s.fn en.s.env G o = some en.v) ∧
    (en.k = 1 → ∃ obj f, evB C en.s.env en.s.H o = some (obj, f) ∧ en.v = f en.s.H.length ∧ G[en.s.H.length]? = some obj)

theorem drawA_run {wins : List (Nat × Nat × Nat)} : ∀ (π : List (Nat × Nat)) (s : St) (Gs : List Heap) (cs : List Chk) (p : Option AVal) (s' : St) (Gs' : List Heap) (cs' : List Chk), (∀ x ∈ π, x.2 ≤ 2) → drawA rec C ops wins π s Gs cs = some (p, s', Gs', cs') →
    ∃ T, PRun rec C ops π s T p s' ∧ Gs' = Gs ++ (T.filter fun en => en.k == 2).map (·.s.H) ++ [s'.H] ∧ (∀ c ∈ cs, c ∈ cs') ∧
      ∀ en ∈ T, en.w = true → en.k ≠ 2 → ∀ lo hi, winOf wins en.i = some (lo, hi) → ∃ c ∈ cs', c.lo = lo ∧ c.hi = hi ∧ ∀ G, c.test G = true → Ready rec C ops en G
  | [], s, Gs, cs, p, s', Gs', cs', _, h => by
    simp only [drawA, Option.some.injEq, Prod.mk.injEq] at h
    obtain ⟨rfl, rfl, rfl, rfl⟩ := h
    exact ⟨[], .nil s, by simp, fun c h => h, by simp⟩
  | (i, k) :: r, s, Gs, cs, p, s', Gs', cs', hk, h => by
    have hkr : ∀ x ∈ r, x.2 ≤ 2 := fun x hx => hk x (.tail _ hx)
    have hki : k ≤ 2 := hk (i, k) (.head _)
    have wchk : ∀ (c : Chk) (test : Heap → Bool) (cs2 : List Chk), c ∈ cs2 → c ∈ withChk wins i test cs2 := by
      intro c test cs2 hc
      unfold withChk
      split
      · exact .tail _ hc
      · exact hc
    simp only [drawA] at h
    split at h
    · cases h
    rename_i o ho
    obtain ⟨t, ht, h2⟩ := bindo h
    clear h
    cases t with
    | false =>
      simp only [Bool.not_false, if_true] at h2
      obtain ⟨T, h3, h4, h5, h6⟩ := drawA_run r _ _ _ _ _ _ _ hkr h2
      refine ⟨_, .skip i k r s o T p s' ho ht h3, ?_, h5, fun en hen hw => ?_⟩
      · rw [h4]
        by_cases hk2 : k = 2
        · subst hk2; simp
        · simp [hk2]
      · rcases List.mem_cons.1 hen with rfl | hen
        · cases hw
        · exact h6 en hen hw
    | true =>
      simp only [Bool.not_true, Bool.false_eq_true, if_false] at h2
      rcases k with _ | _ | _ | k
      · obtain ⟨v, hv, h3⟩ := bindo h2
        obtain ⟨T, h4, h5, h6, h7⟩ := drawA_run r _ _ _ _ _ _ _ hkr h3
        refine ⟨_, .quiet i r s o v T p s' ho ht hv h4, by rw [h5]; simp, fun c hc => h6 c (wchk c _ _ hc), fun en hen hw hk lo hi hwin => ?_⟩
        rcases List.mem_cons.1 hen with rfl | hen
        · dsimp only at hwin
          refine ⟨⟨i, lo, hi, _⟩, h6 _ (by unfold withChk; rw [hwin]; exact .head _), rfl, rfl, fun G hG o' ho' => ⟨fun _ => ?_, fun h => by cases h⟩⟩
          rw [ho] at ho'
          cases ho'
          dsimp only at hG ⊢
          split at hG
          · rename_i u hu; rw [hu, beqN_eq _ _ _ hG]
          · cases hG
        · exact h7 en hen hw hk lo hi hwin
      · obtain ⟨⟨obj, f⟩, hv, h3⟩ := bindo h2
        obtain ⟨T, h4, h5, h6, h7⟩ := drawA_run r _ _ _ _ _ _ _ hkr h3
        refine ⟨_, .birth i r s o obj f T p s' ho ht hv h4, by rw [h5]; simp, fun c hc => h6 c (wchk c _ _ hc), fun en hen hw hk lo hi hwin => ?_⟩
        rcases List.mem_cons.1 hen with rfl | hen
        · dsimp only at hwin
          refine ⟨⟨i, lo, hi, _⟩, h6 _ (by unfold withChk; rw [hwin]; exact .head _), rfl, rfl, fun G hG o' ho' => ⟨fun h => (by cases h), fun _ => ?_⟩⟩
          rw [ho] at ho'
          cases ho'
          dsimp only at hG ⊢
          refine ⟨obj, f, hv, rfl, ?_⟩
          split at hG
          · rename_i u hu; rw [hu, beqO_eq _ _ _ hG]
          · cases hG
        · exact h7 en hen hw hk lo hi hwin
      · obtain ⟨x, hx, h3⟩ := bindo h2
        cases x with
        | ok v s1 =>
          obtain ⟨T, h4, h5, h6, h7⟩ := drawA_run r _ _ _ _ _ _ _ hkr h3
          refine ⟨_, .chain i r s o v s1 T p s' ho ht hx h4, by rw [h5]; simp, h6, fun en hen hw hk lo hi hwin => ?_⟩
          rcases List.mem_cons.1 hen with rfl | hen
          · exact absurd rfl hk
          · exact h7 en hen hw hk lo hi hwin
        | pan v s1 =>
          simp only [Option.some.injEq, Prod.mk.injEq] at h3
          obtain ⟨rfl, rfl, rfl, rfl⟩ := h3
          refine ⟨_, .pan i r s o v s1 ho ht hx, by simp, fun c h => h, fun en hen hw hk => ?_⟩
          rcases List.mem_cons.1 hen with rfl | hen
          · exact absurd rfl hk
          · cases hen
      · omega

/-- The heaps ahead of the chain's operations, and the last one. -/
def heapsOf (T : List En) (s' : St) : List Heap := (T.filter fun en => en.k == 2).map (·.s.H) ++ [s'.H]

theorem runPlan_run {pl : Plan} {s s' : St} {p : Option AVal} (hk : ∀ x ∈ pl.steps, x.2 ≤ 2) (h : runPlan rec C ops pl s = some (p, s')) :
    ∃ T, PRun rec C ops pl.steps s T p s' ∧ ∀ en ∈ T, en.w = true → en.k ≠ 2 → ∀ lo hi, winOf pl.wins en.i = some (lo, hi) → ∀ q G, (heapsOf T s')[q]? = some G → lo ≤ q → q ≤ hi → Ready rec C ops en G := by
  unfold runPlan at h
  obtain ⟨⟨p1, s1, Gs, cs⟩, h1, h2⟩ := bindo h
  dsimp only at h2
  split at h2
  · rename_i hall
    simp only [Option.some.injEq, Prod.mk.injEq] at h2
    obtain ⟨rfl, rfl⟩ := h2
    obtain ⟨T, h3, h4, h5, h6⟩ := drawA_run _ _ _ _ _ _ _ _ hk h1
    refine ⟨T, h3, fun en hen hw hk lo hi hwin q G hG hlo hhi => ?_⟩
    obtain ⟨c, hc, rfl, rfl, htest⟩ := h6 en hen hw hk lo hi hwin
    refine htest G ?_
    rw [List.all_eq_true] at hall
    have := hall c hc
    unfold chkOk at this
    rw [List.all_eq_true] at this
    have hGs : Gs = heapsOf T s1 := by rw [h4]; simp [heapsOf]
    refine this (G, q) ?_
    rw [List.mem_filter]
    refine ⟨?_, by simp [hlo, hhi]⟩
    rw [hGs, List.mem_zipIdx_iff_getElem?]
    exact hG
  · cases h2

/-! ### Slots -/
/-- Slots: what entries yielded, those among X. -/
def EnvX (ops : Array Oper) (A : List En) (X : Nat → Prop) (e0 e : Env) : Prop :=
  ∀ t, (∀ en ∈ A, X en.i → dstOf ops en.i = some t → get e t = en.v) ∧ ((∀ en ∈ A, X en.i → dstOf ops en.i ≠ some t) → get e t = get e0 t)
/-- No two entries of one place, no two of one slot. -/
structure Inj (ops : Array Oper) (A : List En) : Prop where
  one : ∀ en ∈ A, ∀ en' ∈ A, en.i = en'.i → en = en'
  dst : ∀ en ∈ A, ∀ en' ∈ A, ∀ t, dstOf ops en.i = some t → dstOf ops en'.i = some t → en.i = en'.i
theorem Inj.sub {A A' : List En} (h : Inj ops A) (hs : ∀ en ∈ A', en ∈ A) : Inj ops A' := ⟨fun a ha b hb => h.one a (hs a ha) b (hs b hb), fun a ha b hb => h.dst a (hs a ha) b (hs b hb)⟩

theorem get_putA {e : Env} {dst : Option Nat} {v : AVal} {t : Nat} : get (putA e dst v) t = if dst = some t then v else get e t := by
  cases dst with
  | none => simp [putA]
  | some d => simp only [putA, get_cons, Option.some.injEq]
theorem dstOf_some {i : Nat} {o : Oper} (h : ops[i]? = some o) : dstOf ops i = o.dst := by unfold dstOf; rw [h]; rfl

theorem EnvX.put {A : List En} {X : Nat → Prop} {e0 e : Env} (h : EnvX ops A X e0 e) (hI : Inj ops A) {en : En} (hen : en ∈ A) : EnvX ops A (fun j => j = en.i ∨ X j) e0 (putA e (dstOf ops en.i) en.v) := by
  intro t
  rw [get_putA]
  constructor
  · intro en' h1 h2 h3
    split
    · rename_i h4
      rw [hI.one en hen en' h1 (hI.dst en hen en' h1 t h4 h3)]
    · rename_i h4
      rcases h2 with h2 | h2
      · rw [h2] at h3; exact absurd h3 h4
      · exact (h t).1 en' h1 h2 h3
  · intro h1
    rw [if_neg (h1 en hen (.inl rfl))]
    exact (h t).2 fun en' h2 h3 => h1 en' h2 (.inr h3)
theorem EnvX.congr {A : List En} {X X' : Nat → Prop} {e0 e : Env} (h : EnvX ops A X e0 e) (hX : ∀ en ∈ A, X en.i ↔ X' en.i) : EnvX ops A X' e0 e := fun t =>
  ⟨fun en h1 h2 h3 => (h t).1 en h1 ((hX en h1).2 h2) h3, fun h1 => (h t).2 fun en h2 h3 => h1 en h2 ((hX en h2).1 h3)⟩
theorem EnvX.more {A K : List En} {X : Nat → Prop} {e0 e : Env} (h : EnvX ops A X e0 e) (hK : ∀ en ∈ K, ¬ X en.i) : EnvX ops (A ++ K) X e0 e := fun t =>
  ⟨fun en h1 h2 h3 => by
    rcases List.mem_append.1 h1 with h1 | h1
    · exact (h t).1 en h1 h2 h3
    · exact absurd h2 (hK en h1), fun h1 => (h t).2 fun en h2 h3 => h1 en (List.mem_append.2 (.inl h2)) h3⟩

theorem PRun.env {π : List (Nat × Nat)} {s s' : St} {T : List En} {p : Option AVal} (h : PRun rec C ops π s T p s') : ∀ {A0 : List En} {e0 : Env}, Inj ops (A0 ++ T) → EnvX ops A0 (fun _ => True) e0 s.env →
    (∀ T1 en T2, T = T1 ++ en :: T2 → EnvX ops (A0 ++ T1) (fun _ => True) e0 en.s.env ∧ en.s.fn = s.fn) ∧ (p = none → EnvX ops (A0 ++ T) (fun _ => True) e0 s'.env) ∧ s'.fn = s.fn ∧ s'.pan = s.pan := by
  have base : ∀ {A0 : List En} {e0 : Env} {en : En} {T : List En} {o : Oper}, ops[en.i]? = some o → Inj ops (A0 ++ en :: T) → EnvX ops A0 (fun _ => True) e0 en.s.env → EnvX ops (A0 ++ [en]) (fun _ => True) e0 (putA en.s.env o.dst en.v) := by
    intro A0 e0 en T o ho hI hE t
    rw [get_putA, ← dstOf_some ho]
    constructor
    · intro en' h1 _ h3
      split
      · rename_i h4
        rw [hI.one en (by simp) en' (by simp at h1 ⊢; rcases h1 with h | h <;> simp [h]) (hI.dst en (by simp) en' (by simp at h1 ⊢; rcases h1 with h | h <;> simp [h]) t h4 h3)]
      · rename_i h4
        rcases List.mem_append.1 h1 with h1 | h1
        · exact (hE t).1 en' h1 trivial h3
        · simp at h1; subst h1; exact absurd h3 h4
    · intro h1
      rw [if_neg (h1 en (by simp) trivial)]
      exact (hE t).2 fun en' h2 _ => h1 en' (by simp [h2]) trivial
  have step : ∀ {A0 : List En} {e0 : Env} {en : En} {T : List En} {s1 s' : St} {p : Option AVal}, Inj ops (A0 ++ en :: T) → EnvX ops A0 (fun _ => True) e0 en.s.env → s1.fn = en.s.fn → s1.pan = en.s.pan →
      (∀ {A0 : List En} {e0 : Env}, Inj ops (A0 ++ T) → EnvX ops A0 (fun _ => True) e0 s1.env →
        (∀ T1 en T2, T = T1 ++ en :: T2 → EnvX ops (A0 ++ T1) (fun _ => True) e0 en.s.env ∧ en.s.fn = s1.fn) ∧ (p = none → EnvX ops (A0 ++ T) (fun _ => True) e0 s'.env) ∧ s'.fn = s1.fn ∧ s'.pan = s1.pan) →
      EnvX ops (A0 ++ [en]) (fun _ => True) e0 s1.env →
      (∀ T1 en' T2, en :: T = T1 ++ en' :: T2 → EnvX ops (A0 ++ T1) (fun _ => True) e0 en'.s.env ∧ en'.s.fn = en.s.fn) ∧ (p = none → EnvX ops (A0 ++ en :: T) (fun _ => True) e0 s'.env) ∧ s'.fn = en.s.fn ∧ s'.pan = en.s.pan := by
    intro A0 e0 en T s1 s' p hI hE hf hp ih hE1
    have hI' : Inj ops ((A0 ++ [en]) ++ T) := by rw [List.append_assoc]; exact hI
    obtain ⟨g1, g2, g3, g4⟩ := ih hI' hE1
    refine ⟨fun T1 en' T2 hT => ?_, fun h => ?_, g3.trans hf, g4.trans hp⟩
    · cases T1 with
      | nil => simp at hT; obtain ⟨rfl, rfl⟩ := hT; simpa using hE
      | cons a T1 =>
        simp only [List.cons_append, List.cons.injEq] at hT
        obtain ⟨rfl, hT⟩ := hT
        obtain ⟨k1, k2⟩ := g1 T1 en' T2 hT
        exact ⟨by simpa using k1, k2.trans hf⟩
    · have := g2 h; simpa using this
  induction h with
  | nil s =>
    intro A0 e0 hI hE
    exact ⟨fun T1 en T2 h => by simp at h, fun _ => by simpa using hE, rfl, rfl⟩
  | skip i k r s o T p s' ho hw h ih =>
    intro A0 e0 hI hE
    exact step (en := ⟨i, k, s, false, .tup []⟩) (s1 := { s with env := putA s.env o.dst (.tup []) }) hI hE rfl rfl ih (base (en := ⟨i, k, s, false, .tup []⟩) ho hI hE)
  | quiet i r s o v T p s' ho hw hv h ih =>
    intro A0 e0 hI hE
    exact step (en := ⟨i, 0, s, true, v⟩) (s1 := { s with env := putA s.env o.dst v }) hI hE rfl rfl ih (base (en := ⟨i, 0, s, true, v⟩) ho hI hE)
  | birth i r s o obj f T p s' ho hw hv h ih =>
    intro A0 e0 hI hE
    exact step (en := ⟨i, 1, s, true, f s.H.length⟩) (s1 := { s with env := putA s.env o.dst (f s.H.length), H := s.H ++ [obj] }) hI hE rfl rfl ih (base (en := ⟨i, 1, s, true, f s.H.length⟩) ho hI hE)
  | chain i r s o v s1 T p s' ho hw hv h ih =>
    intro A0 e0 hI hE
    obtain ⟨k1, k2, k3⟩ := opX_keeps hv
    simp only [OA.st] at k1 k2 k3
    have := base (en := ⟨i, 2, s, true, v⟩) ho hI hE
    exact step (en := ⟨i, 2, s, true, v⟩) (s1 := { s1 with env := putA s1.env o.dst v }) hI hE k1 k3 ih (by show EnvX ops _ _ e0 (putA s1.env o.dst v); rw [k2]; exact this)
  | pan i r s o v s1 ho hw hv =>
    intro A0 e0 hI hE
    obtain ⟨k1, k2, k3⟩ := opX_keeps hv
    refine ⟨fun T1 en T2 hT => ?_, fun h => (by cases h), k1, k3⟩
    cases T1 with
    | nil => simp at hT; obtain ⟨rfl, rfl⟩ := hT; exact ⟨by simpa using hE, rfl⟩
    | cons a T1 => simp at hT

/-- Up to the next operation of the chain. -/
theorem PRun.adv {I : St → Prop} (hI : Kept I) (hIb : ∀ (s : St) (o : Oper) (obj : AObj) (f : Nat → AVal), I s → evB C s.env s.H o = some (obj, f) → I { s with H := s.H ++ [obj] }) {π : List (Nat × Nat)} {s s' : St} {T : List En} {p : Option AVal} (h : PRun rec C ops π s T p s') : (∀ x ∈ π, x.2 ≤ 2) →
    ∃ A T2 π1 π2 S K, T = A ++ T2 ∧ π = π1 ++ π2 ∧ A.map (fun en => (en.i, en.k)) = π1 ∧ PRun rec C ops π2 S T2 p s' ∧ (∀ x r, π2 = x :: r → x.2 = 2) ∧ S.fn = s.fn ∧ S.defs = s.defs ∧ S.pan = s.pan ∧ S.recd = s.recd ∧ S.H = s.H ++ K ∧
      (∀ en ∈ A, en.k ≠ 2) ∧ (∀ en ∈ A, en.w = true → Ready rec C ops en S.H ∧ (en.k = 1 → s.H.length ≤ en.s.H.length ∧ en.s.H.length < S.H.length)) ∧
      (∀ x ∈ A, ∀ y ∈ A, x.w = true → y.w = true → x.k = 1 → y.k = 1 → x.s.H.length = y.s.H.length → x = y) ∧ (I s → I S) := by
  have stop : ∀ {π : List (Nat × Nat)} {s s' : St} {T : List En} {p : Option AVal}, PRun rec C ops π s T p s' → (∀ x r, π = x :: r → x.2 = 2) →
      ∃ A T2 π1 π2 S K, T = A ++ T2 ∧ π = π1 ++ π2 ∧ A.map (fun en => (en.i, en.k)) = π1 ∧ PRun rec C ops π2 S T2 p s' ∧ (∀ x r, π2 = x :: r → x.2 = 2) ∧ S.fn = s.fn ∧ S.defs = s.defs ∧ S.pan = s.pan ∧ S.recd = s.recd ∧ S.H = s.H ++ K ∧
        (∀ en ∈ A, en.k ≠ 2) ∧ (∀ en ∈ A, en.w = true → Ready rec C ops en S.H ∧ (en.k = 1 → s.H.length ≤ en.s.H.length ∧ en.s.H.length < S.H.length)) ∧
      (∀ x ∈ A, ∀ y ∈ A, x.w = true → y.w = true → x.k = 1 → y.k = 1 → x.s.H.length = y.s.H.length → x = y) ∧ (I s → I S) := by
    intro π s s' T p h hh
    exact ⟨[], T, [], π, s, [], rfl, rfl, rfl, h, hh, rfl, rfl, rfl, rfl, by simp, by simp, by simp, by simp, fun h => h⟩
  induction h with
  | nil s => intro _; exact stop (.nil s) (fun x r h => by cases h)
  | skip i k r s o T p s' ho hw h ih =>
    intro hk
    by_cases hk2 : k = 2
    · subst hk2
      exact stop (.skip i 2 r s o T p s' ho hw h) (fun x r h => by cases h; rfl)
    · obtain ⟨A, T2, π1, π2, S, K, h1, h2, h3, h4, h5, h6, h7, h8, h9, h10, h11, h12, h13, h14⟩ := ih fun x hx => hk x (.tail _ hx)
      exact ⟨⟨i, k, s, false, .tup []⟩ :: A, T2, (i, k) :: π1, π2, S, K, by rw [h1]; rfl, by rw [h2]; rfl, by rw [List.map_cons, h3], h4, h5, h6, h7, h8, h9, h10, fun en hen => by
        rcases List.mem_cons.1 hen with rfl | hen
        · exact hk2
        · exact h11 en hen, fun en hen hw => by
        rcases List.mem_cons.1 hen with rfl | hen
        · cases hw
        · exact h12 en hen hw, fun x hx y hy hxw hyw hxk hyk hxy => by
        rcases List.mem_cons.1 hx with rfl | hx
        · cases hxw
        rcases List.mem_cons.1 hy with rfl | hy
        · cases hyw
        exact h13 x hx y hy hxw hyw hxk hyk hxy, fun hs => h14 (hI.env _ _ hs)⟩
  | quiet i r s o v T p s' ho hw hv h ih =>
    intro hk
    obtain ⟨A, T2, π1, π2, S, K, h1, h2, h3, h4, h5, h6, h7, h8, h9, h10, h11, h12, h13, h14⟩ := ih fun x hx => hk x (.tail _ hx)
    refine ⟨⟨i, 0, s, true, v⟩ :: A, T2, (i, 0) :: π1, π2, S, K, by rw [h1]; rfl, by rw [h2]; rfl, by rw [List.map_cons, h3], h4, h5, h6, h7, h8, h9, h10, fun en hen => ?_, fun en hen hw => ?_, fun x hx y hy hxw hyw hxk hyk hxy => ?_, fun hs => h14 (hI.env _ _ hs)⟩
    · rcases List.mem_cons.1 hen with rfl | hen
      · show (0 : Nat) ≠ 2; decide
      · exact h11 en hen
    · rcases List.mem_cons.1 hen with rfl | hen
      · refine ⟨fun o' ho' => ⟨fun _ => ?_, fun h => (by cases h)⟩, fun h => (by cases h)⟩
        rw [ho] at ho'
        cases ho'
        exact opQ_more (by rw [h10]; exact .append _ _) hv
      · exact h12 en hen hw
    · rcases List.mem_cons.1 hx with rfl | hx
      · cases hxk
      rcases List.mem_cons.1 hy with rfl | hy
      · cases hyk
      exact h13 x hx y hy hxw hyw hxk hyk hxy
  | birth i r s o obj f T p s' ho hw hv h ih =>
    intro hk
    obtain ⟨A, T2, π1, π2, S, K, h1, h2, h3, h4, h5, h6, h7, h8, h9, h10, h11, h12, h13, h14⟩ := ih fun x hx => hk x (.tail _ hx)
    refine ⟨⟨i, 1, s, true, f s.H.length⟩ :: A, T2, (i, 1) :: π1, π2, S, obj :: K, by rw [h1]; rfl, by rw [h2]; rfl, by rw [List.map_cons, h3], h4, h5, h6, h7, h8, h9, by rw [h10]; simp, fun en hen => ?_, fun en hen hw => ?_, fun x hx y hy hxw hyw hxk hyk hxy => ?_, fun hs => h14 (hI.env _ _ (hIb s o obj f hs hv))⟩
    · rcases List.mem_cons.1 hen with rfl | hen
      · show (1 : Nat) ≠ 2; decide
      · exact h11 en hen
    · rcases List.mem_cons.1 hen with rfl | hen
      · refine ⟨fun o' ho' => ⟨fun h => (by cases h), fun _ => ?_⟩, fun _ => ⟨Nat.le_refl _, by rw [h10]; simp⟩⟩
        rw [ho] at ho'
        cases ho'
        exact ⟨obj, f, hv, rfl, by rw [h10]; simp⟩
      · obtain ⟨k1, k2⟩ := h12 en hen hw
        exact ⟨k1, fun h => by have := k2 h; simp at this; omega⟩
    · rcases List.mem_cons.1 hx with hx1 | hx1 <;> rcases List.mem_cons.1 hy with hy1 | hy1
      · rw [hx1, hy1]
      · have := ((h12 y hy1 hyw).2 hyk).1
        rw [hx1] at hxy
        simp at this hxy
        omega
      · have := ((h12 x hx1 hxw).2 hxk).1
        rw [hy1] at hxy
        simp at this hxy
        omega
      · exact h13 x hx1 y hy1 hxw hyw hxk hyk hxy
  | chain i r s o v s1 T p s' ho hw hv h ih => intro _; exact stop (.chain i r s o v s1 T p s' ho hw hv h) (fun x r h => by cases h; rfl)
  | pan i r s o v s1 ho hw hv => intro _; exact stop (.pan i r s o v s1 ho hw hv) (fun x r h => by cases h; rfl)

theorem PRun.good {I : St → Prop} (hI : Kept I) (hIb : ∀ (s : St) (o : Oper) (obj : AObj) (f : Nat → AVal), I s → evB C s.env s.H o = some (obj, f) → I { s with H := s.H ++ [obj] })
    (hop : ∀ (i : Nat) (o : Oper) (s : St) (x : OA), I s → ops[i]? = some o → opX rec C s o = some x → I x.st) {π : List (Nat × Nat)} {s s' : St} {T : List En} {p : Option AVal} (h : PRun rec C ops π s T p s') : I s → I s' := by
  induction h with
  | nil s => exact fun h => h
  | skip i k r s o T p s' ho hw h ih => exact fun hs => ih (hI.env _ _ hs)
  | quiet i r s o v T p s' ho hw hv h ih => exact fun hs => ih (hI.env _ _ hs)
  | birth i r s o obj f T p s' ho hw hv h ih => exact fun hs => ih (hI.env _ _ (hIb s o obj f hs hv))
  | chain i r s o v s1 T p s' ho hw hv h ih => exact fun hs => ih (hI.env _ _ (hop i o s _ hs ho hv))
  | pan i r s o v s1 ho hw hv => exact fun hs => hop i o s _ hs ho hv

/-- What is known of every entry. -/
theorem PRun.base {π : List (Nat × Nat)} {s s' : St} {T : List En} {p : Option AVal} (h : PRun rec C ops π s T p s') :
    ∀ en ∈ T, (∃ o, ops[en.i]? = some o ∧ wantedA en.s.env ops o = some en.w) ∧ (en.w = false → en.v = .tup []) ∧ (en.w = true → en.k = 0 → ∀ o, ops[en.i]? = some o → opQ rec C en.s.fn en.s.env en.s.H o = some en.v) := by
  induction h with
  | nil s => intro en h; cases h
  | skip i k r s o T p s' ho hw h ih =>
    intro en hen
    rcases List.mem_cons.1 hen with rfl | hen
    · exact ⟨⟨o, ho, hw⟩, fun _ => rfl, fun h => by cases h⟩
    · exact ih en hen
  | quiet i r s o v T p s' ho hw hv h ih =>
    intro en hen
    rcases List.mem_cons.1 hen with rfl | hen
    · exact ⟨⟨o, ho, hw⟩, (fun h => by cases h), fun _ _ o' ho' => by rw [ho] at ho'; cases ho'; exact hv⟩
    · exact ih en hen
  | birth i r s o obj f T p s' ho hw hv h ih =>
    intro en hen
    rcases List.mem_cons.1 hen with rfl | hen
    · exact ⟨⟨o, ho, hw⟩, (fun h => by cases h), fun _ h => by cases h⟩
    · exact ih en hen
  | chain i r s o v s1 T p s' ho hw hv h ih =>
    intro en hen
    rcases List.mem_cons.1 hen with rfl | hen
    · exact ⟨⟨o, ho, hw⟩, (fun h => by cases h), fun _ h => by cases h⟩
    · exact ih en hen
  | pan i r s o v s1 ho hw hv =>
    intro en hen
    rcases List.mem_cons.1 hen with rfl | hen
    · exact ⟨⟨o, ho, hw⟩, (fun h => by cases h), fun _ h => by cases h⟩
    · cases hen
end
end Go.Ev
/- A region whose order is drawn: whatever the order, what the plan yields comes out. Each theorem bears its own conditions. -/
set_option linter.unusedVariables false
set_option linter.unusedSectionVars false
set_option linter.unusedSimpArgs false
namespace Go.Ev
open Go.RowKit
variable [Globs]
section
variable {ops : Array Oper} {ex : List (Nat × Nat)} {C : Ctx} {rec : Task → Option Res}

structure PlanOk (ops : Array Oper) (pl : Plan) (ex : List (Nat × Nat)) (M : List (Nat × Nat)) : Prop where
  modes : modesB ops = true
  masks : masksOf ops ex (pl.steps.map (·.1)) [] = some M
  all : ∀ i, i < ops.size → i ∈ pl.steps.map (·.1)
  le2 : ∀ x ∈ pl.steps, x.2 ≤ 2
  A : ∀ S1 i S2, pl.steps = S1 ++ (i, 2) :: S2 → ∀ x ∈ S2, hasM M x.1 i = true
  Bb : ∀ S1 i k S2, pl.steps = S1 ++ (i, k) :: S2 → k ≠ 2 →
    (∃ lo hi, winOf pl.wins i = some (lo, hi) ∧ lo ≤ (S1.filter fun x => x.2 == 2).length ∧ (S1.filter fun x => x.2 == 2).length ≤ hi ∧ ∀ c, ((pl.steps.filter fun x => x.2 == 2).map (·.1))[hi]? = some c → hasM M c i = true) ∨
    (winOf pl.wins i = none ∧ ((k = 0 ∧ ∃ o, ops[i]? = some o ∧ looks o = false) ∨ ∀ c, ((pl.steps.filter fun x => x.2 == 2).map (·.1))[(S1.filter fun x => x.2 == 2).length]? = some c → hasM M c i = true))
  O : ∀ i ∈ pl.steps.map (·.1), ∀ o, ops[i]? = some o → ∀ t ∈ restsOn ops o, ∀ j ∈ pl.steps.map (·.1), dstOf ops j = some t → hasM M i j = true ∨ hasM M j i = true
  D : ∀ i ∈ pl.steps.map (·.1), ∀ j ∈ pl.steps.map (·.1), ∀ t, dstOf ops i = some t → dstOf ops j = some t → i = j
  nodup : (pl.steps.map (·.1)).Nodup

theorem chkA_sem {M : List (Nat × Nat)} : ∀ {st : List (Nat × Nat)}, chkA M st = true → (∀ x ∈ st, x.2 ≤ 2) ∧ ∀ S1 i S2, st = S1 ++ (i, 2) :: S2 → ∀ x ∈ S2, hasM M x.1 i = true
  | [], _ => ⟨by simp, fun S1 i S2 h => by simp at h⟩
  | (i, k) :: r, h => by
    simp only [chkA, Bool.and_eq_true, Nat.ble_eq] at h
    obtain ⟨⟨h1, h2⟩, h3⟩ := h
    obtain ⟨g1, g2⟩ := chkA_sem h3
    refine ⟨fun x hx => ?_, fun S1 j S2 hS x hx => ?_⟩
    · rcases List.mem_cons.1 hx with rfl | hx
      · exact h1
      · exact g1 x hx
    · cases S1 with
      | nil =>
        simp only [List.nil_append, List.cons.injEq, Prod.mk.injEq] at hS
        obtain ⟨⟨rfl, rfl⟩, rfl⟩ := hS
        simp only [bne_self_eq_false, Bool.false_or, List.all_eq_true] at h2
        exact h2 x hx
      | cons a S1 =>
        simp only [List.cons_append, List.cons.injEq] at hS
        exact g2 S1 j S2 hS.2 x hx

theorem chkB_sem {M : List (Nat × Nat)} {wins : List (Nat × Nat × Nat)} {chain : List Nat} : ∀ {st : List (Nat × Nat)} {p : Nat}, chkB ops M wins chain st p = true → ∀ S1 i k S2, st = S1 ++ (i, k) :: S2 → k ≠ 2 →
    (∃ lo hi, winOf wins i = some (lo, hi) ∧ lo ≤ p + (S1.filter fun x => x.2 == 2).length ∧ p + (S1.filter fun x => x.2 == 2).length ≤ hi ∧ ∀ c, chain[hi]? = some c → hasM M c i = true) ∨
    (winOf wins i = none ∧ ((k = 0 ∧ ∃ o, ops[i]? = some o ∧ looks o = false) ∨ ∀ c, chain[p + (S1.filter fun x => x.2 == 2).length]? = some c → hasM M c i = true))
  | [], p, h, S1, i, k, S2, hS, hk => by simp at hS
  | (j, q) :: r, p, h, S1, i, k, S2, hS, hk => by
    simp only [chkB, Bool.and_eq_true] at h
    obtain ⟨h1, h2⟩ := h
    cases S1 with
    | nil =>
      simp only [List.nil_append, List.cons.injEq, Prod.mk.injEq] at hS
      obtain ⟨⟨rfl, rfl⟩, rfl⟩ := hS
      rw [if_neg (by simpa using hk)] at h1
      simp only [List.filter_nil, List.length_nil, Nat.add_zero]
      split at h1
      · rename_i lo hi hw
        simp only [Bool.and_eq_true, Nat.ble_eq] at h1
        refine .inl ⟨lo, hi, hw, h1.1.1, h1.1.2, fun c hc => ?_⟩
        have h3 := h1.2
        rw [hc] at h3
        exact h3
      · rename_i hw
        refine .inr ⟨hw, ?_⟩
        simp only [Bool.or_eq_true, Bool.and_eq_true, beq_iff_eq] at h1
        rcases h1 with h1 | h1
        · refine .inl ⟨h1.1, ?_⟩
          have h3 := h1.2
          split at h3
          · rename_i o ho; exact ⟨o, ho, by simpa using h3⟩
          · cases h3
        · refine .inr fun c hc => ?_
          rw [hc] at h1
          exact h1
    | cons a S1 =>
      simp only [List.cons_append, List.cons.injEq] at hS
      obtain ⟨rfl, hS⟩ := hS
      have := chkB_sem h2 S1 i k S2 hS hk
      have he : (if (q == 2) = true then p + 1 else p) + (S1.filter fun x => x.2 == 2).length = p + (((j, q) :: S1).filter fun x => x.2 == 2).length := by
        rw [List.filter_cons]
        split <;> simp <;> omega
      rw [he] at this
      exact this

theorem nodupN_sem : ∀ {l : List Nat}, nodupN l = true → l.Nodup
  | [], _ => List.nodup_nil
  | x :: r, h => by
    simp only [nodupN, Bool.and_eq_true, Bool.not_eq_true'] at h
    rw [List.nodup_cons]
    refine ⟨fun hx => ?_, nodupN_sem h.2⟩
    have := h.1
    rw [List.contains_iff_mem.2 hx] at this
    cases this

theorem layered_nodup : ∀ {M : List (Nat × Nat)}, Layered M → (M.map (·.1)).Nodup
  | [], _ => List.nodup_nil
  | (i, m) :: r, h => by
    rw [List.map_cons, List.nodup_cons]
    refine ⟨fun hi => ?_, layered_nodup h.2.2⟩
    rw [← lookN_mem, h.1] at hi
    cases hi

theorem dst_inj : ∀ {idx : List Nat}, (idx.filterMap (dstOf ops)).Nodup → ∀ i ∈ idx, ∀ j ∈ idx, ∀ t, dstOf ops i = some t → dstOf ops j = some t → i = j
  | a :: r, h, i, hi, j, hj, t, h1, h2 => by
    cases ha : dstOf ops a with
    | none =>
      rw [List.filterMap_cons_none ha] at h
      rcases List.mem_cons.1 hi with rfl | hi
      · rw [ha] at h1; cases h1
      rcases List.mem_cons.1 hj with rfl | hj
      · rw [ha] at h2; cases h2
      exact dst_inj h i hi j hj t h1 h2
    | some d =>
      rw [List.filterMap_cons_some ha, List.nodup_cons] at h
      have hin : ∀ k ∈ r, dstOf ops k = some d → False := fun k hk hd => h.1 (List.mem_filterMap.2 ⟨k, hk, hd⟩)
      rcases List.mem_cons.1 hi with hi1 | hi1 <;> rcases List.mem_cons.1 hj with hj1 | hj1
      · rw [hi1, hj1]
      · rw [hi1, ha] at h1; cases h1; exact (hin j hj1 h2).elim
      · rw [hj1, ha] at h2; cases h2; exact (hin i hi1 h1).elim
      · exact dst_inj h.2 i hi1 j hj1 t h1 h2

theorem okPlan_sem {pl : Plan} (h : okPlan ops pl ex = true) : ∃ M, PlanOk ops pl ex M := by
  unfold okPlan at h
  rw [Bool.and_eq_true] at h
  obtain ⟨h0, h⟩ := h
  split at h
  · cases h
  rename_i M hM
  simp only [Bool.and_eq_true] at h
  obtain ⟨⟨⟨⟨h1, h2⟩, h3⟩, h4⟩, h5⟩ := h
  obtain ⟨m1, m2, m3, m4⟩ := masks_sem hM (fun _ _ h => by cases h) trivial
  simp only [List.map_nil, List.append_nil] at m3
  refine ⟨M, ⟨h0, hM, fun i hi => ?_, (chkA_sem h2).1, (chkA_sem h2).2, fun S1 i k S2 hS hk => ?_, fun i hi o ho t ht j hj hd => ?_, dst_inj (nodupN_sem h5), ?_⟩⟩
  · rw [List.all_eq_true] at h1
    have := lookN_mem.1 (h1 i (List.mem_range.2 hi))
    rw [m3] at this
    simpa using this
  · have := chkB_sem h3 S1 i k S2 hS hk
    simpa using this
  · unfold chkO at h4
    rw [List.all_eq_true] at h4
    have := h4 i hi
    rw [ho] at this
    dsimp only at this
    rw [List.all_eq_true] at this
    have := this t ht
    rw [List.all_eq_true] at this
    have := this j hj
    simp only [Bool.or_eq_true, bne_iff_ne, ne_eq] at this
    rcases this with (h | h) | h
    · exact absurd hd h
    · exact .inl h
    · exact .inr h
  · have := layered_nodup m2
    rw [m3] at this
    exact (List.pairwise_reverse.1 this).imp fun h => h.symm

theorem PRun.pre {π : List (Nat × Nat)} {s s' : St} {T : List En} {p : Option AVal} (h : PRun rec C ops π s T p s') : ∃ π', π = T.map (fun en => (en.i, en.k)) ++ π' := by
  induction h with
  | nil s => exact ⟨[], rfl⟩
  | pan i r s o v s1 ho hw hv => exact ⟨r, rfl⟩
  | skip i k r s o T p s' ho hw h ih => obtain ⟨π', rfl⟩ := ih; exact ⟨π', rfl⟩
  | quiet i r s o v T p s' ho hw hv h ih => obtain ⟨π', rfl⟩ := ih; exact ⟨π', rfl⟩
  | birth i r s o obj f T p s' ho hw hv h ih => obtain ⟨π', rfl⟩ := ih; exact ⟨π', rfl⟩
  | chain i r s o v s1 T p s' ho hw hv h ih => obtain ⟨π', rfl⟩ := ih; exact ⟨π', rfl⟩

theorem inj_map : ∀ {T : List En}, (T.map (·.i)).Nodup → ∀ x ∈ T, ∀ y ∈ T, x.i = y.i → x = y
  | a :: T, h, x, hx, y, hy, hxy => by
    rw [List.map_cons, List.nodup_cons] at h
    rcases List.mem_cons.1 hx with hx1 | hx1 <;> rcases List.mem_cons.1 hy with hy1 | hy1
    · rw [hx1, hy1]
    · exact (h.1 (List.mem_map.2 ⟨y, hy1, by rw [← hxy, hx1]⟩)).elim
    · exact (h.1 (List.mem_map.2 ⟨x, hx1, by rw [hxy, hy1]⟩)).elim
    · exact inj_map h.2 x hx1 y hy1 hxy

theorem PRun.inj {pl : Plan} {M : List (Nat × Nat)} (hP : PlanOk ops pl ex M) {s s' : St} {T : List En} {p : Option AVal} (h : PRun rec C ops pl.steps s T p s') : Inj ops T := by
  obtain ⟨π', hπ⟩ := h.pre
  have hmap : pl.steps.map (·.1) = T.map (·.i) ++ π'.map (·.1) := by rw [hπ]; simp [Function.comp_def]
  have hnd := hP.nodup
  rw [hmap, List.nodup_append] at hnd
  have hin : ∀ en ∈ T, en.i ∈ pl.steps.map (·.1) := fun en hen => by rw [hmap]; exact List.mem_append.2 (.inl (List.mem_map.2 ⟨en, hen, rfl⟩))
  exact ⟨inj_map hnd.1, fun a ha b hb t h1 h2 => hP.D _ (hin a ha) _ (hin b hb) t h1 h2⟩

/-- The slots that an operation rests on are, at its time, as they were in the plan. -/
theorem reads_same {pl : Plan} {M : List (Nat × Nat)} (hP : PlanOk ops pl ex M) {s0 s' : St} {T : List En} {p : Option AVal} (hT : PRun rec C ops pl.steps s0 T p s') {T1 T2 : List En} {en : En} (hdec : T = T1 ++ en :: T2)
    {A : List En} (hA : ∀ x ∈ A, x ∈ T) {X : List Nat} (hX : Closed ops ex X) (he : ∀ e ∈ edgesX ops ex en.i, e ∈ X) (hnX : en.i ∉ X) (hxa : ∀ i ∈ X, ∃ x ∈ A, x.i = i) {e : Env} (hE : EnvX ops A (· ∈ X) s0.env e) {o : Oper} (ho : ops[en.i]? = some o) :
    ∀ t ∈ restsOn ops o, get en.s.env t = get e t := by
  intro t ht
  have hI := hT.inj hP
  obtain ⟨m1, m2, m3, m4⟩ := masks_sem hP.masks (fun _ _ h => by cases h) trivial
  simp only [List.map_nil, List.append_nil] at m3
  obtain ⟨π', hπ⟩ := hT.pre
  have hmap : pl.steps.map (·.1) = T1.map (·.i) ++ en.i :: (T2.map (·.i) ++ π'.map (·.1)) := by rw [hπ, hdec]; simp [Function.comp_def]
  have hen : en.i ∈ pl.steps.map (·.1) := by rw [hmap]; simp
  have hplan := ((hT.env (A0 := []) (e0 := s0.env) (by simpa using hI) (fun t => ⟨fun en h => (by cases h), fun _ => rfl⟩)).1 T1 en T2 hdec).1
  simp only [List.nil_append] at hplan
  by_cases hj : ∃ j ∈ pl.steps.map (·.1), dstOf ops j = some t
  · obtain ⟨j, hj1, hj2⟩ := hj
    rcases hP.O en.i hen o ho t ht j hj1 hj2 with hm | hm
    rotate_left
    · -- the slot is written behind
      have hjX : j ∉ X := fun hc => hnX (hasM_sem m1 hm hX (hX j hc))
      have hu : ∀ x ∈ T, dstOf ops x.i = some t → x.i = j := fun x hx hd => hP.D x.i (by rw [hπ]; simp only [List.map_append, List.map_map, List.mem_append]; exact .inl (List.mem_map.2 ⟨x, hx, rfl⟩)) j hj1 t hd hj2
      rw [(hplan t).2 fun x hx _ hd => ?_, (hE t).2 fun x hx hxX hd => ?_]
      · have := hu x (hA x hx) hd
        rw [this] at hxX; exact hjX hxX
      · have hxj := hu x (by rw [hdec]; simp [hx]) hd
        obtain ⟨B1, B2, hB⟩ := List.append_of_mem hx
        have hmap2 : pl.steps.map (·.1) = B1.map (·.i) ++ j :: (B2.map (·.i) ++ en.i :: (T2.map (·.i) ++ π'.map (·.1))) := by rw [hmap, hB]; simp [hxj]
        have h3 := hasM_before m2 (by rw [m3, hmap2]) hm
        have hnd := hP.nodup
        rw [hmap2, List.nodup_append] at hnd
        exact hnd.2.2 en.i h3 en.i (by simp) rfl
    have hjX : j ∈ X := hasM_sem m1 hm hX he
    obtain ⟨x, hx1, hx2⟩ := hxa j hjX
    have hjT := hasM_before m2 (by rw [m3, hmap]) hm
    obtain ⟨y, hy1, hy2⟩ := List.mem_map.1 hjT
    have hxy : x = y := hI.one x (hA x hx1) y (by rw [hdec]; simp [hy1]) (by rw [hx2, hy2])
    rw [(hplan t).1 y hy1 trivial (by rw [hy2]; exact hj2), (hE t).1 x hx1 (by show x.i ∈ X; rw [hx2]; exact hjX) (by rw [hx2]; exact hj2), hxy]
  · have hno : ∀ x ∈ T, dstOf ops x.i ≠ some t := fun x hx hd => hj ⟨x.i, by rw [hπ]; simp only [List.map_append, List.map_map, List.mem_append]; exact .inl (List.mem_map.2 ⟨x, hx, rfl⟩), hd⟩
    rw [(hplan t).2 fun x hx _ => hno x (by rw [hdec]; simp [hx]), (hE t).2 fun x hx _ => hno x (hA x hx)]

theorem wantedA_env {e e' : Env} {o : Oper} (h : ∀ t ∈ restsOn ops o, get e t = get e' t) : wantedA e ops o = wantedA e' ops o := by
  unfold wantedA
  unfold restsOn at h
  split
  · rfl
  · rename_i j want hg
    rw [hg] at h
    cases hd : (ops[j]?).bind (·.dst) with
    | none => rfl
    | some d =>
      dsimp only
      rw [h d (List.mem_append.2 (.inr (by simp [dstOf, hd])))]
end
end Go.Ev
/- A region whose order is drawn, step by step along the order drawn. Each theorem bears its own conditions. -/
set_option linter.unusedVariables false
set_option linter.unusedSectionVars false
set_option linter.unusedSimpArgs false
namespace Go.Ev
open Go.RowKit
variable [Globs]
section
variable {Z : Nat → Nat → Prop} {L : Locs} {w : World} {B N : Nat} {ops : Array Oper} {ex : List (Nat × Nat)} {C : Ctx} {rec : Task → Option Res}

theorem StRel.conv {s s' : St} {b : Frame} {a : Act} {cs : List Frame} (h : StRel B N Z s L w b a cs) (h1 : s'.H = s.H) (h2 : s'.env = s.env) (h3 : s'.fn = s.fn) (h4 : s'.defs = s.defs) (h5 : s'.pan = s.pan) (h6 : s'.recd = s.recd) : StRel B N Z s' L w b a cs := by
  cases s; cases s'
  dsimp only at h1 h2 h3 h4 h5 h6
  subst h1 h2 h3 h4 h5 h6
  exact h

theorem wrote_hole {H : Heap} (hR : HRel B Z H L w) (o : AObj) : Wrote B Z H L w (H ++ [o]) (L ++ [none]) w :=
  ⟨Ext.hole hR o, HRel.hole hR o, fun i hi h => by rw [locOf_append, if_neg (by omega)]; exact h⟩
theorem StRel.holes {b : Frame} {a : Act} {cs : List Frame} : ∀ (K : List AObj) {s : St} {L : Locs}, StRel B N Z s L w b a cs →
    StRel B N Z { s with H := s.H ++ K } (L ++ List.replicate K.length none) w b a cs ∧ Wrote B Z s.H L w (s.H ++ K) (L ++ List.replicate K.length none) w
  | [], s, L, h => by simpa using ⟨h, Wrote.refl h.heap⟩
  | o :: K, s, L, h => by
    have h1 := wrote_hole h.heap o
    have h2 := h.turn h1
    obtain ⟨h3, h4⟩ := StRel.holes K h2
    have e1 : (s.H ++ [o]) ++ K = s.H ++ o :: K := by simp
    have e2 : (L ++ [none]) ++ List.replicate K.length none = L ++ List.replicate (o :: K).length none := by rw [List.append_assoc]; rfl
    simp only at h3 h4
    rw [e1, e2] at h3 h4
    exact ⟨h3, h1.trans h4 (by simp)⟩
theorem locOf_replicate {id n : Nat} (h : L.length ≤ id) : locOf (L ++ List.replicate n none) id = none := by
  unfold locOf
  rw [List.getElem?_append_right h]
  cases hx : (List.replicate n (none : Option (Nat × Nat)))[id - L.length]? with
  | none => rfl
  | some x =>
    have := List.eq_of_mem_replicate (List.mem_of_getElem? hx)
    subst this; rfl

theorem head_heap {π : List (Nat × Nat)} {S s' : St} {T : List En} {p : Option AVal} (h : PRun rec C ops π S T p s') (hh : ∀ x r, π = x :: r → x.2 = 2) : (heapsOf T s')[0]? = some S.H := by
  cases h with
  | nil => rfl
  | skip i k r s o T p s' ho hw h =>
    have : k = 2 := hh (i, k) r rfl
    subst this
    simp [heapsOf]
  | quiet i r s o v T p s' ho hw hv h => exact absurd (hh (i, 0) r rfl) (by show (0 : Nat) ≠ 2; decide)
  | birth i r s o obj f T p s' ho hw hv h => exact absurd (hh (i, 1) r rfl) (by show (1 : Nat) ≠ 2; decide)
  | chain => simp [heapsOf]
  | pan => simp [heapsOf]
theorem heapsOf_append {A T : List En} {s' : St} : heapsOf (A ++ T) s' = ((A.filter fun en => en.k == 2).map (·.s.H)) ++ heapsOf T s' := by
  unfold heapsOf; simp

structure Inv (I : St → Prop) (rec : Task → Option Res) (C : Ctx) (ops : Array Oper) (ex : List (Nat × Nat)) (pl : Plan) (s0 s' : St) (T : List En) (p : Option AVal) (B N : Nat) (Z : Nat → Nat → Prop) (L0 : Locs) (w0 : World) (b : Frame) (cs0 : List Frame) (n0 : Nat)
    (X : List Nat) (A T2 : List En) (π2 : List (Nat × Nat)) (S : St) (e : Env) (L : Locs) (w : World) (a : Act) : Prop where
  steps : pl.steps = A.map (fun en => (en.i, en.k)) ++ π2
  tr : T = A ++ T2
  run : PRun rec C ops π2 S T2 p s'
  head : ∀ x r, π2 = x :: r → x.2 = 2
  cl : Closed ops ex X
  xa : ∀ i ∈ X, ∃ en ∈ A, en.i = i
  ch : ∀ en ∈ A, en.k = 2 → en.i ∈ X
  env : EnvX ops A (· ∈ X) s0.env e
  st : StRel B N Z (S.withEnv e) L w b a (csAft s0.pan S.recd cs0)
  ready : ∀ en ∈ A, en.i ∉ X → en.w = true → Ready rec C ops en S.H
  hole : ∀ en ∈ A, en.i ∉ X → en.w = true → en.k = 1 → L0.length ≤ en.s.H.length ∧ en.s.H.length < L.length ∧ locOf L en.s.H.length = none
  dist : ∀ x ∈ A, ∀ y ∈ A, x.i ∉ X → y.i ∉ X → x.w = true → y.w = true → x.k = 1 → y.k = 1 → x.s.H.length = y.s.H.length → x = y
  wrote : Wrote B Z s0.H L0 w0 S.H L w
  le : L0.length ≤ L.length
  sz : a.tmps.size = n0
  pan : S.pan = s0.pan
  fn : S.fn = s0.fn
  good : I S

theorem closed_cons {X : List Nat} {i : Nat} (h : Closed ops ex X) (he : ∀ e ∈ edgesX ops ex i, e ∈ X) : Closed ops ex (i :: X) := fun j hj e hej => by
  rcases List.mem_cons.1 hj with rfl | hj
  · exact .tail _ (he e hej)
  · exact .tail _ (h j hj e hej)

variable {pl : Plan} {M : List (Nat × Nat)} {s0 s' : St} {T : List En} {p : Option AVal} {L0 : Locs} {w0 : World} {b : Frame} {cs0 : List Frame} {n0 : Nat}

/-- An operation of the plan's part that is behind: skipped, looked at, or born late. -/
theorem step_behind {I : St → Prop} (hKI : Kept I) (hC : TabOk C) (hP : PlanOk ops pl ex M) (hT : PRun rec C ops pl.steps s0 T p s') (hd : ∀ o ∈ ops.toList, ∀ d, o.dst = some d → d < n0)
    (hquiet : ∀ (i : Nat) (o : Oper) (s : St) (v : AVal), I s → ops[i]? = some o → opQ rec C s.fn s.env s.H o = some v → OpOk C ops i o s (.ok v s))
    {X : List Nat} {A T2 : List En} {π2 : List (Nat × Nat)} {S : St} {e : Env} {a : Act} (h : Inv I rec C ops ex pl s0 s' T p B N Z L0 w0 b cs0 n0 X A T2 π2 S e L w a)
    {en : En} (hen : en ∈ A) (hnX : en.i ∉ X) (he : ∀ j ∈ edgesX ops ex en.i, j ∈ X) (r : List Nat) (k : List Item) :
    ∃ L' w' a', Steps C.P (lone (b.atR a (.inRegion ops (en.i :: r) :: k)) (csAft s0.pan S.recd cs0) w) (lone (b.atR a' (.inRegion ops r :: k)) (csAft s0.pan S.recd cs0) w') ∧
      Inv I rec C ops ex pl s0 s' T p B N Z L0 w0 b cs0 n0 (en.i :: X) A T2 π2 S (putA e (dstOf ops en.i) en.v) L' w' a' := by
  have hI := hT.inj hP
  have hAT : ∀ x ∈ A, x ∈ T := fun x hx => by rw [h.tr]; simp [hx]
  obtain ⟨⟨o, ho, hw⟩, hb2, _⟩ := hT.base en (hAT en hen)
  obtain ⟨A1, A2, hA⟩ := List.append_of_mem hen
  have hdec : T = A1 ++ en :: (A2 ++ T2) := by rw [h.tr, hA]; simp
  have hreads := reads_same hP hT hdec hAT h.cl he hnX h.xa h.env ho
  have hw' : wantedA e ops o = some en.w := (wantedA_env hreads).symm.trans hw
  have hfn : en.s.fn = S.fn := by
    rw [h.fn]
    exact ((hT.env (A0 := []) (e0 := s0.env) (by simpa using hI) (fun t => ⟨fun en h => (by cases h), fun _ => rfl⟩)).1 A1 en _ hdec).2
  have hmem : o ∈ ops.toList := by rw [← Array.getElem?_toList] at ho; exact List.mem_of_getElem? ho
  have hwant := wanted_sound h.st.env hw'
  have hdst := dstOf_some ho
  have hE : EnvX ops A (· ∈ en.i :: X) s0.env (putA e (dstOf ops en.i) en.v) := (h.env.put (hI.sub hAT) hen).congr fun x _ => by simp
  have hxa : ∀ i ∈ en.i :: X, ∃ x ∈ A, x.i = i := fun i hi => by
    rcases List.mem_cons.1 hi with rfl | hi
    · exact ⟨en, hen, rfl⟩
    · exact h.xa i hi
  have hk2 : en.k ≠ 2 := fun hk => hnX (h.ch en hen hk)
  have hcsS : csAft (S.withEnv e).pan (S.withEnv e).recd (csAft s0.pan S.recd cs0) = csAft s0.pan S.recd cs0 := csAft_same h.st.pan
  cases hww : en.w with
  | false =>
    rw [hww] at hwant
    rw [hb2 hww, hdst]
    have hs := stepR_op_skip (P := C.P) (b := b) (a := a) (k := k) (cs := csAft s0.pan S.recd cs0) (w := w) (ops := ops) (i := en.i) (rest := r) (by simp [ho, hwant])
    simp only [ho, Option.bind_some] at hs
    rw [hb2 hww, hdst] at hE
    exact ⟨L, w, _, .one hs, ⟨h.steps, h.tr, h.run, h.head, closed_cons h.cl he, hxa, fun x hx hk => .tail _ (h.ch x hx hk), hE,
      h.st.put (fun d hdd => by rw [h.sz]; exact hd o hmem d hdd) (v := .tup []) (u := undef) (fun _ => .inr (.tup _ _ rfl (by simp))),
      fun x hx hxX => h.ready x hx (fun hc => hxX (.tail _ hc)), fun x hx hxX => h.hole x hx (fun hc => hxX (.tail _ hc)), fun x hx y hy hxX hyX => h.dist x hx y hy (fun hc => hxX (.tail _ hc)) (fun hc => hyX (.tail _ hc)), h.wrote, h.le, by rw [Act.size_put]; exact h.sz, h.pan, h.fn, h.good⟩⟩
  | true =>
    rw [hww] at hwant
    have hrd := h.ready en hen hnX hww o ho
    have hle := (hT.pre)
    have hk01 : en.k = 0 ∨ en.k = 1 := by
      have h1 : en.k ≤ 2 := hP.le2 (en.i, en.k) (by rw [h.steps]; exact List.mem_append.2 (.inl (List.mem_map.2 ⟨en, hen, rfl⟩)))
      omega
    have hqe : ∀ t ∈ readsOf o, get en.s.env t = get e t := fun t ht => hreads t (List.mem_append.2 (.inl ht))
    rcases hk01 with hk0 | hk1
    · have hv := hrd.1 hk0
      rw [opQ_env hqe, hfn] at hv
      obtain ⟨L1, w1, D1, u, h4, h5, h6, h7, h8, h9, h10⟩ := hquiet en.i o (S.withEnv e) en.v (hKI.env _ _ h.good) ho hv B N Z L w b a (csAft s0.pan S.recd cs0) r k h.st ho hwant
      rw [hcsS] at h4 h6
      have hS' := h6.put (dst := o.dst) (fun d hdd => by show d < a.tmps.size; rw [h.sz]; exact hd o hmem d hdd) (v := en.v) (u := u) h7
      refine ⟨L1, w1, _, h4, ⟨h.steps, h.tr, h.run, h.head, closed_cons h.cl he, hxa, fun x hx hk => .tail _ (h.ch x hx hk), hE, ?_,
        fun x hx hxX => h.ready x hx (fun hc => hxX (.tail _ hc)), fun x hx hxX hxw hxk => ?_, fun x hx y hy hxX hyX => h.dist x hx y hy (fun hc => hxX (.tail _ hc)) (fun hc => hyX (.tail _ hc)), h.wrote.trans h5 h.le, Nat.le_trans h.le h10, by rw [Act.size_put]; exact h.sz, h.pan, h.fn, h.good⟩⟩
      · rw [hdst]; exact hS'
      · obtain ⟨g1, g2, g3⟩ := h.hole x hx (fun hc => hxX (.tail _ hc)) hxw hxk
        exact ⟨g1, Nat.lt_of_lt_of_le g2 h10, h5.hole _ g2 g3⟩
    · obtain ⟨obj, f, hv, hvv, hob⟩ := hrd.2 hk1
      obtain ⟨g1, g2, g3⟩ := h.hole en hen hnX hww hk1
      rw [evB_env (H' := S.H) hqe] at hv
      obtain ⟨u, w', k1, k2, k3⟩ := evB_sound hC h.st.heap h.st.env hv g2 g3 hob
      have hsem := o.semAt_eq b.roundOf a.eval (evB_nodefer hv)
      rw [← hvv] at k3
      have hst : StRel B N Z (S.withEnv e) (L.set en.s.H.length (some (w.heap.size, 0))) w' b a (csAft s0.pan S.recd cs0) :=
        ⟨k3.rel, h.st.env.mono k3.ext, h.st.fn, h.st.defs.mono k3.ext, Nat.le_trans h.st.base (by omega), h.st.pan.mono k3.ext, h.st.rnd.mono k3.ext⟩
      have hS' := hst.put (dst := o.dst) (fun d hdd => by rw [h.sz]; exact hd o hmem d hdd) (v := en.v) (u := u) (fun _ => .inr k3.val)
      refine ⟨L.set en.s.H.length (some (w.heap.size, 0)), w', _, .one (op_value ho hwant (by rw [hsem]; exact k1)), ⟨h.steps, h.tr, h.run, h.head, closed_cons h.cl he, hxa, fun x hx hk => .tail _ (h.ch x hx hk), hE, ?_,
        fun x hx hxX => h.ready x hx (fun hc => hxX (.tail _ hc)), fun x hx hxX hxw hxk => ?_, fun x hx y hy hxX hyX => h.dist x hx y hy (fun hc => hxX (.tail _ hc)) (fun hc => hyX (.tail _ hc)), ?_, by simpa using h.le, by rw [Act.size_put]; exact h.sz, h.pan, h.fn, h.good⟩⟩
      · rw [hdst]; exact hS'
      · obtain ⟨q1, q2, q3⟩ := h.hole x hx (fun hc => hxX (.tail _ hc)) hxw hxk
        refine ⟨q1, by simpa using q2, ?_⟩
        rw [locOf_set g2]
        split
        · rename_i heq
          exfalso
          -- two births at one place are one
          have hxe : x = en := h.dist x hx en hen (fun hc => hxX (.tail _ hc)) hnX hxw hww hxk hk1 heq.symm
          exact hxX (hxe ▸ .head _)
        · exact q3
      · refine ⟨h.wrote.ext.trans k3.ext, k3.rel, fun i hi hn => ?_⟩
        rw [locOf_set g2]
        split
        · omega
        · exact h.wrote.hole i hi hn
end
end Go.Ev
/- A region whose order is drawn, whole. Each theorem bears its own conditions. -/
set_option linter.unusedVariables false
set_option linter.unusedSectionVars false
set_option linter.unusedSimpArgs false
namespace Go.Ev
open Go.RowKit
variable [Globs]
section
variable {Z : Nat → Nat → Prop} {L : Locs} {w : World} {B N : Nat} {ops : Array Oper} {ex : List (Nat × Nat)} {C : Ctx} {rec : Task → Option Res}
variable {pl : Plan} {M : List (Nat × Nat)} {s0 s' : St} {T : List En} {p : Option AVal} {L0 : Locs} {w0 : World} {b : Frame} {cs0 : List Frame} {n0 : Nat}

/-- What the checks of a plan's run say. -/
def Wins (rec : Task → Option Res) (C : Ctx) (ops : Array Oper) (pl : Plan) (T : List En) (s' : St) : Prop :=
  ∀ en ∈ T, en.w = true → en.k ≠ 2 → ∀ lo hi, winOf pl.wins en.i = some (lo, hi) → ∀ q G, (heapsOf T s')[q]? = some G → lo ≤ q → q ≤ hi → Ready rec C ops en G

theorem filter_map_k (A : List En) : ((A.map fun en => (en.i, en.k)).filter fun x => x.2 == 2) = (A.filter fun en => en.k == 2).map fun en => (en.i, en.k) := by
  induction A with
  | nil => rfl
  | cons a A ih =>
    rw [List.map_cons, List.filter_cons, List.filter_cons, ih]
    split <;> simp_all

/-- An entry that is not gone through yet is still what it was in the plan. -/
theorem ready_later (hP : PlanOk ops pl ex M) (hT : PRun rec C ops pl.steps s0 T p s') (hwin : Wins rec C ops pl T s') {X : List Nat} {A T2 : List En} {π : List (Nat × Nat)} (hsteps : pl.steps = A.map (fun en => (en.i, en.k)) ++ π) (htr : T = A ++ T2)
    (hcl : Closed ops ex X) (hch : ∀ en ∈ A, en.k = 2 → en.i ∈ X) {G : Heap} (hG : (heapsOf T s')[(A.filter fun en => en.k == 2).length]? = some G) {A0 : List En} {c0 : En} (hA0 : A = A0 ++ [c0]) (hc0 : c0.k = 2) {en : En} (hen0 : en ∈ A0) (hnX : en.i ∉ X) (hw : en.w = true) : Ready rec C ops en G := by
  have hen : en ∈ A := by rw [hA0]; simp [hen0]
  by_cases hk2 : en.k = 2
  · intro o ho
    exact ⟨fun h => by omega, fun h => by omega⟩
  obtain ⟨A1, A3, hA3⟩ := List.append_of_mem hen0
  have hA : A = A1 ++ en :: (A3 ++ [c0]) := by rw [hA0, hA3]; simp
  obtain ⟨m1, m2, m3, m4⟩ := masks_sem hP.masks (fun _ _ h => by cases h) trivial
  have hS : pl.steps = A1.map (fun en => (en.i, en.k)) ++ (en.i, en.k) :: ((A3 ++ [c0]).map (fun en => (en.i, en.k)) ++ π) := by rw [hsteps, hA]; simp
  have hp : ((A1.map fun en => (en.i, en.k)).filter fun x => x.2 == 2).length < (A.filter fun en => en.k == 2).length := by
    rw [filter_map_k, List.length_map, hA]; simp [List.filter_append, List.filter_cons, hc0]; split <;> simp <;> omega
  have hchain : ∀ h c, h < (A.filter fun en => en.k == 2).length → ((pl.steps.filter fun x => x.2 == 2).map (·.1))[h]? = some c → c ∈ X := by
    intro h c hh hc
    rw [hsteps, List.filter_append, filter_map_k, List.map_append, List.getElem?_append_left (by simpa using hh)] at hc
    have := List.mem_of_getElem? hc
    simp only [List.map_map, List.mem_map, List.mem_filter, Function.comp] at this
    obtain ⟨x, ⟨hx1, hx2⟩, rfl⟩ := this
    exact hch x hx1 (by simpa using hx2)
  have hex : ∀ h, h < (A.filter fun en => en.k == 2).length → ∃ c, ((pl.steps.filter fun x => x.2 == 2).map (·.1))[h]? = some c := by
    intro h hh
    refine ⟨_, List.getElem?_eq_getElem (show h < ((pl.steps.filter fun x => x.2 == 2).map (·.1)).length from ?_)⟩
    rw [hsteps, List.filter_append, filter_map_k]
    simp
    omega
  have hclosed : ∀ c, c ∈ X → hasM M c en.i = true → False := fun c hc hm => hnX (hasM_sem m1 hm hcl (hcl c hc))
  rcases hP.Bb _ en.i en.k _ hS hk2 with ⟨lo, hi, hwn, hlo, hhi, hc⟩ | ⟨hwn, h | hc⟩
  · refine hwin en (by rw [htr]; simp [hen]) hw hk2 lo hi hwn _ G hG (Nat.le_trans hlo (Nat.le_of_lt hp)) ?_
    refine Nat.not_lt.1 fun hlt => ?_
    obtain ⟨c, hcc⟩ := hex hi hlt
    exact hclosed c (hchain hi c hlt hcc) (hc c hcc)
  · obtain ⟨hk0, o, ho, hl⟩ := h
    have hb := (hT.base en (by rw [htr]; simp [hen])).2.2 hw hk0
    intro o' ho'
    refine ⟨fun _ => opQ_blind ?_ (hb o' ho'), fun h => by omega⟩
    rw [ho] at ho'; cases ho'; exact hl
  · obtain ⟨c, hcc⟩ := hex _ hp
    exact (hclosed c (hchain _ c hp hcc) (hc c hcc)).elim

/-- Up to the next operation of the chain: what is born there is not there yet. -/
theorem advance {I : St → Prop} (hKI : Kept I) (hIb : ∀ (s : St) (o : Oper) (obj : AObj) (f : Nat → AVal), I s → evB C s.env s.H o = some (obj, f) → I { s with H := s.H ++ [obj] }) (hP : PlanOk ops pl ex M) (hT : PRun rec C ops pl.steps s0 T p s') {X : List Nat} {A0 T1 : List En} {π : List (Nat × Nat)} {S1 : St} {e : Env} {a : Act} (hsteps : pl.steps = A0.map (fun en => (en.i, en.k)) ++ π) (htr : T = A0 ++ T1) (hrun : PRun rec C ops π S1 T1 p s')
    (hcl : Closed ops ex X) (hxa : ∀ i ∈ X, ∃ en ∈ A0, en.i = i) (hch : ∀ en ∈ A0, en.k = 2 → en.i ∈ X) (henv : EnvX ops A0 (· ∈ X) s0.env e) (hst : StRel B N Z (S1.withEnv e) L w b a (csAft s0.pan S1.recd cs0))
    (hready : ∀ G, (heapsOf T s')[(A0.filter fun en => en.k == 2).length]? = some G → ∀ en ∈ A0, en.i ∉ X → en.w = true → Ready rec C ops en G)
    (hhole : ∀ en ∈ A0, en.i ∉ X → en.w = true → en.k = 1 → L0.length ≤ en.s.H.length ∧ en.s.H.length < L.length ∧ locOf L en.s.H.length = none)
    (hdist : ∀ x ∈ A0, ∀ y ∈ A0, x.i ∉ X → y.i ∉ X → x.w = true → y.w = true → x.k = 1 → y.k = 1 → x.s.H.length = y.s.H.length → x = y)
    (hwrote : Wrote B Z s0.H L0 w0 S1.H L w) (hle : L0.length ≤ L.length) (hsz : a.tmps.size = n0) (hpan : S1.pan = s0.pan) (hfn : S1.fn = s0.fn) (hgood : I S1) :
    ∃ A T2 π2 S L', Inv I rec C ops ex pl s0 s' T p B N Z L0 w0 b cs0 n0 X A T2 π2 S e L' w a ∧ S.recd = S1.recd := by
  have hI := hT.inj hP
  obtain ⟨A, T2, π1, π2, S, K, h1, h2, h3, h4, h5, h6, h7, h8, h9, h10, h11, h12, h13, h14⟩ := hrun.adv hKI hIb fun x hx => hP.le2 x (by rw [hsteps]; simp [hx])
  obtain ⟨g1, g2⟩ := StRel.holes K hst
  have hlen1 : L.length = S1.H.length := hst.heap.len
  have hnA : ∀ en ∈ A, en.i ∉ X := by
    intro en hen hX
    obtain ⟨x, hx, hxi⟩ := hxa en.i hX
    have hT2 : T = A0 ++ (A ++ T2) := by rw [htr, h1]
    obtain ⟨π', hπ⟩ := hT.pre
    have hnd := hP.nodup
    rw [hπ, hT2] at hnd
    simp only [List.map_append, List.append_assoc] at hnd
    rw [List.nodup_append] at hnd
    refine hnd.2.2 x.i (by simp only [List.map_map, List.mem_map]; exact ⟨x, hx, rfl⟩) en.i ?_ hxi
    simp only [List.mem_append, List.map_map, List.mem_map]
    exact .inl ⟨en, hen, rfl⟩
  have hgrow : (L ++ List.replicate K.length none).length = L.length + K.length := by simp
  have hSl : S.H.length = L.length + K.length := by rw [h10, List.length_append, ← hlen1]
  refine ⟨A0 ++ A, T2, π2, S, L ++ List.replicate K.length none, ⟨?_, by rw [htr, h1, List.append_assoc], h4, h5, hcl, fun i hi => ?_, fun en hen hk => ?_, henv.more hnA, ?_, fun en hen hX hw => ?_, fun en hen hX hw hk => ?_, fun x hx y hy hxX hyX hxw hyw hxk hyk hxy => ?_, ?_, by omega, hsz, h8.trans hpan, h6.trans hfn, h14 hgood⟩, h9⟩
  · rw [hsteps, h2, List.map_append, h3, List.append_assoc]
  · obtain ⟨x, hx, hxi⟩ := hxa i hi
    exact ⟨x, by simp [hx], hxi⟩
  · rcases List.mem_append.1 hen with hen | hen
    · exact hch en hen hk
    · exact absurd hk (h11 en hen)
  · rw [h9]
    exact g1.conv h10 rfl h6 h7 h8 h9
  · rcases List.mem_append.1 hen with hen | hen
    · refine hready S.H ?_ en hen hX hw
      rw [show T = (A0 ++ A) ++ T2 by rw [htr, h1, List.append_assoc], heapsOf_append]
      have hfA : (A.filter fun en => en.k == 2) = [] := by
        rw [List.filter_eq_nil_iff]
        intro x hx
        simpa using h11 x hx
      rw [List.filter_append, hfA, List.append_nil, List.getElem?_append_right (by simp)]
      simp only [List.length_map, Nat.sub_self]
      exact head_heap h4 h5
    · exact (h12 en hen hw).1
  · rcases List.mem_append.1 hen with hen | hen
    · obtain ⟨q1, q2, q3⟩ := hhole en hen hX hw hk
      refine ⟨q1, by omega, ?_⟩
      unfold locOf at q3 ⊢
      rw [List.getElem?_append_left q2]
      exact q3
    · obtain ⟨q1, q2⟩ := (h12 en hen hw).2 hk
      refine ⟨by omega, by omega, locOf_replicate (by omega)⟩
  · rcases List.mem_append.1 hx with hx1 | hx1 <;> rcases List.mem_append.1 hy with hy1 | hy1
    · exact hdist x hx1 y hy1 hxX hyX hxw hyw hxk hyk hxy
    · have q1 := (hhole x hx1 hxX hxw hxk).2.1
      have q2 := ((h12 y hy1 hyw).2 hyk).1
      omega
    · have q1 := (hhole y hy1 hyX hyw hyk).2.1
      have q2 := ((h12 x hx1 hxw).2 hxk).1
      omega
    · exact h13 x hx1 y hy1 hxw hyw hxk hyk hxy
  · rw [h10]
    exact hwrote.trans g2 hle

/-- What comes of a region whose order is drawn. -/
def DrawEnd (C : Ctx) (ops : Array Oper) (pl : Plan) (s0 s' : St) (p : Option AVal) (B N : Nat) (Z : Nat → Nat → Prop) (L0 : Locs) (w0 : World) (b : Frame) (cs0 : List Frame) (n0 : Nat) (k : List Item) (m : Machine) : Prop :=
  ∃ L' w' a' e', Ends C.P (VRel Z s'.H L' w') m b k (csAft s0.pan s'.recd cs0) a' w' (exOf p) ∧ Wrote B Z s0.H L0 w0 s'.H L' w' ∧ StRel B N Z (s'.withEnv e') L' w' b a' (csAft s0.pan s'.recd cs0) ∧
    (p = none → ∀ t, get e' t = get s'.env t) ∧ (∀ t, (∀ i ∈ pl.steps.map (·.1), dstOf ops i ≠ some t) → get e' t = get s0.env t) ∧ a'.tmps.size = n0 ∧ L0.length ≤ L'.length

theorem draw_sim {I : St → Prop} (hKI : Kept I) (hIb : ∀ (s : St) (o : Oper) (obj : AObj) (f : Nat → AVal), I s → evB C s.env s.H o = some (obj, f) → I { s with H := s.H ++ [obj] }) (hC : TabOk C) (hP : PlanOk ops pl ex M) (hT : PRun rec C ops pl.steps s0 T p s') (hwin : Wins rec C ops pl T s') (hd : ∀ o ∈ ops.toList, ∀ d, o.dst = some d → d < n0)
    (hquiet : ∀ (i : Nat) (o : Oper) (s : St) (v : AVal), I s → ops[i]? = some o → opQ rec C s.fn s.env s.H o = some v → OpOk C ops i o s (.ok v s))
    (hop : ∀ (i : Nat) (o : Oper) (s : St) (x : OA), I s → ops[i]? = some o → opX rec C s o = some x → OpOk C ops i o s x ∧ I x.st) (k : List Item) :
    ∀ (σ : List Nat) {X : List Nat} {A T2 : List En} {π2 : List (Nat × Nat)} {S : St} {e : Env} {L : Locs} {w : World} {a : Act}, Inv I rec C ops ex pl s0 s' T p B N Z L0 w0 b cs0 n0 X A T2 π2 S e L w a → Sched ops ex X σ →
      DrawEnd C ops pl s0 s' p B N Z L0 w0 b cs0 n0 k (lone (b.atR a (.inRegion ops σ :: k)) (csAft s0.pan S.recd cs0) w)
  | [], X, A, T2, π2, S, e, L, w, a, h, hs => by
    have hI := hT.inj hP
    have hnil : π2 = [] := by
      cases hπ : π2 with
      | nil => rfl
      | cons x r =>
        exfalso
        have hx : x.1 ∈ pl.steps.map (·.1) := by rw [h.steps, hπ]; simp
        have hsz := (masks_sem hP.masks (fun _ _ h => by cases h) trivial).2.2.2 x.1 hx
        obtain ⟨en, hen, hi⟩ := h.xa x.1 (hs x.1 hsz)
        have hnd := hP.nodup
        rw [h.steps, hπ, List.map_append, List.nodup_append] at hnd
        exact hnd.2.2 en.i (by simp only [List.map_map, List.mem_map]; exact ⟨en, hen, rfl⟩) x.1 (by simp) hi
    have hrun := h.run
    rw [hnil] at hrun
    cases hrun
    have hall : ∀ en ∈ A, en.i ∈ X := fun en hen => hs en.i ((masks_sem hP.masks (fun _ _ h => by cases h) trivial).2.2.2 en.i (by rw [h.steps]; simp only [List.map_append, List.map_map, List.mem_append, List.mem_map]; exact .inl ⟨en, hen, rfl⟩))
    have hfin := (hT.env (A0 := []) (e0 := s0.env) (by simpa using hI) (fun t => ⟨fun en h => (by cases h), fun _ => rfl⟩)).2.1 rfl
    simp only [List.nil_append] at hfin
    have hTA : T = A := by rw [h.tr]; simp
    refine ⟨L, w, a, e, .one stepR_region_end, h.wrote, h.st, fun _ t => ?_, fun t ht => (h.env t).2 fun en hen _ => ht en.i (by rw [h.steps]; simp only [List.map_append, List.map_map, List.mem_append, List.mem_map]; exact .inl ⟨en, hen, rfl⟩), h.sz, h.le⟩
    by_cases hex : ∃ en ∈ A, dstOf ops en.i = some t
    · obtain ⟨en, hen, hdd⟩ := hex
      rw [(h.env t).1 en hen (hall en hen) hdd, (hfin t).1 en (by rw [hTA]; exact hen) trivial hdd]
    · rw [(h.env t).2 fun en hen _ hdd => hex ⟨en, hen, hdd⟩, (hfin t).2 fun en hen _ hdd => hex ⟨en, by rw [← hTA]; exact hen, hdd⟩]
  | i :: σ, X, A, T2, π2, S, e, L, w, a, h, hs => by
    obtain ⟨hi, hnX, he, hs'⟩ := hs
    have hI := hT.inj hP
    have hin := hP.all i hi
    rw [h.steps, List.map_append, List.mem_append] at hin
    rcases hin with hin | hin
    · simp only [List.map_map, List.mem_map, Function.comp] at hin
      obtain ⟨en, hen, rfl⟩ := hin
      obtain ⟨L1, w1, a1, h1, h2⟩ := step_behind hKI hC hP hT hd hquiet h hen hnX he σ k
      obtain ⟨L2, w2, a2, e2, g1, g2⟩ := draw_sim hKI hIb hC hP hT hwin hd hquiet hop k σ h2 hs'
      exact ⟨L2, w2, a2, e2, .of_steps h1 g1, g2⟩
    · cases hπ : π2 with
      | nil => rw [hπ] at hin; cases hin
      | cons x r =>
        have hx2 := h.head x r hπ
        obtain ⟨c, kc⟩ := x
        dsimp only at hx2
        subst hx2
        obtain ⟨m1, m2, m3, m4⟩ := masks_sem hP.masks (fun _ _ h => by cases h) trivial
        have hnd := hP.nodup
        rw [h.steps, hπ, List.map_append, List.nodup_append] at hnd
        have hcX : c ∉ X := fun hc => by
          obtain ⟨en, hen, hi⟩ := h.xa c hc
          exact hnd.2.2 en.i (by simp only [List.map_map, List.mem_map]; exact ⟨en, hen, rfl⟩) c (by simp) hi
        rw [hπ, List.map_cons, List.mem_cons] at hin
        rcases hin with hin | hin
        · dsimp only at hin
          subst hin
          have hAT : ∀ x ∈ A, x ∈ T := fun x hx => by rw [h.tr]; simp [hx]
          have hcsS : csAft (S.withEnv e).pan (S.withEnv e).recd (csAft s0.pan S.recd cs0) = csAft s0.pan S.recd cs0 := csAft_same h.st.pan
          have hcl' := closed_cons h.cl he
          have hrun := h.run
          rw [hπ] at hrun
          -- what all three have in common
          have com : ∀ (en : En) (T' : List En), en.i = i → en.k = 2 → T2 = en :: T' → ∀ {S1 : St} {e' : Env} {L1 : Locs} {w1 : World} {a1 : Act}, PRun rec C ops r S1 T' p s' → e' = putA e (dstOf ops en.i) en.v → StRel B N Z (S1.withEnv e') L1 w1 b a1 (csAft s0.pan S1.recd cs0) →
              Wrote B Z S.H L w S1.H L1 w1 → L.length ≤ L1.length → a1.tmps.size = n0 → S1.pan = s0.pan → S1.fn = s0.fn → I S1 →
              DrawEnd C ops pl s0 s' p B N Z L0 w0 b cs0 n0 k (lone (b.atR a1 (.inRegion ops σ :: k)) (csAft s0.pan S1.recd cs0) w1) := by
            intro en T' hi hk hT2 S1 e' L1 w1 a1 hr1 he' hst1 hW hL hsz hpan hfn hgood
            subst hi
            have hsteps : pl.steps = (A ++ [en]).map (fun en => (en.i, en.k)) ++ r := by rw [h.steps, hπ]; simp [hk]
            have htr : T = (A ++ [en]) ++ T' := by rw [h.tr, hT2]; simp
            have hch : ∀ x ∈ A ++ [en], x.k = 2 → x.i ∈ en.i :: X := fun x hx hxk => by
              rcases List.mem_append.1 hx with hx | hx
              · exact .tail _ (h.ch x hx hxk)
              · rw [List.mem_singleton.1 hx]; exact .head _
            have henv : EnvX ops (A ++ [en]) (· ∈ en.i :: X) s0.env e' := by
              rw [he']
              have h1 : EnvX ops (A ++ [en]) (· ∈ X) s0.env e := h.env.more fun x hx => by rw [List.mem_singleton.1 hx]; exact hcX
              exact (h1.put (hI.sub fun x hx => by rw [htr]; simp only [List.mem_append] at hx ⊢; exact .inl hx) (by simp)).congr fun x _ => by simp
            have hnot : ∀ x ∈ A ++ [en], x.i ∉ en.i :: X → x ∈ A ∧ x.i ∉ X := fun x hx hxX => by
              rcases List.mem_append.1 hx with hx | hx
              · exact ⟨hx, fun hc => hxX (.tail _ hc)⟩
              · rw [List.mem_singleton.1 hx] at hxX; exact absurd (.head _) hxX
            obtain ⟨A', T2', π2', S', L', hInv, hrec⟩ := advance hKI hIb hP hT hsteps htr hr1 hcl' (fun j hj => by
                rcases List.mem_cons.1 hj with rfl | hj
                · exact ⟨en, by simp, rfl⟩
                · obtain ⟨x, hx, hxi⟩ := h.xa j hj
                  exact ⟨x, by simp [hx], hxi⟩) hch henv hst1
              (fun G hG x hx hxX hxw => ready_later hP hT hwin hsteps htr hcl' hch hG rfl hk (hnot x hx hxX).1 hxX hxw)
              (fun x hx hxX hxw hxk => by
                obtain ⟨h1, h2⟩ := hnot x hx hxX
                obtain ⟨q1, q2, q3⟩ := h.hole x h1 h2 hxw hxk
                exact ⟨q1, Nat.lt_of_lt_of_le q2 hL, hW.hole _ q2 q3⟩)
              (fun x hx y hy hxX hyX => h.dist x (hnot x hx hxX).1 y (hnot y hy hyX).1 (hnot x hx hxX).2 (hnot y hy hyX).2)
              (h.wrote.trans hW h.le) (Nat.le_trans h.le hL) hsz hpan hfn hgood
            have := draw_sim hKI hIb hC hP hT hwin hd hquiet hop k σ hInv hs'
            rw [hrec] at this
            exact this
          cases hrun with
          | skip _ _ _ _ o T' _ _ ho hw hr1 =>
            have hdec : T = A ++ (⟨i, 2, S, false, .tup []⟩ : En) :: T' := h.tr
            have hreads := reads_same hP hT hdec hAT h.cl he hcX h.xa h.env ho
            have hw' : wantedA e ops o = some false := (wantedA_env hreads).symm.trans hw
            have hwant := wanted_sound h.st.env hw'
            have hmem : o ∈ ops.toList := by rw [← Array.getElem?_toList] at ho; exact List.mem_of_getElem? ho
            have hs := stepR_op_skip (P := C.P) (b := b) (a := a) (k := k) (cs := csAft s0.pan S.recd cs0) (w := w) (ops := ops) (i := i) (rest := σ) (by simp [ho, hwant])
            simp only [ho, Option.bind_some] at hs
            have hS' := h.st.put (fun d hdd => by rw [h.sz]; exact hd o hmem d hdd) (v := .tup []) (u := undef) (fun _ => .inr (.tup _ _ rfl (by simp)))
            obtain ⟨L2, w2, a2, e2, g1, g2⟩ := com ⟨i, 2, S, false, .tup []⟩ T' rfl rfl rfl hr1 (e' := putA e o.dst (.tup [])) (by rw [dstOf_some ho]) (hS'.conv rfl rfl rfl rfl rfl rfl) (Wrote.refl h.st.heap) (Nat.le_refl _) (by rw [Act.size_put]; exact h.sz) h.pan h.fn (hKI.env _ _ h.good)
            exact ⟨L2, w2, a2, e2, .of_steps (.one hs) g1, g2⟩
          | chain _ _ _ o v s1 T' _ _ ho hw hv hr1 =>
            have hdec : T = A ++ (⟨i, 2, S, true, v⟩ : En) :: T' := h.tr
            have hreads := reads_same hP hT hdec hAT h.cl he hcX h.xa h.env ho
            have hw' : wantedA e ops o = some true := (wantedA_env hreads).symm.trans hw
            have hwant := wanted_sound h.st.env hw'
            have hmem : o ∈ ops.toList := by rw [← Array.getElem?_toList] at ho; exact List.mem_of_getElem? ho
            have hv' := opX_env (e := e) (fun t ht => hreads t (List.mem_append.2 (.inl ht))) hv
            obtain ⟨k1, k2, k3⟩ := opX_keeps hv
            simp only [OA.st] at k1 k2 k3
            obtain ⟨L1, w1, D1, u, h4, h5, h6, h7, h8, h9, h10⟩ := (hop i o (S.withEnv e) _ (hKI.env _ _ h.good) ho hv').1 B N Z L w b a (csAft s0.pan S.recd cs0) σ k h.st ho hwant
            have hcs1 : csAft (S.withEnv e).pan (s1.withEnv e).recd (csAft s0.pan S.recd cs0) = csAft s0.pan s1.recd cs0 := by
              show csAft S.pan s1.recd _ = _
              rw [h.pan, csAft_csAft]
            rw [hcs1] at h4 h6
            have hS' := h6.put (dst := o.dst) (fun d hdd => by show d < a.tmps.size; rw [h.sz]; exact hd o hmem d hdd) (v := v) (u := u) h7
            obtain ⟨L2, w2, a2, e2, g1, g2⟩ := com ⟨i, 2, S, true, v⟩ T' rfl rfl rfl hr1 (e' := putA e o.dst v) (by rw [dstOf_some ho]) (hS'.conv rfl rfl rfl rfl rfl rfl) h5 h10 (by rw [Act.size_put]; exact h.sz) (k3.trans h.pan) (k1.trans h.fn) (hKI.env _ _ (hop i o S _ h.good ho hv).2)
            exact ⟨L2, w2, a2, e2, .of_steps h4 g1, g2⟩
          | pan _ _ _ o v s1 ho hw hv =>
            have hdec : T = A ++ (⟨i, 2, S, true, v⟩ : En) :: [] := h.tr
            have hreads := reads_same hP hT hdec hAT h.cl he hcX h.xa h.env ho
            have hw' : wantedA e ops o = some true := (wantedA_env hreads).symm.trans hw
            have hwant := wanted_sound h.st.env hw'
            have hv' := opX_env (e := e) (fun t ht => hreads t (List.mem_append.2 (.inl ht))) hv
            obtain ⟨L1, w1, k1, u, h4, h5, h6, h7, h8, h9⟩ := (hop i o (S.withEnv e) _ (hKI.env _ _ h.good) ho hv').1 B N Z L w b a (csAft s0.pan S.recd cs0) σ k h.st ho hwant
            have hcs1 : csAft (S.withEnv e).pan (s'.withEnv e).recd (csAft s0.pan S.recd cs0) = csAft s0.pan s'.recd cs0 := by
              show csAft S.pan s'.recd _ = _
              rw [h.pan, csAft_csAft]
            rw [hcs1] at h4 h6
            exact ⟨L1, w1, a, e, ⟨k1, u, h7, h4⟩, h.wrote.trans h5 h.le, h6, fun hc => (by cases hc), fun t ht => (h.env t).2 fun en hen _ => ht en.i (by rw [h.steps]; simp only [List.map_append, List.map_map, List.mem_append, List.mem_map]; exact .inl ⟨en, hen, rfl⟩), h.sz, Nat.le_trans h.le h9⟩
        · exfalso
          obtain ⟨y, hy, hyi⟩ := List.mem_map.1 hin
          have hm := hP.A _ c r (by rw [h.steps, hπ]) y hy
          rw [hyi] at hm
          exact hcX (hasM_sem m1 hm h.cl he)

end
end Go.Ev
/- The statement whose order is drawn. Each theorem bears its own conditions. -/
set_option linter.unusedVariables false
set_option linter.unusedSectionVars false
set_option linter.unusedSimpArgs false
namespace Go.Ev
open Go.RowKit
variable [Globs]

def adjacent : List Nat → List (Nat × Nat)
  | a :: c :: r => (a, c) :: adjacent (c :: r)
  | _ => []
/-- Do plans serve a region? -/
def okDraw (plans : List Plan) (ops : Array Oper) : Bool :=
  match plans with
  | [p] => okPlan ops p []
  | [p, q] => (adjacent ((p.steps.filter fun x => x.2 == 2).map (·.1))).any fun x => x.1 != x.2 && okPlan ops p [(x.1, x.2)] && okPlan ops q [(x.2, x.1)]
  | _ => false

section
variable {Z : Nat → Nat → Prop} {L : Locs} {w : World} {B N : Nat} {ops : Array Oper} {ex : List (Nat × Nat)} {C : Ctx} {rec : Task → Option Res}

theorem get_dropDst {e : Env} {t : Nat} : get (dropDst ops e) t = if (∃ o ∈ ops.toList, o.dst = some t) then .bad else get e t := by
  unfold dropDst
  induction e with
  | nil => simp [get_nil]
  | cons p r ih =>
    obtain ⟨d, v⟩ := p
    rw [List.filter_cons]
    by_cases hd : ∃ o ∈ ops.toList, o.dst = some d
    · have h1 : (ops.toList.any fun o => o.dst == some d) = true := by
        rw [List.any_eq_true]
        obtain ⟨o, h1, h2⟩ := hd
        exact ⟨o, h1, by simpa using h2⟩
      simp only [h1, Bool.not_true, Bool.false_eq_true, if_false]
      rw [ih]
      split
      · rfl
      · rename_i hn
        rw [get_cons, if_neg]
        intro hdt
        subst hdt
        exact hn hd
    · have h1 : (ops.toList.any fun o => o.dst == some d) = false := by
        rw [List.any_eq_false]
        intro o ho h2
        exact hd ⟨o, ho, by simpa using h2⟩
      simp only [h1, Bool.not_false, if_true]
      rw [get_cons, get_cons, ih]
      by_cases hdt : d = t
      · subst hdt
        rw [if_pos rfl, if_neg hd, if_pos rfl]
      · rw [if_neg hdt, if_neg hdt]

theorem ERel.point {H : Heap} {e e' : Env} {tmps : Array Value} (h : ERel Z H L w e tmps) (he : ∀ t, get e' t = get e t ∨ get e' t = .bad) : ERel Z H L w e' tmps := fun t => by
  rcases he t with h1 | h1
  · rw [h1]; exact h t
  · exact .inl h1

theorem wrote_drew {H : Heap} (hR : HRel B Z H L w) : Wrote B Z H L w H L w.drew := wrote_grown hR (below_drew _ _ _ (Below.refl _ _))

/-- Along one plan. -/
theorem draw_start {I : St → Prop} (hKI : Kept I) (hIb : ∀ (s : St) (o : Oper) (obj : AObj) (f : Nat → AVal), I s → evB C s.env s.H o = some (obj, f) → I { s with H := s.H ++ [obj] }) {pl : Plan} {M : List (Nat × Nat)} {s s' : St} {p : Option AVal} (hC : TabOk C) (hP : PlanOk ops pl ex M) (hrun : runPlan rec C ops pl s = some (p, s')) (hgood : I s)
    (hquiet : ∀ (i : Nat) (o : Oper) (s : St) (v : AVal), I s → ops[i]? = some o → opQ rec C s.fn s.env s.H o = some v → OpOk C ops i o s (.ok v s))
    (hop : ∀ (i : Nat) (o : Oper) (s : St) (x : OA), I s → ops[i]? = some o → opX rec C s o = some x → OpOk C ops i o s x ∧ I x.st)
    {b : Frame} {a : Act} {cs : List Frame} (k : List Item) (hS : StRel B N Z s L w b a cs) (hd : ∀ o ∈ ops.toList, ∀ d, o.dst = some d → d < a.tmps.size) {σ : List Nat} (hs : Sched ops ex [] σ) :
    DrawEnd C ops pl s s' p B N Z L w b cs a.tmps.size k (lone (b.atR a (.inRegion ops σ :: k)) cs w.drew) := by
  obtain ⟨T, hT, hwin⟩ := runPlan_run hP.le2 hrun
  have hcs : csAft s.pan s.recd cs = cs := csAft_same hS.pan
  have hW := wrote_drew hS.heap
  have hS' := hS.turn hW
  obtain ⟨A, T2, π2, S, L', hI, hr⟩ := advance (w := w.drew) (L := L) (L0 := L) (w0 := w) (b := b) (cs0 := cs) (n0 := a.tmps.size) (B := B) (N := N) (Z := Z) (X := []) (A0 := []) (e := s.env) (a := a) hKI hIb hP hT rfl rfl hT (fun i h => (by cases h)) (fun i h => (by cases h)) (fun i h => (by cases h))
    (fun t => ⟨fun en h => (by cases h), fun _ => rfl⟩) (by rw [hcs]; exact hS'.conv rfl rfl rfl rfl rfl rfl) (fun G _ en h => (by cases h)) (fun en h => (by cases h)) (fun en h => (by cases h)) hW (Nat.le_refl _) rfl rfl rfl hgood
  have := draw_sim hKI hIb hC hP hT hwin hd hquiet hop k σ hI hs
  rw [hr, hcs] at this
  exact this

theorem PlanOk.dsts {pl : Plan} {M : List (Nat × Nat)} (hP : PlanOk ops pl ex M) {t : Nat} (h : ¬ ∃ o ∈ ops.toList, o.dst = some t) : ∀ i ∈ pl.steps.map (·.1), dstOf ops i ≠ some t := fun i hi hd => by
  refine h ?_
  unfold dstOf at hd
  obtain ⟨o, ho, hdo⟩ := bindo hd
  exact ⟨o, by rw [← Array.getElem?_toList] at ho; exact List.mem_of_getElem? ho, hdo⟩

theorem draw_end {pl : Plan} {M : List (Nat × Nat)} {s s1 s' : St} {p : Option AVal} {e : Ex} (hP : PlanOk ops pl ex M) (h2 : finishD (C.keep s.fn) ops s.env (p, s1) = .code e s') {b : Frame} {a : Act} {cs : List Frame} {k : List Item} {m : Machine}
    (hfp : s1.fn = s.fn ∧ s1.pan = s.pan) (h : DrawEnd C ops pl s s1 p B N Z L w b cs a.tmps.size k m) :
    ∃ L' w' a', Ends C.P (VRel Z s'.H L' w') m b k (csAft s.pan s'.recd cs) a' w' e ∧ Wrote B Z s.H L w s'.H L' w' ∧ StRel B N Z s' L' w' b a' (csAft s.pan s'.recd cs) ∧ s'.pan = s.pan ∧ a'.tmps.size = a.tmps.size ∧ L.length ≤ L'.length := by
  obtain ⟨L', w', a', e', g1, g2, g3, g4, g5, g6, g7⟩ := h
  unfold finishD at h2
  cases p with
  | none =>
    simp only [Res.code.injEq] at h2
    obtain ⟨rfl, rfl⟩ := h2
    refine ⟨L', w', a', g1, g2, ?_, hfp.2, g6, g7⟩
    refine ⟨g3.heap, g3.env.point fun t => ?_, g3.fn, g3.defs, g3.base, g3.pan, g3.rnd⟩
    rcases get_restrict (keep := C.keep s.fn) (e := s1.env) t with h | h
    · exact .inl (h.trans (g4 rfl t).symm)
    · exact .inr h
  | some v =>
    simp only [Res.code.injEq] at h2
    obtain ⟨rfl, rfl⟩ := h2
    refine ⟨L', w', a', g1, g2, ?_, hfp.2, g6, g7⟩
    refine ⟨g3.heap, g3.env.point fun t => ?_, g3.fn, g3.defs, g3.base, g3.pan, g3.rnd⟩
    rcases get_restrict (keep := C.keep s.fn) (e := dropDst ops s.env) t with h | h
    · show get (restrict (C.keep s.fn) (dropDst ops s.env)) t = get e' t ∨ _
      rw [h, get_dropDst]
      split
      · exact .inr rfl
      · rename_i hn
        exact .inl (g5 t (hP.dsts hn)).symm
    · exact .inr h

/-- A region whose order is drawn. -/
theorem ok_draw {I : St → Prop} (hKI : Kept I) (hIb : ∀ (s : St) (o : Oper) (obj : AObj) (f : Nat → AVal), I s → evB C s.env s.H o = some (obj, f) → I { s with H := s.H ++ [obj] }) {id : Nat} {s : St} {e : Ex} {s' : St} (hgood : I s) (hC : TabOk C) (hpl : okDraw (C.plan s.fn id) ops = true)
    (hquiet : ∀ (i : Nat) (o : Oper) (s : St) (v : AVal), I s → ops[i]? = some o → opQ rec C s.fn s.env s.H o = some v → OpOk C ops i o s (.ok v s))
    (hop : ∀ (i : Nat) (o : Oper) (s : St) (x : OA), I s → ops[i]? = some o → opX rec C s o = some x → OpOk C ops i o s x ∧ I x.st)
    (h : regionA rec C id ops true s = some (.code e s')) : CodeOk C (.region id ops true) s e s' := by
  intro B N Z L w b a cs k hS hok
  have hd : ∀ o ∈ ops.toList, ∀ d, o.dst = some d → d < a.tmps.size := by
    intro o ho d hd
    simp only [okC, List.all_eq_true] at hok
    have := hok o ho
    rw [hd] at this
    simpa using this
  have hgo : ∀ {x : Ex} {s2 : St}, (∃ L' w' a', Ends C.P (VRel Z s2.H L' w') (lone (b.atR a (.inRegion ops (Region.schedule (C.P.follows .mixedOrders) ops (w.tape w.drawn (.order b.fn id))) :: k)) cs w.drew) b k (csAft s.pan s2.recd cs) a' w' x ∧ Wrote B Z s.H L w s2.H L' w' ∧
      StRel B N Z s2 L' w' b a' (csAft s.pan s2.recd cs) ∧ s2.pan = s.pan ∧ a'.tmps.size = a.tmps.size ∧ L.length ≤ L'.length) →
      ∃ L' w' a', Ends C.P (VRel Z s2.H L' w') (lone (b.atR a (.code (.region id ops true) :: k)) cs w) b k (csAft s.pan s2.recd cs) a' w' x ∧ Wrote B Z s.H L w s2.H L' w' ∧
      StRel B N Z s2 L' w' b a' (csAft s.pan s2.recd cs) ∧ s2.pan = s.pan ∧ a'.tmps.size = a.tmps.size ∧ L.length ≤ L'.length := by
    rintro x s2 ⟨L', w', a', h1, h2⟩
    exact ⟨L', w', a', .of_steps (.one stepR_region_draw) h1, h2⟩
  have hfp : ∀ {pl : Plan} {ex : List (Nat × Nat)} {M : List (Nat × Nat)} {p : Option AVal} {s1 : St}, PlanOk ops pl ex M → runPlan rec C ops pl s = some (p, s1) → s1.fn = s.fn ∧ s1.pan = s.pan := by
    intro pl ex M p s1 hP hr
    obtain ⟨T, hT, _⟩ := runPlan_run hP.le2 hr
    exact (hT.env (A0 := []) (e0 := s.env) (by simpa using hT.inj hP) (fun t => ⟨fun en h => (by cases h), fun _ => rfl⟩)).2.2
  unfold regionA at h
  simp only [if_true] at h
  split at h
  · rename_i pl hpl2
    rw [hpl2] at hpl
    obtain ⟨M, hP⟩ := okPlan_sem (show okPlan ops pl [] = true from hpl)
    simp only [Option.map_eq_some_iff] at h
    obtain ⟨⟨p, s1⟩, h1, h2⟩ := h
    exact hgo (draw_end hP h2 (hfp hP h1) (draw_start hKI hIb hC hP h1 hgood hquiet hop k hS hd (sched_all hP.modes hP.masks hP.all _ _)))
  · rename_i pl ql hpl2
    rw [hpl2] at hpl
    simp only [okDraw, List.any_eq_true] at hpl
    obtain ⟨⟨x, y⟩, _, hxy⟩ := hpl
    simp only [Bool.and_eq_true, bne_iff_ne, ne_eq] at hxy
    obtain ⟨⟨hne, hp1⟩, hq1⟩ := hxy
    obtain ⟨M, hP⟩ := okPlan_sem hp1
    obtain ⟨M2, hQ⟩ := okPlan_sem hq1
    split at h
    · rename_i s1 s2 h1 h3
      split at h
      · rename_i hsame
        simp only [Bool.and_eq_true, beq_iff_eq] at hsame
        obtain ⟨⟨⟨⟨q1, q2⟩, q3⟩, q4⟩, q5⟩ := hsame
        simp only [Option.some.injEq] at h
        rcases sched_loose hne (sched_all hP.modes hP.masks hP.all (C.P.follows .mixedOrders) (w.tape w.drawn (.order b.fn id))) (by simp) (by simp) with hs | hs
        · exact hgo (draw_end hP h (hfp hP h1) (draw_start hKI hIb hC hP h1 hgood hquiet hop k hS hd hs))
        · have h2 : finishD (C.keep s.fn) ops s.env (none, s2) = .code e s' := by
            rw [← h]
            unfold finishD
            have e1 := sameEnv_eq _ _ q1
            have e2 := sameHeap_eq _ _ q2
            obtain ⟨f1, f2⟩ := hfp hP h1
            obtain ⟨f3, f4⟩ := hfp hQ h3
            dsimp only
            rw [← e1]
            cases s1; cases s2
            simp only [List.isEmpty_iff] at *
            simp_all
          exact hgo (draw_end hQ h2 (hfp hQ h3) (draw_start hKI hIb hC hQ h3 hgood hquiet hop k hS hd hs))
      · cases h
    · cases h
  · cases h
end
end Go.Ev
/- The evaluator is sound: what it says of a task is what the machine does. Each theorem bears its own conditions. -/
set_option linter.unusedVariables false
set_option linter.unusedSectionVars false
set_option linter.unusedSimpArgs false
namespace Go.Ev
open Go.RowKit
variable [Globs]
section
variable {C : Ctx}

/-- The plans for the regions of a code serve them. -/
def Wf (C : Ctx) (f : FuncId) (c : Code) : Prop := ∀ x ∈ drawsIn c, okDraw (C.plan f x.1) x.2 = true
def Jump (j : Code) : Prop := (∃ i, j = .exit i) ∨ (∃ l, j = .goto l) ∨ j = .ret
def LoopsOk (C : Ctx) (H : Heap) : Prop :=
  ∀ (id : Nat) fn env ps as bd st pd, H[id]? = some (AObj.loop fn env ps as bd st pd) → (∃ f, C.fn fn = some f) ∧ Wf C fn as ∧ Wf C fn bd ∧ ∀ j, pd = some j → Jump j
structure SOk (C : Ctx) (s : St) : Prop where
  loops : LoopsOk C s.H
  fn : ∃ f, C.fn s.fn = some f
def Pv (v : AVal) : Prop := ∃ t x, v = .iface t x
def PvO (p : Option AVal) : Prop := ∀ v, p = some v → Pv v
def ExPv : Ex → Prop
  | .panic v => Pv v
  | _ => True
def CRPv : CR → Prop
  | .pan v _ _ => Pv v
  | _ => True
structure CtxOk (C : Ctx) : Prop where
  tab : TabOk C
  prims : PrimsOk C
  hkeep : ∀ f F args H v H', C.hprim f = some F → F args H = some (v, H') → Keeps H H'
  wf : ∀ f fn c, C.fn f = some fn → fn.body = some c → Wf C f c

def TaskOk (C : Ctx) : Task → Prop
  | .code c s => Wf C s.fn c ∧ SOk C s
  | .scope rest body s => Wf C s.fn rest ∧ Wf C s.fn body ∧ SOk C s
  | .call f args H p => LoopsOk C H ∧ PvO p
  | .unwind s p => SOk C s ∧ PvO p
def Sound (C : Ctx) : Task → Res → Prop
  | .code c s, .code e s' => CodeOk2 C c s e s' ∧ SOk C s' ∧ s'.fn = s.fn ∧ ExPv e
  | .scope rest body s, .code e s' => ScopeOk C rest body s e s' ∧ SOk C s' ∧ s'.fn = s.fn ∧ ExPv e
  | .call f args H p, .call r => HasBody C f ∧ CallOk C f args H p r ∧ LoopsOk C r.heap ∧ CRPv r
  | .unwind s p, .call r => UnwOk C s p r ∧ LoopsOk C r.heap ∧ CRPv r
  | _, _ => False

theorem LoopsOk.keeps {H H' : Heap} (h : LoopsOk C H) (k : Keeps H H') : LoopsOk C H' := fun id fn env ps as bd st pd ho => h id fn env ps as bd st pd (k id _ ho rfl)
theorem LoopsOk.nil : LoopsOk C [] := fun id fn env ps as bd st pd ho => by simp at ho
theorem LoopsOk.set {H : Heap} (h : LoopsOk C H) {id : Nat} {fn : FuncId} {env : Env} {ps : List Tmp} {as bd : Code} {st : Nat} {pd : Option Code} (hn : (∃ f, C.fn fn = some f) ∧ Wf C fn as ∧ Wf C fn bd ∧ ∀ j, pd = some j → Jump j) :
    LoopsOk C (H.set id (.loop fn env ps as bd st pd)) := fun j fn' env' ps' as' bd' st' pd' ho => by
  rw [List.getElem?_set] at ho
  split at ho
  · split at ho
    · cases ho; exact hn
    · cases ho
  · exact h _ _ _ _ _ _ _ _ ho
theorem LoopsOk.snoc {H : Heap} (h : LoopsOk C H) {fn : FuncId} {env : Env} {ps : List Tmp} {as bd : Code} {st : Nat} {pd : Option Code} (hn : (∃ f, C.fn fn = some f) ∧ Wf C fn as ∧ Wf C fn bd ∧ ∀ j, pd = some j → Jump j) :
    LoopsOk C (H ++ [.loop fn env ps as bd st pd]) := fun j fn' env' ps' as' bd' st' pd' ho => by
  rw [getElem?_snoc] at ho
  split at ho
  · cases ho; exact hn
  · exact h _ _ _ _ _ _ _ _ ho
theorem Jump.ok {j : Code} (h : Jump j) (n : Nat) : okC n j = true := by
  rcases h with ⟨_, rfl⟩ | ⟨_, rfl⟩ | rfl <;> rfl
theorem Jump.wf {j : Code} (h : Jump j) (f : FuncId) : Wf C f j := by
  rcases h with ⟨_, rfl⟩ | ⟨_, rfl⟩ | rfl <;> (intro x hx; cases hx)
theorem jumpOf_jump {e : Ex} {j : Code} (h : jumpOf e = some j) : Jump j := by
  cases e <;> simp only [jumpOf, Option.some.injEq] at h <;> first | (subst h; exact .inl ⟨_, rfl⟩) | (subst h; exact .inr (.inl ⟨_, rfl⟩)) | (subst h; exact .inr (.inr rfl)) | cases h
theorem Pv.notBad {p : Option AVal} (h : PvO p) : p ≠ some .bad := fun hp => by obtain ⟨t, x, hx⟩ := h _ hp; cases hx
theorem wf_findLabel {f : FuncId} {l : Nat} : ∀ {c r : Code}, Wf C f c → findLabel c l = some r → Wf C f r
  | .seq a b, r, h, hf => by
    simp only [findLabel] at hf
    split at hf
    · rename_i r' hr
      cases hf
      have h1 := wf_findLabel (fun x hx => h x (by simp only [drawsIn, List.mem_append]; exact .inl hx)) hr
      intro x hx
      simp only [drawsIn, List.mem_append] at hx
      rcases hx with hx | hx
      · exact h1 x hx
      · exact h x (by simp only [drawsIn, List.mem_append]; exact .inr hx)
    · exact wf_findLabel (fun x hx => h x (by simp only [drawsIn, List.mem_append]; exact .inr hx)) hf
  | .label l', r, h, hf => by
    simp only [findLabel] at hf
    split at hf
    · cases hf; intro x hx; cases hx
    · cases hf
  | .skip, _, _, hf => by cases hf
  | .cond .., _, _, hf => by cases hf
  | .block .., _, _, hf => by cases hf
  | .loop .., _, _, hf => by cases hf
  | .scope .., _, _, hf => by cases hf
  | .exit .., _, _, hf => by cases hf
  | .goto .., _, _, hf => by cases hf
  | .ret, _, _, hf => by cases hf
  | .region .., _, _, hf => by cases hf
  | .rangeFunc .., _, _, hf => by cases hf
  | .refuse .., _, _, hf => by cases hf

theorem freeze_pv {H : Heap} {v : AVal} {r : AVal × List Nat} (hv : Pv v) (h : freeze depth H v = some r) : Pv r.1 := by
  obtain ⟨t, x, rfl⟩ := hv
  have h2 : freeze (39 + 1) H (.iface t x) = some r := h
  unfold freeze at h2
  rw [if_neg (by simp [hard, cellHard])] at h2
  dsimp only at h2
  simp only [Option.map_eq_some_iff] at h2
  obtain ⟨y, _, rfl⟩ := h2
  exact ⟨t, y.1, rfl⟩

/-! ### Operations -/
variable {rec : Task → Option Res}
theorem callPure_pv (hrec : ∀ t r, TaskOk C t → rec t = some r → Sound C t r) {f : FuncId} {args : List AVal} {H : Heap} {r : PR} (h : callPure rec C f args H = some r) : r.ok = false → Pv r.v := by
  unfold callPure at h
  obtain ⟨⟨as, ids⟩, _, h2⟩ := bindo h
  clear h
  dsimp only at h2
  split at h2
  · simp only [Option.map_eq_some_iff] at h2
    obtain ⟨v, _, rfl⟩ := h2
    intro h; cases h
  · split at h2
    · simp only [Option.map_eq_some_iff] at h2
      obtain ⟨v, _, rfl⟩ := h2
      intro h; cases h
    · rename_i v H' q hr
      simp only [Option.map_eq_some_iff] at h2
      obtain ⟨w, hw, rfl⟩ := h2
      intro _
      have := hrec _ _ (show TaskOk C (.call f as [] none) from ⟨.nil, fun v h => by cases h⟩) hr
      exact freeze_pv this.2.2.2 hw
    · cases h2

theorem callA_inv (hC : CtxOk C) (hrec : ∀ t r, TaskOk C t → rec t = some r → Sound C t r) {by_ f : FuncId} {args : List AVal} {H : Heap} {r : CR} (hH : LoopsOk C H) (h : callA rec C by_ f args H = some r) : LoopsOk C r.heap ∧ CRPv r := by
  unfold callA at h
  split at h
  · simp only [Option.map_eq_some_iff] at h
    obtain ⟨⟨v, H'⟩, hF, rfl⟩ := h
    rename_i F hf
    exact ⟨hH.keeps (hC.hkeep f F args H v H' hf hF), trivial⟩
  · split at h
    · simp only [Option.map_eq_some_iff] at h
      obtain ⟨p, hp, rfl⟩ := h
      have hm : LoopsOk C (if flat p.v = true then H else markRo p.ids H) := by
        split
        · exact hH
        · exact hH.keeps (keeps_mark _ _)
      cases hok : p.ok with
      | true =>
        simp only [if_true]
        split
        · exact ⟨(hH.keeps (keeps_mark _ _)).keeps (keeps_snoc rfl), trivial⟩
        · exact ⟨hm, trivial⟩
      | false =>
        simp only [Bool.false_eq_true, if_false]
        exact ⟨hm, callPure_pv hrec hp hok⟩
    · split at h
      · rename_i r' hr
        cases h
        exact (hrec _ _ (show TaskOk C (.call f args H none) from ⟨hH, fun v h => by cases h⟩) hr).2.2
      · cases h

/-- A call of which it is only known that the caller's heap is in order. -/
theorem callA_good (hC : CtxOk C) (hrec : ∀ t r, TaskOk C t → rec t = some r → Sound C t r) {by_ f : FuncId} {args : List AVal} {H : Heap} {r : CR} (hH : LoopsOk C H) (h : callA rec C by_ f args H = some r) : EnterOk C f args H r := by
  -- the evaluator is asked of this heap and of the empty one alone
  classical
  let rec' : Task → Option Res := fun t => match t with
    | .call g as G p => if p = none ∧ (G = [] ∨ G = H) then rec (.call g as G none) else none
    | _ => none
  have he : callA rec' C by_ f args H = some r := by
    have h1 : ∀ as, rec' (.call f as [] none) = rec (.call f as [] none) := fun as => by simp [rec']
    have h2 : rec' (.call f args H none) = rec (.call f args H none) := by simp [rec']
    have h3 : callPure rec' C f args H = callPure rec C f args H := by
      unfold callPure
      simp only [h1]
    unfold callA at h ⊢
    rw [h3, h2]
    exact h
  refine callA_sound hC.prims (fun g as G q hq => ?_) he
  simp only [rec'] at hq
  split at hq
  · rename_i hc
    have hG : LoopsOk C G := by
      rcases hc.2 with rfl | rfl
      · exact .nil
      · exact hH
    have := hrec _ _ (show TaskOk C (.call g as G none) from ⟨hG, fun v h => by cases h⟩) hq
    exact ⟨this.1, this.2.1.n⟩
  · cases hq

theorem opX_good (hC : CtxOk C) (hrec : ∀ t r, TaskOk C t → rec t = some r → Sound C t r) {ops : Array Oper} {i : Nat} {o : Oper} {s : St} {x : OA} (hs : SOk C s) (h : opX rec C s o = some x) : OpOk C ops i o s x ∧ SOk C x.st ∧ ∀ v s', x = .pan v s' → Pv v := by
  unfold opX at h
  obtain ⟨y, hy, h2⟩ := bindo h
  clear h
  split at h2
  · rename_i v H'
    cases h2
    exact ⟨op_val hC.tab hy, ⟨hs.loops.keeps (evX_keeps hy), hs.fn⟩, fun v s' h => by cases h⟩
  · rename_i f args
    simp only [Option.map_eq_some_iff] at h2
    obtain ⟨r, hr, rfl⟩ := h2
    have h1 := op_call hC.tab (ops := ops) (i := i) hy (callA_good hC hrec hs.loops hr)
    obtain ⟨h3, h4⟩ := callA_inv hC hrec hs.loops hr
    cases r with
    | ret v H' q => exact ⟨h1, ⟨h3, hs.fn⟩, fun v s' h => by cases h⟩
    | pan v H' q => exact ⟨h1, ⟨h3, hs.fn⟩, fun v' s' h => by cases h; exact h4⟩
  · rename_i id args
    unfold yieldA at h2
    split at h2
    · rename_i fn env ps as bd pd ho
      obtain ⟨q1, q2, q3, q4⟩ := hs.loops _ _ _ _ _ _ _ _ ho
      split at h2
      · cases h2
      rename_i hlen
      split at h2
      · rename_i s1 hr1
        have hA := hrec _ _ (show TaskOk C (.code as { fn := fn, env := putArgs env ps args, defs := [], H := s.H, pan := some .bad, recd := false }) from ⟨q2, hs.loops, q1⟩) hr1
        obtain ⟨a1, a2, a3, a4⟩ := hA
        split at h2
        · rename_i fn1 env1 ps1 as1 bd1 pd1 ho1
          obtain ⟨t1, t2, t3, t4⟩ := a2.loops _ _ _ _ _ _ _ _ ho1
          split at h2
          · rename_i e s2 hr2
            have hB := hrec _ _ (show TaskOk C (.code bd { s1 with H := s1.H.set id (.loop fn1 env1 ps1 as1 bd1 1 pd1) }) from ⟨by show Wf C s1.fn bd; rw [a3]; exact q3, a2.loops.set ⟨t1, t2, t3, t4⟩, a2.fn⟩) hr2
            obtain ⟨b1, b2, b3, b4⟩ := hB
            split at h2
            · cases h2
            rename_i hd
            split at h2
            · rename_i fn2 env2 ps2 as2 bd2 st2 pd2 ho2
              obtain ⟨u1, u2, u3, u4⟩ := b2.loops _ _ _ _ _ _ _ _ ho2
              have hfn : ∃ f, C.P.funcs[fn]? = some f := by
                obtain ⟨f, hf⟩ := q1
                exact ⟨f, (hC.tab.fn _ _ hf).1⟩
              have hop := op_yield hC.tab (ops := ops) (i := i) (o := o) (s := s) hy ho (by simpa using hlen) a1.1 ho1 b1.1 (by simpa using hd) ho2 hfn
              split at h2
              · cases h2
                exact ⟨hop, ⟨b2.loops, hs.fn⟩, fun v s' h => by cases h; exact b4⟩
              · cases h2
                exact ⟨hop, ⟨b2.loops.set ⟨u1, u2, u3, fun j h => by cases h⟩, hs.fn⟩, fun v s' h => by cases h⟩
              · rename_i hn1 hn2
                cases h2
                refine ⟨?_, ⟨b2.loops.set ⟨u1, u2, u3, fun j h => jumpOf_jump h⟩, hs.fn⟩, fun v s' h => by cases h⟩
                cases e with
                | normal => exact absurd rfl hn2
                | panic v => exact absurd rfl (hn1 v)
                | _ => exact hop
            · cases h2
          · cases h2
        · cases h2
      · cases h2
    · cases h2
  · split at h2
    · cases h2
    · rename_i v hnb hp
      have hl : live s.pan = true := by
        rw [hp]
        cases v <;> first | rfl | exact (hnb rfl).elim
      split at h2
      · rename_i hr
        cases h2
        exact ⟨op_recover_nil hC.tab (.inr ⟨hl, hr⟩) hy, hs, fun v s' h => by cases h⟩
      · rename_i hr
        cases h2
        exact ⟨op_recover hC.tab hp hl (by simpa using hr) hy, ⟨hs.loops, hs.fn⟩, fun v s' h => by cases h⟩
    · rename_i hp
      cases h2
      exact ⟨op_recover_nil hC.tab (.inl hp) hy, hs, fun v s' h => by cases h⟩
  · split at h2
    · cases h2
    · rename_i hp
      cases h2
      exact ⟨op_defer hC.tab (fun h => hp h) hy, ⟨hs.loops, hs.fn⟩, fun v s' h => by cases h⟩
  · rename_i v
    cases h2
    refine ⟨op_raise hC.tab hy, hs, fun v' s' h => ?_⟩
    cases h
    exact evX_pan hy
where
  evX_pan {e : Env} {H : Heap} {o : Oper} {v : AVal} (h : evX C e H o = some (.panic v)) : Pv v := by
    unfold evX at h
    split at h
    · split at h
      · cases h
      · obtain ⟨x, _, h2⟩ := bindo h
        simp only [Option.map_eq_some_iff] at h2
        obtain ⟨_, _, h3⟩ := h2; cases h3
    · split at h
      · cases h
      · obtain ⟨x, _, h2⟩ := bindo h
        simp only [Option.map_eq_some_iff] at h2
        obtain ⟨_, _, h3⟩ := h2; cases h3
    · split at h
      · cases h
      · obtain ⟨x, _, h2⟩ := bindo h
        simp only [Option.map_eq_some_iff] at h2
        obtain ⟨_, _, h3⟩ := h2; cases h3
    · simp only [Option.map_eq_some_iff] at h
      obtain ⟨_, _, h3⟩ := h; cases h3
    · split at h
      · cases h
      · obtain ⟨x, _, h2⟩ := bindo h
        simp only [Option.map_eq_some_iff] at h2
        obtain ⟨_, _, h3⟩ := h2; cases h3
    · split at h
      · split at h
        · split at h
          · split at h
            cases h
          · cases h
        · cases h
      · cases h
    · split at h
      · cases h; exact ⟨_, _, rfl⟩
      · cases h
    · split at h
      · simp only [Option.map_eq_some_iff] at h
        obtain ⟨_, _, h2⟩ := h
        cases h2
      · cases h
    · split at h
      · simp only [Option.map_eq_some_iff] at h
        obtain ⟨_, _, h2⟩ := h
        cases h2
      · simp only [Option.map_eq_some_iff] at h
        obtain ⟨_, _, h2⟩ := h
        cases h2
      · cases h
    · split at h
      · obtain ⟨x, hx, h2⟩ := bindo h
        simp only [Option.map_eq_some_iff] at h2
        obtain ⟨_, _, h3⟩ := h2
        cases h3
      · cases h
    · split at h
      · split at h
        · obtain ⟨U, _, h2⟩ := bindo h
          clear h
          split at h2
          · simp only [Option.map_eq_some_iff] at h2
            obtain ⟨_, _, h3⟩ := h2; cases h3
          · simp only [Option.map_eq_some_iff] at h2
            obtain ⟨_, _, h3⟩ := h2; cases h3
          · cases h2
        · cases h
      · split at h
        · simp only [Option.map_eq_some_iff] at h
          obtain ⟨_, _, h3⟩ := h; cases h3
        · cases h
      · split at h
        · simp only [Option.map_eq_some_iff] at h
          obtain ⟨_, _, h3⟩ := h; cases h3
        · cases h
      · cases h
      · split at h
        · cases h; exact ⟨_, _, rfl⟩
        · cases h
      · split at h
        · cases h
        · obtain ⟨T, _, h2⟩ := bindo h
          clear h
          split at h2
          · obtain ⟨U, _, h3⟩ := bindo h2
            clear h2
            split at h3
            · split at h3
              · simp only [Option.map_eq_some_iff] at h3
                obtain ⟨_, _, h4⟩ := h3; cases h4
              · cases h3
            · cases h3
          · cases h2
        · cases h
      · cases h
    · cases h
end
end Go.Ev
/- The evaluator is sound, whole. Each theorem bears its own conditions. -/
set_option linter.unusedVariables false
set_option linter.unusedSectionVars false
set_option linter.unusedSimpArgs false
namespace Go.Ev
open Go.RowKit
variable [Globs]
section
variable {C : Ctx} {rec : Task → Option Res}

theorem opQ_good (hC : CtxOk C) (hrec : ∀ t r, TaskOk C t → rec t = some r → Sound C t r) {ops : Array Oper} {i : Nat} {o : Oper} {s : St} {v : AVal} (hs : SOk C s) (h : opQ rec C s.fn s.env s.H o = some v) : OpOk C ops i o s (.ok v s) := by
  rcases opQ_inv h with h | ⟨_, f, args, r, h1, h2, h3, h4, rfl⟩
  · exact op_quiet hC.tab h
  · classical
    have hx := enters_evX (H := s.H) h1
    simp only [Bool.and_eq_true, Option.isNone_iff_eq_none, Bool.not_eq_true'] at h2
    obtain ⟨⟨hp, ht⟩, hh⟩ := h2
    have hcall : callA rec C s.fn f args s.H = some (.ret r.v s.H false) := by
      unfold callA
      rw [hh]
      simp only [hp, if_true, h3, Option.map_some]
      simp only [Bool.and_eq_true, Bool.or_eq_true, List.isEmpty_iff] at h4
      rw [h4.1]
      simp only [if_true, ht, Bool.false_eq_true, if_false]
      rcases h4.2 with h5 | h5
      · simp [h5]
      · rw [h5]; simp [markRo]
    exact op_call hC.tab hx (callA_good hC hrec hs.loops hcall)

theorem opA_good (hC : CtxOk C) (hrec : ∀ t r, TaskOk C t → rec t = some r → Sound C t r) {ops : Array Oper} {i : Nat} {o : Oper} {s : St} {x : OA} (hs : SOk C s) (h : opA rec C s o = some x) : OpOk C ops i o s x ∧ SOk C x.st ∧ ∀ v s', x = .pan v s' → Pv v := by
  unfold opA at h
  split at h
  · rename_i v hv
    cases h
    exact ⟨op_quiet hC.tab hv, hs, fun v s' h => by cases h⟩
  · split at h
    · rename_i obj f hv
      cases h
      exact ⟨op_birth hC.tab hv, ⟨hs.loops.keeps (keeps_snoc (evB_noLoop hv)), hs.fn⟩, fun v s' h => by cases h⟩
    · exact opX_good hC hrec hs h

/-- The states of one function. -/
def In (C : Ctx) (f : FuncId) (s : St) : Prop := SOk C s ∧ s.fn = f
theorem kept_in (f : FuncId) : Kept (In C f) := ⟨fun s e h => ⟨⟨h.1.loops, h.1.fn⟩, h.2⟩⟩
theorem opX_fn {s : St} {o : Oper} {x : OA} (h : opX rec C s o = some x) : x.st.fn = s.fn := (opX_keeps h).1
theorem opA_fn {s : St} {o : Oper} {x : OA} (h : opA rec C s o = some x) : x.st.fn = s.fn := by
  unfold opA at h
  split at h
  · cases h; rfl
  · split at h
    · cases h; rfl
    · exact opX_fn h

theorem opsA_pv (hC : CtxOk C) (hrec : ∀ t r, TaskOk C t → rec t = some r → Sound C t r) {ops : Array Oper} : ∀ (l : List Nat) (s : St) (v : AVal) (s' : St), SOk C s → opsA rec C ops l s = some (some v, s') → Pv v
  | [], s, v, s', hs, h => by simp [opsA] at h
  | i :: l, s, v, s', hs, h => by
    simp only [opsA] at h
    cases ho : ops[i]? with
    | none => simp only [ho] at h; exact opsA_pv hC hrec l s v s' hs h
    | some o =>
      simp only [ho] at h
      obtain ⟨t, ht, h2⟩ := bindo h
      clear h
      cases t with
      | false =>
        simp only [Bool.false_eq_true, if_false] at h2
        exact opsA_pv hC hrec l { s with env := putA s.env o.dst (.tup []) } v s' ⟨hs.loops, hs.fn⟩ h2
      | true =>
        simp only [if_true] at h2
        obtain ⟨x, hx, h3⟩ := bindo h2
        obtain ⟨_, h4, h5⟩ := opA_good hC hrec (ops := ops) (i := i) hs hx
        cases x with
        | ok u s1 => exact opsA_pv hC hrec l { s1 with env := putA s1.env o.dst u } v s' ⟨h4.loops, h4.fn⟩ h3
        | pan u s1 =>
          simp only [Option.some.injEq, Prod.mk.injEq] at h3
          obtain ⟨rfl, rfl⟩ := h3
          exact h5 u s1 rfl

theorem prun_pv (hC : CtxOk C) (hrec : ∀ t r, TaskOk C t → rec t = some r → Sound C t r) {ops : Array Oper} {π : List (Nat × Nat)} {s s' : St} {T : List En} {p : Option AVal} (h : PRun rec C ops π s T p s') : SOk C s → PvO p := by
  induction h with
  | nil s => intro _ v h; cases h
  | skip i k r s o T p s' ho hw h ih => exact fun hs => ih ⟨hs.loops, hs.fn⟩
  | quiet i r s o v T p s' ho hw hv h ih => exact fun hs => ih ⟨hs.loops, hs.fn⟩
  | birth i r s o obj f T p s' ho hw hv h ih => exact fun hs => ih ⟨hs.loops.keeps (keeps_snoc (evB_noLoop hv)), hs.fn⟩
  | chain i r s o v s1 T p s' ho hw hv h ih =>
    intro hs
    have := (opX_good hC hrec (ops := ops) (i := i) hs hv).2.1
    exact ih ⟨this.loops, this.fn⟩
  | pan i r s o v s1 ho hw hv =>
    intro hs u hu
    cases hu
    exact (opX_good hC hrec (ops := ops) (i := i) hs hv).2.2 _ _ rfl

theorem region_good (hC : CtxOk C) (hrec : ∀ t r, TaskOk C t → rec t = some r → Sound C t r) {id : Nat} {ops : Array Oper} {draw : Bool} {s : St} {r : Res} (hw : Wf C s.fn (.region id ops draw)) (hs : SOk C s) (h : regionA rec C id ops draw s = some r) : Sound C (.code (.region id ops draw) s) r := by
  have hin : In C s.fn s := ⟨hs, rfl⟩
  cases draw with
  | false =>
    have hr : ∃ e s', r = .code e s' := by
      unfold regionA at h
      simp only [Bool.false_eq_true, if_false, Option.map_eq_some_iff] at h
      obtain ⟨⟨p, s1⟩, h1, rfl⟩ := h
      cases p <;> exact ⟨_, _, rfl⟩
    obtain ⟨e, s', rfl⟩ := hr
    have hop : ∀ (i : Nat) (o : Oper) (s1 : St) (x : OA), In C s.fn s1 → ops[i]? = some o → opA rec C s1 o = some x → OpOk C ops i o s1 x ∧ In C s.fn x.st := fun i o s1 x hs1 ho hx => by
      obtain ⟨h1, h2, h3⟩ := opA_good hC hrec (ops := ops) (i := i) hs1.1 hx
      exact ⟨h1, h2, (opA_fn hx).trans hs1.2⟩
    refine ⟨⟨ok_region (kept_in s.fn) hin hop h, fun c' hc => by cases hc⟩, ?_⟩
    unfold regionA at h
    simp only [Bool.false_eq_true, if_false, Option.map_eq_some_iff] at h
    obtain ⟨⟨p, s1⟩, h1, h2⟩ := h
    have hi := opsA_inv (kept_in s.fn) (fun i o s1 x a b c => (hop i o s1 x a b c).2) _ _ _ _ hin h1
    unfold finishR at h2
    cases p with
    | none =>
      simp only [Res.code.injEq] at h2
      obtain ⟨rfl, rfl⟩ := h2
      exact ⟨⟨hi.1.loops, hi.1.fn⟩, hi.2, trivial⟩
    | some v =>
      simp only [Res.code.injEq] at h2
      obtain ⟨rfl, rfl⟩ := h2
      exact ⟨⟨hi.1.loops, hi.1.fn⟩, hi.2, opsA_pv hC hrec _ _ _ _ hs h1⟩
  | true =>
    have hpl : okDraw (C.plan s.fn id) ops = true := hw (id, ops) (by simp [drawsIn])
    have hIb : ∀ (s1 : St) (o : Oper) (obj : AObj) (f : Nat → AVal), In C s.fn s1 → evB C s1.env s1.H o = some (obj, f) → In C s.fn { s1 with H := s1.H ++ [obj] } := fun s1 o obj f h1 h2 => ⟨⟨h1.1.loops.keeps (keeps_snoc (evB_noLoop h2)), h1.1.fn⟩, h1.2⟩
    have hop : ∀ (i : Nat) (o : Oper) (s1 : St) (x : OA), In C s.fn s1 → ops[i]? = some o → opX rec C s1 o = some x → OpOk C ops i o s1 x ∧ In C s.fn x.st := fun i o s1 x hs1 ho hx => by
      obtain ⟨h1, h2, h3⟩ := opX_good hC hrec (ops := ops) (i := i) hs1.1 hx
      exact ⟨h1, h2, (opX_fn hx).trans hs1.2⟩
    have inv : ∀ {pl : Plan} {ex : List (Nat × Nat)} {p : Option AVal} {s1 : St}, okPlan ops pl ex = true → runPlan rec C ops pl s = some (p, s1) → In C s.fn s1 ∧ PvO p := by
      intro pl ex p s1 hp hr
      obtain ⟨M, hP⟩ := okPlan_sem hp
      obtain ⟨T, hT, _⟩ := runPlan_run hP.le2 hr
      exact ⟨hT.good (kept_in s.fn) hIb (fun i o s1 x a b c => (hop i o s1 x a b c).2) hin, prun_pv hC hrec hT hs⟩
    have fin : ∀ {p : Option AVal} {s1 : St}, In C s.fn s1 ∧ PvO p → ∃ e s', finishD (C.keep s.fn) ops s.env (p, s1) = .code e s' ∧ SOk C s' ∧ s'.fn = s.fn ∧ ExPv e := by
      intro p s1 h1
      cases p with
      | none => exact ⟨_, _, rfl, ⟨h1.1.1.loops, h1.1.1.fn⟩, h1.1.2, trivial⟩
      | some v => exact ⟨_, _, rfl, ⟨h1.1.1.loops, h1.1.1.fn⟩, h1.1.2, h1.2 v rfl⟩
    have hr : ∃ e s', r = .code e s' ∧ SOk C s' ∧ s'.fn = s.fn ∧ ExPv e := by
      have h' := h
      unfold regionA at h'
      simp only [if_true] at h'
      split at h'
      · rename_i pl hpl2
        rw [hpl2] at hpl
        simp only [Option.map_eq_some_iff] at h'
        obtain ⟨⟨p, s1⟩, h1, rfl⟩ := h'
        exact fin (inv (show okPlan ops pl [] = true from hpl) h1)
      · rename_i pl ql hpl2
        rw [hpl2] at hpl
        simp only [okDraw, List.any_eq_true] at hpl
        obtain ⟨⟨x, y⟩, _, hxy⟩ := hpl
        simp only [Bool.and_eq_true, bne_iff_ne, ne_eq] at hxy
        split at h'
        · rename_i s1 s2 h1 h3
          split at h'
          · cases h'
            exact fin (inv hxy.1.2 h1)
          · cases h'
        · cases h'
      · cases h'
    obtain ⟨e, s', rfl, h1, h2, h3⟩ := hr
    exact ⟨⟨ok_draw (kept_in s.fn) hIb hin hC.tab hpl (fun i o s1 v hs1 ho hv => opQ_good hC hrec hs1.1 hv) hop h, fun c' hc => by cases hc⟩, h1, h2, h3⟩

theorem step_good (hC : CtxOk C) (hrec : ∀ t r, TaskOk C t → rec t = some r → Sound C t r) {t : Task} {r : Res} (ht : TaskOk C t) (h : step C rec t = some r) : Sound C t r := by
  have codeRes : ∀ {c : Code} {s : St} {r : Res}, Sound C (.code c s) r → ∃ e s', r = .code e s' := by
    intro c s r h
    cases r with
    | code e s' => exact ⟨e, s', rfl⟩
    | call r => exact h.elim
  cases t with
  | code c s =>
    obtain ⟨hw, hs⟩ := ht
    cases c with
    | skip => simp only [step, Option.some.injEq] at h; subst h; exact ⟨⟨ok_skip, fun c' hc => by cases hc⟩, hs, rfl, trivial⟩
    | label l => simp only [step, Option.some.injEq] at h; subst h; exact ⟨⟨ok_label, fun c' hc => by cases hc⟩, hs, rfl, trivial⟩
    | exit id => simp only [step, Option.some.injEq] at h; subst h; exact ⟨⟨ok_exit, fun c' hc => by cases hc⟩, hs, rfl, trivial⟩
    | goto l => simp only [step, Option.some.injEq] at h; subst h; exact ⟨⟨ok_goto, fun c' hc => by cases hc⟩, hs, rfl, trivial⟩
    | ret => simp only [step, Option.some.injEq] at h; subst h; exact ⟨⟨ok_ret, fun c' hc => by cases hc⟩, hs, rfl, trivial⟩
    | refuse m => simp only [step] at h; cases h
    | seq a b =>
      simp only [step] at h
      have hwa : Wf C s.fn a := fun x hx => hw x (by simp only [drawsIn, List.mem_append]; exact .inl hx)
      have hwb : Wf C s.fn b := fun x hx => hw x (by simp only [drawsIn, List.mem_append]; exact .inr hx)
      split at h
      · rename_i s1 h1
        obtain ⟨a1, a2, a3, a4⟩ := hrec _ _ (show TaskOk C (.code a s) from ⟨hwa, hs⟩) h1
        have hb := hrec _ _ (show TaskOk C (.code b s1) from ⟨by rw [a3]; exact hwb, a2⟩) h
        obtain ⟨e, s', rfl⟩ := codeRes hb
        obtain ⟨b1, b2, b3, b4⟩ := hb
        exact ⟨⟨ok_seq_normal a1.1 b1.1, fun c' hc => by cases hc⟩, b2, b3.trans a3, b4⟩
      · rename_i hn
        have ha := hrec _ _ (show TaskOk C (.code a s) from ⟨hwa, hs⟩) h
        obtain ⟨e, s', rfl⟩ := codeRes ha
        obtain ⟨a1, a2, a3, a4⟩ := ha
        refine ⟨⟨ok_seq_out (fun he => ?_) a1.1, fun c' hc => by cases hc⟩, a2, a3, a4⟩
        subst he
        exact hn s' h
    | cond x a b =>
      simp only [step] at h
      split at h
      · rename_i q hq
        have hwq : Wf C s.fn (if q then a else b) := by
          cases q
          · exact fun x hx => hw x (by simp only [drawsIn, List.mem_append]; exact .inr hx)
          · exact fun x hx => hw x (by simp only [drawsIn, List.mem_append]; exact .inl hx)
        have ha := hrec _ _ (show TaskOk C (.code (if q then a else b) s) from ⟨hwq, hs⟩) h
        obtain ⟨e, s', rfl⟩ := codeRes ha
        obtain ⟨a1, a2, a3, a4⟩ := ha
        exact ⟨⟨ok_cond hq a1.1, fun c' hc => by cases hc⟩, a2, a3, a4⟩
      · cases h
    | block id b =>
      simp only [step] at h
      have hwb : Wf C s.fn b := fun x hx => hw x (by simp only [drawsIn]; exact hx)
      split at h
      · rename_i i s1 h1
        obtain ⟨a1, a2, a3, a4⟩ := hrec _ _ (show TaskOk C (.code b s) from ⟨hwb, hs⟩) h1
        cases h
        refine ⟨⟨?_, fun c' hc => by cases hc⟩, a2, a3, ?_⟩
        · by_cases hi : i = id
          · subst hi; rw [if_pos rfl]; exact ok_block_exit a1.1
          · rw [if_neg hi]
            exact ok_block_out (by simp) (by simpa using hi) a1.1
        · split <;> trivial
      · rename_i hn
        have ha := hrec _ _ (show TaskOk C (.code b s) from ⟨hwb, hs⟩) h
        obtain ⟨e, s', rfl⟩ := codeRes ha
        obtain ⟨a1, a2, a3, a4⟩ := ha
        refine ⟨⟨?_, fun c' hc => by cases hc⟩, a2, a3, a4⟩
        cases e with
        | normal => exact ok_block_normal a1.1
        | exit i => exact (hn i s' h).elim
        | goto l => exact ok_block_out (by simp) (by simp) a1.1
        | ret => exact ok_block_out (by simp) (by simp) a1.1
        | panic v => exact ok_block_out (by simp) (by simp) a1.1
    | loop b =>
      simp only [step] at h
      have hwb : Wf C s.fn b := fun x hx => hw x (by simp only [drawsIn]; exact hx)
      split at h
      · rename_i s1 h1
        obtain ⟨a1, a2, a3, a4⟩ := hrec _ _ (show TaskOk C (.code b s) from ⟨hwb, hs⟩) h1
        have hl := hrec _ _ (show TaskOk C (.code (.loop b) s1) from ⟨by rw [a3]; exact hw, a2⟩) h
        obtain ⟨e, s', rfl⟩ := codeRes hl
        obtain ⟨b1, b2, b3, b4⟩ := hl
        obtain ⟨g1, g2⟩ := ok_loop_normal a1.1 (b1.2 b rfl)
        exact ⟨⟨g1, fun c' hc => by cases hc; exact g2⟩, b2, b3.trans a3, b4⟩
      · rename_i hn
        have ha := hrec _ _ (show TaskOk C (.code b s) from ⟨hwb, hs⟩) h
        obtain ⟨e, s', rfl⟩ := codeRes ha
        obtain ⟨a1, a2, a3, a4⟩ := ha
        have he : e ≠ .normal := fun he => by subst he; exact hn s' h
        exact ⟨⟨ok_loop_out he a1.1, fun c' hc => by cases hc; exact ok_loop_item he a1.1⟩, a2, a3, a4⟩
    | scope b =>
      simp only [step] at h
      have hwb : Wf C s.fn b := fun x hx => hw x (by simp only [drawsIn]; exact hx)
      have ha := hrec _ _ (show TaskOk C (.scope b b s) from ⟨hwb, hwb, hs⟩) h
      cases r with
      | call r => exact ha.elim
      | code e s' =>
        obtain ⟨a1, a2, a3, a4⟩ := ha
        exact ⟨⟨ok_scope a1, fun c' hc => by cases hc⟩, a2, a3, a4⟩
    | region id ops draw =>
      simp only [step] at h
      exact region_good hC hrec hw hs h
    | rangeFunc f ps as bd =>
      simp only [step] at h
      have hwa : Wf C s.fn as := fun x hx => hw x (by simp only [drawsIn, List.mem_append]; exact .inl hx)
      have hwb : Wf C s.fn bd := fun x hx => hw x (by simp only [drawsIn, List.mem_append]; exact .inr hx)
      split at h
      · rename_i g fs caps hf
        have hl : LoopsOk C (s.H ++ [.loop s.fn s.env ps.toList as bd 0 none]) := hs.loops.snoc ⟨hs.fn, hwa, hwb, fun j h => by cases h⟩
        have htk : TaskOk C (.call g (fs ++ .yield s.H.length :: caps) (s.H ++ [.loop s.fn s.env ps.toList as bd 0 none]) none) := ⟨hl, fun v h => by cases h⟩
        split at h
        · rename_i v H2 q hr
          obtain ⟨⟨c, fn, hb⟩, c2, c3, c4⟩ := hrec _ _ htk hr
          split at h
          · rename_i fn2 env2 ps2 as2 bd2 st pend ho
            obtain ⟨u1, u2, u3, u4⟩ := c3 _ _ _ _ _ _ _ _ ho
            split at h
            · cases h
            rename_i hst
            have hst' : st ≠ 1 := by simpa using hst
            split at h
            · cases h
              exact ⟨⟨ok_range_normal hC.tab hf hb c2 ho hst', fun c' hc => by cases hc⟩, ⟨c3.set ⟨u1, u2, u3, fun j h => by cases h⟩, hs.fn⟩, rfl, trivial⟩
            · rename_i j
              have hj := u4 j rfl
              have hcode := hrec _ _ (show TaskOk C (.code j { s with H := H2.set s.H.length (.loop fn2 env2 ps2 as2 bd2 3 (some j)) }) from ⟨hj.wf _, c3.set ⟨u1, u2, u3, u4⟩, hs.fn⟩) h
              obtain ⟨e, s', rfl⟩ := codeRes hcode
              obtain ⟨a1, a2, a3, a4⟩ := hcode
              exact ⟨⟨ok_range_jump hC.tab hf hb c2 ho hst' hj.ok a1.1, fun c' hc => by cases hc⟩, a2, a3, a4⟩
          · cases h
        · rename_i v H2 q hr
          obtain ⟨⟨c, fn, hb⟩, c2, c3, c4⟩ := hrec _ _ htk hr
          cases h
          exact ⟨⟨ok_range_pan hC.tab hf hb c2, fun c' hc => by cases hc⟩, ⟨c3, hs.fn⟩, rfl, c4⟩
        · cases h
      · cases h
  | scope rest body s =>
    obtain ⟨hw1, hw2, hs⟩ := ht
    simp only [step] at h
    split at h
    · rename_i l s1 h1
      obtain ⟨a1, a2, a3, a4⟩ := hrec _ _ (show TaskOk C (.code rest s) from ⟨hw1, hs⟩) h1
      split at h
      · rename_i rest' hf
        have hb := hrec _ _ (show TaskOk C (.scope rest' body s1) from ⟨by rw [a3]; exact wf_findLabel hw2 hf, by rw [a3]; exact hw2, a2⟩) h
        cases r with
        | call r => exact hb.elim
        | code e s' =>
          obtain ⟨b1, b2, b3, b4⟩ := hb
          exact ⟨ok_scope_goto a1.1 hf b1, b2, b3.trans a3, b4⟩
      · rename_i hf
        cases h
        exact ⟨ok_scope_out (fun l' h => by cases h; exact hf) a1.1, a2, a3, trivial⟩
    · rename_i hn
      have ha := hrec _ _ (show TaskOk C (.code rest s) from ⟨hw1, hs⟩) h
      obtain ⟨e, s', rfl⟩ := codeRes ha
      obtain ⟨a1, a2, a3, a4⟩ := ha
      exact ⟨ok_scope_out (fun l he => by subst he; exact (hn l s' h).elim) a1.1, a2, a3, a4⟩
  | call f args H p =>
    obtain ⟨hl, hp⟩ := ht
    simp only [step] at h
    obtain ⟨⟨c, fn⟩, hb, h2⟩ := bindo h
    clear h
    dsimp only at h2
    obtain ⟨hf1, hf2⟩ := bodyOf_inv hb
    have htk : TaskOk C (.code c (startOf f args H p)) := ⟨hC.wf f fn c hf1 hf2, hl, ⟨fn, hf1⟩⟩
    have fin : ∀ {e : Ex} {s : St} {q : Option AVal}, Sound C (.code c (startOf f args H p)) (.code e s) → ((q = none ∧ (e = .normal ∨ e = .ret)) ∨ ∃ v, q = some v ∧ e = .panic v) → rec (.unwind s q) = some r → Sound C (.call f args H p) r := by
      intro e s q hc he hr
      obtain ⟨a1, a2, a3, a4⟩ := hc
      have hq : PvO q := by
        rcases he with ⟨rfl, _⟩ | ⟨v, rfl, rfl⟩
        · intro v h; cases h
        · intro u hu; cases hu; exact a4
      have hu := hrec _ _ (show TaskOk C (.unwind s q) from ⟨a2, hq⟩) hr
      cases r with
      | code e s' => exact hu.elim
      | call r =>
        obtain ⟨u1, u2, u3⟩ := hu
        exact ⟨⟨c, fn, hb⟩, call_sound hC.tab hb (Pv.notBad hp) a1.1 a3 he u1, u2, u3⟩
    split at h2
    · rename_i s1 h1
      exact fin (hrec _ _ htk h1) (.inl ⟨rfl, .inl rfl⟩) h2
    · rename_i s1 h1
      exact fin (hrec _ _ htk h1) (.inl ⟨rfl, .inr rfl⟩) h2
    · rename_i v s1 h1
      exact fin (hrec _ _ htk h1) (.inr ⟨v, rfl, rfl⟩) h2
    · cases h2
  | unwind s p =>
    obtain ⟨hs, hp⟩ := ht
    simp only [step] at h
    split at h
    · rename_i hd
      split at h
      · obtain ⟨fn, hf, h2⟩ := bindo h
        simp only [Option.map_eq_some_iff] at h2
        obtain ⟨vs, hvs, rfl⟩ := h2
        exact ⟨unw_ret hC.tab hd hf hvs, hs.loops, trivial⟩
      · rename_i v
        cases h
        exact ⟨unw_pan hC.tab hd, hs.loops, hp v rfl⟩
    · rename_i f args ds hd
      split at h
      · rename_i v H' q hr
        obtain ⟨⟨c, fn, hb⟩, c2, c3, c4⟩ := hrec _ _ (show TaskOk C (.call f args s.H p) from ⟨hs.loops, hp⟩) hr
        have hu := hrec _ _ (show TaskOk C (.unwind { s with defs := ds, H := H' } (if q then none else p)) from ⟨⟨c3, hs.fn⟩, by
          cases q
          · exact hp
          · intro v h; cases h⟩) h
        cases r with
        | code e s' => exact hu.elim
        | call r =>
          obtain ⟨u1, u2, u3⟩ := hu
          exact ⟨unw_call hC.tab hd hb (Pv.notBad hp) c2 u1, u2, u3⟩
      · cases h

/-- The evaluator is sound. -/
theorem ev_sound (hC : CtxOk C) : ∀ (n : Nat) (t : Task) (r : Res), TaskOk C t → ev C n t = some r → Sound C t r
  | 0, t, r, _, h => by cases h
  | n + 1, t, r, ht, h => step_good hC (ev_sound hC n) ht h

theorem ev_call (hC : CtxOk C) {n : Nat} {f : FuncId} {args : List AVal} {r : CR} (h : ev C n (.call f args [] none) = some (.call r)) : HasBody C f ∧ CallOk C f args [] none r := by
  have := ev_sound hC n _ _ (show TaskOk C (.call f args [] none) from ⟨.nil, fun v h => by cases h⟩) h
  exact ⟨this.1, this.2.1⟩
end
end Go.Ev
/- Contexts laid over one another: what calls on given values come to serves as known; contracts of the library and entries of the model as known calls; the law's own call. Each theorem bears its own conditions. -/
set_option linter.unusedVariables false
set_option linter.unusedSectionVars false
set_option linter.unusedSimpArgs false
namespace Go.Ev
open Go.RowKit
variable [Globs]
section
variable {C : Ctx}

/-! ### Known calls -/
structure FactOk (C : Ctx) (f : FuncId) (as : List AVal) (v : AVal) : Prop where
  body : HasBody C f
  call : CallN C f as [] (.ret v [] false)
  fr : ∃ l, freeze depth [] v = some (v, l)
def memo : List (List AVal × AVal) → List AVal → Option AVal
  | [], _ => none
  | (bs, v) :: r, as => if beqL (beqN depth) bs as then some v else memo r as
/-- A table of known calls. -/
abbrev Table := List (FuncId × List (List AVal × AVal))
def hasF : Table → FuncId → Bool
  | [], _ => false
  | (g, _) :: r, f => Nat.beq g f || hasF r f
def memoT : Table → FuncId → List AVal → Option AVal
  | [], _, _ => none
  | (g, l) :: r, f, xs => match Nat.beq g f with
    | true => match memo l xs with
      | some v => some v
      | none => memoT r f xs
    | false => memoT r f xs
noncomputable def withMemo (C : Ctx) (T : Table) : Ctx :=
  { C with prim := fun f => match hasF T f with
    | true => some fun xs => match memoT T f xs with
      | some v => some v
      | none => match C.prim f with
        | some F => F xs
        | none => none
    | false => C.prim f }
def TableOk (C : Ctx) (T : Table) : Prop := ∀ x ∈ T, ∀ y ∈ x.2, FactOk C x.1 y.1 y.2

theorem memo_mem : ∀ {l : List (List AVal × AVal)} {as : List AVal} {v : AVal}, memo l as = some v → (as, v) ∈ l
  | [], _, _, h => by cases h
  | (bs, u) :: r, as, v, h => by
    unfold memo at h
    split at h
    · rename_i hb
      cases h
      rw [beqL_eq (beqN_eq depth) hb]
      exact .head _
    · exact .tail _ (memo_mem h)
theorem memoT_mem : ∀ {T : Table} {f : FuncId} {xs : List AVal} {v : AVal}, memoT T f xs = some v → ∃ l, (f, l) ∈ T ∧ (xs, v) ∈ l
  | [], _, _, _, h => by cases h
  | (g, l) :: r, f, xs, v, h => by
    unfold memoT at h
    split at h
    · rename_i hb
      have hg := Nat.eq_of_beq_eq_true hb
      subst hg
      split at h
      · rename_i u hu
        cases h
        exact ⟨l, .head _, memo_mem hu⟩
      · obtain ⟨l', h1, h2⟩ := memoT_mem h
        exact ⟨l', .tail _ h1, h2⟩
    · obtain ⟨l', h1, h2⟩ := memoT_mem h
      exact ⟨l', .tail _ h1, h2⟩

theorem withMemo_ok {T : Table} (hC : CtxOk C) (hT : TableOk C T) : CtxOk (withMemo C T) where
  tab := ⟨hC.tab.ty, hC.tab.flds, hC.tab.fn, hC.tab.meth, hC.tab.eqt⟩
  prims := by
    refine ⟨fun f F as v h1 h2 => ?_, hC.prims.hprim⟩
    simp only [withMemo] at h1
    split at h1
    · cases h1
      dsimp only at h2
      split at h2
      · rename_i u hu
        cases h2
        obtain ⟨l, hl1, hl2⟩ := memoT_mem hu
        have := hT _ hl1 _ hl2
        exact .inl ⟨this.body, this.call, this.fr⟩
      · split at h2
        · rename_i F hF
          exact hC.prims.prim f F as v hF h2
        · cases h2
    · exact hC.prims.prim f F as v h1 h2
  hkeep := hC.hkeep
  wf := hC.wf
theorem TableOk.append {T T' : Table} (h : TableOk C T) (h' : TableOk C T') : TableOk C (T ++ T') := fun x hx => by
  rcases List.mem_append.1 hx with hx | hx
  · exact h x hx
  · exact h' x hx
theorem TableOk.nil : TableOk C [] := fun x hx => by cases hx
theorem TableOk.up {T T' : Table} (h : TableOk C T') : TableOk (withMemo C T) T' := fun x hx y hy => by
  obtain ⟨h1, h2, h3⟩ := h x hx y hy
  exact ⟨h1, h2, h3⟩

/-- Is this what a call comes to? -/
noncomputable def factB (C : Ctx) (n : Nat) (f : FuncId) (as : List AVal) (v : AVal) : Bool :=
  match ev C n (.call f as [] none) with
  | some (.call (.ret u H _)) =>
    (match freeze depth H u with | some (x, _) => beqN depth x v | none => false) &&
    (match freezeL [] as with | some (bs, []) => beqL (beqN depth) bs as | _ => false) &&
    (match freeze depth [] v with | some (x, _) => beqN depth x v | none => false)
  | _ => false
noncomputable def tableB (C : Ctx) (n : Nat) (T : Table) : Bool := T.all fun x => x.2.all fun y => factB C n x.1 y.1 y.2

theorem factB_ok (hC : CtxOk C) {n : Nat} {f : FuncId} {as : List AVal} {v : AVal} (h : factB C n f as v = true) : FactOk C f as v := by
  unfold factB at h
  split at h
  · rename_i u H q hev
    simp only [Bool.and_eq_true] at h
    obtain ⟨⟨h1, h2⟩, h3⟩ := h
    obtain ⟨hb, hc⟩ := ev_call hC hev
    split at h1
    · rename_i x l hx
      have e1 := beqN_eq _ _ _ h1
      subst e1
      split at h2
      · rename_i bs hbs
        have e2 := beqL_eq (beqN_eq depth) h2
        subst e2
        split at h3
        · rename_i y l2 hy
          have e3 := beqN_eq _ _ _ h3
          subst e3
          exact ⟨hb, pure_kept hbs hc.n hx, l2, hy⟩
        · cases h3
      · cases h2
    · cases h1
  · cases h
theorem tableB_ok (hC : CtxOk C) {n : Nat} {T : Table} (h : tableB C n T = true) : TableOk C T := fun x hx y hy => by
  unfold tableB at h
  rw [List.all_eq_true] at h
  have h1 := h x hx
  rw [List.all_eq_true] at h1
  exact factB_ok hC (h1 y hy)

/-! ### Contracts of the library -/
theorem callN_of_calls {f : FuncId} {as : List AVal} {v : AVal} (h : ∀ (B : Nat) (Z : Nat → Nat → Prop) (w : World) (vs : Array Value), HRel B Z [] [] w → as.length = vs.size → (∀ (j : Nat) y u, as[j]? = some y → vs[j]? = some u → VRel Z [] [] w y u) →
    ∃ u, Calls C.P f vs w (fun e w' => e = .returned u ∧ Below w.heap.size w w') ∧ ∀ w', Below w.heap.size w w' → VRel Z [] [] w' v u) : CallN C f as [] (.ret v [] false) := by
  intro B Z L w vs cs hR hl ha
  have hL : L = [] := List.eq_nil_of_length_eq_zero (by rw [hR.len]; rfl)
  subst hL
  obtain ⟨u, hc, hv⟩ := h B Z w vs hR hl ha
  obtain ⟨e, w', fr, ⟨he, hb⟩, hs, hf, hlv⟩ := hc cs
  subst he
  obtain ⟨k1, k2, k3, fn, k4, k5⟩ := hlv
  exact ⟨[], w', fr, hs, k2, k3, hf, wrote_grown hR hb, Nat.le_refl _, k1, fn, u, k4, k5, hv w' hb⟩

/-- A text from the first of these bytes on. -/
def primIndexByte : List AVal → Option AVal
  | [.str s, .int .u8 c] => some (.int .i64 (Lib.indexByte s c.toNat.toUInt8))
  | _ => none
def primIndex : List AVal → Option AVal
  | [.str s, .str t] => if s.length < 4294967281 then some (.int .i64 (Lib.index s t)) else none
  | _ => none
def primCountByte : List AVal → Option AVal
  | [.str s, .int .u8 c] => some (.int .i64 (Lib.countByte s c.toNat.toUInt8 : Nat))
  | _ => none

theorem two_vals {Z : Nat → Nat → Prop} {H : Heap} {L : Locs} {w : World} {x y : AVal} {vs : Array Value} (hl : [x, y].length = vs.size) (ha : ∀ (j : Nat) a u, [x, y][j]? = some a → vs[j]? = some u → VRel Z H L w a u) : ∃ u v, vs = #[u, v] ∧ VRel Z H L w x u ∧ VRel Z H L w y v := by
  obtain ⟨l⟩ := vs
  match l, hl with
  | [u, v], _ => exact ⟨u, v, rfl, ha 0 x u rfl rfl, ha 1 y v rfl rfl⟩

/-- internal/stringslite.Index by its contract. -/
theorem index_ok {f g : FuncId} (hb : HasBody C f) (hg : g ∈ Globs.ints)
    (hc : ∀ (s sub : ByteArray) (m : Int) (w : World), s.size < 4294967281 → w.cell? ⟨g, 0, none⟩ = some (.int .i64 m) → Calls C.P f #[.string s, .string sub] w fun e w' => e = .returned (.int .i64 (Lib.index s.data.toList sub.data.toList)) ∧ w' = w)
    {as : List AVal} {v : AVal} (h : primIndex as = some v) : FactOk C f as v := by
  unfold primIndex at h
  split at h
  · rename_i s t
    split at h
    · rename_i hlen
      cases h
      refine ⟨hb, callN_of_calls fun B Z w vs hR hl ha => ?_, [], rfl⟩
      obtain ⟨u1, u2, rfl, r1, r2⟩ := two_vals hl ha
      obtain ⟨a, rfl, ha1⟩ := r1.str_inv
      obtain ⟨b, rfl, hb1⟩ := r2.str_inv
      obtain ⟨_, m, hm⟩ := hR.glob.ints g hg
      refine ⟨_, (hc a b m w (by rw [← ha1] at hlen; simpa using hlen) hm).mono fun e w' ⟨h1, h2⟩ => ⟨h1, by rw [h2]; exact Below.refl _ _⟩, fun w' _ => ?_⟩
      rw [ha1, hb1]
      exact .data _ _ (.int _ _)
    · cases h
  · cases h
/-- internal/stringslite.IndexByte by its contract. -/
theorem indexByte_ok {f : FuncId} (hb : HasBody C f)
    (hc : ∀ (s : ByteArray) (c : Int) (w : World), Calls C.P f #[.string s, .int .u8 c] w fun e w' => e = .returned (.int .i64 (Lib.indexByte s.data.toList c.toNat.toUInt8)) ∧ w' = w)
    {as : List AVal} {v : AVal} (h : primIndexByte as = some v) : FactOk C f as v := by
  unfold primIndexByte at h
  split at h
  · rename_i s c
    cases h
    refine ⟨hb, callN_of_calls fun B Z w vs hR hl ha => ?_, [], rfl⟩
    obtain ⟨u1, u2, rfl, r1, r2⟩ := two_vals hl ha
    obtain ⟨a, rfl, ha1⟩ := r1.str_inv
    cases r2.int_inv
    refine ⟨_, (hc a c w).mono fun e w' ⟨h1, h2⟩ => ⟨h1, by rw [h2]; exact Below.refl _ _⟩, fun w' _ => ?_⟩
    rw [ha1]
    exact .data _ _ (.int _ _)
  · cases h

/-! ### Entries of the model -/
theorem extern_run {f : FuncId} {fn : Func} {e : Array Value → Sem Value} (hf : C.P.funcs[f]? = some fn) (hname : (fn.name == "runtime.NumGoroutine") = false) (hb : fn.body.isNone = true) (hn : Extern.findNext fn = none) (he : Extern.find fn = some e)
    {args : Array Value} {w w' : World} {u : Value} (h : (e args).run C.P w = .ok u w') : (callFunc f args).run C.P w = .ok (.value u) w' := by
  rw [run_callFunc_extern hf hname hb hn he, h]
  rfl
theorem countByte_ok {f : FuncId} {fn : Func} (hf : C.P.funcs[f]? = some fn) (hname : (fn.name == "runtime.NumGoroutine") = false) (hb : fn.body.isNone = true) (hn : Extern.findNext fn = none) (he : Extern.find fn = some Extern.BytealgCount.count)
    {xs : List AVal} {v : AVal} (h : primCountByte xs = some v) : flat v = true ∧ ExternOk C f xs v := by
  unfold primCountByte at h
  split at h
  · rename_i s c
    cases h
    refine ⟨rfl, fun w vs hl ha => ?_⟩
    obtain ⟨l⟩ := vs
    match l, hl with
    | [u1, u2], _ =>
      have r1 := ha 0 _ u1 rfl rfl
      have r2 := ha 1 _ u2 rfl rfl
      cases r1 with
      | str _ a ha1 =>
        cases r2 with
        | int _ _ => exact ⟨_, w, extern_run hf hname hb hn he (Lib.run_countString a c w), Below.refl _ _, by rw [← ha1]; exact .int _ _⟩
  · cases h
def hprimSame : List AVal → Heap → Option (AVal × Heap)
  | [x], H => some (x, H)
  | _, _ => none
def hprimNoZero (el : TypeId) : List AVal → Heap → Option (AVal × Heap)
  | [.int .i64 n], H => if 0 ≤ n ∧ n ≤ 1099511627776 then some (.arr H.length 0 0 n.toNat, H ++ [.arr el 0 false 1 []]) else none
  | _, _ => none

theorem hprimSame_keeps {args : List AVal} {H H' : Heap} {v : AVal} (h : hprimSame args H = some (v, H')) : Keeps H H' := by
  unfold hprimSame at h
  split at h
  · cases h; exact .refl _
  · cases h
theorem hprimNoZero_keeps {el : TypeId} {args : List AVal} {H H' : Heap} {v : AVal} (h : hprimNoZero el args H = some (v, H')) : Keeps H H' := by
  unfold hprimNoZero at h
  split at h
  · split at h
    · cases h; exact keeps_snoc rfl
    · cases h
  · cases h
theorem same_ok {f : FuncId} {fn : Func} (hf : C.P.funcs[f]? = some fn) (hname : (fn.name == "runtime.NumGoroutine") = false) (hb : fn.body.isNone = true) (hn : Extern.findNext fn = none) (he : Extern.find fn = some Extern.AbiNoEscape.same)
    {args : List AVal} {H H' : Heap} {v : AVal} (h : hprimSame args H = some (v, H')) : EnterOk C f args H (.ret v H' false) := by
  unfold hprimSame at h
  split at h
  · rename_i x
    cases h
    refine .inr ⟨_, _, rfl, fun B Z L w vs hR hl ha => ?_⟩
    obtain ⟨l⟩ := vs
    match l, hl with
    | [u], _ => exact ⟨u, L, w, extern_run hf hname hb hn he (show (Extern.AbiNoEscape.same #[u]).run C.P w = .ok u w from rfl), Wrote.refl hR, Nat.le_refl _, ha 0 _ u rfl rfl⟩
  · cases h

theorem digits_one : ∀ (n t : Nat) (acc : Array Value), (∀ (j : Nat) (u : Value), acc[j]? = some u → u.oneCell' = true) → ∀ (j : Nat) (u : Value), (Extern.BytealgMakeNoZero.digits n t acc)[j]? = some u → u.oneCell' = true
  | 0, _, acc, h => h
  | n + 1, t, acc, h => by
    rw [Extern.BytealgMakeNoZero.digits]
    refine digits_one n _ _ fun j u hu => ?_
    rw [Array.getElem?_push] at hu
    split at hu
    · cases hu; rfl
    · exact h j u hu

theorem noZero_ok {f : FuncId} {fn : Func} {t el : TypeId} {ps : Array TypeId} (hf : C.P.funcs[f]? = some fn) (hname : (fn.name == "runtime.NumGoroutine") = false) (hb : fn.body.isNone = true) (hn : Extern.findNext fn = none) (he : Extern.find fn = some (Extern.BytealgMakeNoZero.makeNoZero ps #[t])) (ht : C.P.underlying t = some (.slice el))
    {args : List AVal} {H H' : Heap} {v : AVal} (h : hprimNoZero el args H = some (v, H')) : EnterOk C f args H (.ret v H' false) := by
  unfold hprimNoZero at h
  split at h
  · rename_i n
    split at h
    · rename_i hnn
      cases h
      obtain ⟨m, rfl⟩ : ∃ m : Nat, n = m := ⟨n.toNat, by omega⟩
      refine .inr ⟨_, _, rfl, fun B Z L w vs hR hl ha => ?_⟩
      obtain ⟨l⟩ := vs
      match l, hl with
      | [u], _ =>
        cases (ha 0 _ u rfl rfl).int_inv
        obtain ⟨cs, hrun, hcap, _⟩ := Lib.run_makeNoZero (P := C.P) w ps t el ht m (by omega)
        have hone : ∀ (j : Nat) (u : Value), cs[j]? = some u → u.oneCell' = true := by
          have hdef : (Extern.BytealgMakeNoZero.makeNoZero ps #[t] #[.int .i64 m]).run C.P w = .ok (.slice (some ⟨w.heap.size, 0, none⟩) m (grownCap w m 0 el))
              (w.drew.drew.alloc (.cells (Extern.BytealgMakeNoZero.digits (grownCap w m 0 el) ((Question.extern "internal/bytealg.MakeNoZero.bytes" 0).cut (w.tape (w.drawn + 1) (.extern "internal/bytealg.MakeNoZero.bytes" 0))) #[]) el)) := by
            have h0 : Extern.BytealgMakeNoZero.makeNoZero ps #[t] #[.int .i64 m] =
              (do
                let .slice elem ← underlying t | stuck "bytealg.MakeNoZero: slice type expected"
                if (m : Int) < 0 || (m : Int) > 2 ^ 48 then runtimePanic (.error "makeslice: len out of range")
                let cap ← choose (.appendCap (m : Int).toNat 0 elem)
                askRoom cap
                let bytes ← choose (.extern "internal/bytealg.MakeNoZero.bytes" 0)
                let a ← newRow elem (Extern.BytealgMakeNoZero.digits cap bytes #[])
                pure (.slice (some a) (m : Int).toNat cap)) := rfl
            rw [h0]
            have h1 : ¬ (m : Int) < 0 := by omega
            have h2 : ¬ (281474976710656 : Int) < (m : Int) := by omega
            simp [run_underlying ht, h1, h2, Question.forced, newRow, Lib.size_digits, grownCap]
          rw [hrun] at hdef
          have hw := (Result.ok.inj hdef).2
          have hh : (w.drew.drew.alloc (.cells cs el)).heap[w.heap.size]? = (w.drew.drew.alloc (.cells (Extern.BytealgMakeNoZero.digits (grownCap w m 0 el) ((Question.extern "internal/bytealg.MakeNoZero.bytes" 0).cut (w.tape (w.drawn + 1) (.extern "internal/bytealg.MakeNoZero.bytes" 0))) #[]) el)).heap[w.heap.size]? := by rw [hw]
          have e1 := heap_alloc_new w.drew.drew (.cells cs el)
          have e2 := heap_alloc_new w.drew.drew (.cells (Extern.BytealgMakeNoZero.digits (grownCap w m 0 el) ((Question.extern "internal/bytealg.MakeNoZero.bytes" 0).cut (w.tape (w.drawn + 1) (.extern "internal/bytealg.MakeNoZero.bytes" 0))) #[]) el)
          rw [show w.drew.drew.heap.size = w.heap.size from rfl] at e1 e2
          rw [e1, e2] at hh
          have hcs : cs = _ := (Obj.cells.inj (Option.some.inj hh)).1
          rw [hcs]
          exact digits_one _ _ _ (by simp)
        have hR2 := HRel.hole hR (.arr el 0 false 1 [])
        have hid : H.length < (L ++ [none]).length := by simp [hR.len]
        have hnone : locOf (L ++ [none]) H.length = none := by rw [locOf_append, if_pos hR.len.symm]
        have hborn := born_row hR2 hid hnone (el := el) (sz := 1) (xs := []) (cs := cs) (fz := (0, 0)) (g := 0) (by simp) (by decide) ⟨by simp, by simp, hone, by simp⟩ (fun h => absurd rfl h) (cap := cs.size) (by simp) (by simp)
          (w' := w.drew.drew.alloc (.cells cs el)) (below_two w _)
        have hW := wrote_new hR hborn
        refine ⟨_, _, _, extern_run hf hname hb hn he hrun, hW, by simp, ?_⟩
        have hl : locOf ((L ++ [none]).set H.length (some (w.heap.size, 0))) H.length = some (w.heap.size, 0) := by rw [locOf_set hid, if_pos rfl]
        have := VRel.arr (Z := Z) (H := H ++ [.arr el 0 false 1 []]) (L := (L ++ [none]).set H.length (some (w.heap.size, 0))) (w := w.drew.drew.alloc (.cells cs el)) H.length 0 0 m w.heap.size 0 cs.size el false 1 [] cs el (0, 0) (by simp) hl (Nat.zero_le _) hcap (heap_alloc_new w.drew.drew _) (by simp)
        simpa using this
    · cases h
  · cases h
where
  below_two (w : World) (o : Obj) : Below (w.heap.size + 1) (w.alloc o) (w.drew.drew.alloc o) :=
    ⟨rfl, rfl, rfl, Nat.le_refl _, fun _ _ => rfl⟩

/-! ### The law's own call -/
theorem law_runs (hC : CtxOk C) {n : Nat} {f : FuncId} {H : Heap} {q : Bool} {v : AVal} {u : Value} (h : ev C n (.call f [] [] none) = some (.call (.ret v H q))) (hv : ∀ (Z : Nat → Nat → Prop) (L : Locs) (w : World) u', VRel Z H L w v u' → u' = u) (w : World) (hg : GlobOk w.heap.size (fun _ _ => True) w) :
    Calls C.P f #[] w fun e w' => e = .returned u ∧ Below w.heap.size w w' := by
  intro cs
  obtain ⟨L', w', fr, h1, h2, h3, h4, h5, h6, k1, fn, u', k2, k3, k4⟩ := (ev_call hC h).2.n w.heap.size (fun _ _ => True) [] w #[] cs (.empty _ w (fun _ _ _ => trivial) hg) rfl (by simp)
  have := hv _ _ _ _ k4
  subst this
  exact ⟨.returned u', w', fr, ⟨rfl, h5.ext.below⟩, h1, h4, k1, h2, h3, fn, k2, k3⟩
end
end Go.Ev
/- The evaluator written so that the kernel reckons it with less work: the same values. No conditions. -/
set_option linter.unusedVariables false
set_option linter.unusedSectionVars false
namespace Go.Ev
open Go.RowKit
variable [Globs]
noncomputable section
section
variable {rec : Task → Option Res} {C : Ctx}

/-- A region in the order of the text, operation by operation. -/
def opsF (rec : Task → Option Res) (C : Ctx) (ops : Array Oper) (l : List Oper) : St → Option (Option AVal × St) :=
  List.rec (fun s => some (none, s)) (fun o _ ih s =>
    match wantedA s.env ops o with
    | none => none
    | some true => match opA rec C s o with
      | none => none
      | some (.ok v s') => ih { s' with env := putA s'.env o.dst v }
      | some (.pan v s') => some (some v, s')
    | some false => ih { s with env := putA s.env o.dst (.tup []) }) l

theorem opsF_cons (ops : Array Oper) (o : Oper) (r : List Oper) (s : St) : opsF rec C ops (o :: r) s =
    match wantedA s.env ops o with
    | none => none
    | some true => match opA rec C s o with
      | none => none
      | some (.ok v s') => opsF rec C ops r { s' with env := putA s'.env o.dst v }
      | some (.pan v s') => some (some v, s')
    | some false => opsF rec C ops r { s with env := putA s.env o.dst (.tup []) } := rfl

theorem opsF_eq (ops : Array Oper) : ∀ (l : List Nat) (os : List Oper), l.map (fun i => ops[i]?) = os.map some → ∀ s, opsA rec C ops l s = opsF rec C ops os s
  | [], [], _, s => rfl
  | [], _ :: _, h, s => by simp at h
  | _ :: _, [], h, s => by simp at h
  | i :: l, o :: os, h, s => by
    simp only [List.map_cons, List.cons.injEq] at h
    obtain ⟨h1, h2⟩ := h
    rw [opsF_cons]
    simp only [opsA, h1]
    cases hw : wantedA s.env ops o with
    | none => rfl
    | some b =>
      cases b with
      | false =>
        simp only [Option.bind_some, Bool.false_eq_true, if_false]
        exact opsF_eq ops l os h2 _
      | true =>
        simp only [Option.bind_some, if_true]
        cases hx : opA rec C s o with
        | none => rfl
        | some x =>
          simp only [Option.bind_some]
          cases x with
          | ok v s' => exact opsF_eq ops l os h2 _
          | pan v s' => rfl

theorem opsF_all (ops : Array Oper) (s : St) : opsA rec C ops (List.range ops.size) s = opsF rec C ops ops.toList s := by
  refine opsF_eq ops _ _ ?_ s
  apply List.ext_getElem?
  intro i
  rw [List.getElem?_map, List.getElem?_map]
  by_cases hi : i < ops.size
  · rw [List.getElem?_range hi]
    simp [hi]
  · rw [List.getElem?_eq_none (by simpa using hi), List.getElem?_eq_none (by simpa using hi)]
    rfl

def regionF (rec : Task → Option Res) (C : Ctx) (id : Nat) (ops : Array Oper) (draw : Bool) (s : St) : Option Res :=
  match draw with
  | true => regionA rec C id ops true s
  | false => match opsF rec C ops ops.toList s with
    | some x => some (finishR (C.keep s.fn) x)
    | none => none
theorem regionF_eq (id : Nat) (ops : Array Oper) (draw : Bool) (s : St) : regionF rec C id ops draw s = regionA rec C id ops draw s := by
  cases draw with
  | true => rfl
  | false =>
    unfold regionF regionA
    simp only [Bool.false_eq_true, if_false]
    rw [opsF_all]
    cases opsF rec C ops ops.toList s <;> rfl

/-- Code first: each kind of statement by its own row. -/
def codeF (C : Ctx) (rec : Task → Option Res) (s : St) : Code → Option Res
  | .region id ops draw => regionF rec C id ops draw s
  | .seq a b => match rec (.code a s) with
    | some (.code .normal s') => rec (.code b s')
    | r => r
  | c => step C rec (.code c s)
theorem codeF_eq (s : St) (c : Code) : codeF C rec s c = step C rec (.code c s) := by
  cases c with
  | region id ops draw => exact regionF_eq id ops draw s
  | seq a b => rfl
  | _ => rfl
def stepF (C : Ctx) (rec : Task → Option Res) : Task → Option Res
  | .code c s => codeF C rec s c
  | t => step C rec t
theorem stepF_eq (t : Task) : stepF C rec t = step C rec t := by
  cases t with
  | code c s => exact codeF_eq s c
  | _ => rfl
def evF (C : Ctx) (n : Nat) : Task → Option Res := Nat.rec (fun _ => none) (fun _ ih => stepF C ih) n
theorem evF_eq (C : Ctx) : ∀ (n : Nat) (t : Task), evF C n t = ev C n t
  | 0, t => rfl
  | n + 1, t => by
    have ih : evF C n = ev C n := funext fun t => evF_eq C n t
    show stepF C (evF C n) t = step C (ev C n) t
    rw [stepF_eq, ih]

/-- Is this what a call comes to? -/
def factF (C : Ctx) (n : Nat) (f : FuncId) (xs : List AVal) (v : AVal) : Bool :=
  match evF C n (.call f xs [] none) with
  | some (.call (.ret u H _)) =>
    (match freeze depth H u with | some (x, _) => beqN depth x v | none => false) &&
    (match freezeL [] xs with | some (bs, []) => beqL (beqN depth) bs xs | _ => false) &&
    (match freeze depth [] v with | some (x, _) => beqN depth x v | none => false)
  | _ => false
def tableF (C : Ctx) (n : Nat) (T : Table) : Bool := T.all fun x => x.2.all fun y => factF C n x.1 y.1 y.2
/-- Does the law's own call come to true? -/
def lawF (C : Ctx) (n : Nat) (f : FuncId) : Bool :=
  match evF C n (.call f [] [] none) with
  | some (.call (.ret (.bool b) _ _)) => b
  | _ => false
theorem lawF_runs (hC : CtxOk C) {n : Nat} {f : FuncId} (h : lawF C n f = true) (w : World) (hg : GlobOk w.heap.size (fun _ _ => True) w) :
    Calls C.P f #[] w fun e w2 => e = .returned (.bool true) ∧ Below w.heap.size w w2 := by
  unfold lawF at h
  split at h
  · rename_i b H q hev
    subst h
    rw [evF_eq] at hev
    exact law_runs hC hev (fun Z L w u' hv => hv.bool_inv) w hg
  · cases h
theorem factF_eq (C : Ctx) (n : Nat) (f : FuncId) (xs : List AVal) (v : AVal) : factF C n f xs v = factB C n f xs v := by
  unfold factF factB
  rw [evF_eq] <;> rfl
theorem tableF_ok (hC : CtxOk C) {n : Nat} {T : Table} (h : tableF C n T = true) : TableOk C T := by
  refine tableB_ok hC (n := n) ?_
  unfold tableB
  unfold tableF at h
  simpa only [factF_eq] using h
end
end
end Go.Ev
/- What a seat's own context must meet, as checks that the kernel reckons; trees for its tables; texts written as numbers. Each theorem bears its own conditions. -/
set_option linter.unusedVariables false
set_option linter.unusedSectionVars false
namespace Go.Ev
open Go.RowKit
variable [Globs]

/-- A text of so many bytes, its first byte the least part of a number. -/
def unb : Nat → Nat → List UInt8
  | 0, _ => []
  | n + 1, k => UInt8.ofNat (k % 256) :: unb n (k / 256)

inductive Tr (α : Type) where
  | nil
  | node (k : Nat) (v : α) (l r : Tr α)
noncomputable def Tr.get {α : Type} (d : α) (t : Tr α) (x : Nat) : α := Tr.rec d (fun k v _ _ il ir => Bool.rec (Bool.rec ir il (Nat.blt x k)) v (Nat.beq x k)) t

def tyIn (P : Program) (n : Nat) : TypeId → Option Ty := fun t => match Nat.blt t n with
  | true => tyOf P t
  | false => none
def tyB (P : Program) (n : Nat) : Bool :=
  (List.range n).all fun t => match tyOf P t with
    | some T => (match T.kd with
      | .struct fs => fs.all fun p => (tyIn P n p.2).isSome
      | _ => true)
    | none => true
def fnB (C : Ctx) (lo n : Nat) : Bool :=
  (List.range n).all fun i => match C.fn (lo + i) with
    | some fn => !(fn.name == "runtime.NumGoroutine") && (match fn.body with
      | some c => okC fn.ntmps c
      | none => true)
    | none => true
def wfB (C : Ctx) (lo n : Nat) : Bool :=
  (List.range n).all fun i => match C.fn (lo + i) with
    | some fn => (match fn.body with
      | some c => (drawsIn c).all fun x => okDraw (C.plan (lo + i) x.1) x.2
      | none => true)
    | none => true
def fnOf (P : Program) (mask : Nat) : FuncId → Option Func := fun f => match Nat.testBit mask f with
  | true => P.funcs[f]?
  | false => none

section
variable {C : Ctx}
theorem fnOf_some {P : Program} {mask f : Nat} {fn : Func} (h : fnOf P mask f = some fn) : P.funcs[f]? = some fn ∧ f < P.funcs.size := by
  unfold fnOf at h
  split at h
  · refine ⟨h, ?_⟩
    rcases Nat.lt_or_ge f P.funcs.size with h' | h'
    · exact h'
    · rw [Array.getElem?_eq_none h'] at h; cases h
  · cases h

theorem fnB_at {lo n : Nat} (h : fnB C lo n = true) {f : Nat} {fn : Func} (h1 : lo ≤ f) (h2 : f < lo + n) (hf : C.fn f = some fn) : (fn.name == "runtime.NumGoroutine") = false ∧ ∀ c, fn.body = some c → okC fn.ntmps c = true := by
  unfold fnB at h
  rw [List.all_eq_true] at h
  have := h (f - lo) (List.mem_range.2 (by omega))
  rw [show lo + (f - lo) = f by omega, hf] at this
  simp only [Bool.and_eq_true, Bool.not_eq_true'] at this
  refine ⟨this.1, fun c hc => ?_⟩
  have h3 := this.2
  rw [hc] at h3
  exact h3
theorem wfB_at {lo n : Nat} (h : wfB C lo n = true) {f : Nat} {fn : Func} {c : Code} (h1 : lo ≤ f) (h2 : f < lo + n) (hf : C.fn f = some fn) (hc : fn.body = some c) : Wf C f c := by
  unfold wfB at h
  rw [List.all_eq_true] at h
  have := h (f - lo) (List.mem_range.2 (by omega))
  rw [show lo + (f - lo) = f by omega, hf] at this
  dsimp only at this
  rw [hc] at this
  dsimp only at this
  rw [List.all_eq_true] at this
  exact fun x hx => this x hx

theorem tyIn_some {P : Program} {n t : Nat} {T : Ty} (h : tyIn P n t = some T) : tyOf P t = some T ∧ t < n := by
  unfold tyIn at h
  split at h
  · rename_i hb
    exact ⟨h, by have : t + 1 ≤ n := by simpa [Nat.blt, Nat.ble_eq] using hb
                 exact this⟩
  · cases h
theorem tab_of {mask n : Nat} (hty : C.ty = tyIn C.P n) (hfn : C.fn = fnOf C.P mask) (hm : C.meth = methOf C.P) (he : C.eqt = fun t => !C.P.stoodInHeld t && !C.P.eqGuardType C.P.depth t) (h1 : tyB C.P n = true)
    (h2 : ∀ (f : Nat) fn, f < C.P.funcs.size → C.fn f = some fn → (fn.name == "runtime.NumGoroutine") = false ∧ ∀ c, fn.body = some c → okC fn.ntmps c = true) : TabOk C where
  ty t T h := by rw [hty] at h; exact tyOf_inv (tyIn_some h).1
  flds t T fs h hk p hp := by
    rw [hty] at h ⊢
    obtain ⟨h3, ht⟩ := tyIn_some h
    unfold tyB at h1
    rw [List.all_eq_true] at h1
    have := h1 t (List.mem_range.2 ht)
    rw [h3] at this
    dsimp only at this
    rw [hk] at this
    dsimp only at this
    rw [List.all_eq_true] at this
    exact this p hp
  fn f fn h := by
    have h0 := h
    rw [hfn] at h
    obtain ⟨h3, h4⟩ := fnOf_some h
    exact ⟨h3, h2 f fn h4 h0⟩
  meth t n f h := by rw [hm] at h; exact h
  eqt t h := by rw [he] at h; simpa using h
theorem has_body {f : FuncId} {fn : Func} {c : Code} (h1 : C.fn f = some fn) (h2 : fn.body = some c) : HasBody C f := ⟨c, fn, by unfold bodyOf; rw [h1, Option.bind_some, h2]; rfl⟩
end
end Go.Ev
