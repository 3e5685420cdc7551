/- The evaluator and its soundness, part 2. Each theorem bears its own conditions. -/
import Derived.Test.YtbmjbachkbomaaaGreatDoorEvA
import Derived.Laws.MakeOwn
import Derived.Laws.IdiomStrings
import Derived.Laws.RangeString
import Derived.Laws.AppendOwn
import Derived.Laws.CopyRow
import Derived.Laws.Append
import Derived.Lib.UnsafeStr
import Derived.AtR
import Derived.Defers
/- All the quiet operations together. Each theorem bears its own conditions. -/
set_option linter.unusedVariables false
set_option linter.unusedSectionVars false
set_option linter.unusedSimpArgs false
namespace Go.Ev
open Go.RowKit
variable [Globs]
section
variable {Z : Nat → Nat → Prop} {H : Heap} {L : Locs} {w : World} {B : Nat} {C : Ctx}

theorem vrun {P : Program} {s : Sem Value} {w w' : World} {u : Value} (h : s.run P w = .ok u w') : (do pure (.value (← s)) : Sem Next).run P w = .ok (.value u) w' := by
  simp only [Sem.run_bind, h, Result.andThen_ok, Sem.run_pure]

theorem map_get (hR : HRel B Z H L w) {e : Env} {a : Act} (he : ERel Z H L w e a.tmps) {l : Array Operand} (j : Nat) (y : AVal) (u : Value) (hy : (l.toList.map (opd e))[j]? = some y) (hu : (l.map a.eval)[j]? = some u) : SRel Z H L w y u := by
  simp only [List.getElem?_map, Option.map_eq_some_iff, Array.getElem?_toList, Array.getElem?_map] at hy hu
  obtain ⟨x, hx, rfl⟩ := hy
  obtain ⟨x', hx', rfl⟩ := hu
  rw [hx] at hx'
  cases hx'
  exact opd_rel hR he x

theorem opcs_arr (hR : HRel B Z H L w) {e : Env} {a : Act} (he : ERel Z H L w e a.tmps) {l : Array Operand} {ys : List AVal} (h : opcs e l.toList = some ys) :
    ys.length = (l.map a.eval).size ∧ ∀ (j : Nat) y u, ys[j]? = some y → (l.map a.eval)[j]? = some u → VRel Z H L w y u ∧ laid y = true := by
  obtain ⟨h1, h2⟩ := opcs_as hR he h
  refine ⟨by simp [h1], fun j y u hy hu => ?_⟩
  simp only [Array.getElem?_map, Option.map_eq_some_iff] at hu
  obtain ⟨x, hx, rfl⟩ := hu
  exact h2 j y x hy (by simpa using hx)

theorem opps_arr (hR : HRel B Z H L w) {e : Env} {a : Act} (he : ERel Z H L w e a.tmps) {l : Array (Nat × Operand)} {ys : List (Nat × AVal)} (h : opps e l.toList = some ys) :
    PRel Z H L w ys (l.map fun (i, x) => (i, a.eval x)).toList := by
  obtain ⟨h1, h2⟩ := opps_as hR he h
  refine ⟨by simp [h1], fun j i y k u hy hu => ?_⟩
  simp only [Array.toList_map, List.getElem?_map, Option.map_eq_some_iff] at hu
  obtain ⟨⟨k', x⟩, hx, hk⟩ := hu
  cases hk
  exact h2 j i y k' x hy hx

theorem run_sliceData {P : Program} {ats : Array TypeId} {ty : TypeId} {p : Addr} {l c : Nat} (h : c ≠ 0) : (Builtin.unsafeSliceData_ ats ty #[.slice (some p) l c]).run P w = .ok (.pointer (some p)) w := by
  show (if c ≠ 0 then pure (.pointer (some p)) else _ : Sem Value).run P w = _
  rw [if_pos h]
  rfl

theorem srel_of {x : AVal} {v : Value} (h : SRel Z H L w x v) (hb : x ≠ .bad) : VRel Z H L w x v := h.resolve_left hb

/-- An operand that is not known leads nowhere. -/
theorem loadA_bad {t : TypeId} {x : AVal} (h : loadA C H t .bad = some x) : False := by
  unfold loadA at h
  obtain ⟨T, hT, k⟩ := bindo h
  cases k

theorem opt_get (hR : HRel B Z H L w) {e : Env} {a : Act} (he : ERel Z H L w e a.tmps) (l : Option Operand) : (l.map (opd e)).isSome = (l.map a.eval).isSome ∧ ∀ x v, l.map (opd e) = some x → l.map a.eval = some v → SRel Z H L w x v := by
  cases l with
  | none => exact ⟨rfl, by simp⟩
  | some y => exact ⟨rfl, fun x v hx hv => by simp at hx hv; subst hx; subst hv; exact opd_rel hR he y⟩

theorem bound_not_bad {o : Option AVal} {d k : Nat} (h : boundA o d = some k) : ∀ x, o = some x → x ≠ .bad := by
  rintro x rfl rfl
  simp [boundA] at h

theorem sliceA_notbad {t : TypeId} {p x : AVal} {lo hi mx : Option AVal} (h : sliceA C H t p lo hi mx = some x) : p ≠ .bad ∧ (∀ x, lo = some x → x ≠ .bad) ∧ (∀ x, hi = some x → x ≠ .bad) ∧ ∀ x, mx = some x → x ≠ .bad := by
  unfold sliceA at h
  obtain ⟨T, hT, k1⟩ := bindo h
  obtain ⟨n, hn, k2⟩ := bindo k1
  obtain ⟨m, hm, k3⟩ := bindo k2
  obtain ⟨hh, hhi, k4⟩ := bindo k3
  obtain ⟨l, hlo, k5⟩ := bindo k4
  refine ⟨?_, bound_not_bad hlo, bound_not_bad hhi, bound_not_bad hm⟩
  rintro rfl
  simp [lenOf] at hn

theorem natOf_notbad {x : AVal} {k : Nat} (h : natOf x = some k) : x ≠ .bad := by rintro rfl; simp [natOf] at h

theorem eqlA_notbad {kd : Kd} {x y : AVal} {b : Bool} (h : eqlA C kd x y = some b) : x ≠ .bad ∧ y ≠ .bad := by
  have := eqlA_other h
  constructor <;> rintro rfl <;> simp [otherEq] at this
theorem binA_notbad {op : BinOp} {t : TypeId} {x y r : AVal} (h : binA C op t x y = some r) : x ≠ .bad ∧ y ≠ .bad := by
  unfold binA at h
  split at h
  · simp
  · simp
  · split at h
    · obtain ⟨T, hT, k⟩ := bindo h
      simp only [Option.map_eq_some_iff] at k
      obtain ⟨b, hb, _⟩ := k
      exact eqlA_notbad hb
    · obtain ⟨T, hT, k⟩ := bindo h
      simp only [Option.map_eq_some_iff] at k
      obtain ⟨b, hb, _⟩ := k
      exact eqlA_notbad hb
    · cases h
theorem agg_eq_sound (hC : TabOk C) {op : BinOp} {t : TypeId} {xo yo : Operand} {a c : List AVal} {u v : Value} {b : Bool} (hx : VRel Z H L w (.agg a) u) (hy : VRel Z H L w (.agg c) v) (h : eqTy C 4 t (.agg a) (.agg c) = some b) :
    (eqGuard op t xo yo u v).run C.P w = .ok () w ∧ (Op.equal t u v).run C.P w = .ok b w ∧ binOp .eql t u v = (do pure (.bool (← Op.equal t u v)) : Sem Value) ∧ binOp .neq t u v = (do pure (.bool (!(← Op.equal t u v))) : Sem Value) := by
  obtain ⟨a', rfl, _⟩ := hx.agg_inv
  obtain ⟨c', rfl, _⟩ := hy.agg_inv
  refine ⟨?_, eqTy_sound hC 4 t _ _ _ _ b 10000 (by omega) hx hy h, rfl, rfl⟩
  have := (hC.eqt t (eqTy_eqt h)).2
  cases op <;> simp [eqGuard, this]

set_option maxHeartbeats 4000000 in
theorem evQ_sound (hC : TabOk C) (hR : HRel B Z H L w) {e : Env} {a : Act} (he : ERel Z H L w e a.tmps) {o : Oper} {x : AVal} (h : evQ C e H o = some x) :
    ∃ u, (execOp a.eval o).run C.P w = .ok (.value u) w ∧ SRel Z H L w x u := by
  have ho := fun y => opd_rel (Z := Z) (H := H) (L := L) (w := w) hR he y
  unfold evQ at h
  unfold execOp
  cases hop : o.op with
  | move y => simp only [hop] at h ⊢; cases h; exact ⟨_, rfl, ho y⟩
  | assign y => simp only [hop] at h ⊢; cases h; exact ⟨_, rfl, ho y⟩
  | pick c p q =>
    simp only [hop] at h ⊢
    split at h
    · rename_i t hc
      cases h
      have := srel_of (hc ▸ ho c) (by simp)
      rw [this.bool_inv]
      refine ⟨if t then a.eval p else a.eval q, by simp [asBool], ?_⟩
      cases t
      · exact ho q
      · exact ho p
    · cases h
  | build t ps =>
    simp only [hop] at h ⊢
    obtain ⟨ys, hy, h2⟩ := bindo h
    obtain ⟨u, h3, h4⟩ := buildA_sound hC (opps_arr hR he hy) h2
    exact ⟨u, vrun h3, .inr h4⟩
  | load t p =>
    simp only [hop] at h ⊢
    obtain ⟨u, h3, h4⟩ := loadA_sound hC hR (srel_of (ho p) (by intro hb; rw [hb] at h; exact loadA_bad h)) h
    exact ⟨u, vrun h3, .inr h4⟩
  | nilCheck y =>
    simp only [hop] at h ⊢
    have hy := ho y
    generalize opd e y = z at h hy
    cases z <;> simp only at h <;> cases h <;> have hy2 := srel_of hy (by simp)
    · obtain ⟨p, hp⟩ := ptr_some_inv hy2 (.inl ⟨_, _, rfl⟩); rw [hp] at hy ⊢; exact ⟨_, rfl, hy⟩
    · obtain ⟨p, hp⟩ := ptr_some_inv hy2 (.inr (.inl ⟨_, _, _, _, rfl⟩)); rw [hp] at hy ⊢; exact ⟨_, rfl, hy⟩
    · obtain ⟨p, hp⟩ := ptr_some_inv hy2 (.inr (.inr ⟨_, rfl⟩)); rw [hp] at hy ⊢; exact ⟨_, rfl, hy⟩
    · obtain ⟨_, _, hp, _⟩ := hy2.func_inv; rw [hp] at hy ⊢; exact ⟨_, rfl, hy⟩
    · obtain ⟨_, hp, _⟩ := hy2.iface_inv; rw [hp] at hy ⊢; exact ⟨_, rfl, hy⟩
  | binOp op t p q yt =>
    simp only [hop] at h ⊢
    have hp := ho p
    have hq := ho q
    generalize hpe : opd e p = x1 at h hp
    generalize hqe : opd e q = y1 at h hq
    split at h
    · split at h
      · rename_i hcon
        have h1 := (srel_of hp (by simp)).nili_inv
        have h2 := (srel_of hq (by simp)).nili_inv
        have hg : ∀ op, eqGuard op t p q .nilIface .nilIface = pure () := fun op => by
          simp only [Bool.or_eq_true] at hcon
          rcases hcon with hcon | hcon
          · cases p <;> simp [isConst] at hcon
            cases op <;> rfl
          · cases q <;> simp [isConst] at hcon
            cases op <;> cases p <;> rfl
        rw [h1, h2]
        obtain ⟨T, hT, k⟩ := bindo h
        clear h
        obtain ⟨T'⟩ := hC.ty t T hT
        have hu := T'.und
        have hkd := T'.kd
        have heq : ∀ ms, T'.d = .interface ms → (Op.equal t .nilIface .nilIface).run C.P w = .ok true w := fun ms hd => by
          rw [hd] at hu
          rw [run_equal' hu]
          generalize 9999 = n
          simp [Op.equalIn, run_underlying hu]
        split at k
        · rename_i hk
          cases k
          rw [hk] at hkd
          obtain ⟨ms, hd⟩ := kd_interface hkd
          rw [hg]
          exact ⟨.bool true, by rw [show binOp .eql t .nilIface .nilIface = (do pure (.bool (← Op.equal t .nilIface .nilIface)) : Sem Value) from rfl]; simp [heq ms hd], .inr (vbool _)⟩
        · rename_i hk
          cases k
          rw [hk] at hkd
          obtain ⟨ms, hd⟩ := kd_interface hkd
          rw [hg]
          exact ⟨.bool false, by rw [show binOp .neq t .nilIface .nilIface = (do pure (.bool (!(← Op.equal t .nilIface .nilIface))) : Sem Value) from rfl]; simp [heq ms hd], .inr (vbool _)⟩
        · cases k
      · cases h
    · split at h
      · simp only [Option.map_eq_some_iff] at h
        obtain ⟨b, hb, rfl⟩ := h
        obtain ⟨h1, h2, h3, _⟩ := agg_eq_sound (op := .eql) (xo := p) (yo := q) hC (srel_of hp (by simp)) (srel_of hq (by simp)) hb
        exact ⟨.bool b, by simp [h1, h2, h3], .inr (vbool _)⟩
      · simp only [Option.map_eq_some_iff] at h
        obtain ⟨b, hb, rfl⟩ := h
        obtain ⟨h1, h2, _, h3⟩ := agg_eq_sound (op := .neq) (xo := p) (yo := q) hC (srel_of hp (by simp)) (srel_of hq (by simp)) hb
        exact ⟨.bool !b, by simp [h1, h2, h3], .inr (vbool _)⟩
      · cases h
    · rename_i hn hag
      obtain ⟨hb1, hb2⟩ := binA_notbad h
      obtain ⟨u, h3, h4⟩ := binA_sound (xo := p) (yo := q) hC hR (srel_of hp hb1) (srel_of hq hb2) (fun ⟨a, b⟩ => hn a b) (fun a b ⟨c, d⟩ => hag a b c d) h
      exact ⟨u, vrun h3, .inr h4⟩
  | unOp op t y =>
    simp only [hop] at h ⊢
    obtain ⟨u, h3, h4⟩ := unA_sound (P := C.P) (ho y) h
    exact ⟨u, vrun h3, .inr h4⟩
  | convert s d y =>
    simp only [hop] at h ⊢
    split at h
    · split at h
      · cases h
      · simp only [Option.map_eq_some_iff] at h
        obtain ⟨⟨y1, H1⟩, hy1, rfl⟩ := h
        have hnb : opd e y ≠ .bad := by
          intro hb
          rw [hb] at hy1
          unfold convertA at hy1
          obtain ⟨S, hS, h2⟩ := bindo hy1
          obtain ⟨D, hD, h3⟩ := bindo h2
          split at h3 <;> first | contradiction | skip
          split at h3
          · obtain ⟨E, hE, h4⟩ := bindo h3
            split at h4
            · obtain ⟨xs, hxs, _⟩ := bindo h4; simp [elems] at hxs
            · cases h4
          · cases h3
        obtain ⟨u, h3, h4⟩ := convertA_sound hC hR (srel_of (ho y) hnb) hy1
        exact ⟨u, vrun h3, .inr h4⟩
    · cases h
  | makeInterface t y =>
    simp only [hop] at h ⊢
    split at h
    · rename_i T hT
      obtain ⟨T'⟩ := hC.ty t T hT
      split at h
      · cases h
      · rename_i hni
        simp only [Option.map_eq_some_iff] at h
        obtain ⟨y1, hy1, rfl⟩ := h
        obtain ⟨h3, _⟩ := opc_as hR he hy1
        refine ⟨.iface t (a.eval y), vrun ?_, .inr (.iface _ _ _ h3)⟩
        have hk := T'.kd
        simp only [Instr.makeInterface, Sem.run_bind, run_underlying T'.und, Result.andThen_ok]
        cases hd : T'.d <;> first | rfl | (rw [hd] at hk; exact absurd hk hni)
    · cases h
  | makeFunc f first caps =>
    simp only [hop] at h ⊢
    cases f with
    | func f =>
      dsimp only at h
      obtain ⟨as, ha, h2⟩ := bindo h
      simp only [Option.map_eq_some_iff] at h2
      obtain ⟨cs, hc, rfl⟩ := h2
      obtain ⟨h3, h4⟩ := opcs_arr hR he ha
      obtain ⟨h5, h6⟩ := opcs_arr hR he hc
      exact ⟨_, rfl, .inr (.func _ _ _ _ _ h3 h5 (fun j y u a b => (h4 j y u a b).1) fun j y u a b => (h6 j y u a b).1)⟩
    | _ => cases h
  | slice t y lo hi mx =>
    simp only [hop] at h ⊢
    obtain ⟨b1, b2, b3, b4⟩ := sliceA_notbad h
    obtain ⟨n1, r1⟩ := opt_get hR he lo
    obtain ⟨n2, r2⟩ := opt_get hR he hi
    obtain ⟨n3, r3⟩ := opt_get hR he mx
    obtain ⟨u, h3, h4⟩ := sliceA_sound hC (srel_of (ho y) b1) n3 n2 n1 (fun x v hx hv => srel_of (r3 x v hx hv) (b4 x hx)) (fun x v hx hv => srel_of (r2 x v hx hv) (b3 x hx)) (fun x v hx hv => srel_of (r1 x v hx hv) (b2 x hx)) h
    exact ⟨u, vrun h3, .inr h4⟩
  | fieldAddr s y f =>
    simp only [hop] at h ⊢
    have hnb : opd e y ≠ .bad := by
      intro hb
      rw [hb] at h
      unfold fieldAddrA at h
      obtain ⟨T, hT, k⟩ := bindo h
      split at k
      · obtain ⟨⟨o', t⟩, hf, k2⟩ := bindo k
        dsimp only at k2
        obtain ⟨F, hF, k3⟩ := bindo k2
        split at k3 <;> cases k3
      · cases k
    obtain ⟨u, h3, h4⟩ := fieldAddrA_sound hC (srel_of (ho y) hnb) h
    exact ⟨u, vrun h3, .inr h4⟩
  | field s y f =>
    simp only [hop] at h ⊢
    have hnb : opd e y ≠ .bad := by
      intro hb
      rw [hb] at h
      unfold fieldA at h
      obtain ⟨T, hT, k⟩ := bindo h
      split at k
      · obtain ⟨⟨o', t⟩, hf, k2⟩ := bindo k
        dsimp only at k2
        obtain ⟨F, hF, k3⟩ := bindo k2
        cases k3
      · cases k
    obtain ⟨u, h3, h4⟩ := fieldA_sound hC (srel_of (ho y) hnb) h
    exact ⟨u, vrun h3, .inr h4⟩
  | indexAddr t y i =>
    simp only [hop] at h ⊢
    have hnb : opd e y ≠ .bad ∧ opd e i ≠ .bad := by
      constructor
      · intro hb
        rw [hb] at h
        unfold indexAddrA at h
        obtain ⟨T, hT, k⟩ := bindo h
        obtain ⟨n, hn, k2⟩ := bindo k
        split at k2
        · obtain ⟨E, hE, k3⟩ := bindo k2; split at k3 <;> cases k3
        · obtain ⟨E, hE, k3⟩ := bindo k2; split at k3 <;> cases k3
        · cases k2
      · intro hb
        unfold indexAddrA at h
        obtain ⟨T, hT, k⟩ := bindo h
        obtain ⟨n, hn, k2⟩ := bindo k
        exact natOf_notbad hn hb
    obtain ⟨u, h3, h4⟩ := indexAddrA_sound hC hR (srel_of (ho y) hnb.1) (srel_of (ho i) hnb.2) h
    exact ⟨u, vrun h3, .inr h4⟩
  | index t y i =>
    simp only [hop] at h ⊢
    have hnb : opd e y ≠ .bad ∧ opd e i ≠ .bad := by
      constructor
      · intro hb
        rw [hb] at h
        unfold indexA at h
        obtain ⟨n, hn, k2⟩ := bindo h
        cases k2
      · intro hb
        unfold indexA at h
        obtain ⟨n, hn, k2⟩ := bindo h
        exact natOf_notbad hn hb
    obtain ⟨u, h3, h4⟩ := indexA_sound hC (srel_of (ho y) hnb.1) (srel_of (ho i) hnb.2) h
    exact ⟨u, vrun h3, .inr h4⟩
  | lookup t m k ok =>
    simp only [hop] at h ⊢
    have hnb : opd e m ≠ .bad ∧ opd e k ≠ .bad := by
      unfold lookupA at h
      obtain ⟨⟨K, E⟩, hE, h2⟩ := bindo h
      dsimp only at h2
      split at h2
      · cases h2
      · rename_i hkd
        obtain ⟨r, hr, h3⟩ := bindo h2
        refine ⟨fun hb => by rw [hb] at hr; simp at hr, fun hb => by rw [hb] at hkd; simp [keyKd] at hkd⟩
    obtain ⟨u, h3, h4⟩ := lookupA_sound hC hR (srel_of (ho m) hnb.1) (srel_of (ho k) hnb.2) h
    exact ⟨u, vrun h3, .inr h4⟩
  | typeAssert y xt t ok =>
    simp only [hop] at h ⊢
    split at h
    · rename_i T hT
      obtain ⟨T'⟩ := hC.ty t T hT
      split at h
      · cases h
      · rename_i hni
        have hy := ho y
        have hk := T'.kd
        have hnd : ∀ ms, T'.d ≠ .interface ms := fun ms hd => by rw [hd] at hk; exact hni hk
        have hz := absV_rel (S := Stable Z H L) (w := w) T'.abs
        have tupz : ∀ (b : Bool) (p : AVal) (q : Value), VRel Z H L w p q → VRel Z H L w (.tup [p, .bool b]) (.tuple #[q, .bool b]) := by
          intro b p q hpq
          refine .tup _ _ rfl fun j z r hz hr => ?_
          match j with
          | 0 => simp at hz hr; exact hz ▸ hr ▸ hpq
          | 1 => simp at hz hr; exact hz ▸ hr ▸ vbool b
          | j + 2 => simp at hz
        generalize opd e y = z at h hy
        split at h
        · rename_i u v
          obtain ⟨v', h1, h2⟩ := (srel_of hy (by simp)).iface_inv
          rw [h1]
          split at h
          · rename_i heq
            have heq' : u = t := by simpa using heq
            subst heq'
            cases h
            cases ok with
            | false =>
              refine ⟨v', vrun ?_, .inr h2⟩
              simp only [Instr.typeAssert, Sem.run_bind, run_underlying T'.und, Result.andThen_ok]
              cases hd : T'.d <;> first | simp | exact absurd hd (hnd _)
            | true =>
              refine ⟨.tuple #[v', .bool true], vrun ?_, .inr (tupz _ _ _ h2)⟩
              simp only [Instr.typeAssert, Sem.run_bind, run_underlying T'.und, Result.andThen_ok]
              cases hd : T'.d <;> first | simp | exact absurd hd (hnd _)
          · rename_i hne
            have hne' : ¬ u = t := by simpa using hne
            split at h
            · rename_i hok
              subst hok
              cases h
              refine ⟨.tuple #[T'.z, .bool false], vrun ?_, .inr (tupz _ _ _ (.data _ _ hz))⟩
              simp only [Instr.typeAssert, Sem.run_bind, run_underlying T'.und, Result.andThen_ok]
              cases hd : T'.d <;> first | simp [hne', run_zeroValue T'] | exact absurd hd (hnd _)
            · cases h
        · have h1 := (srel_of hy (by simp)).nili_inv
          rw [h1]
          split at h
          · rename_i hok
            subst hok
            cases h
            refine ⟨.tuple #[T'.z, .bool false], vrun ?_, .inr (tupz _ _ _ (.data _ _ hz))⟩
            simp only [Instr.typeAssert, Sem.run_bind, run_underlying T'.und, Result.andThen_ok]
            cases hd : T'.d <;> first | simp [run_zeroValue T'] | exact absurd hd (hnd _)
          · cases h
        · cases h
    · cases h
  | extract y ix =>
    simp only [hop] at h ⊢
    split at h
    · rename_i vs hy
      obtain ⟨vs', h1, h2, h3⟩ := (srel_of (hy ▸ ho y) (by simp)).tup_inv
      rw [h1]
      have hlt : ix < vs'.size := by have := (List.getElem?_eq_some_iff.1 h).1; omega
      exact ⟨vs'[ix], vrun (by simp [Instr.extract, hlt]), .inr (h3 ix x _ h (Array.getElem?_eq_getElem hlt))⟩
    · cases h
  | call c =>
    obtain ⟨callee, args, ats⟩ := c
    simp only [hop] at h ⊢
    cases callee with
    | builtin b =>
      have hres : ∀ (s : Sem Value) (u : Value), builtin b ats o.type (args.map fun | .const _ => true | _ => false) (args.map a.eval) = (do pure (.value (← s)) : Sem Next) → s.run C.P w = .ok u w →
          ((do let d ← resolve a.eval { callee := .builtin b, args := args, argTypes := ats } o.type; invoke d.target d.args : Sem Next)).run C.P w = .ok (.value u) w := by
        intro s u h1 h2
        simp only [resolve, Sem.run_bind, Sem.run_pure, Result.andThen_ok, invoke]
        have := vrun h2
        rw [← h1] at this
        exact this
      cases b <;> dsimp only at h <;> (try (cases h; done))
      case len =>
        split at h
        · rename_i y t ts hy ht
          simp only [Option.map_eq_some_iff] at h
          obtain ⟨n, hn, rfl⟩ := h
          have hnb : opd e y ≠ .bad := by
            intro hb
            rw [hb] at hn
            unfold lenA at hn
            obtain ⟨T, hT, k⟩ := bindo hn
            split at k <;> first | contradiction | cases k
          have hargs : args.map a.eval = #[a.eval y] := by
            obtain ⟨l⟩ := args
            simp at hy
            subst hy
            simp
          have ht0 : ats[0]? = some t := by rw [← Array.getElem?_toList, ht]; rfl
          exact ⟨_, hres _ _ rfl (by rw [hargs]; exact lenA_sound hC hR ht0 (srel_of (ho y) hnb) hn), .inr (vint _ _)⟩
        · cases h
      case cap =>
        split at h
        · rename_i t ts hy ht
          obtain ⟨T, hT, h2⟩ := bindo h
          clear h
          split at h2
          · rename_i el hk
            cases h2
            obtain ⟨T'⟩ := hC.ty t T hT
            have hu := T'.und
            have hkd := T'.kd
            rw [hk] at hkd
            rw [kd_slice hkd] at hu
            have hone : ∀ z, args.toList.map (opd e) = [z] → ∃ u, args.map a.eval = #[u] ∧ SRel Z H L w z u := by
              intro z hz
              obtain ⟨l⟩ := args
              match l, hz with
              | [y], hz =>
                simp at hz
                subst hz
                exact ⟨a.eval y, by simp, ho y⟩
            obtain ⟨u, hu2, hs⟩ := hone _ hy
            cases slice_nil_inv (srel_of hs (by simp))
            have ht0 : ats[0]? = some t := by rw [← Array.getElem?_toList, ht]; rfl
            exact ⟨_, hres _ _ rfl (by rw [hu2]; simp [Builtin.cap_, ht0, run_underlying hu, goInt]), .inr (vint _ _)⟩
          · cases h2
        · cases h
      case max =>
        obtain ⟨u, h1, h2⟩ := maxA_sound (P := C.P) (ts := ats) (ty := o.type) (l' := args.map a.eval) (by simp) (fun j y u => map_get hR he j y u) h
        exact ⟨u, hres _ _ rfl h1, .inr h2⟩
      case min =>
        obtain ⟨u, h1, h2⟩ := minA_sound (P := C.P) (ts := ats) (ty := o.type) (l' := args.map a.eval) (by simp) (fun j y u => map_get hR he j y u) h
        exact ⟨u, hres _ _ rfl h1, .inr h2⟩
      case unsafeSliceData =>
        have hone : ∀ z, args.toList.map (opd e) = [z] → ∃ u, args.map a.eval = #[u] ∧ SRel Z H L w z u := by
          intro z hz
          obtain ⟨l⟩ := args
          match l, hz with
          | [y], hz =>
            simp at hz
            subst hz
            exact ⟨a.eval y, by simp, ho y⟩
        split at h
        · rename_i hz
          cases h
          obtain ⟨u, hu, hs⟩ := hone _ hz
          cases slice_nil_inv (srel_of hs (by simp))
          exact ⟨_, hres _ _ rfl (by rw [hu]; rfl), .inr (.data _ _ .nilp)⟩
        · rename_i id g off len hz
          obtain ⟨u, hu, hs⟩ := hone _ hz
          split at h
          · rename_i hlt
            cases h
            have hv := srel_of hs (by simp)
            cases hv with
            | data _ _ hd => cases hd
            | arr _ _ _ _ b base cap e2 ro sz xs cs' e' fz ho2 hl hx hcap hb hsz =>
              refine ⟨.pointer (some ⟨b, base + off * sz, none⟩), hres _ _ rfl ?_, .inr ?_⟩
              · rw [hu]
                exact run_sliceData (by omega)
              · exact .aptr _ _ off 0 b base _ _ _ _ ho2 hl
            | arrOld _ _ _ _ p c hp hc e2 g2 ro sz xs ho2 hg =>
              refine ⟨.pointer (some p), hres _ _ rfl ?_, .inr (.aptrOld _ _ _ _ p hp _ _ _ _ _ ho2 hg)⟩
              rw [hu]
              exact run_sliceData (by omega)
          · cases h
        · cases h
    | _ => cases h
  | _ => simp only [hop] at h; cases h
end
end Go.Ev
/- Births: what the evaluator says of one is what the machine makes. Each theorem bears its own conditions. -/
set_option linter.unusedVariables false
set_option linter.unusedSectionVars false
set_option linter.unusedSimpArgs false
namespace Go.Ev
open Go.RowKit
variable [Globs]
section
variable {Z : Nat → Nat → Prop} {H : Heap} {L : Locs} {w : World} {B : Nat} {C : Ctx}

/-- Elements, and the row of cells that they lie in. -/
structure RRel (Z : Nat → Nat → Prop) (H : Heap) (L : Locs) (w : World) (sz : Nat) (xs : List AVal) (cs : Array Value) : Prop where
  len : xs.length * sz ≤ cs.size
  el : ∀ (i : Nat) (x : AVal), xs[i]? = some x → x.cells.length = sz ∧ laid x = true
  one : ∀ (j : Nat) (u : Value), cs[j]? = some u → u.oneCell' = true
  rel : ∀ (i : Nat) (x : AVal), xs[i]? = some x → ∀ (j : Nat) (y : AVal) (u : Value), x.cells[j]? = some y → cs[i * sz + j]? = some u → VRel Z H L w y u

theorem RRel.mono {H' : Heap} {L' : Locs} {w' : World} (E : Ext B Z H L w H' L' w') {sz : Nat} {xs : List AVal} {cs : Array Value} (h : RRel Z H L w sz xs cs) : RRel Z H' L' w' sz xs cs :=
  ⟨h.len, h.el, h.one, fun i x hi j y u hy hu => (h.rel i x hi j y u hy hu).mono E⟩

theorem row_index {sz i i' j j' : Nat} (hj : j < sz) (hj' : j' < sz) (h : i * sz + j = i' * sz + j') : i = i' ∧ j = j' := by
  have h0 : 0 < sz := by omega
  have h1 : (i * sz + j) / sz = i := by rw [Nat.add_comm, Nat.add_mul_div_right _ _ h0, Nat.div_eq_of_lt hj]; omega
  have h2 : (i' * sz + j') / sz = i' := by rw [Nat.add_comm, Nat.add_mul_div_right _ _ h0, Nat.div_eq_of_lt hj']; omega
  have : i = i' := by rw [← h1, ← h2, h]
  subst this
  exact ⟨rfl, by omega⟩

theorem RRel.put {sz : Nat} {xs : List AVal} {cs : Array Value} (h : RRel Z H L w sz xs cs) {i : Nat} {x : AVal} {v : Value} (hi : i < xs.length) (hl : laid x = true) (hs : x.cells.length = sz) (hx : VRel Z H L w x v) :
    RRel Z H L w sz (xs.set i x) (spliceV cs (i * sz) v.cells) := by
  have hc := hx.crel hl
  have hle : i * sz + v.cells.size ≤ cs.size := by
    have h1 := h.len
    have h2 : (i + 1) * sz ≤ xs.length * sz := Nat.mul_le_mul_right sz (by omega)
    have h3 : (i + 1) * sz = i * sz + sz := Nat.succ_mul i sz
    have := hc.len
    omega
  refine ⟨by rw [List.length_set, spliceV_size]; exact h.len, fun k y hk => ?_, fun j u hu => ?_, fun k y hk j z u hz hu => ?_⟩
  · rw [List.getElem?_set] at hk
    split at hk
    · cases hk; exact ⟨hs, hl⟩
    · exact h.el k y hk
  · rw [spliceV_get hle] at hu
    split at hu
    · exact hc.one _ _ hu
    · exact h.one _ _ hu
  · rw [spliceV_get hle, ← hc.len, hs] at hu
    rw [List.getElem?_set] at hk
    split at hk
    · rename_i hik
      subst hik
      cases hk
      have hj : j < sz := by have := (List.getElem?_eq_some_iff.1 hz).1; omega
      rw [if_pos (by omega)] at hu
      rw [show i * sz + j - i * sz = j by omega] at hu
      exact hc.rel j z u hz hu
    · rename_i hne
      have hj : j < sz := by have := (List.getElem?_eq_some_iff.1 hz).1; have := (h.el k y hk).1; omega
      rw [if_neg] at hu
      · exact h.rel k y hk j z u hz hu
      · rintro ⟨h1, h2⟩
        have : k * sz + j = i * sz + (k * sz + j - i * sz) := by omega
        have := (row_index hj (by omega) this).1
        omega

theorem placeElems_sound {sz : Nat} (hz : 0 < sz) : ∀ (ps : List (Nat × AVal)) (ps' : List (Nat × Value)) (xs r : List AVal) (cs : Array Value), PRel Z H L w ps ps' → RRel Z H L w sz xs cs → placeElems sz xs ps = some r →
    ∃ r', Instr.fill (fun i => some (i * sz, sz)) cs ps' = some r' ∧ RRel Z H L w sz r r' ∧ r.length = xs.length ∧ r'.size = cs.size
  | [], ps', xs, r, cs, hP, hc, h => by
    obtain ⟨hl, _⟩ := hP
    cases ps' with
    | cons => simp at hl
    | nil => simp [placeElems] at h; subst h; exact ⟨cs, rfl, hc, rfl, rfl⟩
  | (i, y) :: ps, [], xs, r, cs, hP, hc, h => by simp [PRel] at hP
  | (i, y) :: ps, (k, u) :: ps', xs, r, cs, hP, hc, h => by
    obtain ⟨hl, hr⟩ := hP
    obtain ⟨rfl, hy, hyl⟩ := hr 0 i y k u rfl rfl
    simp only [placeElems] at h
    split at h
    · cases h
    · rename_i hcond
      simp only [Bool.or_eq_true, decide_eq_true_eq, not_or, Nat.not_le, ne_eq, decide_not, Bool.not_eq_true', decide_eq_false_iff_not, Decidable.not_not] at hcond
      obtain ⟨h1, h2⟩ := hcond
      have hcv := hy.crel hyl
      have hlen : u.cells.size = sz := by rw [← hcv.len]; exact h1
      have hput := hc.put h2 hyl h1 hy
      obtain ⟨r', hf, hrr, hrl, hrs⟩ := placeElems_sound hz ps ps' _ r _ ⟨by simpa using hl, fun j i y k u a b => hr (j + 1) i y k u a b⟩ hput h
      refine ⟨r', ?_, hrr, by rw [hrl, List.length_set], by rw [hrs, spliceV_size]⟩
      simp only [Instr.fill]
      have hle : i * sz + u.cells.size ≤ cs.size := by
        have h3 := hc.len
        have h4 : (i + 1) * sz ≤ xs.length * sz := Nat.mul_le_mul_right sz (by omega)
        have h5 : (i + 1) * sz = i * sz + sz := Nat.succ_mul i sz
        omega
      rw [if_neg (by simp only [Bool.or_eq_true, decide_eq_true_eq, not_or, ne_eq, decide_not, Bool.not_eq_true', decide_eq_false_iff_not, Decidable.not_not]; exact ⟨hlen, by omega⟩)]
      exact hf

/-- A row of zeros. -/
theorem zero_row {P : Program} {t : TypeId} {T : Ty} (hT : TyR P t T) (hz : T.size ≠ 0) (n m : Nat) (hn : n ≤ m) : RRel Z H L w T.size (List.replicate n T.zero) (madeCells hT.z.cells (m * T.size)) := by
  have hc : CRel Z H L w T.zero.cells hT.z.cells := zero_crel hT
  have hlen : hT.z.cells.size = T.size := by rw [← hc.len]; exact hT.zlen
  have hget : ∀ k, k < m * T.size → (madeCells hT.z.cells (m * T.size))[k]? = hT.z.cells[k % T.size]? := fun k hk => by
    have hlt : k % T.size < hT.z.cells.size := by rw [hlen]; exact Nat.mod_lt _ (by omega)
    simp only [madeCells, Array.getElem?_map, Array.getElem?_range, hk, if_true, Option.map_some, hlen]
    rw [Array.getElem?_eq_getElem hlt]
    congr 1
    exact getElem!_pos hT.z.cells (k % T.size) hlt
  have hsz := size_madeCells hT.z.cells (m * T.size)
  refine ⟨by rw [hsz, List.length_replicate]; exact Nat.mul_le_mul_right _ hn, fun i x hi => ?_, fun j u hu => ?_, fun i x hi j y u hy hu => ?_⟩
  · obtain ⟨_, rfl⟩ : i < n ∧ T.zero = x := by
      rw [List.getElem?_replicate] at hi
      split at hi
      · cases hi; exact ⟨by assumption, rfl⟩
      · cases hi
    exact ⟨hT.zlen, hT.zlaid⟩
  · have hj : j < m * T.size := by have := (Array.getElem?_eq_some_iff.1 hu).1; omega
    rw [hget j hj] at hu
    exact hc.one _ _ hu
  · obtain ⟨hi', rfl⟩ : i < n ∧ T.zero = x := by
      rw [List.getElem?_replicate] at hi
      split at hi
      · cases hi; exact ⟨by assumption, rfl⟩
      · cases hi
    have hj : j < T.size := by have := (List.getElem?_eq_some_iff.1 hy).1; have := hT.zlen; omega
    have hlt : i * T.size + j < m * T.size := mul_lt_of (by omega) hj
    rw [hget _ hlt, show (i * T.size + j) % T.size = j by rw [Nat.mul_comm, Nat.mul_add_mod, Nat.mod_eq_of_lt hj]] at hu
    exact hc.rel j y u hy hu

theorem elemOf_inv (hC : TabOk C) {t el : TypeId} {E : Ty} (h : elemOf C t = some (el, E)) : C.P.underlying t = some (.slice el) ∧ Nonempty (TyR C.P el E) := by
  unfold elemOf at h
  obtain ⟨T, hT, k⟩ := bindo h
  obtain ⟨T'⟩ := hC.ty t T hT
  split at k
  · rename_i e hk
    have := T'.kd
    rw [hk] at this
    simp only [Option.map_eq_some_iff, Prod.mk.injEq] at k
    obtain ⟨E', hE, rfl, rfl⟩ := k
    exact ⟨by rw [T'.und, kd_slice this], hC.ty _ _ hE⟩
  · cases k

/-- What is known of a birth that is done. -/
structure Born (B : Nat) (Z : Nat → Nat → Prop) (H : Heap) (L : Locs) (w : World) (id : Nat) (v : AVal) (u : Value) (w' : World) : Prop where
  ext : Ext B Z H L w H (L.set id (some (w.heap.size, 0))) w'
  rel : HRel B Z H (L.set id (some (w.heap.size, 0))) w'
  val : VRel Z H (L.set id (some (w.heap.size, 0))) w' v u

theorem locOf_filled {id : Nat} (hid : id < L.length) : locOf (L.set id (some (w.heap.size, 0))) id = some (w.heap.size, 0) := by rw [locOf_set hid, if_pos rfl]

/-- A row that is new. -/
theorem born_row (hR : HRel B Z H L w) {id : Nat} (hid : id < L.length) (hn : locOf L id = none) {el : TypeId} {sz : Nat} {xs : List AVal} {cs : Array Value} {fz : Nat × Nat} {g : Nat} (ho : H[id]? = some (.arr el g false sz xs)) (hz : 0 < sz)
    (hr : RRel Z H L w sz xs cs) (hf : fz.1 ≠ fz.2 → g % 2 = 1 ∧ cs.size ≤ fz.1) {cap : Nat} (hc : xs.length ≤ cap) (hcap : cap * sz ≤ cs.size) {w' : World} (hg : Below (w.heap.size + 1) (w.alloc (.cells cs el fz)) w') :
    Born B Z H L w id (.arr id g 0 xs.length) (.slice (some ⟨w.heap.size, 0, none⟩) xs.length cap) w' := by
  have E := Ext.fill hR hid hn (.cells cs el fz)
  have hR' : HRel B Z H (L.set id (some (w.heap.size, 0))) (w.alloc (.cells cs el fz)) := by
    refine HRel.fill hR hid hn ho ?_
    refine ⟨hz, cs, fz, heap_alloc_new _ _, by simpa using hr.len, hr.el, hr.one, fun i x hi j y u hy hu => ?_, fun h => .inr (hf h)⟩
    rw [Nat.zero_add] at hu
    exact (hr.rel i x hi j y u hy hu).mono E
  have hg' : Below (w.alloc (.cells cs el fz)).heap.size (w.alloc (.cells cs el fz)) w' := by simpa using hg
  have hv : VRel Z H (L.set id (some (w.heap.size, 0))) (w.alloc (.cells cs el fz)) (.arr id g 0 xs.length) (.slice (some ⟨w.heap.size, 0 + 0 * sz, none⟩) xs.length cap) :=
    .arr id g 0 xs.length w.heap.size 0 cap el false sz xs cs el fz ho (locOf_filled hid) (by omega) hc (heap_alloc_new _ _) (by simpa using hcap)
  rw [Nat.zero_mul, Nat.zero_add] at hv
  exact ⟨E.trans (Ext.grown hR' hg'), HRel.grown hR' hg', hv.mono (Ext.grown hR' hg')⟩

/-- Any other object that is new. -/
theorem born_obj (hR : HRel B Z H L w) {id : Nat} (hid : id < L.length) (hn : locOf L id = none) {ao : AObj} (ho : H[id]? = some ao) {o : Obj}
    (hr : Ext B Z H L w H (L.set id (some (w.heap.size, 0))) (w.alloc o) → ORel Z H (L.set id (some (w.heap.size, 0))) (w.alloc o) ao w.heap.size 0) {v : AVal} {u : Value}
    (hv : locOf (L.set id (some (w.heap.size, 0))) id = some (w.heap.size, 0) → VRel Z H (L.set id (some (w.heap.size, 0))) (w.alloc o) v u) : Born B Z H L w id v u (w.alloc o) :=
  ⟨Ext.fill hR hid hn o, HRel.fill hR hid hn ho (hr (Ext.fill hR hid hn o)), hv (locOf_filled hid)⟩

theorem born_var (hR : HRel B Z H L w) {id : Nat} (hid : id < L.length) (hn : locOf L id = none) {t : TypeId} {x : AVal} {v : Value} (ho : H[id]? = some (.cells t false x.cells)) (hx : VRel Z H L w x v) (hl : laid x = true) :
    Born B Z H L w id (.ptr id 0) (.pointer (some ⟨w.heap.size, 0, none⟩)) (w.alloc (.cells v.cells t)) := by
  have hc := hx.crel hl
  exact born_obj hR hid hn ho (fun E => ⟨rfl, v.cells, heap_alloc_new _ _, hc.len.symm, hc.one, fun j y u hy hu => (hc.rel j y u hy hu).mono E⟩) fun hl => .ptr _ _ _ _ _ _ ho hl

theorem bytes_row (s : ByteArray) (cap : Nat) : RRel Z H L w 1 (s.data.toList.map byteVal) (bytesRow s cap) := by
  have hsz : (bytesRow s cap).size = s.data.size + (cap - s.size) := by simp [bytesRow]
  refine ⟨by rw [hsz]; simp, fun i x hi => ?_, fun j u hu => ?_, fun i x hi j y u hy hu => ?_⟩
  · simp only [List.getElem?_map, Option.map_eq_some_iff] at hi
    obtain ⟨b, _, rfl⟩ := hi
    exact ⟨rfl, rfl⟩
  · simp only [bytesRow] at hu
    rw [Array.getElem?_append] at hu
    split at hu
    · simp only [Array.getElem?_map, Option.map_eq_some_iff] at hu
      obtain ⟨b, _, rfl⟩ := hu
      rfl
    · rw [Array.getElem?_replicate] at hu
      split at hu
      · cases hu; rfl
      · cases hu
  · simp only [List.getElem?_map, Option.map_eq_some_iff] at hi
    obtain ⟨b, hb, rfl⟩ := hi
    match j, hy with
    | 0, hy =>
      simp [AVal.cells, byteVal] at hy
      subst hy
      have hi : i < s.data.size := by have := (List.getElem?_eq_some_iff.1 hb).1; simpa using this
      rw [Nat.mul_one, Nat.add_zero, bytesRow_at s cap i hi] at hu
      cases hu
      rw [Array.getElem?_toList, Array.getElem?_eq_getElem hi] at hb
      cases hb
      exact vint _ _
    | j + 1, hy => simp [AVal.cells, byteVal] at hy

theorem below_drew (w : World) (n : Nat) (w0 : World) (h : Below n w0 w) : Below n w0 w.drew := ⟨h.os, h.tape, h.output, h.size, h.block⟩

set_option maxHeartbeats 1000000 in
theorem evB_sound (hC : TabOk C) (hR : HRel B Z H L w) {e : Env} {a : Act} (he : ERel Z H L w e a.tmps) {o : Oper} {H0 : Heap} {obj : AObj} {f : Nat → AVal} (h : evB C e H0 o = some (obj, f))
    {id : Nat} (hid : id < L.length) (hn : locOf L id = none) (hob : H[id]? = some obj) :
    ∃ u w', (execOp a.eval o).run C.P w = .ok (.value u) w' ∧ w'.heap.size = w.heap.size + 1 ∧ Born B Z H L w id (f id) u w' := by
  have ho := fun y => opd_rel (Z := Z) (H := H) (L := L) (w := w) hR he y
  unfold evB at h
  unfold execOp
  cases hop : o.op with
  | alloc t =>
    simp only [hop] at h ⊢
    simp only [Option.map_eq_some_iff, Prod.mk.injEq] at h
    obtain ⟨T, hT, rfl, rfl⟩ := h
    obtain ⟨T'⟩ := hC.ty t T hT
    refine ⟨_, _, vrun ?_, by simp, born_var hR hid hn hob (.data _ _ (absV_rel T'.abs)) T'.zlaid⟩
    simp [Instr.alloc, run_zeroValue T', newVar, newRow]
  | box t x =>
    simp only [hop] at h ⊢
    simp only [Option.map_eq_some_iff, Prod.mk.injEq] at h
    obtain ⟨v, hv, rfl, rfl⟩ := h
    obtain ⟨h1, h2⟩ := opc_as hR he hv
    refine ⟨_, _, vrun ?_, by simp, born_var hR hid hn hob h1 h2⟩
    simp [Instr.box, newVar, newRow]
  | buildSlice t len ps =>
    simp only [hop] at h ⊢
    obtain ⟨⟨el, E⟩, hE, h2⟩ := bindo h
    clear h
    dsimp only at h2
    obtain ⟨hu, ⟨E'⟩⟩ := elemOf_inv hC hE
    split at h2
    · cases h2
    rename_i hcond
    simp only [Bool.or_eq_true, decide_eq_true_eq, beq_iff_eq, not_or] at hcond
    obtain ⟨hc1, hc2⟩ := hcond
    obtain ⟨ys, hy, h3⟩ := bindo h2
    simp only [Option.map_eq_some_iff, Prod.mk.injEq] at h3
    obtain ⟨xs, hxs, rfl, rfl⟩ := h3
    have hz := zero_row (Z := Z) (H := H) (L := L) (w := w) E' hc2 len len (Nat.le_refl _)
    obtain ⟨r', hf, hrr, hrl, hrs⟩ := placeElems_sound (by omega) _ _ _ _ _ (opps_arr hR he hy) hz hxs
    have hlen : xs.length = len := by rw [hrl, List.length_replicate]
    subst hlen
    have hrs' : r'.size = xs.length * E.size := by rw [hrs, size_madeCells]
    refine ⟨_, _, vrun ?_, by simp, born_row (fz := (0, 0)) hR hid hn hob (by omega) hrr (fun h => absurd rfl h) (Nat.le_refl _) (by omega) (Below.refl _ _)⟩
    have hc1' : ¬ (xs.length * E.size > 2 ^ 24) := by simpa using hc1
    simp only [Instr.buildSlice, Sem.run_bind, run_underlying hu, Result.andThen_ok, run_sizeOf' E', hc1', if_false, Sem.run_pure]
    by_cases h0 : xs.length * E.size = 0
    · have hm : madeCells E'.z.cells (xs.length * E.size) = (Array.range (xs.length * E.size)).map ((#[] : Array Value)[· % (#[] : Array Value).size]!) := by
        simp [madeCells, h0, Array.range_zero']
      rw [hm] at hf
      simp only [h0, if_true, Sem.run_pure, Result.andThen_ok]
      rw [h0] at hf
      simp only [Array.range_zero', Array.map_empty] at hf ⊢
      simp only [hf]
      simp [newRow]
    · simp only [h0, if_false, Sem.run_bind, run_zeroValue E', Result.andThen_ok, Sem.run_pure]
      rw [show (Array.range (xs.length * E.size)).map (E'.z.cells[· % E'.z.cells.size]!) = madeCells E'.z.cells (xs.length * E.size) from rfl]
      simp only [hf]
      simp [newRow]
  | makeMap t r =>
    simp only [hop] at h ⊢
    have fin : ∀ (r' : Option Value), (Instr.makeMap t r').run C.P w = .ok (.map (some w.heap.size)) (w.alloc (.map #[] 0)) → obj = .map [] 0 → f = (fun id => AVal.map (some id)) →
        (r.map a.eval = r') →
        ∃ u w', (do pure (.value (← Instr.makeMap t (r.map a.eval))) : Sem Next).run C.P w = .ok (.value u) w' ∧ w'.heap.size = w.heap.size + 1 ∧ Born B Z H L w id (f id) u w' := by
      intro r' hrun h1 h2 h3
      subst h1; subst h2; subst h3
      exact ⟨_, _, vrun hrun, by simp, born_obj hR hid hn hob (fun E => ⟨rfl, #[], heap_alloc_new _ _, rfl, by simp⟩) fun hl => .map _ _ _ _ hob hl⟩
    cases r with
    | none =>
      cases h
      exact fin none (by simp [Instr.makeMap]) rfl rfl rfl
    | some x =>
      obtain ⟨⟨K, E⟩, hE, h2⟩ := bindo h
      clear h
      obtain ⟨kt, et, hu, _, _⟩ := mapElem_inv hC hE
      split at h2
      · rename_i k n hx
        cases h2
        have := (srel_of (hx ▸ ho x) (by simp)).int_inv
        exact fin (some (.int k n)) (by simp [Instr.makeMap, run_underlying hu, asInt, asIntOf]) rfl rfl (by simp [this])
      · cases h2
  | makeSlice t l c =>
    simp only [hop] at h ⊢
    obtain ⟨⟨el, E⟩, hE, h2⟩ := bindo h
    clear h
    dsimp only at h2
    obtain ⟨hu, ⟨E'⟩⟩ := elemOf_inv hC hE
    obtain ⟨n, hn', h3⟩ := bindo h2
    obtain ⟨m, hm', h4⟩ := bindo h3
    split at h4
    · rename_i hcond
      simp only [Bool.and_eq_true, decide_eq_true_eq, bne_iff_ne] at hcond
      obtain ⟨⟨⟨h5, h6⟩, h7⟩, h8⟩ := hcond
      cases h4
      obtain ⟨k1, n1, e1, h9, rfl⟩ := natOf_inv hn' (srel_of (ho l) (natOf_notbad hn'))
      obtain ⟨k2, n2, e2, h10, rfl⟩ := natOf_inv hm' (srel_of (ho c) (natOf_notbad hm'))
      have hz := zero_row (Z := Z) (H := H) (L := L) (w := w) E' h8 n1.toNat n2.toNat h5
      have hb : (E'.i.bytes : Int) * n2 ≤ 281474976710656 := by
        have h11 : ((n2.toNat * E.bytes : Nat) : Int) ≤ 1099511627776 := by unfold mostLen at h6; omega
        rw [Int.natCast_mul, E'.bytes, Int.toNat_of_nonneg h10, Int.mul_comm] at h11
        omega
      have hrun := run_make (P := C.P) w t el E'.i E'.z hu E'.info E'.zero k1 k2 n1 n2 h9 (by omega) hb (by unfold mostLen at h7; omega)
      rw [← E'.size] at hrun
      have hbr := born_row (fz := (0, 0)) (w' := w.alloc (.cells (madeCells E'.z.cells (n2.toNat * E.size)) el)) hR hid hn hob (by omega) hz (fun h => absurd rfl h) (cap := n2.toNat) (by simpa using h5) (by rw [size_madeCells]; exact Nat.le_refl _) (Below.refl _ _)
      rw [List.length_replicate] at hbr
      exact ⟨_, _, vrun (by rw [e1, e2]; exact hrun), by simp, hbr⟩
    · cases h4
  | convert s d x =>
    simp only [hop] at h ⊢
    obtain ⟨S, hS, h2⟩ := bindo h
    clear h
    obtain ⟨S'⟩ := hC.ty s S hS
    obtain ⟨D, hD, h3⟩ := bindo h2
    clear h2
    obtain ⟨D'⟩ := hC.ty d D hD
    split at h3
    · rename_i el str hks hkd hx
      obtain ⟨E, hE, h4⟩ := bindo h3
      clear h3
      obtain ⟨E'⟩ := hC.ty el E hE
      split at h4
      · rename_i hke
        split at h4
        · rename_i hcond
          cases h4
          simp only [Bool.and_eq_true, decide_eq_true_eq, beq_iff_eq] at hcond
          have k1 := S'.kd
          have k2 := D'.kd
          have k3 := E'.kd
          rw [hks] at k1
          rw [hkd] at k2
          rw [hke] at k3
          obtain ⟨bs, hv, rfl⟩ := (srel_of (hx ▸ ho x) (by simp)).str_inv
          have hrun := run_bytes_of_string (P := C.P) w s d el bs (by rw [S'.und, kd_string k1]) (by rw [D'.und, kd_slice k2]) (by rw [E'.und, kd_int k3])
          have hge := grownCap_ge w bs.size 0 el
          have hsz : (bytesRow bs (grownCap w bs.size 0 el)).size = bs.data.size + (grownCap w bs.size 0 el - bs.size) := by simp [bytesRow]
          have hds : bs.data.size = bs.size := rfl
          have hbr := born_row (fz := ((bytesRow bs (grownCap w bs.size 0 el)).size, (bytesRow bs (grownCap w bs.size 0 el)).size + 1)) (cap := grownCap w bs.size 0 el)
            (w' := w.drew.alloc (.cells (bytesRow bs (grownCap w bs.size 0 el)) el ((bytesRow bs (grownCap w bs.size 0 el)).size, (bytesRow bs (grownCap w bs.size 0 el)).size + 1))) hR hid hn hob (by omega)
            (bytes_row bs _) (fun _ => ⟨rfl, Nat.le_refl _⟩) (by simp; omega) (by rw [hsz]; omega) (below_drew _ _ _ (Below.refl _ _))
          have hl : (bs.data.toList.map byteVal).length = bs.size := by simp
          rw [hl] at hbr
          refine ⟨_, _, vrun (by rw [hv]; exact hrun), by simp, ?_⟩
          rw [show bs.data.toList.length = bs.size by simp]
          exact hbr
        · cases h4
      · cases h4
    · cases h3
  | range t x =>
    simp only [hop] at h ⊢
    obtain ⟨T, hT, h2⟩ := bindo h
    clear h
    obtain ⟨T'⟩ := hC.ty t T hT
    split at h2
    · rename_i str hk hx
      cases h2
      have k1 := T'.kd
      rw [hk] at k1
      obtain ⟨bs, hv, rfl⟩ := (srel_of (hx ▸ ho x) (by simp)).str_inv
      exact ⟨_, _, vrun (by rw [hv]; exact run_range_string w t bs (by rw [T'.und, kd_string k1])), by simp [World.iter], born_obj hR hid hn hob (fun E => ⟨rfl, bs, heap_alloc_new _ _, rfl⟩) fun hl => .iter _ _ _ _ hob hl⟩
    · cases h2
  | _ => simp only [hop] at h; cases h
end
end Go.Ev
/- Objects that are written: cells, elements. Each theorem bears its own conditions. -/
set_option linter.unusedVariables false
set_option linter.unusedSectionVars false
set_option linter.unusedSimpArgs false
namespace Go.Ev
open Go.RowKit
variable [Globs]
section
variable {Z : Nat → Nat → Prop} {H : Heap} {L : Locs} {w : World} {B : Nat} {C : Ctx}

/-- Values laid one behind the other, where no mark lies. -/
theorem run_storeCells_fz {P : Program} (g o : Nat) (t : TypeId) (fz : Nat × Nat) : ∀ (vs : List Value) (i : Nat) (cur : Array Value) (w : World), w.heap[g]? = some (.cells cur t fz) → o + i + vs.length ≤ cur.size →
    (∀ k, o + i ≤ k → k < o + i + vs.length → ¬ (fz.1 ≤ k ∧ k < fz.2)) → (∀ v ∈ vs, v.oneCell' = true) →
    (storeCells ⟨g, o, none⟩ vs i).run P w = .ok () (w.setRow g ((vs.zipIdx i).foldl (fun cs (p : Value × Nat) => cs.setIfInBounds (o + p.2) p.1) cur))
  | [], i, cur, w, hg, _, _, _ => by
    simp only [storeCells, List.zipIdx_nil, List.foldl_nil]
    rw [setRow_self w g cur t fz hg]
    rfl
  | v :: rest, i, cur, w, hg, hl, hf, h1 => by
    simp only [List.length_cons] at hl hf
    have hi : o + i < cur.size := by omega
    have hcell : w.cell? ⟨g, o + i, none⟩ = some cur[o + i] := by simp [World.cell?, hg, hi]
    have hfro : w.frozen? ⟨g, o + i, none⟩ = false := by
      have := hf (o + i) (by omega) (by omega)
      obtain ⟨lo, hi⟩ := fz
      simp only [World.frozen?, hg]
      simpa using this
    have hst : (store ((⟨g, o, none⟩ : Addr).add i) v).run P w = .ok () (w.setRow g (cur.setIfInBounds (o + i) v)) := by
      rw [addr_add, run_store P w _ v _ (h1 v (by simp)), hcell]
      simp [hfro, setCell_eq_setRow w g (o + i) cur t fz v hg]
    have ih := run_storeCells_fz (P := P) g o t fz rest (i + 1) (cur.setIfInBounds (o + i) v) (w.setRow g (cur.setIfInBounds (o + i) v)) (setRow_heap w g cur _ t fz hg) (by simp; omega)
      (fun k h2 h3 => hf k (by omega) (by omega)) (fun x hx => h1 x (by simp [hx]))
    simp only [storeCells, Sem.run_bind, hst, Result.andThen_ok, ih, setRow_setRow, List.zipIdx_cons, List.foldl_cons]

theorem run_storeCells_row {P : Program} {g o : Nat} {t : TypeId} {fz : Nat × Nat} {vs cur : Array Value} {w : World} (hg : w.heap[g]? = some (.cells cur t fz)) (hl : o + vs.size ≤ cur.size)
    (hf : ∀ k, o ≤ k → k < o + vs.size → ¬ (fz.1 ≤ k ∧ k < fz.2)) (h1 : ∀ (j : Nat) (v : Value), vs[j]? = some v → v.oneCell' = true) :
    (storeCells ⟨g, o, none⟩ vs.toList).run P w = .ok () (w.setRow g (spliceV cur o vs)) := by
  rw [spliceV_eq]
  exact run_storeCells_fz g o t fz vs.toList 0 cur w hg (by simpa using hl) (by simpa using hf) (fun v hv => by
    obtain ⟨j, hj⟩ := List.mem_iff_getElem?.1 hv
    exact h1 j v (by simpa using hj))

theorem set_loc {id : Nat} {x : Nat × Nat} (h : locOf L id = some x) : L.set id (some x) = L := by
  apply List.ext_getElem?
  intro i
  rw [List.getElem?_set]
  split
  · rename_i hi
    subst hi
    unfold locOf at h
    split
    · rename_i hlt
      rw [List.getElem?_eq_getElem hlt] at h ⊢
      simpa using h.symm
    · rename_i hlt
      rw [List.getElem?_eq_none (by omega)]
  · rfl

/-- A row that is written in place. -/
theorem row_turned (hR : HRel B Z H L w) {id b base : Nat} {o o' : AObj} (hl : locOf L id = some (b, base)) (ho : H[id]? = some o) (hon : objOn o o') {cur cs2 : Array Value} {t : TypeId} {fz : Nat × Nat} (hb : w.heap[b]? = some (.cells cur t fz))
    (hs : cs2.size = cur.size) (hno : ∀ off, ¬ keptAt (some o) base off) (hr : Ext B Z H L w (H.set id o') L (w.setRow b cs2) → (w.setRow b cs2).heap[b]? = some (.cells cs2 t fz) → ORel Z (H.set id o') L (w.setRow b cs2) o' b base) :
    Ext B Z H L w (H.set id o') L (w.setRow b cs2) ∧ HRel B Z (H.set id o') L (w.setRow b cs2) := by
  have hnew := setRow_heap w b cur cs2 t fz hb
  have hsame : ∀ i, i ≠ b → i < w.heap.size → (w.setRow b cs2).heap[i]? = w.heap[i]? := fun i hi _ => setRow_other w b i cs2 hi
  have E : Ext B Z H L w (H.set id o') (L.set id (some (b, base))) (w.setRow b cs2) := by
    refine Ext.upd hR hl ho hon (fun _ => ⟨rfl, rfl⟩) hsame (fun cs e f h => ?_) (fun off v hk _ => absurd hk (hno off)) (.inl rfl) (by simp) rfl rfl rfl
    rw [hb] at h
    cases h
    exact ⟨cs2, _, _, hnew, hs⟩
  have hset := set_loc hl
  have hE := E
  rw [hset] at hE
  have hR' := HRel.upd hR hl ho E hsame (.inl rfl) (by rw [hset]; exact hr hE hnew)
  rw [hset] at hR'
  exact ⟨hE, hR'⟩

theorem run_storeVar {P : Program} {t : TypeId} {T : Ty} (hT : TyR P t T) {v : Value} (hv : v.cells.size = T.size) (a : Addr) : (storeVar t a v).run P w = (storeCells a v.cells.toList).run P w := by
  unfold storeVar
  simp only [Sem.run_bind, run_sizeOf' hT, Result.andThen_ok, hv]
  simp

theorem cells_parts (hR : HRel B Z H L w) {id b : Nat} {t : TypeId} {ro : Bool} {cs : List AVal} (ho : H[id]? = some (.cells t ro cs)) (hl : locOf L id = some (b, 0)) :
    ∃ cs', w.heap[b]? = some (.cells cs' t (0, 0)) ∧ CRel Z H L w cs cs' := by
  obtain ⟨o, h1, h2⟩ := hR.obj id b 0 hl
  rw [ho] at h1
  cases h1
  obtain ⟨_, cs', hb, hs, h3, h4⟩ := h2
  exact ⟨cs', hb, ⟨hs.symm, h3, h4⟩⟩

theorem CRel.mono {H' : Heap} {L' : Locs} {w' : World} (E : Ext B Z H L w H' L' w') {cs : List AVal} {cs' : Array Value} (h : CRel Z H L w cs cs') : CRel Z H' L' w' cs cs' :=
  ⟨h.len, h.one, fun j y u hy hu => (h.rel j y u hy hu).mono E⟩

/-- Elements that lie in a row from a place on. -/
structure ARel (Z : Nat → Nat → Prop) (H : Heap) (L : Locs) (w : World) (sz base : Nat) (xs : List AVal) (cs : Array Value) : Prop where
  len : base + xs.length * sz ≤ cs.size
  el : ∀ (i : Nat) (x : AVal), xs[i]? = some x → x.cells.length = sz ∧ laid x = true
  one : ∀ (j : Nat) (u : Value), cs[j]? = some u → u.oneCell' = true
  rel : ∀ (i : Nat) (x : AVal), xs[i]? = some x → ∀ (j : Nat) (y : AVal) (u : Value), x.cells[j]? = some y → cs[base + (i * sz + j)]? = some u → VRel Z H L w y u

theorem ARel.mono {H' : Heap} {L' : Locs} {w' : World} (E : Ext B Z H L w H' L' w') {sz base : Nat} {xs : List AVal} {cs : Array Value} (h : ARel Z H L w sz base xs cs) : ARel Z H' L' w' sz base xs cs :=
  ⟨h.len, h.el, h.one, fun i x hi j y u hy hu => (h.rel i x hi j y u hy hu).mono E⟩

theorem arr_parts (hR : HRel B Z H L w) {id b base : Nat} {e : TypeId} {g : Nat} {ro : Bool} {sz : Nat} {xs : List AVal} (ho : H[id]? = some (.arr e g ro sz xs)) (hl : locOf L id = some (b, base)) :
    0 < sz ∧ ∃ cs' fz, w.heap[b]? = some (.cells cs' e fz) ∧ ARel Z H L w sz base xs cs' ∧ (fz.1 ≠ fz.2 → (ro = true ∧ fz.2 ≤ base + xs.length * sz) ∨ (g % 2 = 1 ∧ cs'.size ≤ fz.1)) := by
  obtain ⟨o, h1, h2⟩ := hR.obj id b base hl
  rw [ho] at h1
  cases h1
  obtain ⟨h0, cs', fz, hb, hs, h3, h4, h5, h6⟩ := h2
  exact ⟨h0, cs', fz, hb, ⟨hs, h3, h4, h5⟩, h6⟩
theorem ARel.obj {sz base b : Nat} {xs : List AVal} {cs : Array Value} {e : TypeId} {fz : Nat × Nat} {g : Nat} {ro : Bool} (h : ARel Z H L w sz base xs cs) (hz : 0 < sz) (hb : w.heap[b]? = some (.cells cs e fz))
    (hf : fz.1 ≠ fz.2 → (ro = true ∧ fz.2 ≤ base + xs.length * sz) ∨ (g % 2 = 1 ∧ cs.size ≤ fz.1)) : ORel Z H L w (.arr e g ro sz xs) b base :=
  ⟨hz, cs, fz, hb, h.len, h.el, h.one, h.rel, hf⟩

theorem one_of_cell {y : AVal} {u : Value} (h : VRel Z H L w y u) (h1 : u.oneCell' = true) : oneA y = true := by
  cases h with
  | data _ _ h => cases h <;> first | rfl | (simp [Value.oneCell'] at h1)
  | agg => simp [Value.oneCell'] at h1
  | tup => simp [Value.oneCell'] at h1
  | _ => rfl
theorem laid_one {y : AVal} (h : oneA y = true) : laid y = true := by cases y <;> first | rfl | simp [oneA] at h

theorem setElem_inv {x y : AVal} {off : Nat} {vs : List AVal} {vs' : Array Value} (hv : CRel Z H L w vs vs') (h : setElem x off vs = some y) :
    off + vs.length ≤ x.cells.length ∧ y.cells = splice x.cells off vs ∧ laid y = true := by
  unfold setElem at h
  split at h
  · rename_i cs
    split at h
    · rename_i hl
      cases h
      exact ⟨hl, rfl, rfl⟩
    · cases h
  · rename_i hna
    split at h
    · rename_i v
      cases h
      have hsz : vs'.size = 1 := by have := hv.len; simpa using this.symm
      have hx : x.cells = [x] := by cases x <;> first | rfl | exact absurd rfl (hna _)
      have h0 : vs'[0]? = some vs'[0] := Array.getElem?_eq_getElem (by omega)
      have h1 := one_of_cell (hv.rel 0 _ _ rfl h0) (hv.one 0 _ h0)
      refine ⟨by simp [hx], ?_, laid_one h1⟩
      rw [cells_one h1, hx]
      rfl
    · cases h

theorem ARel.put {sz base : Nat} {xs : List AVal} {cs : Array Value} (h : ARel Z H L w sz base xs cs) {i off : Nat} {x y : AVal} {vs : List AVal} {vs' : Array Value} (hi : xs[i]? = some x) (hv : CRel Z H L w vs vs') (hy : setElem x off vs = some y) :
    ARel Z H L w sz base (xs.set i y) (spliceV cs (base + (i * sz + off)) vs') ∧ base + (i * sz + off) + vs'.size ≤ base + xs.length * sz := by
  obtain ⟨h1, h2, h3⟩ := setElem_inv hv hy
  have hx := h.el i x hi
  have hil : i < xs.length := (List.getElem?_eq_some_iff.1 hi).1
  have hvl := hv.len
  have hle : base + (i * sz + off) + vs'.size ≤ base + xs.length * sz := by
    have h4 : (i + 1) * sz ≤ xs.length * sz := Nat.mul_le_mul_right sz (by omega)
    have h5 : (i + 1) * sz = i * sz + sz := Nat.succ_mul i sz
    omega
  have hle' : base + (i * sz + off) + vs'.size ≤ cs.size := Nat.le_trans hle h.len
  refine ⟨⟨by rw [List.length_set, spliceV_size]; exact h.len, fun k z hk => ?_, fun j u hu => ?_, fun k z hk j p u hp hu => ?_⟩, hle⟩
  · rw [List.getElem?_set] at hk
    split at hk
    · cases hk
      exact ⟨by rw [h2, splice_length h1, hx.1], h3⟩
    · exact h.el k z hk
  · rw [spliceV_get hle'] at hu
    split at hu
    · exact hv.one _ _ hu
    · exact h.one _ _ hu
  · rw [spliceV_get hle', ← hv.len] at hu
    rw [List.getElem?_set] at hk
    split at hk
    · rename_i hik
      subst hik
      cases hk
      rw [h2, splice_get h1] at hp
      by_cases hc : off ≤ j ∧ j < off + vs.length
      · rw [if_pos hc] at hp
        rw [if_pos (by omega), show base + (i * sz + j) - (base + (i * sz + off)) = j - off by omega] at hu
        exact hv.rel _ p u hp hu
      · rw [if_neg hc] at hp
        rw [if_neg (by omega)] at hu
        exact h.rel i x hi j p u hp hu
    · rename_i hne
      have hj : j < sz := by have := (List.getElem?_eq_some_iff.1 hp).1; have := (h.el k z hk).1; omega
      rw [if_neg] at hu
      · exact h.rel k z hk j p u hp hu
      · rintro ⟨h4, h5⟩
        have h6 : k * sz + j = i * sz + (k * sz + j - i * sz) := by omega
        have := (row_index hj (by omega) h6).1
        omega

/-- What a chain operation that writes leaves. -/
structure Wrote (B : Nat) (Z : Nat → Nat → Prop) (H : Heap) (L : Locs) (w : World) (H' : Heap) (L' : Locs) (w' : World) : Prop where
  ext : Ext B Z H L w H' L' w'
  rel : HRel B Z H' L' w'
  hole : ∀ i, i < L.length → locOf L i = none → locOf L' i = none

theorem storeA_sound (hC : TabOk C) (hR : HRel B Z H L w) {t : TypeId} {p x : AVal} {v u : Value} {H' : Heap} (hp : VRel Z H L w p v) (hx : VRel Z H L w x u) (hl : laid x = true) (h : storeA C H t p x = some H') :
    ∃ w', (Instr.storeAt t v u).run C.P w = .ok () w' ∧ Wrote B Z H L w H' L w' := by
  unfold storeA at h
  obtain ⟨T, hT, k⟩ := bindo h
  clear h
  obtain ⟨T'⟩ := hC.ty t T hT
  have hc := hx.crel hl
  split at k
  · cases k
  rename_i hsz
  simp only [ne_eq, Decidable.not_not] at hsz
  have hsv : u.cells.size = T.size := by rw [← hc.len]; exact hsz
  cases p with
  | ptr id off =>
    dsimp only at k
    split at k
    · rename_i e cs ho
      split at k
      · rename_i hle
        cases k
        obtain ⟨b, t2, ro2, cs2, rfl, ho2, hlo⟩ := hp.ptr_inv
        obtain ⟨cs', hb, hcr⟩ := cells_parts hR ho hlo
        have hle' : off + u.cells.size ≤ cs'.size := by rw [← hc.len, ← hcr.len]; exact hle
        have hsp := hcr.splice hc hle
        obtain ⟨E, hR'⟩ := row_turned hR (o' := .cells e false (splice cs off x.cells)) hlo ho ⟨rfl, (splice_length hle).symm, by simp⟩ hb (spliceV_size cs' off u.cells) (by simp [keptAt])
          (fun E hnew => ⟨rfl, _, hnew, by rw [spliceV_size, splice_length hle, hcr.len], hsp.one, fun j y z hy hz => (hsp.rel j y z hy hz).mono E⟩)
        refine ⟨_, ?_, E, hR', fun _ _ h => h⟩
        simp only [Instr.storeAt, Instr.sureAddr, Sem.run_bind, Sem.run_pure, Result.andThen_ok, run_storeVar T' hsv]
        exact run_storeCells_row hb hle' (by intro k _ _ ⟨_, h⟩; exact absurd h (by simp)) hc.one
      · cases k
    · cases k
  | aptr id gen i off =>
    dsimp only at k
    split at k
    · rename_i e g sz xs ho
      split at k
      · rename_i hg
        have hg' : g = gen := by simpa using hg
        subst hg'
        obtain ⟨z, hz, k2⟩ := bindo k
        clear k
        simp only [Option.map_eq_some_iff] at k2
        obtain ⟨y, hy, rfl⟩ := k2
        cases hp with
        | data _ _ hd => cases hd
        | aptrOld _ _ _ _ a hs e2 g2 ro2 sz2 xs2 ho2 hg2 => rw [ho] at ho2; cases ho2; omega
        | aptr _ _ _ _ b base e2 ro2 sz2 xs2 ho2 hlo =>
          rw [ho] at ho2
          cases ho2
          obtain ⟨h0, cs', fz, hb, har, hf⟩ := arr_parts hR ho hlo
          obtain ⟨hput, hle⟩ := har.put hz hc hy
          have hlen := har.len
          obtain ⟨E, hR'⟩ := row_turned hR (o' := .arr e g false sz (xs.set i y)) hlo ho ⟨rfl, rfl, Nat.le_refl _, fun _ => by simp⟩ hb (spliceV_size cs' _ u.cells) (by simp [keptAt])
            (fun E hnew => (hput.mono E).obj h0 hnew (fun h => by rcases hf h with h | h; exact absurd h.1 (by simp); exact .inr (by rw [spliceV_size]; exact h)))
          refine ⟨_, ?_, E, hR', fun _ _ h => h⟩
          simp only [Instr.storeAt, Instr.sureAddr, Sem.run_bind, Sem.run_pure, Result.andThen_ok, run_storeVar T' hsv]
          exact run_storeCells_row hb (by omega) (fun k h1 h2 ⟨h3, h4⟩ => by rcases hf (by omega) with h | h; exact absurd h.1 (by simp); omega) hc.one
      · cases k
    · cases k
  | _ => cases k
end
end Go.Ev
/- Copies and appends. Each theorem bears its own conditions. -/
set_option linter.unusedVariables false
set_option linter.unusedSectionVars false
set_option linter.unusedSimpArgs false
namespace Go.Ev
open Go.RowKit
variable [Globs]
section
variable {Z : Nat → Nat → Prop} {H : Heap} {L : Locs} {w : World} {B : Nat} {C : Ctx}

theorem sized_get {sz : Nat} {xs : List AVal} (h : sized sz xs = true) {i : Nat} {x : AVal} (hi : xs[i]? = some x) : x.cells.length = sz := by
  simp only [sized, List.all_eq_true, beq_iff_eq] at h
  exact h x (List.mem_of_getElem? hi)

theorem lie_laid {x : AVal} {b o : Nat} (hl : LieAt Z H L w x.cells b o) : laid x = true := by
  by_cases ha : ∃ cs, x = .agg cs
  · obtain ⟨cs, rfl⟩ := ha; rfl
  · have hx : x.cells = [x] := by cases x <;> first | rfl | exact absurd ⟨_, rfl⟩ ha
    obtain ⟨u, _, h1, h2⟩ := hl 0 x (by rw [hx]; rfl)
    exact laid_one (one_of_cell h2 h1)

theorem source_sound (hR : HRel B Z H L w) {P : Program} {x : AVal} {u : Value} {new : List AVal} {sz : Nat} (hx : VRel Z H L w x u) (h : source H x = some new) (hs : sized sz new = true) (hz : 0 < sz) :
    (∀ w2 : World, (Builtin.lenOf u).run P w2 = .ok new.length w2) ∧ ∀ n, n ≤ new.length → ∃ cs : Array Value, cs.size = n * sz ∧ RRel Z H L w sz (new.take n) cs ∧
      ∀ w2 : World, w2.heap = w.heap → (Builtin.firstCells sz n u).run P w2 = .ok cs w2 := by
  have slices : ∀ {v : AVal} {xs : List AVal}, VRel Z H L w v u → elems H v = some xs → sized sz xs = true →
      (∀ w2 : World, (Builtin.lenOf u).run P w2 = .ok xs.length w2) ∧ ∀ n, n ≤ xs.length → ∃ cs : Array Value, cs.size = n * sz ∧ RRel Z H L w sz (xs.take n) cs ∧
        ∀ w2 : World, w2.heap = w.heap → (Builtin.firstCells sz n u).run P w2 = .ok cs w2 := by
    intro v xs hv he hs
    rcases elems_sound hR hv he with ⟨rfl, rfl⟩ | ⟨b, o, cap, sz', rfl, hc, hz', hl⟩
    · refine ⟨fun w2 => by simp [Builtin.lenOf], fun n hn => ⟨#[], by simp at hn; subst hn; simp, ⟨by simp, by simp, by simp, by simp⟩, fun w2 _ => by simp [Builtin.firstCells]⟩⟩
    · refine ⟨fun w2 => by simp [Builtin.lenOf], fun n hn => ?_⟩
      have hex : ∀ k, k < n * sz → ∃ x, xs[k / sz]? = some x ∧ ∃ y, x.cells[k % sz]? = some y ∧ ∃ u, w.cell? ⟨b, o + k, none⟩ = some u ∧ u.oneCell' = true ∧ VRel Z H L w y u := fun k hk => by
        have hi : k / sz < xs.length := by
          have : k / sz < n := Nat.div_lt_of_lt_mul (by rw [Nat.mul_comm]; exact hk)
          omega
        have hj : k % sz < sz := Nat.mod_lt _ hz
        refine ⟨xs[k / sz], List.getElem?_eq_getElem hi, ?_⟩
        have hsz := sized_get hs (List.getElem?_eq_getElem hi)
        have hszz := hz' _ _ (List.getElem?_eq_getElem hi)
        refine ⟨(xs[k / sz]).cells[k % sz]'(by omega), List.getElem?_eq_getElem (by omega), ?_⟩
        obtain ⟨u, h1, h2, h3⟩ := hl _ _ (List.getElem?_eq_getElem hi) (k % sz) _ (List.getElem?_eq_getElem (by omega))
        have he : sz' = sz := by omega
        subst he
        have : k / sz' * sz' + k % sz' = k := by rw [Nat.mul_comm]; exact Nat.div_add_mod k sz'
        rw [Nat.add_assoc, this] at h1
        exact ⟨u, h1, h2, h3⟩
      let f : Nat → Value := fun k => (w.cell? ⟨b, o + k, none⟩).getD undef
      have hf : ∀ k u, w.cell? ⟨b, o + k, none⟩ = some u → f k = u := fun k u h => by simp [f, h]
      refine ⟨((List.range (n * sz)).map f).toArray, by simp, ⟨by simp [Nat.min_eq_left hn], fun i x hi => ?_, fun j u hu => ?_, fun i x hi j y u hy hu => ?_⟩, fun w2 hw => ?_⟩
      · rw [List.getElem?_take] at hi
        split at hi
        · exact ⟨sized_get hs hi, lie_laid (hl i x hi)⟩
        · cases hi
      · have hj : j < n * sz := by have := (Array.getElem?_eq_some_iff.1 hu).1; simpa using this
        obtain ⟨_, _, _, _, u', h1, h2, _⟩ := hex j hj
        simp [hj] at hu
        rw [← hu, hf j u' h1]
        exact h2
      · rw [List.getElem?_take] at hi
        split at hi
        · rename_i hin
          have hj : j < sz := by have := (List.getElem?_eq_some_iff.1 hy).1; have := sized_get hs hi; omega
          have hk : i * sz + j < n * sz := mul_lt_of hin hj
          obtain ⟨u', h1, h2, h3⟩ := hl i x hi j y hy
          have he : sz' = sz := by have := hz' _ _ hi; have := sized_get hs hi; omega
          subst he
          rw [Nat.add_assoc] at h1
          simp [hk] at hu
          rw [← hu, hf _ u' h1]
          exact h3
        · cases hi
      · simp only [Builtin.firstCells]
        refine run_loadCells w2 ⟨b, o, none⟩ (n * sz) f fun k hk => ?_
        obtain ⟨_, _, _, _, u', h1, _⟩ := hex k hk
        rw [addr_add, hf k u' h1]
        simpa [World.cell?, hw] using h1
  unfold source at h
  split at h
  · rename_i s
    cases h
    obtain ⟨s', rfl, rfl⟩ := hx.str_inv
    refine ⟨fun w2 => by simp [Builtin.lenOf], fun n hn => ?_⟩
    simp only [List.length_map, Array.length_toList] at hn
    refine ⟨(s'.extract 0 n).data.map fun b => .int .u8 b.toNat, ?_, ?_, fun w2 _ => by simp [Builtin.firstCells]⟩
    · by_cases h0 : s'.data.size = 0
      · have : n = 0 := by omega
        subst this
        simp
      · have h1 := sized_get hs (i := 0) (x := byteVal (s'.data[0]'(by omega))) (by rw [List.getElem?_map, Array.getElem?_toList, Array.getElem?_eq_getElem (by omega)]; rfl)
        have : sz = 1 := h1.symm
        subst this
        have hsz : s'.size = s'.data.size := rfl
        simp
        omega
    · refine ⟨?_, fun i x hi => ?_, fun j u hu => ?_, fun i x hi j y u hy hu => ?_⟩
      · by_cases h0 : n = 0
        · subst h0; simp
        · have h1 := sized_get hs (i := 0) (x := byteVal (s'.data[0]'(by omega))) (by rw [List.getElem?_map, Array.getElem?_toList, Array.getElem?_eq_getElem (by omega)]; rfl)
          have : sz = 1 := h1.symm
          subst this
          have hsz : s'.size = s'.data.size := rfl
          simp
      · rw [List.getElem?_take] at hi
        split at hi
        · refine ⟨sized_get hs hi, ?_⟩
          simp only [List.getElem?_map, Option.map_eq_some_iff] at hi
          obtain ⟨b, _, rfl⟩ := hi
          rfl
        · cases hi
      · simp only [Array.getElem?_map, Option.map_eq_some_iff] at hu
        obtain ⟨b, _, rfl⟩ := hu
        rfl
      · rw [List.getElem?_take] at hi
        split at hi
        · rename_i hin
          have h1 : sz = 1 := by
            have := sized_get hs hi
            simp only [List.getElem?_map, Option.map_eq_some_iff] at hi
            obtain ⟨b, _, rfl⟩ := hi
            exact this.symm
          subst h1
          simp only [List.getElem?_map, Option.map_eq_some_iff] at hi
          obtain ⟨b, hb, rfl⟩ := hi
          match j, hy with
          | 0, hy =>
            simp [AVal.cells, byteVal] at hy
            subst hy
            rw [Nat.mul_one, Nat.add_zero] at hu
            simp only [ByteArray.data_extract, Array.getElem?_map, Option.map_eq_some_iff] at hu
            obtain ⟨c, hc, rfl⟩ := hu
            rw [Array.getElem?_extract] at hc
            split at hc
            · rw [Nat.zero_add, ← Array.getElem?_toList, hb] at hc
              cases hc
              exact vint _ _
            · cases hc
          | j + 1, hy => simp [AVal.cells, byteVal] at hy
        · cases hi
  · exact slices hx h hs

/-- New elements laid in the midst of others. -/
theorem ARel.lay {sz base : Nat} {ys new zs : List AVal} {cs vs : Array Value} (hz : 0 < sz) (hlen : base + (ys.length + new.length + zs.length) * sz ≤ cs.size)
    (h1 : ∀ (i : Nat) (x : AVal), ys[i]? = some x → (x.cells.length = sz ∧ laid x = true) ∧ ∀ (j : Nat) (y : AVal) (u : Value), x.cells[j]? = some y → cs[base + (i * sz + j)]? = some u → VRel Z H L w y u)
    (h2 : ∀ (i : Nat) (x : AVal), zs[i]? = some x → (x.cells.length = sz ∧ laid x = true) ∧ ∀ (j : Nat) (y : AVal) (u : Value), x.cells[j]? = some y → cs[base + ((ys.length + new.length + i) * sz + j)]? = some u → VRel Z H L w y u)
    (hone : ∀ (j : Nat) (u : Value), cs[j]? = some u → u.oneCell' = true) (hn : RRel Z H L w sz new vs) (hv : vs.size = new.length * sz) :
    ARel Z H L w sz base (ys ++ new ++ zs) (spliceV cs (base + ys.length * sz) vs) := by
  have hsum : (ys.length + new.length + zs.length) * sz = ys.length * sz + new.length * sz + zs.length * sz := by rw [Nat.add_mul, Nat.add_mul]
  have hle : base + ys.length * sz + vs.size ≤ cs.size := by omega
  refine ⟨by rw [spliceV_size]; simp only [List.length_append]; omega, fun i x hi => ?_, fun j u hu => ?_, fun i x hi j y u hy hu => ?_⟩
  · rcases Nat.lt_or_ge i ys.length with ha | ha
    · rw [List.append_assoc, List.getElem?_append_left ha] at hi
      exact (h1 i x hi).1
    · rcases Nat.lt_or_ge i (ys.length + new.length) with hb | hb
      · rw [List.getElem?_append_left (by simp; omega), List.getElem?_append_right ha] at hi
        exact hn.el _ _ hi
      · rw [List.getElem?_append_right (by simp; omega)] at hi
        exact (h2 _ x hi).1
  · rw [spliceV_get hle] at hu
    split at hu
    · exact hn.one _ _ hu
    · exact hone _ _ hu
  · rw [spliceV_get hle] at hu
    rcases Nat.lt_or_ge i ys.length with ha | ha
    · rw [List.append_assoc, List.getElem?_append_left ha] at hi
      have hj : j < sz := by have := (List.getElem?_eq_some_iff.1 hy).1; have := (h1 i x hi).1.1; omega
      have := mul_lt_of ha hj
      rw [if_neg (by omega)] at hu
      exact (h1 i x hi).2 j y u hy hu
    · rcases Nat.lt_or_ge i (ys.length + new.length) with hb | hb
      · rw [List.getElem?_append_left (by simp; omega), List.getElem?_append_right ha] at hi
        have hj : j < sz := by have := (List.getElem?_eq_some_iff.1 hy).1; have := (hn.el _ x hi).1; omega
        have h3 : i * sz = ys.length * sz + (i - ys.length) * sz := by rw [← Nat.add_mul]; congr 1; omega
        have h4 := mul_lt_of (show i - ys.length < new.length by omega) hj
        rw [if_pos (by omega), show base + (i * sz + j) - (base + ys.length * sz) = (i - ys.length) * sz + j by omega] at hu
        exact hn.rel _ x hi j y u hy hu
      · rw [List.getElem?_append_right (by simp; omega)] at hi
        have h3 : i * sz = ys.length * sz + new.length * sz + (i - (ys.length + new.length)) * sz := by rw [← Nat.add_mul, ← Nat.add_mul]; congr 1; omega
        rw [if_neg (by omega)] at hu
        have := (h2 _ x hi).2 j y u hy
        simp only [List.length_append] at this
        rw [show ys.length + new.length + (i - (ys.length + new.length)) = i by omega] at this
        exact this hu

theorem hold_drop {sz base : Nat} {xs : List AVal} {cs : Array Value} (h : ARel Z H L w sz base xs cs) (off len : Nat) : ∀ (i : Nat) (x : AVal), ((xs.drop off).take len)[i]? = some x → (x.cells.length = sz ∧ laid x = true) ∧
    ∀ (j : Nat) (y : AVal) (u : Value), x.cells[j]? = some y → cs[base + off * sz + (i * sz + j)]? = some u → VRel Z H L w y u := by
  intro i x hi
  rw [List.getElem?_take] at hi
  split at hi
  · rw [List.getElem?_drop] at hi
    refine ⟨h.el _ x hi, fun j y u hy hu => h.rel _ x hi j y u hy ?_⟩
    rw [show base + ((off + i) * sz + j) = base + off * sz + (i * sz + j) by rw [Nat.add_mul]; omega]
    exact hu
  · cases hi

theorem copyA_sound (hC : TabOk C) (hR : HRel B Z H L w) {t ty : TypeId} {ts : Array TypeId} (ht : ts[0]? = some t) {d x r : AVal} {vd vx : Value} {H' : Heap} (hd : VRel Z H L w d vd) (hx : VRel Z H L w x vx) (h : copyA C H t d x = some (r, H')) :
    ∃ u w', (Builtin.copy_ ts ty #[vd, vx]).run C.P w = .ok u w' ∧ Wrote B Z H L w H' L w' ∧ VRel Z H' L w' r u := by
  unfold copyA at h
  obtain ⟨⟨el, E⟩, hE, h2⟩ := bindo h
  clear h
  obtain ⟨hu, ⟨E'⟩⟩ := elemOf_inv hC hE
  dsimp only at h2
  obtain ⟨new, hnew, h3⟩ := bindo h2
  clear h2
  split at h3
  · cases h3
  rename_i hcond
  simp only [Bool.or_eq_true, beq_iff_eq, Bool.not_eq_true', not_or, Bool.not_eq_false] at hcond
  obtain ⟨hz, hs⟩ := hcond
  have hz0 : 0 < E.size := by omega
  obtain ⟨hlen, hfirst⟩ := source_sound (P := C.P) hR hx hnew hs hz0
  split at h3
  · rename_i id gen off len
    split at h3
    · rename_i e g sz xs ho
      split at h3
      · rename_i hc
        simp only [Bool.and_eq_true, beq_iff_eq, decide_eq_true_eq] at hc
        obtain ⟨⟨rfl, rfl⟩, hle⟩ := hc
        cases h3
        cases hd with
        | data _ _ hd => cases hd
        | arrOld _ _ _ _ a c hs hc e2 g2 ro2 sz2 xs2 ho2 hg2 => rw [ho] at ho2; cases ho2; omega
        | arr _ _ _ _ b base cap e2 ro2 sz2 xs2 c2 e3 f3 ho2 hl hxl hcap hb2 hs2 =>
          rw [ho] at ho2
          cases ho2
          obtain ⟨h0, cs', fz, hb, har, hf⟩ := arr_parts hR ho hl
          obtain ⟨vs, hvs, hvr, hvrun⟩ := hfirst (Nat.min new.length len) (Nat.min_le_left _ _)
          have hm : (new.take (Nat.min new.length len)).length = Nat.min new.length len := by simp only [List.length_take]; exact Nat.min_eq_left (Nat.min_le_left _ _)
          have hml : Nat.min new.length len ≤ len := Nat.min_le_right _ _
          obtain ⟨m, hmd⟩ : ∃ m, m = Nat.min new.length len := ⟨_, rfl⟩
          rw [← hmd] at hvs hvr hvrun hm hml ⊢
          have hto : (xs.take off).length = off := by simp; omega
          have hzs : (xs.drop (off + m)).length = xs.length - (off + m) := by simp
          have hsum : (off + m + (xs.length - (off + m))) = xs.length := by omega
          have hal := har.len
          have hlay := ARel.lay (ys := xs.take off) (new := new.take m) (zs := xs.drop (off + m)) (cs := cs') (vs := vs) (base := base) h0
            (by rw [hto, hm, hzs, hsum]; exact hal)
            (fun i x hi => by
              rw [List.getElem?_take] at hi
              split at hi
              · exact ⟨har.el _ _ hi, fun j y u hy hu => har.rel _ _ hi j y u hy hu⟩
              · cases hi)
            (fun i x hi => by
              rw [List.getElem?_drop] at hi
              rw [hto, hm]
              exact ⟨har.el _ _ hi, fun j y u hy hu => har.rel _ _ hi j y u hy hu⟩)
            har.one hvr (by rw [hm]; exact hvs)
          rw [hto] at hlay
          have h5 : (off + m) * E.size ≤ xs.length * E.size := Nat.mul_le_mul_right _ (by omega)
          have h6 : (off + m) * E.size = off * E.size + m * E.size := Nat.add_mul _ _ _
          obtain ⟨E1, hR'⟩ := row_turned hR (o' := .arr e g false E.size (xs.take off ++ new.take m ++ xs.drop (off + m))) hl ho ⟨rfl, rfl, Nat.le_refl _, fun _ => by simp only [List.length_append, hto, hm, hzs]; omega⟩ hb (spliceV_size cs' _ vs) (by simp [keptAt])
            (fun E hnew => (hlay.mono E).obj h0 hnew (fun h => by rcases hf h with h | h; exact absurd h.1 (by simp); exact .inr (by rw [spliceV_size]; exact h)))
          refine ⟨.int .i64 m, _, ?_, ⟨E1, hR', fun _ _ h => h⟩, vint _ _⟩
          have hst := run_storeCells_row (P := C.P) hb (o := base + off * E.size) (vs := vs) (by omega) (fun k h1 h2 ⟨h3, h4⟩ => by rcases hf (by omega) with h | h; exact absurd h.1 (by simp); omega) hvr.one
          have hgr := hvrun w rfl
          simp [Builtin.copy_, ht, run_underlying hu, hlen, run_sizeOf' E', ← hmd, hgr, hst, goInt]
      · cases h3
    · cases h3
  · cases h3
    obtain ⟨vs, hvs, hvr, hvrun⟩ := hfirst 0 (Nat.zero_le _)
    have hgr := hvrun w rfl
    obtain rfl : vs = #[] := by simpa using hvs
    refine ⟨.int .i64 0, w, ?_, ⟨Ext.refl _ _ _ _ _, hR, fun _ _ h => h⟩, vint _ _⟩
    obtain ⟨a, n, c, rfl, rfl, _⟩ := slice_lst_inv hd
    cases a <;> simp [Builtin.copy_, ht, run_underlying hu, hlen, run_sizeOf' E', hgr, goInt, storeCells]
  · cases h3

theorem Wrote.trans {H' H2 : Heap} {L' L2 : Locs} {w' w2 : World} (h : Wrote B Z H L w H' L' w') (h' : Wrote B Z H' L' w' H2 L2 w2) (hl : L.length ≤ L'.length) : Wrote B Z H L w H2 L2 w2 :=
  ⟨h.ext.trans h'.ext, h'.rel, fun i hi hn => h'.hole i (by omega) (h.hole i hi hn)⟩
theorem Wrote.refl (hR : HRel B Z H L w) : Wrote B Z H L w H L w := ⟨Ext.refl _ _ _ _ _, hR, fun _ _ h => h⟩

/-- A row that is new, and an object for it. -/
theorem wrote_new (hR : HRel B Z H L w) {o : AObj} {v : AVal} {u : Value} {w' : World} (h : Born B Z (H ++ [o]) (L ++ [none]) w H.length v u w') :
    Wrote B Z H L w (H ++ [o]) ((L ++ [none]).set H.length (some (w.heap.size, 0))) w' := by
  refine ⟨(Ext.hole hR o).trans h.ext, h.rel, fun i hi hn => ?_⟩
  rw [locOf_set (by simp [hR.len]), if_neg (by rw [← hR.len]; omega), locOf_append, if_neg (by omega)]
  exact hn

theorem zeros_one {z : Array Value} {n : Nat} (h : ∀ (j : Nat) (u : Value), z[j]? = some u → u.oneCell' = true) (j : Nat) (u : Value) (hu : (Builtin.zeroCells z n)[j]? = some u) : u.oneCell' = true := by
  simp only [Builtin.zeroCells, Array.getElem?_map, Option.map_eq_some_iff] at hu
  obtain ⟨k, hk, rfl⟩ := hu
  rw [Array.getElem?_range] at hk
  split at hk
  · rename_i hlt
    cases hk
    have h0 : 0 < z.size := by
      rcases Nat.eq_zero_or_pos z.size with h | h
      · rw [h] at hlt; simp at hlt
      · exact h
    have hm := Nat.mod_lt j h0
    rw [getElem!_pos z (j % z.size) hm]
    exact h _ _ (Array.getElem?_eq_getElem hm)
  · cases hk

/-- Elements behind others, and zeros behind them. -/
theorem RRel.app {sz : Nat} {xs ys : List AVal} {a b z : Array Value} (h : RRel Z H L w sz xs a) (h' : RRel Z H L w sz ys b) (ha : a.size = xs.length * sz) (hb : b.size = ys.length * sz) (hz : ∀ (j : Nat) (u : Value), z[j]? = some u → u.oneCell' = true) :
    RRel Z H L w sz (xs ++ ys) (a ++ b ++ z) := by
  refine ⟨by simp only [List.length_append, Nat.add_mul, Array.size_append]; omega, fun i x hi => ?_, fun j u hu => ?_, fun i x hi j y u hy hu => ?_⟩
  · rcases Nat.lt_or_ge i xs.length with hlt | hge
    · rw [List.getElem?_append_left hlt] at hi; exact h.el _ _ hi
    · rw [List.getElem?_append_right hge] at hi; exact h'.el _ _ hi
  · rw [Array.getElem?_append] at hu
    split at hu
    · rw [Array.getElem?_append] at hu
      split at hu
      · exact h.one _ _ hu
      · exact h'.one _ _ hu
    · exact hz _ _ hu
  · rcases Nat.lt_or_ge i xs.length with hlt | hge
    · rw [List.getElem?_append_left hlt] at hi
      have hj : j < sz := by have := (List.getElem?_eq_some_iff.1 hy).1; have := (h.el i x hi).1; omega
      have := mul_lt_of hlt hj
      rw [Array.getElem?_append, if_pos (by simp only [Array.size_append]; omega), Array.getElem?_append, if_pos (by omega)] at hu
      exact h.rel _ _ hi j y u hy hu
    · rw [List.getElem?_append_right hge] at hi
      have hl := (List.getElem?_eq_some_iff.1 hi).1
      have hj : j < sz := by have := (List.getElem?_eq_some_iff.1 hy).1; have := (h'.el _ x hi).1; omega
      have h3 : i * sz = xs.length * sz + (i - xs.length) * sz := by rw [← Nat.add_mul]; congr 1; omega
      have := mul_lt_of hl hj
      rw [Array.getElem?_append, if_pos (by simp only [Array.size_append]; omega), Array.getElem?_append, if_neg (by omega), show i * sz + j - a.size = (i - xs.length) * sz + j by omega] at hu
      exact h'.rel _ _ hi j y u hy hu

theorem RRel.nil {sz : Nat} {a : Array Value} (h : ∀ (j : Nat) (u : Value), a[j]? = some u → u.oneCell' = true) : RRel Z H L w sz [] a := ⟨by simp, by simp, h, by simp⟩

theorem askRoom_run {P : Program} (n : Nat) (w : World) : (askRoom n).run P w = .ok () w := by simp [askRoom]

theorem run_grownCap {P : Program} (w : World) (need old : Nat) (e : TypeId) : (choose (.appendCap need old e)).run P w = .ok (grownCap w need old e) w.drew := by
  simp [Question.forced, grownCap]

set_option maxHeartbeats 1000000 in
theorem appendA_sound (hC : TabOk C) (hR : HRel B Z H L w) {t t2 ty : TypeId} {d2 : TypeDesc} (hd2 : C.P.underlying t2 = some d2) (hni : ∀ k, d2 ≠ .int k) {s x r : AVal} {vs vx : Value} {H' : Heap}
    (hs : s ≠ .bad → VRel Z H L w s vs) (hx : x ≠ .bad → VRel Z H L w x vx) (h : appendA C H t s x = some (r, H')) :
    ∃ u L' w', (Builtin.append_ #[t, t2] ty #[vs, vx]).run C.P w = .ok u w' ∧ Wrote B Z H L w H' L' w' ∧ VRel Z H' L' w' r u := by
  unfold appendA at h
  obtain ⟨⟨el, E⟩, hE, h2⟩ := bindo h
  clear h
  obtain ⟨hu, ⟨E'⟩⟩ := elemOf_inv hC hE
  dsimp only at h2
  obtain ⟨new, hnew, h3⟩ := bindo h2
  clear h2
  have hx := hx (by rintro rfl; simp [source, elems] at hnew)
  split at h3
  · cases h3
  rename_i hcond
  simp only [Bool.or_eq_true, beq_iff_eq, Bool.not_eq_true', not_or, Bool.not_eq_false] at hcond
  obtain ⟨hz, hsz⟩ := hcond
  have hz0 : 0 < E.size := by omega
  obtain ⟨hlen, hfirst⟩ := source_sound (P := C.P) hR hx hnew hsz hz0
  obtain ⟨nv, hnv, hnr, hnrun⟩ := hfirst new.length (Nat.le_refl _)
  rw [List.take_length] at hnr
  have hint : (match d2 with | .int _ => true | _ => false) = false := by cases d2 <;> first | rfl | exact absurd rfl (hni _)
  have hzc : ∀ (j : Nat) (u : Value), E'.z.cells[j]? = some u → u.oneCell' = true := (zero_crel (Z := Z) (H := H) (L := L) (w := w) E').one
  have hzl : E'.z.cells.size = E.size := by rw [← (zero_crel (Z := Z) (H := H) (L := L) (w := w) E').len]; exact E'.zlen
  split at h3
  · rename_i b xs
    have hs := hs (by simp)
    split at h3
    · rename_i hemp
      cases h3
      obtain rfl : new = [] := by simpa using hemp
      obtain rfl : nv = #[] := by simpa using hnv
      have hc : ∃ a n c, vs = .slice a n c ∧ n ≤ c := by
        rcases lst_take hs with ⟨_, _, rfl⟩ | ⟨_, a, cap, sz, _, rfl, hc, _⟩
        · exact ⟨none, 0, 0, rfl, Nat.le_refl _⟩
        · exact ⟨some a, _, cap, rfl, hc⟩
      obtain ⟨a, n, c, rfl, hnc⟩ := hc
      refine ⟨.slice a n c, L, w, ?_, Wrote.refl hR, hs⟩
      have hgr := hnrun w rfl
      simp only [List.length_nil] at hgr hlen
      cases a <;> simp [Builtin.append_, run_underlying hu, run_sizeOf' E', run_underlying hd2, hint, hlen, hnc, hgr, storeCells]
    · rename_i hne
      split at h3
      · rename_i hc
        simp only [Bool.and_eq_true, decide_eq_true_eq] at hc
        obtain ⟨⟨⟨hb, hxs⟩, h48⟩, h63⟩ := hc
        obtain rfl : xs = [] := by simpa using hxs
        subst hb
        cases h3
        cases slice_nil_inv hs
        have hn0 : 0 < new.length := by cases new <;> simp at hne ⊢
        have hge := grownCap_ge w new.length 0 el
        have hrow := RRel.app (RRel.nil (Z := Z) (H := H) (L := L) (w := w) (sz := E.size) (a := #[]) (by simp)) hnr (by simp) hnv (zeros_one (n := grownCap w new.length 0 el - new.length) hzc)
        rw [List.nil_append] at hrow
        have hR1 := HRel.hole hR (.arr el 0 false E.size new)
        have hrow1 := hrow.mono (Ext.hole hR (.arr el 0 false E.size new))
        have hsize : (#[] ++ nv ++ Builtin.zeroCells E'.z.cells (grownCap w new.length 0 el - new.length)).size = grownCap w new.length 0 el * E.size := by
          simp only [Array.size_append, size_zeroCells, hzl, hnv]
          rw [show (#[] : Array Value).size = 0 from rfl, Nat.zero_add, ← Nat.add_mul, Nat.add_sub_cancel' hge]
        have hbr := born_row (g := 0) (fz := (0, 0)) (cap := grownCap w new.length 0 el) (w' := w.drew.alloc (.cells (#[] ++ nv ++ Builtin.zeroCells E'.z.cells (grownCap w new.length 0 el - new.length)) el)) hR1 (id := H.length) (by simp [hR.len])
          (by rw [locOf_append, if_pos hR.len.symm]) (by simp) hz0 hrow1 (fun h => absurd rfl h) hge (by rw [hsize]; exact Nat.le_refl _) (below_drew _ _ _ (Below.refl _ _))
        refine ⟨_, _, _, ?_, wrote_new hR hbr, hbr.val⟩
        have hb48 : new.length * E'.i.bytes ≤ 1099511627776 := by rw [← E'.bytes]; unfold mostLen at h48; exact h48
        have hnc : Builtin.nextslicecap new.length 0 = new.length := nextslicecap_zero hn0
        have n1 : ¬ (new.length = 0) := by omega
        have n2 : ¬ (281474976710656 < new.length * E'.i.bytes) := by omega
        have n3 : ¬ (9223372036854775807 < (new.length : Int)) := by unfold mostLen at h63; omega
        have hgr := hnrun w.drew rfl
        have hf0 : (Builtin.firstCells E.size 0 (.slice none 0 0)).run C.P w.drew = .ok #[] w.drew := by simp [Builtin.firstCells]
        simp [Builtin.append_, run_underlying hu, run_sizeOf' E', run_underlying hd2, hint, hlen, n1, n2, n3, hnc, typeInfo, E'.info, run_grownCap, hgr, Question.forced, hf0, run_zeroValue E', newRow, ← grownCap.eq_1]
      · cases h3
  · rename_i id gen off len
    have hs := hs (by simp)
    split at h3
    · rename_i e g ro sz xs ho
      split at h3
      · rename_i hc
        simp only [Bool.and_eq_true, beq_iff_eq, decide_eq_true_eq, Bool.or_eq_true, Bool.not_eq_true'] at hc
        obtain ⟨⟨⟨⟨⟨⟨rfl, rfl⟩, rfl⟩, hle⟩, hro⟩, h48⟩, h63⟩ := hc
        cases h3
        cases hs with
        | data _ _ hd => cases hd
        | arrOld _ _ _ _ a c hs hc e2 g2 ro2 sz2 xs2 ho2 hg2 => rw [ho] at ho2; cases ho2; omega
        | arr _ _ _ _ b base cap e2 ro2 sz2 xs2 c2 e3 f3 ho2 hl hxl hcap hb2 hs2 =>
          rw [ho] at ho2
          cases ho2
          obtain ⟨h0, cs', fz, hb, har, hf⟩ := arr_parts hR ho hl
          have hcc : c2 = cs' ∧ f3 = fz ∧ e3 = e := by rw [hb] at hb2; cases hb2; exact ⟨rfl, rfl, rfl⟩
          obtain ⟨rfl, rfl, rfl⟩ := hcc
          have hlt : id < H.length := (List.getElem?_eq_some_iff.1 ho).1
          have hold := hold_drop har off len
          have hol : ((xs.drop off).take len).length = len := by simp; omega
          have hb48 : (len + new.length) * E'.i.bytes ≤ 1099511627776 := by rw [← E'.bytes]; unfold mostLen at h48; exact h48
          unfold mostLen at h63
          by_cases hroom : len + new.length ≤ cap
          · have h5 : (off + cap) * E.size = off * E.size + cap * E.size := Nat.add_mul _ _ _
            have h6 : (len + new.length) * E.size = len * E.size + new.length * E.size := Nat.add_mul _ _ _
            have h7 : (len + new.length) * E.size ≤ cap * E.size := Nat.mul_le_mul_right _ hroom
            have hlay := ARel.lay (ys := (xs.drop off).take len) (new := new) (zs := []) (cs := c2) (vs := nv) (base := base + off * E.size) h0 (by rw [hol, List.length_nil, Nat.add_zero]; omega) hold (by simp) har.one hnr hnv
            rw [List.append_nil, hol] at hlay
            have hfz : ∀ k, base + off * E.size + len * E.size ≤ k → k < c2.size → ¬ (f3.1 ≤ k ∧ k < f3.2) := fun k h1 h2 ⟨h3, h4⟩ => by
              rcases hf (by omega) with ⟨h8, h9⟩ | ⟨h8, h9⟩
              · rcases hro with hro | hro
                · rw [← hro, Nat.add_mul] at h9; omega
                · rw [hro] at h8; cases h8
              · omega
            have hnew := setRow_heap w b c2 (spliceV c2 (base + off * E.size + len * E.size) nv) e3 f3 hb
            have hsame : ∀ i, i ≠ b → i < w.heap.size → (w.setRow b (spliceV c2 (base + off * E.size + len * E.size) nv)).heap[i]? = w.heap[i]? := fun i hi _ => setRow_other w b i _ hi
            have hfit : base + off * E.size + len * E.size + nv.size ≤ c2.size := by omega
            have E1 : Ext B Z H L w (H.set id (.arr e3 (g + 2) ro E.size ((xs.drop off).take len ++ new))) (L.set id (some (b, base + off * E.size))) (w.setRow b (spliceV c2 (base + off * E.size + len * E.size) nv)) := by
              refine Ext.upd hR hl ho ⟨rfl, rfl, by omega, fun h => by omega⟩ (fun h => by simp [sameGen] at h) hsame (fun cs e f h => ?_) (fun k v hk hv => ?_) (.inl rfl) (by simp) rfl rfl rfl
              · rw [hb] at h
                cases h
                exact ⟨_, _, _, hnew, spliceV_size _ _ _⟩
              · cases ro with
                | false => simp [keptAt] at hk
                | true =>
                  simp only [keptAt] at hk
                  have hol2 : off + len = xs.length := hro.resolve_right (by simp)
                  have h8 : (off + len) * E.size = off * E.size + len * E.size := Nat.add_mul _ _ _
                  rw [hol2] at h8
                  rw [cell?_of hb] at hv
                  refine ⟨?_, fun _ => ?_⟩
                  · rw [cell?_of hnew, spliceV_get hfit, if_neg (by omega)]
                    exact hv
                  · show k < base + off * E.size + ((xs.drop off).take len ++ new).length * E.size
                    rw [List.length_append, hol]
                    omega
            have hR2 := HRel.upd hR hl ho E1 hsame (.inl rfl) ((hlay.mono E1).obj h0 hnew (fun h => by
              rcases hf h with ⟨h8, h9⟩ | ⟨h8, h9⟩
              · refine .inl ⟨h8, ?_⟩
                rcases hro with hro | hro
                · rw [← hro, Nat.add_mul] at h9
                  rw [List.length_append, hol]
                  omega
                · rw [hro] at h8; cases h8
              · exact .inr ⟨by omega, by rw [spliceV_size]; exact h9⟩))
            refine ⟨.slice (some ⟨b, base + off * E.size, none⟩) (len + new.length) cap, _, _, ?_, ⟨E1, hR2, fun i hi hn => ?_⟩, ?_⟩
            · have hst := run_storeCells_row (P := C.P) hb hfit (fun k h1 h2 => hfz k h1 (by omega)) hnr.one
              have hgr := hnrun w rfl
              simp [Builtin.append_, run_underlying hu, run_sizeOf' E', run_underlying hd2, hint, hlen, hroom, hgr, addr_add, hst]
            · rw [locOf_set (by rw [hR.len]; exact hlt), if_neg (by rintro rfl; rw [hl] at hn; cases hn)]
              exact hn
            · have hv := VRel.arr (Z := Z) (H := H.set id (.arr e3 (g + 2) ro E.size ((xs.drop off).take len ++ new))) (L := L.set id (some (b, base + off * E.size))) (w := w.setRow b (spliceV c2 (base + off * E.size + len * E.size) nv)) id (g + 2) 0 (len + new.length) b (base + off * E.size) cap e3 ro E.size ((xs.drop off).take len ++ new) _ e3 f3
                (by simp [hlt]) (by rw [locOf_set (by rw [hR.len]; exact hlt), if_pos rfl]) (Nat.zero_le _) hroom hnew (by rw [spliceV_size, Nat.zero_add]; omega)
              rw [Nat.zero_mul, Nat.add_zero] at hv
              exact hv
          · have hge := grownCap_ge w (len + new.length) cap e3
            obtain ⟨ov, hov, hor, horun⟩ := (source_sound (P := C.P) (x := .arr id g off len) (new := (xs.drop off).take len) hR (.arr id g off len b base cap e3 ro E.size xs c2 e3 f3 ho hl hxl hcap hb hs2) (by simp only [source, elems, ho]; simp [hle])
              (by simp only [sized, List.all_eq_true, beq_iff_eq]; intro x hx; obtain ⟨i, hi⟩ := List.mem_iff_getElem?.1 hx; exact (hold i x hi).1.1) hz0).2 len (by rw [hol]; exact Nat.le_refl _)
            rw [List.take_of_length_le (by rw [hol]; exact Nat.le_refl _)] at hor
            have hrow := RRel.app hor hnr (by rw [hov, hol]) hnv (zeros_one (n := grownCap w (len + new.length) cap e3 - (len + new.length)) hzc)
            have hsize : (ov ++ nv ++ Builtin.zeroCells E'.z.cells (grownCap w (len + new.length) cap e3 - (len + new.length))).size = grownCap w (len + new.length) cap e3 * E.size := by
              simp only [Array.size_append, size_zeroCells, hzl, hnv, hov]
              rw [← Nat.add_mul, ← Nat.add_mul, Nat.add_sub_cancel' hge]
            have E1 : Ext B Z H L w (H.set id (.arr e3 (g + 2) ro E.size ((xs.drop off).take len ++ new))) (L.set id (some (w.heap.size, 0))) (w.drew.alloc (.cells (ov ++ nv ++ Builtin.zeroCells E'.z.cells (grownCap w (len + new.length) cap e3 - (len + new.length))) e3)) := by
              have hbl := hR.hi hl
              refine Ext.upd hR hl ho ⟨rfl, rfl, by omega, fun h => by omega⟩ (fun h => by simp [sameGen] at h) (fun i hi hi2 => heap_alloc_old w.drew _ i hi2) (fun cs e f h => ?_) (fun k v hk hv => ⟨?_, fun hbb => by omega⟩) (.inr (Nat.le_refl _)) (by simp) rfl rfl rfl
              · exact ⟨_, _, _, (heap_alloc_old w.drew _ b hbl).trans h, rfl⟩
              · exact (cell?_same (heap_alloc_old w.drew _ b hbl)).trans hv
            have hR2 := HRel.upd hR hl ho E1 (fun i hi hi2 => heap_alloc_old w.drew _ i hi2) (.inr (Nat.le_refl _)) (by
              have hm := hrow.mono E1
              refine ⟨h0, _, _, heap_alloc_new w.drew _, by simpa using hm.len, hm.el, hm.one, fun i x hi j y u hy hu => hm.rel i x hi j y u hy (by simpa using hu), fun h => absurd rfl h⟩)
            refine ⟨.slice (some ⟨w.heap.size, 0, none⟩) (len + new.length) (grownCap w (len + new.length) cap e3), _, _, ?_, ⟨E1, hR2, fun i hi hn => ?_⟩, ?_⟩
            · have hnc : Builtin.nextslicecap (len + new.length) cap ≤ 2 * (len + new.length) := nextslicecap_le (by omega)
              have n2 : ¬ (281474976710656 < Builtin.nextslicecap (len + new.length) cap * E'.i.bytes) := by
                have := Nat.mul_le_mul_right E'.i.bytes hnc
                rw [Nat.mul_assoc] at this
                omega
              have n3 : ¬ (9223372036854775807 < (len : Int) + (new.length : Int)) := by omega
              have hgr := hnrun w.drew rfl
              have hgo := horun w.drew rfl
              simp [Builtin.append_, run_underlying hu, run_sizeOf' E', run_underlying hd2, hint, hlen, hroom, n2, n3, typeInfo, E'.info, hgr, hgo, Question.forced, run_zeroValue E', newRow, ← grownCap.eq_1]
            · rw [locOf_set (by rw [hR.len]; exact hlt), if_neg (by rintro rfl; rw [hl] at hn; cases hn)]
              exact hn
            · have hv := VRel.arr (Z := Z) (H := H.set id (.arr e3 (g + 2) ro E.size ((xs.drop off).take len ++ new))) (L := L.set id (some (w.heap.size, 0))) (w := w.drew.alloc (.cells (ov ++ nv ++ Builtin.zeroCells E'.z.cells (grownCap w (len + new.length) cap e3 - (len + new.length))) e3)) id (g + 2) 0 (len + new.length) w.heap.size 0 (grownCap w (len + new.length) cap e3) e3 ro E.size ((xs.drop off).take len ++ new) _ e3 (0, 0)
                (by simp [hlt]) (by rw [locOf_set (by rw [hR.len]; exact hlt), if_pos rfl]) (Nat.zero_le _) hge (heap_alloc_new w.drew _) (by rw [hsize]; simp)
              rw [Nat.zero_mul, Nat.add_zero] at hv
              exact hv
      · cases h3
    · cases h3
  · cases h3
end
end Go.Ev
/- Maps, steps of a range, texts made of bytes. Each theorem bears its own conditions. -/
set_option linter.unusedVariables false
set_option linter.unusedSectionVars false
set_option linter.unusedSimpArgs false
namespace Go.Ev
open Go.RowKit
variable [Globs]
section
variable {Z : Nat → Nat → Prop} {H : Heap} {L : Locs} {w : World} {B : Nat} {C : Ctx}

/-- A block that is no row of cells is set. -/
def setBlock (w : World) (b : Nat) (o : Obj) : World := { w with heap := w.heap.setIfInBounds b o }
theorem setBlock_same (b : Nat) (o : Obj) (h : b < w.heap.size) : (setBlock w b o).heap[b]? = some o := by simp [setBlock, h]
theorem setBlock_other (b i : Nat) (o : Obj) (h : i ≠ b) : (setBlock w b o).heap[i]? = w.heap[i]? := by
  simp only [setBlock, Array.getElem?_setIfInBounds]
  rw [if_neg (fun h' => h h'.symm)]
theorem run_setMap {P : Program} {b : Nat} {es : Array MapEntry} {clock : Nat} (h : w.heap[b]? = some (.map es clock)) (o : Obj) : (setObj b o).run P w = .ok () (setBlock w b o) := by
  show (Sem.setObj b o (.pure ())).run P w = _
  simp only [Sem.run, h]
  rfl
theorem run_setIter {P : Program} {b : Nat} {s : ByteArray} {n : Nat} (h : w.heap[b]? = some (.stringIter s n)) (o : Obj) : (setObj b o).run P w = .ok () (setBlock w b o) := by
  show (Sem.setObj b o (.pure ())).run P w = _
  simp only [Sem.run, h]
  rfl

/-- An object that is no row is turned in place. -/
theorem block_turned (hR : HRel B Z H L w) {id b : Nat} {o o' : AObj} (hl : locOf L id = some (b, 0)) (ho : H[id]? = some o) (hon : objOn o o') {ob ob' : Obj} (hb : w.heap[b]? = some ob) (hno : ∀ cs e fz, ob ≠ .cells cs e fz)
    (hk : ∀ off, ¬ keptAt (some o) 0 off) (hr : Ext B Z H L w (H.set id o') L (setBlock w b ob') → (setBlock w b ob').heap[b]? = some ob' → ORel Z (H.set id o') L (setBlock w b ob') o' b 0) :
    Wrote B Z H L w (H.set id o') L (setBlock w b ob') := by
  have hlt : b < w.heap.size := (Array.getElem?_eq_some_iff.1 hb).1
  have hsame : ∀ i, i ≠ b → i < w.heap.size → (setBlock w b ob').heap[i]? = w.heap[i]? := fun i hi _ => setBlock_other b i ob' hi
  have E : Ext B Z H L w (H.set id o') (L.set id (some (b, 0))) (setBlock w b ob') := by
    refine Ext.upd hR hl ho hon (fun _ => ⟨rfl, rfl⟩) hsame (fun cs e f h => ?_) (fun off v hkk _ => absurd hkk (hk off)) (.inl rfl) (by simp [setBlock]) rfl rfl rfl
    rw [hb] at h
    cases h
    exact absurd rfl (hno _ _ _)
  have hset := set_loc hl
  have hE := E
  rw [hset] at hE
  have hR' := HRel.upd hR hl ho E hsame (.inl rfl) (by rw [hset]; exact hr hE (setBlock_same b ob' hlt))
  rw [hset] at hR'
  exact ⟨hE, hR', fun _ _ h => h⟩

/-- Entries, one by one. -/
def MRel (Z : Nat → Nat → Prop) (H : Heap) (L : Locs) (w : World) (es : List (AVal × AVal × Nat)) (es' : List MapEntry) : Prop :=
  es'.length = es.length ∧ ∀ (i : Nat) (k v : AVal) (n : Nat) (m : MapEntry), es[i]? = some (k, v, n) → es'[i]? = some m → plainKey k = true ∧ VRel Z H L w k m.key ∧ VRel Z H L w v m.val ∧ m.born = n

theorem MRel.mono {H' : Heap} {L' : Locs} {w' : World} (E : Ext B Z H L w H' L' w') {es : List (AVal × AVal × Nat)} {es' : List MapEntry} (h : MRel Z H L w es es') : MRel Z H' L' w' es es' :=
  ⟨h.1, fun i k v n m a b => let ⟨p, q, r, s⟩ := h.2 i k v n m a b; ⟨p, q.mono E, r.mono E, s⟩⟩

theorem map_parts (hR : HRel B Z H L w) {id b : Nat} {es : List (AVal × AVal × Nat)} {clock : Nat} (ho : H[id]? = some (.map es clock)) (hl : locOf L id = some (b, 0)) :
    ∃ es' : Array MapEntry, w.heap[b]? = some (.map es' clock) ∧ MRel Z H L w es es'.toList := by
  obtain ⟨es', h1, h2, h3⟩ := map_block hR ho hl
  exact ⟨es', h1, by simpa using h2, fun i k v n m a b => h3 i k v n m a (by simpa using b)⟩
theorem MRel.obj {es : List (AVal × AVal × Nat)} {es' : Array MapEntry} {clock b : Nat} (h : MRel Z H L w es es'.toList) (hb : w.heap[b]? = some (.map es' clock)) : ORel Z H L w (.map es clock) b 0 :=
  ⟨rfl, es', hb, by simpa using h.1, fun i k v n m a c => h.2 i k v n m a (by simpa using c)⟩

theorem MRel.set {es : List (AVal × AVal × Nat)} {es' : List MapEntry} (h : MRel Z H L w es es') (i : Nat) {k v : AVal} {n : Nat} {m : MapEntry} (hp : plainKey k = true) (hk : VRel Z H L w k m.key) (hv : VRel Z H L w v m.val) (hn : m.born = n) :
    MRel Z H L w (es.set i (k, v, n)) (es'.set i m) := by
  refine ⟨by simp [h.1], fun j k2 v2 n2 m2 a b => ?_⟩
  rw [List.getElem?_set] at a b
  by_cases hij : i = j
  · rw [if_pos hij] at a b
    split at a
    · rw [if_pos (by rw [h.1]; assumption)] at b
      cases a; cases b
      exact ⟨hp, hk, hv, hn⟩
    · cases a
  · rw [if_neg hij] at a b
    exact h.2 j k2 v2 n2 m2 a b
theorem MRel.snoc {es : List (AVal × AVal × Nat)} {es' : List MapEntry} (h : MRel Z H L w es es') {k v : AVal} {n : Nat} {m : MapEntry} (hp : plainKey k = true) (hk : VRel Z H L w k m.key) (hv : VRel Z H L w v m.val) (hn : m.born = n) :
    MRel Z H L w (es ++ [(k, v, n)]) (es' ++ [m]) := by
  refine ⟨by simp [h.1], fun j k2 v2 n2 m2 a b => ?_⟩
  rcases Nat.lt_or_ge j es.length with hlt | hge
  · rw [List.getElem?_append_left hlt] at a
    rw [List.getElem?_append_left (by rw [h.1]; exact hlt)] at b
    exact h.2 j k2 v2 n2 m2 a b
  · rw [List.getElem?_append_right hge] at a
    rw [List.getElem?_append_right (by rw [h.1]; exact hge), h.1] at b
    cases hj : j - es.length with
    | zero =>
      rw [hj] at a b
      simp at a b
      obtain ⟨rfl, rfl, rfl⟩ := a
      subst b
      exact ⟨hp, hk, hv, hn⟩
    | succ q => rw [hj] at a; simp at a
theorem MRel.erase {es : List (AVal × AVal × Nat)} {es' : List MapEntry} (h : MRel Z H L w es es') (i : Nat) : MRel Z H L w (es.eraseIdx i) (es'.eraseIdx i) := by
  refine ⟨by simp only [List.length_eraseIdx, h.1], fun j k2 v2 n2 m2 a b => ?_⟩
  rw [List.getElem?_eraseIdx] at a b
  split at a
  · rename_i hji
    rw [if_pos hji] at b
    exact h.2 j k2 v2 n2 m2 a b
  · rename_i hji
    rw [if_neg hji] at b
    exact h.2 (j + 1) k2 v2 n2 m2 a b

theorem toList_modify {α : Type} (a : Array α) (i : Nat) (f : α → α) {x : α} (h : a[i]? = some x) : (a.modify i f).toList = a.toList.set i (f x) := by
  apply List.ext_getElem?
  intro j
  rw [Array.getElem?_toList, Array.getElem?_modify, List.getElem?_set]
  by_cases hij : i = j
  · subst hij
    have hlt := (Array.getElem?_eq_some_iff.1 h).1
    simp [h, hlt]
    rw [(Array.getElem?_eq_some_iff.1 h).2]
  · simp [hij]

theorem sameBits_plain {k : AVal} {v : Value} (hk : VRel Z H L w k v) (hp : plainKey k = true) (n : Nat) : Instr.sameBits n v v = true := by
  cases k <;> simp [plainKey] at hp
  · cases hk.int_inv; cases n <;> simp [Instr.sameBits]
  · obtain ⟨s, rfl, _⟩ := hk.str_inv; cases n <;> simp [Instr.sameBits, beq_toListBytes]

theorem keyStays {P : Program} {k : AVal} {v : Value} (hk : VRel Z H L w k v) (hp : plainKey k = true) : (Instr.keyThatStays v v).run P w = .ok v w := by
  unfold Instr.keyThatStays
  rw [if_pos (sameBits_plain hk hp 10000)]
  rfl

theorem mapSetA_sound (hC : TabOk C) (hR : HRel B Z H L w) {t : TypeId} {m k x : AVal} {vm vk vx : Value} {H' : Heap} (hm : m ≠ .bad → VRel Z H L w m vm) (hk : k ≠ .bad → VRel Z H L w k vk) (hx : VRel Z H L w x vx) (h : mapSetA C H t m k x = some H') :
    ∃ w', (Instr.mapUpdate t vm vk vx).run C.P w = .ok () w' ∧ Wrote B Z H L w H' L w' := by
  unfold mapSetA at h
  obtain ⟨⟨K, E⟩, hE, h2⟩ := bindo h
  clear h
  dsimp only at h2
  split at h2
  · cases h2
  rename_i hkd
  obtain ⟨kt, e, hu, ⟨K'⟩, ⟨E'⟩⟩ := mapElem_inv hC hE
  rw [K'.kd] at hkd
  have hkd' : keyKd (kdOf K'.d) k = true := by simpa using hkd
  have hk := hk (by rintro rfl; simp [keyKd] at hkd')
  split at h2
  · rename_i id
    have hm := hm (by simp)
    split at h2
    · rename_i es clock ho
      simp only [Option.map_eq_some_iff] at h2
      obtain ⟨r, hr, rfl⟩ := h2
      obtain ⟨b, es2, clock2, rfl, ho2, hl⟩ := hm.map_inv
      obtain ⟨es', hb, hes⟩ := map_parts hR ho hl
      have hfs := findKey_sound hk hkd' es es'.toList 0 r hes.1 hes.2 hr
      have hck := checkKey_kd (P := C.P) (w := w) K'.und hk hkd' false
      have hpl := keyKd_plain hkd'
      cases r with
      | none =>
        have hnew := fun E => (hes.snoc hpl (m := ⟨vk, vx, clock⟩) hk hx rfl).mono (B := B) (H' := H.set id (.map (es ++ [(k, x, clock)]) (clock + 1))) (L' := L) (w' := setBlock w b (.map (es'.push ⟨vk, vx, clock⟩) (clock + 1))) E
        refine ⟨_, ?_, block_turned hR (o' := .map (es ++ [(k, x, clock)]) (clock + 1)) (ob' := .map (es'.push ⟨vk, vx, clock⟩) (clock + 1)) hl ho trivial hb (by simp) (by simp [keptAt]) fun E hb2 => MRel.obj (by simpa using hnew E) hb2⟩
        simp only [Instr.mapUpdate, Sem.run_bind, run_underlying hu, Result.andThen_ok, run_getObj' hb, hck, run_findKey K'.und hfs]
        exact run_setMap hb _
      | some q =>
        obtain ⟨i, v, n⟩ := q
        obtain ⟨v', m', h4, _, h5, h6, h7, h8, h9, _⟩ := hfs
        rw [Nat.sub_zero] at h5
        have h5' : es'[i]? = some m' := by simpa using h5
        have hnew := fun E => (hes.set i hpl (m := { m' with key := vk, val := vx }) hk hx h7).mono (B := B) (H' := H.set id (.map (es.set i (k, x, n)) clock)) (L' := L) (w' := setBlock w b (.map (es'.modify i fun e => { e with key := vk, val := vx }) clock)) E
        refine ⟨_, ?_, block_turned hR (o' := .map (es.set i (k, x, n)) clock) (ob' := .map (es'.modify i fun e => { e with key := vk, val := vx }) clock) hl ho trivial hb (by simp) (by simp [keptAt]) fun E hb2 => MRel.obj (by rw [toList_modify _ _ _ h5']; exact hnew E) hb2⟩
        have hst : (Instr.keyThatStays (((es'[i]?).map (·.key)).getD vk) vk).run C.P w = .ok vk w := by rw [h5']; simp only [Option.map_some, Option.getD_some, h9]; exact keyStays hk hpl
        simp only [Instr.mapUpdate, Sem.run_bind, run_underlying hu, Result.andThen_ok, run_getObj' hb, hck, run_findKey K'.und h4, hst]
        exact run_setMap hb _
    · cases h2
  · cases h2

theorem mapEntryA_sound (hC : TabOk C) (hR : HRel B Z H L w) {t : TypeId} {m k r : AVal} {vm vk : Value} {H' : Heap} (hm : m ≠ .bad → VRel Z H L w m vm) (hk : k ≠ .bad → VRel Z H L w k vk) (h : mapEntryA C H t m k = some (r, H')) :
    ∃ u w', (Instr.mapEntry t vm vk).run C.P w = .ok u w' ∧ Wrote B Z H L w H' L w' ∧ VRel Z H' L w' r u := by
  unfold mapEntryA at h
  obtain ⟨⟨K, E⟩, hE, h2⟩ := bindo h
  clear h
  dsimp only at h2
  split at h2
  · cases h2
  rename_i hkd
  obtain ⟨kt, e, hu, ⟨K'⟩, ⟨E'⟩⟩ := mapElem_inv hC hE
  rw [K'.kd] at hkd
  have hkd' : keyKd (kdOf K'.d) k = true := by simpa using hkd
  have hk := hk (by rintro rfl; simp [keyKd] at hkd')
  have two : ∀ {H : Heap} {w : World} (x : AVal) (u : Value) (n : Nat), VRel Z H L w x u → VRel Z H L w (.tup [x, .int .i64 n]) (.tuple #[u, goInt n]) := by
    intro H w x u n hx
    refine .tup _ _ rfl fun j y v hy hv => ?_
    match j with
    | 0 => simp at hy hv; exact hy ▸ hv ▸ hx
    | 1 => simp [goInt] at hy hv; exact hy ▸ hv ▸ vint _ _
    | j + 2 => simp at hy
  split at h2
  · rename_i id
    have hm := hm (by simp)
    split at h2
    · rename_i es clock ho
      simp only [Option.map_eq_some_iff] at h2
      obtain ⟨r', hr, hre⟩ := h2
      obtain ⟨b, es2, clock2, rfl, ho2, hl⟩ := hm.map_inv
      obtain ⟨es', hb, hes⟩ := map_parts hR ho hl
      have hfs := findKey_sound hk hkd' es es'.toList 0 r' hes.1 hes.2 hr
      have hck := checkKey_kd (P := C.P) (w := w) K'.und hk hkd' false
      have hpl := keyKd_plain hkd'
      have hz : VRel Z H L w E.zero E'.z := .data _ _ (absV_rel E'.abs)
      cases r' with
      | none =>
        cases hre
        have hnew := fun E2 => (hes.snoc hpl (m := ⟨vk, E'.z, clock⟩) hk hz rfl).mono (B := B) (H' := H.set id (.map (es ++ [(k, E.zero, clock)]) (clock + 1))) (L' := L) (w' := setBlock w b (.map (es'.push ⟨vk, E'.z, clock⟩) (clock + 1))) E2
        have hW := block_turned hR (o' := .map (es ++ [(k, E.zero, clock)]) (clock + 1)) (ob' := .map (es'.push ⟨vk, E'.z, clock⟩) (clock + 1)) hl ho trivial hb (by simp) (by simp [keptAt]) fun E2 hb2 => MRel.obj (by simpa using hnew E2) hb2
        refine ⟨_, _, ?_, hW, two _ _ _ (hz.mono hW.ext)⟩
        simp only [Instr.mapEntry, Sem.run_bind, run_underlying hu, Result.andThen_ok, run_getObj' hb, hck, run_findKey K'.und hfs, run_zeroValue E', run_setMap hb, Sem.run_pure]
      | some q =>
        obtain ⟨i, v, n⟩ := q
        obtain ⟨v', m', h4, _, h5, h6, h7, h8, h9, _⟩ := hfs
        cases hre
        rw [Nat.sub_zero] at h5
        have h5' : es'[i]? = some m' := by simpa using h5
        have hnew := fun E2 => (hes.set i hpl (m := { m' with key := vk }) hk (by rw [h6]; exact h8) h7).mono (B := B) (H' := H.set id (.map (es.set i (k, v, n)) clock)) (L' := L) (w' := setBlock w b (.map (es'.modify i fun e => { e with key := vk }) clock)) E2
        have hW := block_turned hR (o' := .map (es.set i (k, v, n)) clock) (ob' := .map (es'.modify i fun e => { e with key := vk }) clock) hl ho trivial hb (by simp) (by simp [keptAt]) fun E2 hb2 => MRel.obj (by rw [toList_modify _ _ _ h5']; exact hnew E2) hb2
        have hst : (Instr.keyThatStays m'.key vk).run C.P w = .ok vk w := by rw [h9]; exact keyStays hk hpl
        refine ⟨_, _, ?_, hW, two v v' n (h8.mono hW.ext)⟩
        simp only [Instr.mapEntry, Sem.run_bind, run_underlying hu, Result.andThen_ok, run_getObj' hb, hck, run_findKey K'.und h4, hst, run_setMap hb, Sem.run_pure, h5', Option.map_some, Option.getD_some, h7]
    · cases h2
  · cases h2

theorem deleteA_sound (hC : TabOk C) (hR : HRel B Z H L w) {t ty : TypeId} {ts : Array TypeId} (ht : ts[0]? = some t) {m k : AVal} {vm vk : Value} {H' : Heap} (hm : m ≠ .bad → VRel Z H L w m vm) (hk : k ≠ .bad → VRel Z H L w k vk) (h : deleteA C H t m k = some H') :
    ∃ w', (Builtin.delete_ ts ty #[vm, vk]).run C.P w = .ok (.tuple #[]) w' ∧ Wrote B Z H L w H' L w' := by
  unfold deleteA at h
  obtain ⟨⟨K, E⟩, hE, h2⟩ := bindo h
  clear h
  dsimp only at h2
  split at h2
  · cases h2
  rename_i hkd
  obtain ⟨kt, e, hu, ⟨K'⟩, ⟨E'⟩⟩ := mapElem_inv hC hE
  rw [K'.kd] at hkd
  have hkd' : keyKd (kdOf K'.d) k = true := by simpa using hkd
  have hk := hk (by rintro rfl; simp [keyKd] at hkd')
  have hck := fun b => checkKey_kd (P := C.P) (w := w) K'.und hk hkd' b
  have a0 : (#[vm, vk] : Array Value)[0]? = some vm := rfl
  have a1 : (#[vm, vk] : Array Value)[1]? = some vk := rfl
  split at h2
  · have hm := hm (by simp)
    cases h2
    cases hm.nilm_inv
    exact ⟨w, by simp only [Builtin.delete_, ht, a0, a1, Sem.run_bind, run_underlying hu, Result.andThen_ok, hck, Sem.run_pure], Wrote.refl hR⟩
  · rename_i id
    have hm := hm (by simp)
    split at h2
    · rename_i es clock ho
      simp only [Option.map_eq_some_iff] at h2
      obtain ⟨r, hr, hre⟩ := h2
      obtain ⟨b, es2, clock2, rfl, ho2, hl⟩ := hm.map_inv
      obtain ⟨es', hb, hes⟩ := map_parts hR ho hl
      have hfs := findKey_sound hk hkd' es es'.toList 0 r hes.1 hes.2 hr
      cases r with
      | none =>
        cases hre
        have hset : setBlock w b (.map es' clock) = w := by
          unfold setBlock
          have hlt := (Array.getElem?_eq_some_iff.1 hb).1
          have hv := (Array.getElem?_eq_some_iff.1 hb).2
          have : w.heap.setIfInBounds b (.map es' clock) = w.heap := by
            apply Array.ext_getElem?
            intro i
            rw [Array.getElem?_setIfInBounds]
            split
            · rename_i h; subst h; rw [hb]
            · rfl
          rw [this]
        refine ⟨w, ?_, Wrote.refl hR⟩
        simp only [Builtin.delete_, ht, a0, a1, Sem.run_bind, run_underlying hu, Result.andThen_ok, hck, run_getObj' hb, run_findKey K'.und hfs, run_setMap hb, hset, Sem.run_pure]
      | some q =>
        obtain ⟨i, v, n⟩ := q
        obtain ⟨v', m', h4, _, h5, h6, h7, h8, h9, _⟩ := hfs
        cases hre
        rw [Nat.sub_zero] at h5
        have hnew := fun E2 => (hes.erase i).mono (B := B) (H' := H.set id (.map (es.eraseIdx i) clock)) (L' := L) (w' := setBlock w b (.map (es'.eraseIdxIfInBounds i) clock)) E2
        have hW := block_turned hR (o' := .map (es.eraseIdx i) clock) (ob' := .map (es'.eraseIdxIfInBounds i) clock) hl ho trivial hb (by simp) (by simp [keptAt]) fun E2 hb2 => MRel.obj (by simpa using hnew E2) hb2
        refine ⟨_, ?_, hW⟩
        simp only [Builtin.delete_, ht, a0, a1, Sem.run_bind, run_underlying hu, Result.andThen_ok, hck, run_getObj' hb, run_findKey K'.und h4, run_setMap hb, Sem.run_pure]
    · cases h2
  · cases h2

theorem setBorn_sound {b : Int} {v : AVal} {vv : Value} (hv : VRel Z H L w v vv) : ∀ {es r : List (AVal × AVal × Nat)} {es' : List MapEntry}, MRel Z H L w es es' → setBorn b v es = some r →
    ∃ i m, es'.findIdx? (fun e => (e.born : Int) == b) = some i ∧ es'[i]? = some m ∧ MRel Z H L w r (es'.set i { m with val := vv })
  | [], r, es', h, hs => by simp [setBorn] at hs
  | (k, x, n) :: es, r, [], h, hs => by have := h.1; simp at this
  | (k, x, n) :: es, r, m :: es', h, hs => by
    obtain ⟨h1, h2, h3, h4⟩ := h.2 0 k x n m rfl rfl
    simp only [setBorn] at hs
    by_cases hb : ((n : Int) == b) = true
    · rw [if_pos hb] at hs
      cases hs
      refine ⟨0, m, by simp only [List.findIdx?_cons, h4, hb, if_true], rfl, ?_⟩
      exact h.set 0 h1 h2 hv h4
    · rw [if_neg hb] at hs
      simp only [Option.map_eq_some_iff] at hs
      obtain ⟨r', hr', rfl⟩ := hs
      have ht : MRel Z H L w es es' := ⟨by simpa using h.1, fun i k v n m a b => h.2 (i + 1) k v n m a b⟩
      obtain ⟨i, m', h5, h6, h7⟩ := setBorn_sound hv ht hr'
      refine ⟨i + 1, m', by simp only [List.findIdx?_cons, h4, hb, h5]; rfl, by simpa using h6, by simp [h7.1], fun j k2 v2 n2 m2 a c => ?_⟩
      cases j with
      | zero => simp at a c; obtain ⟨rfl, rfl, rfl⟩ := a; subst c; exact ⟨h1, h2, h3, h4⟩
      | succ j => simp at a c; exact h7.2 j k2 v2 n2 m2 a c

theorem entryStoreA_sound (hR : HRel B Z H L w) {P : Program} {t : TypeId} {m st x : AVal} {vm vs vx : Value} {H' : Heap} (hm : m ≠ .bad → VRel Z H L w m vm) (hs : st ≠ .bad → VRel Z H L w st vs) (hx : VRel Z H L w x vx) (h : entryStoreA H m st x = some H') :
    ∃ w', (Instr.entryStore t vm vs vx).run P w = .ok () w' ∧ Wrote B Z H L w H' L w' := by
  unfold entryStoreA at h
  split at h
  · rename_i id b
    split at h
    · rename_i es clock ho
      simp only [Option.map_eq_some_iff] at h
      obtain ⟨r, hr, rfl⟩ := h
      have hm := hm (by simp)
      have hs := hs (by simp)
      cases hs.int_inv
      obtain ⟨blk, es2, clock2, rfl, ho2, hl⟩ := hm.map_inv
      obtain ⟨es', hb, hes⟩ := map_parts hR ho hl
      obtain ⟨i, m', h5, h6, h7⟩ := setBorn_sound hx hes hr
      have h6' : es'[i]? = some m' := by simpa using h6
      have hW := block_turned hR (o' := .map r clock) (ob' := .map (es'.modify i fun e => { e with val := vx }) clock) hl ho trivial hb (by simp) (by simp [keptAt]) fun E2 hb2 => MRel.obj (by rw [toList_modify _ _ _ h6']; exact h7.mono E2) hb2
      refine ⟨_, ?_, hW⟩
      have h5' : es'.findIdx? (fun e => (e.born : Int) == b) = some i := by obtain ⟨l⟩ := es'; simpa using h5
      simp only [Instr.entryStore, Sem.run_bind, Result.andThen_ok, run_getObj' hb, asInt, asIntOf, Sem.run_pure, h5']
      exact run_setMap hb _
    · cases h
  · cases h

/-- A step of a range over a text. -/
theorem next_sound (hR : HRel B Z H L w) {P : Program} {ty : TypeId} {id pos : Nat} {s : List UInt8} {v : Value} (hv : VRel Z H L w (.iter id) v) (ho : H[id]? = some (.siter s pos)) :
    (pos < s.length → ∃ u w', (Instr.next v true ty).run P w = .ok u w' ∧ Wrote B Z H L w (H.set id (.siter s (pos + (Utf8.decode ⟨s.toArray⟩ pos).2))) L w' ∧
      VRel Z (H.set id (.siter s (pos + (Utf8.decode ⟨s.toArray⟩ pos).2))) L w' (.tup [.bool true, .int .i64 pos, .int .i32 (Utf8.decode ⟨s.toArray⟩ pos).1]) u) ∧
    (¬ pos < s.length → ∃ u, (Instr.next v true ty).run P w = .ok u w ∧ VRel Z H L w (.tup [.bool false]) u) := by
  obtain ⟨b, s2, pos2, rfl, ho2, hl⟩ := hv.iter_inv
  obtain ⟨o, h1, h2⟩ := hR.obj id b 0 hl
  rw [ho] at h1
  cases h1
  obtain ⟨_, s', hb, hs⟩ := h2
  have hsz := str_size hs
  have hse : (⟨s.toArray⟩ : ByteArray) = s' := by subst hs; simp
  rw [hse]
  constructor
  · intro hlt
    have hW := block_turned hR (o' := .siter s (pos + (Utf8.decode s' pos).2)) (ob' := .stringIter s' (pos + (Utf8.decode s' pos).2)) hl ho rfl hb (by simp) (by simp [keptAt]) fun E2 hb2 => ⟨rfl, s', hb2, hs⟩
    refine ⟨.tuple #[.bool true, .int .i64 pos, .int .i32 (Utf8.decode s' pos).1], _, ?_, hW, ?_⟩
    · have hlt' : pos < s'.size := by omega
      simp only [Instr.next, Sem.run_bind, run_getIter hb, Result.andThen_ok, hlt', if_true, run_setIter hb, Sem.run_pure, goInt]
    · refine .tup _ _ rfl fun j y u hy hu => ?_
      match j with
      | 0 => simp at hy hu; exact hy ▸ hu ▸ vbool _
      | 1 => simp at hy hu; exact hy ▸ hu ▸ vint _ _
      | 2 => simp at hy hu; exact hy ▸ hu ▸ vint _ _
      | j + 3 => simp at hy
  · intro hlt
    refine ⟨.tuple #[.bool false], ?_, .tup _ _ rfl fun j y u hy hu => ?_⟩
    · have hlt' : ¬ pos < s'.size := by omega
      simp only [Instr.next, Sem.run_bind, run_getIter hb, Result.andThen_ok, hlt', if_false, Sem.run_pure]
    · match j with
      | 0 => simp at hy hu; exact hy ▸ hu ▸ vbool _
      | j + 1 => simp at hy
end
end Go.Ev
/- Texts made of a slice's bytes, and all that writes together. Each theorem bears its own conditions. -/
set_option linter.unusedVariables false
set_option linter.unusedSectionVars false
set_option linter.unusedSimpArgs false
namespace Go.Ev
open Go.RowKit
variable [Globs]
section
variable {Z : Nat → Nat → Prop} {H : Heap} {L : Locs} {w : World} {B : Nat} {C : Ctx}

theorem liesAt_row {P : Program} {e : TypeId} (hc : P.cellsOf e = 1) (count off n : Nat) (hn : off + n ≤ count) : liesAt P P.depth e count off e n = true := by
  have hd : P.depth = (2 * (P.types.size + Made.depth) + 1) + 1 := rfl
  rw [hd]
  simp only [liesAt, Bool.or_eq_true]
  left
  rw [hd]
  simp [rowAt, hc, hn, sameLayout, Nat.mod_one]

theorem run_unsafeString {P : Program} {ats : Array TypeId} {ty pt e : TypeId} (ht : ats[0]? = some pt) (hp : P.underlying pt = some (.pointer e)) (hc : P.cellsOf e = 1) {g o cells : Nat} (hsh : w.shape? g = some (e, cells)) {k : IntKind} (l : List UInt8) (h0 : l ≠ [])
    (hn : o + l.length ≤ cells) (h63 : l.length ≤ 9223372036854775807) (hcell : ∀ j x, l[j]? = some x → w.cell? ⟨g, o + j, none⟩ = some (.int .u8 x.toNat)) :
    (Builtin.unsafeString_ ats ty #[.pointer (some ⟨g, o, none⟩), .int k l.length]).run P w = .ok (.string ⟨l.toArray⟩) (w.freeze ⟨g, o, none⟩ l.length) := by
  have hl : l.length ≠ 0 := by simpa using h0
  have hlb := Lib.run_loadBytes (P := P) w l ⟨g, o, none⟩ .empty (fun j x hj => by rw [addr_add]; exact hcell j x hj)
  have hlies := liesAt_row (P := P) hc (cells / P.cellsOf e) o l.length (by rw [hc]; simpa using hn)
  have h63' : ¬ (9223372036854775807 : Int) < (l.length : Int) := by omega
  obtain ⟨s1, s2, s3, s4, hdef⟩ : ∃ s1 s2 : String, ∃ s3 s4, Builtin.unsafeString_ ats ty #[.pointer (some ⟨g, o, none⟩), .int k l.length] =
      (do
        let n ← asInt (.int k l.length)
        let some pt := ats[0]? | stuck s1
        if n < 0 then runtimePanic (.error s2)
        if n > IntKind.i64.max then unsupported s3
        if n = 0 then pure (.string .empty)
        else if ← variablesAt ⟨g, o, none⟩ (← Go.elemOf pt) n.toNat then do
          let s ← loadBytes ⟨g, o, none⟩ .empty n.toNat
          Go.freeze ⟨g, o, none⟩ n.toNat
          pure (.string s)
        else unsupported s4) := ⟨_, _, _, _, rfl⟩
  rw [hdef]
  have hmax : IntKind.i64.max = 9223372036854775807 := rfl
  have hneg : ¬ (l.length : Int) < 0 := by omega
  simp [asInt, asIntOf, hmax, h63', hneg, hl, variablesAt, hsh, Go.elemOf, run_underlying hp, hlies, hlb, ht]
theorem run_unsafeString_zero {P : Program} {ats : Array TypeId} {ty pt : TypeId} (ht : ats[0]? = some pt) {k : IntKind} {p : Option Addr} :
    (Builtin.unsafeString_ ats ty #[.pointer p, .int k 0]).run P w = .ok (.string .empty) w := by
  have hmax : IntKind.i64.max = 9223372036854775807 := rfl
  cases p with
  | none =>
    obtain ⟨s1, s2, s3, s5, hdef⟩ : ∃ s1 s2 : String, ∃ s3, ∃ s5 : String, Builtin.unsafeString_ ats ty #[.pointer none, .int k 0] =
        (do
          let n ← asInt (.int k 0)
          let some pt := ats[0]? | stuck s1
          if n < 0 then runtimePanic (.error s2)
          if n > IntKind.i64.max then unsupported s3
          if n = 0 then pure (.string .empty)
          else runtimePanic (.error s5)) := ⟨_, _, _, _, rfl⟩
    rw [hdef]
    simp [asInt, asIntOf, hmax, ht]
  | some a =>
    obtain ⟨s1, s2, s3, s4, hdef⟩ : ∃ s1 s2 : String, ∃ s3 s4, Builtin.unsafeString_ ats ty #[.pointer (some a), .int k 0] =
        (do
          let n ← asInt (.int k 0)
          let some pt := ats[0]? | stuck s1
          if n < 0 then runtimePanic (.error s2)
          if n > IntKind.i64.max then unsupported s3
          if n = 0 then pure (.string .empty)
          else if ← variablesAt a (← Go.elemOf pt) n.toNat then do
            let s ← loadBytes a .empty n.toNat
            Go.freeze a n.toNat
            pure (.string s)
          else unsupported s4) := ⟨_, _, _, _, rfl⟩
    rw [hdef]
    simp [asInt, asIntOf, hmax, ht]

theorem freeze_heap {b o n : Nat} {cs : Array Value} {e : TypeId} {fz : Nat × Nat} (hb : w.heap[b]? = some (.cells cs e fz)) (hn : n ≠ 0) :
    (w.freeze ⟨b, o, none⟩ n).heap[b]? = some (.cells cs e (if fz.1 == fz.2 then (o, o + n) else (min fz.1 o, max fz.2 (o + n)))) := by
  have hlt := (Array.getElem?_eq_some_iff.1 hb).1
  unfold World.freeze
  rw [if_neg hn]
  simp only [Array.getElem?_modify, if_true, hb, Option.map_some]
theorem freeze_other {b o n i : Nat} (h : i ≠ b) : (w.freeze ⟨b, o, none⟩ n).heap[i]? = w.heap[i]? := by
  unfold World.freeze
  split
  · rfl
  · simp only [Array.getElem?_modify]
    rw [if_neg (fun h' => h h'.symm)]

theorem freeze_sound (hR : HRel B Z H L w) {id b base : Nat} {e : TypeId} {g : Nat} {ro : Bool} {sz : Nat} {xs : List AVal} (ho : H[id]? = some (.arr e g ro sz xs)) (hl : locOf L id = some (b, base)) (hg : g % 2 = 0) {o n : Nat} (hn : n ≠ 0) (h2 : o + n ≤ base + xs.length * sz) :
    Wrote B Z H L w (H.set id (.arr e g true sz xs)) L (w.freeze ⟨b, o, none⟩ n) := by
  obtain ⟨h0, cs', fz, hb, har, hf⟩ := arr_parts hR ho hl
  have hnew := freeze_heap (o := o) hb hn
  have hsame : ∀ i, i ≠ b → i < w.heap.size → (w.freeze ⟨b, o, none⟩ n).heap[i]? = w.heap[i]? := fun i hi _ => freeze_other hi
  have hlt := (Array.getElem?_eq_some_iff.1 hb).1
  have hset := set_loc hl
  have E : Ext B Z H L w (H.set id (.arr e g true sz xs)) (L.set id (some (b, base))) (w.freeze ⟨b, o, none⟩ n) := by
    refine Ext.upd hR hl ho ⟨rfl, rfl, Nat.le_refl _, fun _ => rfl⟩ (fun _ => ⟨rfl, rfl⟩) hsame (fun cs e f h => ?_) (fun off v hk hv => ⟨?_, fun _ => ?_⟩) (.inl rfl) ?_ ?_ ?_ ?_
    · rw [hb] at h; cases h; exact ⟨_, _, _, hnew, rfl⟩
    · rw [cell?_of hb] at hv; rw [cell?_of hnew]; exact hv
    · cases ro with
      | false => simp [keptAt] at hk
      | true => exact hk
    · unfold World.freeze; split <;> simp
    · unfold World.freeze; split <;> rfl
    · unfold World.freeze; split <;> rfl
    · unfold World.freeze; split <;> rfl
  have hE := E
  rw [hset] at hE
  have hR' := HRel.upd hR hl ho E hsame (.inl rfl) (by
    rw [hset]
    refine (har.mono hE).obj h0 hnew fun hne => .inl ⟨rfl, ?_⟩
    split
    · exact h2
    · rename_i hfz
      rcases hf (by simpa using hfz) with ⟨_, h3⟩ | ⟨h3, _⟩
      · exact Nat.max_le.2 ⟨h3, h2⟩
      · omega)
  rw [hset] at hR'
  exact ⟨hE, hR', fun _ _ h => h⟩

/-- What 'evX' says of an operation that is no call. -/
def XOk (C : Ctx) (B : Nat) (Z : Nat → Nat → Prop) (H : Heap) (L : Locs) (w : World) (a : Act) (o : Oper) : XR → Prop
  | .val v H' => ∃ L' w', Wrote B Z H L w H' L' w' ∧
      ((o.dst = none ∧ (execOp a.eval o).run C.P w = .ok .skip w') ∨ ∃ u, (execOp a.eval o).run C.P w = .ok (.value u) w' ∧ VRel Z H' L' w' v u)
  | .enter f args => ∃ vs : Array Value, (execOp a.eval o).run C.P w = (callFunc f vs).run C.P w ∧ args.length = vs.size ∧ ∀ (j : Nat) y u, args[j]? = some y → vs[j]? = some u → VRel Z H L w y u
  | .yield id args => ∃ (b : Nat) (vs : Array Value), locOf L id = some (b, 0) ∧ (execOp a.eval o).run C.P w = (Instr.yield b vs).run C.P w ∧ args.length = vs.size ∧ ∀ (j : Nat) y u, args[j]? = some y → vs[j]? = some u → VRel Z H L w y u
  | .recover => (execOp a.eval o).run C.P w = .ok .recover w
  | .defer f args => ∃ (first caps vs : Array Value), (execOp a.eval o).run C.P w = .ok (.defer { target := .fn (.func f) caps, args := first ++ vs }) w ∧ args.length = (first ++ vs ++ caps).size ∧
      ∀ (j : Nat) y u, args[j]? = some y → (first ++ vs ++ caps)[j]? = some u → VRel Z H L w y u
  | .panic v => ∃ u, (execOp a.eval o).run C.P w = .halt (.panic u) w ∧ VRel Z H L w v u ∧ ∃ t x, v = .iface t x

theorem run_method {P : Program} {t : TypeId} {n : String} {f : FuncId} (h : methOf P t n = some f) (fuel : Nat) (v : Value) : (method (fuel + 1) t v n).run P w = .ok (f, v) w := by
  unfold methOf at h
  obtain ⟨i, hi, h2⟩ := bindo h
  obtain ⟨m, hm, h3⟩ := bindo h2
  clear h h2
  split at h3
  · rename_i hp
    have hp' : m.path.toList = [] := by simpa using hp
    simp only [method, Sem.run_bind, run_typeInfo w hi, Result.andThen_ok, hm, hp', follow, Sem.run_pure]
    split at h3
    · cases h3
    · rename_i f' d hnp hf hu
      cases h3
      rw [hf]
      simp only [receiverAt, Sem.run_bind, run_underlying hu, Result.andThen_ok, Sem.run_pure]
      cases d <;> first | rfl | exact absurd rfl (hnp _)
    · rename_i f' e hf hu
      cases h3
      rw [hf]
      simp only [receiverAt, Sem.run_bind, run_underlying hu, Result.andThen_ok, Sem.run_pure]
      rfl
    · cases h3
  · cases h3

theorem skiprun {P : Program} {s : Sem Unit} {w w' : World} (h : s.run P w = .ok () w') : (do s; pure .skip : Sem Next).run P w = .ok .skip w' := by
  simp only [Sem.run_bind, h, Result.andThen_ok, Sem.run_pure]

theorem two_args (hR : HRel B Z H L w) {e : Env} {a : Act} (he : ERel Z H L w e a.tmps) {args : Array Operand} {x y : AVal} (h : args.toList.map (opd e) = [x, y]) : ∃ u v, args.map a.eval = #[u, v] ∧ SRel Z H L w x u ∧ SRel Z H L w y v := by
  obtain ⟨l⟩ := args
  match l, h with
  | [p, q], h =>
    simp at h
    obtain ⟨rfl, rfl⟩ := h
    exact ⟨a.eval p, a.eval q, by simp, opd_rel hR he p, opd_rel hR he q⟩
theorem one_arg (hR : HRel B Z H L w) {e : Env} {a : Act} (he : ERel Z H L w e a.tmps) {args : Array Operand} {x : AVal} (h : args.toList.map (opd e) = [x]) : ∃ u, args.map a.eval = #[u] ∧ SRel Z H L w x u := by
  obtain ⟨l⟩ := args
  match l, h with
  | [p], h =>
    simp at h
    subst h
    exact ⟨a.eval p, by simp, opd_rel hR he p⟩

theorem app_rel {as vs cs : List AVal} {as' vs' cs' : Array Value} (ha : as.length = as'.size) (hv : vs.length = vs'.size) (hc : cs.length = cs'.size) {R : AVal → Value → Prop}
    (ra : ∀ (j : Nat) y u, as[j]? = some y → as'[j]? = some u → R y u) (rv : ∀ (j : Nat) y u, vs[j]? = some y → vs'[j]? = some u → R y u) (rc : ∀ (j : Nat) y u, cs[j]? = some y → cs'[j]? = some u → R y u) :
    (as ++ vs ++ cs).length = (as' ++ vs' ++ cs').size ∧ ∀ (j : Nat) y u, (as ++ vs ++ cs)[j]? = some y → (as' ++ vs' ++ cs')[j]? = some u → R y u := by
  refine ⟨by simp [ha, hv, hc], fun j y u hy hu => ?_⟩
  rcases Nat.lt_or_ge j (as.length + vs.length) with h | h
  · rw [List.getElem?_append_left (by simp; omega)] at hy
    rw [Array.getElem?_append, if_pos (by simp; omega)] at hu
    rcases Nat.lt_or_ge j as.length with h2 | h2
    · rw [List.getElem?_append_left h2] at hy
      rw [Array.getElem?_append, if_pos (by omega)] at hu
      exact ra j y u hy hu
    · rw [List.getElem?_append_right h2] at hy
      rw [Array.getElem?_append, if_neg (by omega), ← ha] at hu
      exact rv _ y u hy hu
  · rw [List.getElem?_append_right (by simp; omega)] at hy
    rw [Array.getElem?_append, if_neg (by simp; omega)] at hu
    simp only [List.length_append, Array.size_append] at hy hu
    rw [← ha, ← hv] at hu
    exact rc _ y u hy hu

set_option maxHeartbeats 4000000 in
theorem evX_sound (hC : TabOk C) (hR : HRel B Z H L w) {e : Env} {a : Act} (he : ERel Z H L w e a.tmps) {o : Oper} {x : XR} (h : evX C e H o = some x) : XOk C B Z H L w a o x := by
  have ho := fun y => opd_rel (Z := Z) (H := H) (L := L) (w := w) hR he y
  unfold evX at h
  cases hop : o.op with
  | store t p y =>
    simp only [hop] at h
    split at h
    · cases h
    rename_i hd
    obtain ⟨v, hv, h2⟩ := bindo h
    simp only [Option.map_eq_some_iff] at h2
    obtain ⟨H', h3, rfl⟩ := h2
    obtain ⟨h4, h5⟩ := opc_as hR he hv
    have hnb : opd e p ≠ .bad := by
      intro hb
      rw [hb] at h3
      unfold storeA at h3
      obtain ⟨T, hT, k⟩ := bindo h3
      split at k <;> cases k
    obtain ⟨w', h6, h7⟩ := storeA_sound hC hR (srel_of (ho p) hnb) h4 h5 h3
    exact ⟨L, w', h7, .inl ⟨by simpa using hd, by unfold execOp; simp only [hop]; exact skiprun h6⟩⟩
  | mapUpdate t m k y =>
    simp only [hop] at h
    split at h
    · cases h
    rename_i hd
    obtain ⟨v, hv, h2⟩ := bindo h
    simp only [Option.map_eq_some_iff] at h2
    obtain ⟨H', h3, rfl⟩ := h2
    obtain ⟨h4, h5⟩ := opc_as hR he hv
    obtain ⟨w', h6, h7⟩ := mapSetA_sound hC hR (fun hb => srel_of (ho m) hb) (fun hb => srel_of (ho k) hb) h4 h3
    exact ⟨L, w', h7, .inl ⟨by simpa using hd, by unfold execOp; simp only [hop]; exact skiprun h6⟩⟩
  | insert t m k y =>
    simp only [hop] at h
    split at h
    · cases h
    rename_i hd
    obtain ⟨v, hv, h2⟩ := bindo h
    simp only [Option.map_eq_some_iff] at h2
    obtain ⟨H', h3, rfl⟩ := h2
    obtain ⟨h4, h5⟩ := opc_as hR he hv
    obtain ⟨w', h6, h7⟩ := mapSetA_sound hC hR (fun hb => srel_of (ho m) hb) (fun hb => srel_of (ho k) hb) h4 h3
    exact ⟨L, w', h7, .inl ⟨by simpa using hd, by unfold execOp; simp only [hop]; exact skiprun h6⟩⟩
  | mapEntry t m k =>
    simp only [hop] at h
    simp only [Option.map_eq_some_iff] at h
    obtain ⟨⟨r, H'⟩, h3, rfl⟩ := h
    obtain ⟨u, w', h6, h7, h8⟩ := mapEntryA_sound hC hR (fun hb => srel_of (ho m) hb) (fun hb => srel_of (ho k) hb) h3
    exact ⟨L, w', h7, .inr ⟨u, by unfold execOp; simp only [hop]; exact vrun h6, h8⟩⟩
  | entryStore t m s y =>
    simp only [hop] at h
    split at h
    · cases h
    rename_i hd
    obtain ⟨v, hv, h2⟩ := bindo h
    simp only [Option.map_eq_some_iff] at h2
    obtain ⟨H', h3, rfl⟩ := h2
    obtain ⟨h4, h5⟩ := opc_as hR he hv
    obtain ⟨w', h6, h7⟩ := entryStoreA_sound (P := C.P) (t := t) hR (fun hb => srel_of (ho m) hb) (fun hb => srel_of (ho s) hb) h4 h3
    exact ⟨L, w', h7, .inl ⟨by simpa using hd, by unfold execOp; simp only [hop]; exact skiprun h6⟩⟩
  | next it isS =>
    simp only [hop] at h
    cases isS with
    | false => cases h
    | true =>
      dsimp only at h
      split at h
      · rename_i id hit
        split at h
        · rename_i s pos hs
          obtain ⟨h1, h2⟩ := next_sound (P := C.P) (ty := o.type) hR (srel_of (hit ▸ ho it) (by simp)) hs
          split at h
          · rename_i hlt
            cases h
            obtain ⟨u, w', h6, h7, h8⟩ := h1 hlt
            exact ⟨L, w', h7, .inr ⟨u, by unfold execOp; simp only [hop]; exact vrun h6, h8⟩⟩
          · rename_i hlt
            cases h
            obtain ⟨u, h6, h8⟩ := h2 hlt
            exact ⟨L, w, Wrote.refl hR, .inr ⟨u, by unfold execOp; simp only [hop]; exact vrun h6, h8⟩⟩
        · cases h
      · cases h
  | panic y =>
    simp only [hop] at h
    split at h
    · rename_i t v hy
      cases h
      obtain ⟨u, h1, h2⟩ := (srel_of (hy ▸ ho y) (by simp)).iface_inv
      refine ⟨a.eval y, ?_, hy ▸ srel_of (ho y) (by rw [hy]; simp), t, v, rfl⟩
      unfold execOp
      simp only [hop, h1, Sem.run_bind]
      rfl
    · cases h
  | defer c =>
    obtain ⟨callee, args, ats⟩ := c
    simp only [hop] at h
    cases callee with
    | value f =>
      dsimp only at h
      split at h
      · rename_i g as caps hf
        simp only [Option.map_eq_some_iff] at h
        obtain ⟨vs, hvs, rfl⟩ := h
        obtain ⟨as', cs', h1, h2, h3, h4, h5⟩ := (srel_of (hf ▸ ho f) (by simp)).func_inv
        obtain ⟨h6, h7⟩ := opcs_arr hR he hvs
        obtain ⟨h8, h9⟩ := app_rel (R := VRel Z H L w) h2 h6 h3 h4 (fun j y u a b => (h7 j y u a b).1) h5
        refine ⟨as', cs', args.map a.eval, ?_, h8, h9⟩
        unfold execOp
        simp only [hop, resolve, h1, Deferred.ofValue, Sem.run_bind, Sem.run_pure, Result.andThen_ok]
      · cases h
    | _ => cases h
  | call c =>
    obtain ⟨callee, args, ats⟩ := c
    simp only [hop] at h
    cases callee with
    | value f =>
      dsimp only at h
      split at h
      · rename_i g as caps hf
        simp only [Option.map_eq_some_iff] at h
        obtain ⟨vs, hvs, rfl⟩ := h
        obtain ⟨as', cs', h1, h2, h3, h4, h5⟩ := (srel_of (hf ▸ ho f) (by simp)).func_inv
        obtain ⟨h6, h7⟩ := opcs_arr hR he hvs
        obtain ⟨h8, h9⟩ := app_rel (R := VRel Z H L w) h2 h6 h3 h4 (fun j y u a b => (h7 j y u a b).1) h5
        refine ⟨as' ++ args.map a.eval ++ cs', ?_, h8, h9⟩
        unfold execOp
        simp only [hop, resolve, h1, Deferred.ofValue, Sem.run_bind, Sem.run_pure, Result.andThen_ok, invoke]
      · rename_i id hf
        simp only [Option.map_eq_some_iff] at h
        obtain ⟨vs, hvs, rfl⟩ := h
        obtain ⟨h6, h7⟩ := opcs_arr hR he hvs
        have hv := srel_of (hf ▸ ho f) (by simp)
        generalize hev : a.eval f = fv at hv
        cases hv with
        | data _ _ hd => cases hd
        | yield _ b fn env ps as bd st pd hob hl =>
          refine ⟨b, args.map a.eval, hl, ?_, h6, fun j y u p q => (h7 j y u p q).1⟩
          unfold execOp
          simp only [hop, resolve, hev, Deferred.ofValue, Sem.run_bind, Sem.run_pure, Result.andThen_ok, invoke, Array.empty_append]
      · cases h
    | invoke r name =>
      dsimp only at h
      split at h
      · rename_i t v hr
        obtain ⟨f, hf, h2⟩ := bindo h
        simp only [Option.map_eq_some_iff] at h2
        obtain ⟨vs, hvs, rfl⟩ := h2
        obtain ⟨u, h1, h2⟩ := (srel_of (hr ▸ ho r) (by simp)).iface_inv
        obtain ⟨h6, h7⟩ := opcs_arr hR he hvs
        refine ⟨#[u] ++ args.map a.eval, ?_, by simp [h6]; omega, fun j y q hy hq => ?_⟩
        · unfold execOp
          have hex : ∀ (z : Value) (l : Array Value), (#[z] ++ l).extract 1 (#[z] ++ l).size = l := fun z l => by
            apply Array.ext_getElem?
            intro i
            rw [Array.getElem?_extract]
            simp only [Array.size_append, List.size_toArray, List.length_cons, List.length_nil]
            rcases Nat.lt_or_ge i l.size with h | h
            · rw [if_pos (by omega), Array.getElem?_append, if_neg (by simp)]
              simp
            · rw [if_neg (by omega), Array.getElem?_eq_none h]
          have h0 : (#[Value.iface t u] ++ args.map a.eval)[0]? = some (.iface t u) := by rw [Array.getElem?_append, if_pos (by simp)]; rfl
          have hm : ∃ n, C.P.types.size + Made.depth = n + 1 := ⟨C.P.types.size + Made.depth - 1, by simp only [Made.depth]; omega⟩
          obtain ⟨n, hn⟩ := hm
          simp only [hop, resolve, h1, Sem.run_bind, Sem.run_pure, Result.andThen_ok, invoke, h0, hex, callMethod, run_program, hn, run_method (hC.meth t name f hf)]
        · cases j with
          | zero =>
            rw [Array.getElem?_append, if_pos (by simp)] at hq
            simp at hy hq
            exact hy ▸ hq ▸ h2
          | succ j =>
            rw [Array.getElem?_append, if_neg (by simp)] at hq
            exact (h7 j y q (by simpa using hy) (by simpa using hq)).1
      · cases h
    | builtin b =>
      have hrun : ∀ (s : Sem Value) (u : Value) (w' : World), builtin b ats o.type (args.map fun | .const _ => true | _ => false) (args.map a.eval) = (do pure (.value (← s)) : Sem Next) → s.run C.P w = .ok u w' →
          (execOp a.eval o).run C.P w = .ok (.value u) w' := by
        intro s u w' h1 h2
        unfold execOp
        simp only [hop, resolve, Sem.run_bind, Sem.run_pure, Result.andThen_ok, invoke]
        have := vrun h2
        rw [← h1] at this
        exact this
      cases b <;> dsimp only at h <;> (try (cases h; done))
      case append =>
        split at h
        · rename_i s y t u hargs hts
          obtain ⟨U, hU, h2⟩ := bindo h
          clear h
          obtain ⟨U'⟩ := hC.ty u U hU
          have hni : ∀ k, U'.d ≠ .int k := by
            intro k hd
            have := U'.kd
            rw [hd] at this
            simp only [kdOf] at this
            rw [this] at h2
            cases h2
          have h3 : ∃ r, appendA C H t s y = some r ∧ x = .val r.1 r.2 := by
            split at h2
            · simp only [Option.map_eq_some_iff] at h2; obtain ⟨r, hr, rfl⟩ := h2; exact ⟨r, hr, rfl⟩
            · simp only [Option.map_eq_some_iff] at h2; obtain ⟨r, hr, rfl⟩ := h2; exact ⟨r, hr, rfl⟩
            · cases h2
          obtain ⟨⟨r, H'⟩, h4, rfl⟩ := h3
          obtain ⟨v1, v2, hv, hs1, hs2⟩ := two_args hR he hargs
          have hat : ats = #[t, u] := by
            obtain ⟨l⟩ := ats
            simp at hts
            rw [hts]
          obtain ⟨q, L', w', h5, h6, h7⟩ := appendA_sound (ty := o.type) hC hR U'.und hni (fun hb => srel_of hs1 hb) (fun hb => srel_of hs2 hb) h4
          exact ⟨L', w', h6, .inr ⟨q, hrun _ _ _ rfl (by rw [hv, hat]; exact h5), h7⟩⟩
        · cases h
      case copy =>
        split at h
        · rename_i d y t ts hargs hts
          simp only [Option.map_eq_some_iff] at h
          obtain ⟨⟨r, H'⟩, h4, rfl⟩ := h
          obtain ⟨v1, v2, hv, hs1, hs2⟩ := two_args hR he hargs
          have ht : ats[0]? = some t := by rw [← Array.getElem?_toList, hts]; rfl
          have hnb : d ≠ .bad ∧ y ≠ .bad := by
            unfold copyA at h4
            obtain ⟨⟨el, E⟩, hE, h5⟩ := bindo h4
            dsimp only at h5
            obtain ⟨new, hnew, h6⟩ := bindo h5
            refine ⟨?_, by rintro rfl; simp [source, elems] at hnew⟩
            rintro rfl
            split at h6 <;> cases h6
          obtain ⟨q, w', h5, h6, h7⟩ := copyA_sound (ty := o.type) hC hR ht (srel_of hs1 hnb.1) (srel_of hs2 hnb.2) h4
          exact ⟨L, w', h6, .inr ⟨q, hrun _ _ _ rfl (by rw [hv]; exact h5), h7⟩⟩
        · cases h
      case delete =>
        split at h
        · rename_i m k t ts hargs hts
          simp only [Option.map_eq_some_iff] at h
          obtain ⟨H', h4, rfl⟩ := h
          obtain ⟨v1, v2, hv, hs1, hs2⟩ := two_args hR he hargs
          have ht : ats[0]? = some t := by rw [← Array.getElem?_toList, hts]; rfl
          obtain ⟨w', h5, h6⟩ := deleteA_sound (ty := o.type) hC hR ht (fun hb => srel_of hs1 hb) (fun hb => srel_of hs2 hb) h4
          exact ⟨L, w', h6, .inr ⟨.tuple #[], hrun _ _ _ rfl (by rw [hv]; exact h5), .tup _ _ rfl (by simp)⟩⟩
        · cases h
      case recover =>
        cases h
        show (execOp a.eval o).run C.P w = .ok .recover w
        unfold execOp
        simp only [hop, resolve, Sem.run_bind, Sem.run_pure, Result.andThen_ok, invoke]
        rfl
      case panic =>
        split at h
        · rename_i t v hargs
          cases h
          obtain ⟨v1, hv, hs1⟩ := one_arg hR he hargs
          have hvr := srel_of hs1 (by simp)
          obtain ⟨u, h1, h2⟩ := hvr.iface_inv
          refine ⟨v1, ?_, hvr, t, v, rfl⟩
          unfold execOp
          simp only [hop, resolve, Sem.run_bind, Sem.run_pure, Result.andThen_ok, invoke, hv, h1]
          rfl
        · cases h
      case unsafeString =>
        split at h
        · rename_i k t ts hargs hts
          cases h
          obtain ⟨v1, v2, hv, hs1, hs2⟩ := two_args hR he hargs
          have ht : ats[0]? = some t := by rw [← Array.getElem?_toList, hts]; rfl
          have e1 := (srel_of hs1 (by simp)).nilp_inv
          have e2 := (srel_of hs2 (by simp)).int_inv
          exact ⟨L, w, Wrote.refl hR, .inr ⟨.string .empty, hrun _ _ _ rfl (by rw [hv, e1, e2]; exact run_unsafeString_zero ht), vstr _ rfl⟩⟩
        · rename_i id g i k n pt ts hargs hts
          obtain ⟨T, hT, h2⟩ := bindo h
          clear h
          obtain ⟨T'⟩ := hC.ty pt T hT
          split at h2
          · rename_i u hk
            obtain ⟨U, hU, h3⟩ := bindo h2
            clear h2
            obtain ⟨U'⟩ := hC.ty u U hU
            split at h3
            · rename_i e' g' ro xs hob
              split at h3
              · rename_i hc
                simp only [Bool.and_eq_true, beq_iff_eq, decide_eq_true_eq] at hc
                obtain ⟨⟨⟨⟨⟨⟨rfl, hu1⟩, rfl⟩, hev⟩, hn0⟩, hnm⟩, hle⟩ := hc
                simp only [Option.map_eq_some_iff] at h3
                obtain ⟨s, hs, rfl⟩ := h3
                have hsx := bytesOf_inv hs
                obtain ⟨v1, v2, hv, hs1, hs2⟩ := two_args hR he hargs
                have ht : ats[0]? = some pt := by rw [← Array.getElem?_toList, hts]; rfl
                have e2 := (srel_of hs2 (by simp)).int_inv
                have kp := T'.kd
                rw [hk] at kp
                have hup := T'.und
                rw [kd_pointer kp] at hup
                have hsl : s.length = n.toNat := by
                  have := congrArg List.length hsx
                  simp at this
                  omega
                have hp := srel_of hs1 (by simp)
                cases hp with
                | data _ _ hd => cases hd
                | aptrOld _ _ _ _ p hps e2 g2 ro2 sz2 xs2 ho2 hg2 => rw [hob] at ho2; cases ho2; omega
                | aptr _ _ _ _ b base e2 ro2 sz2 xs2 ho2 hl =>
                  rw [hob] at ho2
                  cases ho2
                  obtain ⟨h0, cs', fz, hb, har, hf⟩ := arr_parts hR hob hl
                  have hlen := har.len
                  by_cases hz : n = 0
                  · subst hz
                    obtain rfl : s = [] := by cases s <;> simp at hsl ⊢
                    refine ⟨L, w, by simp only [beq_self_eq_true, if_true]; exact Wrote.refl hR, .inr ⟨.string .empty, hrun _ _ _ rfl (by rw [hv, e2]; exact run_unsafeString_zero ht), by simp only [beq_self_eq_true, if_true]; exact vstr _ rfl⟩⟩
                  · have hne : (n == 0) = false := by simpa using hz
                    simp only [hne, Bool.false_eq_true, if_false]
                    have hW := freeze_sound hR hob hl hev (o := base + i) (n := s.length) (by omega) (by omega)
                    have hcell : ∀ j x, s[j]? = some x → w.cell? ⟨b, base + i + j, none⟩ = some (.int .u8 x.toNat) := by
                      intro j x hj
                      have hjx : xs[i + j]? = some (byteVal x) := by
                        have h1 : ((xs.drop i).take n.toNat)[j]? = some (byteVal x) := by rw [hsx]; simp [hj]
                        rw [List.getElem?_take] at h1
                        split at h1
                        · rw [List.getElem?_drop] at h1; exact h1
                        · cases h1
                      obtain ⟨q, h1, _, h2⟩ := lie_elem hR hob hl hjx 0 (byteVal x) rfl
                      rw [h2.int_inv] at h1
                      simpa [Nat.add_assoc] using h1
                    have hrs := run_unsafeString (P := C.P) (ty := o.type) (k := k) ht hup (by rw [U'.cellsOf]; exact hu1) (g := b) (o := base + i) (cells := cs'.size) (by simp [World.shape?, hb]) s (by intro h; subst h; simp at hsl; omega) (by omega) (by unfold mostLen at hnm; omega) hcell
                    refine ⟨L, _, hW, .inr ⟨_, hrun _ _ _ rfl (by rw [hv, e2, Nat.mul_one, Nat.add_zero, show n = (s.length : Int) by omega]; exact hrs), vstr _ (by simp)⟩⟩
              · cases h3
            · cases h3
          · cases h2
        · cases h
  | _ => simp only [hop] at h; cases h
end
end Go.Ev
/- Control: how code ends in the machine, and the plain statements. Each theorem bears its own conditions. -/
set_option linter.unusedVariables false
set_option linter.unusedSectionVars false
set_option linter.unusedSimpArgs false
namespace Go.Ev
open Go.RowKit
variable [Globs]

/-- How code is left: run to its end, or standing at a jump that leads further out, or panicking. -/
def Ends (P : Program) (R : AVal → Value → Prop) (m : Machine) (b : Frame) (k : List Item) (cs : List Frame) (a : Act) (w : World) : Ex → Prop
  | .normal => Steps P m (lone (b.atR a k) cs w)
  | .exit id => ∃ k₁, exitTo id k₁ = exitTo id k ∧ Steps P m (lone (b.atR a (.code (.exit id) :: k₁)) cs w)
  | .goto l => ∃ k₁, gotoIn l k₁ = gotoIn l k ∧ Steps P m (lone (b.atR a (.code (.goto l) :: k₁)) cs w)
  | .ret => ∃ k₁, Steps P m (lone (b.atR a (.code .ret :: k₁)) cs w)
  | .panic v => ∃ k₁ u, R v u ∧ Steps P m (lone { b.atR a k₁ with mode := .panicking [{ v := u, recovered := false }] } cs w)

theorem Ends.of_steps {P : Program} {R : AVal → Value → Prop} {m m₁ : Machine} {b : Frame} {k : List Item} {cs : List Frame} {a : Act} {w : World} {e : Ex} (h : Steps P m m₁) (h' : Ends P R m₁ b k cs a w e) : Ends P R m b k cs a w e := by
  cases e with
  | normal => exact h.trans h'
  | exit id => obtain ⟨k₁, h1, h2⟩ := h'; exact ⟨k₁, h1, h.trans h2⟩
  | goto l => obtain ⟨k₁, h1, h2⟩ := h'; exact ⟨k₁, h1, h.trans h2⟩
  | ret => obtain ⟨k₁, h2⟩ := h'; exact ⟨k₁, h.trans h2⟩
  | panic v => obtain ⟨k₁, u, h1, h2⟩ := h'; exact ⟨k₁, u, h1, h.trans h2⟩
theorem exitTo_plain' {x : Item} (hx : x.plain = true) (id : Nat) (k : List Item) : exitTo id (x :: k) = exitTo id k := by cases x <;> simp_all [exitTo, Item.plain]
theorem gotoIn_plain' {x : Item} (hx : x.plain = true) (l : Nat) (k : List Item) : gotoIn l (x :: k) = gotoIn l k := by cases x <;> simp_all [gotoIn, Item.plain]
/-- Past an item that catches nothing. -/
theorem Ends.pass {P : Program} {R : AVal → Value → Prop} {m : Machine} {b : Frame} {x : Item} {k : List Item} {cs : List Frame} {a : Act} {w : World} {e : Ex} (hx : x.plain = true) (he : e ≠ .normal) (h : Ends P R m b (x :: k) cs a w e) : Ends P R m b k cs a w e := by
  cases e with
  | normal => exact absurd rfl he
  | exit id => obtain ⟨k₁, h1, h2⟩ := h; exact ⟨k₁, h1.trans (exitTo_plain' hx id k), h2⟩
  | goto l => obtain ⟨k₁, h1, h2⟩ := h; exact ⟨k₁, h1.trans (gotoIn_plain' hx l k), h2⟩
  | ret => exact h
  | panic v => exact h

/-- Deferred calls; marks of ranges over functions among them. -/
inductive DefRel (N : Nat) (Z : Nat → Nat → Prop) (H : Heap) (L : Locs) (w : World) : List (FuncId × List AVal) → List Deferred → Prop where
  | nil : DefRel N Z H L w [] []
  | call (f : FuncId) (args : List AVal) (caps vs : Array Value) (ds : List (FuncId × List AVal)) (D : List Deferred) (hl : args.length = (vs ++ caps).size)
      (hr : ∀ (j : Nat) y u, args[j]? = some y → (vs ++ caps)[j]? = some u → VRel Z H L w y u) (h : DefRel N Z H L w ds D) :
      DefRel N Z H L w ((f, args) :: ds) ({ target := .fn (.func f) caps, args := vs } :: D)
  | mark (r : Nat) (ds : List (FuncId × List AVal)) (D : List Deferred) (hr : w.heap[r]? = some (.deferred (some []))) (hB : N ≤ r) (hf : ∀ id base, locOf L id ≠ some (r, base)) (hno : ∀ x a, ({ target := .collected x, args := a } : Deferred) ∈ D → x ≠ r) (h : DefRel N Z H L w ds D) :
      DefRel N Z H L w ds ({ target := .collected r, args := #[] } :: D)

section
variable {Z : Nat → Nat → Prop} {H H' : Heap} {L L' : Locs} {w w' : World} {B : Nat} {C : Ctx}

theorem DefRel.mono {N : Nat} (E : Ext B Z H L w H' L' w') {ds : List (FuncId × List AVal)} {D : List Deferred} (h : DefRel N Z H L w ds D) : DefRel N Z H' L' w' ds D := by
  induction h with
  | nil => exact .nil
  | call f args caps vs ds D hl hr _ ih => exact .call f args caps vs ds D hl (fun j y u a b => (hr j y u a b).mono E) ih
  | mark r ds D hr hB hf hno _ ih =>
    obtain ⟨h1, h2⟩ := E.free r hf (Array.getElem?_eq_some_iff.1 hr).1
    exact .mark r ds D (h1.trans hr) hB h2 hno ih

def setRec (r : Bool) (c : Frame) : Frame :=
  { c with mode := match c.mode with
      | .panicking ({ v, goexit, .. } :: older) => .panicking ({ v, recovered := r, goexit } :: older)
      | m => m }
/-- Is there a panic that may be recovered here? -/
def live : Option AVal → Bool
  | none | some .bad => false
  | some _ => true
/-- The callers behind a recovery. -/
def aft (r : Bool) : List Frame → List Frame
  | c :: cs => setRec r c :: cs
  | [] => []
def csAft (pan : Option AVal) (r : Bool) (cs : List Frame) : List Frame := if live pan = true then aft r cs else cs

/-- What a panic that goes on is to this frame. -/
def PanRel (Z : Nat → Nat → Prop) (H : Heap) (L : Locs) (w : World) (pan : Option AVal) (recd : Bool) (b : Frame) (cs : List Frame) : Prop :=
  if live pan = true then b.roundOf = none ∧ b.kind = .deferred ∧ ∃ v c rest u, pan = some v ∧ cs = c :: rest ∧ c.mode = .panicking [{ v := u, recovered := recd }] ∧ VRel Z H L w v u
  else pan = none → b.roundOf = none ∧ ∀ fr : Frame, fr.kind = b.kind → tryRecover fr cs = none

/-- A round knows its loop. -/
def RoundRel (H : Heap) (L : Locs) (pan : Option AVal) (b : Frame) : Prop :=
  ∀ l, b.roundOf = some l → pan = some .bad ∧ ∃ id fn env ps as bd st pd, locOf L id = some (l, 0) ∧ H[id]? = some (.loop fn env ps as bd st pd)

structure StRel (B N : Nat) (Z : Nat → Nat → Prop) (s : St) (L : Locs) (w : World) (b : Frame) (a : Act) (cs : List Frame) : Prop where
  heap : HRel B Z s.H L w
  env : ERel Z s.H L w s.env a.tmps
  fn : b.fn = s.fn
  defs : DefRel N Z s.H L w s.defs a.defers
  base : N ≤ w.heap.size
  pan : PanRel Z s.H L w s.pan s.recd b cs
  rnd : RoundRel s.H L s.pan b

theorem PanRel.mono (E : Ext B Z H L w H' L' w') {pan : Option AVal} {recd : Bool} {b : Frame} {cs : List Frame} (h : PanRel Z H L w pan recd b cs) : PanRel Z H' L' w' pan recd b cs := by
  unfold PanRel at h ⊢
  split
  · rename_i hl
    rw [if_pos hl] at h
    obtain ⟨h3, h4, v, c, rest, u, h5, h6, h7, h8⟩ := h
    exact ⟨h3, h4, v, c, rest, u, h5, h6, h7, h8.mono E⟩
  · rename_i hl
    rw [if_neg hl] at h
    exact h
theorem RoundRel.mono (E : Ext B Z H L w H' L' w') {pan : Option AVal} {b : Frame} (h : RoundRel H L pan b) : RoundRel H' L' pan b := by
  intro l hl
  obtain ⟨h1, id, fn, env, ps, as, bd, st, pd, h2, h3⟩ := h l hl
  obtain ⟨o', h4, h5⟩ := E.obj id _ h3
  cases o' <;> simp only [objOn] at h5
  exact ⟨h1, id, _, _, _, _, _, _, _, E.loc id l 0 _ _ h2 h3 h4 trivial, h4⟩

/-- What is to be shown of code. -/
def CodeOk (C : Ctx) (c : Code) (s : St) (e : Ex) (s' : St) : Prop :=
  ∀ (B N : Nat) (Z : Nat → Nat → Prop) (L : Locs) (w : World) (b : Frame) (a : Act) (cs : List Frame) (k : List Item), StRel B N Z s L w b a cs → okC a.tmps.size c = true →
    ∃ L' w' a', Ends C.P (VRel Z s'.H L' w') (lone (b.atR a (.code c :: k)) cs w) b k (csAft s.pan s'.recd cs) a' w' e ∧ Wrote B Z s.H L w s'.H L' w' ∧
      StRel B N Z s' L' w' b a' (csAft s.pan s'.recd cs) ∧ s'.pan = s.pan ∧ a'.tmps.size = a.tmps.size ∧ L.length ≤ L'.length

theorem setRec_setRec (r q : Bool) (c : Frame) : setRec r (setRec q c) = setRec r c := by
  unfold setRec
  cases c with
  | mk fn tmps todo defers mode kind roundOf =>
    cases mode with
    | panicking ch => cases ch <;> rfl
    | _ => rfl
theorem csAft_csAft (pan : Option AVal) (r q : Bool) (cs : List Frame) : csAft pan r (csAft pan q cs) = csAft pan r cs := by
  unfold csAft
  split
  · cases cs with
    | nil => rfl
    | cons c cs => simp [aft, setRec_setRec]
  · rfl
theorem csAft_same {pan : Option AVal} {recd : Bool} {b : Frame} {cs : List Frame} (h : PanRel Z H L w pan recd b cs) : csAft pan recd cs = cs := by
  unfold csAft
  unfold PanRel at h
  split
  · rename_i hl
    rw [if_pos hl] at h
    obtain ⟨_, _, v, c, rest, u, _, rfl, h6, _⟩ := h
    cases c with
    | mk fn tmps todo defers mode kind roundOf =>
      simp only at h6
      subst h6
      rfl
  · rfl

theorem ok_here {c : Code} {s : St} {e : Ex} (hs : ∀ (b : Frame) (a : Act) (cs : List Frame) (k : List Item) (w : World) (R : AVal → Value → Prop), Ends C.P R (lone (b.atR a (.code c :: k)) cs w) b k cs a w e) : CodeOk C c s e s := by
  intro B N Z L w b a cs k hS _
  rw [csAft_same hS.pan]
  exact ⟨L, w, a, hs b a cs k w _, Wrote.refl hS.heap, hS, rfl, rfl, Nat.le_refl _⟩

theorem ok_skip {s : St} : CodeOk C .skip s .normal s := ok_here fun _ _ _ _ _ _ => .one stepR_skip
theorem ok_label {s : St} {l : Nat} : CodeOk C (.label l) s .normal s := ok_here fun _ _ _ _ _ _ => .one stepR_label
theorem ok_exit {s : St} {id : Nat} : CodeOk C (.exit id) s (.exit id) s := ok_here fun _ _ _ k _ _ => ⟨k, rfl, .refl _ _⟩
theorem ok_goto {s : St} {l : Nat} : CodeOk C (.goto l) s (.goto l) s := ok_here fun _ _ _ k _ _ => ⟨k, rfl, .refl _ _⟩
theorem ok_ret {s : St} : CodeOk C .ret s .ret s := ok_here fun _ _ _ k _ _ => ⟨k, .refl _ _⟩

theorem ok_seq_normal {x y : Code} {s s1 s2 : St} {e : Ex} (hx : CodeOk C x s .normal s1) (hy : CodeOk C y s1 e s2) : CodeOk C (.seq x y) s e s2 := by
  intro B N Z L w b a cs k hS hok
  simp only [okC, Bool.and_eq_true] at hok
  obtain ⟨L1, w1, a1, h1, h2, h3, h4, h5, h6⟩ := hx B N Z L w b a cs (.code y :: k) hS hok.1
  obtain ⟨L2, w2, a2, g1, g2, g3, g4, g5, g6⟩ := hy B N Z L1 w1 b a1 _ k h3 (by rw [h5]; exact hok.2)
  rw [h4, csAft_csAft] at g1 g3
  exact ⟨L2, w2, a2, .of_steps (.head stepR_seq h1) g1, h2.trans g2 h6, g3, g4.trans h4, g5.trans h5, Nat.le_trans h6 g6⟩
theorem ok_seq_out {x y : Code} {s s1 : St} {e : Ex} (he : e ≠ .normal) (hx : CodeOk C x s e s1) : CodeOk C (.seq x y) s e s1 := by
  intro B N Z L w b a cs k hS hok
  simp only [okC, Bool.and_eq_true] at hok
  obtain ⟨L1, w1, a1, h1, rest⟩ := hx B N Z L w b a cs (.code y :: k) hS hok.1
  exact ⟨L1, w1, a1, .of_steps (.one stepR_seq) (.pass (x := .code y) rfl he h1), rest⟩

theorem ok_cond {c : Operand} {x y : Code} {s s1 : St} {e : Ex} {t : Bool} (hc : opd s.env c = .bool t) (h : CodeOk C (if t then x else y) s e s1) : CodeOk C (.cond c x y) s e s1 := by
  intro B N Z L w b a cs k hS hok
  simp only [okC, Bool.and_eq_true] at hok
  have hv := (srel_of (hc ▸ opd_rel hS.heap hS.env c) (by simp)).bool_inv
  obtain ⟨L1, w1, a1, h1, rest⟩ := h B N Z L w b a cs k hS (by cases t <;> simp [hok.1, hok.2])
  exact ⟨L1, w1, a1, .of_steps (.one (stepR_cond hv)) h1, rest⟩

theorem ok_block_exit {id : Nat} {c : Code} {s s1 : St} (h : CodeOk C c s (.exit id) s1) : CodeOk C (.block id c) s .normal s1 := by
  intro B N Z L w b a cs k hS hok
  obtain ⟨L1, w1, a1, ⟨k₁, hk, h1⟩, rest⟩ := h B N Z L w b a cs (.inBlock id :: k) hS hok
  exact ⟨L1, w1, a1, .head stepR_block (h1.trans (.one (stepR_exit (hk.trans (by simp [exitTo]))))), rest⟩
theorem ok_block_normal {id : Nat} {c : Code} {s s1 : St} (h : CodeOk C c s .normal s1) : CodeOk C (.block id c) s .normal s1 := by
  intro B N Z L w b a cs k hS hok
  obtain ⟨L1, w1, a1, h1, rest⟩ := h B N Z L w b a cs (.inBlock id :: k) hS hok
  exact ⟨L1, w1, a1, .head stepR_block (Steps.trans h1 (.one stepR_inBlock)), rest⟩
theorem ok_block_out {id : Nat} {c : Code} {s s1 : St} {e : Ex} (he : e ≠ .normal) (hi : e ≠ .exit id) (h : CodeOk C c s e s1) : CodeOk C (.block id c) s e s1 := by
  intro B N Z L w b a cs k hS hok
  obtain ⟨L1, w1, a1, h1, rest⟩ := h B N Z L w b a cs (.inBlock id :: k) hS hok
  refine ⟨L1, w1, a1, .of_steps (.one stepR_block) ?_, rest⟩
  cases e with
  | normal => exact absurd rfl he
  | exit i =>
    obtain ⟨k₁, h2, h3⟩ := h1
    have hne : (id == i) = false := by simp; rintro rfl; exact hi rfl
    exact ⟨k₁, h2.trans (by simp [exitTo, hne]), h3⟩
  | goto l => obtain ⟨k₁, h2, h3⟩ := h1; exact ⟨k₁, h2.trans (by simp [gotoIn]), h3⟩
  | ret => exact h1
  | panic v => exact h1

/-- A loop, from the item that stands for it on. -/
def LoopOk (C : Ctx) (c : Code) (s : St) (e : Ex) (s' : St) : Prop :=
  ∀ (B N : Nat) (Z : Nat → Nat → Prop) (L : Locs) (w : World) (b : Frame) (a : Act) (cs : List Frame) (k : List Item), StRel B N Z s L w b a cs → okC a.tmps.size c = true →
    ∃ L' w' a', Ends C.P (VRel Z s'.H L' w') (lone (b.atR a (.inLoop c :: k)) cs w) b k (csAft s.pan s'.recd cs) a' w' e ∧ Wrote B Z s.H L w s'.H L' w' ∧
      StRel B N Z s' L' w' b a' (csAft s.pan s'.recd cs) ∧ s'.pan = s.pan ∧ a'.tmps.size = a.tmps.size ∧ L.length ≤ L'.length

/-- What is to be shown of code; of a loop, also from its item on. -/
def CodeOk2 (C : Ctx) (c : Code) (s : St) (e : Ex) (s' : St) : Prop := CodeOk C c s e s' ∧ ∀ c', c = .loop c' → LoopOk C c' s e s'

theorem ok_loop_normal {c : Code} {s s1 s2 : St} {e : Ex} (h : CodeOk C c s .normal s1) (h' : LoopOk C c s1 e s2) : CodeOk C (.loop c) s e s2 ∧ LoopOk C c s e s2 := by
  have key : ∀ (B N : Nat) (Z : Nat → Nat → Prop) (L : Locs) (w : World) (b : Frame) (a : Act) (cs : List Frame) (k : List Item), StRel B N Z s L w b a cs → okC a.tmps.size c = true →
      ∃ L' w' a', Ends C.P (VRel Z s2.H L' w') (lone (b.atR a (.code c :: .inLoop c :: k)) cs w) b k (csAft s.pan s2.recd cs) a' w' e ∧ Wrote B Z s.H L w s2.H L' w' ∧
        StRel B N Z s2 L' w' b a' (csAft s.pan s2.recd cs) ∧ s2.pan = s.pan ∧ a'.tmps.size = a.tmps.size ∧ L.length ≤ L'.length := by
    intro B N Z L w b a cs k hS hok
    obtain ⟨L1, w1, a1, h1, h2, h3, h4, h5, h6⟩ := h B N Z L w b a cs (.inLoop c :: k) hS hok
    obtain ⟨L2, w2, a2, g1, g2, g3, g4, g5, g6⟩ := h' B N Z L1 w1 b a1 _ k h3 (by rw [h5]; exact hok)
    rw [h4, csAft_csAft] at g1 g3
    exact ⟨L2, w2, a2, .of_steps h1 g1, h2.trans g2 h6, g3, g4.trans h4, g5.trans h5, Nat.le_trans h6 g6⟩
  exact ⟨fun B N Z L w b a cs k hS hok => let ⟨L2, w2, a2, g1, g⟩ := key B N Z L w b a cs k hS hok; ⟨L2, w2, a2, .of_steps (.one stepR_loop) g1, g⟩,
    fun B N Z L w b a cs k hS hok => let ⟨L2, w2, a2, g1, g⟩ := key B N Z L w b a cs k hS hok; ⟨L2, w2, a2, .of_steps (.one stepR_inLoop) g1, g⟩⟩
theorem ok_loop_item {c : Code} {s s1 : St} {e : Ex} (he : e ≠ .normal) (h : CodeOk C c s e s1) : LoopOk C c s e s1 := by
  intro B N Z L w b a cs k hS hok
  obtain ⟨L1, w1, a1, h1, rest⟩ := h B N Z L w b a cs (.inLoop c :: k) hS hok
  exact ⟨L1, w1, a1, .of_steps (.one stepR_inLoop) (.pass (x := .inLoop c) rfl he h1), rest⟩
theorem ok_loop_out {c : Code} {s s1 : St} {e : Ex} (he : e ≠ .normal) (h : CodeOk C c s e s1) : CodeOk C (.loop c) s e s1 := by
  intro B N Z L w b a cs k hS hok
  obtain ⟨L1, w1, a1, h1, rest⟩ := h B N Z L w b a cs (.inLoop c :: k) hS hok
  exact ⟨L1, w1, a1, .of_steps (.one stepR_loop) (.pass (x := .inLoop c) rfl he h1), rest⟩

theorem okC_mono {n m : Nat} (hnm : n ≤ m) : ∀ {c : Code}, okC n c = true → okC m c = true
  | .seq a b, h => by simp only [okC, Bool.and_eq_true] at h ⊢; exact ⟨okC_mono hnm h.1, okC_mono hnm h.2⟩
  | .cond _ a b, h => by simp only [okC, Bool.and_eq_true] at h ⊢; exact ⟨okC_mono hnm h.1, okC_mono hnm h.2⟩
  | .block _ c, h => by simp only [okC] at h ⊢; exact okC_mono hnm h
  | .loop c, h => by simp only [okC] at h ⊢; exact okC_mono hnm h
  | .scope c, h => by simp only [okC] at h ⊢; exact okC_mono hnm h
  | .region _ ops _, h => by
    simp only [okC, List.all_eq_true] at h ⊢
    intro o ho
    have := h o ho
    cases hd : o.dst with
    | none => rfl
    | some d =>
      rw [hd] at this
      exact decide_eq_true (Nat.lt_of_lt_of_le (of_decide_eq_true this) hnm)
  | .rangeFunc _ ps a b, h => by
    simp only [okC, Bool.and_eq_true, List.all_eq_true, decide_eq_true_eq] at h ⊢
    exact ⟨⟨fun t ht => Nat.lt_of_lt_of_le (h.1.1 t ht) hnm, okC_mono hnm h.1.2⟩, okC_mono hnm h.2⟩
  | .skip, _ => rfl
  | .label _, _ => rfl
  | .exit _, _ => rfl
  | .goto _, _ => rfl
  | .ret, _ => rfl
  | .refuse _, _ => rfl

/-- A scope, from one of its places on. -/
def ScopeOk (C : Ctx) (rest body : Code) (s : St) (e : Ex) (s' : St) : Prop :=
  ∀ (B N : Nat) (Z : Nat → Nat → Prop) (L : Locs) (w : World) (b : Frame) (a : Act) (cs : List Frame) (k : List Item), StRel B N Z s L w b a cs → okC a.tmps.size rest = true → okC a.tmps.size body = true →
    ∃ L' w' a', Ends C.P (VRel Z s'.H L' w') (lone (b.atR a (.code rest :: .inScope body :: k)) cs w) b k (csAft s.pan s'.recd cs) a' w' e ∧ Wrote B Z s.H L w s'.H L' w' ∧
      StRel B N Z s' L' w' b a' (csAft s.pan s'.recd cs) ∧ s'.pan = s.pan ∧ a'.tmps.size = a.tmps.size ∧ L.length ≤ L'.length

theorem ok_findLabel {n l : Nat} : ∀ {c r : Code}, okC n c = true → findLabel c l = some r → okC n r = true
  | .seq a b, r, h, hf => by
    simp only [okC, Bool.and_eq_true] at h
    simp only [findLabel] at hf
    split at hf
    · rename_i r' hr
      cases hf
      simp only [okC, Bool.and_eq_true]
      exact ⟨ok_findLabel h.1 hr, h.2⟩
    · exact ok_findLabel h.2 hf
  | .label l', r, h, hf => by
    simp only [findLabel] at hf
    split at hf
    · cases hf; rfl
    · cases hf
  | .skip, _, _, hf => by cases hf
  | .cond .., _, _, hf => by cases hf
  | .block .., _, _, hf => by cases hf
  | .loop .., _, _, hf => by cases hf
  | .scope .., _, _, hf => by cases hf
  | .exit .., _, _, hf => by cases hf
  | .goto .., _, _, hf => by cases hf
  | .ret, _, _, hf => by cases hf
  | .region .., _, _, hf => by cases hf
  | .rangeFunc .., _, _, hf => by cases hf
  | .refuse .., _, _, hf => by cases hf

theorem step_scope {P : Program} {b : Frame} {a : Act} {c : Code} {k : List Item} {cs : List Frame} : Go.step P (lone (b.atR a (.code (.scope c) :: k)) cs w) = .next (lone (b.atR a (.code c :: .inScope c :: k)) cs w) :=
  step_lone_go (by simp [stepG, stepG.exec, Frame.atR])
theorem step_inScope {P : Program} {b : Frame} {a : Act} {c : Code} {k : List Item} {cs : List Frame} : Go.step P (lone (b.atR a (.inScope c :: k)) cs w) = .next (lone (b.atR a k) cs w) :=
  step_lone_go (by simp [stepG, stepG.exec, Frame.atR])

theorem ok_scope {body : Code} {s s1 : St} {e : Ex} (h : ScopeOk C body body s e s1) : CodeOk C (.scope body) s e s1 := by
  intro B N Z L w b a cs k hS hok
  obtain ⟨L1, w1, a1, h1, rest⟩ := h B N Z L w b a cs k hS hok hok
  exact ⟨L1, w1, a1, .of_steps (.one step_scope) h1, rest⟩
theorem ok_scope_goto {rest body rest' : Code} {s s1 s2 : St} {e : Ex} {l : Nat} (h : CodeOk C rest s (.goto l) s1) (hf : findLabel body l = some rest') (h' : ScopeOk C rest' body s1 e s2) : ScopeOk C rest body s e s2 := by
  intro B N Z L w b a cs k hS hok hok2
  obtain ⟨L1, w1, a1, ⟨k₁, hk, h1⟩, h2, h3, h4, h5, h6⟩ := h B N Z L w b a cs (.inScope body :: k) hS hok
  obtain ⟨L2, w2, a2, g1, g2, g3, g4, g5, g6⟩ := h' B N Z L1 w1 b a1 _ k h3 (by rw [h5]; exact ok_findLabel hok2 hf) (by rw [h5]; exact hok2)
  rw [h4, csAft_csAft] at g1 g3
  exact ⟨L2, w2, a2, .of_steps (h1.trans (.one (stepR_goto (hk.trans (by simp [gotoIn, hf]))))) g1, h2.trans g2 h6, g3, g4.trans h4, g5.trans h5, Nat.le_trans h6 g6⟩
theorem ok_scope_out {rest body : Code} {s s1 : St} {e : Ex} (hg : ∀ l, e = .goto l → findLabel body l = none) (h : CodeOk C rest s e s1) : ScopeOk C rest body s e s1 := by
  intro B N Z L w b a cs k hS hok hok2
  obtain ⟨L1, w1, a1, h1, h2⟩ := h B N Z L w b a cs (.inScope body :: k) hS hok
  refine ⟨L1, w1, a1, ?_, h2⟩
  cases e with
  | normal => exact Steps.trans h1 (.one step_inScope)
  | exit i => obtain ⟨k₁, h2, h3⟩ := h1; exact ⟨k₁, h2.trans (by simp [exitTo]), h3⟩
  | goto l => obtain ⟨k₁, h2, h3⟩ := h1; exact ⟨k₁, h2.trans (by simp [gotoIn, hg l rfl]), h3⟩
  | ret => exact h1
  | panic v => exact h1
end
end Go.Ev
/- Operations in a frame: those that are no calls. Each theorem bears its own conditions. -/
set_option linter.unusedVariables false
set_option linter.unusedSectionVars false
set_option linter.unusedSimpArgs false
namespace Go.Ev
open Go.RowKit
variable [Globs]
section
variable {Z : Nat → Nat → Prop} {H H' : Heap} {L L' : Locs} {w w' : World} {B : Nat} {C : Ctx}

theorem ERel.put {e : Env} {tmps : Array Value} (h : ERel Z H L w e tmps) {d : Nat} (hd : d < tmps.size) {v : AVal} {u : Value} (hv : SRel Z H L w v u) : ERel Z H L w ((d, v) :: e) (tmps.setIfInBounds d u) := by
  intro t
  rw [get_cons]
  by_cases ht : d = t
  · subst ht
    simp [hd]
    exact hv
  · simp [ht, Array.getD_eq_getD_getElem?]
    have := h t
    rw [Array.getD_eq_getD_getElem?] at this
    exact this

theorem get_restrict {keep : List Nat} {e : Env} (t : Nat) : get (restrict keep e) t = get e t ∨ get (restrict keep e) t = .bad := by
  induction keep with
  | nil => exact .inr rfl
  | cons x keep ih =>
    have hr : restrict (x :: keep) e = (x, get e x) :: restrict keep e := rfl
    rw [hr, get_cons]
    split
    · rename_i h; subst h; exact .inl rfl
    · exact ih
theorem ERel.restrict {e : Env} {tmps : Array Value} (h : ERel Z H L w e tmps) (keep : List Nat) : ERel Z H L w (restrict keep e) tmps := by
  intro t
  rcases get_restrict (keep := keep) (e := e) t with h' | h'
  · rw [h']; exact h t
  · rw [h']; exact .inl rfl

theorem wanted_sound {e : Env} {tmps : Array Value} (he : ERel Z H L w e tmps) {ops : Array Oper} {o : Oper} {t : Bool} (h : wantedA e ops o = some t) : Region.wanted o (yielded ops tmps) = t := by
  unfold wantedA at h
  unfold Region.wanted
  cases hg : o.guard with
  | none => simp only [hg] at h ⊢; exact Option.some.inj h
  | some p =>
    obtain ⟨j, want⟩ := p
    simp only [hg] at h ⊢
    unfold yielded
    cases hd : (ops[j]?).bind (·.dst) with
    | none => simp only [hd] at h; cases h; simp
    | some d =>
      simp only [hd, Option.bind_some] at h ⊢
      have hv := he d
      generalize get e d = x at h hv
      cases x <;> (try simp only at h) <;> first | (cases h; done) | skip
      · rename_i b
        have := (srel_of hv (by simp)).bool_inv
        rw [Array.getD_eq_getD_getElem?] at this
        cases hq : tmps[d]? with
        | none => rw [hq] at this; simp [undef] at this
        | some q =>
          rw [hq] at this
          simp only [Option.getD_some] at this
          subst this
          cases h
          rfl
      · rename_i vs
        cases vs with
        | cons => cases h
        | nil =>
          cases h
          obtain ⟨vs', h1, h2, _⟩ := (srel_of hv (by simp)).tup_inv
          rw [Array.getD_eq_getD_getElem?] at h1
          cases hq : tmps[d]? with
          | none => simp
          | some q =>
            rw [hq] at h1
            simp only [Option.getD_some] at h1
            subst h1
            rfl

/-- What is to be shown of an operation in its frame. -/
def OpOk (C : Ctx) (ops : Array Oper) (i : Nat) (o : Oper) (s : St) (x : OA) : Prop :=
  ∀ (B N : Nat) (Z : Nat → Nat → Prop) (L : Locs) (w : World) (b : Frame) (a : Act) (cs : List Frame) (rest : List Nat) (k : List Item), StRel B N Z s L w b a cs → ops[i]? = some o → Region.wanted o (yielded ops a.tmps) = true →
    match x with
    | .ok v s' => ∃ L' w' D' u, Steps C.P (lone (b.atR a (.inRegion ops (i :: rest) :: k)) cs w) (lone (b.atR (Act.put { tmps := a.tmps, defers := D' } o.dst u) (.inRegion ops rest :: k)) (csAft s.pan s'.recd cs) w') ∧
        Wrote B Z s.H L w s'.H L' w' ∧ StRel B N Z s' L' w' b { tmps := a.tmps, defers := D' } (csAft s.pan s'.recd cs) ∧ (o.dst.isSome = true → SRel Z s'.H L' w' v u) ∧ s'.pan = s.pan ∧ s'.env = s.env ∧ L.length ≤ L'.length
    | .pan v s' => ∃ L' w' k₁ u, Steps C.P (lone (b.atR a (.inRegion ops (i :: rest) :: k)) cs w) (lone { b.atR a k₁ with mode := .panicking [{ v := u, recovered := false }] } (csAft s.pan s'.recd cs) w') ∧
        Wrote B Z s.H L w s'.H L' w' ∧ StRel B N Z s' L' w' b a (csAft s.pan s'.recd cs) ∧ VRel Z s'.H L' w' v u ∧ s'.pan = s.pan ∧ L.length ≤ L'.length

theorem StRel.turn {N : Nat} {s : St} {b : Frame} {a : Act} {cs : List Frame} (h : StRel B N Z s L w b a cs) {H' : Heap} (hW : Wrote B Z s.H L w H' L' w') : StRel B N Z { s with H := H' } L' w' b a cs :=
  ⟨hW.rel, h.env.mono hW.ext, h.fn, h.defs.mono hW.ext, Nat.le_trans h.base hW.ext.below.size, h.pan.mono hW.ext, h.rnd.mono hW.ext⟩

theorem Wrote.len (h : Wrote B Z H L w H' L' w') (hl : L.length = H.length) : L.length ≤ L'.length := by
  rw [h.rel.len, hl]
  rcases Nat.lt_or_ge H'.length H.length with hlt | hge
  · have h1 : H'.length < H.length := hlt
    obtain ⟨o', h2, _⟩ := h.ext.obj H'.length _ (List.getElem?_eq_getElem h1)
    rw [List.getElem?_eq_none (Nat.le_refl _)] at h2
    cases h2
  · exact hge

/-- An operation that yields a value and goes on. -/
theorem op_value {ops : Array Oper} {i : Nat} {o : Oper} {b : Frame} {a : Act} {cs : List Frame} {rest : List Nat} {k : List Item} {P : Program} (ho : ops[i]? = some o) (hw : Region.wanted o (yielded ops a.tmps) = true) {u : Value}
    (h : (o.semAt b.roundOf a.eval).run P w = .ok (.value u) w') : Go.step P (lone (b.atR a (.inRegion ops (i :: rest) :: k)) cs w) = .next (lone (b.atR (a.put o.dst u) (.inRegion ops rest :: k)) cs w') := by
  have hg := stepGR_op (P := P) (b := b) (k := k) (cs := cs) (w := w) (rest := rest) ho hw
  have hfin := Frame.finish_atR b a ops i rest k u
  rw [ho] at hfin
  refine step_lone_go ?_
  rw [hg]
  simp only [stepG.apply, Sem.runT_eq, if_true, h, GStep.bare_after, GStep.bare_go]
  rw [hfin]
  rfl
theorem op_skip {ops : Array Oper} {i : Nat} {o : Oper} {b : Frame} {a : Act} {cs : List Frame} {rest : List Nat} {k : List Item} {P : Program} (ho : ops[i]? = some o) (hw : Region.wanted o (yielded ops a.tmps) = true)
    (h : (o.semAt b.roundOf a.eval).run P w = .ok .skip w') : Go.step P (lone (b.atR a (.inRegion ops (i :: rest) :: k)) cs w) = .next (lone (b.atR (a.put o.dst undef) (.inRegion ops rest :: k)) cs w') := by
  have hg := stepGR_op (P := P) (b := b) (k := k) (cs := cs) (w := w) (rest := rest) ho hw
  have hfin := Frame.finish_atR b a ops i rest k undef
  rw [ho] at hfin
  refine step_lone_go ?_
  rw [hg]
  simp only [stepG.apply, Sem.runT_eq, if_true, h, GStep.bare_after, GStep.bare_go]
  rw [hfin]
  rfl
theorem op_panic {ops : Array Oper} {i : Nat} {o : Oper} {b : Frame} {a : Act} {cs : List Frame} {rest : List Nat} {k : List Item} {P : Program} (ho : ops[i]? = some o) (hw : Region.wanted o (yielded ops a.tmps) = true) {u : Value}
    (h : (o.semAt b.roundOf a.eval).run P w = .halt (.panic u) w') : Go.step P (lone (b.atR a (.inRegion ops (i :: rest) :: k)) cs w) = .next (lone { b.atR a (.inRegion ops (i :: rest) :: k) with mode := .panicking [{ v := u, recovered := false }] } cs w') := by
  have hg := stepGR_op (P := P) (b := b) (k := k) (cs := cs) (w := w) (rest := rest) ho hw
  refine step_lone_go ?_
  rw [hg, ← Frame.raise_atR]
  simp only [stepG.apply, Sem.runT_eq, if_true, h, GStep.bare_after, GStep.bare_go]

theorem evQ_nodefer {e : Env} {o : Oper} {x : AVal} (h : evQ C e H o = some x) (c : Call) : o.op ≠ .defer c := by
  intro hd
  unfold evQ at h
  rw [hd] at h
  cases h
theorem evB_nodefer {e : Env} {o : Oper} {x : AObj × (Nat → AVal)} (h : evB C e H o = some x) (c : Call) : o.op ≠ .defer c := by
  intro hd
  unfold evB at h
  rw [hd] at h
  cases h
theorem evX_defer {e : Env} {o : Oper} {x : XR} {c : Call} (h : evX C e H o = some x) (hd : o.op = .defer c) : ∃ f args, x = .defer f args := by
  unfold evX at h
  rw [hd] at h
  obtain ⟨callee, args, ats⟩ := c
  cases callee with
  | value f =>
    dsimp only at h
    split at h
    · simp only [Option.map_eq_some_iff] at h
      obtain ⟨vs, _, rfl⟩ := h
      exact ⟨_, _, rfl⟩
    · cases h
  | _ => cases h

theorem op_quiet (hC : TabOk C) {ops : Array Oper} {i : Nat} {o : Oper} {s : St} {v : AVal} (h : evQ C s.env s.H o = some v) : OpOk C ops i o s (.ok v s) := by
  intro B N Z L w b a cs rest k hS ho hw
  obtain ⟨u, h1, h2⟩ := evQ_sound hC hS.heap hS.env h
  have hsem := o.semAt_eq b.roundOf a.eval (evQ_nodefer h)
  dsimp only
  rw [csAft_same hS.pan]
  exact ⟨L, w, a.defers, u, .one (op_value ho hw (by rw [hsem]; exact h1)), Wrote.refl hS.heap, hS, fun _ => h2, rfl, rfl, Nat.le_refl _⟩

theorem op_birth (hC : TabOk C) {ops : Array Oper} {i : Nat} {o : Oper} {s : St} {obj : AObj} {f : Nat → AVal} (h : evB C s.env s.H o = some (obj, f)) : OpOk C ops i o s (.ok (f s.H.length) { s with H := s.H ++ [obj] }) := by
  intro B N Z L w b a cs rest k hS ho hw
  have hlen := hS.heap.len
  obtain ⟨u, w', h1, _, h2⟩ := evB_sound hC (HRel.hole hS.heap obj) (hS.env.mono (Ext.hole hS.heap obj)) h (id := s.H.length) (by simp [hlen]) (by rw [locOf_append, if_pos hlen.symm]) (by simp)
  have hW := wrote_new hS.heap h2
  have hsem := o.semAt_eq b.roundOf a.eval (evB_nodefer h)
  have hcs : csAft s.pan s.recd cs = cs := csAft_same hS.pan
  refine ⟨_, w', a.defers, u, ?_, hW, ?_, fun _ => .inr h2.val, rfl, rfl, hW.len hlen⟩
  · show Steps C.P _ (lone _ (csAft s.pan s.recd cs) _)
    rw [hcs]
    exact .one (op_value ho hw (by rw [hsem]; exact h1))
  · show StRel B N Z _ _ w' b a (csAft s.pan s.recd cs)
    rw [hcs]
    exact hS.turn hW
end
end Go.Ev
/- Operations in a frame, on: writes, recovery, deferral, panics; regions in the order of the text. Each theorem bears its own conditions. -/
set_option linter.unusedVariables false
set_option linter.unusedSectionVars false
set_option linter.unusedSimpArgs false
namespace Go.Ev
open Go.RowKit
variable [Globs]
section
variable {Z : Nat → Nat → Prop} {H H' : Heap} {L L' : Locs} {w w' : World} {B : Nat} {C : Ctx}

theorem op_val (hC : TabOk C) {ops : Array Oper} {i : Nat} {o : Oper} {s : St} {v : AVal} {H' : Heap} (h : evX C s.env s.H o = some (.val v H')) : OpOk C ops i o s (.ok v { s with H := H' }) := by
  intro B N Z L w b a cs rest k hS ho hw
  have hx := evX_sound hC hS.heap hS.env h
  have hsem := o.semAt_eq b.roundOf a.eval (fun c hd => by obtain ⟨f, args, hx⟩ := evX_defer h hd; cases hx)
  have hcs : csAft s.pan s.recd cs = cs := csAft_same hS.pan
  obtain ⟨L', w', hW, h1⟩ := hx
  have hS' := hS.turn hW
  have hl := hW.len hS.heap.len
  rcases h1 with ⟨hd, h2⟩ | ⟨u, h2, h3⟩
  · refine ⟨L', w', a.defers, undef, ?_, hW, ?_, fun h => (by rw [hd] at h; cases h), rfl, rfl, hl⟩
    · show Steps C.P _ (lone _ (csAft s.pan s.recd cs) _)
      rw [hcs]
      exact .one (op_skip ho hw (by rw [hsem]; exact h2))
    · show StRel B N Z _ _ w' b a (csAft s.pan s.recd cs)
      rw [hcs]
      exact hS'
  · refine ⟨L', w', a.defers, u, ?_, hW, ?_, fun _ => .inr h3, rfl, rfl, hl⟩
    · show Steps C.P _ (lone _ (csAft s.pan s.recd cs) _)
      rw [hcs]
      exact .one (op_value ho hw (by rw [hsem]; exact h2))
    · show StRel B N Z _ _ w' b a (csAft s.pan s.recd cs)
      rw [hcs]
      exact hS'

theorem op_raise (hC : TabOk C) {ops : Array Oper} {i : Nat} {o : Oper} {s : St} {v : AVal} (h : evX C s.env s.H o = some (.panic v)) : OpOk C ops i o s (.pan v s) := by
  intro B N Z L w b a cs rest k hS ho hw
  have hx := evX_sound hC hS.heap hS.env h
  have hsem := o.semAt_eq b.roundOf a.eval (fun c hd => by obtain ⟨f, args, hx⟩ := evX_defer h hd; cases hx)
  obtain ⟨u, h1, h2, _⟩ := hx
  dsimp only
  rw [csAft_same hS.pan]
  exact ⟨L, w, _, u, .one (op_panic ho hw (by rw [hsem]; exact h1)), Wrote.refl hS.heap, hS, h2, rfl, Nat.le_refl _⟩

theorem op_defer (hC : TabOk C) {ops : Array Oper} {i : Nat} {o : Oper} {s : St} {f : FuncId} {args : List AVal} (hp : s.pan ≠ some .bad) (h : evX C s.env s.H o = some (.defer f args)) : OpOk C ops i o s (.ok (.tup []) { s with defs := (f, args) :: s.defs }) := by
  intro B N Z L w b a cs rest k hS ho hw
  obtain ⟨first, caps, vs, h1, h2, h3⟩ := evX_sound hC hS.heap hS.env h
  have hro : b.roundOf = none := by
    cases hr : b.roundOf with
    | none => rfl
    | some l => exact absurd (hS.rnd l hr).1 hp
  have hsem : o.semAt b.roundOf a.eval = execOp a.eval o := by rw [hro]; exact Oper.semAt_none _ _
  have hcs : csAft s.pan s.recd cs = cs := csAft_same hS.pan
  refine ⟨L, w, { target := .fn (.func f) caps, args := first ++ vs } :: a.defers, undef, ?_, Wrote.refl hS.heap, ?_, fun _ => .inr (.tup _ _ rfl (by simp)), rfl, rfl, Nat.le_refl _⟩
  · show Steps C.P _ (lone _ (csAft s.pan s.recd cs) _)
    rw [hcs]
    have hg := stepGR_op (P := C.P) (b := b) (k := k) (cs := cs) (w := w) (rest := rest) ho hw
    have hfin := Frame.finish_atR b { tmps := a.tmps, defers := { target := .fn (.func f) caps, args := first ++ vs } :: a.defers } ops i rest k undef
    rw [ho] at hfin
    refine .one (step_lone_go ?_)
    rw [hg, hsem]
    simp only [stepG.apply, Sem.runT_eq, if_true, h1, GStep.bare_after, GStep.bare_go]
    exact congrArg (fun fr => GStep.go { frame := fr, callers := cs, status := .running, dying := none } w) hfin
  · show StRel B N Z _ _ w b _ (csAft s.pan s.recd cs)
    rw [hcs]
    exact ⟨hS.heap, hS.env, hS.fn, .call f args caps (first ++ vs) s.defs a.defers h2 h3 hS.defs, hS.base, hS.pan, hS.rnd⟩

theorem op_recover_nil (hC : TabOk C) {ops : Array Oper} {i : Nat} {o : Oper} {s : St} (hp : s.pan = none ∨ (live s.pan = true ∧ s.recd = true)) (h : evX C s.env s.H o = some .recover) : OpOk C ops i o s (.ok .nili s) := by
  intro B N Z L w b a cs rest k hS ho hw
  have h1 : (execOp a.eval o).run C.P w = .ok .recover w := evX_sound hC hS.heap hS.env h
  have hpr := hS.pan
  unfold PanRel at hpr
  have key : b.roundOf = none ∧ ∀ fr : Frame, fr.kind = b.kind → tryRecover fr cs = none := by
    rcases hp with hp | ⟨hl, hr⟩
    · rw [hp] at hpr
      simp only [live, Bool.false_eq_true, if_false] at hpr
      exact hpr trivial
    · rw [if_pos hl] at hpr
      obtain ⟨h2, h3, v, c, rst, u, h4, rfl, h6, _⟩ := hpr
      refine ⟨h2, fun fr hfr => ?_⟩
      rw [h3] at hfr
      simp [tryRecover, hfr, h6, hr]
  obtain ⟨hro, hno⟩ := key
  have hsem : o.semAt b.roundOf a.eval = execOp a.eval o := by rw [hro]; exact Oper.semAt_none _ _
  dsimp only
  rw [csAft_same hS.pan]
  refine ⟨L, w, a.defers, .nilIface, ?_, Wrote.refl hS.heap, hS, fun _ => .inr (.data _ _ .nili), rfl, rfl, Nat.le_refl _⟩
  have hg := stepGR_op (P := C.P) (b := b) (k := k) (cs := cs) (w := w) (rest := rest) ho hw
  have hfin := Frame.finish_atR b a ops i rest k .nilIface
  rw [ho] at hfin
  have hn := hno (b.atR a (.inRegion ops (i :: rest) :: k)) rfl
  have hr2 : (b.atR a (.inRegion ops (i :: rest) :: k)).roundOf = none := hro
  refine .one (step_lone_go ?_)
  rw [hg, hsem]
  simp only [stepG.apply, Sem.runT_eq, if_true, h1, GStep.bare_after, GStep.bare_go, hr2, hn]
  exact congrArg (fun fr => GStep.go { frame := fr, callers := cs, status := .running, dying := none } w) hfin

theorem op_recover (hC : TabOk C) {ops : Array Oper} {i : Nat} {o : Oper} {s : St} {v : AVal} (hp : s.pan = some v) (hl : live s.pan = true) (hr : s.recd = false) (h : evX C s.env s.H o = some .recover) : OpOk C ops i o s (.ok v { s with recd := true }) := by
  intro B N Z L w b a cs rest k hS ho hw
  have h1 : (execOp a.eval o).run C.P w = .ok .recover w := evX_sound hC hS.heap hS.env h
  have hpr := hS.pan
  unfold PanRel at hpr
  rw [if_pos hl] at hpr
  obtain ⟨hro, h3, v', c, rst, u, h4, rfl, h6, h7⟩ := hpr
  have hv : v' = v := by rw [hp] at h4; exact (Option.some.inj h4).symm
  subst hv
  have hsem : o.semAt b.roundOf a.eval = execOp a.eval o := by rw [hro]; exact Oper.semAt_none _ _
  have hset : setRec true c = { c with mode := .panicking [{ v := u, recovered := true }] } := by unfold setRec; rw [h6]
  have hcs : csAft s.pan true (c :: rst) = setRec true c :: rst := by simp [csAft, hl, aft]
  dsimp only
  rw [hcs]
  refine ⟨L, w, a.defers, u, ?_, Wrote.refl hS.heap, ⟨hS.heap, hS.env, hS.fn, hS.defs, hS.base, ?_, hS.rnd⟩, fun _ => .inr h7, rfl, rfl, Nat.le_refl _⟩
  · have hg := stepGR_op (P := C.P) (b := b) (k := k) (cs := c :: rst) (w := w) (rest := rest) ho hw
    have hfin := Frame.finish_atR b a ops i rest k u
    rw [ho] at hfin
    have hr2 : (b.atR a (.inRegion ops (i :: rest) :: k)).roundOf = none := hro
    have hk2 : (b.atR a (.inRegion ops (i :: rest) :: k)).kind = .deferred := h3
    have htr : tryRecover (b.atR a (.inRegion ops (i :: rest) :: k)) (c :: rst) = some (u, setRec true c :: rst) := by simp [tryRecover, hk2, h6, hr, hset]
    refine .one (step_lone_go ?_)
    rw [hg, hsem]
    simp only [stepG.apply, Sem.runT_eq, if_true, h1, GStep.bare_after, GStep.bare_go, hr2, htr]
    exact congrArg (fun fr => GStep.go { frame := fr, callers := setRec true c :: rst, status := .running, dying := none } w) hfin
  · unfold PanRel
    rw [if_pos hl]
    exact ⟨hro, h3, v', setRec true c, rst, u, h4, rfl, by rw [hset], h7⟩

/-! ### A region in the order of the text -/
def exOf : Option AVal → Ex
  | none => .normal
  | some v => .panic v
def RunsOps (C : Ctx) (ops : Array Oper) (l : List Nat) (s : St) (p : Option AVal) (s' : St) : Prop :=
  ∀ (B N : Nat) (Z : Nat → Nat → Prop) (L : Locs) (w : World) (b : Frame) (a : Act) (cs : List Frame) (k : List Item), StRel B N Z s L w b a cs → (∀ o ∈ ops.toList, ∀ d, o.dst = some d → d < a.tmps.size) →
    ∃ L' w' a', Ends C.P (VRel Z s'.H L' w') (lone (b.atR a (.inRegion ops l :: k)) cs w) b k (csAft s.pan s'.recd cs) a' w' (exOf p) ∧ Wrote B Z s.H L w s'.H L' w' ∧
      StRel B N Z s' L' w' b a' (csAft s.pan s'.recd cs) ∧ s'.pan = s.pan ∧ a'.tmps.size = a.tmps.size ∧ L.length ≤ L'.length

theorem Act.size_put (a : Act) (dst : Option Tmp) (v : Value) : (a.put dst v).tmps.size = a.tmps.size := by
  cases dst <;> simp [Act.put]

theorem StRel.put {N : Nat} {s : St} {b : Frame} {a : Act} {cs : List Frame} (h : StRel B N Z s L w b a cs) {dst : Option Tmp} (hd : ∀ d, dst = some d → d < a.tmps.size) {v : AVal} {u : Value} (hv : dst.isSome = true → SRel Z s.H L w v u) :
    StRel B N Z { s with env := putA s.env dst v } L w b (a.put dst u) cs := by
  cases dst with
  | none => exact ⟨h.heap, h.env, h.fn, h.defs, h.base, h.pan, h.rnd⟩
  | some d => exact ⟨h.heap, h.env.put (hd d rfl) (hv rfl), h.fn, h.defs, h.base, h.pan, h.rnd⟩

def OA.st : OA → St
  | .ok _ s => s
  | .pan _ s => s
/-- What operations keep. -/
structure Kept (I : St → Prop) : Prop where
  env : ∀ (s : St) (e : Env), I s → I { s with env := e }
theorem opsA_inv {I : St → Prop} (hI : Kept I) {rec : Task → Option Res} {ops : Array Oper} (hop : ∀ (i : Nat) (o : Oper) (s : St) (x : OA), I s → ops[i]? = some o → opA rec C s o = some x → I x.st) :
    ∀ (l : List Nat) (s : St) (p : Option AVal) (s' : St), I s → opsA rec C ops l s = some (p, s') → I s'
  | [], s, p, s', hs, h => by
    simp only [opsA, Option.some.injEq, Prod.mk.injEq] at h
    obtain ⟨rfl, rfl⟩ := h
    exact hs
  | i :: l, s, p, s', hs, h => by
    simp only [opsA] at h
    cases ho : ops[i]? with
    | none => simp only [ho] at h; exact opsA_inv hI hop l s p s' hs h
    | some o =>
      simp only [ho] at h
      obtain ⟨t, ht, h2⟩ := bindo h
      clear h
      cases t with
      | false =>
        simp only [Bool.false_eq_true, if_false] at h2
        exact opsA_inv hI hop l _ p s' (hI.env _ _ hs) h2
      | true =>
        simp only [if_true] at h2
        obtain ⟨x, hx, h3⟩ := bindo h2
        have hO := hop i o s x hs ho hx
        cases x with
        | ok v s1 => exact opsA_inv hI hop l _ p s' (hI.env _ _ hO) h3
        | pan v s1 =>
          simp only [Option.some.injEq, Prod.mk.injEq] at h3
          obtain ⟨rfl, rfl⟩ := h3
          exact hO
theorem opsA_sound {I : St → Prop} (hI : Kept I) {rec : Task → Option Res} {ops : Array Oper} (hop : ∀ (i : Nat) (o : Oper) (s : St) (x : OA), I s → ops[i]? = some o → opA rec C s o = some x → OpOk C ops i o s x ∧ I x.st) :
    ∀ (l : List Nat) (s : St) (p : Option AVal) (s' : St), I s → opsA rec C ops l s = some (p, s') → RunsOps C ops l s p s'
  | [], s, p, s', hs, h => by
    simp only [opsA, Option.some.injEq, Prod.mk.injEq] at h
    obtain ⟨rfl, rfl⟩ := h
    intro B N Z L w b a cs k hS _
    rw [csAft_same hS.pan]
    exact ⟨L, w, a, .one stepR_region_end, Wrote.refl hS.heap, hS, rfl, rfl, Nat.le_refl _⟩
  | i :: l, s, p, s', hs, h => by
    intro B N Z L w b a cs k hS hd
    simp only [opsA] at h
    cases ho : ops[i]? with
    | none =>
      simp only [ho] at h
      obtain ⟨L', w', a', h1, rest⟩ := opsA_sound hI hop l s p s' hs h B N Z L w b a cs k hS hd
      have hst := stepR_op_skip (P := C.P) (b := b) (a := a) (k := k) (cs := cs) (w := w) (ops := ops) (i := i) (rest := l) (by simp [ho])
      simp only [ho, Option.bind_none, Act.put] at hst
      exact ⟨L', w', a', .of_steps (.one hst) h1, rest⟩
    | some o =>
      simp only [ho] at h
      have hmem : o ∈ ops.toList := by rw [← Array.getElem?_toList] at ho; exact List.mem_of_getElem? ho
      obtain ⟨t, ht, h2⟩ := bindo h
      clear h
      have hwant := wanted_sound hS.env ht
      cases t with
      | false =>
        simp only [Bool.false_eq_true, if_false] at h2
        have hS' := hS.put (fun d hdd => hd o hmem d hdd) (v := .tup []) (u := undef) (fun _ => .inr (.tup _ _ rfl (by simp)))
        obtain ⟨L', w', a', h1, g2, g3, g4, g5, g6⟩ := opsA_sound hI hop l _ p s' (hI.env _ _ hs) h2 B N Z L w b _ cs k hS' (by rw [Act.size_put]; exact hd)
        have hst := stepR_op_skip (P := C.P) (b := b) (a := a) (k := k) (cs := cs) (w := w) (ops := ops) (i := i) (rest := l) (by simp [ho, hwant])
        simp only [ho, Option.bind_some] at hst
        exact ⟨L', w', a', .of_steps (.one hst) h1, g2, g3, g4, by rw [g5, Act.size_put], g6⟩
      | true =>
        simp only [if_true] at h2
        obtain ⟨x, hx, h3⟩ := bindo h2
        clear h2
        have hO2 := hop i o s x hs ho hx
        have hO := hO2.1 B N Z L w b a cs l k hS ho hwant
        cases x with
        | ok v s1 =>
          obtain ⟨L1, w1, D1, u, h4, h5, h6, h7, h8, h9, h10⟩ := hO
          dsimp only at h3
          have hS' := h6.put (dst := o.dst) (fun d hdd => hd o hmem d hdd) (v := v) (u := u) h7
          obtain ⟨L', w', a', g1, g2, g3, g4, g5, g6⟩ := opsA_sound hI hop l { s1 with env := putA s1.env o.dst v } p s' (hI.env s1 _ hO2.2) h3 B N Z L1 w1 b _ _ k hS' (by rw [Act.size_put]; exact hd)
          rw [show ({ s1 with env := putA s1.env o.dst v } : St).pan = s.pan from h8, csAft_csAft] at g1 g3
          exact ⟨L', w', a', .of_steps h4 g1, h5.trans g2 h10, g3, g4.trans h8, by rw [g5, Act.size_put], Nat.le_trans h10 g6⟩
        | pan v s1 =>
          obtain ⟨L1, w1, k1, u, h4, h5, h6, h7, h8, h9⟩ := hO
          simp only [Option.some.injEq, Prod.mk.injEq] at h3
          obtain ⟨rfl, rfl⟩ := h3
          exact ⟨L1, w1, a, ⟨k1, u, h7, h4⟩, h5, h6, h8, rfl, h9⟩

/-- A region whose order is the text's. -/
theorem ok_region {I : St → Prop} (hI : Kept I) {rec : Task → Option Res} {id : Nat} {ops : Array Oper} {s : St} {e : Ex} {s' : St} (hs : I s) (hop : ∀ (i : Nat) (o : Oper) (s : St) (x : OA), I s → ops[i]? = some o → opA rec C s o = some x → OpOk C ops i o s x ∧ I x.st)
    (h : regionA rec C id ops false s = some (.code e s')) : CodeOk C (.region id ops false) s e s' := by
  unfold regionA at h
  simp only [Bool.false_eq_true, if_false, Option.map_eq_some_iff] at h
  obtain ⟨⟨p, s1⟩, h1, h2⟩ := h
  have hrun := opsA_sound hI hop _ s p s1 hs h1
  intro B N Z L w b a cs k hS hok
  obtain ⟨L', w', a', g1, g2, g3, g4, g5, g6⟩ := hrun B N Z L w b a cs k hS (by
    intro o ho d hd
    simp only [okC, List.all_eq_true] at hok
    have := hok o ho
    rw [hd] at this
    simpa using this)
  have hg : Ends C.P (VRel Z s1.H L' w') (lone (b.atR a (.code (.region id ops false) :: k)) cs w) b k (csAft s.pan s1.recd cs) a' w' (exOf p) := .of_steps (.one stepR_region) g1
  have hS2 : StRel B N Z { s1 with env := restrict (C.keep s.fn) s1.env } L' w' b a' (csAft s.pan s1.recd cs) := ⟨g3.heap, g3.env.restrict _, g3.fn, g3.defs, g3.base, g3.pan, g3.rnd⟩
  unfold finishR at h2
  cases p with
  | none =>
    simp only [Res.code.injEq] at h2
    obtain ⟨rfl, rfl⟩ := h2
    exact ⟨L', w', a', hg, g2, hS2, g4, g5, g6⟩
  | some v =>
    simp only [Res.code.injEq] at h2
    obtain ⟨rfl, rfl⟩ := h2
    exact ⟨L', w', a', hg, g2, hS2, g4, g5, g6⟩
end
end Go.Ev
