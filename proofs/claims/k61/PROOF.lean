import PyProof.Rows.All
import Wide.All
import OpenK.AllK
import Wide.FinOn
import PyProof.EqAt
import PyProof.EqKinds
import PyProof.TupleCall
import KE.KNest
import HandS.Base
import HandS.Call
import HandS.List
import HandS.Comp
import HandS.Lambda
import HandS.AnyAll
import HandS.GenOver
import HandS.GenList
import KE.GoesComp
import KE.GoesRaise
import HandS.Exc
import KE.KMinKey
import HandS.SortKw
import Open.SpecLaws
import KE.OsGo
import KE.KSuper
import KE.KExcSuper
import HandS.Ends
import HandS.ExcOwn
import HandS.TupAny
import HandS.CallSlots
import HandS.IsInst
import HandS.Defaults
import HandS.WordsExc
import HandS.Words
import KE.KNestM
import KE.KExcInit
import HandS.HeadHook1
import HandS.HeadHook2
import HandS.HeadHook3
import HandS.HeadHook4
import HandS.HeadWalk
import KE.KStateDown
import Lean
import HandS.More
import HandS.Head0
import HandS.Head1
import HandS.Head2
import HandS.HeadEnd
import PySem.Challenge.RW_translatory_k61_values_and_applications
set_option Elab.async false
set_option linter.all false
set_option maxRecDepth 100000
set_option maxHeartbeats 4000000
/-! any, all of a generator expression over anything that PI serves; its element may call. -/
namespace GX
open PySem PySem.Spec PyProof.Rows L2

/-- the frame of a generator expression as a context -/
abbrev cxG (X : Cx) (B : Around) (s : Shared) (H : Hp) (cenv : Env) (fp : List Addr) : Cx :=
  { X with A := B, s_0 := s, H_0 := H, env := cenv, outer := X.stack, stack := cenv :: X.stack, ex := fp, fn := fun _ => false, calm := true, pn := [], xe := fun _ _ => False }

/-- the names of the generator expression's own scope -/
structure GenOk (N : List Str) (sc scope : Scope) (own : List (Str × Nat)) : Prop where
  kind : scope.kind = .function
  co : scope.isCoroutine = false
  cell : ∀ y ∈ scope.names, y.2 ≠ .cell
  dot : scope.names.lookup (".0" : Str) = some NameKind.local
  ix : ∀ p ∈ own, N[p.2]? = some p.1
  free : ∀ y ∈ scope.names, y.2 = .free → sc.names.lookup y.1 = some .cell ∨ sc.names.lookup y.1 = some .free
  own : ∀ y ∈ scope.names, y.2 = .local → y.1 ∈ own.map (·.1) ∨ y.1 ∉ N
def genC (N : List Str) (sc scope : Scope) (own : List (Str × Nat)) : Bool :=
  (match scope.kind with | .function => true | _ => false) && !scope.isCoroutine && (own.all fun p => decide (N[p.2]? = some p.1)) && decide (scope.names.lookup (".0" : Str) = some NameKind.local) &&
    (scope.names.all fun y => match y.2 with
      | .free => (match sc.names.lookup y.1 with | some .cell => true | some .free => true | _ => false)
      | .local => decide (y.1 ∈ own.map (·.1)) || decide (y.1 ∉ N)
      | .cell => false
      | _ => true)
theorem genOk_by {N : List Str} {sc scope : Scope} {own : List (Str × Nat)} (h : genC N sc scope own = true) : GenOk N sc scope own := by
  unfold genC at h
  simp only [Bool.and_eq_true, List.all_eq_true, decide_eq_true_eq, Bool.not_eq_true'] at h
  obtain ⟨⟨⟨⟨h1, h2⟩, h3⟩, h4⟩, h5⟩ := h
  refine ⟨?_, h2, fun y hy e => ?_, h4, h3, fun y hy e => ?_, fun y hy e => ?_⟩
  · split at h1
    · assumption
    · cases h1
  · have q := h5 y hy
    simp only [e] at q
    cases q
  · have q := h5 y hy
    simp only [e] at q
    split at q <;> first | exact .inl (by assumption) | exact .inr (by assumption) | cases q
  · have q := h5 y hy
    simp only [e, Bool.or_eq_true, decide_eq_true_eq] at q
    exact q
theorem GenOk.has {X : Cx} {scope : Scope} {own : List (Str × Nat)} (ok : GenOk X.N X.env.scope scope own) (o : X.Ok) : ∀ y ∈ scope.names, y.2 = .free → ∃ c, X.env.cells.lookup y.1 = some c := fun y hy e => by
  rcases ok.free y hy e with k | k
  · exact o.has _ (.inl k)
  · exact o.has _ (.inr k)

section
variable {X : Cx} {pins : List (Addr × Obj)} {σ : L2.St} {H : Hp} {s s5 : Shared}
theorem gen_start {scope : Scope} {own : List (Str × Nat)} {fp : List Addr} {it : Value} {a : Addr} {gobj : Obj} {code : Value} {B : Around} {cenv : Env} (I : Inv X pins σ H s) (ok : GenOk X.N X.env.scope scope own) (hN : X.N.Nodup)
    (hfp : ∀ b ∈ fp, FpOk X pins H b ∧ b < s.heap.objs.size) (hce : cenv = genEnv scope (cloFrom X.env.cells scope.names []) s.heap.objs.size code builtinsNs X.env)
    (hos : s5.os = s.os) (hbare : AllBare s5.gens) (hk : ∀ b o, s.heap.get? b = some o → s5.heap.get? b = some o)
    (hns : s5.heap.Ns s.heap.objs.size (fun y => if y = ".0" then some it else none)) (hB : B.handled = none) (hfr : B.frames = some (cenv :: X.stack))
    (ha : s5.heap.get? a = some gobj) (haC : s.heap.objs.size < a) (hgd : ∀ v, gobj.data ≠ .cell v) :
    Inv (cxG X B s H cenv fp) [(a, gobj)] (wipe σ (own.map (·.2))) H s5 := by
  have hL : cenv.locals = s.heap.objs.size := by rw [hce]; rfl
  have hcl : cenv.cells = cloFrom X.env.cells scope.names [] := by rw [hce]; rfl
  have hsc : cenv.scope = scope := by rw [hce]; rfl
  have hfree := ok.has I.ok
  have cm : ∀ {y c}, cenv.cells.lookup y = some c → X.env.cells.lookup y = some c ∧ c < s.heap.objs.size := fun {y c} e => by
    rw [hcl] at e
    rcases cloFrom_mem (PySem.mem_of_lookup e) with hm | ⟨h1, h2⟩
    · cases hm
    · obtain ⟨c1, hc⟩ := hfree _ h1 rfl
      have hc : X.env.cells.lookup y = some c1 := hc
      have e2 : c = c1 := by
        rw [h2, hc] <;> rfl
      rw [e2]
      obtain ⟨v, z⟩ := I.cell y c1 hc
      exact ⟨hc, z.lt⟩
  have look : ∀ {y}, scope.names.lookup y = some .free → ∃ c, cenv.cells.lookup y = some c := fun {y} hl => by
    rw [hcl]
    have hy : (y, NameKind.free) ∈ scope.names := PySem.mem_of_lookup hl
    exact mem_lookup (cloFrom_has (cells := X.env.cells) (acc := []) hy)
  have okB : (cxG X B s H cenv fp).Ok := by
    refine ⟨I.ok.mod, by show cenv.scope.kind = _; rw [hsc]; exact ok.kind, by show cenv.globals = _; rw [hce]; exact I.ok.glob, by show cenv.builtins = _; rw [hce]; rfl, by show s.heap.objs.size ≤ cenv.locals; rw [hL]; exact Nat.le_refl _,
      fun y z c e1 e2 => I.ok.inj y z c (cm e1).1 (cm e2).1, fun y hy => ?_, fun y c z _ => (by cases z), fun _ => hB, hfr, .inr ⟨rfl, by show cenv.frame = some cenv.locals; rw [hce]; rfl⟩,
      fun b hb => ⟨?_, fun y c e z => ?_⟩, I.bs, Nat.le_trans I.ok.bsz I.sz, fun b o e hb => ?_, fun b hb z => ?_, I.stack, I.stkFree⟩
    · show ∃ c, cenv.cells.lookup y = some c
      have hy : cenv.scope.names.lookup y = some .cell ∨ cenv.scope.names.lookup y = some .free := hy
      rw [hsc] at hy
      rcases hy with hy | hy
      · exact absurd rfl (ok.cell _ (PySem.mem_of_lookup hy))
      · exact look hy
    · show b ≠ cenv.locals
      rw [hL]
      exact Nat.ne_of_lt (hfp b hb).2
    · exact (hfp b hb).1.2.2.2.2.1 y c (cm e).1 z
    · rcases (hfp b hb).1.2.2.2.1 with z | z
      · exact I.ok.noex b o e z
      · exact absurd (Nat.lt_of_lt_of_le (Heap.lt_size e) (Nat.le_trans I.ok.bsz z)) (Nat.lt_irrefl _)
    · rcases List.mem_cons.mp (I.stkSub b z) with z | z
      · exact (hfp b hb).1.2.1 z
      · exact (hfp b hb).1.2.2.1 z
  refine ⟨okB, hos, hbare, Un.kept hk, ⟨_, by show Heap.Ns _ cenv.locals _; rw [hL]; exact hns, fun i y v e1 e2 e3 => ?_⟩, fun y c e => ?_, ?_, fun y c e => I.freeC y c (cm e).1, fun p hp => ?_, I.hok.kept hk, by rw [wipe_length]; exact I.len⟩
  · obtain ⟨e2, hne⟩ := wipe_some e2
    have e3 : Vis cenv.scope y := e3
    rw [hsc] at e3
    have fr : scope.names.lookup y = some .free := by
      rcases e3 with k | k | k
      · rcases ok.own _ (PySem.mem_of_lookup k) rfl with z | z
        · obtain ⟨p, hp, hpy⟩ := List.mem_map.mp z
          have e4 := ok.ix p hp
          have hpy : p.1 = y := hpy
          rw [hpy] at e4
          exact absurd (List.mem_map.mpr ⟨p, hp, nodup_ix hN e4 e1⟩) hne
        · exact absurd (List.mem_of_getElem? e1) z
      · exact absurd rfl (ok.cell _ (PySem.mem_of_lookup k))
      · exact k
    obtain ⟨m, hn, hl⟩ := I.loc
    have hvis : Vis X.env.scope y := (ok.free _ (PySem.mem_of_lookup fr) rfl).elim (fun k => .inr (.inl k)) (fun k => .inr (.inr k))
    obtain ⟨w', r, q⟩ := hl i y v e1 e2 hvis
    obtain ⟨c2, h2⟩ := look fr
    refine ⟨w', r, .inr ⟨.inr (by show cenv.scope.names.lookup y = _; rw [hsc]; exact fr), c2, h2, ?_⟩⟩
    have c1 := (cm h2).1
    rcases q with ⟨k', _⟩ | ⟨_, c3, e', z⟩
    · have k' : X.env.scope.names.lookup y = some .local := k'
      rcases ok.free _ (PySem.mem_of_lookup fr) rfl with k2 | k2 <;> rw [show X.env.scope.names.lookup y = _ from k2] at k' <;> cases k'
    · rw [c1] at e'
      cases e'
      exact z.keeps hk
  · obtain ⟨v, z⟩ := I.cell y c (cm e).1
    exact ⟨v, z.keeps hk⟩
  · show H cenv.locals = none
    rw [hL]
    exact I.hok.fresh (Nat.le_refl _)
  · have hp : p = (a, gobj) := by simpa using hp
    subst hp
    refine ⟨ha, I.hok.fresh (Nat.le_of_lt haC), by show a ≠ cenv.locals; rw [hL]; exact Nat.ne_of_gt haC, fun z => ?_, hgd⟩
    rcases List.mem_cons.mp (I.stkSub a z) with e | e
    · have h1 := I.lt
      rw [← e] at h1
      exact Nat.lt_irrefl _ (Nat.lt_trans h1 haC)
    · exact I.nofs (Nat.le_of_lt haC) e
end

/-! ### the generator's run -/
theorem gens_inv {X : Cx} {pins : List (Addr × Obj)} {σ : L2.St} {H : Hp} {s s' : Shared} (I : Inv X pins σ H s) (e : s'.heap = s.heap) (o : s'.os = s.os) (hb : AllBare s'.gens) : Inv X pins σ H s' := by
  obtain ⟨hp, g, d, t, os⟩ := s'
  have e : hp = s.heap := e
  have o : os = s.os := o
  subst e o
  exact ⟨I.ok, I.os, hb, I.base, I.loc, I.cell, I.free, I.freeC, I.pin, I.hok, I.len⟩
/-- woken again: nothing but the generators' states may have changed -/
def Woken (s s' : Shared) : Prop := s'.heap = s.heap ∧ s'.os = s.os ∧ AllBare s'.gens
/-- what the consumer sees at a yield: it goes on if the value is c -/
def YG (Y : Cx) (pn : List (Addr × Obj)) (σ0 : L2.St) (c : Bool) (QS : Hp → Prop) : Protocol := fun n s₀ v s kap =>
  ∃ (b : Bool) (H : Hp), v = .bool b ∧ Inv Y pn σ0 H s ∧ (b ≠ c → QS H) ∧ (b = c → ∀ s' : Shared, Woken s s' → kap (.send .none) s')
def PG' (Y : Cx) (pn : List (Addr × Obj)) (σ0 : L2.St) (QE : Hp → Prop) : Nat → Shared → Shared → Prop := fun n s₀ s => ∃ H, Inv Y pn σ0 H s ∧ QE H
abbrev RG (Y : Cx) (pn : List (Addr × Obj)) (σ0 : L2.St) (QE : Hp → Prop) : GenEnd := fun n s₀ r s => r = .ok .next ∧ PG' Y pn σ0 QE n s₀ s

section
variable {Y : Cx} {A0 : Around} {elt tg iter : Expr} {scope : Scope} {pos : Pos} {it : Addr} {fp : List Addr} {tn : Nat → Heap → Prop} {J : It} {pn : List (Addr × Obj)} {σ0 : L2.St} {vs : List Nat} {g : TG} {te : TE} {c : Bool} {QE QS : Hp → Prop}
theorem seg_loop (T : Turn Y.prog Y.w Y.K tg J fp it tn) (hc : Y.calm = true) (hex : Y.ex = fp) (hpn : Y.pn = []) (hxe : Y.xe = fun _ _ => False) (pg : PG Y tg g) (pe : PE Y elt te) (hpf : ∀ b ∈ fp, ∀ p ∈ pn, p.1 ≠ b)
    (hYA : A0.over (.compLoop (.GeneratorExp elt [⟨tg, iter, [], 0⟩] scope pos) 0 (.ref it) .none Y.env) [] = Y.A) (hco : Y.env.scope.isCoroutine = false)
    (W : Nat → Nat → Hp → Prop)
    (turn : ∀ i m H, W i m H → (J.stop i H ∧ QE H) ∨ (J.go i H ∧ ∀ x H', J.yld i H x H' → g x σ0 H' fun σ2 H2 => wipe σ2 vs = σ0 ∧ te σ2 H2 fun y H3 => ∃ b, y = .bl b ∧ (b = c → ∃ m', m' < m ∧ W (i + 1) m' H3) ∧ (b ≠ c → QS H3))) :
    ∀ (m n : Nat), m < n → ∀ (i : Nat) (H : Hp) (s s₀ : Shared), Inv Y pn σ0 H s → tn i s.heap → (∀ b ∈ fp, H b = none) → W i m H →
      Seg (model Y.prog Y.w) A0 (RG Y pn σ0 QE) (YG Y pn σ0 c QS) n s₀ (.compLoop (.GeneratorExp elt [⟨tg, iter, [], 0⟩] scope pos) 0 (.ref it) .none Y.env)
        ((model Y.prog Y.w).den (.compLoop (.GeneratorExp elt [⟨tg, iter, [], 0⟩] scope pos) 0 (.ref it) .none Y.env)) [] s := by
  have stat : ∀ {pl : List (Addr × Obj)} {σ' : L2.St} {H' : Hp} {s' : Shared}, Inv Y pl σ' H' s' → (∀ b ∈ fp, ∀ p ∈ pl, p.1 ≠ b) → (∀ b ∈ fp, H' b = none) → ∀ b ∈ fp, FpOk Y pl H' b := fun {pl σ' H' s'} I' hp hn b hb => by
    have hb' : b ∈ Y.ex := by rw [hex]; exact hb
    exact ⟨hn b hb, (I'.ok.exf b hb').1, I'.ok.exfs b hb', .inl hb', fun x c e => (I'.ok.exf b hb').2 x c e, fun p hp' => by rw [hpn, List.nil_append] at hp'; exact hp b hb p hp'⟩
  intro m
  induction m using Nat.strongRecOn with
  | ind m ih =>
  intro n hmn i H s s₀ I st fr w
  show Seg _ A0 _ _ _ s₀ _ ((compTurn (.GeneratorExp elt [⟨tg, iter, [], 0⟩] scope pos) 0 (.ref it) .none Y.env).onRaise (leaving Y.env)) [] s
  rw [compTurn_gen, Sem.onRaise_eq_wrap]
  refine seg_bind_wrap (wpAny_standAt ?_)
  rcases turn i m H w with ⟨stop, q⟩ | ⟨go, step⟩
  · refine seg_bind_wrap ?_
    rw [hYA]
    refine thnF (T.done Y rfl rfl rfl hc i pn s σ0 H (fun _ _ => False) I (stat I hpf fr) st stop) fun r s6 ⟨hr, I6⟩ => ?_
    subst hr
    exact seg_end (.ok .next) ⟨rfl, H, I6, q⟩
  · refine seg_bind_wrap ?_
    rw [hYA]
    refine thnF (T.item Y rfl rfl rfl hc i pn s σ0 H (fun _ _ => False) I (stat I hpf fr) st go) fun r s6 ⟨u, hr, h6⟩ => ?_
    subst hr
    refine seg_bind_wrap ?_
    rw [hYA]
    refine thnF (wpAny_mono h6 (fun _ _ z => z) fun _ _ z => z) fun _ s7 ⟨x, H7, I7, r7, y7, st7, n7⟩ => ?_
    have I7' := I7.pinned (stat I7 hpf n7) (T.obj _ _ st7)
    refine seg_bind_wrap ?_
    rw [hYA]
    refine wpAny_mono (pg.run _ s7 _ H7 x u _ I7' r7 (step x H7 y7)) (fun _ s8 ⟨σ8, H8, I8, hw8, q8⟩ => ?_) (fun _ _ z => by rw [hxe] at z; exact z.elim)
    refine seg_bind_wrap (wpAny_tests_nil ?_)
    simp only [if_true]
    have hy : ∀ v, yieldOut Y.env v = yieldValue v := fun v => by simp only [yieldOut, hco, Bool.false_eq_true, if_false]
    simp only [hy]
    rw [Sem.bind_eq_wrap', Sem.bind_eq_wrap', Sem.wrap_wrap, Sem.wrap_wrap]
    refine seg_wrap ?_
    rw [hYA]
    refine wpAny_mono (pe.run _ s8 σ8 H8 _ I8 q8) (fun y s9 ⟨yv, H9, I9, r9, b, e9, qc, qs⟩ => ?_) (fun _ _ z => by rw [hxe] at z; exact z.elim)
    subst e9
    obtain rfl : y = Value.bool b := r9
    have pin' : ∀ b ∈ fp, ∀ o, s7.heap.get? b = some o → s9.heap.get? b = some o ∧ H9 b = none := fun b hb o e =>
      let z := I9.pin (b, o) (List.mem_append_right _ (List.mem_append_right _ (mem_pinsAt hb e)))
      ⟨z.1, z.2.1⟩
    have hl : σ0.length = σ8.length := by rw [← hw8, wipe_length]
    have I10 : Inv Y pn σ0 H9 s9 := (I9.unpinned (pins := pn)).weak hl fun j v e => by
      rw [← hw8] at e
      exact (wipe_some e).1
    have st9 : tn (i + 1) s9.heap := T.keep _ _ _ st7 fun b hb o e => (pin' b hb o e).1
    have n9 : ∀ b ∈ fp, H9 b = none := fun b hb => by
      obtain ⟨o, e, _⟩ := T.obj _ _ st7 b hb
      exact (pin' b hb o e).2
    cases n with
    | zero =>
      exact absurd hmn (Nat.not_lt_zero _)
    | succ n =>
      refine seg_at (seg_yield rfl rfl rfl ⟨b, H9, rfl, I10, qs, fun hbc s' hs' => ?_⟩)
      obtain ⟨m', hm, w'⟩ := qc hbc
      obtain ⟨e1, e2, e3⟩ := hs'
      refine seg_again rfl (ih m' hm n (by omega) (i + 1) H9 s' s' (gens_inv I10 e1 e2 e3) (by rw [e1]; exact st9) n9 w')
end

section
variable {Y : Cx} {A0 : Around} {elt tg iter : Expr} {scope : Scope} {pos : Pos} {it : Addr} {fp : List Addr} {tn : Nat → Heap → Prop} {J : It} {pn : List (Addr × Obj)} {σ0 : L2.St} {vs : List Nat} {g : TG} {te : TE} {c : Bool} {QE QS : Hp → Prop}
theorem seg_start (T : Turn Y.prog Y.w Y.K tg J fp it tn) (hc : Y.calm = true) (hex : Y.ex = fp) (hpn : Y.pn = []) (hxe : Y.xe = fun _ _ => False) (pg : PG Y tg g) (pe : PE Y elt te) (hpf : ∀ b ∈ fp, ∀ p ∈ pn, p.1 ≠ b)
    (hYA : A0.over (.compLoop (.GeneratorExp elt [⟨tg, iter, [], 0⟩] scope pos) 0 (.ref it) .none Y.env) [] = Y.A) (hco : Y.env.scope.isCoroutine = false)
    (W : Nat → Nat → Hp → Prop)
    (turn : ∀ i m H, W i m H → (J.stop i H ∧ QE H) ∨ (J.go i H ∧ ∀ x H', J.yld i H x H' → g x σ0 H' fun σ2 H2 => wipe σ2 vs = σ0 ∧ te σ2 H2 fun y H3 => ∃ b, y = .bl b ∧ (b = c → ∃ m', m' < m ∧ W (i + 1) m' H3) ∧ (b ≠ c → QS H3)))
    (m n : Nat) (hmn : m < n) (H : Hp) (s s₀ : Shared) (I : Inv Y pn σ0 H s) (st : tn 0 s.heap) (fr : ∀ b ∈ fp, H b = none) (w : W 0 m H) :
    Seg (model Y.prog Y.w) A0 (RG Y pn σ0 QE) (YG Y pn σ0 c QS) n s₀ (.compStart (.GeneratorExp elt [⟨tg, iter, [], 0⟩] scope pos) 0 (.ref it) .none Y.env)
      ((model Y.prog Y.w).den (.compStart (.GeneratorExp elt [⟨tg, iter, [], 0⟩] scope pos) 0 (.ref it) .none Y.env)) [] s := by
  have loop := seg_loop (iter := iter) (scope := scope) (pos := pos) T hc hex hpn hxe pg pe hpf hYA hco W turn m n hmn 0 H s s₀ I st fr w
  show Seg _ A0 _ _ _ s₀ _ ((compStart (.GeneratorExp elt [⟨tg, iter, [], 0⟩] scope pos) 0 (.ref it) .none Y.env).onRaise (leaving Y.env)) [] s
  unfold compStart
  rw [Sem.onRaise_eq_wrap]
  show Seg _ A0 _ _ _ s₀ _ ((ask >>= _).wrap _ _ _ _) [] s
  refine seg_bind_wrap (wpAny_askSetting ?_)
  split
  · exact seg_again rfl loop
  · first
      | exact seg_bind_wrap (wpAny_rule (seg_bind_wrap (wpAny_standAt (seg_bind_wrap (T.self _ 0 s _ _ st (seg_again rfl loop))))))
      | (refine seg_bind_wrap (wpAny_rule ?_); show Seg _ A0 _ _ _ s₀ _ ((standAt iter.pos >>= _).wrap _ _ _ _) [] s; exact seg_bind_wrap (wpAny_standAt (seg_bind_wrap (T.self _ 0 s _ _ st (seg_again rfl loop)))))
end

/-! ### the consumer -/
section
variable {Y : Cx} {a : Addr} {g : Nat} {gobj : Obj} {σ0 : L2.St} {c : Bool} {QE QS : Hp → Prop} {A : Around} {R : Result → Shared → Prop}
/-- the generator goes, from a state with nothing but its own mark changed -/
abbrev GoesG (Y : Cx) (B : Around) (a : Addr) (gobj : Obj) (σ0 : L2.St) (c : Bool) (QE QS : Hp → Prop) (n : Nat) (gs : GenState) (s : Shared) : Prop :=
  gs.Goes (model Y.prog Y.w) B (RG Y [(a, gobj)] σ0 QE) (YG Y [(a, gobj)] σ0 c QS) n (.send .none) s
theorem isGen_of {H : Hp} {s : Shared} (hg : gobj.cls = .type "generator" ∧ (∃ nm qn, gobj.data = .fields #[.int g 0, nm, qn]) ∧ gobj.slots = #[]) (I : Inv Y [(a, gobj)] σ0 H s) : s.heap.IsGen a g := by
  obtain ⟨h1, ⟨nm, qn, h2⟩, h3⟩ := hg
  exact ⟨gobj, nm, qn, (I.pin (a, gobj) (List.mem_append_right _ List.mem_cons_self)).1, h1, h2, h3⟩
/-- one call of next -/
theorem next_ok {n : Nat} {gs : GenState} {H : Hp} {s : Shared} {Q : Option Value → Shared → Prop} {E : Value → Shared → Prop} (hg : gobj.cls = .type "generator" ∧ (∃ nm qn, gobj.data = .fields #[.int g 0, nm, qn]) ∧ gobj.slots = #[]) (hh : A.handled = none) (hd : A.depth < recursionLimit)
    (I : Inv Y [(a, gobj)] σ0 H s) (hgs : s.gens[g]? = some gs) (hgo : GoesG Y A.in1 a gobj σ0 c QE QS n gs (s.setGen g .running))
    (hE : ∀ H' s', Inv Y [(a, gobj)] σ0 H' s' → QE H' → Q none s')
    (hS : ∀ b H' s', Inv Y [(a, gobj)] σ0 H' s' → b ≠ c → QS H' → Q (some (.bool b)) s')
    (hC : ∀ m H' s' gs', n = m + 1 → Inv Y [(a, gobj)] σ0 H' s' → s'.gens[g]? = some gs' → GoesG Y A.in1 a gobj σ0 c QE QS m gs' (s'.setGen g .running) → Q (some (.bool c)) s') :
    wpAny (model Y.prog Y.w) A (pyNext (.ref a)) Q E s := by
  have hgl : g < s.gens.size := (Array.getElem?_eq_some_iff.mp hgs).1
  refine GenW.wpAny_gsz (n := g + 1) hgl (wpAny_pyNext_genexpQ hh I.nolimit hd (isGen_of hg I) hgs hgo (fun v s₁ gs' hb hv hsz => ?_) (fun s₁ hp h' hk hsz => ?_))
  · obtain ⟨b, H', rfl, I1, qs, qc⟩ := hv
    have hsz1 : g < s₁.gens.size := by
      have q : (s₁.setGen g gs').gens.size = s₁.gens.size := GenW.setGen_size _ _ _
      have hsz' : g + 1 ≤ (s₁.setGen g gs').gens.size := hsz
      omega
    have hb1 : AllBare (s₁.setGen g gs').gens := allBare_setGen I1.bare hb
    have I2 : Inv Y [(a, gobj)] σ0 H' (s₁.setGen g gs') := gens_inv I1 rfl rfl hb1
    by_cases hbc : b = c
    · subst hbc
      cases n with
      | zero => exact (qc rfl s₁ ⟨rfl, rfl, I1.bare⟩).elim
      | succ m => exact hC m H' _ gs' rfl I2 (setGen_at hsz1) (qc rfl _ ⟨rfl, rfl, allBare_setGen hb1 rfl⟩)
    · exact hS b H' _ I2 hbc (qs hbc)
  · obtain ⟨H', I1, q⟩ := hp
    have hb1 : AllBare (s₁.setGen g .finished).gens := allBare_setGen I1.bare rfl
    have I2 : Inv Y [(a, gobj)] σ0 H' (s₁.setGen g .finished) := gens_inv I1 rfl rfl hb1
    exact hE H' _ (I2.kept (t' := (s₁.setGen g .finished).toks) hk) q
theorem all_loop (hg : gobj.cls = .type "generator" ∧ (∃ nm qn, gobj.data = .fields #[.int g 0, nm, qn]) ∧ gobj.slots = #[]) (hh : A.handled = none) (hd : A.depth < recursionLimit)
    (hE : ∀ H' s', Inv Y [(a, gobj)] σ0 H' s' → QE H' → R (.ok (.ret (.bool true))) s') (hS : ∀ H' s', Inv Y [(a, gobj)] σ0 H' s' → QS H' → R (.ok (.ret (.bool false))) s') :
    ∀ (n : Nat) (H : Hp) (s : Shared) (gs : GenState), Inv Y [(a, gobj)] σ0 H s → s.gens[g]? = some gs → GoesG Y A.in1.in1 a gobj σ0 true QE QS n gs (s.setGen g .running) → codeAny (model Y.prog Y.w) A (.builtin "all.loop" ⟨[.ref a], []⟩) R s := by
  intro n
  induction n with
  | zero =>
    intro H s gs I hgs hgo
    refine codeAny_builtin F.entry_all_loop ?_
    rw [Around.under_plainId F.plain_all_loop _]
    show wpAny _ A.in1 (pyNext (.ref a) >>= _) _ _ s
    refine wpAny_bind (next_ok (A := A.in1) hg hh hd I hgs hgo (fun H' s' I' q => ?_) (fun b H' s' I' hb q => ?_) (fun m H' s' gs' e _ _ _ => by cases e))
    · exact wpAny_bind (wpAny_rule (wpAny_pure (hE H' s' I' q)))
    · have eb : b = false := by
        cases b with
        | false => rfl
        | true => exact absurd rfl hb
      subst eb
      refine wpAny_bind (wpAny_holding (wpAny_truthy_bool (wpAny_bind (wpAny_letGo ?_))))
      simp only [Bool.false_eq_true, if_false]
      exact wpAny_bind (wpAny_rule (wpAny_pure (hS H' s' I' q)))
  | succ n ih =>
    intro H s gs I hgs hgo
    refine codeAny_builtin F.entry_all_loop ?_
    rw [Around.under_plainId F.plain_all_loop _]
    show wpAny _ A.in1 (pyNext (.ref a) >>= _) _ _ s
    refine wpAny_bind (next_ok (A := A.in1) hg hh hd I hgs hgo (fun H' s' I' q => ?_) (fun b H' s' I' hb q => ?_) (fun m H' s' gs' e I' hgs' hgo' => ?_))
    · exact wpAny_bind (wpAny_rule (wpAny_pure (hE H' s' I' q)))
    · have eb : b = false := by
        cases b with
        | false => rfl
        | true => exact absurd rfl hb
      subst eb
      refine wpAny_bind (wpAny_holding (wpAny_truthy_bool (wpAny_bind (wpAny_letGo ?_))))
      simp only [Bool.false_eq_true, if_false]
      exact wpAny_bind (wpAny_rule (wpAny_pure (hS H' s' I' q)))
    · have e' : n = m := Nat.succ.inj e
      subst e'
      refine wpAny_bind (wpAny_holding (wpAny_truthy_bool (wpAny_bind (wpAny_letGo ?_))))
      simp only [if_true]
      exact wpAny_pure ⟨plainId_quiet F.plain_all_loop _, ih H' s' gs' I' hgs' hgo'⟩
theorem any_loop (hg : gobj.cls = .type "generator" ∧ (∃ nm qn, gobj.data = .fields #[.int g 0, nm, qn]) ∧ gobj.slots = #[]) (hh : A.handled = none) (hd : A.depth < recursionLimit)
    (hE : ∀ H' s', Inv Y [(a, gobj)] σ0 H' s' → QE H' → R (.ok (.ret (.bool false))) s') (hS : ∀ H' s', Inv Y [(a, gobj)] σ0 H' s' → QS H' → R (.ok (.ret (.bool true))) s') :
    ∀ (n : Nat) (H : Hp) (s : Shared) (gs : GenState), Inv Y [(a, gobj)] σ0 H s → s.gens[g]? = some gs → GoesG Y A.in1.in1 a gobj σ0 false QE QS n gs (s.setGen g .running) → codeAny (model Y.prog Y.w) A (.builtin "any.loop" ⟨[.ref a], []⟩) R s := by
  intro n
  induction n with
  | zero =>
    intro H s gs I hgs hgo
    refine codeAny_builtin F.entry_any_loop ?_
    rw [Around.under_plainId F.plain_any_loop _]
    show wpAny _ A.in1 (pyNext (.ref a) >>= _) _ _ s
    refine wpAny_bind (next_ok (A := A.in1) hg hh hd I hgs hgo (fun H' s' I' q => ?_) (fun b H' s' I' hb q => ?_) (fun m H' s' gs' e _ _ _ => by cases e))
    · exact wpAny_bind (wpAny_rule (wpAny_pure (hE H' s' I' q)))
    · have eb : b = true := by
        cases b with
        | true => rfl
        | false => exact absurd rfl hb
      subst eb
      refine wpAny_bind (wpAny_holding (wpAny_truthy_bool (wpAny_bind (wpAny_letGo ?_))))
      simp only [if_true]
      exact wpAny_bind (wpAny_rule (wpAny_pure (hS H' s' I' q)))
  | succ n ih =>
    intro H s gs I hgs hgo
    refine codeAny_builtin F.entry_any_loop ?_
    rw [Around.under_plainId F.plain_any_loop _]
    show wpAny _ A.in1 (pyNext (.ref a) >>= _) _ _ s
    refine wpAny_bind (next_ok (A := A.in1) hg hh hd I hgs hgo (fun H' s' I' q => ?_) (fun b H' s' I' hb q => ?_) (fun m H' s' gs' e I' hgs' hgo' => ?_))
    · exact wpAny_bind (wpAny_rule (wpAny_pure (hE H' s' I' q)))
    · have eb : b = true := by
        cases b with
        | true => rfl
        | false => exact absurd rfl hb
      subst eb
      refine wpAny_bind (wpAny_holding (wpAny_truthy_bool (wpAny_bind (wpAny_letGo ?_))))
      simp only [if_true]
      exact wpAny_bind (wpAny_rule (wpAny_pure (hS H' s' I' q)))
    · have e' : n = m := Nat.succ.inj e
      subst e'
      refine wpAny_bind (wpAny_holding (wpAny_truthy_bool (wpAny_bind (wpAny_letGo ?_))))
      simp only [Bool.false_eq_true, if_false]
      exact wpAny_pure ⟨plainId_quiet F.plain_any_loop _, ih H' s' gs' I' hgs' hgo'⟩
end

/-! ### made and consumed -/
abbrev geC (elt tg iter : Expr) (scope : Scope) (pos : Pos) (it : Addr) (cenv : Env) : Code := .compLoop (.GeneratorExp elt [⟨tg, iter, [], 0⟩] scope pos) 0 (.ref it) .none cenv
theorem room_gen {k : Nat} {A : Around} {elt tg iter : Expr} {scope : Scope} {pos : Pos} {it : Addr} {cenv : Env} (r : Room (k + 1) A) : Room k (A.in1.in1.over (geC elt tg iter scope pos it cenv) []) := by
  have e1 : (A.in1.in1.over (geC elt tg iter scope pos it cenv) []).handled = A.handled := rfl
  have e2 : (A.in1.in1.over (geC elt tg iter scope pos it cenv) []).depth = A.depth + 0 + 1 := rfl
  have e3 : (A.in1.in1.over (geC elt tg iter scope pos it cenv) []).units = A.units + 1 + 1 + 0 + 3 := rfl
  obtain ⟨h1, h2, h3⟩ := r
  exact ⟨e1.trans h1, by rw [e2]; omega, by rw [e3]; omega⟩
theorem frames_gen {A : Around} {l : List Env} {elt tg iter : Expr} {scope : Scope} {pos : Pos} {it : Addr} {cenv : Env} (h : A.frames = some l) : (A.in1.in1.over (geC elt tg iter scope pos it cenv) []).frames = some (cenv :: l) := by
  show pushEnvs [cenv] (pushEnvs [] A.frames) = _
  rw [h] <;> rfl

/-- the reading: it goes on while the element is c -/
def turnsG (J : It) (g : TG) (te : TE) (vs : List Nat) (σ : L2.St) (c : Bool) (QE QS : Hp → Prop) (H1 : Hp) : Prop :=
  ∃ W : Nat → Nat → Hp → Prop, (∃ m, W 0 m H1) ∧ ∀ i m H, W i m H →
    (J.stop i H ∧ QE H) ∨ (J.go i H ∧ ∀ x H', J.yld i H x H' → g x (wipe σ vs) H' fun σ2 H2 => wipe σ2 vs = wipe σ vs ∧ te σ2 H2 fun y H3 => ∃ b, y = .bl b ∧ (b = c → ∃ m', m' < m ∧ W (i + 1) m' H3) ∧ (b ≠ c → QS H3))
def tGen (P : Addr) (wi : TI) (g : TG) (te : TE) (vs : List Nat) (c : Bool) : TE := fun σ H Q => wi σ H fun J H1 => GxR.TabG H1 P ∧ ∀ H2, GxR.Tabbed P H1 H2 → turnsG J g te vs σ c (fun H3 => Q (.bl c) H3) (fun H3 => Q (.bl (!c)) H3) H2

section
variable {X : Cx} {pins : List (Addr × Obj)} {σ : L2.St} {H : Hp} {s : Shared}
/-- the generator g over the iterable, ready to be walked, in the state s5 -/
def ReadyG (X : Cx) (pins : List (Addr × Obj)) (σ : L2.St) (c : Bool) (QE QS : Hp → Prop) (a : Addr) (s5 : Shared) : Prop :=
  ∃ (Y : Cx) (gobj : Obj) (g : Nat) (σ0 : L2.St) (H2 : Hp) (n : Nat) (gs : GenState), Y.prog = X.prog ∧ Y.w = X.w ∧ (gobj.cls = .type "generator" ∧ (∃ nm qn, gobj.data = .fields #[.int g 0, nm, qn]) ∧ gobj.slots = #[]) ∧
    Inv Y [(a, gobj)] σ0 H2 s5 ∧ s5.gens[g]? = some gs ∧ GoesG Y X.A.in1.in1 a gobj σ0 c QE QS n gs (s5.setGen g .running) ∧ ∀ H' s', Inv Y [(a, gobj)] σ0 H' s' → Inv X pins σ H' s'
theorem gen_ok {cc P : Addr} {elt tg iter : Expr} {gpos : Pos} {scope : Scope} {own : List (Str × Nat)} {wi : TI} {g : TG} {te : TE} {k : Nat} {c : Bool} {Q' : Value → Shared → Prop} {QE QS : Hp → Prop}
    (hr : Room (k + 1) X.A) (TB : LamX.TabB X.base X.mg cc P) (hcode : X.env.code = .ref cc) (hN : X.N.Nodup) (ok : GenOk X.N X.env.scope scope own) (hi : PI X tg iter wi)
    (hg : ∀ (B : Around) (s : Shared) (H : Hp) (C : Addr) (code : Value) (fp : List Addr), Room k B → PG (cxG X B s H (genEnv scope (cloFrom X.env.cells scope.names []) C code builtinsNs X.env) fp) tg g)
    (he : ∀ (B : Around) (s : Shared) (H : Hp) (C : Addr) (code : Value) (fp : List Addr), Room k B → PE (cxG X B s H (genEnv scope (cloFrom X.env.cells scope.names []) C code builtinsNs X.env) fp) elt te)
    (hs : ∀ v, genFold iter X.env v = pure v) (I : Inv X pins σ H s) (h : wi σ H fun J H1 => GxR.TabG H1 P ∧ ∀ H2, GxR.Tabbed P H1 H2 → turnsG J g te (own.map (·.2)) σ c QE QS H2)
    (hQ : ∀ a s5, ReadyG X pins σ c QE QS a s5 → Q' (.ref a) s5) :
    wpAny (model X.prog X.w) X.A (eval (.GeneratorExp elt [⟨tg, iter, [], 0⟩] scope gpos) X.env) Q' X.xe s := by
  refine wpAny_GeneratorExp_make ok.co (closure_ok (ok.has I.ok)) ok.cell ok.dot ok.kind (by have := hr.dp; omega) ?_ hs
  refine thn (hi.run pins s σ H _ I h) fun xv s1 hx => thn hx fun itv s2 h2 => ?_
  obtain ⟨it, fp, tn, J, H1, e, I1, T, st2, f2, ⟨ps, hP, ht⟩, q⟩ := h2
  subst e
  refine ⟨I1.nolimit, ?_⟩
  have hPs : s2.heap.get? P = some { cls := .none, data := .fields ps } := I1.hok P _ hP
  have hPlt : P < s2.heap.objs.size := Heap.lt_size hPs
  have cd : PySem.W.CodeHd s2.heap cc P := TB.code.keeps fun b u e => I1.bk b u e
  have cont : ∀ (code : Value) (h3 : Heap) (tk : Nat) (ps' : Array Value), Heap.ExtBut P s2.heap h3 → s2.heap.objs.size ≤ h3.objs.size → h3.get? P = some { cls := .none, data := .fields ps' } → (∃ more, ps' = ps ++ more) → TriplesOk ps'.toList →
      wpAny (model X.prog X.w) X.A (builtinsFor X.env.globals X.env.builtins) (fun bi s₄ =>
        ∀ h', h'.Ns s₄.heap.objs.size (fun y => if y = ".0" then some (Value.ref it) else none) → Heap.SameBut s₄.heap.objs.size (s₄.heap.push { cls := .type "frame", data := .dict #[] }) h' →
          Q' (.ref h'.objs.size) { s₄ with
            gens := s₄.gens.push (.fresh (.compStart (.GeneratorExp elt [⟨tg, iter, [], 0⟩] scope gpos) 0 (.ref it) .none (genEnv scope (cloFrom X.env.cells scope.names []) s₄.heap.objs.size code bi X.env))),
            toks := s₄.toks + 1 + 1 + 1,
            heap := h'.push { cls := .type "generator", data := .fields #[.int s₄.gens.size 0, .str "<genexpr>" (s₄.toks + 1), .str (X.env.qual ++ "<genexpr>") (s₄.toks + 1 + 1)] } }) X.xe { s2 with heap := h3, toks := tk } := by
    intro code h3 tk ps' hx hsz hP3 hmore ht3
    obtain ⟨bm, ob, e1, e2, e3, e4, e5, e6, e7, e8⟩ := TB.bm
    have keep3 : ∀ b u, b ≠ P → s2.heap.get? b = some u → h3.get? b = some u := fun b u hb e => hx b u hb e
    refine wpAny_builtinsFor (m := X.mg) (by rw [I1.ok.glob]; exact (I1.mod.glob.keeps I1.bk).extBut hx TB.gP) e1 e2 (keep3 _ _ e4 (I1.bk _ _ e5)) e6 e7 e8 ?_
    obtain ⟨more, em⟩ := hmore
    have I3 : Inv X pins σ (upd H1 P (.tbl (ps ++ more))) { s2 with heap := h3, toks := tk } := GxR.inv_tab (more := more) (h' := h3) (g' := s2.gens) (d' := s2.drawn) (t' := tk) I1 hP keep3 (by rw [← em]; exact hP3) I1.bare
    have hTb : GxR.Tabbed P H1 (upd H1 P (.tbl (ps ++ more))) := ⟨⟨ps ++ more, upd_same, by rw [← em]; exact ht3⟩, fun b hb => upd_ne hb⟩
    obtain ⟨W, ⟨m0, w0⟩, turn⟩ := q _ hTb
    have szf : ∀ b ∈ fp, b < s2.heap.objs.size := fun b hb => by
      obtain ⟨o, e, _⟩ := T.obj _ _ st2 b hb
      exact Heap.lt_size e
    have nPf : ∀ b ∈ fp, b ≠ P := fun b hb z => by
      have n := (f2 b hb).1
      rw [z, hP] at n
      cases n
    have f3 : ∀ b ∈ fp, FpOk X pins (upd H1 P (.tbl (ps ++ more))) b ∧ b < h3.objs.size := fun b hb =>
      ⟨⟨by rw [upd_ne (nPf b hb)]; exact (f2 b hb).1, (f2 b hb).2⟩, Nat.lt_of_lt_of_le (szf b hb) hsz⟩
    have st3 : tn 0 h3 := T.keep _ _ _ st2 fun b hb o e => keep3 b o (nPf b hb) e
    intro h' hn' hs'
    have hsz5 : h'.objs.size = h3.objs.size + 1 := by rw [hs'.1, Heap.size_push]
    have keep' : ∀ b o, h3.get? b = some o → h'.get? b = some o := fun b o e => hs'.extBut b o (Nat.ne_of_lt (Heap.lt_size e)) (Heap.get?_push_of_some _ e)
    generalize hgo : ({ cls := .type "generator", data := .fields #[.int s2.gens.size 0, .str "<genexpr>" (tk + 1), .str (X.env.qual ++ "<genexpr>") (tk + 1 + 1)] } : Obj) = gobj
    have keep5 : ∀ b o, h3.get? b = some o → (h'.push gobj).get? b = some o := fun b o e => Heap.get?_push_of_some _ (keep' b o e)
    generalize hce : genEnv scope (cloFrom X.env.cells scope.names []) h3.objs.size code builtinsNs X.env = cenv
    generalize hB : X.A.in1.in1.over (geC elt tg iter scope gpos it cenv) [] = B
    have rB : Room k B := by rw [← hB]; exact room_gen hr
    have fB : B.frames = some (cenv :: X.stack) := by rw [← hB]; exact frames_gen I1.ok.frames
    have pg := hg B { s2 with heap := h3, toks := tk } (upd H1 P (.tbl (ps ++ more))) h3.objs.size code fp rB
    have pe := he B { s2 with heap := h3, toks := tk } (upd H1 P (.tbl (ps ++ more))) h3.objs.size code fp rB
    rw [hce] at pg pe
    have hgd : gobj.cls = .type "generator" ∧ (∃ nm qn, gobj.data = .fields #[.int s2.gens.size 0, nm, qn]) ∧ gobj.slots = #[] := by rw [← hgo]; exact ⟨rfl, ⟨_, _, rfl⟩, rfl⟩
    have ndat : ∀ v, gobj.data ≠ .cell v := fun v z => by rw [← hgo] at z; cases z
    have hal : h3.objs.size < h'.objs.size := by rw [hsz5]; exact Nat.lt_succ_self _
    have ns5 : (h'.push gobj).Ns h3.objs.size (fun y => if y = ".0" then some (Value.ref it) else none) := hn'.push _
    have atA : (h'.push gobj).get? h'.objs.size = some gobj := Heap.get?_push_size _ (by rw [← hgo]; rfl)
    generalize hs5 : ({ s2 with gens := s2.gens.push (.fresh (.compStart (.GeneratorExp elt [⟨tg, iter, [], 0⟩] scope gpos) 0 (.ref it) .none cenv)), toks := tk + 1 + 1 + 1, heap := h'.push gobj } : Shared) = s5
    have h5h : s5.heap = h'.push gobj := by rw [← hs5]
    have h5o : s5.os = s2.os := by rw [← hs5]
    have h5g : s5.gens = s2.gens.push (.fresh (.compStart (.GeneratorExp elt [⟨tg, iter, [], 0⟩] scope gpos) 0 (.ref it) .none cenv)) := by rw [← hs5]
    have bare5 : AllBare s5.gens := by rw [h5g]; exact I1.bare.push rfl
    have J5 : Inv (cxG X B { s2 with heap := h3, toks := tk } (upd H1 P (.tbl (ps ++ more))) cenv fp) [(h'.objs.size, gobj)] (wipe σ (own.map (·.2))) (upd H1 P (.tbl (ps ++ more))) s5 :=
      gen_start (it := .ref it) I3 ok hN f3 hce.symm h5o bare5 (by rw [h5h]; exact keep5) (by rw [h5h]; exact ns5) rB.hd fB (by rw [h5h]; exact atA) hal ndat
    have st5 : tn 0 s5.heap := by rw [h5h]; exact T.keep _ _ _ st3 fun b _ o e => keep5 b o e
    have npf : ∀ b ∈ fp, ∀ p ∈ [(h'.objs.size, gobj)], p.1 ≠ b := fun b hb p hp z => by
      have e : p = (h'.objs.size, gobj) := by simpa using hp
      rw [e] at z
      have z : h'.objs.size = b := z
      have h1 := (f3 b hb).2
      rw [← z] at h1
      exact Nat.lt_irrefl _ (Nat.lt_trans h1 hal)
    have b5 : AllBare (s5.setGen s2.gens.size .running).gens := allBare_setGen bare5 rfl
    have back : ∀ H' s', Inv (cxG X B { s2 with heap := h3, toks := tk } (upd H1 P (.tbl (ps ++ more))) cenv fp) [(h'.objs.size, gobj)] (wipe σ (own.map (·.2))) H' s' → Inv X pins σ H' s' := fun H' s' J =>
      I3.call' (ch := fp) J.os J.base J.hok J.bare fun b hb => ⟨(f3 b hb).1.2.2.2.1, (f3 b hb).1.2.1, (f3 b hb).1.2.2.2.2.1, (f3 b hb).1.2.2.2.2.2⟩
    refine hQ h'.objs.size s5 ⟨cxG X B { s2 with heap := h3, toks := tk } (upd H1 P (.tbl (ps ++ more))) cenv fp, gobj, s2.gens.size, _, _, m0 + 1, .fresh (.compStart (.GeneratorExp elt [⟨tg, iter, [], 0⟩] scope gpos) 0 (.ref it) .none cenv), rfl, rfl, hgd, J5, by rw [h5g]; exact Array.getElem?_push_size .., ⟨rfl, ?_⟩, back⟩
    exact seg_start (Y := cxG X B { s2 with heap := h3, toks := tk } (upd H1 P (.tbl (ps ++ more))) cenv fp) (vs := own.map (·.2)) (tn := tn) (J := J) (fp := fp) (g := g) (te := te) T rfl rfl rfl rfl pg pe npf hB (by rw [← hce]; exact ok.co) W turn m0 (m0 + 1) (Nat.lt_succ_self _) _ _ _ (gens_inv J5 rfl rfl b5) st5 (fun b hb => (f3 b hb).1.1) w0
  cases hf : codeAmong gpos ps.toList with
  | none =>
    refine wpAny_genexprCodeX hcode (cd.code hPs ht) (cd.tab hPs) hf fun c' h' tk hx hge hlt hco' _ htab' _ => ?_
    obtain ⟨o1, vs, f1, tf, fl, tg', inF, tx, tt, op, _, _, _, _, _, _, _, _, _, htr, _⟩ := hco'
    exact cont _ h' tk _ hx (Nat.le_trans hge (Nat.le_of_lt hlt)) htab'.2 ⟨_, rfl⟩ htr
  | some cv =>
    refine wpAny_genexprCode_hit hcode (cd.code hPs ht) hf ?_
    exact cont cv s2.heap s2.toks ps (Heap.ExtBut.refl _ _) (Nat.le_refl _) hPs ⟨#[], by simp⟩ ht
end

section
variable {X : Cx} {cc P : Addr} {elt tg iter : Expr} {gpos p pos : Pos} {scope : Scope} {own : List (Str × Nat)} {wi : TI} {g : TG} {te : TE} {k : Nat}
theorem pe_allG (hr : Room (k + 1) X.A) (hgl : Gl X "all") (hm : X.mg "all" = none) (hb : bootBuiltins "all" = some (.builtin "all")) (TB : LamX.TabB X.base X.mg cc P) (hcode : X.env.code = .ref cc) (hN : X.N.Nodup) (ok : GenOk X.N X.env.scope scope own) (hi : PI X tg iter wi)
    (hg : ∀ (B : Around) (s : Shared) (H : Hp) (C : Addr) (code : Value) (fp : List Addr), Room k B → PG (cxG X B s H (genEnv scope (cloFrom X.env.cells scope.names []) C code builtinsNs X.env) fp) tg g)
    (hel : ∀ (B : Around) (s : Shared) (H : Hp) (C : Addr) (code : Value) (fp : List Addr), Room k B → PE (cxG X B s H (genEnv scope (cloFrom X.env.cells scope.names []) C code builtinsNs X.env) fp) elt te)
    (hs : ∀ v, genFold iter X.env v = pure v := by intro _; rfl)
    (he : starEach [.GeneratorExp elt [⟨tg, iter, [], 0⟩] scope gpos] X.env = (false, eval (.GeneratorExp elt [⟨tg, iter, [], 0⟩] scope gpos) X.env) :: starEach [] X.env := by rfl) :
    PE X (.Call (.Name "all" p) [.GeneratorExp elt [⟨tg, iter, [], 0⟩] scope gpos] [] pos) (tGen P wi g te (own.map (·.2)) true) := by
  refine ⟨fun pins s σ H Q I h => ?_⟩
  refine wpAny_Call_Name_kw (ld_blt I hgl hm hb ?_)
  refine PyProof.Rows.callWith_builtin1 ?_ he (by rfl)
  rw [he]
  show wpAny _ _ (spliced ((false, eval (.GeneratorExp elt [⟨tg, iter, [], 0⟩] scope gpos) X.env) :: backTo pos (starEach [] X.env))) _ _ s
  refine Calls.spliced_cons (gen_ok hr TB hcode hN ok hi hg hel hs I h fun a s5 hR => ?_)
  refine Calls.spliced_nil ?_
  obtain ⟨Y, gobj, g, σ0, H2, n, gs, eP, eW, hgd, J, hgs, hgo, back⟩ := hR
  rw [← eP, ← eW]
  refine call_function_tree F.kind_all F.plain_all F.entry_all (F.args_all1 _) ?_
  unfold Builtin.«all»
  refine wpAny_bind (m := oneArg "all" _) (wpAny_pure ?_)
  refine wpAny_bind (wpAny_pyIter_gen (isGen_of hgd J) ?_)
  refine wpAny_pure ⟨plainId_quiet F.plain_all_loop _, all_loop (A := X.A) hgd hr.hd (by have := hr.dp; omega) (fun H' s' J' q => ?_) (fun H' s' J' q => ?_) n H2 s5 gs J hgs hgo⟩
  · exact ⟨.bl true, H', back H' s' J', rfl, q⟩
  · exact ⟨.bl false, H', back H' s' J', rfl, q⟩
theorem pe_anyG (hr : Room (k + 1) X.A) (hgl : Gl X "any") (hm : X.mg "any" = none) (hb : bootBuiltins "any" = some (.builtin "any")) (TB : LamX.TabB X.base X.mg cc P) (hcode : X.env.code = .ref cc) (hN : X.N.Nodup) (ok : GenOk X.N X.env.scope scope own) (hi : PI X tg iter wi)
    (hg : ∀ (B : Around) (s : Shared) (H : Hp) (C : Addr) (code : Value) (fp : List Addr), Room k B → PG (cxG X B s H (genEnv scope (cloFrom X.env.cells scope.names []) C code builtinsNs X.env) fp) tg g)
    (hel : ∀ (B : Around) (s : Shared) (H : Hp) (C : Addr) (code : Value) (fp : List Addr), Room k B → PE (cxG X B s H (genEnv scope (cloFrom X.env.cells scope.names []) C code builtinsNs X.env) fp) elt te)
    (hs : ∀ v, genFold iter X.env v = pure v := by intro _; rfl)
    (he : starEach [.GeneratorExp elt [⟨tg, iter, [], 0⟩] scope gpos] X.env = (false, eval (.GeneratorExp elt [⟨tg, iter, [], 0⟩] scope gpos) X.env) :: starEach [] X.env := by rfl) :
    PE X (.Call (.Name "any" p) [.GeneratorExp elt [⟨tg, iter, [], 0⟩] scope gpos] [] pos) (tGen P wi g te (own.map (·.2)) false) := by
  refine ⟨fun pins s σ H Q I h => ?_⟩
  refine wpAny_Call_Name_kw (ld_blt I hgl hm hb ?_)
  refine PyProof.Rows.callWith_builtin1 ?_ he (by rfl)
  rw [he]
  show wpAny _ _ (spliced ((false, eval (.GeneratorExp elt [⟨tg, iter, [], 0⟩] scope gpos) X.env) :: backTo pos (starEach [] X.env))) _ _ s
  refine Calls.spliced_cons (gen_ok hr TB hcode hN ok hi hg hel hs I h fun a s5 hR => ?_)
  refine Calls.spliced_nil ?_
  obtain ⟨Y, gobj, g, σ0, H2, n, gs, eP, eW, hgd, J, hgs, hgo, back⟩ := hR
  rw [← eP, ← eW]
  refine call_function_tree F.kind_any F.plain_any F.entry_any (F.args_any1 _) ?_
  unfold Builtin.«any»
  refine wpAny_bind (m := oneArg "any" _) (wpAny_pure ?_)
  refine wpAny_bind (wpAny_pyIter_gen (isGen_of hgd J) ?_)
  refine wpAny_pure ⟨plainId_quiet F.plain_any_loop _, any_loop (A := X.A) hgd hr.hd (by have := hr.dp; omega) (fun H' s' J' q => ?_) (fun H' s' J' q => ?_) n H2 s5 gs J hgs hgo⟩
  · exact ⟨.bl false, H', back H' s' J', rfl, q⟩
  · exact ⟨.bl true, H', back H' s' J', rfl, q⟩
end
end GX

set_option Elab.async false
set_option linter.all false
set_option maxRecDepth 100000
set_option maxHeartbeats 4000000
/-! LCX: a list comprehension (one clause) that an exception may leave; lc_coreX follows HandS.Comp's lc_core, over KE's comprehension_at. -/
namespace LX
open PySem PySem.Spec PyProof.Rows L2

/-- noted at another frame's number, then at L -/
theorem looks_heldZ {M : Model} {A : Around} {E : Value → Shared → Prop} {s : Shared} {Z : Obj → Prop} {base : Heap} {env : Env} {outer : List Env} {L L' e : Addr} {Q : Unit → Shared → Prop} (hne : L' ≠ L) (hZ : HandSPX.Steady Z) (hfr : A.frames = some (env :: outer)) (hf : env.frame = some L) (hfl : HandSPX.HeldZ base (env :: outer) e Z L' s.heap)
    (hQ : ∀ h', HandSPX.HeldZ base (env :: outer) e Z L h' → s.heap.UpToSlots h' → Q () { s with heap := h' }) : wpAny M A (noteFrame (.ref e) env) Q E s := by
  obtain ⟨hkb, hen, hl, oe, vs, T, oT, ts, he, hz, hd, h1, hnT, hTe, hT, hdT, h3⟩ := hfl
  unfold noteFrame
  simp only [hf]
  refine wpAny_bind (wpAny_field he hd h1 ?_)
  rw [if_pos (show (Value.ref T != Value.none) = true from by simp)]
  refine wpAny_bind (wpAny_field hT hdT h3 ?_)
  rw [if_neg (show ¬ ((rawInt L' == rawInt L) = true) from fun z => hne (Int.ofNat.inj (Value.int.inj (eq_of_beq z)).1))]
  refine wpAny_bind (wpAny_setField hT hdT (Array.getElem?_eq_some_iff.mp h3).1 ?_)
  have other : ∀ b, b ≠ T → (s.heap.update T (Obj.mapFields (·.setIfInBounds 3 Value.none))).get? b = s.heap.get? b := fun b hb => Heap.get?_update_other _ _ (Ne.symm hb)
  have noRecord : ∀ b o, s.heap.get? b = some o → (∀ vs, o.data ≠ .fields vs) → b ≠ T := fun b o hb hnf q => by
    rw [q, hT] at hb; injection hb with hb; subst hb; exact hnf ts hdT
  refine HandSPX.wpAny_entryZ hZ hfr (hl.of_keeps fun b o hb hnf => ⟨o, (other b (noRecord b o hb hnf)).trans hb, rfl⟩) hf ((other e (Ne.symm hTe)).trans he)
    (fun b o hbo => (other b fun q => by rw [q, hnT] at hbo; cases hbo).trans (hkb b o hbo)) hen hd (Array.getElem?_eq_some_iff.mp h1).1 hz fun h' hN => ?_
  obtain ⟨x1, x2, x3, x4⟩ := hN
  exact hQ h' ⟨x1, hen, x2, x3⟩ fun b o hb hnf => x4 b o ((other b (noRecord b o hb hnf)).trans hb) hnf

/-- a comprehension's block, an exception of it wished for by xe -/
abbrev blkX (X : Cx) (s : Shared) (H : Hp) (scope : Scope) (cenv : Env) (fp : List Addr) (xe : Value → Shared → Prop) : Cx := { X.blk s H scope cenv fp with xe := xe }
/-- the wish at the slots σ -/
abbrev WAt (W : WX) (σ : L2.St) : WX := fun c d _ H => W c d σ H

section
variable {X : Cx}
theorem blk_takes {W : WX} {pins : List (Addr × Obj)} {σ : L2.St} {H3 : Hp} {s3 : Shared} {scope : Scope} {ce : Env} {fp : List Addr} (hs : X.stack = X.env :: X.outer) (hf : X.env.frame = some X.env.locals) (tk : Takes X W) (I3 : Inv X pins σ H3 s3)
    (f3 : ∀ b ∈ fp, FpOk X pins H3 b ∧ b < s3.heap.objs.size) (cL : ce.locals = s3.heap.objs.size) (cf : ce.frame = X.env.frame) :
    Takes (blkX X s3 H3 scope ce fp (notedBy (model X.prog X.w) X.A ce (CompFails (model X.prog X.w) X.A X.xe ce))) (WAt W σ) := by
  intro u s' ⟨a, B, sI, pins', σ', H', cls, d, eu, IY, nb, up, sky, na, os, ag, w⟩
  subst eu
  have hfr : X.A.frames = some (X.env :: X.outer) := by rw [I3.ok.frames, hs]
  have nb : ∀ b o, sI.heap.get? b = some o → b ∉ frs X.stack → B.get? b = some o := nb
  have sky : Sky B X.stack a (Zc cls d) ce.locals s'.heap := sky
  rw [hs] at sky
  have cfr : ce.locals ∉ frs X.stack := fun hm => by
    obtain ⟨_, o, ho, _⟩ := I3.stack.mem hm
    rw [cL] at ho
    exact absurd (Heap.lt_size ho) (Nat.lt_irrefl _)
  have cne : ce.locals ≠ X.env.locals := fun z => by
    have := I3.lt
    rw [← z, cL] at this
    exact Nat.lt_irrefl _ this
  obtain ⟨mC, hnC, _⟩ := IY.loc
  have hnC : sI.heap.Ns ce.locals mC := hnC
  -- behind the note
  have fin : ∀ h', HandSPX.HeldZ B (X.env :: X.outer) a (Zc cls d) X.env.locals h' → s'.heap.UpToSlots h' → CompFails (model X.prog X.w) X.A X.xe ce (.ref a) { s' with heap := h' } := fun h' hh up' => by
    have hn' : h'.Ns ce.locals mC := (up.trans up').ns hnC
    refine ⟨mC, hn', fun h2 m2 hn2 sb => ?_⟩
    obtain ⟨oC, esC, epC, hoC, hdC, _⟩ := id hn'
    obtain ⟨oC2, esC2, epC2, hoC2, hdC2, _⟩ := id hn2
    obtain ⟨b1, b0, f1, oe, vs, T, oT, ts, he, hz, hd, h1, hnT, hTe, hT, hdT, h3⟩ := hh
    have neE : a ≠ ce.locals := fun z => by rw [z, hoC] at he; cases he; rw [hdC] at hd; cases hd
    have neT : T ≠ ce.locals := fun z => by rw [z, hoC] at hT; cases hT; rw [hdC] at hdT; cases hdT
    have sb2 : ∀ b, b ≠ ce.locals → h2.get? b = h'.get? b := fun b hb => sb.2 b hb
    have B'get : ∀ b o, (PySem.W.hideAll B [ce.locals]).get? b = some o → B.get? b = some o ∧ b ≠ ce.locals := fun b o e => by
      refine ⟨PySem.W.of_hideAll _ e, fun z => ?_⟩
      rw [z, PySem.W.hideAll_none _ (List.mem_singleton.mpr rfl)] at e
      cases e
    have B'none : ∀ b, B.get? b = none → (PySem.W.hideAll B [ce.locals]).get? b = none := fun b e => by
      cases q : (PySem.W.hideAll B [ce.locals]).get? b with
      | none => rfl
      | some o => rw [(B'get b o q).1] at e; cases e
    have ff : h2.FunFrames (PySem.W.hideAll B [ce.locals]) (X.env :: X.outer) := by
      exact funFrames_none (base := B) (Heap.FunFrames.sameBut sb hn2 f1) fun L hL => B'none L (f1.mem hL).1
    have hh2 : HandSPX.HeldZ (PySem.W.hideAll B [ce.locals]) (X.env :: X.outer) a (Zc cls d) X.env.locals h2 :=
      ⟨fun b o e => let ⟨e1, e2⟩ := B'get b o e; (sb2 b e2).trans (b1 b o e1), B'none a b0, ff, oe, vs, T, oT, ts, (sb2 a neE).trans he, hz, hd, h1, B'none T hnT, hTe, (sb2 T neT).trans hT, hdT, h3⟩
    unfold PySem.passOn
    refine wpAny_bind (wpAny_field ((sb2 a neE).trans he) hd h1 ?_)
    rw [if_neg (show ¬ ((Value.ref T == Value.none) = true) from by simp)]
    have fin2 : wpAny (model X.prog X.w) X.A (setFlight (.ref a) ce.frame) (fun _ s4 => wpAny (model X.prog X.w) X.A (throw (.ref a) : Sem Value) (fun _ _ => False) X.xe s4) X.xe { s' with heap := h2 } := by
      rw [cf, hf]
      refine HandSPX.setFlight_onZ hh2 fun h4 hh4 up4 => wpAny_throw (tk _ _ ?_)
      have hid : ∀ b o, (PySem.W.hideAll sI.heap [ce.locals]).get? b = some o → sI.heap.get? b = some o ∧ b ≠ ce.locals := fun b o e => by
        refine ⟨PySem.W.of_hideAll _ e, fun z => ?_⟩
        rw [z, PySem.W.hideAll_none _ (List.mem_singleton.mpr rfl)] at e
        cases e
      have hidOf : ∀ b o, sI.heap.get? b = some o → b ≠ ce.locals → (PySem.W.hideAll sI.heap [ce.locals]).get? b = some o := fun b o e hb => PySem.W.hideAll_get _ e (by simpa using hb)
      have neS : ∀ b o, s3.heap.get? b = some o → b ≠ ce.locals := fun b o e z => by
        rw [z, cL] at e
        exact absurd (Heap.lt_size e) (Nat.lt_irrefl _)
      have hC' : H' ce.locals = none := IY.free
      have hokI : HOk X.prog X.w H' (PySem.W.hideAll sI.heap [ce.locals]) := fun b o q => (IY.hok b o q).stay (fun c u hc r => hidOf c u r fun z => by
        rcases hc with hc | hc
        · rw [hc] at z; rw [z, hC'] at q; cases q
        · rw [z, hC'] at hc; cases hc) (fun _ r => r) fun _ _ r => r
      have un : Un (frs X.stack) fp H3 H' s3.heap sI.heap := IY.base
      have IX : Inv X pins σ H' { sI with heap := PySem.W.hideAll sI.heap [ce.locals] } := by
        refine I3.call' (s' := { sI with heap := PySem.W.hideAll sI.heap [ce.locals] }) (ch := fp) IY.os ⟨fun b o e n h1 h2 => hidOf b o (un.keep b o e n h1 h2) (neS b o e), fun b o e n h1 h2 => ?_, un.free, fun b o e h2 => ?_, un.tups, un.frzs, un.tbls⟩ hokI IY.bare fun b hb => ⟨(f3 b hb).1.2.2.2.1, (f3 b hb).1.2.1, (f3 b hb).1.2.2.2.2.1, (f3 b hb).1.2.2.2.2.2⟩
        · obtain ⟨sl, q⟩ := un.slot b o e n h1 h2
          exact ⟨sl, hidOf b _ q (neS b o e)⟩
        · obtain ⟨o', q⟩ := un.there b o e h2
          exact ⟨o', hidOf b _ q (neS b o e)⟩
      refine ⟨a, PySem.W.hideAll B [ce.locals], { sI with heap := PySem.W.hideAll sI.heap [ce.locals] }, pins, σ, H', cls, d, rfl, IX, fun b o e hb => ?_, fun b o e hnf => ?_, .inr (.inr (by rw [hs]; exact hh4)), na, os, ag, w⟩
      · obtain ⟨e1, e2⟩ := hid b o e
        exact PySem.W.hideAll_get _ (nb b o e1 hb) (by simpa using e2)
      · obtain ⟨e1, e2⟩ := hid b o e
        obtain ⟨sl, q⟩ := (up.trans up') b o e1 hnf
        obtain ⟨sl2, q2⟩ := up4 b _ ((sb2 b e2).trans q) hnf
        exact ⟨sl2, q2⟩
    first
      | exact wpAny_bind (wpAny_pure (wpAny_bind fin2))
      | exact wpAny_bind fin2
  show wpAny (model X.prog X.w) X.A (noteFrame (.ref a) ce) _ _ s'
  rw [noteFrame_env _ cf]
  rcases sky with ⟨hB, hn, hl, oe, vs, he, hz, hd, h1⟩ | fl | hh
  · exact HandSPX.look_newZ Zc.steady hfr hl hf he hB hn hd h1 hz fin
  · exact HandSPX.looks_onZ Zc.steady hfr hf fl fin
  · exact looks_heldZ cne Zc.steady hfr hf hh fin
theorem lc_coreX {W : WX} {pins : List (Addr × Obj)} {s : Shared} {σ : L2.St} {H : Hp} {Q : VK} {elt tg iter : Expr} {ifs : List Expr} {scope : Scope} {own : List (Str × Nat)} {pos pos' : Pos} {wi : TI} {g : TG} {tt : TT} {te : TE} {use : Option (Value → Sem Unit)} {Qf : Value → Shared → Prop}
    (hst : X.stack = X.env :: X.outer) (hfr : X.env.frame = some X.env.locals) (tk : Takes X W) (hc : X.calm = true) (hN : X.N.Nodup) (I : Inv X pins σ H s) (hi : PI X tg iter wi) (ok : BlkOk X.N X.env.scope scope own)
    (hg : ∀ (s : Shared) (H : Hp) (C : Addr) (cl : List (Str × Addr)) (fp : List Addr) (xe : Value → Shared → Prop), PG (blkX X s H scope (compEnvC scope cl C X.env) fp xe) tg g) (ht : ∀ (s : Shared) (H : Hp) (C : Addr) (cl : List (Str × Addr)) (fp : List Addr) (xe : Value → Shared → Prop), Takes (blkX X s H scope (compEnvC scope cl C X.env) fp xe) (WAt W σ) → PTs (blkX X s H scope (compEnvC scope cl C X.env) fp xe) ifs tt)
    (he : ∀ (s : Shared) (H : Hp) (C : Addr) (cl : List (Str × Addr)) (fp : List Addr) (xe : Value → Shared → Prop), Takes (blkX X s H scope (compEnvC scope cl C X.env) fp xe) (WAt W σ) → PE (blkX X s H scope (compEnvC scope cl C X.env) fp xe) elt te) (hs : ∀ x, foldedSetIterable iter X.env x = pure x)
    (h : tLc wi g tt te (own.map (·.2)) σ H Q)
    (hRR : ∀ D C s' m H', Inv X pins σ H' s' → Q (.ref D) H' → s'.heap.Ns C m → FpOk X pins H' C → compPost (model X.prog X.w) X.A X.xe use Qf (.ref D) C (.ok .next) s') :
    wpAny (model X.prog X.w) X.A (comprehension (.ListComp elt [⟨tg, iter, ifs, 0⟩] scope pos) scope X.env pos' (newList []) false (eval iter X.env) use) Qf X.xe s := by
  have hfree : ∀ y ∈ scope.names, y.2 = .free → ∃ c, X.env.cells.lookup y.1 = some c := fun y hy e => by
    rcases ok.free y hy e with k | k
    · exact I.ok.has _ (.inl k)
    · exact I.ok.has _ (.inr k)
  refine comprehension_at (use := use) rfl hs (closure_ok hfree) ok.kind (fun y hy e => by rw [ok.uniq y hy, e])
    (thn (hi.run pins s σ H _ I h) fun xv s1 hx => thn hx fun itv s2 h2 => ?_)
  obtain ⟨it, fp, tn, J, H2, e, I2, T, st2, f2, q⟩ := h2
  subst e
  refine wpAny_newObj_type (newEnv_comp ?_) (by show 0 ≤ sizeLine; decide)
  generalize hD : s2.heap.objs.size = D
  have hDn : H2 D = none := I2.hok.fresh (Nat.le_of_eq hD)
  obtain ⟨W, ⟨m0, w0⟩, turn⟩ := q D hDn
  -- the new list
  generalize hs3 : ({ s2 with heap := s2.heap.push { cls := .type "list", data := .seq ([] : List Value).toArray } } : Shared) = s3
  have I3 : Inv X pins σ (upd H2 D (.lst [])) s3 := by
    rw [← hs3]
    refine I2.laid (t' := s2.toks) (fun b o e => Heap.get?_push_of_some _ e) (Nat.le_of_eq hD) ⟨Nat.zero_le _, [], 0, .nil, ?_⟩
    rw [← hD]
    exact Heap.get?_push_size _ rfl
  have h3 : s3.heap = s2.heap.push { cls := .type "list", data := .seq ([] : List Value).toArray } := by rw [← hs3]
  have sz : ∀ b ∈ fp, b < s2.heap.objs.size := fun b hb => by
    obtain ⟨o, e, _⟩ := T.obj _ _ st2 b hb
    exact Heap.lt_size e
  have f3 : ∀ b ∈ fp, FpOk X pins (upd H2 D (.lst [])) b ∧ b < s3.heap.objs.size := fun b hb => by
    have hlt := sz b hb
    refine ⟨⟨?_, (f2 b hb).2⟩, by rw [h3, Heap.size_push]; exact Nat.lt_succ_of_lt hlt⟩
    rw [upd_ne (by rw [← hD]; exact Nat.ne_of_lt hlt)]
    exact (f2 b hb).1
  have st3 : tn 0 s3.heap := T.keep _ _ _ st2 fun b _ o e => by rw [h3]; exact Heap.get?_push_of_some _ e
  have I4 := block_start I3 ok hN f3
  have cfE : (compEnvC scope (cellsFrom (s3.heap.objs.size + 1) scope.names (cloFrom X.env.cells scope.names [])) s3.heap.objs.size X.env).frame = X.env.frame := rfl
  have cL0 : (compEnvC scope (cellsFrom (s3.heap.objs.size + 1) scope.names (cloFrom X.env.cells scope.names [])) s3.heap.objs.size X.env).locals = s3.heap.objs.size := rfl
  have tkB := blk_takes (scope := scope) hst hfr tk I3 f3 cL0 cfE
  have I4 := I4.wish (notedBy (model X.prog X.w) X.A (compEnvC scope (cellsFrom (s3.heap.objs.size + 1) scope.names (cloFrom X.env.cells scope.names [])) s3.heap.objs.size X.env) (CompFails (model X.prog X.w) X.A X.xe (compEnvC scope (cellsFrom (s3.heap.objs.size + 1) scope.names (cloFrom X.env.cells scope.names [])) s3.heap.objs.size X.env)))
  have pg := hg s3 (upd H2 D (.lst [])) s3.heap.objs.size (cellsFrom (s3.heap.objs.size + 1) scope.names (cloFrom X.env.cells scope.names [])) fp
  have pt := ht s3 (upd H2 D (.lst [])) s3.heap.objs.size (cellsFrom (s3.heap.objs.size + 1) scope.names (cloFrom X.env.cells scope.names [])) fp _ tkB
  have pe := he s3 (upd H2 D (.lst [])) s3.heap.objs.size (cellsFrom (s3.heap.objs.size + 1) scope.names (cloFrom X.env.cells scope.names [])) fp _ tkB
  have pg := pg (notedBy (model X.prog X.w) X.A (compEnvC scope (cellsFrom (s3.heap.objs.size + 1) scope.names (cloFrom X.env.cells scope.names [])) s3.heap.objs.size X.env) (CompFails (model X.prog X.w) X.A X.xe (compEnvC scope (cellsFrom (s3.heap.objs.size + 1) scope.names (cloFrom X.env.cells scope.names [])) s3.heap.objs.size X.env)))
  show codeAny _ _ (.compStart (.ListComp elt [⟨tg, iter, ifs, 0⟩] scope pos) 0 (.ref it) (.ref D) (compEnvC scope (cellsFrom (s3.heap.objs.size + 1) scope.names (cloFrom X.env.cells scope.names [])) s3.heap.objs.size X.env)) (compEnds (model X.prog X.w) X.A X.xe use Qf (.ref D) (compEnvC scope (cellsFrom (s3.heap.objs.size + 1) scope.names (cloFrom X.env.cells scope.names [])) s3.heap.objs.size X.env)) { s3 with heap := pushCells (s3.heap.push { cls := .type "dict", data := .dict #[] }) scope.names }
  have nfp : ∀ b ∈ fp, (upd H2 D (.lst [])) b = none := fun b hb => (f3 b hb).1.1
  generalize hce : compEnvC scope (cellsFrom (s3.heap.objs.size + 1) scope.names (cloFrom X.env.cells scope.names [])) s3.heap.objs.size X.env = ce at I4 pg pt pe tkB cfE cL0 ⊢
  have cL : ce.locals = s3.heap.objs.size := by subst hce; rfl
  generalize hH3 : upd H2 D (.lst []) = H3 at I3 I4 pg pt pe w0 nfp f3 tkB
  generalize hs4 : ({ s3 with heap := pushCells (s3.heap.push { cls := .type "dict", data := .dict #[] }) scope.names } : Shared) = s4 at I4 ⊢
  have st4 : tn 0 s4.heap := T.keep _ _ _ st3 fun b _ o e => by rw [← hs4]; exact pushCells_keeps _ _ _ _ (Heap.get?_push_of_some _ e)
  have stat : ∀ {σ' : L2.St} {H' : Hp} {s' : Shared}, Inv (blkX X s3 H3 scope ce fp (notedBy (model X.prog X.w) X.A ce (CompFails (model X.prog X.w) X.A X.xe ce))) [] σ' H' s' → (∀ b ∈ fp, H' b = none) → ∀ b ∈ fp, FpOk (blkX X s3 H3 scope ce fp (notedBy (model X.prog X.w) X.A ce (CompFails (model X.prog X.w) X.A X.xe ce))) [] H' b := fun {σ' H' s'} I' hn b hb =>
    ⟨hn b hb, (I'.ok.exf b hb).1, I'.ok.exfs b hb, .inl hb, fun x c e => (I'.ok.exf b hb).2 x c e, fun p hp => absurd (show p ∈ ([] : List (Addr × Obj)) ++ [] from hp) (by simp)⟩
  have loop : codeAny (model X.prog X.w) X.A (.compLoop (.ListComp elt [⟨tg, iter, ifs, 0⟩] scope pos) 0 (.ref it) (.ref D) ce) (compEnds (model X.prog X.w) X.A X.xe use Qf (.ref D) ce) s4 := by
    refine compLoop_any (fun n s' => ∃ i H', Inv (blkX X s3 H3 scope ce fp (notedBy (model X.prog X.w) X.A ce (CompFails (model X.prog X.w) X.A X.xe ce))) [] (wipe σ (own.map (·.2))) H' s' ∧ tn i s'.heap ∧ (∀ b ∈ fp, H' b = none) ∧ W i n H') ?_ m0 ⟨0, H3, I4, st4, nfp, w0⟩
    rintro n s5 ⟨i, H5, I5, st5, n5, w5⟩
    rcases turn i n H5 w5 with ⟨stop, qq⟩ | ⟨go, Nx, hNx, step⟩
    · have td := T.done (blkX X s3 H3 scope ce fp (notedBy (model X.prog X.w) X.A ce (CompFails (model X.prog X.w) X.A X.xe ce))) rfl rfl rfl hc i [] s5 _ H5 (fun _ _ => False) I5 (stat I5 n5) st5 stop
      refine thnF td fun r s6 ⟨hr, I6⟩ => ?_
      subst hr
      -- back in the def's context
      have I7 : Inv X pins σ H5 s6 := I3.call' (ch := fp) I6.os I6.base I6.hok I6.bare fun b hb => ⟨(f3 b hb).1.2.2.2.1, (f3 b hb).1.2.1, (f3 b hb).1.2.2.2.2.1, (f3 b hb).1.2.2.2.2.2⟩
      have nC : H5 s3.heap.objs.size = none := by
        have z : H5 ce.locals = none := I6.free
        rw [cL] at z
        exact z
      obtain ⟨m, hn, _⟩ := I6.loc
      have hn : s6.heap.Ns ce.locals m := hn
      rw [cL] at hn
      have fin := hRR D s3.heap.objs.size s6 m H5 I7 qq hn (I3.fpOk (Nat.le_refl _) nC)
      cases use with
      | none => exact (by rw [← cL] at fin; exact fin)
      | some u => exact (by rw [← cL] at fin; exact fin)
    · have ti := T.item (blkX X s3 H3 scope ce fp (notedBy (model X.prog X.w) X.A ce (CompFails (model X.prog X.w) X.A X.xe ce))) rfl rfl rfl hc i [] s5 _ H5 (fun _ _ => False) I5 (stat I5 n5) st5 go
      refine thnF ti fun r s6 ⟨u, hr, h6⟩ => ?_
      subst hr
      refine thnF h6 fun _ s7 ⟨x, H7, I7, r7, y7, st7, n7⟩ => ?_
      have I7' := I7.pinned (stat I7 n7) (T.obj _ _ st7)
      refine thn (pg.run _ s7 _ H7 x u _ I7' r7 (step x H7 y7)) fun _ s8 ⟨σ8, H8, I8, hw8, q8⟩ => ?_
      refine thn (pt.run _ s8 σ8 H8 _ I8 q8) fun b s9 ⟨H9, I9, q9⟩ => ?_
      -- the turn's end
      have fin : ∀ {s' : Shared} {H' : Hp}, Inv (blkX X s3 H3 scope ce fp (notedBy (model X.prog X.w) X.A ce (CompFails (model X.prog X.w) X.A X.xe ce))) ([] ++ pinsAt fp s7.heap) σ8 H' s' → Nx H' → ∃ m, m < n ∧ ∃ i H', Inv (blkX X s3 H3 scope ce fp (notedBy (model X.prog X.w) X.A ce (CompFails (model X.prog X.w) X.A X.xe ce))) [] (wipe σ (own.map (·.2))) H' s' ∧ tn i s'.heap ∧ (∀ b ∈ fp, H' b = none) ∧ W i m H' := fun {s' H'} I' nx => by
        obtain ⟨m', hm, w'⟩ := hNx H' nx
        have pin' : ∀ b ∈ fp, ∀ o, s7.heap.get? b = some o → s'.heap.get? b = some o ∧ H' b = none := fun b hb o e =>
          let z := I'.pin (b, o) (List.mem_append_right _ (List.mem_append_right _ (mem_pinsAt hb e)))
          ⟨z.1, z.2.1⟩
        have hl : (wipe σ (own.map (·.2))).length = σ8.length := by rw [← hw8, wipe_length]
        refine ⟨m', hm, i + 1, H', (I'.unpinned (pins := [])).weak hl (fun j v e => ?_), T.keep _ _ _ st7 fun b hb o e => (pin' b hb o e).1, fun b hb => ?_, w'⟩
        · rw [← hw8] at e
          exact (wipe_some e).1
        · obtain ⟨o, e, _⟩ := T.obj _ _ st7 b hb
          exact (pin' b hb o e).2
      cases b with
      | false =>
        simp only [Bool.false_eq_true, if_false] at q9 ⊢
        exact fin I9 q9
      | true =>
        simp only [if_true] at q9 ⊢
        refine thn (pe.run _ s9 σ8 H9 _ I9 q9) fun z s10 ⟨yv, H10, I10, r10, acc, hD10, hz10, nx⟩ => ?_
        exact app_ok (X := blkX X s3 H3 scope ce fp (notedBy (model X.prog X.w) X.A ce (CompFails (model X.prog X.w) X.A X.xe ce))) I10 hD10 hz10 r10 fun s11 I11 => fin I11 nx
  exact codeAny_compStart_list loop (T.self X.A 0 _ _ _ st4 loop)

/-- as a value, what leaves it wished for at the slots where it stands -/
theorem pe_lcX {W : WX} {elt tg iter : Expr} {ifs : List Expr} {scope : Scope} {own : List (Str × Nat)} {pos : Pos} {wi : TI} {g : TG} {tt : WX → TT} {te : WX → TE} (hst : X.stack = X.env :: X.outer) (hfr : X.env.frame = some X.env.locals) (tk : Takes X W) (hc : X.calm = true) (hN : X.N.Nodup) (hi : PI X tg iter wi) (ok : BlkOk X.N X.env.scope scope own)
    (hg : ∀ (s : Shared) (H : Hp) (C : Addr) (cl : List (Str × Addr)) (fp : List Addr) (xe : Value → Shared → Prop), PG (blkX X s H scope (compEnvC scope cl C X.env) fp xe) tg g)
    (ht : ∀ (s : Shared) (H : Hp) (C : Addr) (cl : List (Str × Addr)) (fp : List Addr) (xe : Value → Shared → Prop) (W' : WX), Takes (blkX X s H scope (compEnvC scope cl C X.env) fp xe) W' → PTs (blkX X s H scope (compEnvC scope cl C X.env) fp xe) ifs (tt W'))
    (he : ∀ (s : Shared) (H : Hp) (C : Addr) (cl : List (Str × Addr)) (fp : List Addr) (xe : Value → Shared → Prop) (W' : WX), Takes (blkX X s H scope (compEnvC scope cl C X.env) fp xe) W' → PE (blkX X s H scope (compEnvC scope cl C X.env) fp xe) elt (te W')) (hs : ∀ x, foldedSetIterable iter X.env x = pure x := by intro _; rfl) :
    PE X (.ListComp elt [⟨tg, iter, ifs, 0⟩] scope pos) (fun σ H Q => tLc wi g (tt (WAt W σ)) (te (WAt W σ)) (own.map (·.2)) σ H Q) := by
  refine ⟨fun pins s σ H Q I h => ?_⟩
  rw [eval_ListComp]
  refine lc_coreX hst hfr tk hc hN I hi ok hg (fun s H C cl fp xe t => ht s H C cl fp xe _ t) (fun s H C cl fp xe t => he s H C cl fp xe _ t) hs h fun D C s' m H' I' q hn f => ⟨m, hn, fun h'' sb => ?_⟩
  obtain ⟨f0, f1, f2, f3, f4, f5⟩ := f
  exact ⟨.ref D, H', I'.turned (t' := s'.toks) (fun b o hb e => (sb.2 b hb).trans e) f0 f1 f3 f4 f5, rfl, q⟩

/-- name = [..] on one line, the name a local -/
theorem ps_setLcX {W : WX} {i : Nat} {y : Str} {py : Pos} {elt tg iter : Expr} {ifs : List Expr} {scope : Scope} {own : List (Str × Nat)} {pos spos : Pos} {wi : TI} {g : TG} {tt : WX → TT} {te : WX → TE} (hst : X.stack = X.env :: X.outer) (hfr : X.env.frame = some X.env.locals) (tk : Takes X W) (hc : X.calm = true) (hN : X.N.Nodup) (hy : X.N[i]? = some y) (hyl : X.env.scope.names.lookup y = some .local)
    (hsw : swapsWith (.ListComp elt [⟨tg, iter, ifs, 0⟩] scope pos) (some (.Name y py)) spos.line X.env = pure true) (hi : PI X tg iter wi) (ok : BlkOk X.N X.env.scope scope own)
    (hg : ∀ (s : Shared) (H : Hp) (C : Addr) (cl : List (Str × Addr)) (fp : List Addr) (xe : Value → Shared → Prop), PG (blkX X s H scope (compEnvC scope cl C X.env) fp xe) tg g)
    (ht : ∀ (s : Shared) (H : Hp) (C : Addr) (cl : List (Str × Addr)) (fp : List Addr) (xe : Value → Shared → Prop) (W' : WX), Takes (blkX X s H scope (compEnvC scope cl C X.env) fp xe) W' → PTs (blkX X s H scope (compEnvC scope cl C X.env) fp xe) ifs (tt W'))
    (he : ∀ (s : Shared) (H : Hp) (C : Addr) (cl : List (Str × Addr)) (fp : List Addr) (xe : Value → Shared → Prop) (W' : WX), Takes (blkX X s H scope (compEnvC scope cl C X.env) fp xe) W' → PE (blkX X s H scope (compEnvC scope cl C X.env) fp xe) elt (te W')) (hs : ∀ x, foldedSetIterable iter X.env x = pure x := by intro _; rfl) :
    PS X (.Assign [.Name y py] (.ListComp elt [⟨tg, iter, ifs, 0⟩] scope pos) spos) (tAsg (fun σ H Q => tLc wi g (tt (WAt W σ)) (te (WAt W σ)) (own.map (·.2)) σ H Q) (gName i)) := by
  refine ⟨fun pins s σ H D I h => ?_⟩
  rw [exec_Assign_Name_used _ _ _ _ hsw]
  refine wpAny_bind (wpAny_standAt (wpAny_bind ?_))
  show wpAny _ X.A (do let _ ← comprehension (.ListComp elt [⟨tg, iter, ifs, 0⟩] scope pos) scope X.env (firstIterPos [⟨tg, iter, ifs, 0⟩] pos) (newList []) false (eval iter X.env) (some (assign (.Name y py) X.env))) _ _ s
  have h : tLc wi g (tt (WAt W σ)) (te (WAt W σ)) (own.map (·.2)) σ H (fun x H1 => gName i x σ H1 D.nx) := h
  refine wpAny_bind (thn (lc_coreX (Qf := fun _ s' => SP X pins D .next s') hst hfr tk hc hN I hi ok hg (fun s H C cl fp xe t => ht s H C cl fp xe _ t) (fun s H C cl fp xe t => he s H C cl fp xe _ t) hs h fun L C s' m H' I' q hn f => ?_) fun _ s' hq => wpAny_pure (wpAny_pure hq))
  show wpAny _ _ (assign (.Name y py) X.env (.ref L)) _ _ _
  refine wpAny_assign_Name (store_ok2 (v := V.ref L) I' hN hy (.inl hyl) rfl (fun s2 I2 ⟨a, sb, ha⟩ => ?_) (.inr hyl))
  obtain ⟨f0, f1, f2, f3, f4, f5⟩ := f
  have haC : C ≠ a := by
    rcases ha with z | z
    · rw [z]; exact f1
    · exact fun e => f4 y a z e.symm
  refine ⟨m, hn.sameBut sb haC, fun h3 sb3 => ?_⟩
  exact ⟨_, H', I2.turned (t' := s2.toks) (fun b o hb e => (sb3.2 b hb).trans e) f0 f1 f3 f4 f5, q⟩
end
end LX

set_option Elab.async false
set_option linter.all false
set_option maxRecDepth 100000
set_option maxHeartbeats 4000000
/-! MaxD: max(xs, default=d); the loop follows PyProof.MinMaxWalk's. -/
namespace PySem
namespace MaxD
open Sem (wp)
theorem args_d (a v : Value) : argsOk "max" ⟨[a], [(Str.ofString "default", v)]⟩ := by unfold argsOk; kernel_rfl
abbrev dk (d : Value) : List (Str × Value) := [(Str.ofString "default", d)]
section
variable {prog : Program} {w : World} {A : Around} {R : Result → Shared → Prop} {I : Addr} {fp wr : List Addr} {n : Nat} {P : Nat → Value → Prop} {St : Nat → Heap → Prop} {d : Value}

theorem loop (W : Walks prog w A.in1 I fp wr n P St) (bt : Nat → Nat → Bool) (hcmp : CmpOf prog w A.in1 .Gt P bt) (S : Addr) (hSf : S ∉ fp) :
    ∀ (k j : Nat) (s : Shared) (vb : Value) (c : Nat), n - (j + 1) = k → j + 1 ≤ n → St (j + 1) s.heap → P (argBest bt j) vb →
    s.heap.get? S = some { cls := .type "list", dict := none, data := .seq #[vb, vb] c, slots := #[] } →
    (∀ v h' tk, P (argBest bt (n - 1)) v → (∀ b o, b ∉ wr → b ≠ S → s.heap.get? b = some o → h'.get? b = some o) → R (.ok (.ret v)) { s with heap := h', toks := tk }) →
    codeAny (model prog w) A (.builtin "max.loop" ⟨[.ref I, .none, .ref S], dk d⟩) R s := by
  have hSw : S ∉ wr := fun h => hSf (W.sub _ h)
  have hname : (toString "max" ++ toString ".loop" : String) = "max.loop" := by decide
  intro k
  induction k with
  | zero =>
    intro j s vb c hk hj hst hPb hS hR
    have hin : j + 1 = n := by omega
    refine codeAny_builtin F.entry_max_loop ?_
    rw [Around.under_plainId F.plain_max_loop _]
    show wpAny _ A.in1 (seqItems? (.ref S) >>= _) _ _ s
    refine wpAny_bind (wpAny_seqItems hS rfl ?_)
    show wpAny _ A.in1 (tryCatch (pyNext (.ref I)) _ >>= _) _ _ s
    refine wpAny_bind (wpAny_tryCatch (W.done s _ _ (hin ▸ hst) fun h' tk hk' => ?_))
    have hS' := hk' S _ hSw hS
    show wpAny _ A.in1 (updateSeq S (fun _ => #[]) >>= _) _ _ _
    refine wpAny_bind ?_
    refine wpAny_updateSeq hS' rfl (wpAny_bind (wpAny_letGo (wpAny_pure ?_)))
    refine hR vb _ tk (by rw [← hin]; exact hPb) fun b o hbw hbS e => (Heap.get?_update_other _ _ (Ne.symm hbS)).trans (hk' b o hbw e)
  | succ k ih =>
    intro j s vb c hk hj hst hPb hS hR
    have hlt : j + 1 < n := by omega
    refine codeAny_builtin F.entry_max_loop ?_
    rw [Around.under_plainId F.plain_max_loop _]
    show wpAny _ A.in1 (seqItems? (.ref S) >>= _) _ _ s
    refine wpAny_bind (wpAny_seqItems hS rfl ?_)
    show wpAny _ A.in1 (tryCatch (pyNext (.ref I)) _ >>= _) _ _ s
    refine wpAny_bind (wpAny_tryCatch (W.item (j + 1) s _ _ hlt hst fun v h' tk hP hst' hk' => ?_))
    have hS' := hk' S _ hSw hS
    show wpAny _ A.in1 (tryCatch (holding [v, v] (richCompare .Gt v vb >>= _)) _ >>= _) _ _ _
    refine wpAny_bind (wpAny_tryCatch (wpAny_holding (wpAny_bind (hcmp (j + 1) (argBest bt j) v vb _ _ _ hP hPb ?_))))
    refine wpAny_bind (wpAny_holding (wpAny_truthy_bool ?_))
    refine wpAny_bind (wpAny_letGo (wpAny_pure ?_))
    cases hb : bt (j + 1) (argBest bt j) with
    | true =>
      simp only [if_true]
      refine wpAny_bind ?_
      refine wpAny_updateSeq hS' rfl (wpAny_bind (wpAny_letGo ?_))
      rw [hname]
      refine wpAny_pure ⟨plainId_quiet F.plain_max_loop _, ih (j + 1) _ v _ (by omega) hlt (W.frame _ _ _ hst' fun b hbf o e => ?_) (by simp only [argBest, hb, if_true]; exact hP) (Heap.get?_update_self _ hS' rfl)
        fun v' h'' tk'' hP' hk'' => ?_⟩
      · exact (Heap.get?_update_other _ _ (fun h : S = b => hSf (by rw [h]; exact hbf))).trans e
      · exact hR v' h'' tk'' hP' fun b o hbw hbS e => hk'' b o hbw hbS ((Heap.get?_update_other _ _ (Ne.symm hbS)).trans (hk' b o hbw e))
    | false =>
      simp only [Bool.false_eq_true, if_false]
      refine wpAny_bind (wpAny_letGo ?_)
      rw [hname]
      refine wpAny_pure ⟨plainId_quiet F.plain_max_loop _, ih (j + 1) _ vb c (by omega) hlt hst' (by simp only [argBest, hb, Bool.false_eq_true, if_false]; exact hPb) hS' fun v' h'' tk'' hP' hk'' => ?_⟩
      exact hR v' h'' tk'' hP' fun b o hbw hbS e => hk'' b o hbw hbS (hk' b o hbw e)

theorem loop_first (W : Walks prog w A.in1 I fp wr n P St) (bt : Nat → Nat → Bool) (hcmp : CmpOf prog w A.in1 .Gt P bt) (S : Addr) (hSf : S ∉ fp) (hn : 0 < n) {s : Shared} {c : Nat} (hst : St 0 s.heap)
    (hS : s.heap.get? S = some { cls := .type "list", dict := none, data := .seq #[] c, slots := #[] })
    (hR : ∀ v h' tk, P (argBest bt (n - 1)) v → (∀ b o, b ∉ wr → b ≠ S → s.heap.get? b = some o → h'.get? b = some o) → R (.ok (.ret v)) { s with heap := h', toks := tk }) :
    codeAny (model prog w) A (.builtin "max.loop" ⟨[.ref I, .none, .ref S], dk d⟩) R s := by
  have hSw : S ∉ wr := fun h => hSf (W.sub _ h)
  have hname : (toString "max" ++ toString ".loop" : String) = "max.loop" := by decide
  refine codeAny_builtin F.entry_max_loop ?_
  rw [Around.under_plainId F.plain_max_loop _]
  show wpAny _ A.in1 (seqItems? (.ref S) >>= _) _ _ s
  refine wpAny_bind (wpAny_seqItems hS rfl ?_)
  show wpAny _ A.in1 (tryCatch (pyNext (.ref I)) _ >>= _) _ _ s
  refine wpAny_bind (wpAny_tryCatch (W.item 0 s _ _ hn hst fun v h' tk hP hst' hk' => ?_))
  have hS' := hk' S _ hSw hS
  show wpAny _ A.in1 (updateSeq S (fun _ => #[v, v]) >>= _) _ _ _
  refine wpAny_bind ?_
  refine wpAny_updateSeq hS' rfl ?_
  rw [hname]
  refine wpAny_pure ⟨plainId_quiet F.plain_max_loop _, loop W bt hcmp S hSf _ 0 _ v _ rfl hn (W.frame _ _ _ hst' fun b hbf o e => ?_) hP (Heap.get?_update_self _ hS' rfl) fun v' h'' tk'' hP' hk'' => ?_⟩
  · exact (Heap.get?_update_other _ _ (fun h : S = b => hSf (by rw [h]; exact hbf))).trans e
  · exact hR v' h'' tk'' hP' fun b o hbw hbS e => hk'' b o hbw hbS ((Heap.get?_update_other _ _ (Ne.symm hbS)).trans (hk' b o hbw e))
end


section
variable {prog : Program} {w : World} {A : Around} {I : Addr} {fp wr : List Addr} {n : Nat} {P : Nat → Value → Prop} {St : Nat → Heap → Prop} {d : Value} {R : Result → Shared → Prop}
theorem loop_none (W : Walks prog w A.in1 I fp wr n P St) (S : Addr) (hSf : S ∉ fp) (hn : n = 0) {s : Shared} {c : Nat} (hst : St 0 s.heap)
    (hS : s.heap.get? S = some { cls := .type "list", dict := none, data := .seq #[] c, slots := #[] })
    (hR : ∀ h' tk, (∀ b o, b ∉ wr → s.heap.get? b = some o → h'.get? b = some o) → R (.ok (.ret d)) { s with heap := h', toks := tk }) :
    codeAny (model prog w) A (.builtin "max.loop" ⟨[.ref I, .none, .ref S], dk d⟩) R s := by
  refine codeAny_builtin F.entry_max_loop ?_
  rw [Around.under_plainId F.plain_max_loop _]
  show wpAny _ A.in1 (seqItems? (.ref S) >>= _) _ _ s
  refine wpAny_bind (wpAny_seqItems hS rfl ?_)
  show wpAny _ A.in1 (tryCatch (pyNext (.ref I)) _ >>= _) _ _ s
  refine wpAny_bind (wpAny_tryCatch (W.done s _ _ (hn ▸ hst) fun h' tk hk' => ?_))
  exact wpAny_bind (wpAny_rule (wpAny_pure (hR h' tk hk')))
end

section
variable {prog : Program} {w : World} {A : Around} {E : Value → Shared → Prop} {s : Shared} {d : Value}
theorem call_walk {x : Value} {Q : Value → Shared → Prop}
    (h : wpAny (model prog w) A.in1 (pyIter x) (fun it s₂ => ∃ I fp wr n P St bt, it = .ref I ∧ Walks prog w A.in1 I fp wr n P St ∧ St 0 s₂.heap ∧ (∀ b ∈ fp, b < s₂.heap.objs.size) ∧ CmpOf prog w A.in1 .Gt P bt ∧
      (0 < n → ∀ v h' tk, P (argBest bt (n - 1)) v → (∀ b o, b ∉ wr → s₂.heap.get? b = some o → h'.get? b = some o) → Q v { s₂ with heap := h', toks := tk }) ∧
      (n = 0 → ∀ h' tk, (∀ b o, b ∉ wr → s₂.heap.get? b = some o → h'.get? b = some o) → Q d { s₂ with heap := h', toks := tk })) E s) :
    wpAny (model prog w) A (call (.builtin "max") [x] (dk d)) Q E s := by
  have hname : (toString "max" ++ toString ".loop" : String) = "max.loop" := by decide
  refine PyProof.Rows.kmk_tree F.kind_max F.plain_max F.entry_max (args_d _ _) ?_
  show wpAny _ A.in1 (Builtin.Builtins.bindParams "max" ["key", "default"] 0 ⟨[], dk d⟩ >>= _) _ _ s
  refine wpAny_bind (wpAny_of_eq (show Builtin.Builtins.bindParams "max" ["key", "default"] 0 ⟨[], dk d⟩ = pure [none, some d] from rfl) ?_)
  refine wpAny_bind (wpAny_pure ?_)
  refine wpAny_bind (wpAny_mono h (fun it s₂ h₂ => ?_) fun _ _ e => e)
  obtain ⟨I, fp, wr, n, P, St, bt, rfl, W, hst, hfp, hcmp, hQ, hQ0⟩ := h₂
  refine wpAny_bind (wpAny_newObj_type ?_)
  have hSf : s₂.heap.objs.size ∉ fp := fun hm => Nat.lt_irrefl _ (hfp _ hm)
  rw [hname]
  rcases Nat.eq_zero_or_pos n with hn | hn
  · exact wpAny_pure ⟨plainId_quiet F.plain_max_loop _, loop_none W s₂.heap.objs.size hSf hn (W.frame _ _ _ hst fun b _ o e => Heap.get?_push_of_some _ e) (Heap.get?_push_size _ rfl) fun h' tk hk => hQ0 hn h' tk fun b o hbw e => hk b o hbw (Heap.get?_push_of_some _ e)⟩
  refine wpAny_pure ⟨plainId_quiet F.plain_max_loop _, loop_first W bt hcmp s₂.heap.objs.size hSf hn (W.frame _ _ _ hst fun b _ o e => Heap.get?_push_of_some _ e) (Heap.get?_push_size _ rfl) fun v h' tk hP hk => ?_⟩
  exact hQ hn v h' tk hP fun b o hbw e => hk b o hbw (Nat.ne_of_lt (Heap.lt_size e)) (Heap.get?_push_of_some _ e)
end
end MaxD
end PySem
namespace MaxD
open PySem PySem.Spec PyProof.Rows L2
theorem mem_getD_ {l : List Int} {a : Int} (h : a ∈ l) : ∃ j, j < l.length ∧ l.getD j 0 = a := by
  obtain ⟨j, hj, rfl⟩ := List.mem_iff_getElem.mp h
  exact ⟨j, hj, by simp [List.getD, hj]⟩
theorem raw {prog : Program} {w : World} {A : Around} {E : Value → Shared → Prop} {s : Shared} {Q : Value → Shared → Prop} {its : List Value} {ns : List Int} {l : Addr} {d : Value} (hh : A.handled = none) (hl : s.heap.IsList l its.toArray) (hi : IntsAre its ns)
    (h : ns ≠ [] → ∀ h' tk M t', (∀ b o, s.heap.get? b = some o → h'.get? b = some o) → M ∈ ns → (∀ a, a ∈ ns → a ≤ M) → Q (.int M t') { s with heap := h', toks := tk })
    (h0 : ns = [] → ∀ h' tk, (∀ b o, s.heap.get? b = some o → h'.get? b = some o) → Q d { s with heap := h', toks := tk }) : wpAny (model prog w) A (call (.builtin "max") [.ref l] (PySem.MaxD.dk d)) Q E s := by
  obtain ⟨xs, e⟩ := hi.allInts.items
  have hn : numsOf (intItems xs).toList = ns := by rw [← e]; exact hi.numsOf
  rw [nums_intItems] at hn
  subst hn
  rw [e] at hl
  have hz : (intItems xs).size = xs.size := by simp [intItems]
  refine PySem.MaxD.call_walk (iter_intList hl fun s₂ es st hfp hlI => ?_)
  subst es
  refine ⟨_, _, _, _, _, _, _, rfl, Walks.list (A := A.in1) hh _ l hlI (intItems xs), st, hfp, CmpOf.ints_gt (numAt xs) (fun _ _ => intItems_at), fun hne v h' tk hP hk => ?_, fun hne h' tk hk => ?_⟩
  · have hv : (intItems xs)[argBest (fun i j => decide (numAt xs i > numAt xs j)) (xs.size - 1)]? = some v := by rw [← hz]; simpa [intItems] using hP
    obtain ⟨t, rfl⟩ := intItems_at hv
    obtain ⟨h1, h2⟩ := argBest_gt (numAt xs) (xs.size - 1)
    have hpos : 0 < xs.size := by rw [hz] at hne; exact hne
    have hlt : argBest (fun i j => decide (numAt xs i > numAt xs j)) (xs.size - 1) < xs.size := Nat.lt_of_le_of_lt h1 (Nat.sub_lt hpos Nat.one_pos)
    refine h (fun z => ?_) h' tk _ t (old_kept hk) ?_ fun a ha => ?_
    · have := congrArg List.length z
      rw [List.length_map, Array.length_toList] at this
      rw [this] at hpos
      exact Nat.lt_irrefl _ hpos
    · rw [numAt_eq]; exact PySem.getD_mem (by rw [List.length_map, Array.length_toList]; exact hlt)
    · obtain ⟨j, hj, rfl⟩ := MaxD.mem_getD_ ha
      rw [List.length_map, Array.length_toList] at hj
      rw [← numAt_eq]; exact h2 j (by omega)
  · rw [hz] at hne
    refine h0 ?_ h' tk (old_kept hk)
    exact List.length_eq_zero_iff.mp (by rw [List.length_map, Array.length_toList]; exact hne)
theorem call_maxD {X : Cx} (hc : X.calm = true) : CallRK X (.builtin "max") ["default"] (fun xs zs H Q => ∃ (a : Addr) (ns : List Int) (d : V), xs = [.ref a] ∧ zs = [d] ∧ SqL X.K H a (ns.map V.int) ∧ (ns ≠ [] → ∀ m, m ∈ ns → (∀ y, y ∈ ns → y ≤ m) → Q (.int m) H) ∧ (ns = [] → Q d H)) := by
  intro pins s σ H vs zs us ws Q I r rz h
  obtain ⟨a, ns, d, rfl, rfl, hs, q, q0⟩ := h
  obtain ⟨its, rv, hl, _⟩ := I.list hs
  obtain ⟨u, rfl, ru⟩ := vals1 r
  cases ru
  obtain ⟨w', rfl, rw'⟩ := vals1 rz
  show wpAny _ _ (call (.builtin "max") [.ref a] (PySem.MaxD.dk w')) _ _ _
  exact raw (I.ok.hd hc) hl.isList rv.ints (fun hne h' tk m t' hk h1 h2 => ⟨.int _, H, I.kept hk, ⟨_, rfl⟩, q hne m h1 h2⟩) fun hne h' tk hk => ⟨d, H, I.kept hk, rw', q0 hne⟩
end MaxD

set_option Elab.async false
set_option linter.all false
set_option maxRecDepth 100000
set_option maxHeartbeats 4000000
/-! SupX: an own exception over ValueError whose __init__ says super().__init__(text + str(par)); self.par = par. -/
namespace PySem
namespace SupX
open PySem.W PySem.Calls PyProof.Rows PySem.HandSPX
abbrev sArgs (par : Str) (p1 p2 : Pos) : Arguments := { posonlyargs := [], args := [{ arg := "self", annotation := none, pos := p1 }, { arg := par, annotation := none, pos := p2 }], vararg := none, kwonlyargs := [], kw_defaults := [], kwarg := none, defaults := [] }
structure Ps where
  (a b c d e f g h i j k l m n o p : Pos)
abbrev sArg (pre par : Str) (q : Ps) : Expr := .BinOp (.Constant (.str pre) 0 q.d) .Add (.Call (.Name "str" q.e) [.Name par q.f] [] q.g) q.h
abbrev sBody (pre par : Str) (q : Ps) : List Stmt :=
  [.Expr (.Call (.Attribute (.Call (.Name "super" q.a) [] [] q.b) "__init__" q.c) [sArg pre par q] [] q.i) q.j, .Assign [.Attribute (.Name "self" q.k) par q.l] (.Name par q.m) q.n]
abbrev sScope (par : Str) : Scope := { kind := .function, names := [(PySem.Str.ofString "self", .local), (par, .local), (PySem.Str.ofString "__class__", .free), (PySem.Str.ofString "super", .globalImplicit), (PySem.Str.ofString "str", .globalImplicit)], isGenerator := false, isCoroutine := false, more := [] }
/-- what the written part says of such a class -/
structure Txt (P : Program) (K : Frag) (mg : Str → Option Value) (nm pre par : Str) (p1 p2 : Pos) (q : Ps) (C : Addr) : Prop where
  gC : mg nm = some (.ref C)
  top : (P.main.scope.names.lookup ("super" : Str)).isSome = false
  nsup : mg "super" = none
  nstr : mg "str" = none
  cls : ∃ nm q N bs bm sn sub ab col dd k0 k1 k2 k3 k5, K.lookup C = some (excClassObj nm q C N bs bm true sn sub ab col dd k0 k1 k2 k3 k5 "ValueError.__new__") ∧ refsVE bm = true
  ini : excInitIn K C [.type "ValueError", .type "Exception", .type "BaseException", .type "object"] "ValueError.__new__" = true
  sa : findIn K (.ref C) "__setattr__" = some (some (.builtin "object.__setattr__"))
  ga : findIn K (.ref C) "__getattribute__" = some (some (.builtin "BaseException.__getattribute__"))
  gg : findIn K (.ref C) "__getattr__" = some none
  noN : findIn K (.ref C) par = some none
  kC : keepIn K (.ref C) = true
  exC : subIn K (.ref C) (.type "BaseException") = some true
  exV : subIn K (.ref C) (.type "ValueError") = some true
  tyC : typeIn K (.ref C) = some (.type "type")
  hdC : hasDictIn K C = true
  mro : mroIn K C (.ref C) = some true
  opq : nsIn K cStatics "thirdparty.any" = some none
  sup : ks_superIn K C C "__init__" = some (some (.builtin "ValueError.__init__"))
  fn : ∃ (f : Addr) (oc : Value) (od : Option Addr) (qual : Str) (doc pm : Value) (an : Option Addr) (cda cc : Addr) (ct : Value) (osl : Array (Option Value)) (ccl cl : Value) (cdd cld : Option Addr) (ccs csl : Array (Option Value)) (vs : Array Value) (file : Str) (tf : Tok),
    findIn K (.ref C) "__init__" = some (some (.ref f)) ∧ typeIn K (.ref f) = some (.type "function") ∧
    K.lookup f = some ⟨oc, od, .func (ksFn "__init__" qual (sArgs par p1 p2) (sBody pre par q) (sScope par) .none .none doc pm an (.ref cda) ct cc), osl⟩ ∧ codeIn K (.ref cda) qual = true ∧
    K.lookup cda = some ⟨ccl, cdd, .fields vs, ccs⟩ ∧ vs[2]? = some (.str file tf) ∧ ((P.main.file : Str) == file) = true ∧ K.lookup cc = some ⟨cl, cld, .cell (some (.ref C)), csl⟩
/-- what rfl shows of the text, once its places are known -/
def BindOk (pre par : Str) (p1 p2 : Pos) (q : Ps) : Prop := ∀ (qual : Str) (doc pm : Value) (an : Option Addr) (cdv ct : Value) (cc : Addr) (x v : Value),
  bindArgs (ksFn "__init__" qual (sArgs par p1 p2) (sBody pre par q) (sScope par) .none .none doc pm an cdv ct cc) ⟨[x, v], []⟩ = pure ([(PySem.Str.ofString "self", x), (par, v)] : List (Str × Value))
def EvalOk (pre par : Str) (q : Ps) : Prop := ∀ (qual : Str) (L f cda cc : Addr), ∃ pl : Sem Bool,
  eval (.Call (.Attribute (.Call (.Name "super" q.a) [] [] q.b) "__init__" q.c) [sArg pre par q] [] q.i) (ksEnv qual (sScope par) L f (.ref cda) cc) = (do
      let ov ← attributeBase (.Call (.Name "super" q.a) [] [] q.b) "__init__" (ksEnv qual (sScope par) L f (.ref cda) cc) (eval (.Call (.Name "super" q.a) [] [] q.b) (ksEnv qual (sScope par) L f (.ref cda) cc))
      standAt q.c.atName
      let (g, first) ← holding [ov] (getMethod ov "__init__" pl)
      callWith q.i g first (backTo q.i (starEach [sArg pre par q] (ksEnv qual (sScope par) L f (.ref cda) cc))) []) ∧
  swapsWith (.Call (.Attribute (.Call (.Name "super" q.a) [] [] q.b) "__init__" q.c) [sArg pre par q] [] q.i) none q.j.line (ksEnv qual (sScope par) L f (.ref cda) cc) = pure false ∧
  swapsWith (.Name par q.m) (some (.Attribute (.Name "self" q.k) par q.l)) q.n.line (ksEnv qual (sScope par) L f (.ref cda) cc) = pure false ∧
  starEach [sArg pre par q] (ksEnv qual (sScope par) L f (.ref cda) cc) = (false, eval (sArg pre par q) (ksEnv qual (sScope par) L f (.ref cda) cc)) :: starEach [] (ksEnv qual (sScope par) L f (.ref cda) cc) ∧
  starEach [.Name par q.f] (ksEnv qual (sScope par) L f (.ref cda) cc) = (false, eval (.Name par q.f) (ksEnv qual (sScope par) L f (.ref cda) cc)) :: starEach [] (ksEnv qual (sScope par) L f (.ref cda) cc)
structure ParOk (par : Str) : Prop where
  s : (sScope par).names.lookup ("super" : Str) = some .globalImplicit
  c : (sScope par).names.lookup ("__class__" : Str) = some .free
  t : (sScope par).names.lookup ("str" : Str) = some .globalImplicit
  p : (sScope par).names.lookup par = some .local
  self : (sScope par).names.lookup ("self" : Str) = some .local
  n : (par == ("self" : Str)) = false
  d : (par == ("__debug__" : Str)) = false
/-- a made one -/
structure OwnMade (h h' : Heap) (par : Str) (e C d : Addr) (v : Value) : Prop where
  keep : ∀ b o, h.get? b = some o → h'.get? b = some o
  new : h.objs.size ≤ e
  obj : ∃ oe vs, h'.get? e = some oe ∧ oe.cls = .ref C ∧ oe.dict = some d ∧ oe.data = .fields vs ∧ vs[1]? = some .none
  dbig : h.objs.size ≤ d
  dne : d ≠ e
  ns : h'.Ns1 d (fun y => if y = par then some v else none)
theorem one_size (v : Value) : [v].length ≤ sizeLine := by
  rw [sizeLine_eq]
  exact (by decide : 1 ≤ 16777216)
theorem ldK {M : Model} {s : Shared} {name : Str} {scope : Scope} {L a cc : Addr} {cd : Value} {m : Str → Option Value} {x : Str} {pos : Pos} {v : Value} {Q : Value → Shared → Prop} {A : Around} {E : Value → Shared → Prop} (hn : s.heap.Ns L m) (hv : m x = some v) (h : Q v s)
    (hk : scope.kind = .function) (hl : scope.names.lookup x = some .local) (hd : (x == ("__debug__" : Str)) = false) :
    wpAny M A (eval (.Name x pos) (ksEnv name scope L a cd cc)) Q E s := wpAny_Name (wpAny_loadName_local (env := ksEnv name scope L a cd cc) hk hl hn hv h) hd
section
variable {prog : Program} {w : World} {A : Around} {E : Value → Shared → Prop} {R : Result → Shared → Prop} {s : Shared} {K : Frag} {mg mb : Str → Option Value} {nm pre par : Str} {C : Addr}
theorem made {p1 p2 : Pos} {q : Ps} (bo : BindOk pre par p1 p2 q) (eo : EvalOk pre par q) (T : Txt prog K mg nm pre par p1 p2 q C) {i : Int} {t : Tok} (X : K.In s.heap) (hlim : s.heap.NoLimit) (hroom : A.depth + 1 < recursionLimit) (hi0 : i.natAbs ≤ 1000000) (hp0 : pre.length ≤ 1000)
    (hG : s.heap.Ns mainGlobals mg) (hB : s.heap.Ns builtinsNs mb) (hbs : ∀ x : Str, x ≠ "__name__" → mb x = bootBuiltins x) (po : ParOk par)
    (hq : ∀ h' tk e d, OwnMade s.heap h' par e C d (.int i t) → R (.ok (.ret (.ref e))) { s with heap := h', toks := tk }) :
    codeAny (model prog w) A (.call (.ref C) ⟨[.int i t], []⟩) R s := by
  have hi : i.natAbs.log2 < 1920 := by
    by_cases z : i.natAbs = 0
    · rw [z]; decide
    · exact (Nat.log2_lt z).mpr (Nat.lt_of_le_of_lt hi0 (by decide +kernel))
  have hpar := po.n
  have hpd := po.d
  obtain ⟨f, oc, od, qual, doc, pm, an, cda, cc, ct, osl, ccl, cl, cdd, cld, ccs, csl, vs, file, tf, hfi, htf, hfn, hcd, hcda, hvs, hfile, hcc⟩ := T.fn
  obtain ⟨nm', qn, N, bs, bm, sn, sub, ab, col, dd, k0, k1, k2, k3, k5, hC, hbm⟩ := T.cls
  have hclD : clsIn K C = some { name := nm', bases := bs, mro := .ref C :: bm, ns := N, qualname := qn, hasDict := true, slotNames := sn, subclasses := sub, abstract := ab, collection := col, hasDel := false } := by unfold clsIn; rw [hC] <;> rfl
  obtain ⟨hp, g, dr, tk, os⟩ := s
  have k : ∀ b o, hp.get? b = some o → ((hp.push (kdv_tup [.int i t])).push (excO C hp.objs.size)).get? b = some o := fun b o e => Heap.get?_push_of_some _ (Heap.get?_push_of_some _ e)
  have hget : ((hp.push (kdv_tup [.int i t])).push (excO C hp.objs.size)).get? (hp.objs.size + 1) = some (excO C hp.objs.size) := by heap_get
  refine call_own F.excBase_ValueError (fun X => refsVE_contains X bm hbm) (X _ _ hC) (looks_findIn X hfi) (fun self => bind_fn X self htf) (one_size _) ?_
  have hsz : ((hp.push (kdv_tup [.int i t])).push (excO C hp.objs.size)).objs.size = hp.objs.size + 2 := by rw [Heap.size_push, Heap.size_push]
  have X2 : K.In ((hp.push (kdv_tup [.int i t])).push (excO C hp.objs.size)) := X.keeps k
  refine ks_codeAny_call_defAt (fd := ksFn "__init__" qual (sArgs par p1 p2) (sBody pre par q) (sScope par) .none .none doc pm an (.ref cda) ct cc) (body := sBody pre par q) (binds := [("self", .ref (hp.objs.size + 1)), (par, .int i t)]) (by show A.depth + 1 < recursionLimit; exact hroom)
    (X2 _ _ hfn) rfl (hlim.keeps k) (codeRec_of X2 hcd) rfl ?hbind ?hcell ?hloc (fun h₁ hns hk₁ => ?_) rfl rfl rfl
  case hbind => exact BindsTo.of_eq (bo _ _ _ _ _ _ _ _ _)
  case hcell =>
    intro y hy
    simp only [List.mem_cons, List.not_mem_nil, or_false] at hy
    rcases hy with rfl | rfl | rfl | rfl | rfl <;> exact fun z => nomatch z
  case hloc =>
    intro y hy
    simp only [List.mem_cons, List.not_mem_nil, or_false] at hy
    rcases hy with rfl | rfl
    · rfl
    · show List.lookup par [("self", NameKind.local), (par, .local), _, _, _] = _
      simp [List.lookup_cons, hpar]
  have vS : (fun x => ([("self", Value.ref (hp.objs.size + 1)), (par, Value.int i t)] : List (Str × Value)).reverse.lookup x) "self" = some (.ref (hp.objs.size + 1)) := by
    have e : ((("self" : Str)) == par) = false := by rw [← hpar]; exact Bool.beq_comm
    simp [List.lookup_cons, e]
  have vP : (fun x => ([("self", Value.ref (hp.objs.size + 1)), (par, Value.int i t)] : List (Str × Value)).reverse.lookup x) par = some (.int i t) := by simp [List.lookup_cons]
  have lP : (sScope par).names.lookup par = some .local := by
    show List.lookup par [("self", NameKind.local), (par, .local), _, _, _] = _
    simp [List.lookup_cons, hpar]
  generalize hm : (fun x => ([("self", Value.ref (hp.objs.size + 1)), (par, Value.int i t)] : List (Str × Value)).reverse.lookup x) = m at hns vS vP
  have hS : (ks_superObj C (hp.objs.size + 1) C) = ks_superObj C (hp.objs.size + 1) C := rfl
  rw [hsz] at hns ⊢
  have F : Fr hp (hp.objs.size + 2) h₁ m := ⟨hns, fun b o e => hk₁ b o (k b o e), by omega⟩
  have N0 : News hp (hp.objs.size + 2) h₁ [(hp.objs.size + 1, excObj C hp.objs.size none .none)] := fun p hp' => by
    rw [List.mem_singleton.mp hp']
    exact ⟨hk₁ _ _ hget, Nat.ne_of_lt (Nat.lt_succ_self _), Heap.get?_none_of_le (Nat.le_succ _)⟩
  have X1 : K.In h₁ := X.keeps F.keep
  -- super().__init__(..)
  obtain ⟨pl, he, hsw1, hsw2, hst1, hst2⟩ := eo qual (hp.objs.size + 2) f cda cc
  refine ks_wpAt_execs_cons (ks_wpAt_Expr_any (env := ksEnv qual (sScope par) (hp.objs.size + 2) f (.ref cda) cc) (ks_wpAt_MethodCall (pl := pl) ?_ he) rfl hsw1)
  have hC1 : h₁.get? C = some (excClassObj nm' qn C N bs bm true sn sub ab col dd k0 k1 k2 k3 k5 "ValueError.__new__") := X1 _ _ hC
  have I1 : PySem.W.InstAt h₁ (hp.objs.size + 1) (excObj C hp.objs.size none .none) C none := ⟨hk₁ _ _ hget, rfl, rfl, trivial⟩
  refine ks_wpAt_super_base (env := ksEnv qual (sScope par) (hp.objs.size + 2) f (.ref cda) cc) po.s po.c (by decide) rfl (X1 _ _ hfn) rfl rfl rfl (X1 _ _ hcda) rfl hvs hfile T.top ?_
  refine ks_loadName_global rfl po.s (loadGlobal_builtin (env := ksEnv qual (sScope par) (hp.objs.size + 2) f (.ref cda) cc) (hG.keeps F.keep) T.nsup (hB.keeps F.keep) ((hbs _ (by decide +kernel)).trans (show bootBuiltins ("super" : Str) = some (.type "super") by decide +kernel)) ⟨rfl, ?_⟩)
  refine wpAny_loadName_free rfl po.c rfl ⟨_, X1 _ _ hcc, rfl⟩ ?_
  refine wpAny_loadName_local (env := ksEnv qual (sScope par) (hp.objs.size + 2) f (.ref cda) cc) rfl po.self F.ns vS ?_
  refine ks_wpAny_isType_cls hC1 rfl ⟨rfl, ?_⟩
  refine ks_wpAny_call_super hC1 rfl I1.at_ I1.cls (fun c e => nomatch e) (looks_mroIn X1 T.mro) (fun h₂ e₂ kp₂ => ?_)
  obtain ⟨F2, N2, l2⟩ := ks_newsPush (s := ⟨h₁, g, dr, tk + 2, os⟩) F N0 rfl e₂ kp₂
  have X2' : K.In h₂ := X.keeps F2.keep
  refine kxs_method (s := ⟨h₂, g, dr, tk + 2, os⟩) kxs_ValueError F2 X N2 (so := h₁.objs.size) (D := C) (.head _) (InstAt.of_exc0 N2 (.tail _ (.head _))) T.opq T.sup T.exV (by decide) fun u h₃ F3 N3 l3 => ?_
  refine kxs_callWith1 (env := ksEnv qual (sScope par) (hp.objs.size + 2) f (.ref cda) cc) (s := ⟨h₃, g, dr, tk + 2 + 1, os⟩) N3 (.head _) ?_ hst1 rfl
  rw [hst1]
  show wpAny _ _ (spliced ((false, eval (sArg pre par q) (ksEnv qual (sScope par) (hp.objs.size + 2) f (.ref cda) cc)) :: [])) _ _ _
  refine Calls.spliced_cons ?_
  refine wpAny_BinOp (Calls.Constant_str ?_)
  refine wpAny_Call_Name_kw (Calls.Name_function_global rfl po.t (loadGlobal_builtin (env := ksEnv qual (sScope par) (hp.objs.size + 2) f (.ref cda) cc) (hG.keeps F3.keep) T.nstr (hB.keeps F3.keep) ((hbs _ (by decide +kernel)).trans (show bootBuiltins ("str" : Str) = some (.type "str") by decide +kernel)) ?_) (by decide))
  refine PyProof.Rows.callWith_type1 (T := "str") ?_ hst2 rfl
  rw [hst2]
  show wpAny _ _ (spliced ((false, eval (.Name par q.f) (ksEnv qual (sScope par) (hp.objs.size + 2) f (.ref cda) cc)) :: [])) _ _ _
  refine Calls.spliced_cons (ldK F3.ns vP (Calls.spliced_nil ?_) rfl po.p hpd)
  refine PySem.P.str_of_int hi ?_
  have hlen : pre.length + (toString i : Str).length ≤ sizeLine := by
    have h1 : ((Str.ofString (toString i)).length : Int) ≤ i.natAbs + 2 := len_str_of_int i
    have h2 : (toString i : Str) = Str.ofString (toString i) := rfl
    rw [h2, sizeLine_eq]
    omega
  refine add_str (fun t' tk' => ?_) hlen
  refine Calls.spliced_nil ⟨kxs_at N3 (.head _), ?_⟩
  have n1 : h₁.objs.size ≠ hp.objs.size + 1 := fun z => Nat.lt_irrefl _ (by have y := l2 _ (.head _); rw [z] at y; exact y)
  have n2 : u ≠ hp.objs.size + 1 := fun z => Nat.lt_irrefl _ (by have := l3 _ (.tail _ (.head _)); rw [z] at this; exact this)
  refine kxs_call (h₀ := hp) F3 X N3 PySem.F.excBase_ValueError T.ini (.head _) (.tail n2 (.tail n1 (.head (fun _ z => nomatch z)))) (one_size _) fun t' h₄ F4 N4 l4 => ?_
  have hx4 := (N4 (hp.objs.size + 1, excObj C t' none .none) (.tail _ (.tail _ (.tail _ (.head _))))).1
  have X4 : K.In h₄ := X.keeps F4.keep
  -- self.par = par
  refine ks_wpAt_execs_cons (wpAt_of_wpAny (plainObj_wpAny_Assign_Attribute (env := ksEnv qual (sScope par) (hp.objs.size + 2) f (.ref cda) cc) ?_ hsw2))
  refine ldK F4.ns vP (ldK F4.ns vS ?_ rfl po.self (by decide)) rfl po.p hpd
  refine set_plain X4 (ox := excO C t') (od := none) ⟨hx4, rfl, rfl, trivial⟩ T.sa ?_
  refine exc_osa X4 hx4 hclD (show refsVE (.ref C :: bm) = true from hbm) rfl T.noN (fun h₅ tk₅ dx k₅ dn dne hx₅ hn₅ => ?_)
  refine wpAt_of_wpAny (wpAny_execs_nil ?_)
  have big : hp.objs.size ≤ h₄.objs.size := Nat.le_of_lt (Nat.lt_of_le_of_lt (Nat.le_add_right _ 2) F4.ns.lt)
  refine ⟨rfl, hq h₅ tk₅ (hp.objs.size + 1) dx ⟨fun b o e => k₅ b o (Nat.ne_of_lt (Nat.lt_succ_of_lt (Heap.lt_size e))) (F4.keep b o e), Nat.le_succ _, ⟨_, _, hx₅, rfl, rfl, rfl, rfl⟩, Nat.le_trans big dn, dne, hn₅⟩⟩
end
end SupX
end PySem

set_option Elab.async false
set_option linter.all false
set_option maxRecDepth 100000
set_option maxHeartbeats 4000000
/-! DL1: data trees D, the store O, what represents them in an abstract heap (Rep, Rel), how heaps grow (Ext). -/
namespace DL
open PySem PySem.Spec PyProof.Rows L2

/-- plain data: nothing of it changes -/
inductive D where
  | non | bl (b : Bool) | int (i : Int) | str (x : Str) | tup (ds : List D) | lst (ds : List D) | klst (ds : List D)
  | obj (C : Str) (ns : List Str) (ds : List D) | exn (a dx : Addr) (C : Str) (ns : List Str) (ds : List D)
/-- a slot or a field: data, or the n-th changing object -/
inductive S where
  | v (d : D) | l (n : Nat)
inductive O where
  | lst (ds : List D) | ins (C : Str) (fs : List (Str × S)) | dead

structure G where
  K : PySem.W.Frag
  cl : Str → Addr
  tabs : List Addr
  P : Program
  w : World
  mg : Str → Option Value
  base : Heap

mutual
inductive Rep (g : G) (B : Addr → Prop) (H : Hp) : D → V → Prop
  | non : Rep g B H .non .non
  | bl (b) : Rep g B H (.bl b) (.bl b)
  | int (i) : Rep g B H (.int i) (.int i)
  | str (x) : Rep g B H (.str x) (.str x)
  | tup {ds : List D} {a : Addr} {vs : List V} (h : H a = some (.tup vs)) (nb : ¬ B a) (r : RepL g B H ds vs) : Rep g B H (.tup ds) (.ref a)
  | ktup {ds : List D} {a : Addr} {vs : List V} (h : ∀ H', SqT g.K H' a vs) (r : RepL g B H ds vs) : Rep g B H (.tup ds) (.ref a)
  | lst {ds : List D} {a : Addr} {vs : List V} (h : H a = some (.lst vs)) (nb : ¬ B a) (r : RepL g B H ds vs) : Rep g B H (.lst ds) (.ref a)
  | frz {ds : List D} {a : Addr} {o : Obj} {vs : List V} (h : H a = some (.frz o (.lst vs))) (nb : ¬ B a) (r : RepL g B H ds vs) : Rep g B H (.klst ds) (.ref a)
  | plst {ds : List D} {a : Addr} {vs : List V} (h : H a = some (.lst vs)) (nb : ¬ B a) (r : RepL g B H ds vs) : Rep g B H (.klst ds) (.ref a)
  | klst {ds : List D} {a : Addr} {vs : List V} (h : ∀ H', SqL g.K H' a vs) (r : RepL g B H ds vs) : Rep g B H (.klst ds) (.ref a)
  | obj {C : Str} {ns : List Str} {ds : List D} {a dx : Addr} {vs : List V} (h : H a = some (.ins (g.cl C) dx (ns.zip vs))) (nb : ¬ B a) (l : ns.length = ds.length) (r : RepL g B H ds vs) : Rep g B H (.obj C ns ds) (.ref a)
  | exn {C : Str} {ns : List Str} {ds : List D} {a dx : Addr} {vs : List V} (h : ns ≠ [] → H dx = some (.xd (ns.zip vs)) ∧ ¬ B dx) (l : ns.length = ds.length) (r : RepL g B H ds vs) : Rep g B H (.exn a dx C ns ds) (.ref a)
inductive RepL (g : G) (B : Addr → Prop) (H : Hp) : List D → List V → Prop
  | nil : RepL g B H [] []
  | cons {d : D} {v : V} {ds : List D} {vs : List V} (h : Rep g B H d v) (t : RepL g B H ds vs) : RepL g B H (d :: ds) (v :: vs)
end

/-- from one abstract heap to a later one: what is known stays, but for the changing objects L and the code tables -/
structure Ext (L : List (Option Addr)) (H : Hp) (L' : List (Option Addr)) (H' : Hp) : Prop where
  keep : ∀ a o, H a = some o → some a ∉ L → (∀ ps, o ≠ .tbl ps) → H' a = some o
  live : ∀ a, H a ≠ none → H' a ≠ none
  len : L.length ≤ L'.length
  old : ∀ n a, L'[n]? = some (some a) → n < L.length → L[n]? = some (some a)
  new : ∀ n a, L'[n]? = some (some a) → L.length ≤ n → H a = none
theorem Ext.refl {L : List (Option Addr)} {H : Hp} : Ext L H L H :=
  ⟨fun _ _ h _ _ => h, fun _ h => h, Nat.le_refl _, fun _ _ h _ => h, fun n a h hl => absurd (List.getElem?_eq_some_iff.mp h).1 (Nat.not_lt.mpr hl)⟩
theorem Ext.mem {L L' : List (Option Addr)} {H H' : Hp} (e : Ext L H L' H') {a : Addr} (h : some a ∈ L') : some a ∈ L ∨ H a = none := by
  obtain ⟨n, hn⟩ := List.mem_iff_getElem?.mp h
  by_cases hl : n < L.length
  · exact .inl (List.mem_of_getElem? (e.old n a hn hl))
  · exact .inr (e.new n a hn (by omega))
theorem Ext.trans {L L1 L2 : List (Option Addr)} {H H1 H2 : Hp} (e : Ext L H L1 H1) (f : Ext L1 H1 L2 H2) : Ext L H L2 H2 where
  keep := fun a o h hl ht => f.keep a o (e.keep a o h hl ht) (fun z => by
    rcases e.mem z with q | q
    · exact hl q
    · rw [h] at q; cases q) ht
  live := fun a h => f.live a (e.live a h)
  len := Nat.le_trans e.len f.len
  old := fun n a h hl => e.old n a (f.old n a h (Nat.lt_of_lt_of_le hl e.len)) hl
  new := fun n a h hl => by
    by_cases h1 : n < L1.length
    · exact e.new n a (f.old n a h h1) hl
    · have z := f.new n a h (by omega)
      cases q : H a with
      | none => rfl
      | some o => exact absurd z (e.live a (by rw [q]; simp))
/-- a new object -/
theorem Ext.lay {L : List (Option Addr)} {H : Hp} {p : Addr} {o : HO} (h : H p = none) : Ext L H L (upd H p o) where
  keep := fun a u e _ _ => by rw [upd_ne (ne_of_none e h)]; exact e
  live := fun a e => by
    unfold upd
    split
    · simp
    · exact e
  len := Nat.le_refl _
  old := fun _ _ h _ => h
  new := fun n a h hl => absurd (List.getElem?_eq_some_iff.mp h).1 (Nat.not_lt.mpr hl)

/-- what must not be leant on: the callers' changing objects, one's own -/
def bad (A : Addr → Prop) (L : List (Option Addr)) : Addr → Prop := fun a => A a ∨ some a ∈ L

/-- a heap keeps what data leans on -/
structure Kp (B : Addr → Prop) (H : Hp) (B' : Addr → Prop) (H' : Hp) : Prop where
  keep : ∀ a o, H a = some o → ¬ B a → (∀ ps, o ≠ .tbl ps) → H' a = some o
  ok : ∀ a o, H a = some o → ¬ B a → (∀ ps, o ≠ .tbl ps) → ¬ B' a
theorem Kp.refl {B : Addr → Prop} {H : Hp} : Kp B H B H := ⟨fun _ _ h _ _ => h, fun _ _ _ h _ => h⟩
theorem Kp.trans {B B1 B2 : Addr → Prop} {H H1 H2 : Hp} (k : Kp B H B1 H1) (l : Kp B1 H1 B2 H2) : Kp B H B2 H2 :=
  ⟨fun a o h nb ht => l.keep a o (k.keep a o h nb ht) (k.ok a o h nb ht) ht, fun a o h nb ht => l.ok a o (k.keep a o h nb ht) (k.ok a o h nb ht) ht⟩
theorem Ext.kp {A : Addr → Prop} {L L' : List (Option Addr)} {H H' : Hp} (e : Ext L H L' H') : Kp (bad A L) H (bad A L') H' where
  keep := fun a o h nb ht => e.keep a o h (fun z => nb (.inr z)) ht
  ok := fun a o h nb _ z => by
    rcases z with z | z
    · exact nb (.inl z)
    · rcases e.mem z with q | q
      · exact nb (.inr q)
      · rw [h] at q; cases q
theorem Kp.lay {B : Addr → Prop} {H : Hp} {p : Addr} {o : HO} (h : H p = none) : Kp B H B (upd H p o) :=
  ⟨fun a u e _ _ => by rw [upd_ne (ne_of_none e h)]; exact e, fun _ _ _ h _ => h⟩

section
variable {g : G} {B B' : Addr → Prop} {H H' : Hp}
mutual
theorem Rep.kp (k : Kp B H B' H') : ∀ {d : D} {v : V}, Rep g B H d v → Rep g B' H' d v
  | _, _, .non => .non
  | _, _, .bl b => .bl b
  | _, _, .int i => .int i
  | _, _, .str x => .str x
  | _, _, .tup h nb r => .tup (k.keep _ _ h nb (fun _ z => nomatch z)) (k.ok _ _ h nb (fun _ z => nomatch z)) (RepL.kp k r)
  | _, _, .ktup h r => .ktup h (RepL.kp k r)
  | _, _, .lst h nb r => .lst (k.keep _ _ h nb (fun _ z => nomatch z)) (k.ok _ _ h nb (fun _ z => nomatch z)) (RepL.kp k r)
  | _, _, .frz h nb r => .frz (k.keep _ _ h nb (fun _ z => nomatch z)) (k.ok _ _ h nb (fun _ z => nomatch z)) (RepL.kp k r)
  | _, _, .plst h nb r => .plst (k.keep _ _ h nb (fun _ z => nomatch z)) (k.ok _ _ h nb (fun _ z => nomatch z)) (RepL.kp k r)
  | _, _, .klst h r => .klst h (RepL.kp k r)
  | _, _, .obj h nb l r => .obj (k.keep _ _ h nb (fun _ z => nomatch z)) (k.ok _ _ h nb (fun _ z => nomatch z)) l (RepL.kp k r)
  | _, _, .exn h l r => .exn (fun z => ⟨k.keep _ _ (h z).1 (h z).2 (fun _ z => nomatch z), k.ok _ _ (h z).1 (h z).2 (fun _ z => nomatch z)⟩) l (RepL.kp k r)
theorem RepL.kp (k : Kp B H B' H') : ∀ {ds : List D} {vs : List V}, RepL g B H ds vs → RepL g B' H' ds vs
  | _, _, .nil => .nil
  | _, _, .cons h t => .cons (Rep.kp k h) (RepL.kp k t)
end
theorem RepL.length : ∀ {ds : List D} {vs : List V}, RepL g B H ds vs → ds.length = vs.length
  | _, _, .nil => rfl
  | _, _, .cons _ t => congrArg Nat.succ t.length
theorem RepL.get : ∀ {ds : List D} {vs : List V} {i : Nat} {d : D}, RepL g B H ds vs → ds[i]? = some d → ∃ v, vs[i]? = some v ∧ Rep g B H d v
  | _, _, _, _, .nil, e => by simp at e
  | _, _, 0, _, .cons r _, e => by simp at e; subst e; exact ⟨_, rfl, r⟩
  | _, _, i + 1, _, .cons _ t, e => by
    obtain ⟨v, h1, h2⟩ := RepL.get (i := i) t (by simpa using e)
    exact ⟨v, by simpa using h1, h2⟩
theorem RepL.getV : ∀ {ds : List D} {vs : List V} {i : Nat} {v : V}, RepL g B H ds vs → vs[i]? = some v → ∃ d, ds[i]? = some d ∧ Rep g B H d v
  | _, _, _, _, .nil, e => by simp at e
  | _, _, 0, _, .cons r _, e => by simp at e; subst e; exact ⟨_, rfl, r⟩
  | _, _, i + 1, _, .cons _ t, e => by
    obtain ⟨v, h1, h2⟩ := RepL.getV (i := i) t (by simpa using e)
    exact ⟨v, by simpa using h1, h2⟩
theorem RepL.append : ∀ {ds es : List D} {vs ws : List V}, RepL g B H ds vs → RepL g B H es ws → RepL g B H (ds ++ es) (vs ++ ws)
  | _, _, _, _, .nil, s => s
  | _, _, _, _, .cons r t, s => .cons r (RepL.append t s)
theorem RepL.take : ∀ {ds : List D} {vs : List V} (n : Nat), RepL g B H ds vs → RepL g B H (ds.take n) (vs.take n)
  | _, _, 0, _ => .nil
  | _, _, _ + 1, .nil => .nil
  | _, _, n + 1, .cons r t => .cons r (RepL.take n t)
theorem RepL.drop : ∀ {ds : List D} {vs : List V} (n : Nat), RepL g B H ds vs → RepL g B H (ds.drop n) (vs.drop n)
  | _, _, 0, r => r
  | _, _, _ + 1, .nil => .nil
  | _, _, n + 1, .cons _ t => RepL.drop n t
theorem RepL.set {d : D} {v : V} (r : Rep g B H d v) : ∀ {ds : List D} {vs : List V} (i : Nat), RepL g B H ds vs → RepL g B H (ds.set i d) (vs.set i v)
  | _, _, _, .nil => .nil
  | _, _, 0, .cons _ t => .cons r t
  | _, _, i + 1, .cons q t => .cons q (RepL.set r i t)
theorem RepL.snoc {d : D} {v : V} {ds : List D} {vs : List V} (t : RepL g B H ds vs) (r : Rep g B H d v) : RepL g B H (ds ++ [d]) (vs ++ [v]) := t.append (.cons r .nil)
theorem RepL.nil_of {vs : List V} (r : RepL g B H [] vs) : vs = [] := by cases r; rfl
theorem RepL.one {d : D} {vs : List V} (r : RepL g B H [d] vs) : ∃ v, vs = [v] ∧ Rep g B H d v := by
  cases r with
  | cons h t => cases t; exact ⟨_, rfl, h⟩
theorem RepL.two {d e : D} {vs : List V} (r : RepL g B H [d, e] vs) : ∃ v w, vs = [v, w] ∧ Rep g B H d v ∧ Rep g B H e w := by
  cases r with
  | cons h t => obtain ⟨w, rfl, q⟩ := t.one; exact ⟨_, _, rfl, h, q⟩
theorem RepL.ints {ns : List Int} : RepL g B H (ns.map D.int) (ns.map V.int) := by
  induction ns with
  | nil => exact .nil
  | cons n ns ih => exact .cons (.int n) ih
end

/-! ### slots, the store -/
def RepS (g : G) (A : Addr → Prop) (L : List (Option Addr)) (H : Hp) : S → V → Prop
  | .v d, u => Rep g (bad A L) H d u
  | .l n, u => n < L.length ∧ ∀ a, L[n]? = some (some a) → u = .ref a
theorem RepS.ext {g : G} {A : Addr → Prop} {L L' : List (Option Addr)} {H H' : Hp} (e : Ext L H L' H') : ∀ {s : S} {v : V}, RepS g A L H s v → RepS g A L' H' s v
  | .v _, _, h => Rep.kp e.kp (show Rep g (bad A L) H _ _ from h)
  | .l n, v, h => by
    have h : n < L.length ∧ ∀ a, L[n]? = some (some a) → v = .ref a := h
    exact ⟨Nat.lt_of_lt_of_le h.1 e.len, fun a q => h.2 a (e.old n a q h.1)⟩
inductive FRep (g : G) (A : Addr → Prop) (L : List (Option Addr)) (H : Hp) : List (Str × S) → List (Str × V) → Prop
  | nil : FRep g A L H [] []
  | cons {x : Str} {s : S} {v : V} {fs : List (Str × S)} {vs : List (Str × V)} (h : RepS g A L H s v) (t : FRep g A L H fs vs) : FRep g A L H ((x, s) :: fs) ((x, v) :: vs)
theorem FRep.ext {g : G} {A : Addr → Prop} {L L' : List (Option Addr)} {H H' : Hp} (e : Ext L H L' H') : ∀ {fs : List (Str × S)} {vs : List (Str × V)}, FRep g A L H fs vs → FRep g A L' H' fs vs
  | _, _, .nil => .nil
  | _, _, .cons h t => .cons (h.ext e) (t.ext e)
theorem FRep.lookup {g : G} {A : Addr → Prop} {L : List (Option Addr)} {H : Hp} {f : Str} {s : S} : ∀ {fs : List (Str × S)} {vs : List (Str × V)}, FRep g A L H fs vs → fs.lookup f = some s → ∃ v, vs.lookup f = some v ∧ RepS g A L H s v
  | _, _, .nil, e => by simp at e
  | _, _, .cons (x := x) h t, e => by
    simp only [List.lookup_cons] at e ⊢
    cases q : (f == x) <;> simp only [q] at e ⊢
    · exact t.lookup e
    · cases e; exact ⟨_, rfl, h⟩
theorem FRep.lookupN {g : G} {A : Addr → Prop} {L : List (Option Addr)} {H : Hp} {f : Str} : ∀ {fs : List (Str × S)} {vs : List (Str × V)}, FRep g A L H fs vs → fs.lookup f = none → vs.lookup f = none
  | _, _, .nil, e => rfl
  | _, _, .cons (x := x) h t, e => by
    simp only [List.lookup_cons] at e ⊢
    cases q : (f == x) <;> simp only [q] at e ⊢
    · exact t.lookupN e
    · cases e
theorem FRep.length {g : G} {A : Addr → Prop} {L : List (Option Addr)} {H : Hp} : ∀ {fs : List (Str × S)} {vs : List (Str × V)}, FRep g A L H fs vs → fs.length = vs.length
  | _, _, .nil => rfl
  | _, _, .cons _ t => congrArg Nat.succ t.length
/-- a field is set, as HandS.putF does -/
def putS (f : Str) (y : S) : List (Str × S) → List (Str × S)
  | [] => [(f, y)]
  | (x, s) :: r => if x = f then (x, y) :: r else (x, s) :: putS f y r
theorem FRep.put {g : G} {A : Addr → Prop} {L : List (Option Addr)} {H : Hp} {f : Str} {y : S} {u : V} (r : RepS g A L H y u) : ∀ {fs : List (Str × S)} {vs : List (Str × V)}, FRep g A L H fs vs → FRep g A L H (putS f y fs) (putF f u vs)
  | _, _, .nil => .cons r .nil
  | _, _, .cons (x := x) h t => by
    unfold putS putF
    by_cases q : x = f
    · rw [if_pos q, if_pos q]; exact .cons r t
    · rw [if_neg q, if_neg q]; exact .cons h (t.put r)

/-- the n-th changing object -/
def ORep (g : G) (A : Addr → Prop) (L : List (Option Addr)) (H : Hp) (n : Nat) : O → Prop
  | .lst ds => ∃ a vs, L[n]? = some (some a) ∧ H a = some (.lst vs) ∧ RepL g (bad A L) H ds vs
  | .ins C fs => ∃ a dx vs, L[n]? = some (some a) ∧ H a = some (.ins (g.cl C) dx vs) ∧ FRep g A L H fs vs
  | .dead => L[n]? = some none
structure Rel (g : G) (A : Addr → Prop) (L : List (Option Addr)) (H : Hp) (st : List O) : Prop where
  alA : ∀ a, A a → H a ≠ none
  dis : ∀ a, some a ∈ L → ¬ A a
  len : L.length = st.length
  nd : ∀ (i j : Nat) (a : Addr), L[i]? = some (some a) → L[j]? = some (some a) → i = j
  objs : ∀ (n : Nat) (o : O), st[n]? = some o → ORep g A L H n o
  tab : ∀ p ∈ g.tabs, GxR.TabG H p
def RhoOk (g : G) (A : Addr → Prop) (L : List (Option Addr)) (H : Hp) (ρ : List (Option S)) (σ : L2.St) : Prop :=
  ρ.length = σ.length ∧ ∀ (i : Nat) (s : S), ρ[i]? = some (some s) → ∃ v, σ[i]? = some (some v) ∧ RepS g A L H s v
theorem RhoOk.ext {g : G} {A : Addr → Prop} {L L' : List (Option Addr)} {H H' : Hp} {ρ : List (Option S)} {σ : L2.St} (e : Ext L H L' H') (h : RhoOk g A L H ρ σ) : RhoOk g A L' H' ρ σ :=
  ⟨h.1, fun i s q => let ⟨v, a, b⟩ := h.2 i s q; ⟨v, a, b.ext e⟩⟩
theorem RhoOk.set {g : G} {A : Addr → Prop} {L : List (Option Addr)} {H : Hp} {ρ : List (Option S)} {σ : L2.St} {i : Nat} {s : S} {v : V} (h : RhoOk g A L H ρ σ) (r : RepS g A L H s v) : RhoOk g A L H (ρ.set i (some s)) (σ.set i (some v)) := by
  refine ⟨by rw [List.length_set, List.length_set]; exact h.1, fun j t q => ?_⟩
  by_cases e : i = j
  · subst e
    by_cases hl : i < ρ.length
    · rw [List.getElem?_set_self hl] at q
      cases q
      exact ⟨v, by rw [List.getElem?_set_self (by rw [← h.1]; exact hl)], r⟩
    · rw [List.getElem?_eq_none (by rw [List.length_set]; omega)] at q
      cases q
  · rw [List.getElem?_set_ne e] at q
    obtain ⟨w, a, b⟩ := h.2 j t q
    exact ⟨w, by rw [List.getElem?_set_ne e]; exact a, b⟩
theorem RhoOk.unset {g : G} {A : Addr → Prop} {L : List (Option Addr)} {H : Hp} {ρ : List (Option S)} {σ : L2.St} {i : Nat} {o : Option V} (h : RhoOk g A L H ρ σ) : RhoOk g A L H (ρ.set i none) (σ.set i o) := by
  refine ⟨by rw [List.length_set, List.length_set]; exact h.1, fun j t q => ?_⟩
  by_cases e : i = j
  · subst e
    by_cases hl : i < ρ.length
    · rw [List.getElem?_set_self hl] at q
      cases q
    · rw [List.getElem?_eq_none (by rw [List.length_set]; omega)] at q
      cases q
  · rw [List.getElem?_set_ne e] at q
    obtain ⟨w, a, b⟩ := h.2 j t q
    exact ⟨w, by rw [List.getElem?_set_ne e]; exact a, b⟩
/-- what the changing objects stand at is alive -/
theorem Rel.alL {g : G} {A : Addr → Prop} {L : List (Option Addr)} {H : Hp} {st : List O} (R : Rel g A L H st) {a : Addr} (h : some a ∈ L) : H a ≠ none := by
  obtain ⟨n, hn⟩ := List.mem_iff_getElem?.mp h
  have hl : n < st.length := by rw [← R.len]; exact (List.getElem?_eq_some_iff.mp hn).1
  have q := R.objs n st[n] (List.getElem?_eq_getElem hl)
  cases e : st[n] with
  | lst ds => rw [e] at q; obtain ⟨b, vs, h1, h2, _⟩ := q; rw [hn] at h1; cases h1; rw [h2]; simp
  | ins C fs => rw [e] at q; obtain ⟨b, dx, vs, h1, h2, _⟩ := q; rw [hn] at h1; cases h1; rw [h2]; simp
  | dead => rw [e] at q; have q : L[n]? = some none := q; rw [hn] at q; cases q
theorem Rel.nbad {g : G} {A : Addr → Prop} {L : List (Option Addr)} {H : Hp} {st : List O} (R : Rel g A L H st) {p : Addr} (h : H p = none) : ¬ bad A L p := fun z => by
  rcases z with z | z
  · exact R.alA p z h
  · exact R.alL z h
theorem ORep.ext {g : G} {A : Addr → Prop} {L : List (Option Addr)} {H H' : Hp} {n : Nat} (e : Ext L H L H') (hs : ∀ a, some a ∈ L → H' a = H a) : ∀ {o : O}, ORep g A L H n o → ORep g A L H' n o
  | .lst ds, h => let ⟨a, vs, h1, h2, r⟩ := h; ⟨a, vs, h1, by rw [hs a (List.mem_of_getElem? h1)]; exact h2, r.kp e.kp⟩
  | .ins C fs, h => let ⟨a, dx, vs, h1, h2, r⟩ := h; ⟨a, dx, vs, h1, by rw [hs a (List.mem_of_getElem? h1)]; exact h2, r.ext e⟩
  | .dead, h => h
/-- a new object that is not one of the changing ones -/
theorem Rel.lay {g : G} {A : Addr → Prop} {L : List (Option Addr)} {H : Hp} {st : List O} (R : Rel g A L H st) {p : Addr} {o : HO} (h : H p = none) : Rel g A L (upd H p o) st where
  alA := fun a z => (Ext.lay (L := L) (o := o) h).live a (R.alA a z)
  dis := R.dis
  len := R.len
  nd := R.nd
  objs := fun n u q => (R.objs n u q).ext (Ext.lay h) fun a z => upd_ne fun e => R.alL z (e ▸ h)
  tab := fun q hq => let ⟨ps, h1, h2⟩ := R.tab q hq; ⟨ps, by rw [upd_ne (ne_of_none h1 h)]; exact h1, h2⟩
/-- a table grows -/
theorem Ext.tbl {L : List (Option Addr)} {H H' : Hp} {P : Addr} (hP : GxR.TabG H P) (t : GxR.Tabbed P H H') : Ext L H L H' where
  keep := fun a o h _ ht => by
    have e : a ≠ P := fun z => by
      obtain ⟨ps, h1, _⟩ := hP
      rw [z, h1] at h
      cases h
      exact ht ps rfl
    rw [t.2 a e]; exact h
  live := fun a h => by
    by_cases e : a = P
    · obtain ⟨ps, h1, _⟩ := t.1
      rw [e, h1]; simp
    · rw [t.2 a e]; exact h
  len := Nat.le_refl _
  old := fun _ _ h _ => h
  new := fun n a h hl => absurd (List.getElem?_eq_some_iff.mp h).1 (Nat.not_lt.mpr hl)
theorem Rel.tbl {g : G} {A : Addr → Prop} {L : List (Option Addr)} {H H' : Hp} {st : List O} {P : Addr} (R : Rel g A L H st) (hP : P ∈ g.tabs) (t : GxR.Tabbed P H H') : Rel g A L H' st where
  alA := fun a z => (Ext.tbl (L := L) (R.tab P hP) t).live a (R.alA a z)
  dis := R.dis
  len := R.len
  nd := R.nd
  objs := fun n u q => by
    refine (R.objs n u q).ext (Ext.tbl (R.tab P hP) t) fun a z => t.2 a fun e => ?_
    obtain ⟨m, hm⟩ := List.mem_iff_getElem?.mp z
    have hl : m < st.length := by rw [← R.len]; exact (List.getElem?_eq_some_iff.mp hm).1
    have w := R.objs m st[m] (List.getElem?_eq_getElem hl)
    obtain ⟨ps, h1, _⟩ := R.tab P hP
    cases e2 : st[m] with
    | lst ds => rw [e2] at w; obtain ⟨b, vs, q1, q2, _⟩ := w; rw [hm] at q1; cases q1; rw [e, h1] at q2; cases q2
    | ins C fs => rw [e2] at w; obtain ⟨b, dx, vs, q1, q2, _⟩ := w; rw [hm] at q1; cases q1; rw [e, h1] at q2; cases q2
    | dead => rw [e2] at w; have w : L[m]? = some none := w; rw [hm] at w; cases w
  tab := fun q hq => by
    by_cases e : q = P
    · rw [e]; exact t.1
    · obtain ⟨ps, h1, h2⟩ := R.tab q hq
      exact ⟨ps, by rw [t.2 q e]; exact h1, h2⟩
end DL

set_option Elab.async false
set_option linter.all false
set_option maxRecDepth 100000
set_option maxHeartbeats 4000000
/-! DL2: what expressions mean (functions of slots and store), the judgements IE, IT, IA over HandS's PE, PT, PA, and their rules. -/
namespace DL
open PySem PySem.Spec PyProof.Rows L2

structure Xn where
  C : Str
  ns : List Str
  ds : List D
inductive Res (α : Type) where
  | ok (a : α) | ex (x : Xn)
abbrev Rho := List (Option S)
abbrev Sto := List O
abbrev Sm (α : Type) := Rho → Sto → Option (Res α × Sto)
abbrev SE := Sm D
abbrev ST := Sm Bool
abbrev SA := Sm (List D)

/-- one after the other -/
def bS {α β : Type} (f : Sm α) (k : α → Sm β) : Sm β := fun ρ st =>
  match f ρ st with
  | some (.ok a, st1) => k a ρ st1
  | some (.ex x, st1) => some (.ex x, st1)
  | none => none
def rS {α : Type} (a : α) : Sm α := fun _ st => some (.ok a, st)
def oS {α : Type} (o : Option α) : Sm α := fun _ st =>
  match o with
  | some a => some (.ok a, st)
  | none => none

def XRep (g : G) (B : Addr → Prop) (H : Hp) (x : Xn) (c : Value) (dd : Option Addr) : Prop :=
  c = .ref (g.cl x.C) ∧ x.ns.length = x.ds.length ∧ ∃ vs, RepL g B H x.ds vs ∧ (x.ns ≠ [] → ∃ dx, dd = some dx ∧ H dx = some (.xd (x.ns.zip vs)) ∧ ¬ B dx)

structure At (g : G) (A : Addr → Prop) (L : List (Option Addr)) (H : Hp) (ρ : Rho) (σ : L2.St) (st : Sto) : Prop where
  rho : RhoOk g A L H ρ σ
  rel : Rel g A L H st
theorem At.ext {g : G} {A : Addr → Prop} {L L' : List (Option Addr)} {H H' : Hp} {ρ : Rho} {σ : L2.St} {st st' : Sto} (a : At g A L H ρ σ st) (e : Ext L H L' H') (r : Rel g A L' H' st') : At g A L' H' ρ σ st' := ⟨a.rho.ext e, r⟩

/-- what is wanted behind an expression's run -/
def Run {α β : Type} (g : G) (A : Addr → Prop) (W : WX) (RR : List (Option Addr) → Hp → α → β → Prop) (L : List (Option Addr)) (H : Hp) (σ : L2.St) (o : Option (Res α × Sto)) (Q : β → Hp → Prop) : Prop :=
  ∃ r st', o = some (r, st') ∧ ∀ L' H', Ext L H L' H' → Rel g A L' H' st' →
    match r with
    | .ok d => ∀ v, RR L' H' d v → Q v H'
    | .ex x => ∀ c dd, XRep g (bad A L') H' x c dd → W c dd σ H'
theorem Run.ext {α β : Type} {g : G} {A : Addr → Prop} {W : WX} {RR : List (Option Addr) → Hp → α → β → Prop} {L L1 : List (Option Addr)} {H H1 : Hp} {σ : L2.St} {o : Option (Res α × Sto)} {Q : β → Hp → Prop}
    (h : Run g A W RR L H σ o Q) (e : Ext L H L1 H1) : Run g A W RR L1 H1 σ o Q :=
  let ⟨r, st', e1, k⟩ := h
  ⟨r, st', e1, fun L' H' e' => k L' H' (e.trans e')⟩
theorem Run.bind {α β γ δ : Type} {g : G} {A : Addr → Prop} {W : WX} {RR : List (Option Addr) → Hp → α → β → Prop} {RR' : List (Option Addr) → Hp → γ → δ → Prop} {L : List (Option Addr)} {H : Hp} {ρ : Rho} {σ : L2.St} {st : Sto} {f : Sm α} {k : α → Sm γ} {Q : δ → Hp → Prop}
    (a : At g A L H ρ σ st) (h : Run g A W RR' L H σ (bS f k ρ st) Q) :
    Run g A W RR L H σ (f ρ st) (fun v H1 => ∃ L1 d st1, Ext L H L1 H1 ∧ At g A L1 H1 ρ σ st1 ∧ RR L1 H1 d v ∧ Run g A W RR' L1 H1 σ (k d ρ st1) Q) := by
  obtain ⟨r, st', e, q⟩ := h
  unfold bS at e
  split at e
  · rename_i d st1 h1
    exact ⟨.ok d, st1, h1, fun L1 H1 e1 r1 v rr => ⟨L1, d, st1, e1, a.ext e1 r1, rr, r, st', e, fun L' H' e' => q L' H' (e1.trans e')⟩⟩
  · rename_i x st1 h1
    cases e
    exact ⟨.ex x, _, h1, q⟩
  · cases e
theorem Run.ret {α β : Type} {g : G} {A : Addr → Prop} {W : WX} {RR : List (Option Addr) → Hp → α → β → Prop} {L : List (Option Addr)} {H : Hp} {ρ : Rho} {σ : L2.St} {st : Sto} {o : Option α} {Q : β → Hp → Prop}
    (h : Run g A W RR L H σ (oS o ρ st) Q) : ∃ d, o = some d ∧ ∀ L' H', Ext L H L' H' → Rel g A L' H' st → ∀ v, RR L' H' d v → Q v H' := by
  obtain ⟨r, st', e, q⟩ := h
  unfold oS at e
  cases o with
  | none => cases e
  | some d => cases e; exact ⟨d, rfl, q⟩
theorem Run.val {α β : Type} {g : G} {A : Addr → Prop} {W : WX} {RR : List (Option Addr) → Hp → α → β → Prop} {L : List (Option Addr)} {H : Hp} {ρ : Rho} {σ : L2.St} {st : Sto} {d : α} {Q : β → Hp → Prop}
    (h : Run g A W RR L H σ (rS d ρ st) Q) : ∀ L' H', Ext L H L' H' → Rel g A L' H' st → ∀ v, RR L' H' d v → Q v H' := by
  obtain ⟨r, st', e, q⟩ := h
  cases e
  exact q

abbrev RD (g : G) (A : Addr → Prop) : List (Option Addr) → Hp → D → V → Prop := fun L H d v => Rep g (bad A L) H d v
abbrev RB : List (Option Addr) → Hp → Bool → Bool → Prop := fun _ _ b c => b = c
abbrev RL (g : G) (A : Addr → Prop) : List (Option Addr) → Hp → List D → List V → Prop := fun L H d v => RepL g (bad A L) H d v
def tI (g : G) (A : Addr → Prop) (W : WX) (f : SE) : TE := fun σ H Q => ∃ L ρ st, At g A L H ρ σ st ∧ Run g A W (RD g A) L H σ (f ρ st) Q
def tT (g : G) (A : Addr → Prop) (W : WX) (f : ST) : TT := fun σ H Q => ∃ L ρ st, At g A L H ρ σ st ∧ Run g A W RB L H σ (f ρ st) Q
def tA (g : G) (A : Addr → Prop) (W : WX) (f : SA) : TA := fun σ H Q => ∃ L ρ st, At g A L H ρ σ st ∧ Run g A W (RL g A) L H σ (f ρ st) Q
def IE (g : G) (A : Addr → Prop) (W : WX) (X : Cx) (e : Expr) (f : SE) : Prop := PE X e (tI g A W f)
def IT (g : G) (A : Addr → Prop) (W : WX) (X : Cx) (e : Expr) (f : ST) : Prop := PT X e (tT g A W f)
def IA (g : G) (A : Addr → Prop) (W : WX) (X : Cx) (es : List Expr) (f : SA) : Prop := PA X es (tA g A W f)

/-- the context is one of g's -/
structure Fit (g : G) (X : Cx) : Prop where
  K : X.K = g.K
  prog : X.prog = g.P
  w : X.w = g.w
  mg : X.mg = g.mg
  base : X.base = g.base
  calm : X.calm = true
  nd : X.N.Nodup

theorem imp {X : Cx} {e : Expr} {t t' : TE} (h : PE X e t) (i : ∀ σ H Q, t' σ H Q → t σ H Q) : PE X e t' := ⟨fun pins s σ H Q I q => h.run pins s σ H Q I (i σ H Q q)⟩
theorem impT {X : Cx} {e : Expr} {t t' : TT} (h : PT X e t) (i : ∀ σ H Q, t' σ H Q → t σ H Q) : PT X e t' := ⟨fun pins s σ H Q I q => h.run pins s σ H Q I (i σ H Q q)⟩
theorem impW {X : Cx} {e : Expr} {t t' : TT} (h : PW X e t) (i : ∀ σ H Q, t' σ H Q → t σ H Q) : PW X e t' := ⟨fun wh pins s σ H Q I q => h.run wh pins s σ H Q I (i σ H Q q)⟩
theorem impA {X : Cx} {e : List Expr} {t t' : TA} (h : PA X e t) (i : ∀ σ H Q, t' σ H Q → t σ H Q) : PA X e t' := ⟨fun pos pins s σ H Q I q => h.run pos pins s σ H Q I (i σ H Q q)⟩

/-! ### leaves -/
def eV (i : Nat) : SE := fun ρ st =>
  match ρ[i]? with
  | some (some (.v d)) => some (.ok d, st)
  | _ => none
section
variable {g : G} {A : Addr → Prop} {W : WX} {X : Cx}
theorem eV_run {L : List (Option Addr)} {H : Hp} {ρ : Rho} {σ : L2.St} {st : Sto} {i : Nat} {Q : VK} (a : At g A L H ρ σ st) (h : Run g A W (RD g A) L H σ (eV i ρ st) Q) : ∃ v, σ[i]? = some (some v) ∧ Q v H := by
  obtain ⟨r, st', e, q⟩ := h
  unfold eV at e
  split at e
  · rename_i d hd
    cases e
    obtain ⟨v, h1, h2⟩ := a.rho.2 i _ hd
    exact ⟨v, h1, q L H Ext.refl a.rel v h2⟩
  · cases e
theorem ie_var (i : Nat) {x : Str} {pos : Pos} (hN : X.N[i]? = some x := by rfl) (hv : Vis X.env.scope x := by first | exact Or.inl rfl | exact Or.inr (Or.inl rfl) | exact Or.inr (Or.inr rfl)) (hd : (x == ("__debug__" : Str)) = false := by decide)
    (hcd : (x == ("__classdict__" : Str)) = false := by decide) : IE g A W X (.Name x pos) (eV i) :=
  imp (pe_var hN hv hd hcd) fun σ H Q ⟨L, ρ, st, a, h⟩ => eV_run a h
theorem ie_const {e : Expr} {v : V} {d : D} (h : PE X e (tC v)) (r : ∀ B H, Rep g B H d v) : IE g A W X e (rS d) :=
  imp h fun σ H Q ⟨L, ρ, st, a, q⟩ => q.val L H Ext.refl a.rel v (r _ _)
theorem ie_int {i j pos} : IE g A W X (.Constant (.int i) j pos) (rS (.int i)) := ie_const pe_int fun _ _ => .int i
theorem ie_str {x j pos} : IE g A W X (.Constant (.str x) j pos) (rS (.str x)) := ie_const pe_str fun _ _ => .str x
theorem ie_bl {b j pos} : IE g A W X (.Constant (.bool b) j pos) (rS (.bl b)) := ie_const pe_bl fun _ _ => .bl b
theorem ie_non {j pos} : IE g A W X (.Constant .none j pos) (rS .non) := ie_const pe_non fun _ _ => .non
theorem ie_glob {x : Str} {u : Value} {i : Int} {pos : Pos} (hf : Fit g X) (hg : Gl X x) (hm : g.mg x = some u) (r : RelV (.int i) u) (hd : (x == ("__debug__" : Str)) = false := by decide) : IE g A W X (.Name x pos) (rS (.int i)) :=
  ie_const (pe_glob hg (by rw [hf.mg]; exact hm) r hd) fun _ _ => .int i

/-! ### two-place operations -/
/-- what an operation's reading gives of data -/
def RdOp (g : G) (r : R2) (hop : D → D → Option D) : Prop :=
  ∀ (A : Addr → Prop) (L : List (Option Addr)) (H : Hp) (st : Sto) (d e z : D) (x y : V) (Q : VK), Rel g A L H st → Rep g (bad A L) H d x → Rep g (bad A L) H e y → hop d e = some z →
    (∀ H' w, Ext L H L H' → Rel g A L H' st → Rep g (bad A L) H' z w → Q w H') → r x y H Q
def e2 (hop : D → D → Option D) (f h : SE) : SE := bS f fun d => bS h fun e => oS (hop d e)
theorem e2_run {r : R2} {hop : D → D → Option D} {f h : SE} (rd : RdOp g r hop) {σ : L2.St} {H : Hp} {Q : VK} (q : tI g A W (e2 hop f h) σ H Q) : tOp r (tI g A W f) (tI g A W h) σ H Q := by
  obtain ⟨L, ρ, st, a, q⟩ := q
  refine ⟨L, ρ, st, a, ?_⟩
  obtain ⟨r1, s1, e1, k1⟩ := q.bind (RR := RD g A) a
  refine ⟨r1, s1, e1, fun L' H' x1 x2 => ?_⟩
  have k := k1 L' H' x1 x2
  cases r1 with
  | ex x => exact k
  | ok d =>
    intro v rr
    obtain ⟨L1, d1, st1, ex1, a1, rep1, q1⟩ := k v rr
    refine ⟨L1, ρ, st1, a1, ?_⟩
    obtain ⟨r2, s2, e2, k2⟩ := q1.bind (RR := RD g A) a1
    refine ⟨r2, s2, e2, fun L2 H2 y1 y2 => ?_⟩
    have k' := k2 L2 H2 y1 y2
    cases r2 with
    | ex x => exact k'
    | ok e =>
      intro u ru
      obtain ⟨L3, d3, st3, ex3, a3, rep3, q3⟩ := k' u ru
      obtain ⟨z, hz, q4⟩ := q3.ret
      exact rd A L3 H2 st3 d1 d3 z v u Q a3.rel (rep1.kp ex3.kp) rep3 hz fun H' w ee rel rep => q4 L3 H' ee rel w rep
theorem ie_bin {op : Operator} {r : R2} {hop : D → D → Option D} {a b : Expr} {pos : Pos} {f h : SE} (ho : OpR X (binaryOp op) r) (rd : RdOp g r hop) (ha : IE g A W X a f) (hb : IE g A W X b h) : IE g A W X (.BinOp a op b pos) (e2 hop f h) :=
  imp (pe_op ho ha hb) fun σ H Q q => e2_run rd q
theorem ie_cmp {op : CmpOp} {r : R2} {hop : D → D → Option D} {a b : Expr} {pos : Pos} {f h : SE} (ho : OpR X (compareOp op) r) (rd : RdOp g r hop) (ha : IE g A W X a f) (hb : IE g A W X b h) (hm : behindInMarks op b = false) : IE g A W X (.Compare a [op] [b] pos) (e2 hop f h) :=
  imp (pe_cmpR ho ha hb hm) fun σ H Q q => e2_run rd q
def blD : D → Option Bool
  | .bl b => some b
  | _ => none
/-- a value that must be a bool, as a test -/
def t1 (f : SE) : ST := bS f fun d => oS (blD d)
theorem rep_bl {B : Addr → Prop} {H : Hp} {b : Bool} {v : V} (r : Rep g B H (.bl b) v) : v = .bl b := by cases r; rfl
theorem blD_some {d : D} {b : Bool} (h : blD d = some b) : d = .bl b := by
  cases d <;> simp [blD] at h
  exact congrArg D.bl h
theorem t1_run {f : SE} {σ : L2.St} {H : Hp} {Q : Bool → Hp → Prop} (q : tT g A W (t1 f) σ H Q) : tI g A W f σ H fun x H1 => ∃ k, x = .bl k ∧ Q k H1 := by
  obtain ⟨L, ρ, st, a, q⟩ := q
  refine ⟨L, ρ, st, a, ?_⟩
  obtain ⟨r1, s1, e1, k1⟩ := q.bind (RR := RD g A) a
  refine ⟨r1, s1, e1, fun L' H' x1 x2 => ?_⟩
  have k := k1 L' H' x1 x2
  cases r1 with
  | ex x => exact k
  | ok d =>
    intro v rr
    obtain ⟨L1, d1, st1, ex1, a1, rep1, q1⟩ := k v rr
    obtain ⟨b, hb, q2⟩ := q1.ret
    rw [blD_some hb] at rep1
    exact ⟨b, rep_bl rep1, q2 L1 H' Ext.refl a1.rel b rfl⟩
theorem it_cmp {op : CmpOp} {r : R2} {hop : D → D → Option D} {a b : Expr} {pos : Pos} {f h : SE} (ho : OpR X (compareOp op) r) (rd : RdOp g r hop) (ha : IE g A W X a f) (hb : IE g A W X b h) (hm : behindInMarks op b = false) : IT g A W X (.Compare a [op] [b] pos) (t1 (e2 hop f h)) :=
  impT (pt_cmpR ho ha hb hm) fun σ H Q q => by
    obtain ⟨L, ρ, st, a, h⟩ := t1_run q
    exact e2_run (Q := fun x H1 => ∃ k, x = .bl k ∧ Q k H1) rd ⟨L, ρ, st, a, h⟩
/-- a op b op' c -/
def e3 (hop hop' : D → D → Option D) (f h k : SE) : SE := bS f fun d => bS h fun e => bS (oS (hop d e)) fun z => bS (oS (blD z)) fun b => if b = true then bS k fun c => oS (hop' e c) else rS (.bl false)
theorem e3_run {r r' : R2} {hop hop' : D → D → Option D} {f h k : SE} (rd : RdOp g r hop) (rd' : RdOp g r' hop') {σ : L2.St} {H : Hp} {Q : VK} (q : tI g A W (e3 hop hop' f h k) σ H Q) : tChain r r' (tI g A W f) (tI g A W h) (tI g A W k) σ H Q := by
  obtain ⟨L, ρ, st, a, q⟩ := q
  refine ⟨L, ρ, st, a, ?_⟩
  obtain ⟨r1, s1, e1, k1⟩ := q.bind (RR := RD g A) a
  refine ⟨r1, s1, e1, fun L' H' x1 x2 => ?_⟩
  have k := k1 L' H' x1 x2
  cases r1 with
  | ex x => exact k
  | ok d =>
    intro v rr
    obtain ⟨L1, d1, st1, ex1, a1, rep1, q1⟩ := k v rr
    refine ⟨L1, ρ, st1, a1, ?_⟩
    obtain ⟨r2, s2, e2, k2⟩ := q1.bind (RR := RD g A) a1
    refine ⟨r2, s2, e2, fun L2 H2 y1 y2 => ?_⟩
    have k' := k2 L2 H2 y1 y2
    cases r2 with
    | ex x => exact k'
    | ok e =>
      intro u ru
      obtain ⟨L3, d3, st3, ex3, a3, rep3, q3⟩ := k' u ru
      have q3 := q3.bind (RR := RD g A) a3
      obtain ⟨z, hz, q4⟩ := q3.ret
      refine rd A L3 H2 st3 d1 d3 z v u _ a3.rel (rep1.kp ex3.kp) rep3 hz fun H4 w ee rel rep => ?_
      obtain ⟨L5, d5, st5, ex5, a5, rep5, q5⟩ := q4 L3 H4 ee rel w rep
      have q5 := q5.bind (RR := RB) a5
      obtain ⟨b, hb, q6⟩ := q5.ret
      rw [blD_some hb] at rep5
      refine ⟨b, rep_bl rep5, ?_⟩
      obtain ⟨L7, b7, st7, ex7, a7, hb7, q7⟩ := q6 L5 H4 Ext.refl a5.rel b rfl
      have hb7 : b7 = b := hb7
      subst hb7
      cases b7 with
      | false =>
        rw [if_neg Bool.false_ne_true] at q7 ⊢
        exact q7.val L7 H4 Ext.refl a7.rel _ (.bl false)
      | true =>
        rw [if_pos rfl] at q7 ⊢
        refine ⟨L7, ρ, st7, a7, ?_⟩
        obtain ⟨r8, s8, e8, k8⟩ := q7.bind (RR := RD g A) a7
        refine ⟨r8, s8, e8, fun L9 H9 z1 z2 => ?_⟩
        have k9 := k8 L9 H9 z1 z2
        cases r8 with
        | ex x => exact k9
        | ok c =>
          intro w' rw'
          obtain ⟨L10, d10, st10, ex10, a10, rep10, q10⟩ := k9 w' rw'
          obtain ⟨z', hz', q11⟩ := q10.ret
          exact rd' A L10 H9 st10 d3 d10 z' u w' Q a10.rel (((rep3.kp ex5.kp).kp ex7.kp).kp ex10.kp) rep10 hz' fun H' w ee rel rep => q11 L10 H' ee rel w rep
theorem ie_chain {op op' : CmpOp} {r r' : R2} {hop hop' : D → D → Option D} {a b c : Expr} {pos : Pos} {f h k : SE} (ho : OpR X (compareOp op) r) (ho' : OpR X (compareOp op') r') (rd : RdOp g r hop) (rd' : RdOp g r' hop') (ha : IE g A W X a f) (hb : IE g A W X b h) (hc : IE g A W X c k)
    (hm : lastMarks [op, op'] [b, c] = false := by with_unfolding_all rfl) : IE g A W X (.Compare a [op, op'] [b, c] pos) (e3 hop hop' f h k) :=
  imp (pe_chain ho ho' ha hb hc hm) fun σ H Q q => e3_run rd rd' q
theorem it_chain {op op' : CmpOp} {r r' : R2} {hop hop' : D → D → Option D} {a b c : Expr} {pos : Pos} {f h k : SE} (ho : OpR X (compareOp op) r) (ho' : OpR X (compareOp op') r') (rd : RdOp g r hop) (rd' : RdOp g r' hop') (ha : IE g A W X a f) (hb : IE g A W X b h) (hc : IE g A W X c k)
    (hm : lastMarks [op, op'] [b, c] = false := by with_unfolding_all rfl) : IT g A W X (.Compare a [op, op'] [b, c] pos) (t1 (e3 hop hop' f h k)) :=
  impT (pt_chain ho ho' ha hb hc hm) fun σ H Q q => by
    obtain ⟨L, ρ, st, a, h⟩ := t1_run q
    exact e3_run (Q := fun x H1 => ∃ k, x = .bl k ∧ Q k H1) rd rd' ⟨L, ρ, st, a, h⟩
end
end DL

set_option Elab.async false
set_option linter.all false
set_option maxRecDepth 100000
set_option maxHeartbeats 4000000
/-! DL3: displays, subscripts, slices, truth, and / or / not, conditional expressions, calls of built-ins. -/
namespace DL
open PySem PySem.Spec PyProof.Rows L2
section
variable {g : G} {A : Addr → Prop} {W : WX} {X : Cx}
/-- the step that all rules share: f runs, then the rest -/
theorem run_then {α β γ δ : Type} {RR : List (Option Addr) → Hp → α → β → Prop} {RR' : List (Option Addr) → Hp → γ → δ → Prop} {L : List (Option Addr)} {H : Hp} {ρ : Rho} {σ : L2.St} {st : Sto} {f : Sm α} {k : α → Sm γ} {Q : δ → Hp → Prop} {Q' : β → Hp → Prop}
    (a : At g A L H ρ σ st) (q : Run g A W RR' L H σ (bS f k ρ st) Q)
    (h : ∀ L1 H1 d st1 v, Ext L H L1 H1 → At g A L1 H1 ρ σ st1 → RR L1 H1 d v → Run g A W RR' L1 H1 σ (k d ρ st1) Q → Q' v H1) : Run g A W RR L H σ (f ρ st) Q' := by
  obtain ⟨r1, s1, e1, k1⟩ := q.bind (RR := RR) a
  refine ⟨r1, s1, e1, fun L' H' x1 x2 => ?_⟩
  have k := k1 L' H' x1 x2
  cases r1 with
  | ex x => exact k
  | ok d =>
    intro v rr
    obtain ⟨L1, d1, st1, ex1, a1, rep1, q1⟩ := k v rr
    exact h L1 H' d1 st1 v ex1 a1 rep1 q1

/-! ### argument lists, displays -/
def aN : SA := rS []
def aC (f : SE) (r : SA) : SA := bS f fun d => bS r fun ds => rS (d :: ds)
theorem ia_nil : IA g A W X [] aN := impA pa_nil fun σ H Q ⟨L, ρ, st, a, q⟩ => q.val L H Ext.refl a.rel [] .nil
theorem ia_cons {e : Expr} {es : List Expr} {f : SE} {r : SA} (ha : IE g A W X e f) (hr : IA g A W X es r) (hs : starEach (e :: es) X.env = (false, eval e X.env) :: starEach es X.env := by rfl) : IA g A W X (e :: es) (aC f r) :=
  impA (pa_cons ha hr hs) fun σ H Q ⟨L, ρ, st, a, q⟩ => ⟨L, ρ, st, a, run_then (RR := RD g A) a q fun L1 H1 d st1 v e1 a1 rep1 q1 => ⟨L1, ρ, st1, a1, run_then (RR := RL g A) a1 q1 fun L2 H2 ds st2 vs e2 a2 rep2 q2 =>
    q2.val L2 H2 Ext.refl a2.rel (v :: vs) (.cons (rep1.kp e2.kp) rep2)⟩⟩
def dTup (ds : List D) : Option D := if ds.length ≤ 10000 then some (.tup ds) else none
def dLst (ds : List D) : Option D := if ds.length ≤ 10000 then some (.lst ds) else none
def eTup (r : SA) : SE := bS r fun ds => oS (dTup ds)
def eLst (r : SA) : SE := bS r fun ds => oS (dLst ds)
theorem line10 {n : Nat} (h : n ≤ 10000) : n ≤ sizeLine := Nat.le_trans h (by rw [sizeLine_eq]; decide)
theorem ie_tup {es : List Expr} {r : SA} {x1} {pos : Pos} (h : IA g A W X es r) : IE g A W X (.Tuple es x1 pos) (eTup r) :=
  imp (pe_tup h) fun σ H Q ⟨L, ρ, st, a, q⟩ => ⟨L, ρ, st, a, run_then (RR := RL g A) a q fun L1 H1 ds st1 vs e1 a1 rep1 q1 => by
    obtain ⟨z, hz, q2⟩ := q1.ret
    unfold dTup at hz
    split at hz <;> cases hz
    rename_i hl
    refine ⟨line10 (by rw [← rep1.length]; exact hl), fun p hp => q2 L1 _ (Ext.lay hp) (a1.rel.lay hp) _ (.tup upd_same (fun z => a1.rel.nbad hp z) (rep1.kp (Kp.lay hp)))⟩⟩
theorem ie_lst {es : List Expr} {r : SA} {pos : Pos} (h : IA g A W X es r) : IE g A W X (.List es pos) (eLst r) :=
  imp (pe_lst h) fun σ H Q ⟨L, ρ, st, a, q⟩ => ⟨L, ρ, st, a, run_then (RR := RL g A) a q fun L1 H1 ds st1 vs e1 a1 rep1 q1 => by
    obtain ⟨z, hz, q2⟩ := q1.ret
    unfold dLst at hz
    split at hz <;> cases hz
    rename_i hl
    refine ⟨line10 (by rw [← rep1.length]; exact hl), fun p hp => q2 L1 _ (Ext.lay hp) (a1.rel.lay hp) _ (.lst upd_same (fun z => a1.rel.nbad hp z) (rep1.kp (Kp.lay hp)))⟩⟩

/-! ### sequences -/
/-- the items of a tuple or list -/
def seqD : D → Option (List D)
  | .tup ds => some ds
  | .lst ds => some ds
  | .klst ds => some ds
  | _ => none
theorem rep_seq {B : Addr → Prop} {H : Hp} {d : D} {ds : List D} {v : V} (r : Rep g B H d v) (h : seqD d = some ds) : ∃ p vs, v = .ref p ∧ RepL g B H ds vs ∧ (SqL g.K H p vs ∨ SqT g.K H p vs) := by
  cases r <;> simp only [seqD, Option.some.injEq] at h <;> first | cases h | subst h
  · exact ⟨_, _, rfl, by assumption, .inr (SqT.of (by assumption))⟩
  · rename_i hh r; exact ⟨_, _, rfl, r, .inr (hh H)⟩
  · exact ⟨_, _, rfl, by assumption, .inl (SqL.of (by assumption))⟩
  · rename_i hh nb r; exact ⟨_, _, rfl, r, .inl (.inl (.inr ⟨_, hh⟩))⟩
  · rename_i hh nb r; exact ⟨_, _, rfl, r, .inl (SqL.of hh)⟩
  · rename_i hh r; exact ⟨_, _, rfl, r, .inl (hh H)⟩
theorem rep_tup {B : Addr → Prop} {H : Hp} {ds : List D} {v : V} (r : Rep g B H (.tup ds) v) : ∃ p vs, v = .ref p ∧ RepL g B H ds vs ∧ SqT g.K H p vs := by
  cases r
  · exact ⟨_, _, rfl, by assumption, SqT.of (by assumption)⟩
  · rename_i hh r; exact ⟨_, _, rfl, r, hh H⟩
theorem rep_lst {B : Addr → Prop} {H : Hp} {ds : List D} {v : V} (r : Rep g B H (.lst ds) v) : ∃ p vs, v = .ref p ∧ RepL g B H ds vs ∧ H p = some (.lst vs) ∧ ¬ B p := by
  cases r
  exact ⟨_, _, rfl, by assumption, by assumption, by assumption⟩
def lstD : D → Option (List D)
  | .lst ds => some ds
  | .klst ds => some ds
  | _ => none
theorem rep_ls {B : Addr → Prop} {H : Hp} {d : D} {ds : List D} {v : V} (r : Rep g B H d v) (h : lstD d = some ds) : ∃ p vs, v = .ref p ∧ RepL g B H ds vs ∧ SqL g.K H p vs := by
  cases r <;> simp only [lstD, Option.some.injEq] at h <;> first | cases h | subst h
  · exact ⟨_, _, rfl, by assumption, SqL.of (by assumption)⟩
  · rename_i hh nb r; exact ⟨_, _, rfl, r, .inl (.inr ⟨_, hh⟩)⟩
  · rename_i hh nb r; exact ⟨_, _, rfl, r, SqL.of hh⟩
  · rename_i hh r; exact ⟨_, _, rfl, r, hh H⟩
theorem rep_int {B : Addr → Prop} {H : Hp} {i : Int} {v : V} (r : Rep g B H (.int i) v) : v = .int i := by cases r; rfl
theorem rep_str {B : Addr → Prop} {H : Hp} {i : Str} {v : V} (r : Rep g B H (.str i) v) : v = .str i := by cases r; rfl
theorem rep_non {B : Addr → Prop} {H : Hp} {v : V} (r : Rep g B H .non v) : v = .non := by cases r; rfl
theorem RepL.at {B : Addr → Prop} {H : Hp} {ds : List D} {vs : List V} {i : Int} {d : D} (r : RepL g B H ds vs) (h : atI ds i = some d) : ∃ v, atI vs i = some v ∧ Rep g B H d v := by
  unfold atI at h ⊢
  rw [← r.length]
  cases e : ixN ds.length i with
  | none => rw [e] at h; cases h
  | some j => rw [e] at h; exact r.get h
/-- a[i] -/
def ixD (d e : D) : Option D :=
  match e with
  | .int i => (seqD d).bind fun ds => atI ds i
  | _ => none
theorem rd_ix : RdOp g (rIx g.K) ixD := by
  intro A L H st d e z x y Q R rd re hz q
  unfold ixD at hz
  split at hz
  · rename_i i
    cases hs : seqD d with
    | none => rw [hs] at hz; cases hz
    | some ds =>
      rw [hs] at hz
      obtain ⟨p, vs, rfl, rl, hq⟩ := rep_seq rd hs
      obtain ⟨v, h1, h2⟩ := rl.at (show atI ds i = some z from hz)
      obtain rfl := rep_int re
      rcases hq with hq | hq
      · exact .inl ⟨p, vs, i, v, rfl, rfl, hq, h1, q H v Ext.refl R h2⟩
      · exact .inr (.inl ⟨p, vs, i, v, rfl, rfl, hq, h1, q H v Ext.refl R h2⟩)
  · cases hz
theorem ie_ix {a b : Expr} {pos : Pos} {f h : SE} (hf : Fit g X) (ha : IE g A W X a f) (hb : IE g A W X b h) (hs : PlainIx b := by exact fun _ _ => rfl) : IE g A W X (.Subscript a b pos) (e2 ixD f h) :=
  imp (pe_ix (r := rIx g.K) (by rw [← hf.K]; exact ix_seq) ha hb hs) fun σ H Q q => e2_run rd_ix q
/-- a[lo:hi] -/
def cutD (ds : List D) (lo hi : Option Int) : List D := (ds.drop (HT.sIx ds.length 0 lo)).take (HT.sIx ds.length ds.length hi - HT.sIx ds.length 0 lo)
theorem RepL.cut {B : Addr → Prop} {H : Hp} {ds : List D} {vs : List V} (r : RepL g B H ds vs) (lo hi : Option Int) : RepL g B H (cutD ds lo hi) (cutV vs lo hi) := by
  unfold cutD cutV
  rw [← r.length]
  exact (r.drop _).take _
def slD (d : D) (lo hi : Option Int) : Option D :=
  match d with
  | .tup ds => some (.tup (cutD ds lo hi))
  | .lst ds => some (.lst (cutD ds lo hi))
  | .klst ds => some (.lst (cutD ds lo hi))
  | _ => none
abbrev SO := Sm (Option Int)
abbrev RO : List (Option Addr) → Hp → Option Int → Option Int → Prop := fun _ _ b c => b = c
def tO (g : G) (A : Addr → Prop) (W : WX) (f : SO) : TO := fun σ H Q => ∃ L ρ st, At g A L H ρ σ st ∧ Run g A W RO L H σ (f ρ st) Q
def IO_ (g : G) (A : Addr → Prop) (W : WX) (X : Cx) (e : Option Expr) (f : SO) : Prop := PO X e (tO g A W f)
def oN : SO := rS none
def inD : D → Option (Option Int)
  | .int i => some (some i)
  | _ => none
def oE (f : SE) : SO := bS f fun d => oS (inD d)
theorem io_none : IO_ g A W X none oN := ⟨fun pins s σ H Q I ⟨L, ρ, st, a, q⟩ => po_none.run pins s σ H Q I (q.val L H Ext.refl a.rel none rfl)⟩
theorem io_some {e : Expr} {f : SE} (h : IE g A W X e f) : IO_ g A W X (some e) (oE f) := ⟨fun pins s σ H Q I ⟨L, ρ, st, a, q⟩ => (po_some h).run pins s σ H Q I ⟨L, ρ, st, a, run_then (RR := RD g A) a q fun L1 H1 d st1 v e1 a1 rep1 q1 => by
  obtain ⟨z, hz, q2⟩ := q1.ret
  unfold inD at hz
  split at hz <;> cases hz
  exact ⟨_, rep_int rep1, q2 L1 H1 Ext.refl a1.rel _ rfl⟩⟩⟩
def eSl (f : SE) (lo hi : SO) : SE := bS f fun d => bS lo fun l => bS hi fun u => oS (slD d l u)
theorem ie_sl {e : Expr} {lo hi : Option Expr} {pos p2 : Pos} {f : SE} {l u : SO} (hf : Fit g X) (he : IE g A W X e f) (hl : IO_ g A W X lo l) (hu : IO_ g A W X hi u) : IE g A W X (.Subscript e (.Slice lo hi none p2) pos) (eSl f l u) :=
  imp (pe_slice (r := fun x l u H Q => rSlA g.K x l u H Q ∨ rSlL g.K x l u H Q) (by rw [← hf.K]; exact SlR.or sl_tupA sl_list) he hl hu) fun σ H Q ⟨L, ρ, st, a, q⟩ =>
    ⟨L, ρ, st, a, run_then (RR := RD g A) a q fun L1 H1 d st1 v e1 a1 rep1 q1 => ⟨L1, ρ, st1, a1, run_then (RR := RO) a1 q1 fun L2 H2 l st2 l' e2 a2 hl q2 => ⟨L2, ρ, st2, a2, run_then (RR := RO) a2 q2 fun L3 H3 u st3 u' e3 a3 hu q3 => by
      have hl : l = l' := hl
      have hu : u = u' := hu
      subst hl hu
      obtain ⟨z, hz, q4⟩ := q3.ret
      have rep := (rep1.kp e2.kp).kp e3.kp
      have mk : ∀ ds, d = .tup ds → z = .tup (cutD ds l u) → rSlA g.K v l u H3 Q := fun ds e1 e2 => by
        subst e1 e2
        obtain ⟨p, vs, rfl, rl, hq⟩ := rep_tup rep
        refine ⟨p, vs, rfl, hq, fun hw => ?_, fun hw p' hp => ?_⟩
        · have e : cutD ds l u = ds := by
            unfold cutD
            rw [rl.length, hw.1, hw.2]
            simp [← rl.length]
          rw [e] at q4
          exact q4 L3 H3 Ext.refl a3.rel _ rep
        · exact q4 L3 _ (Ext.lay hp) (a3.rel.lay hp) _ (.tup upd_same (fun z => a3.rel.nbad hp z) ((rl.cut l u).kp (Kp.lay hp)))
      have mkl : ∀ ds, lstD d = some ds → z = .lst (cutD ds l u) → rSlL g.K v l u H3 Q := fun ds e1 e2 => by
        subst e2
        obtain ⟨p, vs, rfl, rl, hq⟩ := rep_ls rep e1
        exact ⟨p, vs, rfl, hq, fun p' hp => q4 L3 _ (Ext.lay hp) (a3.rel.lay hp) _ (.lst upd_same (fun z => a3.rel.nbad hp z) ((rl.cut l u).kp (Kp.lay hp)))⟩
      unfold slD at hz
      split at hz <;> cases hz
      · exact .inl (mk _ rfl rfl)
      · exact .inr (mkl _ rfl rfl)
      · exact .inr (mkl _ rfl rfl)⟩⟩⟩

/-! ### truth -/
def truD : D → Option Bool
  | .non => some false
  | .bl b => some b
  | .int i => some (i != 0)
  | .str x => if x.length ≤ 100000 then some ((x.length : Int) != 0) else none
  | .tup ds => some (!ds.isEmpty)
  | .lst ds => some (!ds.isEmpty)
  | .klst ds => some (!ds.isEmpty)
  | _ => none
theorem RepL.emp {B : Addr → Prop} {H : Hp} {ds : List D} {vs : List V} (r : RepL g B H ds vs) : (!ds.isEmpty) = !vs.isEmpty := by cases r <;> rfl
theorem rep_tru {B : Addr → Prop} {H : Hp} {d : D} {v : V} {b : Bool} (r : Rep g B H d v) (h : truD d = some b) : TruV g.K v H b := by
  cases r <;> simp only [truD, Option.some.injEq] at h
  · exact h.symm
  · exact h.symm
  · exact h.symm
  · split at h <;> cases h
    rename_i hl
    exact ⟨Nat.le_trans hl (by rw [sizeLine_eq]; decide), rfl⟩
  · rename_i hh nb r; exact .inr (.inl ⟨_, SqT.of hh, by rw [← r.emp]; exact h.symm⟩)
  · rename_i hh r; exact .inr (.inl ⟨_, hh H, by rw [← r.emp]; exact h.symm⟩)
  · rename_i hh nb r; exact .inl ⟨_, SqL.of hh, by rw [← r.emp]; exact h.symm⟩
  · rename_i hh nb r; exact .inl ⟨_, .inl (.inr ⟨_, hh⟩), by rw [← r.emp]; exact h.symm⟩
  · rename_i hh nb r; exact .inl ⟨_, SqL.of hh, by rw [← r.emp]; exact h.symm⟩
  · rename_i hh r; exact .inl ⟨_, hh H, by rw [← r.emp]; exact h.symm⟩
  · cases h
  · cases h
/-- the truth of any value -/
def tE (f : SE) : ST := bS f fun d => oS (truD d)
theorem it_val {e : Expr} {f : SE} (hf : Fit g X) (h : IE g A W X e f) (he : ∀ whole, isTrue e X.env whole = (do let v ← whole; standAt e.pos; holding [v] (truthy v)) := by intro _; rfl) : IT g A W X e (tE f) :=
  impT (pt_truth h he) fun σ H Q ⟨L, ρ, st, a, q⟩ => ⟨L, ρ, st, a, run_then (RR := RD g A) a q fun L1 H1 d st1 v e1 a1 rep1 q1 => by
    obtain ⟨b, hb, q2⟩ := q1.ret
    exact ⟨b, by rw [hf.K]; exact rep_tru rep1 hb, q2 L1 H1 Ext.refl a1.rel b rfl⟩⟩
def tAn (f h : ST) : ST := bS f fun b => if b = true then h else rS false
def tOr_ (f h : ST) : ST := bS f fun b => if b = true then rS true else h
def tNo (f : ST) : ST := bS f fun b => rS (!b)
/-- a test whatever its whole is -/
def IW (g : G) (A : Addr → Prop) (W : WX) (X : Cx) (e : Expr) (f : ST) : Prop := PW X e (tT g A W f)
theorem iw_and1 {a : Expr} {pos : Pos} {f : ST} (ha : IT g A W X a f) : IW g A W X (.BoolOp .And [a] pos) f := pw_and1 ha
theorem iw_or1 {a : Expr} {pos : Pos} {f : ST} (ha : IT g A W X a f) : IW g A W X (.BoolOp .Or [a] pos) f := pw_or1 ha
theorem iw_and {a b : Expr} {rest : List Expr} {pos : Pos} {f h : ST} (ha : IT g A W X a f) (hb : IW g A W X (.BoolOp .And (b :: rest) pos) h) : IW g A W X (.BoolOp .And (a :: b :: rest) pos) (tAn f h) :=
  impW (pw_and ha hb) fun σ H Q ⟨L, ρ, st, a, q⟩ => ⟨L, ρ, st, a, run_then (RR := RB) a q fun L1 H1 d st1 v e1 a1 rep1 q1 => by
    have rep1 : d = v := rep1
    subst rep1
    cases d with
    | true => rw [if_pos rfl] at q1 ⊢; exact ⟨L1, ρ, st1, a1, q1⟩
    | false => rw [if_neg Bool.false_ne_true] at q1 ⊢; exact q1.val L1 H1 Ext.refl a1.rel _ rfl⟩
theorem iw_or {a b : Expr} {rest : List Expr} {pos : Pos} {f h : ST} (ha : IT g A W X a f) (hb : IW g A W X (.BoolOp .Or (b :: rest) pos) h) : IW g A W X (.BoolOp .Or (a :: b :: rest) pos) (tOr_ f h) :=
  impW (pw_or ha hb) fun σ H Q ⟨L, ρ, st, a, q⟩ => ⟨L, ρ, st, a, run_then (RR := RB) a q fun L1 H1 d st1 v e1 a1 rep1 q1 => by
    have rep1 : d = v := rep1
    subst rep1
    cases d with
    | true => rw [if_pos rfl] at q1 ⊢; exact q1.val L1 H1 Ext.refl a1.rel _ rfl
    | false => rw [if_neg Bool.false_ne_true] at q1 ⊢; exact ⟨L1, ρ, st1, a1, q1⟩⟩
theorem it_w {e : Expr} {f : ST} (h : IW g A W X e f) : IT g A W X e f := PW.pt h
theorem it_not {a : Expr} {pos : Pos} {f : ST} (ha : IT g A W X a f) : IT g A W X (.UnaryOp .Not a pos) (tNo f) :=
  impT (pt_not ha) fun σ H Q ⟨L, ρ, st, a, q⟩ => ⟨L, ρ, st, a, run_then (RR := RB) a q fun L1 H1 d st1 v e1 a1 rep1 q1 => by
    have rep1 : d = v := rep1
    subst rep1
    exact q1.val L1 H1 Ext.refl a1.rel _ rfl⟩
/-- and, or, not of bools, as values -/
def eAn (f h : SE) : SE := bS f fun d => bS (oS (blD d)) fun b => if b = true then h else rS (.bl false)
def eOr (f h : SE) : SE := bS f fun d => bS (oS (blD d)) fun b => if b = true then rS (.bl true) else h
def eNo (f : SE) : SE := bS f fun d => bS (oS (blD d)) fun b => rS (.bl (!b))
theorem ie_one {op : BoolOp} {a : Expr} {pos : Pos} {f : SE} (ha : IE g A W X a f) : IE g A W X (.BoolOp op [a] pos) f := pe_one ha
theorem bl_then {γ δ : Type} {RR' : List (Option Addr) → Hp → γ → δ → Prop} {L : List (Option Addr)} {H : Hp} {ρ : Rho} {σ : L2.St} {st : Sto} {f : SE} {k : Bool → Sm γ} {Q : δ → Hp → Prop} {Q' : VK}
    (a : At g A L H ρ σ st) (q : Run g A W RR' L H σ (bS f (fun d => bS (oS (blD d)) k) ρ st) Q)
    (h : ∀ L1 H1 b st1, At g A L1 H1 ρ σ st1 → Run g A W RR' L1 H1 σ (k b ρ st1) Q → Q' (.bl b) H1) : Run g A W (RD g A) L H σ (f ρ st) Q' :=
  run_then (RR := RD g A) a q fun L1 H1 d st1 v e1 a1 rep1 q1 => by
    have q2 := q1.bind (RR := RB) a1
    obtain ⟨b, hb, q3⟩ := q2.ret
    obtain ⟨L7, b7, st7, ex7, a7, hb7, q7⟩ := q3 L1 H1 Ext.refl a1.rel b rfl
    have hb7 : b7 = b := hb7
    subst hb7
    rw [blD_some hb] at rep1
    rw [rep_bl rep1]
    exact h L7 H1 b7 st7 a7 q7
theorem ie_and {a b : Expr} {rest : List Expr} {pos : Pos} {f h : SE} (ha : IE g A W X a f) (hb : IE g A W X (.BoolOp .And (b :: rest) pos) h) : IE g A W X (.BoolOp .And (a :: b :: rest) pos) (eAn f h) :=
  imp (pe_and ha hb) fun σ H Q ⟨L, ρ, st, a, q⟩ => ⟨L, ρ, st, a, bl_then a q fun L1 H1 b st1 a1 q1 => ⟨b, rfl, by
    cases b with
    | true => rw [if_pos rfl] at q1 ⊢; exact ⟨L1, ρ, st1, a1, q1⟩
    | false => rw [if_neg Bool.false_ne_true] at q1 ⊢; exact q1.val L1 H1 Ext.refl a1.rel _ (.bl false)⟩⟩
theorem ie_or {a b : Expr} {rest : List Expr} {pos : Pos} {f h : SE} (ha : IE g A W X a f) (hb : IE g A W X (.BoolOp .Or (b :: rest) pos) h) : IE g A W X (.BoolOp .Or (a :: b :: rest) pos) (eOr f h) :=
  imp (pe_or ha hb) fun σ H Q ⟨L, ρ, st, a, q⟩ => ⟨L, ρ, st, a, bl_then a q fun L1 H1 b st1 a1 q1 => ⟨b, rfl, by
    cases b with
    | true => rw [if_pos rfl] at q1 ⊢; exact q1.val L1 H1 Ext.refl a1.rel _ (.bl true)
    | false => rw [if_neg Bool.false_ne_true] at q1 ⊢; exact ⟨L1, ρ, st1, a1, q1⟩⟩⟩
theorem ie_not {a : Expr} {pos : Pos} {f : SE} (ha : IE g A W X a f) : IE g A W X (.UnaryOp .Not a pos) (eNo f) :=
  imp (pe_not ha) fun σ H Q ⟨L, ρ, st, a, q⟩ => ⟨L, ρ, st, a, bl_then a q fun L1 H1 b st1 a1 q1 => ⟨b, rfl, q1.val L1 H1 Ext.refl a1.rel _ (.bl _)⟩⟩
def eIf (c : ST) (f h : SE) : SE := bS c fun b => if b = true then f else h
theorem ie_if {c a b : Expr} {pos : Pos} {k : ST} {f h : SE} (hc : IT g A W X c k) (ha : IE g A W X a f) (hb : IE g A W X b h) : IE g A W X (.IfExp c a b pos) (eIf k f h) :=
  imp (pe_ifExp hc ha hb) fun σ H Q ⟨L, ρ, st, a, q⟩ => ⟨L, ρ, st, a, run_then (RR := RB) a q fun L1 H1 d st1 v e1 a1 rep1 q1 => by
    have rep1 : d = v := rep1
    subst rep1
    cases d with
    | true => rw [if_pos rfl] at q1 ⊢; exact ⟨L1, ρ, st1, a1, q1⟩
    | false => rw [if_neg Bool.false_ne_true] at q1 ⊢; exact ⟨L1, ρ, st1, a1, q1⟩⟩

/-! ### one-place operations, calls of built-ins -/
def RdUn (g : G) (r : V → Hp → VK → Prop) (hop : D → Option D) : Prop :=
  ∀ (A : Addr → Prop) (L : List (Option Addr)) (H : Hp) (st : Sto) (d z : D) (x : V) (Q : VK), Rel g A L H st → Rep g (bad A L) H d x → hop d = some z →
    (∀ H' w, Ext L H L H' → Rel g A L H' st → Rep g (bad A L) H' z w → Q w H') → r x H Q
def e1 (hop : D → Option D) (f : SE) : SE := bS f fun d => oS (hop d)
theorem ie_un {op : UnaryOp} {r : V → Hp → VK → Prop} {hop : D → Option D} {a : Expr} {pos : Pos} {f : SE} (ho : UnR X (unaryOp op) r) (rd : RdUn g r hop) (ha : IE g A W X a f) : IE g A W X (.UnaryOp op a pos) (e1 hop f) :=
  imp (pe_un ho ha) fun σ H Q ⟨L, ρ, st, a, q⟩ => ⟨L, ρ, st, a, run_then (RR := RD g A) a q fun L1 H1 d st1 v e1 a1 rep1 q1 => by
    obtain ⟨z, hz, q2⟩ := q1.ret
    exact rd A L1 H1 st1 d z v Q a1.rel rep1 hz fun H' w ee rel rep => q2 L1 H' ee rel w rep⟩
def RdCall (g : G) (r : List V → Hp → VK → Prop) (hop : List D → Option D) : Prop :=
  ∀ (A : Addr → Prop) (L : List (Option Addr)) (H : Hp) (st : Sto) (ds : List D) (z : D) (xs : List V) (Q : VK), Rel g A L H st → RepL g (bad A L) H ds xs → hop ds = some z →
    (∀ H' w, Ext L H L H' → Rel g A L H' st → Rep g (bad A L) H' z w → Q w H') → r xs H Q
def eB (hop : List D → Option D) (f : SA) : SE := bS f fun ds => oS (hop ds)
theorem eB_run {r : List V → Hp → VK → Prop} {hop : List D → Option D} {f : SA} (rd : RdCall g r hop) {σ : L2.St} {H : Hp} {Q : VK} (q : tI g A W (eB hop f) σ H Q) : tCB r (tA g A W f) σ H Q := by
  obtain ⟨L, ρ, st, a, q⟩ := q
  refine ⟨L, ρ, st, a, run_then (RR := RL g A) a q fun L1 H1 d st1 v e1 a1 rep1 q1 => ?_⟩
  obtain ⟨z, hz, q2⟩ := q1.ret
  exact rd A L1 H1 st1 d z v Q a1.rel rep1 hz fun H' w ee rel rep => q2 L1 H' ee rel w rep
theorem ie_callB {x : Str} {p pos : Pos} {e : Expr} {es : List Expr} {id : String} {r : List V → Hp → VK → Prop} {hop : List D → Option D} {f : SA} (hf : Fit g X) (hc : CallR X (.builtin id) r) (rd : RdCall g r hop) (hg : Gl X x) (hm : g.mg x = none) (hv : bootBuiltins x = some (.builtin id)) (ha : IA g A W X (e :: es) f)
    (hn : x ≠ "__name__" := by decide) (hdb : (x == ("__debug__" : Str)) = false := by decide)
    (he : starEach (e :: es) X.env = (false, eval e X.env) :: starEach es X.env := by rfl) (hpl : (backTo pos (starEach es X.env)).any (·.1) = false := by rfl) : IE g A W X (.Call (.Name x p) (e :: es) [] pos) (eB hop f) :=
  imp (pe_callB hc hg (by rw [hf.mg]; exact hm) hv ha hn hdb he hpl) fun σ H Q q => eB_run rd q
theorem ie_callTy {x : Str} {p pos : Pos} {e : Expr} {es : List Expr} {T : String} {r : List V → Hp → VK → Prop} {hop : List D → Option D} {f : SA} (hf : Fit g X) (hc : CallR X (.type T) r) (rd : RdCall g r hop) (hg : Gl X x) (hm : g.mg x = none) (hv : bootBuiltins x = some (.type T)) (ha : IA g A W X (e :: es) f)
    (hn : x ≠ "__name__" := by decide) (hdb : (x == ("__debug__" : Str)) = false := by decide)
    (he : starEach (e :: es) X.env = (false, eval e X.env) :: starEach es X.env := by rfl) (hpl : (backTo pos (starEach es X.env)).any (·.1) = false := by rfl) : IE g A W X (.Call (.Name x p) (e :: es) [] pos) (eB hop f) :=
  imp (pe_callTy hc hg (by rw [hf.mg]; exact hm) hv ha hn hdb he hpl) fun σ H Q q => eB_run rd q
end
end DL

set_option Elab.async false
set_option linter.all false
set_option maxRecDepth 100000
set_option maxHeartbeats 4000000
/-! DL4: the operations on data: arithmetic, comparisons, in, is None; len, abs, int, list, tuple, max. -/
namespace DL
open PySem PySem.Spec PyProof.Rows L2
section
variable {g : G} {X : Cx}
/-! ### + - * // % ** -/
def rAdd4 (K : PySem.W.Frag) : R2 := fun x y H Q => (rI0 fun i j => .int (i + j)) x y H Q ∨ (∃ i j, x = .str i ∧ y = .str j ∧ i.length + j.length ≤ sizeLine ∧ Q (.str (i ++ j)) H) ∨ rCatA K x y H Q ∨ rCat x y H Q
theorem op_add4 (hf : Fit g X) : OpR X (binaryOp .Add) (rAdd4 g.K) := by
  unfold rAdd4
  rw [← hf.K]
  exact op_add.or (op_add_str.or (op_catA.or op_cat))
def addD : D → D → Option D
  | .int i, .int j => some (.int (i + j))
  | .str x, .str y => if x.length + y.length ≤ 1000000 then some (.str (x ++ y)) else none
  | .tup xs, .tup ys => if xs.length + ys.length ≤ 1000000 then some (.tup (xs ++ ys)) else none
  | .lst xs, .lst ys => if xs.length + ys.length ≤ 1000000 then some (.lst (xs ++ ys)) else none
  | _, _ => none
theorem lineM {n : Nat} (h : n ≤ 1000000) : n ≤ sizeLine := Nat.le_trans h (by rw [sizeLine_eq]; decide)
theorem rd_add : RdOp g (rAdd4 g.K) addD := by
  intro A L H st d e z x y Q R rd re hz q
  unfold addD at hz
  split at hz
  · cases hz
    rw [rep_int rd, rep_int re]
    exact .inl ⟨_, _, rfl, rfl, q H _ Ext.refl R (.int _)⟩
  · split at hz <;> cases hz
    rename_i hl
    rw [rep_str rd, rep_str re]
    exact .inr (.inl ⟨_, _, rfl, rfl, lineM hl, q H _ Ext.refl R (.str _)⟩)
  · split at hz <;> cases hz
    rename_i hl
    obtain ⟨p, vs, rfl, rl, hq⟩ := rep_tup rd
    obtain ⟨p2, vs2, rfl, rl2, hq2⟩ := rep_tup re
    refine .inr (.inr (.inl ⟨p, p2, vs, vs2, rfl, rfl, hq, hq2, by rw [← rl.length, ← rl2.length]; exact lineM hl, fun z => ?_, fun _ z => ?_, fun _ _ p' hp => ?_⟩))
    · subst z
      cases rl
      exact q H _ Ext.refl R re
    · subst z
      cases rl2
      rw [List.append_nil] at q
      exact q H _ Ext.refl R rd
    · exact q _ _ (Ext.lay hp) (R.lay hp) (.tup upd_same (fun z => R.nbad hp z) ((rl.append rl2).kp (Kp.lay hp)))
  · split at hz <;> cases hz
    rename_i hl
    obtain ⟨p, vs, rfl, rl, hq, _⟩ := rep_lst rd
    obtain ⟨p2, vs2, rfl, rl2, hq2, _⟩ := rep_lst re
    exact .inr (.inr (.inr ⟨p, p2, vs, vs2, rfl, rfl, hq, hq2, by rw [← rl.length, ← rl2.length]; exact lineM hl, fun p' hp => q _ _ (Ext.lay hp) (R.lay hp) (.lst upd_same (fun z => R.nbad hp z) ((rl.append rl2).kp (Kp.lay hp)))⟩))
  · cases hz
theorem rd_I {C : Int → Int → Prop} {f : Int → Int → Int} {hop : D → D → Option D} (h : ∀ d e z, hop d e = some z → ∃ i j, d = .int i ∧ e = .int j ∧ C i j ∧ z = .int (f i j)) : RdOp g (rI C fun i j => .int (f i j)) hop := by
  intro A L H st d e z x y Q R rd re hz q
  obtain ⟨i, j, rfl, rfl, c, rfl⟩ := h d e z hz
  rw [rep_int rd, rep_int re]
  exact ⟨i, j, rfl, rfl, c, q H _ Ext.refl R (.int _)⟩
def subD : D → D → Option D
  | .int i, .int j => some (.int (i - j))
  | _, _ => none
theorem rd_sub : RdOp g (rI0 fun i j => .int (i - j)) subD := by
  intro A L H st d e z x y Q R rd re hz q
  unfold subD at hz
  split at hz <;> cases hz
  rw [rep_int rd, rep_int re]
  exact ⟨_, _, rfl, rfl, q H _ Ext.refl R (.int _)⟩
def small64 (i : Int) : Bool := decide (-18446744073709551616 < i) && decide (i < 18446744073709551616)
def mulD : D → D → Option D
  | .int i, .int j => if small64 i || small64 j then some (.int (i * j)) else none
  | _, _ => none
theorem rd_mul : RdOp g (rI CMul fun i j => .int (i * j)) mulD := rd_I fun d e z h => by
  unfold mulD at h
  split at h
  · rename_i i j
    split at h <;> cases h
    rename_i c
    refine ⟨i, j, rfl, rfl, ?_, rfl⟩
    simp only [small64, Bool.or_eq_true, Bool.and_eq_true, decide_eq_true_eq] at c
    unfold CMul
    rcases c with c | c
    · exact .inl (by omega)
    · exact .inr (by omega)
  · cases h
def divD : D → D → Option D
  | .int i, .int j => if 0 < j ∧ j < 1073741824 then some (.int (i / j)) else none
  | _, _ => none
theorem rd_div : RdOp g (rI CDiv fun i j => .int (i / j)) divD := rd_I fun d e z h => by
  unfold divD at h
  split at h
  · rename_i i j
    split at h <;> cases h
    rename_i c
    exact ⟨i, j, rfl, rfl, c, rfl⟩
  · cases h
def modD : D → D → Option D
  | .int i, .int j => if 0 < j then some (.int (i % j)) else none
  | _, _ => none
theorem rd_mod : RdOp g (rI (fun _ j => 0 < j) fun i j => .int (i % j)) modD := rd_I fun d e z h => by
  unfold modD at h
  split at h
  · rename_i i j
    split at h <;> cases h
    rename_i c
    exact ⟨i, j, rfl, rfl, c, rfl⟩
  · cases h
def powD : D → D → Option D
  | .int i, .int j => if 0 ≤ j ∧ j ≤ 1000000 ∧ i.natAbs < 18446744073709551616 then some (.int (i ^ j.toNat)) else none
  | _, _ => none
theorem rd_pow : RdOp g (rI CPow fun i j => .int (i ^ j.toNat)) powD := rd_I fun d e z h => by
  unfold powD at h
  split at h
  · rename_i i j
    split at h <;> cases h
    rename_i c
    exact ⟨i, j, rfl, rfl, ⟨c.1, c.2.1, by have := c.2.2; omega⟩, rfl⟩
  · cases h
def negD : D → Option D
  | .int i => some (.int (-i))
  | _ => none
theorem rd_neg : RdUn g (rU fun i => .int (-i)) negD := by
  intro A L H st d z x Q R rd hz q
  unfold negD at hz
  split at hz <;> cases hz
  rw [rep_int rd]
  exact ⟨_, rfl, q H _ Ext.refl R (.int _)⟩

/-! ### comparisons -/
def cmpD (p : Int → Int → Bool) : D → D → Option D
  | .int i, .int j => some (.bl (p i j))
  | _, _ => none
theorem rd_cmp {p : Int → Int → Bool} : RdOp g (rI0 fun i j => .bl (p i j)) (cmpD p) := by
  intro A L H st d e z x y Q R rd re hz q
  unfold cmpD at hz
  split at hz <;> cases hz
  rw [rep_int rd, rep_int re]
  exact ⟨_, _, rfl, rfl, q H _ Ext.refl R (.bl _)⟩
abbrev ltD := cmpD fun i j => decide (i < j)
abbrev leD := cmpD fun i j => decide (i ≤ j)
abbrev gtD := cmpD fun i j => decide (j < i)
abbrev geD := cmpD fun i j => decide (j ≤ i)
/-- == of what is no container -/
def flatD : D → Bool
  | .non => true | .bl _ => true | .int _ => true | .str _ => true
  | _ => false
def sameD : D → D → Option Bool
  | .non, .non => some true
  | .non, .int _ => some false | .int _, .non => some false | .non, .bl _ => some false | .bl _, .non => some false | .non, .str _ => some false | .str _, .non => some false
  | .int i, .int j => some (i == j)
  | .bl i, .bl j => some (i == j)
  | .str i, .str j => some (i == j)
  | .int _, .str _ => some false | .str _, .int _ => some false | .bl _, .str _ => some false | .str _, .bl _ => some false
  | _, _ => none
theorem same_rep {B : Addr → Prop} {H : Hp} {d e : D} {x y : V} {b : Bool} (rd : Rep g B H d x) (re : Rep g B H e y) (h : sameD d e = some b) : scal x y = true ∧ decide (x = y) = b := by
  unfold sameD at h
  split at h <;> first
    | (cases h; done)
    | (cases h; cases rd; cases re; exact ⟨rfl, by first | rfl | exact dec_int | exact dec_bl | exact dec_str | simp⟩)
def eqD (d e : D) : Option D := (sameD d e).map .bl
def neD (d e : D) : Option D := (sameD d e).map fun b => .bl (!b)
theorem rd_eq : RdOp g rEq eqD := by
  intro A L H st d e z x y Q R rd re hz q
  unfold eqD at hz
  cases hs : sameD d e with
  | none => rw [hs] at hz; cases hz
  | some b =>
    rw [hs] at hz
    cases hz
    obtain ⟨h1, h2⟩ := same_rep rd re hs
    exact ⟨h1, by rw [h2]; exact q H _ Ext.refl R (.bl _)⟩
theorem rd_ne : RdOp g rNe neD := by
  intro A L H st d e z x y Q R rd re hz q
  unfold neD at hz
  cases hs : sameD d e with
  | none => rw [hs] at hz; cases hz
  | some b =>
    rw [hs] at hz
    cases hz
    obtain ⟨h1, h2⟩ := same_rep rd re hs
    exact ⟨h1, by rw [h2]; exact q H _ Ext.refl R (.bl _)⟩
def isND (d e : D) : Option D := match e with
  | .non => some (.bl (match d with | .non => true | _ => false))
  | _ => none
def notND (d e : D) : Option D := match e with
  | .non => some (.bl (match d with | .non => false | _ => true))
  | _ => none
theorem rd_isN : RdOp g (fun x y H Q => y = .non ∧ Q (.bl (decide (x = .non))) H) isND := by
  intro A L H st d e z x y Q R rd re hz q
  unfold isND at hz
  split at hz <;> cases hz
  refine ⟨rep_non re, ?_⟩
  cases rd <;> exact q H _ Ext.refl R (.bl _)
theorem rd_notN : RdOp g (fun x y H Q => y = .non ∧ Q (.bl (!decide (x = .non))) H) notND := by
  intro A L H st d e z x y Q R rd re hz q
  unfold notND at hz
  split at hz <;> cases hz
  refine ⟨rep_non re, ?_⟩
  cases rd <;> exact q H _ Ext.refl R (.bl _)
/-- in a tuple or list of flat items -/
def eqF : D → D → Bool
  | .non, .non => true
  | .bl a, .bl b => a == b
  | .bl a, .int b => (if a then 1 else 0) == b
  | .int a, .bl b => a == (if b then 1 else 0)
  | .int a, .int b => a == b
  | .str a, .str b => a == b
  | _, _ => false
def inL (d : D) : List D → Bool
  | [] => false
  | e :: es => eqF e d || inL d es
def inDD (neg : Bool) (d e : D) : Option D := (seqD e).bind fun es => if flatD d = true ∧ es.all flatD = true then some (.bl (if neg then !inL d es else inL d es)) else none
theorem rep_flat {B : Addr → Prop} {H : Hp} {d : D} {x : V} (r : Rep g B H d x) (f : flatD d = true) : flatV x = true := by
  cases r <;> first | rfl | cases f
theorem rep_eqF {B : Addr → Prop} {H : Hp} {d e : D} {x y : V} (r : Rep g B H d x) (s : Rep g B H e y) (f : flatD d = true) (h : flatD e = true) : eqV x y = eqF d e := by
  cases r <;> first | exact absurd f Bool.false_ne_true | (cases s <;> first | exact absurd h Bool.false_ne_true | rfl)
theorem repL_flat {B : Addr → Prop} {H : Hp} : ∀ {ds : List D} {xs : List V}, RepL g B H ds xs → ds.all flatD = true → xs.all flatV = true
  | _, _, .nil, _ => rfl
  | _, _, .cons r t, f => by
    rw [List.all_cons, Bool.and_eq_true] at f
    rw [List.all_cons, Bool.and_eq_true]
    exact ⟨rep_flat r f.1, repL_flat t f.2⟩
theorem repL_in {B : Addr → Prop} {H : Hp} {d : D} {x : V} (r : Rep g B H d x) (fd : flatD d = true) : ∀ {ds : List D} {xs : List V}, RepL g B H ds xs → ds.all flatD = true → inV x xs = inL d ds
  | _, _, .nil, _ => rfl
  | _, _, .cons s t, f => by
    rw [List.all_cons, Bool.and_eq_true] at f
    have ih := repL_in r fd t f.2
    unfold inV at ih ⊢
    rw [List.any_cons, ih, rep_eqF s r f.1 fd, inL]
theorem rd_in {neg : Bool} : RdOp g (rIn g.K neg) (inDD neg) := by
  intro A L H st d e z x y Q R rd re hz q
  unfold inDD at hz
  cases hs : seqD e with
  | none => rw [hs] at hz; cases hz
  | some es =>
    rw [hs] at hz
    have hz : (if flatD d = true ∧ es.all flatD = true then some (D.bl (if neg then !inL d es else inL d es)) else none) = some z := hz
    split at hz <;> cases hz
    rename_i c
    obtain ⟨p, vs, rfl, rl, hq⟩ := rep_seq re hs
    exact ⟨p, vs, rfl, hq, rep_flat rd c.1, repL_flat rl c.2, by rw [repL_in rd c.1 rl c.2]; exact q H _ Ext.refl R (.bl _)⟩
theorem op_inG (hf : Fit g X) : OpR X (compareOp .In) (rIn g.K false) := by rw [← hf.K]; exact op_in_seq
theorem op_ninG (hf : Fit g X) : OpR X (compareOp .NotIn) (rIn g.K true) := by rw [← hf.K]; exact op_notIn_seq

/-! ### built-ins -/
def lenD : D → Option Int
  | .str x => if x.length ≤ 1000000 then some (x.length : Int) else none
  | .tup ds => some (ds.length : Int)
  | .lst ds => some (ds.length : Int)
  | .klst ds => some (ds.length : Int)
  | _ => none
def one (f : D → Option D) : List D → Option D
  | [d] => f d
  | _ => none
def two (f : D → D → Option D) : List D → Option D
  | [d, e] => f d e
  | _ => none
theorem one_some {f : D → Option D} {ds : List D} {z : D} (h : one f ds = some z) : ∃ d, ds = [d] ∧ f d = some z := by
  unfold one at h
  split at h
  · exact ⟨_, rfl, h⟩
  · cases h
theorem two_some {f : D → D → Option D} {ds : List D} {z : D} (h : two f ds = some z) : ∃ d e, ds = [d, e] ∧ f d e = some z := by
  unfold two at h
  split at h
  · exact ⟨_, _, rfl, h⟩
  · cases h
def lenC : List D → Option D := one fun d => (lenD d).map .int
theorem rep_len {B : Addr → Prop} {H : Hp} {d : D} {v : V} {n : Int} (r : Rep g B H d v) (h : lenD d = some n) : ∃ m : Nat, n = m ∧ LenV g.K v H m := by
  cases r <;> simp only [lenD, Option.some.injEq] at h <;> first | (cases h; done) | skip
  · split at h <;> cases h
    rename_i hl
    exact ⟨_, rfl, lineM hl, rfl⟩
  · rename_i hh nb r; exact ⟨_, h.symm, .inr ⟨_, SqT.of hh, r.length⟩⟩
  · rename_i hh r; exact ⟨_, h.symm, .inr ⟨_, hh H, r.length⟩⟩
  · rename_i hh nb r; exact ⟨_, h.symm, .inl ⟨_, SqL.of hh, r.length⟩⟩
  · rename_i hh nb r; exact ⟨_, h.symm, .inl ⟨_, .inl (.inr ⟨_, hh⟩), r.length⟩⟩
  · rename_i hh nb r; exact ⟨_, h.symm, .inl ⟨_, SqL.of hh, r.length⟩⟩
  · rename_i hh r; exact ⟨_, h.symm, .inl ⟨_, hh H, r.length⟩⟩
theorem rd_len : RdCall g (fun xs H Q => ∃ x n, xs = [x] ∧ LenV g.K x H n ∧ Q (.int n) H) lenC := by
  intro A L H st ds z xs Q R rl hz q
  obtain ⟨d, rfl, hz1⟩ := one_some hz
  clear hz
  have hz := hz1
  clear hz1
  cases hl : lenD d with
  | none => rw [hl] at hz; cases hz
  | some n =>
    rw [hl] at hz
    cases hz
    obtain ⟨v, rfl, r⟩ := rl.one
    obtain ⟨m, rfl, lv⟩ := rep_len r hl
    exact ⟨v, m, rfl, lv, q H _ Ext.refl R (.int _)⟩
theorem call_lenG (hf : Fit g X) : CallR X (.builtin "len") (fun xs H Q => ∃ x n, xs = [x] ∧ LenV g.K x H n ∧ Q (.int n) H) := by rw [← hf.K]; exact call_len
def absC : List D → Option D := one fun d => match d with | .int i => some (.int (if i < 0 then -i else i)) | _ => none
theorem rd_abs : RdCall g (fun xs H Q => ∃ i, xs = [.int i] ∧ Q (.int (if i < 0 then -i else i)) H) absC := by
  intro A L H st ds z xs Q R rl hz q
  obtain ⟨d, rfl, hz1⟩ := one_some hz
  clear hz
  have hz := hz1
  clear hz1
  split at hz <;> cases hz
  obtain ⟨v, rfl, r⟩ := rl.one
  rw [rep_int r]
  exact ⟨_, rfl, q H _ Ext.refl R (.int _)⟩
def intC : List D → Option D := one fun d => match d with | .int i => some (.int i) | .bl b => some (.int (if b then 1 else 0)) | _ => none
theorem rd_int : RdCall g (fun xs H Q => (∃ i, xs = [.int i] ∧ Q (.int i) H) ∨ ∃ k, xs = [.bl k] ∧ Q (.int (if k then 1 else 0)) H) intC := by
  intro A L H st ds z xs Q R rl hz q
  obtain ⟨d, rfl, hz1⟩ := one_some hz
  clear hz
  have hz := hz1
  clear hz1
  obtain ⟨v, rfl, r⟩ := rl.one
  split at hz <;> cases hz
  · rw [rep_int r]
    exact .inl ⟨_, rfl, q H _ Ext.refl R (.int _)⟩
  · rw [rep_bl r]
    exact .inr ⟨_, rfl, q H _ Ext.refl R (.int _)⟩
def strC : List D → Option D := one fun d => match d with | .int i => if i.natAbs.log2 < 1920 then some (.str (toString i)) else none | _ => none
theorem rd_str : RdCall g (fun xs H Q => ∃ i, xs = [.int i] ∧ i.natAbs.log2 < 1920 ∧ Q (.str (toString i)) H) strC := by
  intro A L H st ds z xs Q R rl hz q
  obtain ⟨d, rfl, hz1⟩ := one_some hz
  clear hz
  have hz := hz1
  clear hz1
  obtain ⟨v, rfl, r⟩ := rl.one
  split at hz
  · split at hz <;> cases hz
    rename_i hl
    rw [rep_int r]
    exact ⟨_, rfl, hl, q H _ Ext.refl R (.str _)⟩
  · cases hz
def max2C : List D → Option D := two fun d e => match d, e with | .int i, .int j => some (.int (if j > i then j else i)) | _, _ => none
theorem rd_max2 : RdCall g (fun xs H Q => ∃ i j, xs = [.int i, .int j] ∧ Q (.int (if j > i then j else i)) H) max2C := by
  intro A L H st ds z xs Q R rl hz q
  obtain ⟨d, e, rfl, hz1⟩ := two_some hz
  clear hz
  have hz := hz1
  clear hz1
  obtain ⟨v, w, rfl, r, s⟩ := rl.two
  split at hz <;> cases hz
  rw [rep_int r, rep_int s]
  exact ⟨_, _, rfl, q H _ Ext.refl R (.int _)⟩
def min2C : List D → Option D := two fun d e => match d, e with | .int i, .int j => some (.int (if j < i then j else i)) | _, _ => none
theorem rd_min2 : RdCall g (fun xs H Q => ∃ i j, xs = [.int i, .int j] ∧ Q (.int (if j < i then j else i)) H) min2C := by
  intro A L H st ds z xs Q R rl hz q
  obtain ⟨d, e, rfl, hz1⟩ := two_some hz
  clear hz
  have hz := hz1
  clear hz1
  obtain ⟨v, w, rfl, r, s⟩ := rl.two
  split at hz <;> cases hz
  rw [rep_int r, rep_int s]
  exact ⟨_, _, rfl, q H _ Ext.refl R (.int _)⟩
def listC : List D → Option D := one fun d => (seqD d).map .lst
theorem rd_list : RdCall g (fun xs H Q => ∃ p ys, xs = [.ref p] ∧ (SqL g.K H p ys ∨ SqT g.K H p ys) ∧ ∀ l, H l = none → Q (.ref l) (upd H l (.lst ys))) listC := by
  intro A L H st ds z xs Q R rl hz q
  obtain ⟨d, rfl, hz1⟩ := one_some hz
  clear hz
  have hz := hz1
  clear hz1
  cases hs : seqD d with
  | none => rw [hs] at hz; cases hz
  | some es =>
    rw [hs] at hz
    cases hz
    obtain ⟨v, rfl, r⟩ := rl.one
    obtain ⟨p, vs, rfl, rl', hq⟩ := rep_seq r hs
    exact ⟨p, vs, rfl, hq, fun l hl => q _ _ (Ext.lay hl) (R.lay hl) (.lst upd_same (fun z => R.nbad hl z) (rl'.kp (Kp.lay hl)))⟩
theorem call_listG (hf : Fit g X) : CallR X (.type "list") (fun xs H Q => ∃ p ys, xs = [.ref p] ∧ (SqL g.K H p ys ∨ SqT g.K H p ys) ∧ ∀ l, H l = none → Q (.ref l) (upd H l (.lst ys))) := by rw [← hf.K]; exact call_list_of
def tupleC : List D → Option D := one fun d => (seqD d).map .tup
theorem rd_tuple : RdCall g (fun xs H Q => ∃ p ys, xs = [.ref p] ∧ ((SqL g.K H p ys ∧ ∀ l, H l = none → Q (.ref l) (upd H l (.tup ys))) ∨ (SqT g.K H p ys ∧ Q (.ref p) H))) tupleC := by
  intro A L H st ds z xs Q R rl hz q
  obtain ⟨d, rfl, hz1⟩ := one_some hz
  clear hz
  have hz := hz1
  clear hz1
  cases hs : seqD d with
  | none => rw [hs] at hz; cases hz
  | some es =>
    rw [hs] at hz
    cases hz
    obtain ⟨v, rfl, r⟩ := rl.one
    cases ht : lstD d with
    | some es' =>
      have e : es' = es := by
        cases d <;> simp only [lstD, seqD, Option.some.injEq] at ht hs <;> first | (cases ht; done) | (rw [← ht, ← hs])
      subst e
      obtain ⟨p, vs, rfl, rl', hq⟩ := rep_ls r ht
      exact ⟨p, vs, rfl, .inl ⟨hq, fun l hl => q _ _ (Ext.lay hl) (R.lay hl) (.tup upd_same (fun z => R.nbad hl z) (rl'.kp (Kp.lay hl)))⟩⟩
    | none =>
      have e : d = .tup es := by
        cases d <;> simp only [lstD, seqD, Option.some.injEq] at ht hs <;> first | (cases ht; done) | (cases hs; done) | (rw [← hs])
      subst e
      obtain ⟨p, vs, rfl, rl', hq⟩ := rep_tup r
      exact ⟨p, vs, rfl, .inr ⟨hq, q H _ Ext.refl R r⟩⟩
theorem call_tupleG (hf : Fit g X) : CallR X (.type "tuple") (fun xs H Q => ∃ p ys, xs = [.ref p] ∧ ((SqL g.K H p ys ∧ ∀ l, H l = none → Q (.ref l) (upd H l (.tup ys))) ∨ (SqT g.K H p ys ∧ Q (.ref p) H))) := by rw [← hf.K]; exact call_tuple_of
end
end DL

set_option Elab.async false
set_option linter.all false
set_option maxRecDepth 100000
set_option maxHeartbeats 4000000
/-! DL5: statements: what they mean, the judgements IS, IB over HandS's PS, PSs; assignments, if, return, loops, raise. -/
namespace DL
open PySem PySem.Spec PyProof.Rows L2
inductive Fl where
  | nx (ρ : Rho) | rt (d : D) | bk (ρ : Rho) | ct (ρ : Rho) | ex (x : Xn) (ρ : Rho)
abbrev SS := Rho → Sto → Option (Fl × Sto)
def sS (f k : SS) : SS := fun ρ st =>
  match f ρ st with
  | some (.nx ρ1, st1) => k ρ1 st1
  | some (.rt d, st1) => some (.rt d, st1)
  | some (.bk ρ1, st1) => some (.bk ρ1, st1)
  | some (.ct ρ1, st1) => some (.ct ρ1, st1)
  | some (.ex x ρ1, st1) => some (.ex x ρ1, st1)
  | none => none
def xS {α : Type} (f : Sm α) (k : α → SS) : SS := fun ρ st =>
  match f ρ st with
  | some (.ok a, st1) => k a ρ st1
  | some (.ex x, st1) => some (.ex x ρ, st1)
  | none => none
def loopK (o : Option (Fl × Sto)) (k : SS) : Option (Fl × Sto) :=
  match o with
  | some (.nx ρ2, st2) => k ρ2 st2
  | some (.ct ρ2, st2) => k ρ2 st2
  | some (.bk ρ2, st2) => some (.nx ρ2, st2)
  | some (.rt d, st2) => some (.rt d, st2)
  | some (.ex x ρ2, st2) => some (.ex x ρ2, st2)
  | none => none

def RunS (g : G) (A : Addr → Prop) (W : WX) (L : List (Option Addr)) (H : Hp) (o : Option (Fl × Sto)) (De : Ends) : Prop :=
  ∃ r st', o = some (r, st') ∧ ∀ L' H', Ext L H L' H' → Rel g A L' H' st' →
    match r with
    | .nx ρ' => ∀ σ', RhoOk g A L' H' ρ' σ' → De.nx σ' H'
    | .rt d => ∀ v, Rep g (bad A L') H' d v → De.rt v H'
    | .bk ρ' => ∀ σ', RhoOk g A L' H' ρ' σ' → De.bk σ' H'
    | .ct ρ' => ∀ σ', RhoOk g A L' H' ρ' σ' → De.ct σ' H'
    | .ex x ρ' => ∀ σ' c dd, RhoOk g A L' H' ρ' σ' → XRep g (bad A L') H' x c dd → W c dd σ' H'
def tS (g : G) (A : Addr → Prop) (W : WX) (f : SS) : TS := fun De σ H => ∃ L ρ st, At g A L H ρ σ st ∧ RunS g A W L H (f ρ st) De
def IS (g : G) (A : Addr → Prop) (W : WX) (X : Cx) (s : Stmt) (f : SS) : Prop := PS X s (tS g A W f)
def IB (g : G) (A : Addr → Prop) (W : WX) (X : Cx) (s : List Stmt) (f : SS) : Prop := PSs X s (tS g A W f)
section
variable {g : G} {A : Addr → Prop} {W : WX} {X : Cx}
theorem RunS.ext {L L1 : List (Option Addr)} {H H1 : Hp} {o : Option (Fl × Sto)} {De : Ends} (h : RunS g A W L H o De) (e : Ext L H L1 H1) : RunS g A W L1 H1 o De :=
  let ⟨r, st', e1, k⟩ := h
  ⟨r, st', e1, fun L' H' e' => k L' H' (e.trans e')⟩
theorem impS {s : Stmt} {t t' : TS} (h : PS X s t) (i : ∀ De σ H, t' De σ H → t De σ H) : PS X s t' := ⟨fun pins s σ H D I q => h.run pins s σ H D I (i D σ H q)⟩
theorem impB {s : List Stmt} {t t' : TS} (h : PSs X s t) (i : ∀ De σ H, t' De σ H → t De σ H) : PSs X s t' := ⟨fun pins s σ H D I q => h.run pins s σ H D I (i D σ H q)⟩
/-- behind a statement: what the rest wants -/
def Nx (g : G) (A : Addr → Prop) (W : WX) (L : List (Option Addr)) (H : Hp) (k : SS) (De : Ends) : L2.St → Hp → Prop := fun σ1 H1 => ∃ L1 ρ1 st1, Ext L H L1 H1 ∧ At g A L1 H1 ρ1 σ1 st1 ∧ RunS g A W L1 H1 (k ρ1 st1) De
theorem seq_run {L : List (Option Addr)} {H : Hp} {ρ : Rho} {st : Sto} {f k : SS} {De : Ends} (h : RunS g A W L H (sS f k ρ st) De) : RunS g A W L H (f ρ st) { De with nx := Nx g A W L H k De } := by
  obtain ⟨r, st', e, q⟩ := h
  unfold sS at e
  split at e
  · rename_i ρ1 st1 h1
    exact ⟨_, _, h1, fun L1 H1 e1 r1 σ1 rho => ⟨L1, ρ1, st1, e1, ⟨rho, r1⟩, r, st', e, fun L' H' e' => q L' H' (e1.trans e')⟩⟩
  · rename_i d st1 h1
    cases e
    exact ⟨_, _, h1, q⟩
  · rename_i d st1 h1
    cases e
    exact ⟨_, _, h1, q⟩
  · rename_i d st1 h1
    cases e
    exact ⟨_, _, h1, q⟩
  · rename_i d st1 h1
    cases e
    exact ⟨_, _, h1, q⟩
  · cases e
theorem loop_run {L : List (Option Addr)} {H : Hp} {o : Option (Fl × Sto)} {k : SS} {De : Ends} (h : RunS g A W L H (loopK o k) De) : RunS g A W L H o { De with nx := Nx g A W L H k De, ct := Nx g A W L H k De, bk := De.nx } := by
  obtain ⟨r, st', e, q⟩ := h
  unfold loopK at e
  split at e
  · exact ⟨_, _, rfl, fun L1 H1 e1 r1 σ1 rho => ⟨L1, _, _, e1, ⟨rho, r1⟩, r, st', e, fun L' H' e' => q L' H' (e1.trans e')⟩⟩
  · exact ⟨_, _, rfl, fun L1 H1 e1 r1 σ1 rho => ⟨L1, _, _, e1, ⟨rho, r1⟩, r, st', e, fun L' H' e' => q L' H' (e1.trans e')⟩⟩
  · cases e
    exact ⟨_, _, rfl, q⟩
  · cases e
    exact ⟨_, _, rfl, q⟩
  · cases e
    exact ⟨_, _, rfl, q⟩
  · cases e
/-- an expression in a statement -/
theorem stm_then {α β : Type} {RR : List (Option Addr) → Hp → α → β → Prop} {L : List (Option Addr)} {H : Hp} {ρ : Rho} {σ : L2.St} {st : Sto} {f : Sm α} {k : α → SS} {De : Ends} {Q' : β → Hp → Prop}
    (a : At g A L H ρ σ st) (q : RunS g A W L H (xS f k ρ st) De)
    (h : ∀ L1 H1 d st1 v, Ext L H L1 H1 → At g A L1 H1 ρ σ st1 → RR L1 H1 d v → RunS g A W L1 H1 (k d ρ st1) De → Q' v H1) : Run g A W RR L H σ (f ρ st) Q' := by
  obtain ⟨r, st', e, q⟩ := q
  unfold xS at e
  split at e
  · rename_i d st1 h1
    exact ⟨_, _, h1, fun L1 H1 e1 r1 v rr => h L1 H1 d st1 v e1 (a.ext e1 r1) rr ⟨r, st', e, fun L' H' e' => q L' H' (e1.trans e')⟩⟩
  · rename_i x st1 h1
    cases e
    exact ⟨_, _, h1, fun L1 H1 e1 r1 c dd xr => q L1 H1 e1 r1 σ c dd (a.rho.ext e1) xr⟩
  · cases e
theorem RunS.nx_ {L : List (Option Addr)} {H : Hp} {ρ : Rho} {σ : L2.St} {st : Sto} {De : Ends} (h : RunS g A W L H (some (.nx ρ, st)) De) (a : At g A L H ρ σ st) : De.nx σ H := by
  obtain ⟨r, st', e, q⟩ := h
  cases e
  exact q L H Ext.refl a.rel σ a.rho
def nS : SS := fun ρ st => some (.nx ρ, st)
theorem ib_nil : IB g A W X [] nS := impB pss_nil fun De σ H ⟨L, ρ, st, a, q⟩ => q.nx_ a
theorem ib_cons {s : Stmt} {r : List Stmt} {f k : SS} (h1 : IS g A W X s f) (h2 : IB g A W X r k) : IB g A W X (s :: r) (sS f k) :=
  impB (pss_cons h1 h2) fun De σ H ⟨L, ρ, st, a, q⟩ => ⟨L, ρ, st, a, by
    obtain ⟨r, st', e, k⟩ := seq_run q
    refine ⟨r, st', e, fun L' H' e' r' => ?_⟩
    have k' := k L' H' e' r'
    cases r with
    | nx ρ' => exact fun σ' rho => let ⟨L1, ρ1, st1, _, a1, q1⟩ := k' σ' rho; ⟨L1, ρ1, st1, a1, q1⟩
    | _ => exact k'⟩
theorem ib_one {s : Stmt} {f : SS} (h1 : IS g A W X s f) : IB g A W X [s] f := pss_one h1
theorem is_pass {pos : Pos} : IS g A W X (.Pass pos) nS := impS ps_pass fun De σ H ⟨L, ρ, st, a, q⟩ => q.nx_ a
theorem is_break {pos : Pos} : IS g A W X (.Break pos) (fun ρ st => some (.bk ρ, st)) := impS ps_break fun De σ H ⟨L, ρ, st, a, r, st', e, q⟩ => by
  cases e
  exact q L H Ext.refl a.rel σ a.rho
theorem is_continue {pos : Pos} : IS g A W X (.Continue pos) (fun ρ st => some (.ct ρ, st)) := impS ps_continue fun De σ H ⟨L, ρ, st, a, r, st', e, q⟩ => by
  cases e
  exact q L H Ext.refl a.rel σ a.rho
def rtS (f : SE) : SS := xS f fun d _ st => some (.rt d, st)
theorem is_ret {e : Expr} {pos : Pos} {f : SE} (he : IE g A W X e f) : IS g A W X (.Return (some e) pos) (rtS f) :=
  impS (ps_ret he) fun De σ H ⟨L, ρ, st, a, q⟩ => ⟨L, ρ, st, a, stm_then (RR := RD g A) a q fun L1 H1 d st1 v e1 a1 rep1 ⟨r, st', e, q1⟩ => by
    cases e
    exact q1 L1 H1 Ext.refl a1.rel v rep1⟩
def iS (c : ST) (f h : SS) : SS := xS c fun b => if b = true then f else h
theorem is_if {c : Expr} {a b : List Stmt} {pos : Pos} {k : ST} {f h : SS} (hc : IT g A W X c k) (ha : IB g A W X a f) (hb : IB g A W X b h) : IS g A W X (.If c a b pos) (iS k f h) :=
  impS (ps_if hc ha hb) fun De σ H ⟨L, ρ, st, a, q⟩ => ⟨L, ρ, st, a, stm_then (RR := RB) a q fun L1 H1 d st1 v e1 a1 rep1 q1 => by
    have rep1 : d = v := rep1
    subst rep1
    cases d with
    | true => rw [if_pos rfl] at q1 ⊢; exact ⟨L1, ρ, st1, a1, q1⟩
    | false => rw [if_neg Bool.false_ne_true] at q1 ⊢; exact ⟨L1, ρ, st1, a1, q1⟩⟩
def aS (i : Nat) (f : SE) : SS := xS f fun d ρ st => some (.nx (ρ.set i (some (.v d))), st)
theorem aS_run {i : Nat} {f : SE} {De : Ends} {σ : L2.St} {H : Hp} (q : tS g A W (aS i f) De σ H) : tAsg (tI g A W f) (gName i) De σ H := by
  obtain ⟨L, ρ, st, a, q⟩ := q
  exact ⟨L, ρ, st, a, stm_then (RR := RD g A) a q fun L1 H1 d st1 v e1 a1 rep1 q1 => q1.nx_ ⟨a1.rho.set (s := .v d) rep1, a1.rel⟩⟩
theorem is_set (i : Nat) {x : Str} {e : Expr} {pos pos' : Pos} {f : SE} (hf : Fit g X) (he : IE g A W X e f) (hi : X.N[i]? = some x := by rfl) (hx : Loc X.env.scope x := by first | exact .inl rfl | exact .inr rfl) (hs : swapsWith e (some (.Name x pos')) pos.line X.env = pure false := by rfl)
    (hfn : X.fn x = true ∨ X.env.scope.names.lookup x = some .local := by first | exact .inl rfl | exact .inr rfl | assumption) : IS g A W X (.Assign [.Name x pos'] e pos) (aS i f) :=
  impS (ps_set (i := i) hf.nd hi hx he hs hfn) fun De σ H q => aS_run q
def dS {α : Type} (f : Sm α) : SS := xS f fun _ ρ st => some (.nx ρ, st)
theorem is_expr {e : Expr} {pos : Pos} {f : SE} (he : IE g A W X e f) (hs : swapsWith e none pos.line X.env = pure false := by rfl) : IS g A W X (.Expr e pos) (dS f) :=
  impS (ps_expr he hs) fun De σ H ⟨L, ρ, st, a, q⟩ => ⟨L, ρ, st, a, stm_then (RR := RD g A) a q fun L1 H1 d st1 v e1 a1 rep1 q1 => q1.nx_ a1⟩
def gS (i : Nat) (hop : D → D → Option D) (f : SE) : SS := fun ρ st =>
  match ρ[i]? with
  | some (some (.v d)) => xS f (fun e ρ st => match hop d e with | some z => some (.nx (ρ.set i (some (.v z))), st) | none => none) ρ st
  | _ => none
theorem is_aug (i : Nat) {x : Str} {e : Expr} {op : Operator} {pos pos' : Pos} {f : SE} {fi : Int → Int → Int} {hop : D → D → Option D} (hf : Fit g X) (he : IE g A W X e f) (ho : PIp X op (ipI fi)) (hh : ∀ d e z, hop d e = some z → ∃ a b, d = .int a ∧ e = .int b ∧ z = .int (fi a b))
    (hi : X.N[i]? = some x := by rfl) (hx : Loc X.env.scope x := by first | exact .inl rfl | exact .inr rfl) (hfn : X.fn x = true ∨ X.env.scope.names.lookup x = some .local := by first | exact .inl rfl | exact .inr rfl | assumption) :
    IS g A W X (.AugAssign (.Name x pos') op e pos) (gS i hop f) :=
  impS (ps_aug (i := i) hf.nd hi hx he ho hfn) fun De σ H ⟨L, ρ, st, a, q⟩ => by
    obtain ⟨r, st', e0, k0⟩ := id q
    unfold gS at q e0
    split at e0
    · rename_i d hd
      rw [hd] at q
      obtain ⟨v, h1, h2⟩ := a.rho.2 i _ hd
      refine ⟨v, h1, L, ρ, st, a, stm_then (RR := RD g A) a q fun L1 H1 e st1 u e1 a1 rep1 q1 => ?_⟩
      cases hz : hop d e with
      | none => rw [hz] at q1; obtain ⟨_, _, z, _⟩ := q1; cases z
      | some z =>
        rw [hz] at q1
        obtain ⟨i1, i2, rfl, rfl, rfl⟩ := hh d e z hz
        refine ⟨i1, i2, rep_int h2, rep_int rep1, q1.nx_ ⟨a1.rho.set (s := .v _) (.int _), a1.rel⟩⟩
    · cases e0
theorem hop_add : ∀ d e z, (fun d e => match d, e with | D.int i, D.int j => some (D.int (i + j)) | _, _ => none) d e = some z → ∃ a b, d = .int a ∧ e = .int b ∧ z = .int (a + b) := fun d e z h => by
  dsimp only at h
  split at h <;> cases h
  exact ⟨_, _, rfl, rfl, rfl⟩
def iaddD : D → D → Option D := fun d e => match d, e with | D.int i, D.int j => some (D.int (i + j)) | _, _ => none
theorem is_add (i : Nat) {x : Str} {e : Expr} {pos pos' : Pos} {f : SE} (hf : Fit g X) (he : IE g A W X e f) (hi : X.N[i]? = some x := by rfl) (hx : Loc X.env.scope x := by first | exact .inl rfl | exact .inr rfl) (hfn : X.fn x = true ∨ X.env.scope.names.lookup x = some .local := by first | exact .inl rfl | exact .inr rfl | assumption) :
    IS g A W X (.AugAssign (.Name x pos') .Add e pos) (gS i iaddD f) := is_aug i hf he ip_add hop_add hi hx hfn
theorem is_sub (i : Nat) {x : Str} {e : Expr} {pos pos' : Pos} {f : SE} (hf : Fit g X) (he : IE g A W X e f) (hi : X.N[i]? = some x := by rfl) (hx : Loc X.env.scope x := by first | exact .inl rfl | exact .inr rfl) (hfn : X.fn x = true ∨ X.env.scope.names.lookup x = some .local := by first | exact .inl rfl | exact .inr rfl | assumption) :
    IS g A W X (.AugAssign (.Name x pos') .Sub e pos) (gS i subD f) := is_aug i hf he ip_sub (fun d e z h => by
  unfold subD at h
  split at h <;> cases h
  exact ⟨_, _, rfl, rfl, rfl⟩) hi hx hfn

/-! ### targets, what a loop walks -/
abbrev SG := D → Rho → Option Rho
def tG (g : G) (A : Addr → Prop) (f : SG) : TG := fun v σ H Q => ∃ L ρ st d, At g A L H ρ σ st ∧ Rep g (bad A L) H d v ∧ ∃ ρ', f d ρ = some ρ' ∧ ∀ L' H' σ', Ext L H L' H' → At g A L' H' ρ' σ' st → Q σ' H'
def IG (g : G) (A : Addr → Prop) (X : Cx) (tg : Expr) (f : SG) : Prop := PG X tg (tG g A f)
theorem ig_name (i : Nat) {x : Str} {pos : Pos} (hf : Fit g X) (hi : X.N[i]? = some x := by rfl) (hx : Loc X.env.scope x := by first | exact .inl rfl | exact .inr rfl) (hfn : X.fn x = true ∨ X.env.scope.names.lookup x = some .local := by first | exact .inl rfl | exact .inr rfl | assumption) :
    IG g A X (.Name x pos) (fun d ρ => some (ρ.set i (some (.v d)))) :=
  ⟨fun pins s σ H v u Q I r ⟨L, ρ, st, d, a, rep, ρ', e, k⟩ => (pg_name hf.nd hi hx hfn).run pins s σ H v u Q I r (by
    cases e
    exact k L H _ Ext.refl ⟨a.rho.set (s := .v d) rep, a.rel⟩)⟩
structure ItOk (g : G) (B : Addr → Prop) (H : Hp) (J : It) (ds : List D) : Prop where
  go : ∀ A' L' H' st', Kp B H (bad A' L') H' → Rel g A' L' H' st' → ∀ i d, ds[i]? = some d → J.go i H' ∧ ∀ x H2, J.yld i H' x H2 → Ext L' H' L' H2 ∧ Rel g A' L' H2 st' ∧ Rep g (bad A' L') H2 d x
  stop : ∀ A' L' H' st', Kp B H (bad A' L') H' → Rel g A' L' H' st' → J.stop ds.length H'
abbrev RI (g : G) (A : Addr → Prop) : List (Option Addr) → Hp → List D → It → Prop := fun L H ds J => ItOk g (bad A L) H J ds
def tIt (g : G) (A : Addr → Prop) (W : WX) (f : SA) : TI := fun σ H R => ∃ L ρ st, At g A L H ρ σ st ∧ Run g A W (RI g A) L H σ (f ρ st) R
def II (g : G) (A : Addr → Prop) (W : WX) (X : Cx) (tg it : Expr) (f : SA) : Prop := PI X tg it (tIt g A W f)
theorem impI {tg it : Expr} {t t' : TI} (h : PI X tg it t) (i : ∀ σ H R, t' σ H R → t σ H R) : PI X tg it t' := ⟨fun pins s σ H R I q => h.run pins s σ H R I (i σ H R q)⟩
/-- the items of a list or tuple -/
def sI (f : SE) : SA := bS f fun d => oS (seqD d)
def lI (f : SE) : SA := bS f fun d => oS (lstD d)
def tupD : D → Option (List D)
  | .tup ds => some ds
  | _ => none
def uI (f : SE) : SA := bS f fun d => oS (tupD d)
/-- known of a data list's object for good -/
theorem lst_stays {B : Addr → Prop} {H : Hp} {d : D} {ds : List D} {v : V} (r : Rep g B H d v) (h : lstD d = some ds) : ∃ p vs, v = .ref p ∧ RepL g B H ds vs ∧ ∀ B' H', Kp B H B' H' → SqL g.K H' p vs := by
  cases r <;> simp only [lstD, Option.some.injEq] at h <;> first | cases h | subst h
  · rename_i hh nb r; exact ⟨_, _, rfl, r, fun B' H' k => SqL.of (k.keep _ _ hh nb fun _ z => nomatch z)⟩
  · rename_i hh nb r; exact ⟨_, _, rfl, r, fun B' H' k => .inl (.inr ⟨_, k.keep _ _ hh nb fun _ z => nomatch z⟩)⟩
  · rename_i hh nb r; exact ⟨_, _, rfl, r, fun B' H' k => SqL.of (k.keep _ _ hh nb fun _ z => nomatch z)⟩
  · rename_i hh r; exact ⟨_, _, rfl, r, fun B' H' k => hh H'⟩
theorem tup_stays {B : Addr → Prop} {H : Hp} {ds : List D} {v : V} (r : Rep g B H (.tup ds) v) : ∃ p vs, v = .ref p ∧ RepL g B H ds vs ∧ ∀ B' H', Kp B H B' H' → SqT g.K H' p vs := by
  cases r
  · rename_i hh nb r; exact ⟨_, _, rfl, r, fun B' H' k => SqT.of (k.keep _ _ hh nb fun _ z => nomatch z)⟩
  · rename_i hh r; exact ⟨_, _, rfl, r, fun B' H' k => hh H'⟩
theorem pi_listK {tg l : Expr} {tl : TE} (hf : Fit g X) (hl : PE X l tl) : PI X tg l (iList g.K tl) := by rw [← hf.K]; exact pi_list hl
theorem pi_tupK {tg l : Expr} {tl : TE} (hf : Fit g X) (hl : PE X l tl) : PI X tg l (iTup g.K tl) := by rw [← hf.K]; exact pi_tup hl
theorem ii_lst {tg it : Expr} {f : SE} (hf : Fit g X) (h : IE g A W X it f) : II g A W X tg it (lI f) :=
  impI (pi_listK hf h) fun σ H R ⟨L, ρ, st, a, q⟩ => ⟨L, ρ, st, a, run_then (RR := RD g A) a q fun L1 H1 d st1 v e1 a1 rep1 q1 => by
    obtain ⟨ds, hz, q2⟩ := q1.ret
    obtain ⟨p, vs, rfl, rl, hs⟩ := lst_stays rep1 hz
    refine ⟨p, rfl, ⟨vs, hs _ _ Kp.refl⟩, q2 L1 H1 Ext.refl a1.rel _ ⟨fun A' L' H' st' e' r' i d hi => ?_, fun A' L' H' st' e' r' => ?_⟩⟩
    · obtain ⟨v, h1, h2⟩ := rl.get hi
      have hq := hs _ _ e'
      refine ⟨⟨vs, v, hq, h1⟩, fun x H2 hy => ?_⟩
      obtain ⟨rfl, hy⟩ := hy
      have e := hy vs hq
      rw [h1] at e
      cases e
      exact ⟨Ext.refl, r', h2.kp e'⟩
    · exact ⟨vs, hs _ _ e', by rw [rl.length]; exact Nat.le_refl _⟩⟩
theorem ii_tup {tg it : Expr} {f : SE} (hf : Fit g X) (h : IE g A W X it f) : II g A W X tg it (uI f) :=
  impI (pi_tupK hf h) fun σ H R ⟨L, ρ, st, a, q⟩ => ⟨L, ρ, st, a, run_then (RR := RD g A) a q fun L1 H1 d st1 v e1 a1 rep1 q1 => by
    obtain ⟨ds, hz, q2⟩ := q1.ret
    unfold tupD at hz
    split at hz <;> cases hz
    obtain ⟨p, vs, rfl, rl, hs⟩ := tup_stays rep1
    refine ⟨p, rfl, ⟨vs, hs _ _ Kp.refl⟩, q2 L1 H1 Ext.refl a1.rel _ ⟨fun A' L' H' st' e' r' i d hi => ?_, fun A' L' H' st' e' r' => ?_⟩⟩
    · obtain ⟨v, h1, h2⟩ := rl.get hi
      have hq := hs _ _ e'
      refine ⟨⟨vs, v, hq, h1⟩, fun x H2 hy => ?_⟩
      obtain ⟨rfl, hy⟩ := hy
      have e := hy vs hq
      rw [h1] at e
      cases e
      exact ⟨Ext.refl, r', h2.kp e'⟩
    · exact ⟨vs, hs _ _ e', by rw [rl.length]; exact Nat.le_refl _⟩⟩
/-- range -/
def upto (lo : Int) (n : Nat) : List D := (List.range n).map fun i => D.int (lo + (i : Nat))
theorem upto_get {lo : Int} {n i : Nat} {d : D} (h : (upto lo n)[i]? = some d) : i < n ∧ d = .int (lo + (i : Nat)) := by
  unfold upto at h
  rw [List.getElem?_map] at h
  by_cases hi : i < n
  · rw [List.getElem?_range hi] at h
    cases h
    exact ⟨hi, rfl⟩
  · rw [List.getElem?_eq_none (by rw [List.length_range]; omega)] at h
    cases h
theorem upto_len {lo : Int} {n : Nat} : (upto lo n).length = n := by unfold upto; rw [List.length_map, List.length_range]
theorem range_ok {B : Addr → Prop} {H : Hp} {lo : Int} {n : Nat} : ItOk g B H (Itr lo n) (upto lo n) where
  go := fun A' L' H' st' e' r' i d hi => by
    obtain ⟨h1, rfl⟩ := upto_get hi
    refine ⟨h1, fun x H2 hy => ?_⟩
    obtain ⟨rfl, rfl⟩ := hy
    exact ⟨Ext.refl, r', .int _⟩
  stop := fun A' L' H' st' e' r' => by rw [upto_len]; exact Nat.le_refl n
def okR (i : Int) : Bool := decide (-4611686018427387904 ≤ i) && decide (i < 4611686018427387904)
def rng1 : List D → Option (List D)
  | [.int j] => if okR j then some (upto 0 j.toNat) else none
  | _ => none
def rng2 : List D → Option (List D)
  | [.int i, .int j] => if okR i && okR j then some (upto i (j - i).toNat) else none
  | _ => none
def r1I (f : SA) : SA := bS f fun ds => oS (rng1 ds)
def r2I (f : SA) : SA := bS f fun ds => oS (rng2 ds)
theorem ii_range1 {tg a : Expr} {p pos : Pos} {f : SA} (hf : Fit g X) (hg : Gl X "range") (hm : g.mg "range" = none) (ha : IA g A W X [a] f) (hs : starEach [a] X.env = [(false, eval a X.env)] := by rfl) : II g A W X tg (.Call (.Name "range" p) [a] [] pos) (r1I f) :=
  impI (pi_range1 hg (by rw [hf.mg]; exact hm) ha hs) fun σ H R ⟨L, ρ, st, a, q⟩ => ⟨L, ρ, st, a, run_then (RR := RL g A) a q fun L1 H1 d st1 v e1 a1 rep1 q1 => by
    obtain ⟨ds, hz, q2⟩ := q1.ret
    unfold rng1 at hz
    split at hz
    · rename_i j
      split at hz <;> cases hz
      rename_i c
      simp only [okR, Bool.and_eq_true, decide_eq_true_eq] at c
      obtain ⟨v, rfl, r⟩ := rep1.one
      rw [rep_int r]
      exact ⟨j, rfl, by omega, by omega, q2 L1 H1 Ext.refl a1.rel _ range_ok⟩
    · cases hz⟩
theorem ii_range2 {tg a b : Expr} {p pos : Pos} {f : SA} (hf : Fit g X) (hg : Gl X "range") (hm : g.mg "range" = none) (ha : IA g A W X [a, b] f) (hs : starEach [a, b] X.env = [(false, eval a X.env), (false, eval b X.env)] := by rfl) (hs2 : starEach [b] X.env = [(false, eval b X.env)] := by rfl) : II g A W X tg (.Call (.Name "range" p) [a, b] [] pos) (r2I f) :=
  impI (pi_range2 hg (by rw [hf.mg]; exact hm) ha hs hs2) fun σ H R ⟨L, ρ, st, a, q⟩ => ⟨L, ρ, st, a, run_then (RR := RL g A) a q fun L1 H1 d st1 v e1 a1 rep1 q1 => by
    obtain ⟨ds, hz, q2⟩ := q1.ret
    unfold rng2 at hz
    split at hz
    · rename_i i j
      split at hz <;> cases hz
      rename_i c
      simp only [okR, Bool.and_eq_true, decide_eq_true_eq] at c
      obtain ⟨v, w, rfl, r, s⟩ := rep1.two
      rw [rep_int r, rep_int s]
      exact ⟨i, j, rfl, by omega, q2 L1 H1 Ext.refl a1.rel _ range_ok⟩
    · cases hz⟩

/-! ### for, while -/
def forL (tg : SG) (b : SS) : List D → SS
  | [] => fun ρ st => some (.nx ρ, st)
  | d :: ds => fun ρ st =>
    match tg d ρ with
    | some ρ1 => loopK (b ρ1 st) (forL tg b ds)
    | none => none
def fS (it : SA) (tg : SG) (b : SS) : SS := xS it fun ds => forL tg b ds
theorem is_for {tg it : Expr} {body : List Stmt} {pos : Pos} {f : SA} {t : SG} {b : SS} (hf : Fit g X) (hp : PassesOwn (model X.prog X.w) X.A X.env X.xe) (hi : II g A W X tg it f) (hg : IG g A X tg t) (hb : IB g A W X body b) (hs : ∀ x, foldedSetIterable it X.env x = pure x := by intro _; rfl) : IS g A W X (.For tg it body [] pos) (fS f t b) :=
  impS (ps_for hp hf.calm hi hg hb hs) fun De σ H ⟨L, ρ, st, a, q⟩ => ⟨L, ρ, st, a, stm_then (RR := RI g A) a q fun L1 H1 ds st1 J e1 a1 rep1 q1 => by
    refine ⟨fun i m σ H => i ≤ ds.length ∧ m = ds.length - i ∧ ∃ L ρ st, Ext L1 H1 L H ∧ At g A L H ρ σ st ∧ RunS g A W L H (forL t b (ds.drop i) ρ st) De, ⟨ds.length, Nat.zero_le _, rfl, L1, ρ, st1, Ext.refl, a1, by rw [List.drop_zero]; exact q1⟩, ?_⟩
    rintro i m σ2 H2 ⟨hi, rfl, L2, ρ2, st2, e2, a2, q2⟩
    by_cases hlt : i < ds.length
    · obtain ⟨hgo, hy⟩ := rep1.go A L2 H2 st2 e2.kp a2.rel i ds[i] (List.getElem?_eq_getElem hlt)
      refine .inr ⟨hgo, fun σ' H' => i + 1 ≤ ds.length ∧ ∃ L ρ st, Ext L1 H1 L H' ∧ At g A L H' ρ σ' st ∧ RunS g A W L H' (forL t b (ds.drop (i + 1)) ρ st) De, fun σ' H' ⟨h1, h2⟩ => ⟨ds.length - (i + 1), by omega, h1, rfl, h2⟩, fun x H3 y => ?_⟩
      obtain ⟨e3, r3, rep3⟩ := hy x H3 y
      have a3 := a2.ext e3 r3
      rw [List.drop_eq_getElem_cons hlt] at q2
      have q2 := q2.ext e3
      obtain ⟨r, st', e0, k0⟩ := id q2
      unfold forL at q2 e0
      cases ht : t ds[i] ρ2 with
      | none => rw [ht] at e0; cases e0
      | some ρ3 =>
        rw [ht] at q2
        refine ⟨L2, ρ2, st2, ds[i], a3, rep3, ρ3, ht, fun L4 H4 σ4 e4 a4 => ⟨L4, ρ3, st2, a4, ?_⟩⟩
        obtain ⟨r, st', e5, k5⟩ := loop_run (q2.ext e4)
        refine ⟨r, st', e5, fun L6 H6 e6 r6 => ?_⟩
        have k6 := k5 L6 H6 e6 r6
        have go : ∀ σ', Nx g A W L4 H4 (forL t b (ds.drop (i + 1))) De σ' H6 → i + 1 ≤ ds.length ∧ ∃ L ρ st, Ext L1 H1 L H6 ∧ At g A L H6 ρ σ' st ∧ RunS g A W L H6 (forL t b (ds.drop (i + 1)) ρ st) De := fun σ' ⟨L7, ρ7, st7, e7, a7, q7⟩ =>
          ⟨hlt, L7, ρ7, st7, ((e2.trans e3).trans e4).trans e7, a7, q7⟩
        cases r with
        | nx ρ' => exact fun σ' rho => go σ' (k6 σ' rho)
        | ct ρ' => exact fun σ' rho => go σ' (k6 σ' rho)
        | _ => exact k6
    · have e : i = ds.length := by omega
      subst e
      rw [List.drop_length] at q2
      exact .inl ⟨rep1.stop A L2 H2 st2 e2.kp a2.rel, q2.nx_ a2⟩⟩
def whileF (c : ST) (b : SS) : Nat → SS
  | 0 => fun _ _ => none
  | n + 1 => xS c fun v ρ st => if v = true then loopK (b ρ st) (whileF c b n) else some (.nx ρ, st)
open Classical in
noncomputable def wS (c : ST) (b : SS) : SS := fun ρ st => if h : ∃ n r, whileF c b n ρ st = some r then whileF c b (Classical.choose h) ρ st else none
theorem is_while {c : Expr} {body : List Stmt} {pos : Pos} {k : ST} {b : SS} (hp : PassesOwn (model X.prog X.w) X.A X.env X.xe) (hc : IT g A W X c k) (hb : IB g A W X body b) : IS g A W X (.While c body [] pos) (wS k b) :=
  impS (ps_while hp hc hb) fun De σ H ⟨L, ρ, st, a, q⟩ => by
    have h : ∃ n, RunS g A W L H (whileF k b n ρ st) De := by
      unfold wS at q
      split at q
      · exact ⟨_, q⟩
      · obtain ⟨_, _, e, _⟩ := q; cases e
    obtain ⟨n, q⟩ := h
    refine ⟨fun m σ H => ∃ L ρ st, At g A L H ρ σ st ∧ RunS g A W L H (whileF k b m ρ st) De, ⟨n, L, ρ, st, a, q⟩, ?_⟩
    rintro m σ H ⟨L, ρ, st, a, q⟩
    cases m with
    | zero => obtain ⟨_, _, e, _⟩ := q; cases e
    | succ m =>
      refine ⟨L, ρ, st, a, stm_then (RR := RB) a q fun L1 H1 d st1 v e1 a1 rep1 q1 => ?_⟩
      have rep1 : d = v := rep1
      subst rep1
      cases d with
      | false => rw [if_neg Bool.false_ne_true] at q1 ⊢; exact q1.nx_ a1
      | true =>
        rw [if_pos rfl] at q1 ⊢
        refine ⟨fun σ' H' => ∃ L ρ st, At g A L H' ρ σ' st ∧ RunS g A W L H' (whileF k b m ρ st) De, fun σ' H' h => ⟨m, Nat.lt_succ_self _, h⟩, L1, ρ, st1, a1, ?_⟩
        obtain ⟨r, st', e5, k5⟩ := loop_run q1
        refine ⟨r, st', e5, fun L6 H6 e6 r6 => ?_⟩
        have k6 := k5 L6 H6 e6 r6
        cases r with
        | nx ρ' => exact fun σ' rho => let ⟨L7, ρ7, st7, e7, a7, q7⟩ := k6 σ' rho; ⟨L7, ρ7, st7, a7, q7⟩
        | ct ρ' => exact fun σ' rho => let ⟨L7, ρ7, st7, e7, a7, q7⟩ := k6 σ' rho; ⟨L7, ρ7, st7, a7, q7⟩
        | _ => exact k6
/-- more turns change nothing -/
theorem whileF_mono {c : ST} {b : SS} : ∀ {n : Nat} {ρ : Rho} {st : Sto} {r : Fl × Sto}, whileF c b n ρ st = some r → whileF c b (n + 1) ρ st = some r := by
  intro n
  induction n with
  | zero => intro ρ st r h; cases h
  | succ n ih =>
    intro ρ st r h
    unfold whileF at h ⊢
    unfold xS at h ⊢
    split at h
    · dsimp only at h ⊢
      split at h
      · rename_i hv
        rw [if_pos hv]
        unfold loopK at h ⊢
        split at h
        · exact ih h
        · exact ih h
        · exact h
        · exact h
        · exact h
        · cases h
      · rename_i hv
        rw [if_neg hv]
        exact h
    · exact h
    · cases h
theorem whileF_le {c : ST} {b : SS} {n m : Nat} {ρ : Rho} {st : Sto} {r : Fl × Sto} (h : whileF c b n ρ st = some r) (hl : n ≤ m) : whileF c b m ρ st = some r := by
  induction hl with
  | refl => exact h
  | step _ ih => exact whileF_mono ih
theorem wS_of {c : ST} {b : SS} {n : Nat} {ρ : Rho} {st : Sto} {r : Fl × Sto} (h : whileF c b n ρ st = some r) : wS c b ρ st = some r := by
  have hx : ∃ n r, whileF c b n ρ st = some r := ⟨n, r, h⟩
  unfold wS
  rw [dif_pos hx]
  obtain ⟨r', hr⟩ := Classical.choose_spec hx
  rw [hr]
  rcases Nat.le_total n (Classical.choose hx) with hl | hl
  · rw [whileF_le h hl] at hr; exact hr.symm
  · rw [whileF_le hr hl] at h; exact h
end
end DL

set_option Elab.async false
set_option linter.all false
set_option maxRecDepth 100000
set_option maxHeartbeats 4000000
/-! DL6: defs and their calls: pure ones (data in, data out), ones that change objects (methods); fields. -/
namespace DL
open PySem PySem.Spec PyProof.Rows L2

abbrev FP := List D → Option (Res D)
abbrev FI := List S → Sto → Option (Res D × Sto)
def TabsOk (g : G) (H : Hp) : Prop := ∀ p ∈ g.tabs, GxR.TabG H p
/-- what is wanted of a def's end -/
def EndR (g : G) (B : Addr → Prop) (H' : Hp) (r : Res D) (Q : VK) (E : XK) : Prop :=
  match r with
  | .ok d => ∀ v, Rep g B H' d v → Q v H'
  | .ex x => ∀ c dd, XRep g B H' x c dd → E c dd H'
/-- a pure def's promise -/
def spP (g : G) (n : Nat) (F : FP) : Sp := fun vs H Q E => vs.length = n ∧ ∃ A ds, (∀ a, A a → H a ≠ none) ∧ TabsOk g H ∧ RepL g A H ds vs ∧ ∃ r, F ds = some r ∧
  ∀ H', Ext [] H [] H' → TabsOk g H' → EndR g A H' r Q E
inductive RepSL (g : G) (A : Addr → Prop) (L : List (Option Addr)) (H : Hp) : List S → List V → Prop
  | nil : RepSL g A L H [] []
  | cons {s : S} {v : V} {ss : List S} {vs : List V} (h : RepS g A L H s v) (t : RepSL g A L H ss vs) : RepSL g A L H (s :: ss) (v :: vs)
theorem RepSL.length {g : G} {A : Addr → Prop} {L : List (Option Addr)} {H : Hp} : ∀ {ss : List S} {vs : List V}, RepSL g A L H ss vs → ss.length = vs.length
  | _, _, .nil => rfl
  | _, _, .cons _ t => congrArg Nat.succ t.length
theorem RepSL.get {g : G} {A : Addr → Prop} {L : List (Option Addr)} {H : Hp} : ∀ {ss : List S} {vs : List V} {i : Nat} {s : S}, RepSL g A L H ss vs → ss[i]? = some s → ∃ v, vs[i]? = some v ∧ RepS g A L H s v
  | _, _, _, _, .nil, e => by simp at e
  | _, _, 0, _, .cons r _, e => by simp at e; subst e; exact ⟨_, rfl, r⟩
  | _, _, i + 1, _, .cons _ t, e => by
    obtain ⟨v, h1, h2⟩ := RepSL.get (i := i) t (by simpa using e)
    exact ⟨v, by simpa using h1, h2⟩
theorem RepSL.of {g : G} {A : Addr → Prop} {L : List (Option Addr)} {H : Hp} : ∀ {ds : List D} {vs : List V}, RepL g (bad A L) H ds vs → RepSL g A L H (ds.map .v) vs
  | _, _, .nil => .nil
  | _, _, .cons r t => .cons r (RepSL.of t)
/-- the promise of a def that may change objects -/
def spI (g : G) (n : Nat) (F : FI) : Sp := fun vs H Q E => vs.length = n ∧ ∃ A L ss st, Rel g A L H st ∧ RepSL g A L H ss vs ∧ ∃ r st', F ss st = some (r, st') ∧
  ∀ L' H', Ext L H L' H' → Rel g A L' H' st' → EndR g (bad A L') H' r Q E

/-- a body's run -/
def outP (o : Option (Fl × Sto)) : Option (Res D) :=
  match o with
  | some (.nx _, _) => some (.ok .non)
  | some (.rt d, _) => some (.ok d)
  | some (.ex x _, _) => some (.ex x)
  | _ => none
def slots (N : Nat) (ss : List S) : Rho := ss.map some ++ List.replicate (N - ss.length) none
def runP (N : Nat) (b : SS) : FP := fun ds => outP (b (slots N (ds.map .v)) [])
def outI (o : Option (Fl × Sto)) : Option (Res D × Sto) :=
  match o with
  | some (.nx _, st) => some (.ok .non, st)
  | some (.rt d, st) => some (.ok d, st)
  | some (.ex x _, st) => some (.ex x, st)
  | _ => none
def runI (N : Nat) (b : SS) : FI := fun ss st => outI (b (slots N ss) st)

section
variable {g : G}
theorem bad_nil {A : Addr → Prop} : bad A [] = A := by
  funext a
  unfold bad
  simp
theorem slots_ok {A : Addr → Prop} {L : List (Option Addr)} {H : Hp} {N : List Str} {ss : List S} {vs : List V} (r : RepSL g A L H ss vs) (hl : vs.length ≤ N.length) : RhoOk g A L H (slots N.length ss) (L2.start N vs) := by
  have hs := r.length
  refine ⟨?_, fun i s h => ?_⟩
  · unfold slots L2.start
    simp only [List.length_append, List.length_map, List.length_replicate]
    omega
  · unfold slots at h
    by_cases hi : i < ss.length
    · rw [List.getElem?_append_left (by simpa using hi), List.getElem?_map] at h
      cases e : ss[i]? with
      | none => rw [e] at h; cases h
      | some t =>
        rw [e] at h
        cases h
        obtain ⟨v, h1, h2⟩ := r.get e
        refine ⟨v, ?_, h2⟩
        unfold L2.start
        rw [List.getElem?_append_left (by rw [List.length_map]; omega), List.getElem?_map, h1]
        rfl
    · rw [List.getElem?_append_right (by rw [List.length_map]; omega), List.getElem?_replicate] at h
      split at h <;> cases h
theorem tabs_of {A : Addr → Prop} {L : List (Option Addr)} {H : Hp} {st : Sto} (R : Rel g A L H st) : TabsOk g H := R.tab
theorem rel_nil {A : Addr → Prop} {H : Hp} (al : ∀ a, A a → H a ≠ none) (t : TabsOk g H) : Rel g A [] H [] :=
  ⟨al, fun a h => by simp at h, rfl, fun i j a h => by simp at h, fun n o h => by simp at h, t⟩

/-- around a body -/
abbrev cxG (g : G) (N : List Str) (qual : Str) (sc : Scope) (f : Addr) (cdv : Value) (Ar : Around) (outer : List Env) (s : Shared) (H : Hp) (E : XK) : Cx := cxOf (L2.CX g.P g.w) g.P g.w g.K g.mg g.base N qual sc f cdv Ar outer s H E
theorem fit_cx {N : List Str} {qual : Str} {sc : Scope} {f : Addr} {cdv : Value} {Ar : Around} {outer : List Env} {s : Shared} {H : Hp} {E : XK} (nd : N.Nodup) : Fit g (cxG g N qual sc f cdv Ar outer s H E) := ⟨rfl, rfl, rfl, rfl, rfl, rfl, nd⟩
abbrev WF (E : XK) : WX := fun c dd _ H => E c dd H
theorem takes_cx {N : List Str} {qual : Str} {sc : Scope} {f : Addr} {cdv : Value} {Ar : Around} {outer : List Env} {s : Shared} {H : Hp} {E : XK} : Takes (cxG g N qual sc f cdv Ar outer s H E) (WF E) := takes_of rfl rfl rfl rfl
theorem passes_cx {N : List Str} {qual : Str} {sc : Scope} {f : Addr} {cdv : Value} {Ar : Around} {outer : List Env} {s : Shared} {H : Hp} {E : XK} :
    PassesOwn (model (cxG g N qual sc f cdv Ar outer s H E).prog (cxG g N qual sc f cdv Ar outer s H E).w) (cxG g N qual sc f cdv Ar outer s H E).A (cxG g N qual sc f cdv Ar outer s H E).env (cxG g N qual sc f cdv Ar outer s H E).xe := passes_of rfl

/-- what a body's derivation says -/
def BodyOk (g : G) (k : Nat) (N : List Str) (qual : Str) (sc : Scope) (f : Addr) (cdv : Value) (body : List Stmt) (b : SS) : Prop :=
  ∀ (A : Addr → Prop) (Ar : Around) (outer : List Env) (s : Shared) (H : Hp) (E : XK), Room k (cxG g N qual sc f cdv Ar outer s H E).A → IB g A (WF E) (cxG g N qual sc f cdv Ar outer s H E) body b
theorem out_run {A : Addr → Prop} {W : WX} {E : XK} {L : List (Option Addr)} {H : Hp} {o : Option (Fl × Sto)} {Q : VK} {r : Res D} {st' : Sto} (e : outI o = some (r, st')) (hW : ∀ c dd σ H, E c dd H → W c dd σ H)
    (k : ∀ L' H', Ext L H L' H' → Rel g A L' H' st' → EndR g (bad A L') H' r Q E) :
    RunS g A W L H o { nx := fun _ H' => Q .non H', rt := Q } := by
  unfold outI at e
  split at e
  · cases e
    exact ⟨_, _, rfl, fun L' H' e' r' σ' rho => k L' H' e' r' _ .non⟩
  · cases e
    exact ⟨_, _, rfl, fun L' H' e' r' v rv => k L' H' e' r' v rv⟩
  · cases e
    exact ⟨_, _, rfl, fun L' H' e' r' σ' c dd rho xr => hW _ _ _ _ (k L' H' e' r' c dd xr)⟩
  · cases e
theorem outP_I {o : Option (Fl × Sto)} {r : Res D} (h : outP o = some r) : ∃ st', outI o = some (r, st') := by
  unfold outP at h
  split at h <;> cases h <;> exact ⟨_, rfl⟩
variable {k : Nat} {N ps : List Str} {x qual : Str} {params : Arguments} {body : List Stmt} {sc : Scope} {dvs : List V} {kws : List (Str × V)} {f : Addr} {fd : FuncData} {b : SS}
theorem fn_pure (F : FunD g.K x qual params body sc dvs kws f fd) (S : FnScope N ps sc) (hb : BodyOk g k N qual sc f fd.code body b) : FnOk g.P g.w g.K g.mg g.base (L2.CX g.P g.w) (k + 1) f fd ps (spP g ps.length (runP N.length b)) := by
  obtain ⟨oc, od, dV, kV, doc, pm, an, cdv, ct, osl, rfl, lk, hcd, _, _⟩ := F.ex
  refine fn_of lk hcd S (fun vs H Q E h => h.1) fun Ar outer s H vs Q E hr h => ?_
  obtain ⟨hl, A, ds, al, tb, rl, r, e, k⟩ := h
  have hpl : ps.length ≤ N.length := by have := congrArg List.length S.pre; rw [List.length_take] at this; omega
  obtain ⟨st', e'⟩ := outP_I e
  refine ⟨_, hb A Ar outer s H E hr, [], _, [], ⟨slots_ok (RepSL.of (by rw [bad_nil]; exact rl)) (by omega), rel_nil al tb⟩, out_run e' (fun _ _ _ _ h => h) fun L' H' e1 r1 => ?_⟩
  have eL : Ext [] H [] H' := ⟨fun a o h _ ht => e1.keep a o h (by simp) ht, e1.live, Nat.le_refl _, fun n a h => by simp at h, fun n a h => by simp at h⟩
  have k' := k H' eL r1.tab
  have kp : Kp (bad A L') H' A H' := ⟨fun _ _ h _ _ => h, fun _ _ _ h _ z => h (.inl z)⟩
  cases r with
  | ok d => exact fun v rv => k' v (rv.kp kp)
  | ex x =>
    intro c dd xr
    obtain ⟨h1, h2, vs, h3, h4⟩ := xr
    exact k' c dd ⟨h1, h2, vs, h3.kp kp, fun z => let ⟨dx, a1, a2, a3⟩ := h4 z; ⟨dx, a1, a2, fun q => a3 (.inl q)⟩⟩
theorem fn_imp (F : FunD g.K x qual params body sc dvs kws f fd) (S : FnScope N ps sc) (hb : BodyOk g k N qual sc f fd.code body b) : FnOk g.P g.w g.K g.mg g.base (L2.CX g.P g.w) (k + 1) f fd ps (spI g ps.length (runI N.length b)) := by
  obtain ⟨oc, od, dV, kV, doc, pm, an, cdv, ct, osl, rfl, lk, hcd, _, _⟩ := F.ex
  refine fn_of lk hcd S (fun vs H Q E h => h.1) fun Ar outer s H vs Q E hr h => ?_
  obtain ⟨hl, A, L, ss, st, R, rl, r, st', e, k⟩ := h
  have hpl : ps.length ≤ N.length := by have := congrArg List.length S.pre; rw [List.length_take] at this; omega
  exact ⟨_, hb A Ar outer s H E hr, L, _, st, ⟨slots_ok rl (by omega), R⟩, out_run e (fun _ _ _ _ h => h) k⟩
theorem fn_none {sp : Sp} (h : ∀ vs H Q E, ¬ sp vs H Q E) {j : Nat} : FnOk g.P g.w g.K g.mg g.base (L2.CX g.P g.w) j f fd ps sp :=
  ⟨fun vs H Q E z => absurd z (h vs H Q E), fun A outer s H args us vs Q E _ _ _ _ z => absurd z (h vs H Q E)⟩
theorem spP_none {n : Nat} {F : FP} (h : ∀ ds, F ds = none) : ∀ vs H Q E, ¬ spP g n F vs H Q E := fun vs H Q E ⟨_, A, ds, _, _, _, r, e, _⟩ => by
  rw [h ds] at e
  cases e
theorem spI_none {n : Nat} {F : FI} (h : ∀ ss st, F ss st = none) : ∀ vs H Q E, ¬ spI g n F vs H Q E := fun vs H Q E ⟨_, A, L, ss, st, _, _, r, st', e, _⟩ => by
  rw [h ss st] at e
  cases e
end

/-! ### calls -/
/-- a pure call keeps everything -/
theorem Ext.pure {L : List (Option Addr)} {H H' : Hp} (e : Ext [] H [] H') : Ext L H L H' :=
  ⟨fun a o h _ ht => e.keep a o h (by simp) ht, e.live, Nat.le_refl _, fun _ _ h _ => h, fun n a h hl => absurd (List.getElem?_eq_some_iff.mp h).1 (Nat.not_lt.mpr hl)⟩
theorem Rel.pure {g : G} {A : Addr → Prop} {L : List (Option Addr)} {H H' : Hp} {st : Sto} (R : Rel g A L H st) (e : Ext [] H [] H') (t : TabsOk g H') : Rel g A L H' st where
  alA := fun a z => e.live a (R.alA a z)
  dis := R.dis
  len := R.len
  nd := R.nd
  objs := fun n o q => by
    refine (R.objs n o q).ext e.pure fun a z => ?_
    obtain ⟨m, hm⟩ := List.mem_iff_getElem?.mp z
    have hl : m < st.length := by rw [← R.len]; exact (List.getElem?_eq_some_iff.mp hm).1
    have w := R.objs m st[m] (List.getElem?_eq_getElem hl)
    cases e2 : st[m] with
    | lst ds => rw [e2] at w; obtain ⟨b, vs, q1, q2, _⟩ := w; rw [hm] at q1; cases q1; rw [q2]; exact e.keep _ _ q2 (by simp) fun _ z => nomatch z
    | ins C fs => rw [e2] at w; obtain ⟨b, dx, vs, q1, q2, _⟩ := w; rw [hm] at q1; cases q1; rw [q2]; exact e.keep _ _ q2 (by simp) fun _ z => nomatch z
    | dead => rw [e2] at w; have w : L[m]? = some none := w; rw [hm] at w; cases w
  tab := t
def resP (o : Option (Res D)) : SE := fun _ st =>
  match o with
  | some r => some (r, st)
  | none => none
def cP (F : FP) (f : SA) : SE := bS f fun ds => resP (F ds)
section
variable {g : G} {A : Addr → Prop} {W : WX} {X : Cx}
theorem fnok_fit {CXq : CXT} {k : Nat} {f : Addr} {fd : FuncData} {ps : List Str} {sp : Sp} (hf : Fit g X) (F : FnOk g.P g.w g.K g.mg g.base (L2.CX g.P g.w) k f fd ps sp) : FnOk X.prog X.w X.K X.mg X.base (L2.CX X.prog X.w) k f fd ps sp := by
  rw [hf.prog, hf.w, hf.K, hf.mg, hf.base]
  exact F
theorem resP_sp {L : List (Option Addr)} {H : Hp} {ρ : Rho} {σ : L2.St} {st : Sto} {n : Nat} {F : FP} {ds : List D} {vs : List V} {Q : VK} (hn : ds.length = n) (a : At g A L H ρ σ st) (rl : RepL g (bad A L) H ds vs)
    (q : Run g A W (RD g A) L H σ (resP (F ds) ρ st) Q) : spP g n F vs H Q (WE W σ) := by
  obtain ⟨r, st', e, k⟩ := q
  unfold resP at e
  cases h : F ds with
  | none => rw [h] at e; cases e
  | some r' =>
    rw [h] at e
    cases e
    refine ⟨by rw [← rl.length]; exact hn, bad A L, ds, fun p hp => ?_, a.rel.tab, rl, r, h, fun H' e' t' => ?_⟩
    · rcases hp with z | z
      · exact a.rel.alA p z
      · exact a.rel.alL z
    · have k' := k L H' e'.pure (a.rel.pure e' t')
      cases r with
      | ok d => exact k'
      | ex x => exact k'
theorem lens {n : Nat} {F : FP} {f : SA} : True := trivial
/-- f(e, ..), f pure; n the number of its parameters, dl the defaults that fill up -/
def cPn (n : Nat) (F : FP) (dl : List D) (f : SA) : SE := bS f fun ds => if ds.length + dl.length = n then resP (F (ds ++ dl)) else fun _ _ => none
theorem cPn_run {n : Nat} {F : FP} {dl : List D} {dv : List V} {f : SA} (hd : ∀ B H, RepL g B H dl dv) {σ : L2.St} {H : Hp} {Q : VK} (q : tI g A W (cPn n F dl f) σ H Q) : tCallSD (spP g n F) dv (WE W) (tA g A W f) σ H Q := by
  obtain ⟨L, ρ, st, a, q⟩ := q
  refine ⟨L, ρ, st, a, run_then (RR := RL g A) a q fun L1 H1 ds st1 vs e1 a1 rep1 q1 => ?_⟩
  split at q1
  · rename_i hl
    exact resP_sp (by rw [List.length_append]; exact hl) a1 (rep1.append (hd _ _)) q1
  · obtain ⟨_, _, z, _⟩ := q1; cases z
theorem ie_call {n k : Nat} {F : FP} {fa : Addr} {fd : FuncData} {ps : List Str} {x : Str} {p pos : Pos} {e : Expr} {es : List Expr} {f : SA} (hf : Fit g X) (tk : Takes X W) (Fo : FnOk g.P g.w g.K g.mg g.base (L2.CX g.P g.w) k fa fd ps (spP g n F)) (hr : Room k X.A) (hg : Gl X x) (hm : g.mg x = some (.ref fa)) (hk : PySem.W.keepIn g.K (.ref fa) = true)
    (hb : Binds g.K fd ps []) (ha : IA g A W X (e :: es) f) (hdb : (x == ("__debug__" : Str)) = false := by decide) (he : starEach (e :: es) X.env = (false, eval e X.env) :: starEach es X.env := by rfl) (hpl : (backTo pos (starEach es X.env)).any (·.1) = false := by rfl) :
    IE g A W X (.Call (.Name x p) (e :: es) [] pos) (cPn n F [] f) :=
  imp (pe_callSD (dvs := []) (ds := []) (E := WE W) (fnok_fit (CXq := L2.CX X.prog X.w) hf Fo) hr hg (by rw [hf.mg]; exact hm) (by rw [hf.K]; exact hk) (by rw [hf.K]; exact hb) .nil (fun σ => passAt tk σ) ha hdb he hpl) fun σ H Q q => cPn_run (fun _ _ => .nil) q
theorem ie_callD {n k : Nat} {F : FP} {fa : Addr} {fd : FuncData} {ps : List Str} {x : Str} {p pos : Pos} {e : Expr} {es : List Expr} {f : SA} {dl : List D} {dv : List V} {ds : List Value} (hf : Fit g X) (tk : Takes X W) (Fo : FnOk g.P g.w g.K g.mg g.base (L2.CX g.P g.w) k fa fd ps (spP g n F)) (hr : Room k X.A) (hg : Gl X x) (hm : g.mg x = some (.ref fa)) (hk : PySem.W.keepIn g.K (.ref fa) = true)
    (hb : Binds g.K fd ps ds) (hv : Vals dv ds) (hd : ∀ B H, RepL g B H dl dv) (ha : IA g A W X (e :: es) f) (hdb : (x == ("__debug__" : Str)) = false := by decide) (he : starEach (e :: es) X.env = (false, eval e X.env) :: starEach es X.env := by rfl) (hpl : (backTo pos (starEach es X.env)).any (·.1) = false := by rfl) :
    IE g A W X (.Call (.Name x p) (e :: es) [] pos) (cPn n F dl f) :=
  imp (pe_callSD (dvs := dv) (ds := ds) (E := WE W) (fnok_fit (CXq := L2.CX X.prog X.w) hf Fo) hr hg (by rw [hf.mg]; exact hm) (by rw [hf.K]; exact hk) (by rw [hf.K]; exact hb) hv (fun σ => passAt tk σ) ha hdb he hpl) fun σ H Q q => cPn_run hd q

/-! ### calls with keywords, all parameters given -/
def tCallNS (n m : Nat) (sp : Sp) (E : L2.St → XK) (t tk : TA) : TE := fun σ H Q => t σ H fun vs H1 => tk σ H1 fun zs H2 => vs.length = n ∧ zs.length = m ∧ sp (vs ++ zs) H2 Q (E σ)
theorem run_fnNS {CX : CXT} {k n : Nat} {f : Addr} {fd : FuncData} {ps ks : List Str} {sp : Sp} {E : L2.St → XK} {gV : List V → List V → List V} {gU : List Value → List Value → List Value} {pins : List (Addr × Obj)} {σ : L2.St} {H : Hp} {s : Shared} {Q : VK} {us ws : List Value} {vs zs : List V} (F : FnOk X.prog X.w X.K X.mg X.base CX k f fd ps sp) (hr : Room k X.A) (hb : KBn X.K fd ps n ks gU gV) (hx : PassesAt CX X σ (E σ))
    (I : Inv X pins σ H s) (r : Vals vs us) (rz : Vals zs ws) (l1 : vs.length = n) (l2 : zs.length = ks.length) (h : sp (gV vs zs) H Q (E σ)) : wpAny (model X.prog X.w) X.A (call (.ref f) us (ks.zip ws)) (EP X pins σ Q) X.xe s := by
  have r2 := hb.rel r rz
  refine wpAny_call (codeAny_mono (F.run X.A X.stack s H ⟨us, ks.zip ws⟩ (gU us ws) (gV vs zs) Q (E σ) hr I.env0 (hb.to s us ws I.kIn (r.length.symm.trans l1) (rz.length.symm.trans l2)) r2 h) fun r s' hq => ?_)
  cases r with
  | error e => exact hx pins H s e s' I hq
  | ok fl =>
    cases fl with
    | ret u => exact I.after hq
    | next => exact False.elim hq
    | brk => exact False.elim hq
    | cont => exact False.elim hq
theorem pe_callNS {CX : CXT} {k n : Nat} {f : Addr} {fd : FuncData} {ps ks : List Str} {sp : Sp} {E : L2.St → XK} {x : Str} {p pos : Pos} {e : Expr} {es : List Expr} {kws : List Keyword} {t tk : TA} (F : FnOk X.prog X.w X.K X.mg X.base CX k f fd ps sp) (hr : Room k X.A) (hg : Gl X x) (hm : X.mg x = some (.ref f)) (hk : PySem.W.keepIn X.K (.ref f) = true)
    (hb : KBn X.K fd ps n ks (fun us ws => us ++ ws) (fun us ws => us ++ ws)) (hx : ∀ σ, PassesAt CX X σ (E σ))
    (ha : PA X (e :: es) t) (hkw : PK X kws tk) (hall : (backToKw pos (keywordEach kws X.env)).all (·.1.isSome) = true := by rfl) (hks : (backToKw pos (keywordEach kws X.env)).filterMap (·.1) = ks := by rfl)
    (hdb : (x == ("__debug__" : Str)) = false := by decide) (he : starEach (e :: es) X.env = (false, eval e X.env) :: starEach es X.env := by rfl)
    (hpl : ((backTo pos (starEach (e :: es) X.env)).any (·.1) || (backToKw pos (keywordEach kws X.env)).any (·.1.isNone)) = false := by rfl) :
    PE X (.Call (.Name x p) (e :: es) kws pos) (tCallNS n ks.length sp E t tk) := by
  refine ⟨fun pins s σ H Q I h => ?_⟩
  refine wpAny_Call_Name_kw (ld_glob I hg hm ?_ hdb)
  refine PySem.W.callWith_KW (h₀ := X.base) I.ok.mod.kin hk hall (thn (ha.run pos pins s σ H _ I h) fun us s1 ⟨vs, H1, I1, r, q⟩ => ?_) hpl he
  refine thn (hkw.run pos pins s1 σ H1 _ I1 q) fun ws s2 ⟨zs, H2, I2, rz, l1, l2, q2⟩ => ⟨I2.kIn, ?_⟩
  rw [hks]
  exact run_fnNS F hr hb (hx σ) I2 r rz l1 l2 q2
def IK (g : G) (A : Addr → Prop) (W : WX) (X : Cx) (kws : List Keyword) (f : SA) : Prop := PK X kws (tA g A W f)
theorem impK {kws : List Keyword} {t t' : TA} (h : PK X kws t) (i : ∀ σ H Q, t' σ H Q → t σ H Q) : PK X kws t' := ⟨fun pos pins s σ H Q I q => h.run pos pins s σ H Q I (i σ H Q q)⟩
theorem ik_nil : IK g A W X [] aN := impK pk_nil fun σ H Q ⟨L, ρ, st, a, q⟩ => q.val L H Ext.refl a.rel [] .nil
theorem ik_cons {nm : Option Str} {e : Expr} {kpos : Pos} {kws : List Keyword} {f : SE} {r : SA} (ha : IE g A W X e f) (hr : IK g A W X kws r) : IK g A W X (⟨nm, e, kpos⟩ :: kws) (aC f r) :=
  impK (pk_cons ha hr) fun σ H Q ⟨L, ρ, st, a, q⟩ => ⟨L, ρ, st, a, run_then (RR := RD g A) a q fun L1 H1 d st1 v e1 a1 rep1 q1 => ⟨L1, ρ, st1, a1, run_then (RR := RL g A) a1 q1 fun L2 H2 ds st2 vs e2 a2 rep2 q2 =>
    q2.val L2 H2 Ext.refl a2.rel (v :: vs) (.cons (rep1.kp e2.kp) rep2)⟩⟩
def cK (n m : Nat) (F : FP) (f h : SA) : SE := bS f fun ds => bS h fun es => if ds.length = n ∧ es.length = m then resP (F (ds ++ es)) else fun _ _ => none
theorem ie_callK {n m k : Nat} {F : FP} {fa : Addr} {fd : FuncData} {ps ks : List Str} {x : Str} {p pos : Pos} {e : Expr} {es : List Expr} {kws : List Keyword} {f h : SA} (hf : Fit g X) (tk : Takes X W) (Fo : FnOk g.P g.w g.K g.mg g.base (L2.CX g.P g.w) k fa fd ps (spP g (n + m) F)) (hr : Room k X.A) (hg : Gl X x) (hm : g.mg x = some (.ref fa)) (hk : PySem.W.keepIn g.K (.ref fa) = true)
    (hb : KBn g.K fd ps n ks (fun us ws => us ++ ws) (fun us ws => us ++ ws)) (hl : ks.length = m) (ha : IA g A W X (e :: es) f) (hkw : IK g A W X kws h) (hall : (backToKw pos (keywordEach kws X.env)).all (·.1.isSome) = true := by rfl) (hks : (backToKw pos (keywordEach kws X.env)).filterMap (·.1) = ks := by rfl)
    (hdb : (x == ("__debug__" : Str)) = false := by decide) (he : starEach (e :: es) X.env = (false, eval e X.env) :: starEach es X.env := by rfl)
    (hpl : ((backTo pos (starEach (e :: es) X.env)).any (·.1) || (backToKw pos (keywordEach kws X.env)).any (·.1.isNone)) = false := by rfl) : IE g A W X (.Call (.Name x p) (e :: es) kws pos) (cK n m F f h) :=
  imp (pe_callNS (n := n) (E := WE W) (fnok_fit (CXq := L2.CX X.prog X.w) hf Fo) hr hg (by rw [hf.mg]; exact hm) (by rw [hf.K]; exact hk) (by rw [hf.K]; exact hb) (fun σ => passAt tk σ) ha hkw hall hks hdb he hpl) fun σ H Q ⟨L, ρ, st, a, q⟩ =>
    ⟨L, ρ, st, a, run_then (RR := RL g A) a q fun L1 H1 ds st1 vs e1 a1 rep1 q1 => ⟨L1, ρ, st1, a1, run_then (RR := RL g A) a1 q1 fun L2 H2 es st2 ws e2 a2 rep2 q2 => by
      split at q2
      · rename_i hh
        refine ⟨by rw [← rep1.length]; exact hh.1, by rw [hl, ← rep2.length]; exact hh.2, ?_⟩
        exact resP_sp (by rw [List.length_append, hh.1, hh.2]) a2 ((rep1.kp e2.kp).append rep2) q2
      · obtain ⟨_, _, z, _⟩ := q2; cases z⟩⟩
end
end DL

set_option Elab.async false
set_option linter.all false
set_option maxRecDepth 100000
set_option maxHeartbeats 4000000
/-! DL7: changing objects: fields of instances, their methods, new instances, lists that grow. -/
namespace DL
open PySem PySem.Spec PyProof.Rows L2
section
variable {g : G} {A : Addr → Prop} {W : WX} {X : Cx}
/-- the changing instance in slot i -/
def stO (ρ : Rho) (st : Sto) (i : Nat) : Option (Nat × Str × List (Str × S)) :=
  match ρ[i]? with
  | some (some (.l n)) =>
    match st[n]? with
    | some (.ins C fs) => some (n, C, fs)
    | _ => none
  | _ => none
theorem stO_some {ρ : Rho} {st : Sto} {i n : Nat} {C : Str} {fs : List (Str × S)} (h : stO ρ st i = some (n, C, fs)) : ρ[i]? = some (some (.l n)) ∧ st[n]? = some (.ins C fs) := by
  unfold stO at h
  split at h
  · rename_i m hm
    split at h
    · rename_i hs
      cases h
      exact ⟨hm, hs⟩
    · cases h
  · cases h
theorem At.loc {L : List (Option Addr)} {H : Hp} {ρ : Rho} {σ : L2.St} {st : Sto} {i n : Nat} {a : Addr} (t : At g A L H ρ σ st) (h : ρ[i]? = some (some (.l n))) (hL : L[n]? = some (some a)) : σ[i]? = some (some (.ref a)) := by
  obtain ⟨v, h1, h2⟩ := t.rho.2 i _ h
  rw [h2.2 a hL] at h1
  exact h1
theorem At.ins {L : List (Option Addr)} {H : Hp} {ρ : Rho} {σ : L2.St} {st : Sto} {i n : Nat} {C : Str} {fs : List (Str × S)} (t : At g A L H ρ σ st) (h : stO ρ st i = some (n, C, fs)) :
    ∃ a dx vs, σ[i]? = some (some (.ref a)) ∧ L[n]? = some (some a) ∧ H a = some (.ins (g.cl C) dx vs) ∧ FRep g A L H fs vs := by
  obtain ⟨h1, h2⟩ := stO_some h
  obtain ⟨a, dx, vs, q1, q2, q3⟩ := t.rel.objs n _ h2
  exact ⟨a, dx, vs, t.loc h1 q1, q1, q2, q3⟩
theorem ORep.ext' {L : List (Option Addr)} {H H' : Hp} {n : Nat} (e : Ext L H L H') (hs : ∀ a, L[n]? = some (some a) → H' a = H a) : ∀ {o : O}, ORep g A L H n o → ORep g A L H' n o
  | .lst ds, h => let ⟨a, vs, h1, h2, r⟩ := h; ⟨a, vs, h1, by rw [hs a h1]; exact h2, r.kp e.kp⟩
  | .ins C fs, h => let ⟨a, dx, vs, h1, h2, r⟩ := h; ⟨a, dx, vs, h1, by rw [hs a h1]; exact h2, r.ext e⟩
  | .dead, h => h
theorem Ext.upd {L : List (Option Addr)} {H : Hp} {a : Addr} {o : HO} (h : some a ∈ L) : Ext L H L (upd H a o) where
  keep := fun b u e hb _ => (upd_ne (fun z => hb (by rw [z]; exact h))).trans e
  live := fun b e => by
    unfold L2.upd
    split
    · simp
    · exact e
  len := Nat.le_refl _
  old := fun _ _ h _ => h
  new := fun n a h hl => absurd (List.getElem?_eq_some_iff.mp h).1 (Nat.not_lt.mpr hl)
/-- a changing object is changed -/
theorem Rel.set {L : List (Option Addr)} {H : Hp} {st : Sto} {n : Nat} {a : Addr} {u o : HO} {ob : O} (R : Rel g A L H st) (hL : L[n]? = some (some a)) (hu : H a = some u) (ht : ∀ ps, u ≠ .tbl ps) (new : ORep g A L (upd H a o) n ob) : Rel g A L (upd H a o) (st.set n ob) where
  alA := fun b z => (Ext.upd (List.mem_of_getElem? hL)).live b (R.alA b z)
  dis := R.dis
  len := by rw [List.length_set]; exact R.len
  nd := R.nd
  objs := fun m p q => by
    by_cases e : n = m
    · subst e
      by_cases hl : n < st.length
      · rw [List.getElem?_set_self hl] at q
        cases q
        exact new
      · rw [List.getElem?_eq_none (by rw [List.length_set]; omega)] at q
        cases q
    · rw [List.getElem?_set_ne e] at q
      exact (R.objs m p q).ext' (Ext.upd (List.mem_of_getElem? hL)) fun b hb => upd_ne fun z => e (R.nd n m a hL (z ▸ hb))
  tab := fun p hp => by
    obtain ⟨ps, h1, h2⟩ := R.tab p hp
    refine ⟨ps, ?_, h2⟩
    rw [upd_ne]
    · exact h1
    · rintro rfl
      rw [hu] at h1
      cases h1
      exact ht ps rfl
/-- a new changing object -/
theorem Ext.push {L : List (Option Addr)} {H H' : Hp} {a : Addr} (e : Ext L H L H') (h : H a = none) : Ext L H (L ++ [some a]) H' where
  keep := e.keep
  live := e.live
  len := by rw [List.length_append]; omega
  old := fun n b q hl => by
    rw [List.getElem?_append_left hl] at q
    exact q
  new := fun n b q hl => by
    rw [List.getElem?_append_right hl] at q
    by_cases z : n - L.length = 0
    · rw [z] at q
      cases q
      exact h
    · rw [List.getElem?_eq_none (by simp only [List.length_singleton]; omega)] at q
      cases q
theorem Rel.push {L : List (Option Addr)} {H H' : Hp} {st : Sto} {a : Addr} {ob : O} (R : Rel g A L H st) (e : Ext L H L H') (R' : Rel g A L H' st) (h : H a = none) (new : ORep g A (L ++ [some a]) H' L.length ob) (hs : ∀ b, some b ∈ L → H' b = H b) : Rel g A (L ++ [some a]) H' (st ++ [ob]) where
  alA := R'.alA
  dis := fun b hb z => by
    rcases List.mem_append.mp hb with hb | hb
    · exact R.dis b hb z
    · rw [Option.some.inj (List.mem_singleton.mp hb)] at z
      exact R.alA a z h
  len := by rw [List.length_append, List.length_append, R.len]; rfl
  nd := fun i j b hi hj => by
    have na : some a ∉ L := fun z => R.alL z h
    by_cases h1 : i < L.length <;> by_cases h2 : j < L.length
    · rw [List.getElem?_append_left h1] at hi
      rw [List.getElem?_append_left h2] at hj
      exact R.nd i j b hi hj
    · rw [List.getElem?_append_left h1] at hi
      rw [List.getElem?_append_right (by omega)] at hj
      have z : b = a := by
        by_cases z : j - L.length = 0
        · rw [z] at hj; cases hj; rfl
        · rw [List.getElem?_eq_none (by simp only [List.length_singleton]; omega)] at hj; cases hj
      rw [z] at hi
      exact absurd (List.mem_of_getElem? hi) na
    · rw [List.getElem?_append_left h2] at hj
      rw [List.getElem?_append_right (by omega)] at hi
      have z : b = a := by
        by_cases z : i - L.length = 0
        · rw [z] at hi; cases hi; rfl
        · rw [List.getElem?_eq_none (by simp only [List.length_singleton]; omega)] at hi; cases hi
      rw [z] at hj
      exact absurd (List.mem_of_getElem? hj) na
    · have l1 := (List.getElem?_eq_some_iff.mp hi).1
      have l2 := (List.getElem?_eq_some_iff.mp hj).1
      rw [List.length_append, List.length_singleton] at l1 l2
      omega
  objs := fun n o q => by
    by_cases hn : n < st.length
    · rw [List.getElem?_append_left hn] at q
      have w := R.objs n o q
      have ee : Ext L H (L ++ [some a]) H' := e.push h
      have hl : n < L.length := by rw [R.len]; exact hn
      cases o with
      | lst ds => obtain ⟨b, vs, h1, h2, r⟩ := w; exact ⟨b, vs, by rw [List.getElem?_append_left hl]; exact h1, by rw [hs b (List.mem_of_getElem? h1)]; exact h2, r.kp ee.kp⟩
      | ins C fs => obtain ⟨b, dx, vs, h1, h2, r⟩ := w; exact ⟨b, dx, vs, by rw [List.getElem?_append_left hl]; exact h1, by rw [hs b (List.mem_of_getElem? h1)]; exact h2, r.ext ee⟩
      | dead => exact (List.getElem?_append_left hl).trans w
    · have e0 : n = st.length := by
        have := (List.getElem?_eq_some_iff.mp q).1
        rw [List.length_append, List.length_singleton] at this
        omega
      subst e0
      rw [List.getElem?_append_right (Nat.le_refl _), Nat.sub_self] at q
      cases q
      rw [← R.len]
      exact new
  tab := R'.tab

/-! ### fields -/
def eF (i : Nat) (C f : Str) : SE := fun ρ st =>
  match stO ρ st i with
  | some (n, C', fs) => if C' = C then (match fs.lookup f with | some (.v d) => some (.ok d, st) | _ => none) else none
  | none => none
theorem eF_some {i : Nat} {C f : Str} {ρ : Rho} {st : Sto} {r : Res D × Sto} (h : eF i C f ρ st = some r) : ∃ n fs d, stO ρ st i = some (n, C, fs) ∧ fs.lookup f = some (.v d) ∧ r = (.ok d, st) := by
  unfold eF at h
  split at h
  · rename_i n C' fs hs
    split at h
    · rename_i hc
      subst hc
      split at h
      · rename_i d hd
        cases h
        exact ⟨n, fs, d, hs, hd, rfl⟩
      · cases h
    · cases h
  · cases h
theorem ie_fld (i : Nat) {C f x : Str} {pos p : Pos} (hf : Fit g X) (c : Cls g.K (g.cl C)) (na : NoAttr g.K (g.cl C) f) (hN : X.N[i]? = some x := by rfl) (hv : Vis X.env.scope x := by first | exact Or.inl rfl | exact Or.inr (Or.inl rfl) | exact Or.inr (Or.inr rfl))
    (hb : attributeBase (.Name x p) f X.env (eval (.Name x p) X.env) = eval (.Name x p) X.env := by rfl) (hd : (x == ("__debug__" : Str)) = false := by decide) (hcd : (x == ("__classdict__" : Str)) = false := by decide) : IE g A W X (.Attribute (.Name x p) f pos) (eF i C f) :=
  imp (pe_fld (pe_var hN hv hd hcd) hb) fun σ H Q ⟨L, ρ, st, a, r, st', e, q⟩ => by
    obtain ⟨n, fs, d, h1, h2, e2⟩ := eF_some e
    cases e2
    obtain ⟨b, dx, vs, q1, q2, q3, q4⟩ := a.ins h1
    obtain ⟨v, h3, h4⟩ := q4.lookup h2
    exact ⟨_, q1, b, g.cl C, dx, vs, v, rfl, q3, by rw [hf.K]; exact c, by rw [hf.K]; exact na, h3, q L H Ext.refl a.rel v h4⟩
/-- x.f = e -/
def fS_ (i : Nat) (C f : Str) (e : SE) : SS := xS e fun d ρ st =>
  match stO ρ st i with
  | some (n, C', fs) => if C' = C ∧ fs.length < 100 then some (.nx ρ, st.set n (.ins C (putS f (.v d) fs))) else none
  | none => none
theorem fset_run {C f : Str} {L : List (Option Addr)} {H : Hp} {ρ : Rho} {σ : L2.St} {st : Sto} {i n : Nat} {d : D} {y : V} {fs : List (Str × S)} (a : At g A L H ρ σ st) (h : stO ρ st i = some (n, C, fs)) (r : Rep g (bad A L) H d y) :
    ∃ b dx vs, σ[i]? = some (some (.ref b)) ∧ H b = some (.ins (g.cl C) dx vs) ∧ vs.length = fs.length ∧ Ext L H L (upd H b (.ins (g.cl C) dx (putF f y vs))) ∧ At g A L (upd H b (.ins (g.cl C) dx (putF f y vs))) ρ σ (st.set n (.ins C (putS f (.v d) fs))) := by
  obtain ⟨b, dx, vs, q1, q2, q3, q4⟩ := a.ins h
  have ee : Ext L H L (upd H b (.ins (g.cl C) dx (putF f y vs))) := Ext.upd (List.mem_of_getElem? q2)
  exact ⟨b, dx, vs, q1, q3, q4.length.symm, ee, a.ext ee (a.rel.set q2 q3 (fun _ z => nomatch z) ⟨b, dx, _, q2, upd_same, (FRep.put (y := .v d) r q4).ext ee⟩)⟩
theorem is_fld (i : Nat) {C f x : Str} {value : Expr} {pos pos' p : Pos} {e : SE} (hf : Fit g X) (c : Cls g.K (g.cl C)) (na : NoAttr g.K (g.cl C) f) (he : IE g A W X value e) (hN : X.N[i]? = some x := by rfl) (hv : Vis X.env.scope x := by first | exact Or.inl rfl | exact Or.inr (Or.inl rfl) | exact Or.inr (Or.inr rfl))
    (hs : swapsWith value (some (.Attribute (.Name x p) f pos')) pos.line X.env = pure false := by rfl) (hd : (x == ("__debug__" : Str)) = false := by decide) (hcd : (x == ("__classdict__" : Str)) = false := by decide) :
    IS g A W X (.Assign [.Attribute (.Name x p) f pos'] value pos) (fS_ i C f e) :=
  impS (ps_fld (pe_var hN hv hd hcd) he hs) fun De σ H ⟨L, ρ, st, a, q⟩ => ⟨L, ρ, st, a, stm_then (RR := RD g A) a q fun L1 H1 d st1 v e1 a1 rep1 q1 => by
    obtain ⟨r, st', e0, k0⟩ := id q1
    split at e0
    · rename_i n C' fs hs
      split at e0
      · rename_i hc
        obtain ⟨rfl, hl⟩ := hc
        obtain ⟨b, dx, vs, h1, h2, h3, h4, h5⟩ := fset_run (f := f) a1 hs rep1
        refine ⟨_, h1, b, g.cl C', dx, vs, rfl, h2, by rw [hf.K]; exact c, by rw [hf.K]; exact na, by omega, ?_⟩
        cases e0
        exact k0 L1 _ h4 h5.rel σ h5.rho
      · cases e0
    · cases e0⟩
/-- x.f += e, ints -/
def fAug (i : Nat) (C f : Str) (hop : D → D → Option D) (e : SE) : SS := fun ρ st =>
  match stO ρ st i with
  | some (n, C', fs) => if C' = C then (match fs.lookup f with
    | some (.v d) => xS e (fun y ρ st => match hop d y with
      | some z => (match stO ρ st i with
        | some (n, C', fs) => if C' = C ∧ fs.length < 100 then some (.nx ρ, st.set n (.ins C (putS f (.v z) fs))) else none
        | none => none)
      | none => none) ρ st
    | _ => none) else none
  | none => none
theorem is_fadd (i : Nat) {C f x : Str} {value : Expr} {pos p tpos : Pos} {e : SE} (hf : Fit g X) (c : Cls g.K (g.cl C)) (na : NoAttr g.K (g.cl C) f) (he : IE g A W X value e) (hN : X.N[i]? = some x := by rfl) (hv : Vis X.env.scope x := by first | exact Or.inl rfl | exact Or.inr (Or.inl rfl) | exact Or.inr (Or.inr rfl))
    (hd : (x == ("__debug__" : Str)) = false := by decide) (hcd : (x == ("__classdict__" : Str)) = false := by decide) :
    IS g A W X (.AugAssign (.Attribute (.Name x p) f tpos) .Add value pos) (fAug i C f iaddD e) :=
  impS (ps_fldaug (pe_var hN hv hd hcd) he in_add) fun De σ H ⟨L, ρ, st, a, q⟩ => by
    obtain ⟨r, st', e0, k0⟩ := id q
    unfold fAug at q e0
    split at e0
    · rename_i n C' fs hs
      rw [hs] at q
      dsimp only at q
      split at e0
      · rename_i hc
        subst hc
        split at e0
        · rename_i d hd
          rw [if_pos rfl, hd] at q
          dsimp only at q
          obtain ⟨b, dx, vs, q1, q2, q3, q4⟩ := a.ins hs
          obtain ⟨v, h3, h4⟩ := q4.lookup hd
          refine ⟨_, q1, b, g.cl C', dx, vs, v, rfl, q3, by rw [hf.K]; exact c, by rw [hf.K]; exact na, h3, L, ρ, st, a, stm_then (RR := RD g A) a q fun L1 H1 y st1 u e1 a1 rep1 q5 => ?_⟩
          obtain ⟨r, st', e6, k6⟩ := id q5
          split at e6
          · rename_i z hz
            obtain ⟨i1, i2, rfl, rfl, rfl⟩ := hop_add _ _ _ hz
            split at e6
            · rename_i n2 C2 fs2 hs2
              split at e6
              · rename_i hc2
                obtain ⟨rfl, hl⟩ := hc2
                have h4' : v = .int i1 := rep_int h4
                refine ⟨i1, i2, h4', rep_int rep1, ?_⟩
                obtain ⟨b2, dx2, vs2, g1, g2, g3, g4, g5⟩ := fset_run (f := f) (d := .int (i1 + i2)) (y := .int (i1 + i2)) a1 hs2 (.int _)
                rw [q1] at g1
                cases g1
                refine ⟨dx2, vs2, g2, by omega, ?_⟩
                cases e6
                exact k6 L1 _ g4 g5.rel σ g5.rho
              · cases e6
            · cases e6
          · cases e6
        · cases e0
      · cases e0
    · cases e0
/-- x.f of data -/
def fldD (C f : Str) : D → Option D
  | .obj C' ns ds => if C' = C then (ns.zip ds).lookup f else none
  | _ => none

/-! ### methods of changing instances -/
def tMethSD (C : Addr) (m : Str) (sp : Sp) (dvs : List V) (E : L2.St → XK) (ta : TE) (t : TA) : TE := fun σ H Q => ta σ H fun x H1 => ∃ a dx fs, x = .ref a ∧ H1 a = some (.ins C dx fs) ∧ fs.lookup m = none ∧
  t σ H1 fun vs H2 => sp (x :: (vs ++ dvs)) H2 Q (E σ)
theorem pe_methSD {CX : CXT} {k : Nat} {f C : Addr} {fd : FuncData} {ps : List Str} {sp : Sp} {dvs : List V} {ds : List Value} {E : L2.St → XK} {m : Str} {pos apos : Pos} {e o : Expr} {es : List Expr} {ta : TE} {t : TA} {pl : Sem Bool} (he : PE X o ta) (c : Cls X.K C) (hm : Meth X.K C m f) (F : FnOk X.prog X.w X.K X.mg X.base CX k f fd ps sp) (hr : Room k X.A) (hb : Binds X.K fd ps ds) (hd : Vals dvs ds) (hx : ∀ σ, PassesAt CX X σ (E σ)) (ha : PA X (e :: es) t)
    (hst : starEach (e :: es) X.env = (false, eval e X.env) :: starEach es X.env := by rfl) (hpl : (backTo pos (starEach es X.env)).any (·.1) = false := by rfl)
    (ht : eval (.Call (.Attribute o m apos) (e :: es) [] pos) X.env = (do
      let ov ← eval o X.env
      standAt apos.atName
      let (f, first) ← holding [ov] (getMethod ov m pl)
      callWith pos f first (backTo pos (starEach (e :: es) X.env)) (backToKw pos (keywordEach [] X.env))) := by rfl) :
    PE X (.Call (.Attribute o m apos) (e :: es) [] pos) (tMethSD C m sp dvs E ta t) := by
  refine ⟨fun pins s σ H Q I h => ?_⟩
  refine PySem.W.methodCall_KW (pl := pl) (thn (he.run pins s σ H _ I h) fun u s1 ⟨x, H1, I1, rx, a, dx, fs, ex, ea, l, q⟩ => ?_) ht
  subst ex
  obtain rfl : u = Value.ref a := rx
  refine getmeth_ok I1 ea c hm l ?_
  refine PySem.W.callWith_K (first := [.ref a]) (h₀ := X.base) I.ok.mod.kin hm.kp (thn (ha.run pos pins s1 σ H1 _ I1 q) fun us s2 ⟨vs, H2, I2, r, q2⟩ => ⟨I2.kIn, ?_⟩) hst hpl
  exact run_fnSD (us := .ref a :: us) (vs := .ref a :: vs) F hr hb hd (hx σ) I2 (.cons rfl r) q2
def cM (i : Nat) (C m : Str) (n : Nat) (F : FI) (f : SA) : SE := fun ρ st =>
  match stO ρ st i with
  | some (k, C', fs) => if C' = C ∧ fs.lookup m = none then bS f (fun ds _ st => if ds.length + 1 = n then F (.l k :: ds.map .v) st else none) ρ st else none
  | none => none
theorem callI_run {L : List (Option Addr)} {H : Hp} {ρ : Rho} {σ : L2.St} {st : Sto} {n : Nat} {F : FI} {ss : List S} {vs : List V} {Q : VK} (hn : ss.length = n) (a : At g A L H ρ σ st) (rl : RepSL g A L H ss vs)
    (q : Run g A W (RD g A) L H σ (F ss st) Q) : spI g n F vs H Q (WE W σ) := by
  obtain ⟨r, st', e, k⟩ := q
  refine ⟨by rw [← rl.length]; exact hn, A, L, ss, st, a.rel, rl, r, st', e, fun L' H' e' r' => ?_⟩
  have k' := k L' H' e' r'
  cases r with
  | ok d => exact k'
  | ex x => exact k'
theorem ie_meth (i : Nat) {C m x : Str} {n k : Nat} {F : FI} {fa : Addr} {fd : FuncData} {ps : List Str} {p pos apos : Pos} {e : Expr} {es : List Expr} {f : SA} {pl : Sem Bool} (hf : Fit g X) (tk : Takes X W) (c : Cls g.K (g.cl C)) (hme : Meth g.K (g.cl C) m fa) (Fo : FnOk g.P g.w g.K g.mg g.base (L2.CX g.P g.w) k fa fd ps (spI g n F)) (hr : Room k X.A)
    (hb : Binds g.K fd ps []) (ha : IA g A W X (e :: es) f) (hN : X.N[i]? = some x := by rfl) (hv : Vis X.env.scope x := by first | exact Or.inl rfl | exact Or.inr (Or.inl rfl) | exact Or.inr (Or.inr rfl)) (hd : (x == ("__debug__" : Str)) = false := by decide) (hcd : (x == ("__classdict__" : Str)) = false := by decide)
    (hst : starEach (e :: es) X.env = (false, eval e X.env) :: starEach es X.env := by rfl) (hpl : (backTo pos (starEach es X.env)).any (·.1) = false := by rfl)
    (ht : eval (.Call (.Attribute (.Name x p) m apos) (e :: es) [] pos) X.env = (do
      let ov ← eval (.Name x p) X.env
      standAt apos.atName
      let (f, first) ← holding [ov] (getMethod ov m pl)
      callWith pos f first (backTo pos (starEach (e :: es) X.env)) (backToKw pos (keywordEach [] X.env))) := by rfl) :
    IE g A W X (.Call (.Attribute (.Name x p) m apos) (e :: es) [] pos) (cM i C m n F f) :=
  imp (pe_methSD (dvs := []) (ds := []) (E := WE W) (pl := pl) (pe_var hN hv hd hcd) (by rw [hf.K]; exact c) (by rw [hf.K]; exact hme) (fnok_fit (CXq := L2.CX X.prog X.w) hf Fo) hr (by rw [hf.K]; exact hb) .nil (fun σ => passAt tk σ) ha hst hpl ht) fun σ H Q ⟨L, ρ, st, a, q⟩ => by
    obtain ⟨r, st', e0, k0⟩ := id q
    unfold cM at q e0
    split at e0
    · rename_i n0 C' fs hs
      rw [hs] at q
      dsimp only at q
      split at e0
      · rename_i hc
        rw [if_pos hc] at q
        obtain ⟨rfl, hm0⟩ := hc
        obtain ⟨b, dx, vs, q1, q2, q3, q4⟩ := a.ins hs
        refine ⟨_, q1, b, dx, vs, rfl, q3, q4.lookupN hm0, L, ρ, st, a, run_then (RR := RL g A) a q fun L1 H1 ds st1 us e1 a1 rep1 q5 => ?_⟩
        split at q5
        · rename_i hl
          rw [List.append_nil]
          refine callI_run (by simpa using hl) a1 (.cons (s := .l n0) ?_ (RepSL.of rep1)) q5
          refine ⟨Nat.lt_of_lt_of_le (List.getElem?_eq_some_iff.mp q2).1 e1.len, fun b' hb' => ?_⟩
          have z := e1.old n0 b' hb' (List.getElem?_eq_some_iff.mp q2).1
          rw [q2] at z
          cases z
          rfl
        · obtain ⟨_, _, z, _⟩ := q5; cases z
      · cases e0
    · cases e0

/-! ### x = C(..), a changing instance -/
def mkS (j : Nat) (C : Str) (n : Nat) (F : FI) (f : SA) : SS := xS f fun ds ρ st =>
  if ds.length + 1 = n then
    match F (.l st.length :: ds.map .v) (st ++ [.ins C []]) with
    | some (.ok .non, st') => some (.nx (ρ.set j (some (.l st.length))), st')
    | some (.ex x, st') => some (.ex x ρ, st')
    | _ => none
  else none
theorem is_mk (j : Nat) {C xc y : Str} {n k : Nat} {F : FI} {fa : Addr} {fd : FuncData} {ps : List Str} {p pos pos' cpos : Pos} {e : Expr} {es : List Expr} {f : SA} {E : XK} (hf : Fit g X) (tk : Takes X (WF E)) (M : Mk g.K (g.cl C) fa) (Fo : FnOk g.P g.w g.K g.mg g.base (L2.CX g.P g.w) k fa fd ps (spI g n F)) (hr : Room (k + 1) X.A)
    (hg : Gl X xc) (hm : g.mg xc = some (.ref (g.cl C))) (hb : Binds g.K fd ps []) (ha : IA g A (WF E) X (e :: es) f) (hi : X.N[j]? = some y := by rfl) (hx : Loc X.env.scope y := by first | exact .inl rfl | exact .inr rfl) (hs : swapsWith (.Call (.Name xc p) (e :: es) [] cpos) (some (.Name y pos')) pos.line X.env = pure false := by rfl)
    (hfn : X.fn y = true ∨ X.env.scope.names.lookup y = some .local := by first | exact .inl rfl | exact .inr rfl | assumption)
    (hdb : (xc == ("__debug__" : Str)) = false := by decide) (he : starEach (e :: es) X.env = (false, eval e X.env) :: starEach es X.env := by rfl) (hpl : (backTo cpos (starEach es X.env)).any (·.1) = false := by rfl) :
    IS g A (WF E) X (.Assign [.Name y pos'] (.Call (.Name xc p) (e :: es) [] cpos) pos) (mkS j C n F f) :=
  impS (ps_set (i := j) hf.nd hi hx (pe_make (dvs := []) (ds := []) (E := E) (by rw [hf.K]; exact M) (fnok_fit (CXq := L2.CX X.prog X.w) hf Fo) hr hg (by rw [hf.mg]; exact hm) (by rw [hf.K]; exact hb) .nil (passes_call tk fun _ _ _ _ h => h) ha hdb he hpl) hs hfn) fun De σ H ⟨L, ρ, st, a, q⟩ =>
    ⟨L, ρ, st, a, stm_then (RR := RL g A) a q fun L1 H1 ds st1 us e1 a1 rep1 q1 => fun x dx hx hdx hne => by
      split at q1
      · rename_i hl
        have ne : x ≠ dx := fun z => hne z.symm
        have hx' : upd H1 dx (.own x) x = none := by rw [upd_ne ne]; exact hx
        have eE : Ext L1 H1 L1 (upd (upd H1 dx (.own x)) x (.ins (g.cl C) dx [])) := (Ext.lay hdx).trans (Ext.lay hx')
        have rE : Rel g A L1 (upd (upd H1 dx (.own x)) x (.ins (g.cl C) dx [])) st1 := (a1.rel.lay hdx).lay hx'
        have eP : Ext L1 H1 (L1 ++ [some x]) (upd (upd H1 dx (.own x)) x (.ins (g.cl C) dx [])) := eE.push hx
        have hLx : (L1 ++ [some x])[L1.length]? = some (some x) := by simp
        have rP : Rel g A (L1 ++ [some x]) (upd (upd H1 dx (.own x)) x (.ins (g.cl C) dx [])) (st1 ++ [.ins C []]) := a1.rel.push eE rE hx ⟨x, dx, [], hLx, upd_same, .nil⟩ (fun b hb => by
          have h1 : b ≠ x := fun z => a1.rel.alL hb (by rw [z]; exact hx)
          have h2 : b ≠ dx := fun z => a1.rel.alL hb (by rw [z]; exact hdx)
          rw [upd_ne h1, upd_ne h2])
        have eS : (S.l st1.length) = .l L1.length := by rw [a1.rel.len]
        rw [eS] at q1
        rw [List.append_nil]
        have rl : RepSL g A (L1 ++ [some x]) (upd (upd H1 dx (.own x)) x (.ins (g.cl C) dx [])) (.l L1.length :: ds.map .v) (.ref x :: us) := .cons ⟨by rw [List.length_append, List.length_singleton]; omega, fun b hb => by rw [hLx] at hb; cases hb; rfl⟩ (RepSL.of (rep1.kp eP.kp))
        refine ⟨by rw [← rl.length]; simpa using hl, A, L1 ++ [some x], _, st1 ++ [.ins C []], rP, rl, ?_⟩
        obtain ⟨r, st', e2, k2⟩ := q1
        split at e2
        · rename_i st2 h2
          cases e2
          refine ⟨_, _, h2, fun L' H' e' r' => ?_⟩
          have k3 := k2 L' H' (eP.trans e') r'
          intro v rv
          rw [rep_non rv]
          refine ⟨rfl, k3 _ ?_⟩
          refine ((a1.rho.ext eP).ext e').set (s := .l L1.length) ⟨Nat.lt_of_lt_of_le (by rw [List.length_append, List.length_singleton]; omega) e'.len, fun b hb => ?_⟩
          have z := e'.old _ b hb (by rw [List.length_append, List.length_singleton]; omega)
          rw [hLx] at z
          cases z
          rfl
        · rename_i x2 st2 h2
          cases e2
          refine ⟨_, _, h2, fun L' H' e' r' => ?_⟩
          exact fun c dd xr => k2 L' H' (eP.trans e') r' σ c dd ((a1.rho.ext eP).ext e') xr
        · cases e2
      · obtain ⟨_, _, z, _⟩ := q1; cases z⟩

/-! ### lists that grow -/
def stL (ρ : Rho) (st : Sto) (i : Nat) : Option (Nat × List D) :=
  match ρ[i]? with
  | some (some (.l n)) =>
    match st[n]? with
    | some (.lst ds) => some (n, ds)
    | _ => none
  | _ => none
theorem stL_some {ρ : Rho} {st : Sto} {i n : Nat} {ds : List D} (h : stL ρ st i = some (n, ds)) : ρ[i]? = some (some (.l n)) ∧ st[n]? = some (.lst ds) := by
  unfold stL at h
  split at h
  · rename_i m hm
    split at h
    · rename_i hs
      cases h
      exact ⟨hm, hs⟩
    · cases h
  · cases h
theorem At.lst {L : List (Option Addr)} {H : Hp} {ρ : Rho} {σ : L2.St} {st : Sto} {i n : Nat} {ds : List D} (t : At g A L H ρ σ st) (h : stL ρ st i = some (n, ds)) :
    ∃ a vs, σ[i]? = some (some (.ref a)) ∧ L[n]? = some (some a) ∧ H a = some (.lst vs) ∧ RepL g (bad A L) H ds vs := by
  obtain ⟨h1, h2⟩ := stL_some h
  obtain ⟨a, vs, q1, q2, q3⟩ := t.rel.objs n _ h2
  exact ⟨a, vs, t.loc h1 q1, q1, q2, q3⟩
/-- x = [..] that is to grow -/
def nlS (j : Nat) (f : SA) : SS := xS f fun ds ρ st => if ds.length ≤ 10000 then some (.nx (ρ.set j (some (.l st.length))), st ++ [.lst ds]) else none
theorem is_nl (j : Nat) {y : Str} {pos pos' lpos : Pos} {es : List Expr} {f : SA} (hf : Fit g X) (ha : IA g A W X es f) (hi : X.N[j]? = some y := by rfl) (hx : Loc X.env.scope y := by first | exact .inl rfl | exact .inr rfl) (hs : swapsWith (.List es lpos) (some (.Name y pos')) pos.line X.env = pure false := by rfl)
    (hfn : X.fn y = true ∨ X.env.scope.names.lookup y = some .local := by first | exact .inl rfl | exact .inr rfl | assumption) : IS g A W X (.Assign [.Name y pos'] (.List es lpos) pos) (nlS j f) :=
  impS (ps_set (i := j) hf.nd hi hx (pe_lst ha) hs hfn) fun De σ H ⟨L, ρ, st, a, q⟩ => ⟨L, ρ, st, a, stm_then (RR := RL g A) a q fun L1 H1 ds st1 us e1 a1 rep1 q1 => by
    split at q1
    · rename_i hl
      refine ⟨line10 (by rw [← rep1.length]; exact hl), fun p hp => ?_⟩
      have hLx : (L1 ++ [some p])[L1.length]? = some (some p) := by simp
      have eE : Ext L1 H1 L1 (upd H1 p (.lst us)) := Ext.lay hp
      have eP : Ext L1 H1 (L1 ++ [some p]) (upd H1 p (.lst us)) := eE.push hp
      have rP := a1.rel.push (ob := .lst ds) eE (a1.rel.lay hp) hp ⟨p, us, hLx, upd_same, rep1.kp eP.kp⟩ (fun b hb => upd_ne (fun z => a1.rel.alL hb (by rw [z]; exact hp)))
      obtain ⟨r, st', e2, k2⟩ := q1
      cases e2
      refine k2 _ _ eP rP _ ?_
      rw [← a1.rel.len]
      refine (a1.rho.ext eP).set (s := .l L1.length) ⟨by rw [List.length_append, List.length_singleton]; omega, fun b hb => ?_⟩
      rw [hLx] at hb
      cases hb
      rfl
    · obtain ⟨_, _, z, _⟩ := q1; cases z⟩
def apS (i : Nat) (e : SE) : SS := fun ρ st =>
  match stL ρ st i with
  | some _ => xS e (fun d ρ st => match stL ρ st i with
    | some (n, ds) => if ds.length ≤ 1000000 then some (.nx ρ, st.set n (.lst (ds ++ [d]))) else none
    | none => none) ρ st
  | none => none
theorem is_append (i : Nat) {x : Str} {e : Expr} {p apos cpos pos : Pos} {f : SE} (hf : Fit g X) (he : IE g A W X e f) (hN : X.N[i]? = some x := by rfl) (hv : Vis X.env.scope x := by first | exact Or.inl rfl | exact Or.inr (Or.inl rfl) | exact Or.inr (Or.inr rfl)) (hd : (x == ("__debug__" : Str)) = false := by decide) (hcd : (x == ("__classdict__" : Str)) = false := by decide)
    (hbase : attributeBase (.Name x p) "append" X.env (eval (.Name x p) X.env) = eval (.Name x p) X.env := by rfl)
    (hfew : ((backTo cpos (starEach (e :: []) X.env)).all (fun x => !x.1) && (backToKw cpos (keywordEach [] X.env)).all (fun x => x.1.isSome)
      && decide ((e :: []).length + ([] : List Keyword).length + (if ([] : List Keyword).isEmpty then 0 else 1) < 30)) = true := by rfl)
    (hline : (apos.endLine == cpos.line) = true := by rfl) (hs1 : starEach (e :: []) X.env = (false, eval e X.env) :: starEach [] X.env := by rfl) (hplain : (backTo cpos (starEach [] X.env)).any (·.1) = false := by rfl)
    (hs : swapsWith (.Call (.Attribute (.Name x p) "append" apos) [e] [] cpos) none pos.line X.env = pure false := by rfl) :
    IS g A W X (.Expr (.Call (.Attribute (.Name x p) "append" apos) [e] [] cpos) pos) (apS i f) :=
  impS (ps_expr (pe_bm PySem.F.plainAttrs_list PySem.F.slot_list_append PySem.F.type_list_append mt_append (pe_var hN hv hd hcd) (pa_cons he pa_nil hs1) hbase hfew hline hs1 hplain) hs) fun De σ H ⟨L, ρ, st, a, q⟩ => by
    obtain ⟨r, st', e0, k0⟩ := id q
    unfold apS at q e0
    split at e0
    · rename_i nd hs0
      obtain ⟨n, ds⟩ := nd
      rw [hs0] at q
      dsimp only at q
      obtain ⟨b, vs, q1, q2, q3, q4⟩ := a.lst hs0
      refine ⟨_, q1, .inl ⟨rfl, vs, SqL.of q3⟩, L, ρ, st, a, stm_then (RR := RD g A) a q fun L1 H1 d st1 u e1 a1 rep1 q5 => ?_⟩
      obtain ⟨r, st', e6, k6⟩ := id q5
      split at e6
      · rename_i nd2 n2 ds2 hs2
        split at e6
        · rename_i hl
          obtain ⟨b2, vs2, g1, g2, g3, g4⟩ := a1.lst hs2
          rw [q1] at g1
          cases g1
          have ee : Ext L1 H1 L1 (upd H1 b (.lst (vs2 ++ [u]))) := Ext.upd (List.mem_of_getElem? g2)
          refine ⟨b, vs2, u, rfl, rfl, g3, Nat.lt_of_le_of_lt (by rw [← g4.length]; exact hl) (by rw [sizeLine_eq]; decide), ?_⟩
          cases e6
          exact k6 L1 _ ee (a1.rel.set g2 g3 (fun _ z => nomatch z) ⟨b, _, g2, upd_same, (g4.snoc rep1).kp ee.kp⟩) σ (a1.rho.ext ee)
        · cases e6
      · cases e6
    · cases e0
end
end DL

set_option Elab.async false
set_option linter.all false
set_option maxRecDepth 100000
set_option maxHeartbeats 4000000
/-! DL8: list comprehensions, any and all of a generator expression. -/
namespace DL
open PySem PySem.Spec PyProof.Rows L2

def wipeR (ρ : Rho) : List Nat → Rho
  | [] => ρ
  | v :: vs => (wipeR ρ vs).set v none
theorem RhoOk.wipe {g : G} {A : Addr → Prop} {L : List (Option Addr)} {H : Hp} {ρ : Rho} {σ : L2.St} (h : RhoOk g A L H ρ σ) : ∀ vs : List Nat, RhoOk g A L H (wipeR ρ vs) (wipe σ vs)
  | [] => h
  | v :: vs => (h.wipe vs).unset
/-- the items that a comprehension gives -/
def lcL (tg : SG) (ifs : ST) (elt : SE) : List D → Sm (List D)
  | [] => rS []
  | d :: ds => fun ρ st =>
    match tg d ρ with
    | none => none
    | some ρ1 => bS (bS ifs fun b => if b = true then bS elt fun y => rS [y] else rS []) (fun ys _ st => bS (lcL tg ifs elt ds) (fun zs => rS (ys ++ zs)) ρ st) ρ1 st
/-- the list as data -/
def eLc (it : SA) (vs : List Nat) (tg : SG) (ifs : ST) (elt : SE) : SE := bS it fun ds => if ds.length ≤ 10000 then bS (fun ρ st => lcL tg ifs elt ds (wipeR ρ vs) st) (fun ys => rS (.lst ys)) else fun _ _ => none
def tIx (g : G) (W : WX) (f : SE) : TE := fun σ H Q => ∃ A, tI g A W f σ H Q
def tTx (g : G) (W : WX) (f : ST) : TT := fun σ H Q => ∃ A, tT g A W f σ H Q
/-- a comprehension's target: only its own names change -/
def CT (g : G) (gt : TG) (tg : SG) (vs : List Nat) : Prop := ∀ (A : Addr → Prop) (L : List (Option Addr)) (H : Hp) (ρ : Rho) (σ : L2.St) (d : D) (v : V) (ρ1 : Rho) (Q : L2.St → Hp → Prop), RhoOk g A L H (wipeR ρ vs) (wipe σ vs) → Rep g (bad A L) H d v → tg d (wipeR ρ vs) = some ρ1 →
  (∀ σ2, wipe σ2 vs = wipe σ vs → RhoOk g A L H ρ1 σ2 → Q σ2 H) → gt v (wipe σ vs) H Q
theorem ct_name {g : G} (j : Nat) : CT g (gName j) (fun d ρ => some (ρ.set j (some (.v d)))) [j] := fun A L H ρ σ d v ρ1 Q rho rep e k => by
  cases e
  refine k _ ?_ (rho.set (s := .v d) rep)
  show (((σ.set j none).set j (some v)).set j none) = σ.set j none
  simp

section
variable {g : G} {A : Addr → Prop} {W : WX}
/-- the callers' changing objects and the new list -/
def and1 (A : Addr → Prop) (p : Addr) : Addr → Prop := fun a => A a ∨ a = p
theorem kp_and1 {L : List (Option Addr)} {H H' : Hp} {p : Addr} (hp : H p = none) (k : ∀ a o, H a = some o → H' a = some o) : Kp (bad A L) H (bad (and1 A p) L) H' where
  keep := fun a o h _ _ => k a o h
  ok := fun a o h nb _ z => by
    rcases z with (z | z) | z
    · exact nb (.inl z)
    · rw [z, hp] at h; cases h
    · exact nb (.inr z)
theorem kp_and1' {L : List (Option Addr)} {H : Hp} {p : Addr} : Kp (bad (and1 A p) L) H (bad A L) H where
  keep := fun a o h _ _ => h
  ok := fun a o h nb _ z => by
    rcases z with z | z
    · exact nb (.inl (.inl z))
    · exact nb (.inr z)
theorem RepS.kpB {A' : Addr → Prop} {L : List (Option Addr)} {H H' : Hp} (k : Kp (bad A L) H (bad A' L) H') : ∀ {s : S} {v : V}, RepS g A L H s v → RepS g A' L H' s v
  | .v _, _, h => Rep.kp k h
  | .l _, _, h => h
theorem FRep.kpB {A' : Addr → Prop} {L : List (Option Addr)} {H H' : Hp} (k : Kp (bad A L) H (bad A' L) H') : ∀ {fs : List (Str × S)} {vs : List (Str × V)}, FRep g A L H fs vs → FRep g A' L H' fs vs
  | _, _, .nil => .nil
  | _, _, .cons h t => .cons (h.kpB k) (t.kpB k)
theorem RhoOk.kpB {A' : Addr → Prop} {L : List (Option Addr)} {H H' : Hp} {ρ : Rho} {σ : L2.St} (k : Kp (bad A L) H (bad A' L) H') (h : RhoOk g A L H ρ σ) : RhoOk g A' L H' ρ σ :=
  ⟨h.1, fun i s q => let ⟨v, a, b⟩ := h.2 i s q; ⟨v, a, b.kpB k⟩⟩
theorem ORep.kpB {A' : Addr → Prop} {L : List (Option Addr)} {H H' : Hp} {n : Nat} (k : Kp (bad A L) H (bad A' L) H') (hs : ∀ a, some a ∈ L → H' a = H a) : ∀ {o : O}, ORep g A L H n o → ORep g A' L H' n o
  | .lst ds, h => let ⟨a, vs, h1, h2, r⟩ := h; ⟨a, vs, h1, by rw [hs a (List.mem_of_getElem? h1)]; exact h2, r.kp k⟩
  | .ins C fs, h => let ⟨a, dx, vs, h1, h2, r⟩ := h; ⟨a, dx, vs, h1, by rw [hs a (List.mem_of_getElem? h1)]; exact h2, r.kpB k⟩
  | .dead, h => h
/-- the new list is laid and kept apart -/
theorem Rel.apart {L : List (Option Addr)} {H : Hp} {st : Sto} {p : Addr} {o : HO} (R : Rel g A L H st) (hp : H p = none) : Rel g (and1 A p) L (upd H p o) st where
  alA := fun a z => by
    rcases z with z | z
    · exact (Ext.lay (L := L) hp).live a (R.alA a z)
    · rw [z, upd_same]; simp
  dis := fun a ha z => by
    rcases z with z | z
    · exact R.dis a ha z
    · rw [z] at ha; exact R.alL ha hp
  len := R.len
  nd := R.nd
  objs := fun n u q => (R.objs n u q).kpB (kp_and1 hp fun a o h => by rw [upd_ne (ne_of_none h hp)]; exact h) fun a z => upd_ne fun e => R.alL z (by rw [e]; exact hp)
  tab := (R.lay hp).tab
theorem Rel.back {L : List (Option Addr)} {H : Hp} {st : Sto} {p : Addr} (R : Rel g (and1 A p) L H st) : Rel g A L H st where
  alA := fun a z => R.alA a (.inl z)
  dis := fun a ha z => R.dis a ha (.inl z)
  len := R.len
  nd := R.nd
  objs := fun n u q => (R.objs n u q).kpB kp_and1' fun a z => rfl
  tab := R.tab
/-- the new list grows -/
theorem Rel.grow {L : List (Option Addr)} {H : Hp} {st : Sto} {p : Addr} {u o : HO} (R : Rel g (and1 A p) L H st) (hL : some p ∉ L) (hu : H p = some u) (ht : ∀ ps, u ≠ .tbl ps) : Kp (bad (and1 A p) L) H (bad (and1 A p) L) (upd H p o) ∧ Rel g (and1 A p) L (upd H p o) st := by
  have k : Kp (bad (and1 A p) L) H (bad (and1 A p) L) (upd H p o) := ⟨fun a v h nb _ => by rw [upd_ne (fun z => nb (.inl (.inr z)))]; exact h, fun _ _ _ nb _ => nb⟩
  refine ⟨k, ⟨fun a z => ?_, R.dis, R.len, R.nd, fun n v q => (R.objs n v q).kpB k fun a z => upd_ne fun e => hL (by rw [← e]; exact z), fun q hq => ?_⟩⟩
  · by_cases e : a = p
    · rw [e, upd_same]; simp
    · rw [upd_ne e]; exact R.alA a z
  · obtain ⟨ps, h1, h2⟩ := R.tab q hq
    refine ⟨ps, ?_, h2⟩
    rw [upd_ne]
    · exact h1
    · rintro rfl
      rw [hu] at h1
      cases h1
      exact ht ps rfl
theorem XRep.kp {B B' : Addr → Prop} {H H' : Hp} (k : Kp B H B' H') {x : Xn} {c : Value} {dd : Option Addr} (h : XRep g B H x c dd) : XRep g B' H' x c dd := by
  obtain ⟨h1, h2, vs, h3, h4⟩ := h
  exact ⟨h1, h2, vs, h3.kp k, fun z => let ⟨dx, a1, a2, a3⟩ := h4 z; ⟨dx, a1, k.keep _ _ a2 a3 (fun _ z => nomatch z), k.ok _ _ a2 a3 (fun _ z => nomatch z)⟩⟩

/-- what the rest of a comprehension owes -/
def LcFin (g : G) (A : Addr → Prop) (W : WX) (σ : L2.St) (L1 : List (Option Addr)) (H1 : Hp) (Q : VK) (acc : List D) (o : Option (Res (List D) × Sto)) : Prop :=
  match o with
  | some (.ok zs, st') => ∀ L' H', Ext L1 H1 L' H' → Rel g A L' H' st' → ∀ v, Rep g (bad A L') H' (.lst (acc ++ zs)) v → Q v H'
  | some (.ex x, st') => ∀ L' H', Ext L1 H1 L' H' → Rel g A L' H' st' → ∀ c dd, XRep g (bad A L') H' x c dd → W c dd σ H'
  | none => False
structure LcSt (g : G) (A : Addr → Prop) (L1 : List (Option Addr)) (H1 : Hp) (p : Addr) (ρ0 : Rho) (σ0 : L2.St) (L : List (Option Addr)) (H : Hp) (st : Sto) (acc : List D) : Prop where
  ext : Ext L1 H1 L H
  rel : Rel g (and1 A p) L H st
  rho : RhoOk g (and1 A p) L H ρ0 σ0
  nl : some p ∉ L
  here : ∃ vs, H p = some (.lst vs) ∧ RepL g (bad (and1 A p) L) H acc vs
theorem LcSt.kp {L1 L : List (Option Addr)} {H1 H : Hp} {p : Addr} {ρ0 : Rho} {σ0 : L2.St} {st : Sto} {acc : List D} (s : LcSt g A L1 H1 p ρ0 σ0 L H st acc) (hp : H1 p = none) : Kp (bad A L1) H1 (bad (and1 A p) L) H where
  keep := s.ext.kp (A := A).keep
  ok := fun a o h nb ht z => by
    rcases z with (z | z) | z
    · exact nb (.inl z)
    · rw [z, hp] at h; cases h
    · exact (s.ext.kp (A := A)).ok a o h nb ht (.inr z)
/-- the state goes on, the list as it was -/
theorem LcSt.go {L1 L L' : List (Option Addr)} {H1 H H' : Hp} {p : Addr} {ρ0 : Rho} {σ0 : L2.St} {st st' : Sto} {acc : List D} (s : LcSt g A L1 H1 p ρ0 σ0 L H st acc) (e : Ext L H L' H') (r : Rel g (and1 A p) L' H' st') : LcSt g A L1 H1 p ρ0 σ0 L' H' st' acc where
  ext := s.ext.trans e
  rel := r
  rho := s.rho.ext e
  nl := fun z => by
    obtain ⟨vs, h, _⟩ := s.here
    rcases e.mem z with q | q
    · exact s.nl q
    · rw [h] at q; cases q
  here := let ⟨vs, h, q⟩ := s.here; ⟨vs, e.keep p _ h s.nl (fun _ z => nomatch z), q.kp e.kp⟩
theorem LcSt.grow {L1 L : List (Option Addr)} {H1 H : Hp} {p : Addr} {ρ0 : Rho} {σ0 : L2.St} {st : Sto} {acc : List D} {d : D} {v : V} {vs : List V} (hp : H1 p = none) (s : LcSt g A L1 H1 p ρ0 σ0 L H st acc) (hv : H p = some (.lst vs)) (r : Rep g (bad (and1 A p) L) H d v) : LcSt g A L1 H1 p ρ0 σ0 L (upd H p (.lst (vs ++ [v]))) st (acc ++ [d]) := by
  obtain ⟨vs', h, q⟩ := s.here
  rw [hv] at h
  cases h
  obtain ⟨k, R⟩ := s.rel.grow (o := .lst (vs ++ [v])) s.nl hv (fun _ z => nomatch z)
  refine ⟨⟨fun a o h nl ht => ?_, fun a h => ?_, s.ext.len, s.ext.old, s.ext.new⟩, R, s.rho.kpB k, s.nl, vs ++ [v], upd_same, (q.snoc r).kp k⟩
  · rw [upd_ne (ne_of_none h hp)]
    exact s.ext.keep a o h nl ht
  · by_cases e : a = p
    · rw [e, upd_same]; simp
    · rw [upd_ne e]; exact s.ext.live a h
theorem lc_read {it : SA} {gt : TG} {tg : SG} {ifs : ST} {elt : SE} {vs : List Nat} (ct : CT g gt tg vs) {σ : L2.St} {H : Hp} {Q : VK} (q : tI g A W (eLc it vs tg ifs elt) σ H Q) :
    tLc (tIt g A W it) gt (tTx g (LX.WAt W σ) ifs) (tIx g (LX.WAt W σ) elt) vs σ H Q := by
  obtain ⟨L, ρ, st, a, q⟩ := q
  refine ⟨L, ρ, st, a, run_then (RR := RI g A) a q fun L1 H1 ds st1 J e1 a1 jok q1 => fun p hp => ?_⟩
  split at q1
  case isFalse => obtain ⟨_, _, z, _⟩ := q1; cases z
  rename_i hlen
  have fin0 : LcFin g A W σ L1 H1 Q [] (lcL tg ifs elt ds (wipeR ρ vs) st1) := by
    obtain ⟨r, st', e, k⟩ := q1
    unfold bS at e
    unfold LcFin
    split at e
    · rename_i zs st2 h2
      have h2 : lcL tg ifs elt ds (wipeR ρ vs) st1 = some (.ok zs, st2) := h2
      cases e
      rw [h2]
      exact fun L' H' e' r' v rv => k L' H' e' r' v rv
    · rename_i x st2 h2
      have h2 : lcL tg ifs elt ds (wipeR ρ vs) st1 = some (.ex x, st2) := h2
      cases e
      rw [h2]
      exact k
    · cases e
  have s0 : LcSt g A L1 H1 p (wipeR ρ vs) (wipe σ vs) L1 (upd H1 p (.lst [])) st1 [] := ⟨Ext.lay hp, a1.rel.apart hp, (a1.rho.wipe vs).kpB (kp_and1 hp fun a o h => by rw [upd_ne (ne_of_none h hp)]; exact h), fun z => a1.rel.alL z hp, [], upd_same, .nil⟩
  refine ⟨fun i m H => i ≤ ds.length ∧ m = ds.length - i ∧ ∃ L st acc, acc.length ≤ i ∧ LcSt g A L1 H1 p (wipeR ρ vs) (wipe σ vs) L H st acc ∧ LcFin g A W σ L1 H1 Q acc (lcL tg ifs elt (ds.drop i) (wipeR ρ vs) st), ⟨ds.length, Nat.zero_le _, rfl, L1, st1, [], Nat.le_refl _, s0, by rw [List.drop_zero]; exact fin0⟩, ?_⟩
  rintro i m H2 ⟨hi, rfl, L2, st2, acc, hacc, s, fin⟩
  by_cases hlt : i < ds.length
  · obtain ⟨hgo, hy⟩ := jok.go (and1 A p) L2 H2 st2 (s.kp hp) s.rel i ds[i] (List.getElem?_eq_getElem hlt)
    refine .inr ⟨hgo, fun H' => i + 1 ≤ ds.length ∧ ∃ L st acc, acc.length ≤ i + 1 ∧ LcSt g A L1 H1 p (wipeR ρ vs) (wipe σ vs) L H' st acc ∧ LcFin g A W σ L1 H1 Q acc (lcL tg ifs elt (ds.drop (i + 1)) (wipeR ρ vs) st), fun H' ⟨h1, h2⟩ => ⟨ds.length - (i + 1), by omega, h1, rfl, h2⟩, fun x H3 y => ?_⟩
    obtain ⟨e3, r3, rep3⟩ := hy x H3 y
    have s3 := s.go e3 r3
    rw [List.drop_eq_getElem_cons hlt] at fin
    unfold lcL at fin
    cases ht : tg ds[i] (wipeR ρ vs) with
    | none => rw [ht] at fin; exact fin.elim
    | some ρ1 =>
      rw [ht] at fin
      dsimp only at fin
      refine ct (and1 A p) L2 H3 ρ σ ds[i] x ρ1 _ s3.rho rep3 ht fun σ2 hw rho2 => ⟨hw, and1 A p, L2, ρ1, st2, ⟨rho2, r3⟩, ?_⟩
      -- what leaves it
      have esc : ∀ {x : Xn} {st' : Sto}, LcFin g A W σ L1 H1 Q acc (some (.ex x, st')) → ∀ {L H}, Ext L2 H3 L H → ∀ L' H', Ext L H L' H' → Rel g (and1 A p) L' H' st' → ∀ c dd, XRep g (bad (and1 A p) L') H' x c dd → LX.WAt W σ c dd σ2 H' := fun {x st'} f {L H} e0 L' H' e' r' c dd xr =>
        f L' H' ((s3.ext.trans e0).trans e') r'.back c dd (xr.kp kp_and1')
      cases hif : ifs ρ1 st2 with
      | none =>
        simp only [bS, hif] at fin
        exact fin.elim
      | some rr =>
        obtain ⟨ri, st4⟩ := rr
        cases ri with
        | ex x =>
          simp only [bS, hif] at fin
          exact ⟨_, _, rfl, esc fin Ext.refl⟩
        | ok b =>
          refine ⟨_, _, rfl, fun L4 H4 e4 r4 v hv => ?_⟩
          have hv : b = v := hv
          subst hv
          have s4 := s3.go e4 r4
          cases b with
          | false =>
            dsimp only
            rw [if_neg Bool.false_ne_true]
            refine ⟨hlt, L4, st4, acc, by omega, s4, ?_⟩
            simp only [bS, hif, rS, if_neg Bool.false_ne_true] at fin
            revert fin
            cases lcL tg ifs elt (ds.drop (i + 1)) (wipeR ρ vs) st4 with
            | none => exact fun f => f
            | some o => obtain ⟨o, st5⟩ := o; cases o <;> exact fun f => f
          | true =>
            dsimp only
            rw [if_pos rfl]
            simp only [bS, hif, rS, if_pos] at fin
            refine ⟨and1 A p, L4, ρ1, st4, ⟨rho2.ext e4, r4⟩, ?_⟩
            cases hel : elt ρ1 st4 with
            | none =>
              rw [hel] at fin
              exact fin.elim
            | some rr =>
              obtain ⟨re, st5⟩ := rr
              rw [hel] at fin
              cases re with
              | ex x => exact ⟨_, _, rfl, esc fin e4⟩
              | ok d =>
                refine ⟨_, _, rfl, fun L5 H5 e5 r5 y rv => ?_⟩
                have s5 := s4.go e5 r5
                obtain ⟨ws, h5, q5⟩ := s5.here
                refine ⟨ws, h5, Nat.lt_of_le_of_lt (by rw [← q5.length]; omega : ws.length ≤ 10000) (by rw [sizeLine_eq]; decide), hlt, L5, st5, acc ++ [d], by rw [List.length_append, List.length_singleton]; omega, s5.grow hp h5 rv, ?_⟩
                dsimp only at fin
                revert fin
                cases lcL tg ifs elt (ds.drop (i + 1)) (wipeR ρ vs) st5 with
                | none => exact fun f => f
                | some o =>
                  obtain ⟨o, st6⟩ := o
                  cases o with
                  | ex x => exact fun f => f
                  | ok zs => exact fun f L' H' e' r' v rv => f L' H' e' r' v (by rw [List.append_assoc] at rv; exact rv)
  · have e : i = ds.length := by omega
    subst e
    refine .inl ⟨jok.stop (and1 A p) L2 H2 st2 (s.kp hp) s.rel, ?_⟩
    rw [List.drop_length] at fin
    obtain ⟨ws, h5, q5⟩ := s.here
    refine fin L2 H2 s.ext s.rel.back _ ?_
    rw [List.append_nil]
    refine .lst h5 (fun z => ?_) (q5.kp kp_and1')
    rcases z with z | z
    · exact a1.rel.alA p z hp
    · exact s.nl z

variable {X : Cx}
theorem fit_blk {s : Shared} {H : Hp} {scope : Scope} {cenv : Env} {fp : List Addr} {xe : Value → Shared → Prop} (hf : Fit g X) : Fit g (LX.blkX X s H scope cenv fp xe) := ⟨hf.K, hf.prog, hf.w, hf.mg, hf.base, hf.calm, hf.nd⟩
theorem pe_all {Y : Cx} {e : Expr} {f : SE} (h : ∀ A, IE g A W Y e f) : PE Y e (tIx g W f) := ⟨fun pins s σ H Q I ⟨A, q⟩ => (h A).run pins s σ H Q I q⟩
def tsNil : ST := rS true
/-- a clause's tests -/
def ITs (g : G) (W : WX) (Y : Cx) (es : List Expr) (f : ST) : Prop := PTs Y es (tTx g W f)
theorem its_nil {Y : Cx} : ITs g W Y [] tsNil := ⟨fun pins s σ H Q I ⟨A, L, ρ, st, a, q⟩ => pts_nil.run pins s σ H Q I (q.val L H Ext.refl a.rel true rfl)⟩
theorem its_one {Y : Cx} {e : Expr} {f : ST} (h : ∀ A, IT g A W Y e f) : ITs g W Y [e] f := ⟨fun pins s σ H Q I ⟨A, q⟩ => (pts_one (h A)).run pins s σ H Q I q⟩
theorem ie_lc {elt tg iter : Expr} {ifs : List Expr} {scope : Scope} {own : List (Str × Nat)} {pos : Pos} {it : SA} {gt : TG} {tgS : SG} {k : ST} {f : SE} (hf : Fit g X) (tk : Takes X W) (hst : X.stack = X.env :: X.outer) (hfr : X.env.frame = some X.env.locals) (hi : II g A W X tg iter it) (ok : BlkOk X.N X.env.scope scope own) (ct : CT g gt tgS (own.map (·.2)))
    (hg : ∀ (s : Shared) (H : Hp) (C : Addr) (cl : List (Str × Addr)) (fp : List Addr) (xe : Value → Shared → Prop), PG (LX.blkX X s H scope (compEnvC scope cl C X.env) fp xe) tg gt)
    (ht : ∀ (s : Shared) (H : Hp) (C : Addr) (cl : List (Str × Addr)) (fp : List Addr) (xe : Value → Shared → Prop) (W' : WX), Takes (LX.blkX X s H scope (compEnvC scope cl C X.env) fp xe) W' → ITs g W' (LX.blkX X s H scope (compEnvC scope cl C X.env) fp xe) ifs k)
    (he : ∀ (s : Shared) (H : Hp) (C : Addr) (cl : List (Str × Addr)) (fp : List Addr) (xe : Value → Shared → Prop) (W' : WX) (A' : Addr → Prop), Takes (LX.blkX X s H scope (compEnvC scope cl C X.env) fp xe) W' → IE g A' W' (LX.blkX X s H scope (compEnvC scope cl C X.env) fp xe) elt f)
    (hs : ∀ x, foldedSetIterable iter X.env x = pure x := by intro _; rfl) : IE g A W X (.ListComp elt [⟨tg, iter, ifs, 0⟩] scope pos) (eLc it (own.map (·.2)) tgS k f) :=
  imp (LX.pe_lcX (W := W) (tt := fun W' => tTx g W' k) (te := fun W' => tIx g W' f) hst hfr tk hf.calm hf.nd hi ok hg ht (fun s H C cl fp xe W' t => pe_all fun A' => he s H C cl fp xe W' A' t) hs) fun σ H Q q => lc_read ct q
theorem is_setLc (i : Nat) {y : Str} {py : Pos} {elt tg iter : Expr} {ifs : List Expr} {scope : Scope} {own : List (Str × Nat)} {pos spos : Pos} {it : SA} {gt : TG} {tgS : SG} {k : ST} {f : SE} (hf : Fit g X) (tk : Takes X W) (hst : X.stack = X.env :: X.outer) (hfr : X.env.frame = some X.env.locals) (hi : II g A W X tg iter it) (ok : BlkOk X.N X.env.scope scope own) (ct : CT g gt tgS (own.map (·.2)))
    (hg : ∀ (s : Shared) (H : Hp) (C : Addr) (cl : List (Str × Addr)) (fp : List Addr) (xe : Value → Shared → Prop), PG (LX.blkX X s H scope (compEnvC scope cl C X.env) fp xe) tg gt)
    (ht : ∀ (s : Shared) (H : Hp) (C : Addr) (cl : List (Str × Addr)) (fp : List Addr) (xe : Value → Shared → Prop) (W' : WX), Takes (LX.blkX X s H scope (compEnvC scope cl C X.env) fp xe) W' → ITs g W' (LX.blkX X s H scope (compEnvC scope cl C X.env) fp xe) ifs k)
    (he : ∀ (s : Shared) (H : Hp) (C : Addr) (cl : List (Str × Addr)) (fp : List Addr) (xe : Value → Shared → Prop) (W' : WX) (A' : Addr → Prop), Takes (LX.blkX X s H scope (compEnvC scope cl C X.env) fp xe) W' → IE g A' W' (LX.blkX X s H scope (compEnvC scope cl C X.env) fp xe) elt f)
    (hy : X.N[i]? = some y := by rfl) (hyl : X.env.scope.names.lookup y = some .local := by rfl) (hsw : swapsWith (.ListComp elt [⟨tg, iter, ifs, 0⟩] scope pos) (some (.Name y py)) spos.line X.env = pure true := by exact sw_true rfl rfl rfl rfl)
    (hs : ∀ x, foldedSetIterable iter X.env x = pure x := by intro _; rfl) : IS g A W X (.Assign [.Name y py] (.ListComp elt [⟨tg, iter, ifs, 0⟩] scope pos) spos) (aS i (eLc it (own.map (·.2)) tgS k f)) :=
  impS (LX.ps_setLcX (W := W) (i := i) (tt := fun W' => tTx g W' k) (te := fun W' => tIx g W' f) hst hfr tk hf.calm hf.nd hy hyl hsw hi ok hg ht (fun s H C cl fp xe W' t => pe_all fun A' => he s H C cl fp xe W' A' t) hs) fun De σ H q => by
    obtain ⟨L, ρ, st, a, q⟩ := q
    refine lc_read (A := A) (W := W) (it := it) (tg := tgS) (ifs := k) (elt := f) (Q := fun x H1 => gName i x σ H1 De.nx) ct ⟨L, ρ, st, a, stm_then (RR := RD g A) a q fun L1 H1 d st1 v e1 a1 rep1 q1 => q1.nx_ ⟨a1.rho.set (s := .v d) rep1, a1.rel⟩⟩

/-! ### any, all -/
def gaL (c : Bool) (tg : SG) (elt : SE) : List D → Sm Bool
  | [] => rS c
  | d :: ds => fun ρ st =>
    match tg d ρ with
    | none => none
    | some ρ1 =>
      match elt ρ1 st with
      | some (.ok (.bl b), st2) => if b = c then gaL c tg elt ds ρ st2 else some (.ok b, st2)
      | _ => none
def eGa (c : Bool) (it : SA) (vs : List Nat) (tg : SG) (elt : SE) : SE := bS it fun ds => bS (fun ρ st => gaL c tg elt ds (wipeR ρ vs) st) fun b => rS (.bl b)
abbrev WNo : WX := fun _ _ _ _ => False
def GaFin (g : G) (A : Addr → Prop) (L1 : List (Option Addr)) (H1 : Hp) (Q : VK) (o : Option (Res Bool × Sto)) : Prop :=
  match o with
  | some (.ok b, st') => ∀ L' H', Ext L1 H1 L' H' → Rel g A L' H' st' → Q (.bl b) H'
  | _ => False
theorem ga_no {c : Bool} {tg : SG} {elt : SE} {ρ : Rho} : ∀ {ds : List D} {st : Sto} {x : Xn} {st' : Sto}, gaL c tg elt ds ρ st = some (.ex x, st') → False
  | [], st, x, st', h => by cases h
  | d :: ds, st, x, st', h => by
    unfold gaL at h
    split at h
    · cases h
    · split at h
      · split at h
        · exact ga_no h
        · cases h
      · cases h
theorem ga_read {c : Bool} {it : SA} {gt : TG} {tg : SG} {elt : SE} {vs : List Nat} {P : Addr} (ct : CT g gt tg vs) (hP : P ∈ g.tabs) {σ : L2.St} {H : Hp} {Q : VK} (q : tI g A W (eGa c it vs tg elt) σ H Q) :
    GX.tGen P (tIt g A W it) gt (tIx g WNo elt) vs c σ H Q := by
  obtain ⟨L, ρ, st, a, q⟩ := q
  refine ⟨L, ρ, st, a, run_then (RR := RI g A) a q fun L1 H1 ds st1 J e1 a1 jok q1 => ⟨a1.rel.tab P hP, fun H2 tb => ?_⟩⟩
  have fin0 : GaFin g A L1 H1 Q (gaL c tg elt ds (wipeR ρ vs) st1) := by
    obtain ⟨r, st', e, k⟩ := q1
    unfold bS at e
    unfold GaFin
    split at e
    · rename_i b st2 h2
      have h2 : gaL c tg elt ds (wipeR ρ vs) st1 = some (.ok b, st2) := h2
      cases e
      rw [h2]
      exact fun L' H' e' r' => k L' H' e' r' _ (.bl b)
    · rename_i x st2 h2
      exact (ga_no h2).elim
    · cases e
  have eT := Ext.tbl (L := L1) (a1.rel.tab P hP) tb
  have rT := a1.rel.tbl hP tb
  refine ⟨fun i m H => i ≤ ds.length ∧ m = ds.length - i ∧ ∃ L st, Ext L1 H1 L H ∧ Rel g A L H st ∧ RhoOk g A L H (wipeR ρ vs) (wipe σ vs) ∧ GaFin g A L1 H1 Q (gaL c tg elt (ds.drop i) (wipeR ρ vs) st), ⟨ds.length, Nat.zero_le _, rfl, L1, st1, eT, rT, (a1.rho.wipe vs).ext eT, by rw [List.drop_zero]; exact fin0⟩, ?_⟩
  rintro i m H3 ⟨hi, rfl, L3, st3, e3, r3, rho3, fin⟩
  by_cases hlt : i < ds.length
  · obtain ⟨hgo, hy⟩ := jok.go A L3 H3 st3 e3.kp r3 i ds[i] (List.getElem?_eq_getElem hlt)
    refine .inr ⟨hgo, fun x H4 y => ?_⟩
    obtain ⟨e4, r4, rep4⟩ := hy x H4 y
    rw [List.drop_eq_getElem_cons hlt] at fin
    unfold gaL at fin
    cases ht : tg ds[i] (wipeR ρ vs) with
    | none => rw [ht] at fin; exact fin.elim
    | some ρ1 =>
      rw [ht] at fin
      dsimp only at fin
      refine ct A L3 H4 ρ σ ds[i] x ρ1 _ (rho3.ext e4) rep4 ht fun σ2 hw rho2 => ⟨hw, A, L3, ρ1, st3, ⟨rho2, r4⟩, ?_⟩
      cases hel : elt ρ1 st3 with
      | none => rw [hel] at fin; exact fin.elim
      | some rr =>
        obtain ⟨re, st5⟩ := rr
        rw [hel] at fin
        cases re with
        | ex x => exact fin.elim
        | ok d =>
          refine ⟨_, _, rfl, fun L5 H5 e5 r5 v rv => ?_⟩
          cases d with
          | bl b =>
            dsimp only at fin
            refine ⟨b, rep_bl rv, fun hb => ?_, fun hb => ?_⟩
            · rw [if_pos hb] at fin
              exact ⟨ds.length - (i + 1), by omega, hlt, rfl, L5, st5, (e3.trans e4).trans e5, r5, (rho3.ext e4).ext e5, fin⟩
            · rw [if_neg hb] at fin
              have eb : b = !c := by cases b <;> cases c <;> simp_all
              rw [← eb]
              exact fin L5 H5 ((e3.trans e4).trans e5) r5
          | _ => exact fin.elim
  · have e : i = ds.length := by omega
    subst e
    rw [List.drop_length] at fin
    exact .inl ⟨jok.stop A L3 H3 st3 e3.kp r3, fin L3 H3 e3 r3⟩
theorem fit_gen {B : Around} {s : Shared} {H : Hp} {cenv : Env} {fp : List Addr} (hf : Fit g X) : Fit g (GX.cxG X B s H cenv fp) := ⟨hf.K, hf.prog, hf.w, hf.mg, hf.base, rfl, hf.nd⟩
theorem ie_allG {k : Nat} {cc P : Addr} {elt tg iter : Expr} {scope : Scope} {own : List (Str × Nat)} {p gpos pos : Pos} {it : SA} {gt : TG} {tgS : SG} {f : SE} (hf : Fit g X) (hr : Room (k + 1) X.A) (hgl : Gl X "all") (hm : g.mg "all" = none) (TB : LamX.TabB g.base g.mg cc P) (hP : P ∈ g.tabs) (hcode : X.env.code = .ref cc) (hi : II g A W X tg iter it) (ok : GX.GenOk X.N X.env.scope scope own) (ct : CT g gt tgS (own.map (·.2)))
    (hg : ∀ (B : Around) (s : Shared) (H : Hp) (C : Addr) (code : Value) (fp : List Addr), Room k B → PG (GX.cxG X B s H (genEnv scope (cloFrom X.env.cells scope.names []) C code builtinsNs X.env) fp) tg gt)
    (he : ∀ (B : Around) (s : Shared) (H : Hp) (C : Addr) (code : Value) (fp : List Addr) (A' : Addr → Prop), Room k B → IE g A' WNo (GX.cxG X B s H (genEnv scope (cloFrom X.env.cells scope.names []) C code builtinsNs X.env) fp) elt f)
    (hs : ∀ v, genFold iter X.env v = pure v := by intro _; rfl)
    (hst : starEach [.GeneratorExp elt [⟨tg, iter, [], 0⟩] scope gpos] X.env = (false, eval (.GeneratorExp elt [⟨tg, iter, [], 0⟩] scope gpos) X.env) :: starEach [] X.env := by rfl) :
    IE g A W X (.Call (.Name "all" p) [.GeneratorExp elt [⟨tg, iter, [], 0⟩] scope gpos] [] pos) (eGa true it (own.map (·.2)) tgS f) :=
  imp (GX.pe_allG (P := P) hr hgl (by rw [hf.mg]; exact hm) (by decide +kernel) (by rw [hf.base, hf.mg]; exact TB) hcode hf.nd ok hi hg (fun B s H C code fp r => pe_all fun A' => he B s H C code fp A' r) hs hst) fun σ H Q q => ga_read ct hP q
theorem ie_anyG {k : Nat} {cc P : Addr} {elt tg iter : Expr} {scope : Scope} {own : List (Str × Nat)} {p gpos pos : Pos} {it : SA} {gt : TG} {tgS : SG} {f : SE} (hf : Fit g X) (hr : Room (k + 1) X.A) (hgl : Gl X "any") (hm : g.mg "any" = none) (TB : LamX.TabB g.base g.mg cc P) (hP : P ∈ g.tabs) (hcode : X.env.code = .ref cc) (hi : II g A W X tg iter it) (ok : GX.GenOk X.N X.env.scope scope own) (ct : CT g gt tgS (own.map (·.2)))
    (hg : ∀ (B : Around) (s : Shared) (H : Hp) (C : Addr) (code : Value) (fp : List Addr), Room k B → PG (GX.cxG X B s H (genEnv scope (cloFrom X.env.cells scope.names []) C code builtinsNs X.env) fp) tg gt)
    (he : ∀ (B : Around) (s : Shared) (H : Hp) (C : Addr) (code : Value) (fp : List Addr) (A' : Addr → Prop), Room k B → IE g A' WNo (GX.cxG X B s H (genEnv scope (cloFrom X.env.cells scope.names []) C code builtinsNs X.env) fp) elt f)
    (hs : ∀ v, genFold iter X.env v = pure v := by intro _; rfl)
    (hst : starEach [.GeneratorExp elt [⟨tg, iter, [], 0⟩] scope gpos] X.env = (false, eval (.GeneratorExp elt [⟨tg, iter, [], 0⟩] scope gpos) X.env) :: starEach [] X.env := by rfl) :
    IE g A W X (.Call (.Name "any" p) [.GeneratorExp elt [⟨tg, iter, [], 0⟩] scope gpos] [] pos) (eGa false it (own.map (·.2)) tgS f) :=
  imp (GX.pe_anyG (P := P) hr hgl (by rw [hf.mg]; exact hm) (by decide +kernel) (by rw [hf.base, hf.mg]; exact TB) hcode hf.nd ok hi hg (fun B s H C code fp r => pe_all fun A' => he B s H C code fp A' r) hs hst) fun σ H Q q => ga_read ct hP q
end
end DL

set_option Elab.async false
set_option linter.all false
set_option maxRecDepth 100000
set_option maxHeartbeats 4000000
/-! DL9: raise, try; sum, all, max with a default, isinstance. -/
namespace DL
open PySem PySem.Spec PyProof.Rows L2
section
variable {g : G} {A : Addr → Prop} {W : WX} {X : Cx}
/-! ### raise -/
abbrev RX (g : G) (A : Addr → Prop) : List (Option Addr) → Hp → Xn → (Value × Option Addr) → Prop := fun L H x p => XRep g (bad A L) H x p.1 p.2
def tM (g : G) (A : Addr → Prop) (W : WX) (f : Sm Xn) : L2.St → Hp → XK → Prop := fun σ H Q => ∃ L ρ st, At g A L H ρ σ st ∧ Run g A W (RX g A) L H σ (f ρ st) (fun p H' => Q p.1 p.2 H')
def IM (g : G) (A : Addr → Prop) (W : WX) (X : Cx) (e : Expr) (f : Sm Xn) : Prop := PMk X e (tM g A W f)
theorem im_pass {C x : Str} {m : Str} {j : Nat} {p p2 pos : Pos} (hf : Fit g X) (q : PySem.W.excIn g.K (g.cl C) [.type "ValueError", .type "Exception", .type "BaseException", .type "object"] "ValueError.__new__" = true) (gC : g.mg x = some (.ref (g.cl C))) (kC : PySem.W.keepIn g.K (.ref (g.cl C)) = true) (h1 : PySem.W.subIn g.K (.ref (g.cl C)) (.type "BaseException") = some true) (h2 : PySem.W.typeIn g.K (.ref (g.cl C)) = some (.type "type")) (hg : Gl X x)
    (hdb : (x == ("__debug__" : Str)) = false := by decide) : IM g A W X (.Call (.Name x p) [.Constant (.str m) j p2] [] pos) (rS ⟨C, [], []⟩) := by
  intro pins s σ H Q I ⟨L, ρ, st, a, r⟩
  exact pmk_own F.excBase_ValueError (by rw [hf.K]; exact q) (by rw [hf.mg]; exact gC) (by rw [hf.K]; exact kC) (raises_own (by rw [hf.K]; exact h1) (by rw [hf.K]; exact h2)) hg hdb pins s σ H Q I (r.val L H Ext.refl a.rel (.ref (g.cl C), none) ⟨rfl, rfl, [], .nil, fun z => absurd rfl z⟩)
theorem relO_one {par : Str} {v : V} {v' : Value} (r : RelV v v') (f : Str) : RelO (List.lookup f [(par, v)]) (if f = par then some v' else none) := by
  by_cases hw : f = par
  · subst hw
    rw [if_pos rfl]
    have q : List.lookup f [(f, v)] = some v := by simp [List.lookup]
    rw [q]
    exact r
  · rw [if_neg hw]
    have qw : (f == par) = false := by simpa using hw
    have q2 : List.lookup f [(par, v)] = none := by simp [List.lookup, qw]
    rw [q2]
    trivial
def tMkS (C : Addr) (par : Str) (ta : TA) : L2.St → Hp → XK → Prop := fun σ H Q => ta σ H fun vs H1 => ∃ i : Int, vs = [.int i] ∧ i.natAbs ≤ 1000000 ∧ ∀ d, H1 d = none → Q (.ref C) (some d) (upd H1 d (.xd [(par, .int i)]))
theorem pmk_sup {nm pre par : Str} {p1 p2 : Pos} {q : SupX.Ps} {C : Addr} {a : Expr} {ta : TA} {p pos : Pos} {k : Nat} (bo : SupX.BindOk pre par p1 p2 q) (eo : SupX.EvalOk pre par q) (po : SupX.ParOk par) (hp0 : pre.length ≤ 1000) (T : SupX.Txt X.prog X.K X.mg nm pre par p1 p2 q C) (hr : Room k X.A) (ha : PA X [a] ta) (hg : Gl X nm)
    (hdb : (nm == ("__debug__" : Str)) = false := by decide) (he : starEach (a :: []) X.env = (false, eval a X.env) :: starEach [] X.env := by rfl) (hpl : (backTo pos (starEach [] X.env)).any (·.1) = false := by rfl) :
    PMk X (.Call (.Name nm p) [a] [] pos) (tMkS C par ta) := by
  intro pins s σ H Q I h
  refine wpAny_Call_Name_kw (ld_glob I hg T.gC ?_ hdb)
  refine PySem.W.callWith_K (h₀ := X.base) I.ok.mod.kin T.kC (thn (ha.run pos pins s σ H _ I h) fun us s1 hh => ?_) he hpl
  obtain ⟨vs, H1, I1, r1, i, ev, hi, q1⟩ := hh
  subst ev
  refine ⟨I1.kIn, ?_⟩
  obtain ⟨v', rfl, t, rfl⟩ := vals1 r1
  show wpAny _ _ (call (.ref C) [.int i t]) _ _ _
  have hlim := I1.nolimit
  obtain ⟨mb, hmb, hbs⟩ := I1.mod.blt
  have hG := I1.mod.glob.keeps I1.bk
  have hB := hmb.keeps I1.bk
  have rv : RelV (V.int i) (Value.int i t) := ⟨t, rfl⟩
  obtain ⟨hp, g0, dr, tk, os⟩ := s1
  refine wpAny_call (SupX.made bo eo T I1.kIn hlim (by have := hr.dp; omega) hi hp0 hG hB hbs po fun h' tk' e d M => ?_)
  show MkP X pins σ Q (.ref e) ⟨h', g0, dr, tk', os⟩
  obtain ⟨oe, fv, hoe, hc, hd, hdat, h1⟩ := M.obj
  have hns := M.ns
  obtain ⟨G', g1, g2⟩ := restrict h' fun b => decide (b ≠ e)
  have gk : ∀ b, b ≠ e → G'.get? b = h'.get? b := fun b hb => g1 b (decide_eq_true hb)
  have ge : G'.get? e = none := g2 e (by simp)
  have old : ∀ b o, hp.get? b = some o → G'.get? b = some o := fun b o q => (gk b (Nat.ne_of_lt (Nat.lt_of_lt_of_le (Heap.lt_size q) M.new))).trans (M.keep b o q)
  have ob : ObjOk X.prog X.w (upd H1 d (.xd [(par, V.int i)])) G' d (.xd [(par, V.int i)]) :=
    ⟨_, hns.at (fun o q => (gk d M.dne).trans q), fun f => relO_one rv f⟩
  have J : Inv X pins σ (upd H1 d (.xd [(par, V.int i)])) ⟨G', g0, dr, tk', os⟩ := I1.laid (t' := tk') old M.dbig ob
  refine ⟨e, oe, fv, ⟨G', g0, dr, tk', os⟩, _, .ref C, some d, rfl, J, fun b o q => ?_, ge, hoe, ⟨hc, hd⟩, hdat, h1, ?_, rfl, I1.bare, raises_own T.exC T.tyC, q1 d (I1.hok.fresh M.dbig)⟩
  · by_cases hb : b = e
    · have q' : G'.get? b = some o := q
      rw [hb, ge] at q'; cases q'
    · exact (gk b hb).symm.trans q
  · rw [upd_ne (Ne.symm M.dne)]
    exact I1.hok.fresh M.new
def supD (C par : Str) : List D → Option Xn
  | [.int i] => if i.natAbs ≤ 1000000 then some ⟨C, [par], [.int i]⟩ else none
  | _ => none
def mS (C par : Str) (f : SA) : Sm Xn := bS f fun ds => oS (supD C par ds)
theorem im_sup {nm pre par : Str} {p1 p2 : Pos} {q : SupX.Ps} {a : Expr} {f : SA} {p pos : Pos} {k : Nat} (hf : Fit g X) (bo : SupX.BindOk pre par p1 p2 q) (eo : SupX.EvalOk pre par q) (po : SupX.ParOk par) (hp0 : pre.length ≤ 1000) (T : SupX.Txt g.P g.K g.mg nm pre par p1 p2 q (g.cl nm)) (hr : Room k X.A) (ha : IA g A W X [a] f) (hg : Gl X nm)
    (hdb : (nm == ("__debug__" : Str)) = false := by decide) (he : starEach (a :: []) X.env = (false, eval a X.env) :: starEach [] X.env := by rfl) (hpl : (backTo pos (starEach [] X.env)).any (·.1) = false := by rfl) :
    IM g A W X (.Call (.Name nm p) [a] [] pos) (mS nm par f) := by
  intro pins s σ H Q I ⟨L, ρ, st, a, r⟩
  refine pmk_sup bo eo po hp0 (by rw [hf.prog, hf.K, hf.mg]; exact T) hr ha hg hdb he hpl pins s σ H Q I ⟨L, ρ, st, a, run_then (RR := RL g A) a r fun L1 H1 ds st1 vs e1 a1 rep1 q1 => ?_⟩
  obtain ⟨x, hx, q2⟩ := q1.ret
  unfold supD at hx
  split at hx
  · rename_i i
    split at hx <;> cases hx
    rename_i hi
    obtain ⟨v, rfl, r1⟩ := rep1.one
    refine ⟨i, by rw [rep_int r1], hi, fun d hd => q2 L1 _ (Ext.lay hd) (a1.rel.lay hd) (.ref (g.cl nm), some d) ⟨rfl, rfl, [.int i], .cons (.int i) .nil, fun _ => ⟨d, rfl, upd_same, fun z => a1.rel.nbad hd z⟩⟩⟩
  · cases hx
def raS (f : Sm Xn) : SS := xS f fun x ρ st => some (.ex x ρ, st)
theorem is_raise {e : Expr} {pos : Pos} {f : Sm Xn} (hf : Fit g X) (tk : Takes X W) (he : IM g A W X e f) : IS g A W X (.Raise (some e) none pos) (raS f) :=
  impS (ps_raise hf.calm tk he) fun De σ H ⟨L, ρ, st, a, q⟩ => ⟨L, ρ, st, a, stm_then (RR := RX g A) (Q' := fun p H' => W p.1 p.2 σ H') a q fun L1 H1 x st1 p e1 a1 rep1 q1 => by
    obtain ⟨r, st', e, k⟩ := q1
    cases e
    exact k L1 H1 Ext.refl a1.rel σ p.1 p.2 a1.rho rep1⟩

/-! ### try .. except C as e -/
def unI (i : Nat) : Option (Fl × Sto) → Option (Fl × Sto)
  | some (.nx ρ, st) => some (.nx (ρ.set i none), st)
  | some (.rt d, st) => some (.rt d, st)
  | some (.bk ρ, st) => some (.bk (ρ.set i none), st)
  | some (.ct ρ, st) => some (.ct (ρ.set i none), st)
  | _ => none
open Classical in
noncomputable def tryS (catch_ : Str → Option Bool) (C : Str) (i : Nat) (b : SS) (sf : Addr → Addr → SS) : SS := fun ρ st =>
  match b ρ st with
  | some (.ex x ρ1, st1) =>
    match catch_ x.C with
    | some false => some (.ex x ρ1, st1)
    | some true => if x.C = C ∧ x.ns ≠ [] then
        (if h : ∃ r, ∀ a dx, unI i (sf a dx (ρ1.set i (some (.v (.exn a dx x.C x.ns x.ds)))) st1) = some r then some (Classical.choose h) else none)
      else none
    | none => none
  | o => o
theorem un_run {i : Nat} {L : List (Option Addr)} {H : Hp} {o : Option (Fl × Sto)} {De : Ends} (h : RunS g A W L H (unI i o) De) :
    RunS g A WNo L H o { nx := fun σ' H' => De.nx (σ'.set i none) H', rt := De.rt, bk := fun σ' H' => De.bk (σ'.set i none) H', ct := fun σ' H' => De.ct (σ'.set i none) H' } := by
  obtain ⟨r, st', e, k⟩ := h
  unfold unI at e
  split at e
  · cases e
    exact ⟨_, _, rfl, fun L' H' e' r' σ' rho => k L' H' e' r' _ rho.unset⟩
  · cases e
    exact ⟨_, _, rfl, k⟩
  · cases e
    exact ⟨_, _, rfl, fun L' H' e' r' σ' rho => k L' H' e' r' _ rho.unset⟩
  · cases e
    exact ⟨_, _, rfl, fun L' H' e' r' σ' rho => k L' H' e' r' _ rho.unset⟩
  · cases e
theorem is_try {catch_ : Str → Option Bool} {C xc n : Str} {i : Nat} {body suite : List Stmt} {b₀ : Stmt} {np pos pos' : Pos} {b : SS} {sf : Addr → Addr → SS} (hf : Fit g X) (tk : Takes X W) (hst : X.stack = X.env :: X.outer) (hfr : X.env.frame = some X.env.locals)
    (hcat : ∀ C' r, catch_ C' = some r → PySem.W.exmOne g.K (.ref (g.cl C')) (.ref (g.cl C)) = some r) (hg : Gl X xc) (hm : g.mg xc = some (.ref (g.cl C)))
    (hb : ∀ (W' : WX) (pn : List (Addr × Obj)) (xe : Value → Shared → Prop), Takes (X.tr pn xe) W' → PassesOwn (model X.prog X.w) X.A X.env xe → IB g A W' (X.tr pn xe) body b)
    (hsu : ∀ (a : Addr) (oe : Obj) (dx : Addr) (pn : List (Addr × Obj)), Zc (.ref (g.cl C)) (some dx) oe → (∃ vs, oe.data = .fields vs) → IB g A WNo (X.suite a ((a, oe) :: pn)) (b₀ :: suite) (sf a dx))
    (hi : X.N[i]? = some n := by rfl) (hln : X.env.kindOf n = some .local := by rfl) (hdb : (xc == ("__debug__" : Str)) = false := by decide) :
    IS g A W X (.Try body [.ExceptHandler (some (.Name xc np)) (some n) (b₀ :: suite) pos'] [] [] pos) (tryS catch_ C i b sf) := by
  refine impS (ps_try_as (Wout := W) (tb := fun W' => tS g A W' b) (ts := fun a cls d => fun De σ H => ∃ dx, d = some dx ∧ cls = .ref (g.cl C) ∧ tS g A WNo (sf a dx) De σ H) hst hfr hf.nd hi hln ⟨hg, hdb, .inl (by rw [hf.mg]; exact hm)⟩ tk hb
    (fun a oe cls d pn hz hv => ⟨fun pins s σ H D I ⟨dx, e1, e2, h⟩ => by
      subst e1 e2
      exact (hsu a oe dx pn hz hv).run pins s σ H D I h⟩)) fun De σ H ⟨L, ρ, st, a, q⟩ => ⟨L, ρ, st, a, ?_⟩
  obtain ⟨r, st', e, k⟩ := q
  unfold tryS at e
  split at e
  · rename_i x ρ1 st1 hb1
    refine ⟨_, _, hb1, fun L1 H1 e1 r1 σ1 c dd rho xr => ?_⟩
    split at e
    · rename_i hc
      cases e
      refine ⟨false, by rw [hf.K, xr.1]; exact hcat _ _ hc, (fun z => nomatch z), fun _ => k L1 H1 e1 r1 σ1 c dd rho xr⟩
    · rename_i hc
      split at e
      · rename_i hx
        obtain ⟨hxC, hns⟩ := hx
        split at e
        · rename_i hh
          refine ⟨true, by rw [hf.K, xr.1]; exact hcat _ _ hc, fun _ av hav => ?_, fun z => nomatch z⟩
          obtain ⟨h1, h2, vs, h3, h4⟩ := xr
          obtain ⟨dx, hd, hdx, hnb⟩ := h4 hns
          refine ⟨dx, hd, by rw [h1, hxC], L1, _, st1, ⟨rho.set (s := .v (.exn av dx x.C x.ns x.ds)) (.exn (fun _ => ⟨hdx, hnb⟩) h2 h3), r1⟩, un_run (W := W) ?_⟩
          have e2 := Classical.choose_spec hh av dx
          rw [e2]
          exact ⟨_, _, e, fun L' H' e' r' => k L' H' (e1.trans e') r'⟩
        · cases e
      · cases e
    · cases e
  · rename_i hno
    cases r with
    | ex x ρ1 => exact absurd e (hno x ρ1 st')
    | nx ρ' => exact ⟨_, _, e, k⟩
    | rt d => exact ⟨_, _, e, k⟩
    | bk ρ' => exact ⟨_, _, e, k⟩
    | ct ρ' => exact ⟨_, _, e, k⟩
theorem rep_exn {B : Addr → Prop} {H : Hp} {a dx : Addr} {C : Str} {ns : List Str} {ds : List D} {v : V} (r : Rep g B H (.exn a dx C ns ds) v) : v = .ref a ∧ ∃ vs, (ns ≠ [] → H dx = some (.xd (ns.zip vs)) ∧ ¬ B dx) ∧ RepL g B H ds vs := by
  cases r with
  | exn h l rl => exact ⟨rfl, _, h, rl⟩
/-- e.par in the suite -/
def exF (i : Nat) (a dx : Addr) (C par : Str) : SE := fun ρ st =>
  match ρ[i]? with
  | some (some (.v (.exn a' dx' C' ns ds))) => if a' = a ∧ dx' = dx ∧ C' = C ∧ ns = [par] then (match ds with | [d] => some (.ok d, st) | _ => none) else none
  | _ => none
theorem ie_exf (i : Nat) {nm pre par n : Str} {p1 p2 : Pos} {q : SupX.Ps} {a dx : Addr} {oe : Obj} {pn : List (Addr × Obj)} {pos p : Pos} (hf : Fit g X) (T : SupX.Txt g.P g.K g.mg nm pre par p1 p2 q (g.cl nm)) (hz : Zc (.ref (g.cl nm)) (some dx) oe) (hv : ∃ vs, oe.data = .fields vs)
    (hN : X.N[i]? = some n := by rfl) (hvis : Vis X.env.scope n := by first | exact Or.inl rfl | exact Or.inr (Or.inl rfl) | exact Or.inr (Or.inr rfl)) (hb : attributeBase (.Name n p) par X.env (eval (.Name n p) X.env) = eval (.Name n p) X.env := by rfl)
    (hd : (n == ("__debug__" : Str)) = false := by decide) (hcd : (n == ("__classdict__" : Str)) = false := by decide) :
    IE g A W (X.suite a ((a, oe) :: pn)) (.Attribute (.Name n p) par pos) (exF i a dx nm par) := by
  refine ⟨fun pins s σ H Q I ⟨L, ρ, st, at_, r, st', e, k⟩ => ?_⟩
  unfold exF at e
  split at e
  · rename_i a' dx' C' ns ds hρ
    split at e
    · rename_i hh
      obtain ⟨rfl, rfl, rfl, rfl⟩ := hh
      split at e
      · rename_i d
        cases e
        obtain ⟨v, h1, h2⟩ := at_.rho.2 i _ hρ
        have h2 : Rep g (bad A L) H (.exn a' dx' C' [par] [d]) v := h2
        obtain ⟨rfl, vs, h, rl⟩ := rep_exn h2
        obtain ⟨hdx, hnb⟩ := h (by simp)
        obtain ⟨v, rfl, rv⟩ := rl.one
        refine attr_of (env := X.env) hb (thn ((pe_var (X := X.suite a' ((a', oe) :: pn)) hN hvis hd hcd).run pins s σ H (fun x H1 => x = .ref a' ∧ H1 = H) I ⟨_, h1, rfl, rfl⟩) fun u s1 hh => ?_)
        obtain ⟨x, H1, I1, rx, ex, eH⟩ := hh
        subst ex eH
        obtain rfl : u = Value.ref a' := rx
        obtain ⟨ha, _⟩ := I1.pin (a', oe) (List.mem_append_left _ List.mem_cons_self)
        obtain ⟨fvs, hd0⟩ := hv
        have hx : ObjOk X.prog X.w H1 s1.heap dx' (.xd [(par, v)]) := I1.hok dx' _ hdx
        obtain ⟨mA, hns, hr⟩ := hx
        obtain ⟨od, ho, hl⟩ := lookIn_ns hns
        have l2 : List.lookup par [(par, v)] = some v := by simp [List.lookup]
        obtain ⟨u, hu, ru⟩ := RelO.some_of (v := v) (o := mA par) (by rw [← l2]; exact hr par)
        have J : PySem.W.InstAt s1.heap a' oe (g.cl C') (some od) := ⟨ha, hz.1, by unfold PySem.W.notCls; rw [hd0] <;> rfl, by rw [hz.2]; exact ho⟩
        have kI : g.K.In s1.heap := by rw [← hf.K]; exact I1.kIn
        exact HandSPX.exc_get kI J T.ga T.gg T.exC (PySem.W.findObj_own T.hdC T.noN rfl (by rw [hl, hu])) (handed_of ru) ⟨v, H1, I1.tok _, ru, k L H1 Ext.refl at_.rel v rv⟩
      · cases e
    · cases e
  · cases e
end
end DL

set_option Elab.async false
set_option linter.all false
set_option maxRecDepth 100000
set_option maxHeartbeats 4000000
/-! DL10: sum, all, any of lists; max with a default; isinstance; the callers' heads. -/
namespace DL
open PySem PySem.Spec PyProof.Rows L2
def intsOf : List D → Option (List Int)
  | [] => some []
  | .int i :: ds => (intsOf ds).map (i :: ·)
  | _ :: _ => none
def blsOf : List D → Option (List Bool)
  | [] => some []
  | .bl b :: ds => (blsOf ds).map (b :: ·)
  | _ :: _ => none
theorem intsOf_map (ns : List Int) : intsOf (ns.map .int) = some ns := by
  induction ns with
  | nil => rfl
  | cons n ns ih => simp [intsOf, ih]
theorem blsOf_map (ns : List Bool) : blsOf (ns.map .bl) = some ns := by
  induction ns with
  | nil => rfl
  | cons n ns ih => simp [blsOf, ih]
section
variable {g : G} {A : Addr → Prop} {W : WX} {X : Cx}
theorem rep_ints {B : Addr → Prop} {H : Hp} : ∀ {ds : List D} {vs : List V} {ns : List Int}, RepL g B H ds vs → intsOf ds = some ns → vs = ns.map V.int
  | _, _, _, .nil, h => by cases h; rfl
  | d :: ds, _, ns, .cons r t, h => by
    cases d <;> simp only [intsOf] at h <;> first | (cases h; done) | skip
    cases e : intsOf ds with
    | none => rw [e] at h; cases h
    | some ms =>
      rw [e] at h
      cases h
      rw [rep_int r, rep_ints t e]
      rfl
theorem rep_bls {B : Addr → Prop} {H : Hp} : ∀ {ds : List D} {vs : List V} {ns : List Bool}, RepL g B H ds vs → blsOf ds = some ns → vs = ns.map V.bl
  | _, _, _, .nil, h => by cases h; rfl
  | d :: ds, _, ns, .cons r t, h => by
    cases d <;> simp only [blsOf] at h <;> first | (cases h; done) | skip
    cases e : blsOf ds with
    | none => rw [e] at h; cases h
    | some ms =>
      rw [e] at h
      cases h
      rw [rep_bl r, rep_bls t e]
      rfl
def sumC : List D → Option D := one fun d => (lstD d).bind fun ds => (intsOf ds).map fun ns => .int ns.sum
def allC : List D → Option D := one fun d => (lstD d).bind fun ds => (blsOf ds).map fun bs => .bl (bs.all id)
def anyC : List D → Option D := one fun d => (lstD d).bind fun ds => (blsOf ds).map fun bs => .bl (bs.any id)
theorem rd_sum : RdCall g (rSum g.K) sumC := by
  intro A L H st ds z xs Q R rl hz q
  obtain ⟨d, rfl, hz1⟩ := one_some hz
  cases hl : lstD d with
  | none => rw [hl] at hz1; cases hz1
  | some es =>
    rw [hl] at hz1
    cases hi : intsOf es with
    | none => simp [hi] at hz1
    | some ns =>
      simp [hi] at hz1
      subst hz1
      obtain ⟨v, rfl, r⟩ := rl.one
      obtain ⟨p, vs, rfl, rl', hq⟩ := rep_ls r hl
      exact ⟨p, ns, rfl, by rw [← rep_ints rl' hi]; exact hq, q H _ Ext.refl R (.int _)⟩
theorem rd_all : RdCall g (rAll g.K) allC := by
  intro A L H st ds z xs Q R rl hz q
  obtain ⟨d, rfl, hz1⟩ := one_some hz
  cases hl : lstD d with
  | none => rw [hl] at hz1; cases hz1
  | some es =>
    rw [hl] at hz1
    cases hi : blsOf es with
    | none => simp [hi] at hz1
    | some ns =>
      simp [hi] at hz1
      subst hz1
      obtain ⟨v, rfl, r⟩ := rl.one
      obtain ⟨p, vs, rfl, rl', hq⟩ := rep_ls r hl
      exact ⟨p, ns, rfl, by rw [← rep_bls rl' hi]; exact hq, q H _ Ext.refl R (by simpa using Rep.bl _)⟩
theorem rd_any : RdCall g (rAny g.K) anyC := by
  intro A L H st ds z xs Q R rl hz q
  obtain ⟨d, rfl, hz1⟩ := one_some hz
  cases hl : lstD d with
  | none => rw [hl] at hz1; cases hz1
  | some es =>
    rw [hl] at hz1
    cases hi : blsOf es with
    | none => simp [hi] at hz1
    | some ns =>
      simp [hi] at hz1
      subst hz1
      obtain ⟨v, rfl, r⟩ := rl.one
      obtain ⟨p, vs, rfl, rl', hq⟩ := rep_ls r hl
      exact ⟨p, ns, rfl, by rw [← rep_bls rl' hi]; exact hq, q H _ Ext.refl R (by simpa using Rep.bl _)⟩
theorem call_sumG (hf : Fit g X) : CallR X (.builtin "sum") (rSum g.K) := by rw [← hf.K]; exact cr_sum hf.calm
theorem call_allG (hf : Fit g X) : CallR X (.builtin "all") (rAll g.K) := by rw [← hf.K]; exact cr_all hf.calm
theorem call_anyG (hf : Fit g X) : CallR X (.builtin "any") (rAny g.K) := by rw [← hf.K]; exact cr_any hf.calm

/-! ### max(xs, default=d) -/
def maxI : List Int → Int
  | [] => 0
  | x :: xs => xs.foldl max x
theorem foldl_ge (xs : List Int) : ∀ x : Int, x ≤ xs.foldl max x ∧ (∀ y ∈ xs, y ≤ xs.foldl max x) ∧ (xs.foldl max x = x ∨ xs.foldl max x ∈ xs) := by
  induction xs with
  | nil => intro x; exact ⟨Int.le_refl _, (fun y hy => by cases hy), .inl rfl⟩
  | cons a xs ih =>
    intro x
    obtain ⟨h1, h2, h3⟩ := ih (max x a)
    simp only [List.foldl_cons]
    refine ⟨Int.le_trans (Int.le_max_left x a) h1, fun y hy => ?_, ?_⟩
    · rcases List.mem_cons.mp hy with rfl | hy
      · exact Int.le_trans (Int.le_max_right x y) h1
      · exact h2 y hy
    · rcases h3 with h3 | h3
      · rw [h3]
        by_cases hc : x ≤ a
        · right; rw [Int.max_eq_right hc]; exact List.mem_cons_self
        · left; exact Int.max_eq_left (by omega)
      · right; exact List.mem_cons_of_mem _ h3
theorem maxI_of {ns : List Int} {m : Int} (hm : m ∈ ns) (hb : ∀ y ∈ ns, y ≤ m) : m = maxI ns := by
  cases ns with
  | nil => cases hm
  | cons x xs =>
    obtain ⟨h1, h2, h3⟩ := foldl_ge xs x
    have hle : m ≤ xs.foldl max x := by
      rcases List.mem_cons.mp hm with rfl | hm
      · exact h1
      · exact h2 m hm
    have hge : xs.foldl max x ≤ m := by
      rcases h3 with h3 | h3
      · rw [h3]; exact hb x List.mem_cons_self
      · exact hb _ (List.mem_cons_of_mem _ h3)
    exact Int.le_antisymm hle hge
def maxDD (d e : D) : Option D := (lstD d).bind fun ds => (intsOf ds).map fun ns => match ns with | [] => e | _ => .int (maxI ns)
def eMaxD (f h : SA) : SE := bS f fun ds => bS h fun es => match ds, es with | [d], [e] => oS (maxDD d e) | _, _ => fun _ _ => none
theorem ie_maxD {p pos : Pos} {e : Expr} {kws : List Keyword} {f h : SA} (hf : Fit g X) (hg : Gl X "max") (hm : g.mg "max" = none) (ha : IA g A W X [e] f) (hk : IK g A W X kws h)
    (he : backTo pos (starEach [e] X.env) = (false, eval e X.env) :: backTo pos (starEach [] X.env) := by rfl) (hpl : (backTo pos (starEach [e] X.env)).any (·.1) = false := by rfl)
    (hall : (backToKw pos (keywordEach kws X.env)).all (·.1.isSome) = true := by rfl) (hnone : (backToKw pos (keywordEach kws X.env)).any (·.1.isNone) = false := by rfl) (hks : (backToKw pos (keywordEach kws X.env)).filterMap (·.1) = (["default"] : List Str) := by rfl) :
    IE g A W X (.Call (.Name "max" p) [e] kws pos) (eMaxD f h) :=
  imp (pe_callBK (ks := ["default"]) (MaxD.call_maxD hf.calm) hg (by rw [hf.mg]; exact hm) (by decide +kernel) ha hk (by decide) (by decide) he hpl hall hnone hks) fun σ H Q ⟨L, ρ, st, a, q⟩ =>
    ⟨L, ρ, st, a, run_then (RR := RL g A) a q fun L1 H1 ds st1 vs e1 a1 rep1 q1 => ⟨L1, ρ, st1, a1, run_then (RR := RL g A) a1 q1 fun L2 H2 es st2 ws e2 a2 rep2 q2 => by
      split at q2
      · rename_i d e
        obtain ⟨z, hz, q3⟩ := q2.ret
        unfold maxDD at hz
        cases hl : lstD d with
        | none => rw [hl] at hz; cases hz
        | some xs =>
          rw [hl] at hz
          cases hi : intsOf xs with
          | none => simp [hi] at hz
          | some ns =>
            simp [hi] at hz
            obtain ⟨v, rfl, r⟩ := (rep1.kp e2.kp).one
            obtain ⟨w', rfl, r2⟩ := rep2.one
            obtain ⟨pp, us, rfl, rl', hq⟩ := rep_ls r hl
            refine ⟨pp, ns, w', rfl, rfl, by rw [← rep_ints rl' hi, hf.K]; exact hq, fun hne m hm hb => ?_, fun hne => ?_⟩
            · have em := maxI_of hm hb
              subst em
              cases ns with
              | nil => exact absurd rfl hne
              | cons n ns => subst hz; exact q3 L2 H2 Ext.refl a2.rel _ (.int _)
            · subst hne
              subst hz
              exact q3 L2 H2 Ext.refl a2.rel _ r2
      · obtain ⟨_, _, z, _⟩ := q2; cases z⟩⟩

/-! ### isinstance(x, T) -/
inductive Ty where
  | bool | int | str | list | tuple
def Ty.n : Ty → String
  | .bool => "bool" | .int => "int" | .str => "str" | .list => "list" | .tuple => "tuple"
def isTy (T : Ty) (d : D) : Option Bool :=
  match d, T with
  | .non, _ => some false
  | .bl _, .bool => some true | .bl _, .int => some true | .bl _, _ => some false
  | .int _, .int => some true | .int _, _ => some false
  | .str _, .str => some true | .str _, _ => some false
  | .tup _, .tuple => some true | .tup _, _ => some false
  | .lst _, .list => some true | .lst _, _ => some false
  | .klst _, .list => some true | .klst _, _ => some false
  | _, _ => none
def tyN : D → Option String
  | .non => some "NoneType" | .bl _ => some "bool" | .int _ => some "int" | .str _ => some "str" | .tup _ => some "tuple" | .lst _ => some "list" | .klst _ => some "list"
  | _ => none
theorem isTy_kit {T : Ty} {d : D} {b : Bool} (h : isTy T d = some b) : ∃ t, tyN d = some t ∧ kitB t T.n = some b := by
  cases d <;> cases T <;> simp only [isTy, Option.some.injEq] at h <;> first
    | (cases h; done)
    | (subst h; exact ⟨_, rfl, by decide +kernel⟩)
theorem rep_ty {B : Addr → Prop} {H : Hp} {d : D} {v : V} {t : String} (r : Rep g B H d v) (h : tyN d = some t) : TyX g.K H v (.type t) := by
  cases r <;> simp only [tyN, Option.some.injEq] at h <;> first | (cases h; done) | subst h
  · exact .base .non
  · exact .base (.bl _)
  · exact .base (.int _)
  · exact .base (.str _)
  · rename_i hh nb r; exact .base (.tup hh)
  · rename_i hh r
    rcases hh (fun _ => none) with (q | ⟨o, q⟩) | ⟨o, its, n, q, c, _⟩
    · cases q
    · cases q
    · exact .kTuple q c
  · rename_i hh nb r; exact .base (.lst hh)
  · rename_i hh nb r; exact .base (.frz hh)
  · rename_i hh nb r; exact .base (.lst hh)
  · rename_i hh r
    rcases hh (fun _ => none) with (q | ⟨o, q⟩) | ⟨o, its, n, q, c, _⟩
    · cases q
    · cases q
    · exact .kList q c
def eIs (T : Ty) (f : SE) : SE := bS f fun d => oS ((isTy T d).map .bl)
theorem ie_isinst (T : Ty) {x : Str} {e : Expr} {p p2 pos : Pos} {f : SE} (hf : Fit g X) (hg : Gl X "isinstance") (hm : g.mg "isinstance" = none) (hg2 : Gl X x) (hm2 : g.mg x = none) (hv2 : bootBuiltins x = some (.type T.n)) (he : IE g A W X e f)
    (hn : x ≠ "__name__" := by decide) (hd : (x == ("__debug__" : Str)) = false := by decide)
    (hs : starEach [e, .Name x p2] X.env = (false, eval e X.env) :: starEach [.Name x p2] X.env := by rfl) (hs2 : starEach [.Name x p2] X.env = (false, eval (.Name x p2) X.env) :: starEach [] X.env := by rfl) (hpl : (backTo pos (starEach [.Name x p2] X.env)).any (·.1) = false := by rfl) :
    IE g A W X (.Call (.Name "isinstance" p) [e, .Name x p2] [] pos) (eIs T f) :=
  imp (pe_callB (id := "isinstance") (r := rIsi g.K) (by rw [← hf.K]; exact call_isi) hg (by rw [hf.mg]; exact hm) (by decide +kernel) (pa_cons he (pa_cons (pe_bltn (v := .ty T.n) hg2 (by rw [hf.mg]; exact hm2) hv2 rfl hn hd) pa_nil hs2) hs) (by decide) (by decide) hs hpl) fun σ H Q ⟨L, ρ, st, a, q⟩ =>
    ⟨L, ρ, st, a, run_then (RR := RD g A) a q fun L1 H1 d st1 v e1 a1 rep1 q1 => by
      obtain ⟨z, hz, q2⟩ := q1.ret
      cases hb : isTy T d with
      | none => rw [hb] at hz; cases hz
      | some b =>
        rw [hb] at hz
        cases hz
        obtain ⟨t, h1, h2⟩ := isTy_kit hb
        exact ⟨v, .ty T.n, .type t, .type T.n, b, rfl, .ty _, rep_ty rep1 h1, kit_ty h2, q2 L1 H1 Ext.refl a1.rel _ (.bl b)⟩⟩
end
end DL

set_option Elab.async false
set_option linter.all false
set_option maxRecDepth 100000
set_option maxHeartbeats 4000000
/-! DL11: walking a list or a tuple, whichever it is; the defs' promises by name. -/
namespace DL
open PySem PySem.Spec PyProof.Rows L2
section
variable {g : G} {A : Addr → Prop} {W : WX} {X : Cx}
def iSeq (K : PySem.W.Frag) (tl : TE) : TI := fun σ H R => tl σ H fun x H1 => ∃ a, x = .ref a ∧ (((∃ xs, SqL K H1 a xs) ∧ R (Itl K a) H1) ∨ ((∃ xs, SqT K H1 a xs) ∧ R (Itt K a) H1))
theorem pi_seq {tg l : Expr} {tl : TE} (hl : PE X l tl) : PI X tg l (iSeq X.K tl) := by
  refine ⟨fun pins s σ H R I h => ?_⟩
  refine thn (hl.run pins s σ H _ I h) fun v s1 ⟨x, H1, I1, r1, q1⟩ => ?_
  obtain ⟨a, e, q1⟩ := q1
  subst e
  cases r1
  rcases q1 with ⟨⟨xs, hq⟩, q⟩ | ⟨⟨xs, hq⟩, q⟩
  · obtain ⟨its, rv, p, hz⟩ := I1.list hq
    refine wpAny_pyIter_list p.isList ?_
    refine ⟨s1.heap.objs.size, [s1.heap.objs.size], _, _, H1, rfl, I1.kept (t' := s1.toks) fun b o e => Heap.get?_push_of_some _ e, turn_list a _, ⟨_, Heap.get?_push_size _ rfl, rfl, rfl⟩, fun b hb => ?_, q⟩
    have e : b = s1.heap.objs.size := by simpa using hb
    subst e
    exact I1.fpOk (Nat.le_refl _) (I1.hok.fresh (Nat.le_refl _))
  · obtain ⟨its, rv, p, hz⟩ := I1.tuple hq
    refine wpAny_pyIter_tuple (show s1.heap.IsTuple a its.toArray from p) ?_
    refine ⟨s1.heap.objs.size, [s1.heap.objs.size], _, _, H1, rfl, I1.kept (t' := s1.toks) fun b o e => Heap.get?_push_of_some _ e, turn_tuple a _, ⟨_, Heap.get?_push_size _ rfl, rfl, rfl⟩, fun b hb => ?_, q⟩
    have e : b = s1.heap.objs.size := by simpa using hb
    subst e
    exact I1.fpOk (Nat.le_refl _) (I1.hok.fresh (Nat.le_refl _))
theorem pi_seqK {tg l : Expr} {tl : TE} (hf : Fit g X) (hl : PE X l tl) : PI X tg l (iSeq g.K tl) := by rw [← hf.K]; exact pi_seq hl
theorem ii_seq {tg it : Expr} {f : SE} (hf : Fit g X) (h : IE g A W X it f) : II g A W X tg it (sI f) :=
  impI (pi_seqK hf h) fun σ H R ⟨L, ρ, st, a, q⟩ => ⟨L, ρ, st, a, run_then (RR := RD g A) a q fun L1 H1 d st1 v e1 a1 rep1 q1 => by
    obtain ⟨ds, hz, q2⟩ := q1.ret
    cases hl : lstD d with
    | some es =>
      have e : es = ds := by
        cases d <;> simp only [lstD, seqD, Option.some.injEq] at hl hz <;> first | (cases hl; done) | (rw [← hl, ← hz])
      subst e
      obtain ⟨p, vs, rfl, rl, hs⟩ := lst_stays rep1 hl
      refine ⟨p, rfl, .inl ⟨⟨vs, hs _ _ Kp.refl⟩, q2 L1 H1 Ext.refl a1.rel _ ⟨fun A' L' H' st' e' r' i d hi => ?_, fun A' L' H' st' e' r' => ?_⟩⟩⟩
      · obtain ⟨v, h1, h2⟩ := rl.get hi
        have hq := hs _ _ e'
        refine ⟨⟨vs, v, hq, h1⟩, fun x H2 hy => ?_⟩
        obtain ⟨rfl, hy⟩ := hy
        have e := hy vs hq
        rw [h1] at e
        cases e
        exact ⟨Ext.refl, r', h2.kp e'⟩
      · exact ⟨vs, hs _ _ e', by rw [rl.length]; exact Nat.le_refl _⟩
    | none =>
      have e : d = .tup ds := by
        cases d <;> simp only [lstD, seqD, Option.some.injEq] at hl hz <;> first | (cases hl; done) | (cases hz; done) | (rw [← hz])
      subst e
      obtain ⟨p, vs, rfl, rl, hs⟩ := tup_stays rep1
      refine ⟨p, rfl, .inr ⟨⟨vs, hs _ _ Kp.refl⟩, q2 L1 H1 Ext.refl a1.rel _ ⟨fun A' L' H' st' e' r' i d hi => ?_, fun A' L' H' st' e' r' => ?_⟩⟩⟩
      · obtain ⟨v, h1, h2⟩ := rl.get hi
        have hq := hs _ _ e'
        refine ⟨⟨vs, v, hq, h1⟩, fun x H2 hy => ?_⟩
        obtain ⟨rfl, hy⟩ := hy
        have e := hy vs hq
        rw [h1] at e
        cases e
        exact ⟨Ext.refl, r', h2.kp e'⟩
      · exact ⟨vs, hs _ _ e', by rw [rl.length]; exact Nat.le_refl _⟩⟩

/-! ### promises by name -/
/-- the module's def x keeps F, n parameters, with k levels below -/
structure PFn (g : G) (k : Nat) (x : Str) (n : Nat) (F : FP) : Prop where
  ex : ∃ (fa : Addr) (fd : FuncData) (ps : List Str), FnOk g.P g.w g.K g.mg g.base (L2.CX g.P g.w) k fa fd ps (spP g n F) ∧ g.mg x = some (.ref fa) ∧ PySem.W.keepIn g.K (.ref fa) = true ∧ Binds g.K fd ps []
/-- a def that is called with keywords for all its keyword-only parameters (ks), n positional ones -/
structure PFk (g : G) (k : Nat) (x : Str) (n m : Nat) (ks : List Str) (F : FP) : Prop where
  ex : ∃ (fa : Addr) (fd : FuncData) (ps : List Str), FnOk g.P g.w g.K g.mg g.base (L2.CX g.P g.w) k fa fd ps (spP g (n + m) F) ∧ g.mg x = some (.ref fa) ∧ PySem.W.keepIn g.K (.ref fa) = true ∧ KBn g.K fd ps n ks (fun us ws => us ++ ws) (fun us ws => us ++ ws) ∧ ks.length = m
/-- the method m of the class C keeps F, n parameters with self -/
structure MFn (g : G) (k : Nat) (C m : Str) (n : Nat) (F : FI) : Prop where
  ex : ∃ (fa : Addr) (fd : FuncData) (ps : List Str), FnOk g.P g.w g.K g.mg g.base (L2.CX g.P g.w) k fa fd ps (spI g n F) ∧ Meth g.K (g.cl C) m fa ∧ Binds g.K fd ps []
/-- the __init__ of the class C keeps F -/
structure CFn (g : G) (k : Nat) (C : Str) (n : Nat) (F : FI) : Prop where
  ex : ∃ (fa : Addr) (fd : FuncData) (ps : List Str), FnOk g.P g.w g.K g.mg g.base (L2.CX g.P g.w) k fa fd ps (spI g n F) ∧ Mk g.K (g.cl C) fa ∧ g.mg C = some (.ref (g.cl C)) ∧ Binds g.K fd ps []
theorem ie_callP {n k : Nat} {F : FP} {x : Str} {p pos : Pos} {e : Expr} {es : List Expr} {f : SA} (hf : Fit g X) (tk : Takes X W) (h : PFn g k x n F) (hr : Room k X.A) (hg : Gl X x)
    (ha : IA g A W X (e :: es) f) (hdb : (x == ("__debug__" : Str)) = false := by decide) (he : starEach (e :: es) X.env = (false, eval e X.env) :: starEach es X.env := by rfl) (hpl : (backTo pos (starEach es X.env)).any (·.1) = false := by rfl) :
    IE g A W X (.Call (.Name x p) (e :: es) [] pos) (cPn n F [] f) := by
  obtain ⟨fa, fd, ps, Fo, hm, hk, hb⟩ := h.ex
  exact ie_call hf tk Fo hr hg hm hk hb ha hdb he hpl
theorem ie_callPk {n m k : Nat} {F : FP} {ks : List Str} {x : Str} {p pos : Pos} {e : Expr} {es : List Expr} {kws : List Keyword} {f h : SA} (hf : Fit g X) (tk : Takes X W) (hh : PFk g k x n m ks F) (hr : Room k X.A) (hg : Gl X x)
    (ha : IA g A W X (e :: es) f) (hkw : IK g A W X kws h) (hall : (backToKw pos (keywordEach kws X.env)).all (·.1.isSome) = true := by rfl) (hks : (backToKw pos (keywordEach kws X.env)).filterMap (·.1) = ks := by rfl)
    (hdb : (x == ("__debug__" : Str)) = false := by decide) (he : starEach (e :: es) X.env = (false, eval e X.env) :: starEach es X.env := by rfl)
    (hpl : ((backTo pos (starEach (e :: es) X.env)).any (·.1) || (backToKw pos (keywordEach kws X.env)).any (·.1.isNone)) = false := by rfl) : IE g A W X (.Call (.Name x p) (e :: es) kws pos) (cK n m F f h) := by
  obtain ⟨fa, fd, ps, Fo, hm, hk, hb, hl⟩ := hh.ex
  exact ie_callK hf tk Fo hr hg hm hk hb hl ha hkw hall hks hdb he hpl
theorem ie_methP (i : Nat) {C m x : Str} {n k : Nat} {F : FI} {p pos apos : Pos} {e : Expr} {es : List Expr} {f : SA} {pl : Sem Bool} (hf : Fit g X) (tk : Takes X W) (c : Cls g.K (g.cl C)) (h : MFn g k C m n F) (hr : Room k X.A)
    (ha : IA g A W X (e :: es) f) (hN : X.N[i]? = some x := by rfl) (hv : Vis X.env.scope x := by first | exact Or.inl rfl | exact Or.inr (Or.inl rfl) | exact Or.inr (Or.inr rfl)) (hd : (x == ("__debug__" : Str)) = false := by decide) (hcd : (x == ("__classdict__" : Str)) = false := by decide)
    (hst : starEach (e :: es) X.env = (false, eval e X.env) :: starEach es X.env := by rfl) (hpl : (backTo pos (starEach es X.env)).any (·.1) = false := by rfl)
    (ht : eval (.Call (.Attribute (.Name x p) m apos) (e :: es) [] pos) X.env = (do
      let ov ← eval (.Name x p) X.env
      standAt apos.atName
      let (f, first) ← holding [ov] (getMethod ov m pl)
      callWith pos f first (backTo pos (starEach (e :: es) X.env)) (backToKw pos (keywordEach [] X.env))) := by rfl) :
    IE g A W X (.Call (.Attribute (.Name x p) m apos) (e :: es) [] pos) (cM i C m n F f) := by
  obtain ⟨fa, fd, ps, Fo, hm, hb⟩ := h.ex
  exact ie_meth i hf tk c hm Fo hr hb ha hN hv hd hcd hst hpl ht
theorem is_mkP (j : Nat) {C y : Str} {n k : Nat} {F : FI} {p pos pos' cpos : Pos} {e : Expr} {es : List Expr} {f : SA} {E : XK} (hf : Fit g X) (tk : Takes X (WF E)) (h : CFn g k C n F) (hr : Room (k + 1) X.A)
    (hg : Gl X C) (ha : IA g A (WF E) X (e :: es) f) (hi : X.N[j]? = some y := by rfl) (hx : Loc X.env.scope y := by first | exact .inl rfl | exact .inr rfl) (hs : swapsWith (.Call (.Name C p) (e :: es) [] cpos) (some (.Name y pos')) pos.line X.env = pure false := by rfl)
    (hfn : X.fn y = true ∨ X.env.scope.names.lookup y = some .local := by first | exact .inl rfl | exact .inr rfl | assumption)
    (hdb : (C == ("__debug__" : Str)) = false := by decide) (he : starEach (e :: es) X.env = (false, eval e X.env) :: starEach es X.env := by rfl) (hpl : (backTo cpos (starEach es X.env)).any (·.1) = false := by rfl) :
    IS g A (WF E) X (.Assign [.Name y pos'] (.Call (.Name C p) (e :: es) [] cpos) pos) (mkS j C n F f) := by
  obtain ⟨fa, fd, ps, Fo, hM, hm, hb⟩ := h.ex
  exact is_mk j hf tk hM Fo hr hg hm hb ha hi hx hs hfn hdb he hpl
/-- return of a list that was growing: it is data from here on -/
def rtL (i : Nat) : SS := fun ρ st =>
  match stL ρ st i with
  | some (n, ds) => some (.rt (.lst ds), st.set n .dead)
  | none => none
theorem is_retL (i : Nat) {x : Str} {p pos : Pos} (hN : X.N[i]? = some x := by rfl) (hv : Vis X.env.scope x := by first | exact Or.inl rfl | exact Or.inr (Or.inl rfl) | exact Or.inr (Or.inr rfl)) (hd : (x == ("__debug__" : Str)) = false := by decide) (hcd : (x == ("__classdict__" : Str)) = false := by decide) :
    IS g A W X (.Return (some (.Name x p)) pos) (rtL i) :=
  impS (ps_ret (pe_var hN hv hd hcd)) fun De σ H ⟨L, ρ, st, a, r, st', e, k⟩ => by
    unfold rtL at e
    split at e
    · rename_i n ds hs
      cases e
      obtain ⟨b, vs, q1, q2, q3, q4⟩ := a.lst hs
      have hn : n < L.length := (List.getElem?_eq_some_iff.mp q2).1
      have nb : some b ∉ L.set n none := fun z => by
        obtain ⟨m, hm⟩ := List.mem_iff_getElem?.mp z
        by_cases e : n = m
        · subst e
          rw [List.getElem?_set_self hn] at hm
          cases hm
        · rw [List.getElem?_set_ne e] at hm
          exact e (a.rel.nd n m b q2 hm)
      have ee : Ext L H (L.set n none) H := ⟨fun _ _ h _ _ => h, fun _ h => h, by rw [List.length_set]; exact Nat.le_refl _, fun m c h _ => by
        by_cases e : n = m
        · subst e
          rw [List.getElem?_set_self hn] at h
          cases h
        · rwa [List.getElem?_set_ne e] at h, fun m c h hl => absurd (List.getElem?_eq_some_iff.mp h).1 (by rw [List.length_set]; omega)⟩
      have kp : Kp (bad A L) H (bad A (L.set n none)) H := ee.kp
      have sub : ∀ {c : Addr}, some c ∈ L.set n none → some c ∈ L := fun {c} hc => by
        rcases List.mem_or_eq_of_mem_set hc with z | z
        · exact z
        · cases z
      refine ⟨_, q1, k _ H ee ⟨a.rel.alA, fun c hc z => a.rel.dis c (sub hc) z, by rw [List.length_set, List.length_set]; exact a.rel.len, fun i j c hi hj => ?_, fun m o q => ?_, a.rel.tab⟩ _ (.lst q3 (fun z => ?_) (q4.kp kp))⟩
      · have f : ∀ {i : Nat} {c : Addr}, (L.set n none)[i]? = some (some c) → L[i]? = some (some c) := fun {i c} h => by
          by_cases e : n = i
          · subst e
            rw [List.getElem?_set_self hn] at h
            cases h
          · rwa [List.getElem?_set_ne e] at h
        exact a.rel.nd i j c (f hi) (f hj)
      · by_cases e : n = m
        · subst e
          rw [List.getElem?_set_self (by rw [← a.rel.len]; exact hn)] at q
          cases q
          exact List.getElem?_set_self hn
        · rw [List.getElem?_set_ne e] at q
          have w := a.rel.objs m o q
          cases o with
          | lst ds => obtain ⟨c, us, h1, h2, h3⟩ := w; exact ⟨c, us, by rw [List.getElem?_set_ne e]; exact h1, h2, h3.kp kp⟩
          | ins C fs => obtain ⟨c, dx, us, h1, h2, h3⟩ := w; exact ⟨c, dx, us, by rw [List.getElem?_set_ne e]; exact h1, h2, h3.ext ee⟩
          | dead => exact (List.getElem?_set_ne e).trans w
      · rcases z with z | z
        · exact a.rel.dis b (List.mem_of_getElem? q2) z
        · exact nb z
    · cases e
end
end DL

set_option Elab.async false
set_option linter.all false
set_option maxRecDepth 100000
set_option maxHeartbeats 4000000
/-! DL12: tuple(x), list(x), len(x) of a list that grows. -/
namespace DL
open PySem PySem.Spec PyProof.Rows L2
section
variable {g : G} {A : Addr → Prop} {W : WX} {X : Cx}
/-- a value made of a growing list's items -/
def lsE (hop : List D → Option D) (i : Nat) : SE := fun ρ st =>
  match stL ρ st i with
  | some (_, ds) => (match hop ds with
    | some z => some (.ok z, st)
    | none => none)
  | none => none
theorem lsE_read {hop : List D → Option D} {i : Nat} {L : List (Option Addr)} {H : Hp} {ρ : Rho} {σ : L2.St} {st : Sto} {Q : VK} (a : At g A L H ρ σ st) (q : Run g A W (RD g A) L H σ (lsE hop i ρ st) Q) :
    ∃ b ds vs z, σ[i]? = some (some (.ref b)) ∧ H b = some (.lst vs) ∧ RepL g (bad A L) H ds vs ∧ hop ds = some z ∧ ∀ L' H', Ext L H L' H' → Rel g A L' H' st → ∀ v, Rep g (bad A L') H' z v → Q v H' := by
  obtain ⟨r, st', e, k⟩ := q
  unfold lsE at e
  split at e
  · rename_i n ds hs
    split at e
    · rename_i z hz
      cases e
      obtain ⟨b, vs, q1, q2, q3, q4⟩ := a.lst hs
      exact ⟨b, ds, vs, z, q1, q3, q4, hz, fun L' H' e' r' v rv => k L' H' e' r' v rv⟩
    · cases e
  · cases e
theorem ie_tupL (i : Nat) {x : Str} {p p2 pos : Pos} (hf : Fit g X) (hg : Gl X "tuple") (hm : g.mg "tuple" = none) (hN : X.N[i]? = some x := by rfl) (hv : Vis X.env.scope x := by first | exact Or.inl rfl | exact Or.inr (Or.inl rfl) | exact Or.inr (Or.inr rfl)) (hd : (x == ("__debug__" : Str)) = false := by decide)
    (hcd : (x == ("__classdict__" : Str)) = false := by decide) (he : starEach [.Name x p2] X.env = (false, eval (.Name x p2) X.env) :: starEach [] X.env := by rfl) (hpl : (backTo pos (starEach [] X.env)).any (·.1) = false := by rfl) :
    IE g A W X (.Call (.Name "tuple" p) [.Name x p2] [] pos) (lsE (fun ds => some (.tup ds)) i) :=
  imp (pe_callTy (call_tupleG hf) hg (by rw [hf.mg]; exact hm) (by decide +kernel) (pa_cons (pe_var hN hv hd hcd) pa_nil he) (by decide) (by decide) he hpl) fun σ H Q ⟨L, ρ, st, a, q⟩ => by
    obtain ⟨b, ds, vs, z, q1, q2, q3, e, k⟩ := lsE_read a q
    cases e
    refine ⟨_, q1, _, _, rfl, .inl ⟨SqL.of q2, fun l hl => k L _ (Ext.lay hl) (a.rel.lay hl) _ (.tup upd_same (fun z => a.rel.nbad hl z) (q3.kp (Kp.lay hl)))⟩⟩
theorem ie_listL (i : Nat) {x : Str} {p p2 pos : Pos} (hf : Fit g X) (hg : Gl X "list") (hm : g.mg "list" = none) (hN : X.N[i]? = some x := by rfl) (hv : Vis X.env.scope x := by first | exact Or.inl rfl | exact Or.inr (Or.inl rfl) | exact Or.inr (Or.inr rfl)) (hd : (x == ("__debug__" : Str)) = false := by decide)
    (hcd : (x == ("__classdict__" : Str)) = false := by decide) (he : starEach [.Name x p2] X.env = (false, eval (.Name x p2) X.env) :: starEach [] X.env := by rfl) (hpl : (backTo pos (starEach [] X.env)).any (·.1) = false := by rfl) :
    IE g A W X (.Call (.Name "list" p) [.Name x p2] [] pos) (lsE (fun ds => some (.lst ds)) i) :=
  imp (pe_callTy (call_listG hf) hg (by rw [hf.mg]; exact hm) (by decide +kernel) (pa_cons (pe_var hN hv hd hcd) pa_nil he) (by decide) (by decide) he hpl) fun σ H Q ⟨L, ρ, st, a, q⟩ => by
    obtain ⟨b, ds, vs, z, q1, q2, q3, e, k⟩ := lsE_read a q
    cases e
    refine ⟨_, q1, _, _, rfl, .inl (SqL.of q2), fun l hl => k L _ (Ext.lay hl) (a.rel.lay hl) _ (.lst upd_same (fun z => a.rel.nbad hl z) (q3.kp (Kp.lay hl)))⟩
theorem ie_lenL (i : Nat) {x : Str} {p p2 pos : Pos} (hf : Fit g X) (hg : Gl X "len") (hm : g.mg "len" = none) (hN : X.N[i]? = some x := by rfl) (hv : Vis X.env.scope x := by first | exact Or.inl rfl | exact Or.inr (Or.inl rfl) | exact Or.inr (Or.inr rfl)) (hd : (x == ("__debug__" : Str)) = false := by decide)
    (hcd : (x == ("__classdict__" : Str)) = false := by decide) (he : starEach [.Name x p2] X.env = (false, eval (.Name x p2) X.env) :: starEach [] X.env := by rfl) (hpl : (backTo pos (starEach [] X.env)).any (·.1) = false := by rfl) :
    IE g A W X (.Call (.Name "len" p) [.Name x p2] [] pos) (lsE (fun ds => some (.int ds.length)) i) :=
  imp (pe_callB (call_lenG hf) hg (by rw [hf.mg]; exact hm) (by decide +kernel) (pa_cons (pe_var hN hv hd hcd) pa_nil he) (by decide) (by decide) he hpl) fun σ H Q ⟨L, ρ, st, a, q⟩ => by
    obtain ⟨b, ds, vs, z, q1, q2, q3, e, k⟩ := lsE_read a q
    cases e
    refine ⟨_, q1, _, _, rfl, .inl ⟨_, SqL.of q2, rfl⟩, k L H Ext.refl a.rel _ (by rw [← q3.length]; exact .int _)⟩
end
end DL

set_option Elab.async false
set_option linter.all false
set_option maxRecDepth 100000
set_option maxHeartbeats 4000000
/-! printed by gen.py: what the defs do. -/
namespace K61
open PySem PySem.Spec PyProof.Rows L2 DL
abbrev nG (j : Nat) : SG := fun d ρ => some (ρ.set j (some (.v d)))
def top (i : Nat) : Stmt := PySem.Challenge.pw_translatory_k61_values_and_applications.main.body.getD i (.Pass ⟨0, 0, 0, 0⟩)
def catch_TooLong (C : Str) : Option Bool := if C = "TooLong" then some true else if C = "InvalidFunction" then some false else if C = "BadArgument" then some false else none
structure Tb where
  parts : FP
  depth : FP
  count_parts : FP
  arity : FP
  has_right_arities : FP
  is_function : FP
  Evaluation_init : FI
  Evaluation_apply : FI
  Evaluation_repeat : FI
  evaluated : FP
  check_arguments : FP
  value : FP
  applications : FP
  _law_cell : FP
  _law_draws : FP
  _law_like : FP
  _law_fun : FP
  _law_pieces : FP
  _law_arity : FP
  _law_deep : FP
  _law_count : FP
  _law_fits_well : FP
  _law_is_fun : FP
  _law_apply : FP
  _law_told : FP
  law : FP
abbrev N_parts : List Str := ["function"]
noncomputable def s_parts (t : Tb) : SS :=
  (sS (iS (t1 (e2 eqD (e2 ixD (eV 0) (rS (.int 0))) (rS (.str "of"))))
    (rtS (e2 addD (eLst (aC (e2 ixD (eV 0) (rS (.int 1))) aN)) (eB listC (aC (e2 ixD (eV 0) (rS (.int 2))) aN))))
    nS)
    (sS (iS (t1 (e2 (inDD false) (e2 ixD (eV 0) (rS (.int 0))) (eTup (aC (rS (.str "repeat")) (aC (rS (.str "least")) aN)))))
    (rtS (eB listC (aC (eSl (eV 0) (oE (rS (.int 1))) oN) aN)))
    nS)
    (rtS (eLst aN))))
abbrev N_depth : List Str := ["function", "part"]
noncomputable def s_depth (t : Tb) : SS :=
  (rtS (e2 addD (rS (.int 1)) (eMaxD (aC (eLc (sI (cPn 1 t.parts [] (aC (eV 0) aN))) [1] (nG 1) tsNil (cPn 1 t.depth [] (aC (eV 1) aN))) aN) (aC (rS (.int 0)) aN))))
abbrev N_count_parts : List Str := ["function", "part"]
noncomputable def s_count_parts (t : Tb) : SS :=
  (rtS (e2 addD (rS (.int 1)) (eB sumC (aC (eLc (sI (cPn 1 t.parts [] (aC (eV 0) aN))) [1] (nG 1) tsNil (cPn 1 t.count_parts [] (aC (eV 1) aN))) aN))))
abbrev N_arity : List Str := ["function", "kind"]
noncomputable def s_arity (t : Tb) : SS :=
  (sS (aS 1 (e2 ixD (eV 0) (rS (.int 0))))
    (sS (iS (t1 (e2 (inDD false) (eV 1) (eTup (aC (rS (.str "zero")) (aC (rS (.str "arg")) aN)))))
    (rtS (e2 ixD (eV 0) (rS (.int 1))))
    nS)
    (sS (iS (t1 (e2 eqD (eV 1) (rS (.str "next"))))
    (rtS (rS (.int 1)))
    nS)
    (sS (iS (t1 (e2 eqD (eV 1) (rS (.str "of"))))
    (rtS (cPn 1 t.arity [] (aC (e2 ixD (e2 ixD (eV 0) (rS (.int 2))) (rS (.int 0))) aN)))
    nS)
    (sS (iS (t1 (e2 eqD (eV 1) (rS (.str "repeat"))))
    (rtS (e2 addD (cPn 1 t.arity [] (aC (e2 ixD (eV 0) (rS (.int 1))) aN)) (rS (.int 1))))
    nS)
    (rtS (e2 subD (cPn 1 t.arity [] (aC (e2 ixD (eV 0) (rS (.int 1))) aN)) (rS (.int 1)))))))))
abbrev N_has_right_arities : List Str := ["function", "kind", "count", "part", "inner"]
noncomputable def s_has_right_arities (t : Tb) : SS :=
  (sS (aS 1 (e2 ixD (eV 0) (rS (.int 0))))
    (sS (iS (t1 (e2 eqD (eV 1) (rS (.str "zero"))))
    (rtS (e3 leD leD (rS (.int 0)) (e2 ixD (eV 0) (rS (.int 1))) (rS (.int 6))))
    nS)
    (sS (iS (t1 (e2 eqD (eV 1) (rS (.str "arg"))))
    (rtS (eAn (e3 leD leD (rS (.int 1)) (e2 ixD (eV 0) (rS (.int 1))) (rS (.int 6))) (e3 leD ltD (rS (.int 0)) (e2 ixD (eV 0) (rS (.int 2))) (e2 ixD (eV 0) (rS (.int 1))))))
    nS)
    (sS (iS (tAn (t1 (e2 eqD (eV 1) (rS (.str "of")))) (t1 (e2 eqD (eB lenC (aC (e2 ixD (eV 0) (rS (.int 2))) aN)) (rS (.int 0)))))
    (rtS (rS (.bl false)))
    nS)
    (sS (iS (tNo (tE (eGa true (sI (cPn 1 t.parts [] (aC (eV 0) aN))) [3] (nG 3) (cPn 1 t.has_right_arities [] (aC (eV 3) aN)))))
    (rtS (rS (.bl false)))
    nS)
    (sS (iS (t1 (e2 eqD (eV 1) (rS (.str "of"))))
    (sS (aS 2 (cPn 1 t.arity [] (aC (eV 0) aN)))
    (rtS (eAn (e2 eqD (cPn 1 t.arity [] (aC (e2 ixD (eV 0) (rS (.int 1))) aN)) (eB lenC (aC (e2 ixD (eV 0) (rS (.int 2))) aN))) (eGa true (sI (e2 ixD (eV 0) (rS (.int 2)))) [4] (nG 4) (e2 eqD (cPn 1 t.arity [] (aC (eV 4) aN)) (eV 2))))))
    nS)
    (sS (iS (t1 (e2 eqD (eV 1) (rS (.str "repeat"))))
    (rtS (eAn (e2 ltD (cPn 1 t.arity [] (aC (e2 ixD (eV 0) (rS (.int 1))) aN)) (rS (.int 6))) (e2 eqD (cPn 1 t.arity [] (aC (e2 ixD (eV 0) (rS (.int 2))) aN)) (e2 addD (cPn 1 t.arity [] (aC (e2 ixD (eV 0) (rS (.int 1))) aN)) (rS (.int 2))))))
    nS)
    (rtS (eOr (e2 eqD (eV 1) (rS (.str "next"))) (e2 geD (cPn 1 t.arity [] (aC (e2 ixD (eV 0) (rS (.int 1))) aN)) (rS (.int 1))))))))))))
abbrev N_is_function : List Str := ["thing"]
noncomputable def s_is_function (t : Tb) : SS :=
  (rtS (eAn (e2 leD (cPn 1 t.depth [] (aC (eV 0) aN)) (rS (.int 12))) (eAn (e2 leD (cPn 1 t.count_parts [] (aC (eV 0) aN)) (rS (.int 200))) (cPn 1 t.has_right_arities [] (aC (eV 0) aN)))))
abbrev N_Evaluation_init : List Str := ["self", "limit"]
noncomputable def s_Evaluation_init (t : Tb) : SS :=
  (sS (fS_ 0 "Evaluation" "limit" (eV 1))
    (fS_ 0 "Evaluation" "count" (rS (.int 0))))
abbrev N_Evaluation_apply : List Str := ["self", "function", "arguments", "kind", "inner", "number", "part"]
noncomputable def lb_Evaluation_apply_1 (t : Tb) : SS :=
  (gS 5 iaddD (rS (.int 1)))
noncomputable def lb_Evaluation_apply_2 (t : Tb) : ST :=
  (t1 (e2 neD (cM 0 "Evaluation" "apply" 3 t.Evaluation_apply (aC (e2 ixD (eV 1) (rS (.int 1))) (aC (e2 addD (eTup (aC (eV 5) aN)) (eV 2)) aN))) (rS (.int 0))))
noncomputable def s_Evaluation_apply (t : Tb) : SS :=
  (sS (fAug 0 "Evaluation" "count" iaddD (rS (.int 1)))
    (sS (iS (t1 (e2 gtD (eF 0 "Evaluation" "count") (eF 0 "Evaluation" "limit")))
    (raS (mS "TooLong" "limit" (aC (eF 0 "Evaluation" "limit") aN)))
    nS)
    (sS (aS 3 (e2 ixD (eV 1) (rS (.int 0))))
    (sS (iS (t1 (e2 eqD (eV 3) (rS (.str "zero"))))
    (rtS (rS (.int 0)))
    nS)
    (sS (iS (t1 (e2 eqD (eV 3) (rS (.str "next"))))
    (rtS (e2 addD (e2 ixD (eV 2) (rS (.int 0))) (rS (.int 1))))
    nS)
    (sS (iS (t1 (e2 eqD (eV 3) (rS (.str "arg"))))
    (rtS (e2 ixD (eV 2) (e2 ixD (eV 1) (rS (.int 2)))))
    nS)
    (sS (iS (t1 (e2 eqD (eV 3) (rS (.str "of"))))
    (sS (aS 4 (eB tupleC (aC (eLc (sI (e2 ixD (eV 1) (rS (.int 2)))) [6] (nG 6) tsNil (cM 0 "Evaluation" "apply" 3 t.Evaluation_apply (aC (eV 6) (aC (eV 2) aN)))) aN)))
    (rtS (cM 0 "Evaluation" "apply" 3 t.Evaluation_apply (aC (e2 ixD (eV 1) (rS (.int 1))) (aC (eV 4) aN)))))
    nS)
    (sS (iS (t1 (e2 eqD (eV 3) (rS (.str "repeat"))))
    (rtS (cM 0 "Evaluation" "repeat" 4 t.Evaluation_repeat (aC (eV 1) (aC (e2 ixD (eV 2) (rS (.int 0))) (aC (eSl (eV 2) (oE (rS (.int 1))) oN) aN)))))
    nS)
    (sS (aS 5 (rS (.int 0)))
    (sS (wS (lb_Evaluation_apply_2 t) (lb_Evaluation_apply_1 t))
    (rtS (eV 5))))))))))))
abbrev N_Evaluation_repeat : List Str := ["self", "function", "count", "rest", "found", "number"]
noncomputable def lb_Evaluation_repeat_1 (t : Tb) : SS :=
  (aS 4 (cM 0 "Evaluation" "apply" 3 t.Evaluation_apply (aC (e2 ixD (eV 1) (rS (.int 2))) (aC (e2 addD (eTup (aC (eV 5) (aC (eV 4) aN))) (eV 3)) aN))))
noncomputable def s_Evaluation_repeat (t : Tb) : SS :=
  (sS (aS 4 (cM 0 "Evaluation" "apply" 3 t.Evaluation_apply (aC (e2 ixD (eV 1) (rS (.int 1))) (aC (eV 3) aN))))
    (sS (fS (r1I (aC (eV 2) aN)) (nG 5) (lb_Evaluation_repeat_1 t))
    (rtS (eV 4))))
abbrev N_evaluated : List Str := ["function", "arguments", "limit", "evaluation", "found"]
noncomputable def s_evaluated (t : Tb) : SS :=
  (sS (dS (cPn 2 t.check_arguments [] (aC (eV 0) (aC (eV 1) aN))))
    (sS (mkS 3 "Evaluation" 2 t.Evaluation_init (aC (eV 2) aN))
    (sS (aS 4 (cM 3 "Evaluation" "apply" 3 t.Evaluation_apply (aC (eV 0) (aC (eV 1) aN))))
    (rtS (eTup (aC (eV 4) (aC (eF 3 "Evaluation" "count") aN)))))))
abbrev N_check_arguments : List Str := ["function", "arguments", "argument"]
noncomputable def s_check_arguments (t : Tb) : SS :=
  (sS (iS (tNo (tE (cPn 1 t.is_function [] (aC (eV 0) aN))))
    (raS (rS ⟨"InvalidFunction", [], []⟩))
    nS)
    (iS (tOr_ (t1 (e2 neD (eB lenC (aC (eV 1) aN)) (cPn 1 t.arity [] (aC (eV 0) aN)))) (tE (eGa false (sI (eV 1)) [2] (nG 2) (e2 ltD (eV 2) (rS (.int 0))))))
    (raS (rS ⟨"BadArgument", [], []⟩))
    nS))
abbrev N_value : List Str := ["function", "arguments", "limit"]
noncomputable def s_value (t : Tb) : SS :=
  (rtS (e2 ixD (cPn 3 t.evaluated [] (aC (eV 0) (aC (eV 1) (aC (eV 2) aN)))) (rS (.int 0))))
abbrev N_applications : List Str := ["function", "arguments", "limit"]
noncomputable def s_applications (t : Tb) : SS :=
  (rtS (e2 ixD (cPn 3 t.evaluated [] (aC (eV 0) (aC (eV 1) (aC (eV 2) aN)))) (rS (.int 1))))
abbrev N__law_cell : List Str := ["_law_script", "_law_k"]
noncomputable def s__law_cell (t : Tb) : SS :=
  (sS (iS (t1 (e2 ltD (eV 1) (eB lenC (aC (eV 0) aN))))
    (rtS (eB absC (aC (eB intC (aC (e2 ixD (eV 0) (eV 1)) aN)) aN)))
    nS)
    (rtS (rS (.int 0))))
abbrev N__law_draws : List Str := ["_law_cell_here", "_law_count_here", "_law_rows", "_law_left", "_law_k", "_law_mixed"]
noncomputable def lb__law_draws_1 (t : Tb) : SS :=
  (iS (tAn (t1 (e2 geD (eV 0) (e2 powD (rS (.int 10)) (rS (.int 18))))) (t1 (e2 gtD (eV 3) (rS (.int 0)))))
    (sS (apS 2 (e2 modD (eB intC (aC (eV 3) aN)) (rS (.int 4096))))
    (aS 3 (e2 divD (eV 3) (rS (.int 4096)))))
    (sS (aS 5 (e2 modD (eB intC (aC (e2 addD (e2 mulD (eV 0) (rS (.int 48271))) (e2 mulD (e2 addD (eV 4) (rS (.int 1))) (rS (.int 69621)))) aN)) (rS (.int 2147483647))))
    (sS (aS 5 (e2 modD (eB intC (aC (e2 addD (e2 addD (e2 mulD (eV 5) (eV 5)) (e2 mulD (eV 5) (rS (.int 16807)))) (e2 mulD (eV 4) (rS (.int 7919)))) aN)) (rS (.int 2147483629))))
    (sS (aS 5 (e2 modD (eB intC (aC (e2 addD (e2 addD (e2 mulD (eV 5) (eV 5)) (eV 0)) (e2 mulD (rS (.int 13)) (eV 4))) aN)) (rS (.int 2147483587))))
    (apS 2 (e2 modD (e2 divD (eV 5) (rS (.int 7))) (rS (.int 4096))))))))
noncomputable def s__law_draws (t : Tb) : SS :=
  (sS (nlS 2 aN)
    (sS (aS 3 (eV 0))
    (sS (fS (r1I (aC (eV 1) aN)) (nG 4) (lb__law_draws_1 t))
    (rtL 2))))
abbrev N__law_like : List Str := ["_law_actual", "_law_due", "_law_k"]
noncomputable def s__law_like (t : Tb) : SS :=
  (sS (iS (t1 (e2 isND (eV 1) (rS .non)))
    (rtS (e2 isND (eV 0) (rS .non)))
    nS)
    (sS (iS (tE (eIs .bool (eV 1)))
    (rtS (eAn (eIs .bool (eV 0)) (e2 eqD (eV 0) (eV 1))))
    nS)
    (sS (iS (tE (eIs .str (eV 1)))
    (rtS (eAn (eIs .str (eV 0)) (e2 eqD (eV 0) (eV 1))))
    nS)
    (sS (iS (tE (eIs .int (eV 1)))
    (rtS (eAn (eIs .int (eV 0)) (eAn (eNo (eIs .bool (eV 0))) (e2 eqD (eV 0) (eV 1)))))
    nS)
    (sS (iS (tOr_ (t1 (e2 neD (eIs .list (eV 1)) (eIs .list (eV 0)))) (t1 (e2 neD (eIs .tuple (eV 1)) (eIs .tuple (eV 0)))))
    (rtS (rS (.bl false)))
    nS)
    (sS (iS (t1 (e2 neD (eB lenC (aC (eV 0) aN)) (eB lenC (aC (eV 1) aN))))
    (rtS (rS (.bl false)))
    nS)
    (rtS (eB allC (aC (eLc (r1I (aC (eB lenC (aC (eV 1) aN)) aN)) [2] (nG 2) tsNil (cPn 2 t._law_like [] (aC (e2 ixD (eV 0) (eV 2)) (aC (e2 ixD (eV 1) (eV 2)) aN)))) aN)))))))))
abbrev N__law_fun : List Str := ["_law_draws_here", "_law_at", "_law_many", "_law_deep_here", "_law_draw", "_law_way", "_law_count_here", "_law_inner", "_law_k"]
noncomputable def s__law_fun (t : Tb) : SS :=
  (sS (aS 4 (e2 addD (e2 ixD (eV 0) (e2 modD (eV 1) (eB lenC (aC (eV 0) aN)))) (e2 mulD (rS (.int 17)) (eV 1))))
    (sS (aS 5 (e2 modD (eV 4) (rS (.int 9))))
    (sS (iS (tOr_ (t1 (e2 ltD (eV 3) (rS (.int 2)))) (t1 (e2 ltD (eV 5) (rS (.int 2)))))
    (sS (iS (tAn (t1 (e2 eqD (eV 2) (rS (.int 1)))) (t1 (e2 eqD (e2 modD (e2 divD (eV 4) (rS (.int 9))) (rS (.int 3))) (rS (.int 0)))))
    (rtS (eTup (aC (rS (.str "next")) aN)))
    nS)
    (sS (iS (tAn (t1 (e2 gtD (eV 2) (rS (.int 0)))) (t1 (e2 gtD (e2 modD (e2 divD (eV 4) (rS (.int 9))) (rS (.int 4))) (rS (.int 0)))))
    (rtS (eTup (aC (rS (.str "arg")) (aC (eV 2) (aC (e2 modD (e2 divD (eV 4) (rS (.int 36))) (eV 2)) aN)))))
    nS)
    (rtS (eTup (aC (rS (.str "zero")) (aC (eV 2) aN))))))
    nS)
    (sS (iS (tOr_ (t1 (e2 ltD (eV 5) (rS (.int 5)))) (tAn (t1 (e2 eqD (eV 2) (rS (.int 0)))) (t1 (e2 ltD (eV 5) (rS (.int 7))))))
    (sS (aS 6 (e2 addD (rS (.int 1)) (e2 modD (e2 divD (eV 4) (rS (.int 9))) (rS (.int 2)))))
    (sS (aS 7 (eB tupleC (aC (eLc (r1I (aC (eV 6) aN)) [8] (nG 8) tsNil (cPn 4 t._law_fun [] (aC (eV 0) (aC (e2 addD (e2 addD (e2 mulD (rS (.int 5)) (eV 1)) (rS (.int 3))) (eV 8)) (aC (eV 2) (aC (e2 subD (eV 3) (rS (.int 1))) aN)))))) aN)))
    (rtS (eTup (aC (rS (.str "of")) (aC (cPn 4 t._law_fun [] (aC (eV 0) (aC (e2 addD (e2 mulD (rS (.int 5)) (eV 1)) (rS (.int 9))) (aC (eV 6) (aC (e2 subD (eV 3) (rS (.int 1))) aN))))) (aC (eV 7) aN)))))))
    nS)
    (sS (iS (tAn (t1 (e2 ltD (eV 5) (rS (.int 8)))) (t1 (e2 gtD (eV 2) (rS (.int 0)))))
    (rtS (eTup (aC (rS (.str "repeat")) (aC (cPn 4 t._law_fun [] (aC (eV 0) (aC (e2 addD (e2 mulD (rS (.int 5)) (eV 1)) (rS (.int 4))) (aC (e2 subD (eV 2) (rS (.int 1))) (aC (e2 subD (eV 3) (rS (.int 1))) aN))))) (aC (cPn 4 t._law_fun [] (aC (eV 0) (aC (e2 addD (e2 mulD (rS (.int 5)) (eV 1)) (rS (.int 8))) (aC (e2 addD (eV 2) (rS (.int 1))) (aC (e2 subD (eV 3) (rS (.int 1))) aN))))) aN)))))
    nS)
    (rtS (eTup (aC (rS (.str "least")) (aC (cPn 4 t._law_fun [] (aC (eV 0) (aC (e2 addD (e2 mulD (rS (.int 5)) (eV 1)) (rS (.int 6))) (aC (e2 addD (eV 2) (rS (.int 1))) (aC (e2 subD (eV 3) (rS (.int 1))) aN))))) aN)))))))))
abbrev N__law_pieces : List Str := ["_law_thing"]
noncomputable def s__law_pieces (t : Tb) : SS :=
  (sS (iS (t1 (e2 eqD (e2 ixD (eV 0) (rS (.int 0))) (rS (.str "of"))))
    (rtS (e2 addD (eLst (aC (e2 ixD (eV 0) (rS (.int 1))) aN)) (eB listC (aC (e2 ixD (eV 0) (rS (.int 2))) aN))))
    nS)
    (sS (iS (t1 (e2 (inDD false) (e2 ixD (eV 0) (rS (.int 0))) (eTup (aC (rS (.str "repeat")) (aC (rS (.str "least")) aN)))))
    (rtS (eB listC (aC (eSl (eV 0) (oE (rS (.int 1))) oN) aN)))
    nS)
    (rtS (eLst aN))))
abbrev N__law_arity : List Str := ["_law_thing", "_law_word"]
noncomputable def s__law_arity (t : Tb) : SS :=
  (sS (aS 1 (e2 ixD (eV 0) (rS (.int 0))))
    (sS (iS (t1 (e2 (inDD false) (eV 1) (eTup (aC (rS (.str "zero")) (aC (rS (.str "arg")) aN)))))
    (rtS (e2 ixD (eV 0) (rS (.int 1))))
    nS)
    (sS (iS (t1 (e2 eqD (eV 1) (rS (.str "next"))))
    (rtS (rS (.int 1)))
    nS)
    (sS (iS (t1 (e2 eqD (eV 1) (rS (.str "of"))))
    (sS (iS (t1 (e2 eqD (eB lenC (aC (e2 ixD (eV 0) (rS (.int 2))) aN)) (rS (.int 0))))
    (rtS (e1 negD (rS (.int 99))))
    nS)
    (rtS (cPn 1 t._law_arity [] (aC (e2 ixD (e2 ixD (eV 0) (rS (.int 2))) (rS (.int 0))) aN))))
    nS)
    (sS (iS (t1 (e2 eqD (eV 1) (rS (.str "repeat"))))
    (rtS (e2 addD (cPn 1 t._law_arity [] (aC (e2 ixD (eV 0) (rS (.int 1))) aN)) (rS (.int 1))))
    nS)
    (rtS (e2 subD (cPn 1 t._law_arity [] (aC (e2 ixD (eV 0) (rS (.int 1))) aN)) (rS (.int 1)))))))))
abbrev N__law_deep : List Str := ["_law_thing", "_law_most", "_law_part"]
noncomputable def lb__law_deep_1 (t : Tb) : SS :=
  (aS 1 (eB max2C (aC (eV 1) (aC (cPn 1 t._law_deep [] (aC (eV 2) aN)) aN))))
noncomputable def s__law_deep (t : Tb) : SS :=
  (sS (aS 1 (rS (.int 0)))
    (sS (fS (sI (cPn 1 t._law_pieces [] (aC (eV 0) aN))) (nG 2) (lb__law_deep_1 t))
    (rtS (e2 addD (eV 1) (rS (.int 1))))))
abbrev N__law_count : List Str := ["_law_thing", "_law_total", "_law_part"]
noncomputable def lb__law_count_1 (t : Tb) : SS :=
  (aS 1 (e2 addD (eV 1) (cPn 1 t._law_count [] (aC (eV 2) aN))))
noncomputable def s__law_count (t : Tb) : SS :=
  (sS (aS 1 (rS (.int 1)))
    (sS (fS (sI (cPn 1 t._law_pieces [] (aC (eV 0) aN))) (nG 2) (lb__law_count_1 t))
    (rtS (eV 1))))
abbrev N__law_fits_well : List Str := ["_law_thing", "_law_word", "_law_part"]
noncomputable def lb__law_fits_well_1 (t : Tb) : SS :=
  (iS (tNo (tE (cPn 1 t._law_fits_well [] (aC (eV 2) aN))))
    (rtS (rS (.bl false)))
    nS)
noncomputable def s__law_fits_well (t : Tb) : SS :=
  (sS (aS 1 (e2 ixD (eV 0) (rS (.int 0))))
    (sS (iS (t1 (e2 eqD (eV 1) (rS (.str "zero"))))
    (rtS (eAn (e2 leD (rS (.int 0)) (e2 ixD (eV 0) (rS (.int 1)))) (e2 leD (e2 ixD (eV 0) (rS (.int 1))) (rS (.int 6)))))
    nS)
    (sS (iS (t1 (e2 eqD (eV 1) (rS (.str "arg"))))
    (rtS (eAn (e2 leD (rS (.int 1)) (e2 ixD (eV 0) (rS (.int 1)))) (eAn (e2 leD (e2 ixD (eV 0) (rS (.int 1))) (rS (.int 6))) (eAn (e2 leD (rS (.int 0)) (e2 ixD (eV 0) (rS (.int 2)))) (e2 ltD (e2 ixD (eV 0) (rS (.int 2))) (e2 ixD (eV 0) (rS (.int 1))))))))
    nS)
    (sS (iS (t1 (e2 eqD (eV 1) (rS (.str "next"))))
    (rtS (rS (.bl true)))
    nS)
    (sS (fS (sI (cPn 1 t._law_pieces [] (aC (eV 0) aN))) (nG 2) (lb__law_fits_well_1 t))
    (sS (iS (t1 (e2 eqD (eV 1) (rS (.str "of"))))
    (sS (iS (tOr_ (t1 (e2 eqD (eB lenC (aC (e2 ixD (eV 0) (rS (.int 2))) aN)) (rS (.int 0)))) (t1 (e2 neD (cPn 1 t._law_arity [] (aC (e2 ixD (eV 0) (rS (.int 1))) aN)) (eB lenC (aC (e2 ixD (eV 0) (rS (.int 2))) aN)))))
    (rtS (rS (.bl false)))
    nS)
    (rtS (e2 eqD (eB lenC (aC (eLc (sI (e2 ixD (eV 0) (rS (.int 2)))) [2] (nG 2) (t1 (e2 neD (cPn 1 t._law_arity [] (aC (eV 2) aN)) (cPn 1 t._law_arity [] (aC (e2 ixD (e2 ixD (eV 0) (rS (.int 2))) (rS (.int 0))) aN)))) (eV 2)) aN)) (rS (.int 0)))))
    nS)
    (sS (iS (t1 (e2 eqD (eV 1) (rS (.str "repeat"))))
    (rtS (eAn (e2 leD (cPn 1 t._law_arity [] (aC (e2 ixD (eV 0) (rS (.int 1))) aN)) (rS (.int 5))) (e2 eqD (cPn 1 t._law_arity [] (aC (e2 ixD (eV 0) (rS (.int 2))) aN)) (e2 addD (cPn 1 t._law_arity [] (aC (e2 ixD (eV 0) (rS (.int 1))) aN)) (rS (.int 2))))))
    nS)
    (rtS (e2 geD (cPn 1 t._law_arity [] (aC (e2 ixD (eV 0) (rS (.int 1))) aN)) (rS (.int 1)))))))))))
abbrev N__law_is_fun : List Str := ["_law_thing"]
noncomputable def s__law_is_fun (t : Tb) : SS :=
  (rtS (eAn (e2 leD (cPn 1 t._law_deep [] (aC (eV 0) aN)) (rS (.int 12))) (eAn (e2 leD (cPn 1 t._law_count [] (aC (eV 0) aN)) (rS (.int 200))) (cPn 1 t._law_fits_well [] (aC (eV 0) aN)))))
abbrev N__law_apply : List Str := ["_law_thing", "_law_arguments", "_law_left", "_law_word", "_law_values", "_law_part", "_law_found", "_law_k"]
noncomputable def lb__law_apply_1 (t : Tb) : SS :=
  (sS (aS 6 (cPn 3 t._law_apply [] (aC (e2 ixD (eV 0) (rS (.int 1))) (aC (e2 addD (eTup (aC (eV 7) aN)) (eV 1)) (aC (eV 2) aN)))))
    (sS (iS (t1 (e2 isND (eV 6) (rS .non)))
    (rtS (rS .non))
    nS)
    (sS (iS (t1 (e2 eqD (e2 ixD (eV 6) (rS (.int 0))) (rS (.int 0))))
    (rtS (eLst (aC (eV 7) (aC (e2 ixD (eV 6) (rS (.int 1))) aN))))
    nS)
    (aS 2 (e2 ixD (eV 6) (rS (.int 1)))))))
noncomputable def lb__law_apply_2 (t : Tb) : SS :=
  (sS (iS (t1 (e2 isND (eV 6) (rS .non)))
    (rtS (rS .non))
    nS)
    (aS 6 (cPn 3 t._law_apply [] (aC (e2 ixD (eV 0) (rS (.int 2))) (aC (e2 addD (eTup (aC (eV 7) (aC (e2 ixD (eV 6) (rS (.int 0))) aN))) (eSl (eV 1) (oE (rS (.int 1))) oN)) (aC (e2 ixD (eV 6) (rS (.int 1))) aN))))))
noncomputable def lb__law_apply_3 (t : Tb) : SS :=
  (sS (aS 6 (cPn 3 t._law_apply [] (aC (eV 5) (aC (eV 1) (aC (eV 2) aN)))))
    (sS (iS (t1 (e2 isND (eV 6) (rS .non)))
    (rtS (rS .non))
    nS)
    (sS (apS 4 (e2 ixD (eV 6) (rS (.int 0))))
    (aS 2 (e2 ixD (eV 6) (rS (.int 1)))))))
noncomputable def s__law_apply (t : Tb) : SS :=
  (sS (iS (t1 (e2 ltD (eV 2) (rS (.int 1))))
    (rtS (rS .non))
    nS)
    (sS (aS 2 (e2 subD (eV 2) (rS (.int 1))))
    (sS (aS 3 (e2 ixD (eV 0) (rS (.int 0))))
    (sS (iS (t1 (e2 eqD (eV 3) (rS (.str "zero"))))
    (rtS (eLst (aC (rS (.int 0)) (aC (eV 2) aN))))
    nS)
    (sS (iS (t1 (e2 eqD (eV 3) (rS (.str "next"))))
    (rtS (eLst (aC (e2 addD (e2 ixD (eV 1) (rS (.int 0))) (rS (.int 1))) (aC (eV 2) aN))))
    nS)
    (sS (iS (t1 (e2 eqD (eV 3) (rS (.str "arg"))))
    (rtS (eLst (aC (e2 ixD (eV 1) (e2 ixD (eV 0) (rS (.int 2)))) (aC (eV 2) aN))))
    nS)
    (sS (iS (t1 (e2 eqD (eV 3) (rS (.str "of"))))
    (sS (nlS 4 aN)
    (sS (fS (sI (e2 ixD (eV 0) (rS (.int 2)))) (nG 5) (lb__law_apply_3 t))
    (rtS (cPn 3 t._law_apply [] (aC (e2 ixD (eV 0) (rS (.int 1))) (aC (lsE (fun ds => some (.tup ds)) 4) (aC (eV 2) aN)))))))
    nS)
    (sS (iS (t1 (e2 eqD (eV 3) (rS (.str "repeat"))))
    (sS (aS 6 (cPn 3 t._law_apply [] (aC (e2 ixD (eV 0) (rS (.int 1))) (aC (eSl (eV 1) (oE (rS (.int 1))) oN) (aC (eV 2) aN)))))
    (sS (fS (r1I (aC (e2 ixD (eV 1) (rS (.int 0))) aN)) (nG 7) (lb__law_apply_2 t))
    (rtS (eV 6))))
    nS)
    (sS (fS (r1I (aC (e2 addD (eV 2) (rS (.int 1))) aN)) (nG 7) (lb__law_apply_1 t))
    (rtS (rS .non)))))))))))
abbrev N__law_told : List Str := ["_law_thing", "_law_arguments", "_law_limit", "_law_way", "e"]
noncomputable def s__law_told (t : Tb) : SS :=
  (tryS catch_TooLong "TooLong" 4
    (sS (iS (t1 (e2 eqD (eV 3) (rS (.int 0))))
    (rtS (eTup (aC (rS (.str "value")) (aC (cK 2 1 t.value (aC (eV 0) (aC (eV 1) aN)) (aC (eV 2) aN)) aN))))
    nS)
    (rtS (eTup (aC (rS (.str "value")) (aC (cK 2 1 t.applications (aC (eV 0) (aC (eV 1) aN)) (aC (eV 2) aN)) aN)))))
    (fun a dx => (rtS (eTup (aC (rS (.str "long")) (aC (exF 4 a dx "TooLong" "limit") aN))))))
abbrev N_law : List Str := ["_law_script", "_law_turn", "_law_draws_here", "_law_thing", "_law_arguments", "_law_found", "_law_way", "_law_used", "_law_k"]
noncomputable def lb_law_1 (t : Tb) : SS :=
  (iS (tNo (tE (cPn 2 t._law_like [] (aC (cPn 4 t._law_told [] (aC (eV 3) (aC (eV 4) (aC (rS (.int 300)) (aC (eV 6) aN))))) (aC (eTup (aC (rS (.str "long")) (aC (rS (.int 300)) aN))) aN)))))
    (rtS (rS (.bl false)))
    nS)
noncomputable def lb_law_2 (t : Tb) : SS :=
  (sS (aS 2 (cPn 2 t._law_draws [] (aC (cPn 2 t._law_cell [] (aC (eV 0) (aC (eV 1) aN))) (aC (rS (.int 60)) aN))))
    (sS (aS 3 (cPn 4 t._law_fun [] (aC (eV 2) (aC (eV 1) (aC (e2 modD (e2 ixD (eV 2) (rS (.int 59))) (rS (.int 4))) (aC (e2 addD (rS (.int 2)) (e2 modD (e2 ixD (eV 2) (rS (.int 58))) (rS (.int 3)))) aN))))))
    (sS (iS (tNo (tE (cPn 1 t._law_is_fun [] (aC (eV 3) aN))))
    (rtS (rS (.bl false)))
    nS)
    (sS (aS 4 (eB tupleC (aC (eLc (r1I (aC (cPn 1 t._law_arity [] (aC (eV 3) aN)) aN)) [8] (nG 8) tsNil (e2 modD (e2 ixD (eV 2) (e2 addD (rS (.int 50)) (eV 8))) (rS (.int 5)))) aN)))
    (sS (aS 5 (cPn 3 t._law_apply [] (aC (eV 3) (aC (eV 4) (aC (rS (.int 300)) aN)))))
    (iS (t1 (e2 isND (eV 5) (rS .non)))
    (fS (r1I (aC (rS (.int 2)) aN)) (nG 6) (lb_law_1 t))
    (sS (aS 7 (e2 subD (rS (.int 300)) (e2 ixD (eV 5) (rS (.int 1)))))
    (sS (iS (tNo (tE (cPn 2 t._law_like [] (aC (cPn 4 t._law_told [] (aC (eV 3) (aC (eV 4) (aC (eV 7) (aC (rS (.int 0)) aN))))) (aC (eTup (aC (rS (.str "value")) (aC (e2 ixD (eV 5) (rS (.int 0))) aN))) aN)))))
    (rtS (rS (.bl false)))
    nS)
    (sS (iS (tNo (tE (cPn 2 t._law_like [] (aC (cPn 4 t._law_told [] (aC (eV 3) (aC (eV 4) (aC (eV 7) (aC (rS (.int 1)) aN))))) (aC (eTup (aC (rS (.str "value")) (aC (eV 7) aN))) aN)))))
    (rtS (rS (.bl false)))
    nS)
    (iS (tNo (tE (cPn 2 t._law_like [] (aC (cPn 4 t._law_told [] (aC (eV 3) (aC (eV 4) (aC (e2 subD (eV 7) (rS (.int 1))) (aC (e2 modD (e2 ixD (eV 2) (rS (.int 57))) (rS (.int 2))) aN))))) (aC (eTup (aC (rS (.str "long")) (aC (e2 subD (eV 7) (rS (.int 1))) aN))) aN)))))
    (rtS (rS (.bl false)))
    nS))))))))))
noncomputable def s_law (t : Tb) : SS :=
  (sS (fS (r1I (aC (rS (.int 3)) aN)) (nG 1) (lb_law_2 t))
    (rtS (rS (.bl true))))
noncomputable def tbS (t : Tb) : Tb where
  parts := runP N_parts.length (s_parts t)
  depth := runP N_depth.length (s_depth t)
  count_parts := runP N_count_parts.length (s_count_parts t)
  arity := runP N_arity.length (s_arity t)
  has_right_arities := runP N_has_right_arities.length (s_has_right_arities t)
  is_function := runP N_is_function.length (s_is_function t)
  Evaluation_init := runI N_Evaluation_init.length (s_Evaluation_init t)
  Evaluation_apply := runI N_Evaluation_apply.length (s_Evaluation_apply t)
  Evaluation_repeat := runI N_Evaluation_repeat.length (s_Evaluation_repeat t)
  evaluated := runP N_evaluated.length (s_evaluated t)
  check_arguments := runP N_check_arguments.length (s_check_arguments t)
  value := runP N_value.length (s_value t)
  applications := runP N_applications.length (s_applications t)
  _law_cell := runP N__law_cell.length (s__law_cell t)
  _law_draws := runP N__law_draws.length (s__law_draws t)
  _law_like := runP N__law_like.length (s__law_like t)
  _law_fun := runP N__law_fun.length (s__law_fun t)
  _law_pieces := runP N__law_pieces.length (s__law_pieces t)
  _law_arity := runP N__law_arity.length (s__law_arity t)
  _law_deep := runP N__law_deep.length (s__law_deep t)
  _law_count := runP N__law_count.length (s__law_count t)
  _law_fits_well := runP N__law_fits_well.length (s__law_fits_well t)
  _law_is_fun := runP N__law_is_fun.length (s__law_is_fun t)
  _law_apply := runP N__law_apply.length (s__law_apply t)
  _law_told := runP N__law_told.length (s__law_told t)
  law := runP N_law.length (s_law t)
def tb0 : Tb where
  parts := fun _ => none
  depth := fun _ => none
  count_parts := fun _ => none
  arity := fun _ => none
  has_right_arities := fun _ => none
  is_function := fun _ => none
  Evaluation_init := fun _ _ => none
  Evaluation_apply := fun _ _ => none
  Evaluation_repeat := fun _ _ => none
  evaluated := fun _ => none
  check_arguments := fun _ => none
  value := fun _ => none
  applications := fun _ => none
  _law_cell := fun _ => none
  _law_draws := fun _ => none
  _law_like := fun _ => none
  _law_fun := fun _ => none
  _law_pieces := fun _ => none
  _law_arity := fun _ => none
  _law_deep := fun _ => none
  _law_count := fun _ => none
  _law_fits_well := fun _ => none
  _law_is_fun := fun _ => none
  _law_apply := fun _ => none
  _law_told := fun _ => none
  law := fun _ => none
noncomputable def tb : Nat → Tb
  | 0 => tb0
  | n + 1 => tbS (tb n)
end K61

set_option Elab.async false
set_option linter.all false
set_option maxRecDepth 100000
set_option maxHeartbeats 4000000
/-! DLV: how the combinators evaluate, step by step: a lemma set for simp only. -/
namespace DL
open PySem PySem.Spec PyProof.Rows L2
section
variable {α β : Type} {ρ ρ1 : Rho} {st st1 : Sto} {d e z : D} {x : Xn}
def bK {α β : Type} (k : α → Sm β) (ρ : Rho) : Option (Res α × Sto) → Option (Res β × Sto)
  | some (.ok a, st1) => k a ρ st1
  | some (.ex x, st1) => some (.ex x, st1)
  | none => none
theorem bS_ev (f : Sm α) (k : α → Sm β) : bS f k ρ st = bK k ρ (f ρ st) := rfl
theorem bK_ok (k : α → Sm β) (a : α) : bK k ρ (some (.ok a, st1)) = k a ρ st1 := rfl
theorem bK_ex (k : α → Sm β) : bK k ρ (some (.ex x, st1)) = some (.ex x, st1) := rfl
theorem rS_ev (a : α) : rS a ρ st = some (.ok a, st) := rfl
def oK {α : Type} (st : Sto) : Option α → Option (Res α × Sto)
  | some a => some (.ok a, st)
  | none => none
theorem oS_ev (o : Option α) : oS o ρ st = oK st o := rfl
theorem oK_some (a : α) : oK st (some a) = some (.ok a, st) := rfl
theorem oK_none : oK st (none : Option α) = none := rfl
theorem eV_ev (i : Nat) : eV i ρ st = (match ρ[i]? with | some (some (.v d)) => some (.ok d, st) | _ => none) := rfl
theorem eV_0 {r : Rho} : eV 0 (some (.v d) :: r) st = some (.ok d, st) := rfl
theorem eV_1 {a : Option S} {r : Rho} : eV 1 (a :: some (.v d) :: r) st = some (.ok d, st) := rfl
theorem eV_2 {a b : Option S} {r : Rho} : eV 2 (a :: b :: some (.v d) :: r) st = some (.ok d, st) := rfl
theorem eV_3 {a b c : Option S} {r : Rho} : eV 3 (a :: b :: c :: some (.v d) :: r) st = some (.ok d, st) := rfl
theorem eV_4 {a b c a1 : Option S} {r : Rho} : eV 4 (a :: b :: c :: a1 :: some (.v d) :: r) st = some (.ok d, st) := rfl
theorem eV_5 {a b c a1 a2 : Option S} {r : Rho} : eV 5 (a :: b :: c :: a1 :: a2 :: some (.v d) :: r) st = some (.ok d, st) := rfl
theorem eV_6 {a b c a1 a2 a3 : Option S} {r : Rho} : eV 6 (a :: b :: c :: a1 :: a2 :: a3 :: some (.v d) :: r) st = some (.ok d, st) := rfl
theorem eV_7 {a b c a1 a2 a3 a4 : Option S} {r : Rho} : eV 7 (a :: b :: c :: a1 :: a2 :: a3 :: a4 :: some (.v d) :: r) st = some (.ok d, st) := rfl
theorem eV_8 {a b c a1 a2 a3 a4 a5 : Option S} {r : Rho} : eV 8 (a :: b :: c :: a1 :: a2 :: a3 :: a4 :: a5 :: some (.v d) :: r) st = some (.ok d, st) := rfl
theorem set_0 {u a : Option S} {r : Rho} : (a :: r).set 0 u = u :: r := rfl
theorem set_1 {u a b : Option S} {r : Rho} : (a :: b :: r).set 1 u = a :: u :: r := rfl
theorem set_2 {u a b c : Option S} {r : Rho} : (a :: b :: c :: r).set 2 u = a :: b :: u :: r := rfl
theorem set_3 {u a b c a1 : Option S} {r : Rho} : (a :: b :: c :: a1 :: r).set 3 u = a :: b :: c :: u :: r := rfl
theorem set_4 {u a b c a1 a2 : Option S} {r : Rho} : (a :: b :: c :: a1 :: a2 :: r).set 4 u = a :: b :: c :: a1 :: u :: r := rfl
theorem set_5 {u a b c a1 a2 a3 : Option S} {r : Rho} : (a :: b :: c :: a1 :: a2 :: a3 :: r).set 5 u = a :: b :: c :: a1 :: a2 :: u :: r := rfl
theorem set_6 {u a b c a1 a2 a3 a4 : Option S} {r : Rho} : (a :: b :: c :: a1 :: a2 :: a3 :: a4 :: r).set 6 u = a :: b :: c :: a1 :: a2 :: a3 :: u :: r := rfl
theorem set_7 {u a b c a1 a2 a3 a4 a5 : Option S} {r : Rho} : (a :: b :: c :: a1 :: a2 :: a3 :: a4 :: a5 :: r).set 7 u = a :: b :: c :: a1 :: a2 :: a3 :: a4 :: u :: r := rfl
theorem set_8 {u a b c a1 a2 a3 a4 a5 a6 : Option S} {r : Rho} : (a :: b :: c :: a1 :: a2 :: a3 :: a4 :: a5 :: a6 :: r).set 8 u = a :: b :: c :: a1 :: a2 :: a3 :: a4 :: a5 :: u :: r := rfl
theorem wipeR_nil : wipeR ρ [] = ρ := rfl
theorem wipeR_cons {v : Nat} {vs : List Nat} : wipeR ρ (v :: vs) = (wipeR ρ vs).set v none := rfl
/-! expressions -/
theorem e2_ev (hop : D → D → Option D) (f h : SE) : e2 hop f h ρ st = bK (fun d => bS h fun e => oS (hop d e)) ρ (f ρ st) := rfl
theorem e1_ev (hop : D → Option D) (f : SE) : e1 hop f ρ st = bK (fun d => oS (hop d)) ρ (f ρ st) := rfl
theorem aN_ev : aN ρ st = some (.ok [], st) := rfl
theorem aC_ev (f : SE) (r : SA) : aC f r ρ st = bK (fun d => bS r fun ds => rS (d :: ds)) ρ (f ρ st) := rfl
theorem eTup_ev (r : SA) : eTup r ρ st = bK (fun ds => oS (dTup ds)) ρ (r ρ st) := rfl
theorem eLst_ev (r : SA) : eLst r ρ st = bK (fun ds => oS (dLst ds)) ρ (r ρ st) := rfl
theorem dTup_0 : dTup [] = some (.tup []) := rfl
theorem dTup_1 {a : D} : dTup [a] = some (.tup [a]) := rfl
theorem dTup_2 {a b : D} : dTup [a, b] = some (.tup [a, b]) := rfl
theorem dTup_3 {a b c : D} : dTup [a, b, c] = some (.tup [a, b, c]) := rfl
theorem dLst_0 : dLst [] = some (.lst []) := rfl
theorem dLst_1 {a : D} : dLst [a] = some (.lst [a]) := rfl
theorem dLst_2 {a b : D} : dLst [a, b] = some (.lst [a, b]) := rfl
theorem dLst_3 {a b c : D} : dLst [a, b, c] = some (.lst [a, b, c]) := rfl
theorem t1_ev (f : SE) : t1 f ρ st = bK (fun d => oS (blD d)) ρ (f ρ st) := rfl
theorem blD_bl {b : Bool} : blD (.bl b) = some b := rfl
theorem tE_ev (f : SE) : tE f ρ st = bK (fun d => oS (truD d)) ρ (f ρ st) := rfl
theorem truD_bl {b : Bool} : truD (.bl b) = some b := rfl
theorem truD_non : truD .non = some false := rfl
theorem tNo_ev (f : ST) : tNo f ρ st = bK (fun b => rS (!b)) ρ (f ρ st) := rfl
def andK (h : ST) (ρ : Rho) : Option (Res Bool × Sto) → Option (Res Bool × Sto) := bK (fun b => if b = true then h else rS false) ρ
theorem tAn_ev (f h : ST) : tAn f h ρ st = andK h ρ (f ρ st) := rfl
theorem andK_t (h : ST) : andK h ρ (some (.ok true, st1)) = h ρ st1 := rfl
theorem andK_f (h : ST) : andK h ρ (some (.ok false, st1)) = some (.ok false, st1) := rfl
def orK (h : ST) (ρ : Rho) : Option (Res Bool × Sto) → Option (Res Bool × Sto) := bK (fun b => if b = true then rS true else h) ρ
theorem tOr_ev (f h : ST) : tOr_ f h ρ st = orK h ρ (f ρ st) := rfl
theorem orK_t (h : ST) : orK h ρ (some (.ok true, st1)) = some (.ok true, st1) := rfl
theorem orK_f (h : ST) : orK h ρ (some (.ok false, st1)) = h ρ st1 := rfl
def anK (h : SE) (ρ : Rho) : Option (Res D × Sto) → Option (Res D × Sto) := bK (fun d => bS (oS (blD d)) fun b => if b = true then h else rS (.bl false)) ρ
theorem eAn_ev (f h : SE) : eAn f h ρ st = anK h ρ (f ρ st) := rfl
theorem anK_t (h : SE) : anK h ρ (some (.ok (.bl true), st1)) = h ρ st1 := rfl
theorem anK_f (h : SE) : anK h ρ (some (.ok (.bl false), st1)) = some (.ok (.bl false), st1) := rfl
def orrK (h : SE) (ρ : Rho) : Option (Res D × Sto) → Option (Res D × Sto) := bK (fun d => bS (oS (blD d)) fun b => if b = true then rS (.bl true) else h) ρ
theorem eOr_ev (f h : SE) : eOr f h ρ st = orrK h ρ (f ρ st) := rfl
theorem orrK_t (h : SE) : orrK h ρ (some (.ok (.bl true), st1)) = some (.ok (.bl true), st1) := rfl
theorem orrK_f (h : SE) : orrK h ρ (some (.ok (.bl false), st1)) = h ρ st1 := rfl
theorem eNo_ev (f : SE) : eNo f ρ st = bK (fun d => bS (oS (blD d)) fun b => rS (.bl (!b))) ρ (f ρ st) := rfl
def ifK (f h : SE) (ρ : Rho) : Option (Res Bool × Sto) → Option (Res D × Sto) := bK (fun b => if b = true then f else h) ρ
theorem eIf_ev (c : ST) (f h : SE) : eIf c f h ρ st = ifK f h ρ (c ρ st) := rfl
theorem ifK_t (f h : SE) : ifK f h ρ (some (.ok true, st1)) = f ρ st1 := rfl
theorem ifK_f (f h : SE) : ifK f h ρ (some (.ok false, st1)) = h ρ st1 := rfl
def chK (hop : D → D → Option D) (k : SE) (e : D) (ρ : Rho) : Option (Res Bool × Sto) → Option (Res D × Sto) := bK (fun b => if b = true then bS k fun c => oS (hop e c) else rS (.bl false)) ρ
theorem e3_ev (hop hop' : D → D → Option D) (f h k : SE) : e3 hop hop' f h k ρ st = bK (fun d => bS h fun e => bS (oS (hop d e)) fun z ρ st => chK hop' k e ρ (oS (blD z) ρ st)) ρ (f ρ st) := rfl
theorem chK_t (hop : D → D → Option D) (k : SE) : chK hop k e ρ (some (.ok true, st1)) = bS k (fun c => oS (hop e c)) ρ st1 := rfl
theorem chK_f (hop : D → D → Option D) (k : SE) : chK hop k e ρ (some (.ok false, st1)) = some (.ok (.bl false), st1) := rfl
theorem oN_ev : oN ρ st = some (.ok none, st) := rfl
theorem oE_ev (f : SE) : oE f ρ st = bK (fun d => oS (inD d)) ρ (f ρ st) := rfl
theorem inD_int {i : Int} : inD (.int i) = some (some i) := rfl
theorem eSl_ev (f : SE) (lo hi : SO) : eSl f lo hi ρ st = bK (fun d => bS lo fun l => bS hi fun u => oS (slD d l u)) ρ (f ρ st) := rfl
theorem eB_ev (hop : List D → Option D) (f : SA) : eB hop f ρ st = bK (fun ds => oS (hop ds)) ρ (f ρ st) := rfl
theorem eIs_ev (T : Ty) (f : SE) : eIs T f ρ st = bK (fun d => oS ((isTy T d).map .bl)) ρ (f ρ st) := rfl
def mxK (h : SA) (ρ : Rho) : Option (Res (List D) × Sto) → Option (Res D × Sto) := bK (fun ds => bS h fun es => match ds, es with | [d], [e] => oS (maxDD d e) | _, _ => fun _ _ => none) ρ
theorem eMaxD_ev (f h : SA) : eMaxD f h ρ st = mxK h ρ (f ρ st) := rfl
def mxK2 (d : D) (ρ : Rho) : Option (Res (List D) × Sto) → Option (Res D × Sto) := bK (fun es => match es with | [e] => oS (maxDD d e) | _ => fun _ _ => none) ρ
theorem mxK_ok {h : SA} : mxK h ρ (some (.ok [d], st1)) = mxK2 d ρ (h ρ st1) := by
  show bK _ ρ (h ρ st1) = bK _ ρ (h ρ st1)
  generalize h ρ st1 = o
  match o with
  | some (.ok [], _) => rfl
  | some (.ok [_], _) => rfl
  | some (.ok (_ :: _ :: _), _) => rfl
  | some (.ex _, _) => rfl
  | none => rfl
theorem mxK2_ok : mxK2 d ρ (some (.ok [e], st1)) = oK st1 (maxDD d e) := rfl
theorem sI_ev (f : SE) : sI f ρ st = bK (fun d => oS (seqD d)) ρ (f ρ st) := rfl
theorem r1I_ev (f : SA) : r1I f ρ st = bK (fun ds => oS (rng1 ds)) ρ (f ρ st) := rfl
theorem r2I_ev (f : SA) : r2I f ρ st = bK (fun ds => oS (rng2 ds)) ρ (f ρ st) := rfl
theorem seqD_tup {ds : List D} : seqD (.tup ds) = some ds := rfl
theorem seqD_lst {ds : List D} : seqD (.lst ds) = some ds := rfl
theorem seqD_klst {ds : List D} : seqD (.klst ds) = some ds := rfl
theorem lstD_lst {ds : List D} : lstD (.lst ds) = some ds := rfl
theorem lstD_klst {ds : List D} : lstD (.klst ds) = some ds := rfl
/-! data -/
theorem ixD_t0 {a : D} {r : List D} : ixD (.tup (a :: r)) (.int 0) = some a := by
  show atI (a :: r) 0 = some a
  simp [atI, ixN]
theorem ixD_t1 {a b : D} {r : List D} : ixD (.tup (a :: b :: r)) (.int 1) = some b := by
  show atI (a :: b :: r) 1 = some b
  unfold atI ixN
  rw [if_pos (by omega), if_pos (by simp only [List.length_cons]; omega)]; rfl
theorem ixD_t2 {a b c : D} {r : List D} : ixD (.tup (a :: b :: c :: r)) (.int 2) = some c := by
  show atI (a :: b :: c :: r) 2 = some c
  unfold atI ixN
  rw [if_pos (by omega), if_pos (by simp only [List.length_cons]; omega)]; rfl
theorem ixD_l0 {a : D} {r : List D} : ixD (.lst (a :: r)) (.int 0) = some a := ixD_t0 (r := r)
theorem ixD_l1 {a b : D} {r : List D} : ixD (.lst (a :: b :: r)) (.int 1) = some b := ixD_t1 (r := r)
theorem ixD_l2 {a b c : D} {r : List D} : ixD (.lst (a :: b :: c :: r)) (.int 2) = some c := ixD_t2 (r := r)
theorem atI_nat {α : Type} {l : List α} {i : Nat} {a : α} (h : l[i]? = some a) : atI l (i : Int) = some a := by
  obtain ⟨hi, _⟩ := List.getElem?_eq_some_iff.mp h
  unfold atI ixN
  rw [if_pos (by omega), if_pos (by omega)]
  exact h
theorem ixD_nat {l : List D} {i : Nat} {a : D} (h : l[i]? = some a) : ixD (.tup l) (.int i) = some a := atI_nat h
theorem ixD_natl {l : List D} {i : Nat} {a : D} (h : l[i]? = some a) : ixD (.lst l) (.int i) = some a := atI_nat h
theorem ixD_natk {l : List D} {i : Nat} {a : D} (h : l[i]? = some a) : ixD (.klst l) (.int i) = some a := atI_nat h
theorem addD_int {i j : Int} : addD (.int i) (.int j) = some (.int (i + j)) := rfl
theorem subD_int {i j : Int} : subD (.int i) (.int j) = some (.int (i - j)) := rfl
theorem negD_int {i : Int} : negD (.int i) = some (.int (-i)) := rfl
theorem cmpD_int {p : Int → Int → Bool} {i j : Int} : cmpD p (.int i) (.int j) = some (.bl (p i j)) := rfl
theorem eqD_int {i j : Int} : eqD (.int i) (.int j) = some (.bl (i == j)) := rfl
theorem neD_int {i j : Int} : neD (.int i) (.int j) = some (.bl (!(i == j))) := rfl
theorem eqD_str {i j : Str} : eqD (.str i) (.str j) = some (.bl (i == j)) := rfl
theorem neD_str {i j : Str} : neD (.str i) (.str j) = some (.bl (!(i == j))) := rfl
theorem eqD_bl {i j : Bool} : eqD (.bl i) (.bl j) = some (.bl (i == j)) := rfl
theorem isND_non : isND .non .non = some (.bl true) := rfl
theorem isND_lst {ds : List D} : isND (.lst ds) .non = some (.bl false) := rfl
theorem isND_tup {ds : List D} : isND (.tup ds) .non = some (.bl false) := rfl
theorem isND_int {i : Int} : isND (.int i) .non = some (.bl false) := rfl
theorem isND_str {i : Str} : isND (.str i) .non = some (.bl false) := rfl
theorem isND_bl {i : Bool} : isND (.bl i) .non = some (.bl false) := rfl
theorem inD_s1 {a b : Str} {neg : Bool} : inDD neg (.str a) (.tup [.str b]) = some (.bl (if neg then !(b == a || false) else (b == a || false))) := rfl
theorem inD_s2 {a b c : Str} : inDD false (.str a) (.tup [.str b, .str c]) = some (.bl (b == a || (c == a || false))) := rfl
theorem inD_s3 {a b c d : Str} : inDD false (.str a) (.tup [.str b, .str c, .str d]) = some (.bl (b == a || (c == a || (d == a || false)))) := rfl
theorem lenC_tup {ds : List D} : lenC [.tup ds] = some (.int ds.length) := rfl
theorem lenC_lst {ds : List D} : lenC [.lst ds] = some (.int ds.length) := rfl
theorem lenC_klst {ds : List D} : lenC [.klst ds] = some (.int ds.length) := rfl
theorem listC_tup {ds : List D} : listC [.tup ds] = some (.lst ds) := rfl
theorem listC_lst {ds : List D} : listC [.lst ds] = some (.lst ds) := rfl
theorem tupleC_tup {ds : List D} : tupleC [.tup ds] = some (.tup ds) := rfl
theorem tupleC_lst {ds : List D} : tupleC [.lst ds] = some (.tup ds) := rfl
theorem intC_int {i : Int} : intC [.int i] = some (.int i) := rfl
theorem absC_int {i : Int} : absC [.int i] = some (.int (if i < 0 then -i else i)) := rfl
theorem max2C_int {i j : Int} : max2C [.int i, .int j] = some (.int (max i j)) := by
  show some (D.int (if j > i then j else i)) = _
  split
  · rw [Int.max_eq_right (by omega)]
  · rw [Int.max_eq_left (by omega)]
theorem sumC_ints {ns : List Int} : sumC [.lst (ns.map .int)] = some (.int ns.sum) := by
  show ((intsOf (ns.map .int)).map fun ns => D.int ns.sum) = _
  rw [intsOf_map]; rfl
theorem maxDD_ints {ns : List Int} {e : D} : maxDD (.lst (ns.map .int)) e = some (match ns with | [] => e | _ => .int (maxI ns)) := by
  show ((intsOf (ns.map .int)).map _) = _
  rw [intsOf_map]; rfl
theorem addD_tup {xs ys : List D} (h : xs.length + ys.length ≤ 1000000) : addD (.tup xs) (.tup ys) = some (.tup (xs ++ ys)) := if_pos h
theorem addD_lst {xs ys : List D} (h : xs.length + ys.length ≤ 1000000) : addD (.lst xs) (.lst ys) = some (.lst (xs ++ ys)) := if_pos h
theorem slD_tup {ds : List D} {lo hi : Option Int} : slD (.tup ds) lo hi = some (.tup (cutD ds lo hi)) := rfl
theorem slD_lst {ds : List D} {lo hi : Option Int} : slD (.lst ds) lo hi = some (.lst (cutD ds lo hi)) := rfl
theorem cutD_1 {a : D} {ds : List D} : cutD (a :: ds) (some 1) none = ds := by
  unfold cutD HT.sIx
  simp
/-! statements -/
def sK (k : SS) : Option (Fl × Sto) → Option (Fl × Sto)
  | some (.nx ρ1, st1) => k ρ1 st1
  | some (.rt d, st1) => some (.rt d, st1)
  | some (.bk ρ1, st1) => some (.bk ρ1, st1)
  | some (.ct ρ1, st1) => some (.ct ρ1, st1)
  | some (.ex x ρ1, st1) => some (.ex x ρ1, st1)
  | none => none
theorem sS_ev (f k : SS) : sS f k ρ st = sK k (f ρ st) := rfl
theorem sK_nx (k : SS) : sK k (some (.nx ρ1, st1)) = k ρ1 st1 := rfl
theorem sK_rt (k : SS) : sK k (some (.rt d, st1)) = some (.rt d, st1) := rfl
theorem sK_bk (k : SS) : sK k (some (.bk ρ1, st1)) = some (.bk ρ1, st1) := rfl
theorem sK_ct (k : SS) : sK k (some (.ct ρ1, st1)) = some (.ct ρ1, st1) := rfl
theorem sK_ex (k : SS) : sK k (some (.ex x ρ1, st1)) = some (.ex x ρ1, st1) := rfl
def xK {α : Type} (k : α → SS) (ρ : Rho) : Option (Res α × Sto) → Option (Fl × Sto)
  | some (.ok a, st1) => k a ρ st1
  | some (.ex x, st1) => some (.ex x ρ, st1)
  | none => none
theorem xS_ev (f : Sm α) (k : α → SS) : xS f k ρ st = xK k ρ (f ρ st) := rfl
theorem xK_ok (k : α → SS) (a : α) : xK k ρ (some (.ok a, st1)) = k a ρ st1 := rfl
theorem xK_ex (k : α → SS) : xK k ρ (some (.ex x, st1)) = some (.ex x ρ, st1) := rfl
theorem nS_ev : nS ρ st = some (.nx ρ, st) := rfl
theorem rtS_ev (f : SE) : rtS f ρ st = xK (fun d _ st => some (.rt d, st)) ρ (f ρ st) := rfl
theorem aS_ev (i : Nat) (f : SE) : aS i f ρ st = xK (fun d ρ st => some (.nx (ρ.set i (some (.v d))), st)) ρ (f ρ st) := rfl
theorem dS_ev {α : Type} (f : Sm α) : dS f ρ st = xK (fun _ ρ st => some (.nx ρ, st)) ρ (f ρ st) := rfl
def iK (a b : SS) (ρ : Rho) : Option (Res Bool × Sto) → Option (Fl × Sto) := xK (fun v => if v = true then a else b) ρ
theorem iS_ev (c : ST) (a b : SS) : iS c a b ρ st = iK a b ρ (c ρ st) := rfl
theorem iK_t (a b : SS) : iK a b ρ (some (.ok true, st1)) = a ρ st1 := rfl
theorem iK_f (a b : SS) : iK a b ρ (some (.ok false, st1)) = b ρ st1 := rfl
theorem iK_ex (a b : SS) : iK a b ρ (some (.ex x, st1)) = some (.ex x ρ, st1) := rfl
theorem raS_ev (f : Sm Xn) : raS f ρ st = xK (fun x ρ st => some (.ex x ρ, st)) ρ (f ρ st) := rfl
theorem lK_nx (k : SS) : loopK (some (.nx ρ1, st1)) k = k ρ1 st1 := rfl
theorem lK_ct (k : SS) : loopK (some (.ct ρ1, st1)) k = k ρ1 st1 := rfl
theorem lK_bk (k : SS) : loopK (some (.bk ρ1, st1)) k = some (.nx ρ1, st1) := rfl
theorem lK_rt (k : SS) : loopK (some (.rt d, st1)) k = some (.rt d, st1) := rfl
theorem lK_ex (k : SS) : loopK (some (.ex x ρ1, st1)) k = some (.ex x ρ1, st1) := rfl
theorem fS_ev (it : SA) (tg : SG) (b : SS) : fS it tg b ρ st = xK (fun ds => forL tg b ds) ρ (it ρ st) := rfl
theorem forL_nil (tg : SG) (b : SS) : forL tg b [] ρ st = some (.nx ρ, st) := rfl
theorem forL_cons (j : Nat) (b : SS) {ds : List D} : forL (fun d ρ => some (ρ.set j (some (.v d)))) b (d :: ds) ρ st = loopK (b (ρ.set j (some (.v d))) st) (forL (fun d ρ => some (ρ.set j (some (.v d)))) b ds) := rfl
def wK (c : ST) (b : SS) (n : Nat) (ρ : Rho) : Option (Res Bool × Sto) → Option (Fl × Sto) := xK (fun v ρ st => if v = true then loopK (b ρ st) (whileF c b n) else some (.nx ρ, st)) ρ
theorem whileF_ev (c : ST) (b : SS) (n : Nat) : whileF c b (n + 1) ρ st = wK c b n ρ (c ρ st) := rfl
theorem wK_t (c : ST) (b : SS) (n : Nat) : wK c b n ρ (some (.ok true, st1)) = loopK (b ρ st1) (whileF c b n) := rfl
theorem wK_f (c : ST) (b : SS) (n : Nat) : wK c b n ρ (some (.ok false, st1)) = some (.nx ρ, st1) := rfl
theorem wK_ex (c : ST) (b : SS) (n : Nat) : wK c b n ρ (some (.ex x, st1)) = some (.ex x ρ, st1) := rfl
/-! comprehensions -/
def lcK (vs : List Nat) (tg : SG) (ifs : ST) (elt : SE) (ρ : Rho) : Option (Res (List D) × Sto) → Option (Res D × Sto) := bK (fun ds => if ds.length ≤ 10000 then bS (fun ρ st => lcL tg ifs elt ds (wipeR ρ vs) st) (fun ys => rS (.lst ys)) else fun _ _ => none) ρ
theorem eLc_ev (it : SA) (vs : List Nat) (tg : SG) (ifs : ST) (elt : SE) : eLc it vs tg ifs elt ρ st = lcK vs tg ifs elt ρ (it ρ st) := rfl
def lsK : Option (Res (List D) × Sto) → Option (Res D × Sto)
  | some (.ok ys, st1) => some (.ok (.lst ys), st1)
  | some (.ex x, st1) => some (.ex x, st1)
  | none => none
theorem lsK_ok {ys : List D} : lsK (some (.ok ys, st1)) = some (.ok (.lst ys), st1) := rfl
theorem lsK_ex : lsK (some (.ex x, st1)) = some (.ex x, st1) := rfl
theorem lcK_ok {vs : List Nat} {tg : SG} {ifs : ST} {elt : SE} {ds : List D} (h : ds.length ≤ 10000) : lcK vs tg ifs elt ρ (some (.ok ds, st1)) = lsK (lcL tg ifs elt ds (wipeR ρ vs) st1) := by
  show (if ds.length ≤ 10000 then bS (fun ρ st => lcL tg ifs elt ds (wipeR ρ vs) st) (fun ys => rS (D.lst ys)) else fun _ _ => none) ρ st1 = _
  rw [if_pos h]
  unfold bS
  dsimp only
  generalize lcL tg ifs elt ds (wipeR ρ vs) st1 = o
  match o with
  | some (.ok _, _) => rfl
  | some (.ex _, _) => rfl
  | none => rfl
theorem lcK_ex {vs : List Nat} {tg : SG} {ifs : ST} {elt : SE} : lcK vs tg ifs elt ρ (some (.ex x, st1)) = some (.ex x, st1) := rfl
theorem lcL_nil (tg : SG) (ifs : ST) (elt : SE) : lcL tg ifs elt [] ρ st = some (.ok [], st) := rfl
def lcC (k : Sm (List D)) (ρ : Rho) : Option (Res D × Sto) → Option (Res (List D) × Sto)
  | some (.ok y, st1) => (match k ρ st1 with
    | some (.ok ys, st2) => some (.ok (y :: ys), st2)
    | some (.ex x, st2) => some (.ex x, st2)
    | none => none)
  | some (.ex x, st1) => some (.ex x, st1)
  | none => none
theorem lcL_cons (j : Nat) (elt : SE) {ds : List D} : lcL (fun d ρ => some (ρ.set j (some (.v d)))) tsNil elt (d :: ds) ρ st = lcC (lcL (fun d ρ => some (ρ.set j (some (.v d)))) tsNil elt ds) ρ (elt (ρ.set j (some (.v d))) st) := by
  show bS (bS tsNil fun b => if b = true then bS elt fun y => rS [y] else rS []) (fun ys _ st => bS (lcL (fun d ρ => some (ρ.set j (some (.v d)))) tsNil elt ds) (fun zs => rS (ys ++ zs)) ρ st) (ρ.set j (some (.v d))) st = _
  have e : bS tsNil (fun b => if b = true then bS elt fun y => rS [y] else rS []) (ρ.set j (some (.v d))) st = bS elt (fun y => rS [y]) (ρ.set j (some (.v d))) st := rfl
  rw [bS_ev, e, bS_ev]
  generalize elt (ρ.set j (some (.v d))) st = o
  match o with
  | some (.ex _, _) => rfl
  | none => rfl
  | some (.ok y, st1) =>
    rw [bK_ok, rS_ev, bK_ok, bS_ev]
    unfold lcC
    dsimp only
    generalize lcL (fun d ρ => some (ρ.set j (some (.v d)))) tsNil elt ds ρ st1 = o2
    match o2 with
    | some (.ok _, _) => rfl
    | some (.ex _, _) => rfl
    | none => rfl
def lcD (y : D) : Option (Res (List D) × Sto) → Option (Res (List D) × Sto)
  | some (.ok ys, st2) => some (.ok (y :: ys), st2)
  | some (.ex x, st2) => some (.ex x, st2)
  | none => none
theorem lcC_ok {k : Sm (List D)} {y : D} : lcC k ρ (some (.ok y, st1)) = lcD y (k ρ st1) := rfl
theorem lcC_ex {k : Sm (List D)} : lcC k ρ (some (.ex x, st1)) = some (.ex x, st1) := rfl
theorem lcD_ok {y : D} {ys : List D} : lcD y (some (.ok ys, st1)) = some (.ok (y :: ys), st1) := rfl
theorem lcD_ex {y : D} : lcD y (some (.ex x, st1)) = some (.ex x, st1) := rfl
/-- an element that is a function of the item, without effect -/
theorem lcL_map {j : Nat} {elt : SE} {f : α → D} {h : α → D} : ∀ {l : List α}, (∀ a ∈ l, elt (ρ.set j (some (.v (f a)))) st = some (.ok (h a), st)) → lcL (fun d ρ => some (ρ.set j (some (.v d)))) tsNil elt (l.map f) ρ st = some (.ok (l.map h), st)
  | [], _ => rfl
  | a :: l, q => by
    rw [List.map_cons, lcL_cons, q a List.mem_cons_self, lcC_ok, lcL_map fun b hb => q b (List.mem_cons_of_mem _ hb), lcD_ok, List.map_cons]
def gaK (c : Bool) (vs : List Nat) (tg : SG) (elt : SE) (ρ : Rho) : Option (Res (List D) × Sto) → Option (Res D × Sto) := bK (fun ds => bS (fun ρ st => gaL c tg elt ds (wipeR ρ vs) st) fun b => rS (.bl b)) ρ
theorem eGa_ev (c : Bool) (it : SA) (vs : List Nat) (tg : SG) (elt : SE) : eGa c it vs tg elt ρ st = gaK c vs tg elt ρ (it ρ st) := rfl
def gaB : Option (Res Bool × Sto) → Option (Res D × Sto)
  | some (.ok b, st1) => some (.ok (.bl b), st1)
  | some (.ex x, st1) => some (.ex x, st1)
  | none => none
theorem gaK_ok {c : Bool} {vs : List Nat} {tg : SG} {elt : SE} {ds : List D} : gaK c vs tg elt ρ (some (.ok ds, st1)) = gaB (gaL c tg elt ds (wipeR ρ vs) st1) := by
  show (bS (fun ρ st => gaL c tg elt ds (wipeR ρ vs) st) fun b => rS (D.bl b)) ρ st1 = _
  unfold bS
  dsimp only
  generalize gaL c tg elt ds (wipeR ρ vs) st1 = o
  match o with
  | some (.ok _, _) => rfl
  | some (.ex _, _) => rfl
  | none => rfl
theorem gaB_ok {b : Bool} : gaB (some (.ok b, st1)) = some (.ok (.bl b), st1) := rfl
theorem gaL_nil {c : Bool} {tg : SG} {elt : SE} : gaL c tg elt [] ρ st = some (.ok c, st) := rfl
/-- all items go through -/
theorem gaL_all {c : Bool} {j : Nat} {elt : SE} {f : α → D} : ∀ {l : List α}, (∀ a ∈ l, elt (ρ.set j (some (.v (f a)))) st = some (.ok (.bl c), st)) → gaL c (fun d ρ => some (ρ.set j (some (.v d)))) elt (l.map f) ρ st = some (.ok c, st)
  | [], _ => rfl
  | a :: l, q => by
    show (match elt (ρ.set j (some (.v (f a)))) st with
      | some (.ok (.bl b), st2) => if b = c then gaL c (fun d ρ => some (ρ.set j (some (.v d)))) elt (l.map f) ρ st2 else some (.ok b, st2)
      | _ => none) = _
    rw [q a List.mem_cons_self]
    show (if c = c then _ else _) = _
    rw [if_pos rfl]
    exact gaL_all fun b hb => q b (List.mem_cons_of_mem _ hb)
/-! calls -/
def cPK (n : Nat) (F : FP) (dl : List D) (ρ : Rho) : Option (Res (List D) × Sto) → Option (Res D × Sto) := bK (fun ds => if ds.length + dl.length = n then resP (F (ds ++ dl)) else fun _ _ => none) ρ
theorem cPn_ev (n : Nat) (F : FP) (dl : List D) (f : SA) : cPn n F dl f ρ st = cPK n F dl ρ (f ρ st) := rfl
def rP (st : Sto) : Option (Res D) → Option (Res D × Sto)
  | some r => some (r, st)
  | none => none
theorem cPK_1 {F : FP} {a : D} : cPK 1 F [] ρ (some (.ok [a], st1)) = rP st1 (F [a]) := rfl
theorem cPK_2 {F : FP} {a b : D} : cPK 2 F [] ρ (some (.ok [a, b], st1)) = rP st1 (F [a, b]) := rfl
theorem cPK_3 {F : FP} {a b c : D} : cPK 3 F [] ρ (some (.ok [a, b, c], st1)) = rP st1 (F [a, b, c]) := rfl
theorem cPK_4 {F : FP} {a b c d : D} : cPK 4 F [] ρ (some (.ok [a, b, c, d], st1)) = rP st1 (F [a, b, c, d]) := rfl
theorem rP_some {r : Res D} : rP st (some r) = some (r, st) := rfl
def cKK (n m : Nat) (F : FP) (h : SA) (ρ : Rho) : Option (Res (List D) × Sto) → Option (Res D × Sto) := bK (fun ds => bS h fun es => if ds.length = n ∧ es.length = m then resP (F (ds ++ es)) else fun _ _ => none) ρ
theorem cK_ev (n m : Nat) (F : FP) (f h : SA) : cK n m F f h ρ st = cKK n m F h ρ (f ρ st) := rfl
def cKL (n m : Nat) (F : FP) (ds : List D) (ρ : Rho) : Option (Res (List D) × Sto) → Option (Res D × Sto) := bK (fun es => if ds.length = n ∧ es.length = m then resP (F (ds ++ es)) else fun _ _ => none) ρ
theorem cKK_ok {n m : Nat} {F : FP} {h : SA} {ds : List D} : cKK n m F h ρ (some (.ok ds, st1)) = cKL n m F ds ρ (h ρ st1) := rfl
theorem cKL_21 {F : FP} {a b c : D} : cKL 2 1 F [a, b] ρ (some (.ok [c], st1)) = rP st1 (F [a, b, c]) := rfl
theorem cKL_11 {F : FP} {a c : D} : cKL 1 1 F [a] ρ (some (.ok [c], st1)) = rP st1 (F [a, c]) := rfl
theorem runP_ev {N : Nat} {b : SS} {ds : List D} : runP N b ds = outP (b (slots N (ds.map .v)) []) := rfl
theorem outP_nx : outP (some (.nx ρ1, st1)) = some (.ok .non) := rfl
theorem outP_rt : outP (some (.rt d, st1)) = some (.ok d) := rfl
theorem outP_ex : outP (some (.ex x ρ1, st1)) = some (.ex x) := rfl
theorem outI_nx : outI (some (.nx ρ1, st1)) = some (.ok .non, st1) := rfl
theorem outI_rt : outI (some (.rt d, st1)) = some (.ok d, st1) := rfl
theorem outI_ex : outI (some (.ex x ρ1, st1)) = some (.ex x, st1) := rfl
/-! lists that grow -/
theorem nlS_ev (j : Nat) (f : SA) : nlS j f ρ st = xK (fun ds ρ st => if ds.length ≤ 10000 then some (.nx (ρ.set j (some (.l st.length))), st ++ [.lst ds]) else none) ρ (f ρ st) := rfl
/-- an item that is tested -/
def lcI (elt : SE) (k : Sm (List D)) (ρ ρ1 : Rho) : Option (Res Bool × Sto) → Option (Res (List D) × Sto)
  | some (.ok true, st1) => lcC k ρ (elt ρ1 st1)
  | some (.ok false, st1) => k ρ st1
  | some (.ex x, st1) => some (.ex x, st1)
  | none => none
theorem lcI_t {elt : SE} {k : Sm (List D)} : lcI elt k ρ ρ1 (some (.ok true, st1)) = lcC k ρ (elt ρ1 st1) := rfl
theorem lcI_f {elt : SE} {k : Sm (List D)} : lcI elt k ρ ρ1 (some (.ok false, st1)) = k ρ st1 := rfl
theorem lcL_consT (j : Nat) (ifs : ST) (elt : SE) {ds : List D} : lcL (fun d ρ => some (ρ.set j (some (.v d)))) ifs elt (d :: ds) ρ st = lcI elt (lcL (fun d ρ => some (ρ.set j (some (.v d)))) ifs elt ds) ρ (ρ.set j (some (.v d))) (ifs (ρ.set j (some (.v d))) st) := by
  show bS (bS ifs fun b => if b = true then bS elt fun y => rS [y] else rS []) (fun ys _ st => bS (lcL (fun d ρ => some (ρ.set j (some (.v d)))) ifs elt ds) (fun zs => rS (ys ++ zs)) ρ st) (ρ.set j (some (.v d))) st = _
  rw [bS_ev, bS_ev]
  generalize ifs (ρ.set j (some (.v d))) st = o
  match o with
  | some (.ex _, _) => rfl
  | none => rfl
  | some (.ok false, st1) =>
    show bK _ _ (some (.ok [], st1)) = _
    rw [bK_ok, lcI_f, bS_ev]
    generalize lcL (fun d ρ => some (ρ.set j (some (.v d)))) ifs elt ds ρ st1 = o2
    match o2 with
    | some (.ok _, _) => rfl
    | some (.ex _, _) => rfl
    | none => rfl
  | some (.ok true, st1) =>
    show bK _ _ (bS elt (fun y => rS [y]) _ st1) = _
    rw [lcI_t, bS_ev]
    generalize elt (ρ.set j (some (.v d))) st1 = o3
    match o3 with
    | some (.ex _, _) => rfl
    | none => rfl
    | some (.ok y, st2) =>
      rw [bK_ok, rS_ev, bK_ok, bS_ev]
      unfold lcC
      dsimp only
      generalize lcL (fun d ρ => some (ρ.set j (some (.v d)))) ifs elt ds ρ st2 = o2
      match o2 with
      | some (.ok _, _) => rfl
      | some (.ex _, _) => rfl
      | none => rfl
/-! small lists -/
theorem lcK_0 {vs : List Nat} {tg : SG} {ifs : ST} {elt : SE} : lcK vs tg ifs elt ρ (some (.ok [], st1)) = lsK (lcL tg ifs elt [] (wipeR ρ vs) st1) := lcK_ok (by decide)
theorem lcK_1 {vs : List Nat} {tg : SG} {ifs : ST} {elt : SE} {a : D} : lcK vs tg ifs elt ρ (some (.ok [a], st1)) = lsK (lcL tg ifs elt [a] (wipeR ρ vs) st1) := lcK_ok (by simp)
theorem lcK_2 {vs : List Nat} {tg : SG} {ifs : ST} {elt : SE} {a b : D} : lcK vs tg ifs elt ρ (some (.ok [a, b], st1)) = lsK (lcL tg ifs elt [a, b] (wipeR ρ vs) st1) := lcK_ok (by simp)
theorem lcK_3 {vs : List Nat} {tg : SG} {ifs : ST} {elt : SE} {a b c : D} : lcK vs tg ifs elt ρ (some (.ok [a, b, c], st1)) = lsK (lcL tg ifs elt [a, b, c] (wipeR ρ vs) st1) := lcK_ok (by simp)
theorem sumC_0 : sumC [.lst []] = some (.int 0) := rfl
theorem sumC_1 {a : Int} : sumC [.lst [.int a]] = some (.int a) := (sumC_ints (ns := [a])).trans (by simp)
theorem sumC_2 {a b : Int} : sumC [.lst [.int a, .int b]] = some (.int (a + b)) := (sumC_ints (ns := [a, b])).trans (by simp)
theorem sumC_3 {a b c : Int} : sumC [.lst [.int a, .int b, .int c]] = some (.int (a + (b + c))) := (sumC_ints (ns := [a, b, c])).trans (by simp)
theorem maxDD_0 : maxDD (.lst []) e = some e := rfl
theorem maxDD_1 {a : Int} : maxDD (.lst [.int a]) e = some (.int a) := rfl
theorem maxDD_2 {a b : Int} : maxDD (.lst [.int a, .int b]) e = some (.int (max a b)) := rfl
theorem maxDD_3 {a b c : Int} : maxDD (.lst [.int a, .int b, .int c]) e = some (.int (max (max a b) c)) := rfl
def gaC (c : Bool) (k : Sto → Option (Res Bool × Sto)) : Option (Res D × Sto) → Option (Res Bool × Sto)
  | some (.ok (.bl b), st2) => if b = c then k st2 else some (.ok b, st2)
  | _ => none
theorem gaL_cons (c : Bool) (j : Nat) (elt : SE) {ds : List D} : gaL c (fun d ρ => some (ρ.set j (some (.v d)))) elt (d :: ds) ρ st = gaC c (gaL c (fun d ρ => some (ρ.set j (some (.v d)))) elt ds ρ) (elt (ρ.set j (some (.v d))) st) := rfl
theorem gaC_tt {k : Sto → Option (Res Bool × Sto)} : gaC true k (some (.ok (.bl true), st1)) = k st1 := rfl
theorem gaC_tf {k : Sto → Option (Res Bool × Sto)} : gaC true k (some (.ok (.bl false), st1)) = some (.ok false, st1) := rfl
theorem gaC_ft {k : Sto → Option (Res Bool × Sto)} : gaC false k (some (.ok (.bl true), st1)) = some (.ok true, st1) := rfl
theorem gaC_ff {k : Sto → Option (Res Bool × Sto)} : gaC false k (some (.ok (.bl false), st1)) = k st1 := rfl
theorem len_0 : (([] : List D).length : Int) = 0 := rfl
theorem len_1 {a : D} : (([a] : List D).length : Int) = 1 := rfl
theorem len_2 {a b : D} : (([a, b] : List D).length : Int) = 2 := rfl
theorem len_3 {a b c : D} : (([a, b, c] : List D).length : Int) = 3 := rfl
theorem forL_consN {tg : SG} (j : Nat) (b : SS) (htg : tg = fun d ρ => some (ρ.set j (some (.v d)))) {ds : List D} : forL tg b (d :: ds) ρ st = loopK (b (ρ.set j (some (.v d))) st) (forL tg b ds) := by
  subst htg
  rfl
/-! lists that grow, changing instances -/
def gL (n : Nat) : Option O → Option (Nat × List D)
  | some (.lst ds) => some (n, ds)
  | _ => none
theorem gL_lst {n : Nat} {ds : List D} : gL n (some (.lst ds)) = some (n, ds) := rfl
theorem stL_0 {n : Nat} {r : Rho} : stL (some (.l n) :: r) st 0 = gL n (st[n]?) := rfl
theorem stL_1 {n : Nat} {a0 : Option S} {r : Rho} : stL (a0 :: some (.l n) :: r) st 1 = gL n (st[n]?) := rfl
theorem stL_2 {n : Nat} {a0 a1 : Option S} {r : Rho} : stL (a0 :: a1 :: some (.l n) :: r) st 2 = gL n (st[n]?) := rfl
theorem stL_3 {n : Nat} {a0 a1 a2 : Option S} {r : Rho} : stL (a0 :: a1 :: a2 :: some (.l n) :: r) st 3 = gL n (st[n]?) := rfl
theorem stL_4 {n : Nat} {a0 a1 a2 a3 : Option S} {r : Rho} : stL (a0 :: a1 :: a2 :: a3 :: some (.l n) :: r) st 4 = gL n (st[n]?) := rfl
theorem stL_5 {n : Nat} {a0 a1 a2 a3 a4 : Option S} {r : Rho} : stL (a0 :: a1 :: a2 :: a3 :: a4 :: some (.l n) :: r) st 5 = gL n (st[n]?) := rfl
theorem stL_6 {n : Nat} {a0 a1 a2 a3 a4 a5 : Option S} {r : Rho} : stL (a0 :: a1 :: a2 :: a3 :: a4 :: a5 :: some (.l n) :: r) st 6 = gL n (st[n]?) := rfl
theorem stL_7 {n : Nat} {a0 a1 a2 a3 a4 a5 a6 : Option S} {r : Rho} : stL (a0 :: a1 :: a2 :: a3 :: a4 :: a5 :: a6 :: some (.l n) :: r) st 7 = gL n (st[n]?) := rfl
theorem stL_8 {n : Nat} {a0 a1 a2 a3 a4 a5 a6 a7 : Option S} {r : Rho} : stL (a0 :: a1 :: a2 :: a3 :: a4 :: a5 :: a6 :: a7 :: some (.l n) :: r) st 8 = gL n (st[n]?) := rfl
theorem nth_0 {o : O} {s : Sto} : (o :: s)[0]? = some o := rfl
theorem nth_1 {o p : O} {s : Sto} : (o :: p :: s)[1]? = some p := rfl
theorem nth_2 {o p q : O} {s : Sto} : (o :: p :: q :: s)[2]? = some q := rfl
theorem sset_0 {o u : O} {s : Sto} : (o :: s).set 0 u = u :: s := rfl
theorem sset_1 {o p u : O} {s : Sto} : (o :: p :: s).set 1 u = o :: u :: s := rfl
theorem sset_2 {o p q u : O} {s : Sto} : (o :: p :: q :: s).set 2 u = o :: p :: u :: s := rfl
def apF (ρ : Rho) (st : Sto) (d : D) : Option (Nat × List D) → Option (Fl × Sto)
  | some (n, ds) => if ds.length ≤ 1000000 then some (.nx ρ, st.set n (.lst (ds ++ [d]))) else none
  | none => none
def apK (i : Nat) (e : SE) (ρ : Rho) (st : Sto) : Option (Nat × List D) → Option (Fl × Sto)
  | some _ => xS e (fun d ρ st => apF ρ st d (stL ρ st i)) ρ st
  | none => none
theorem apS_ev (i : Nat) (e : SE) : apS i e ρ st = apK i e ρ st (stL ρ st i) := by
  unfold apS apK
  generalize stL ρ st i = o
  match o with
  | none => rfl
  | some _ =>
    show xS e _ ρ st = xS e _ ρ st
    congr 1
theorem apK_some {i : Nat} {e : SE} {q : Nat × List D} : apK i e ρ st (some q) = xK (fun d ρ st => apF ρ st d (stL ρ st i)) ρ (e ρ st) := rfl
theorem apF_ok {n : Nat} {ds : List D} (h : ds.length ≤ 1000000) : apF ρ st d (some (n, ds)) = some (.nx ρ, st.set n (.lst (ds ++ [d]))) := if_pos h
theorem apF_0 {n : Nat} : apF ρ st d (some (n, [])) = some (.nx ρ, st.set n (.lst [d])) := rfl
theorem apF_1 {n : Nat} {a : D} : apF ρ st d (some (n, [a])) = some (.nx ρ, st.set n (.lst [a, d])) := apF_ok (by simp)
theorem apF_2 {n : Nat} {a b : D} : apF ρ st d (some (n, [a, b])) = some (.nx ρ, st.set n (.lst [a, b, d])) := apF_ok (by simp)
def nlF (j : Nat) (ρ : Rho) (st : Sto) (ds : List D) : Option (Fl × Sto) := if ds.length ≤ 10000 then some (.nx (ρ.set j (some (.l st.length))), st ++ [.lst ds]) else none
theorem nlS_e (j : Nat) (f : SA) : nlS j f ρ st = xK (fun ds ρ st => nlF j ρ st ds) ρ (f ρ st) := rfl
theorem nlF_0 {j : Nat} : nlF j ρ [] [] = some (.nx (ρ.set j (some (.l 0))), [.lst []]) := rfl
theorem nlF_1 {j : Nat} {a : D} : nlF j ρ [] [a] = some (.nx (ρ.set j (some (.l 0))), [.lst [a]]) := rfl
theorem nlF_01 {j : Nat} {o : O} : nlF j ρ [o] [] = some (.nx (ρ.set j (some (.l 1))), [o, .lst []]) := rfl
theorem nlF_11 {j : Nat} {o : O} {a : D} : nlF j ρ [o] [a] = some (.nx (ρ.set j (some (.l 1))), [o, .lst [a]]) := rfl
def rlF (st : Sto) : Option (Nat × List D) → Option (Fl × Sto)
  | some (n, ds) => some (.rt (.lst ds), st.set n .dead)
  | none => none
theorem rtL_ev (i : Nat) : rtL i ρ st = rlF st (stL ρ st i) := by
  unfold rtL rlF
  generalize stL ρ st i = o
  match o with
  | none => rfl
  | some _ => rfl
theorem rlF_ok {n : Nat} {ds : List D} : rlF st (some (n, ds)) = some (.rt (.lst ds), st.set n .dead) := rfl
def lsF (hop : List D → Option D) (st : Sto) : Option (Nat × List D) → Option (Res D × Sto)
  | some (_, ds) => oK st (hop ds)
  | none => none
theorem lsE_ev (hop : List D → Option D) (i : Nat) : lsE hop i ρ st = lsF hop st (stL ρ st i) := by
  unfold lsE lsF
  generalize stL ρ st i = o
  match o with
  | none => rfl
  | some (n, ds) =>
    dsimp only
    generalize hop ds = z
    match z with
    | none => rfl
    | some _ => rfl
theorem lsF_ok {hop : List D → Option D} {n : Nat} {ds : List D} : lsF hop st (some (n, ds)) = oK st (hop ds) := rfl
def mK2 (F : FI) (S0 : S) : Option (Res (List D) × Sto) → Option (Res D × Sto)
  | some (.ok ds, st) => F (S0 :: ds.map .v) st
  | some (.ex x, st) => some (.ex x, st)
  | none => none
theorem mK2_ok {F : FI} {S0 : S} {ds : List D} : mK2 F S0 (some (.ok ds, st)) = F (S0 :: ds.map .v) st := rfl
theorem mK2_ex {F : FI} {S0 : S} : mK2 F S0 (some (.ex x, st)) = some (.ex x, st) := rfl
theorem cM_of {i k n : Nat} {C m : Str} {F : FI} {f : SA} {fs : List (Str × S)} {ds : List D} {st1 : Sto} (h1 : stO ρ st i = some (k, C, fs)) (h2 : fs.lookup m = none) (h3 : f ρ st = some (.ok ds, st1)) (h4 : ds.length + 1 = n) : cM i C m n F f ρ st = F (.l k :: ds.map .v) st1 := by
  unfold cM
  rw [h1]
  dsimp only
  rw [if_pos ⟨rfl, h2⟩]
  unfold bS
  rw [h3]
  dsimp only
  rw [if_pos h4]
theorem cM_ex {i k n : Nat} {C m : Str} {F : FI} {f : SA} {fs : List (Str × S)} {st1 : Sto} (h1 : stO ρ st i = some (k, C, fs)) (h2 : fs.lookup m = none) (h3 : f ρ st = some (.ex x, st1)) : cM i C m n F f ρ st = some (.ex x, st1) := by
  unfold cM
  rw [h1]
  dsimp only
  rw [if_pos ⟨rfl, h2⟩]
  unfold bS
  rw [h3]
theorem bnot_t : (!true) = false := rfl
theorem bnot_f : (!false) = true := rfl
theorem bor_t {b : Bool} : (true || b) = true := rfl
theorem bor_f {b : Bool} : (false || b) = b := rfl
theorem band_t {b : Bool} : (true && b) = b := rfl
theorem band_f {b : Bool} : (false && b) = false := rfl
theorem beq_self_s {x : Str} : (x == x) = true := by simp
theorem beq_self_i {x : Int} : (x == x) = true := by simp
end
def EV0 := And.intro @bS_ev (And.intro @bK_ok (And.intro @bK_ex (And.intro @rS_ev (And.intro @oS_ev (And.intro @oK_some (And.intro @oK_none (And.intro @eV_0 (And.intro @eV_1 (And.intro @eV_2 (And.intro @eV_3 (And.intro @eV_4 (And.intro @eV_5 (And.intro @eV_6 (And.intro @eV_7 (And.intro @eV_8 (And.intro @set_0 (And.intro @set_1 (And.intro @set_2 (And.intro @set_3 (And.intro @set_4 (And.intro @set_5 (And.intro @set_6 (And.intro @set_7 (And.intro @set_8 (And.intro @wipeR_nil (And.intro @wipeR_cons (And.intro @e2_ev (And.intro @e1_ev (And.intro @aN_ev (And.intro @aC_ev (And.intro @eTup_ev (And.intro @eLst_ev (And.intro @dTup_0 (And.intro @dTup_1 (And.intro @dTup_2 (And.intro @dTup_3 (And.intro @dLst_0 (And.intro @dLst_1 (@dLst_2)))))))))))))))))))))))))))))))))))))))
def EV1 := And.intro @dLst_3 (And.intro @t1_ev (And.intro @blD_bl (And.intro @tE_ev (And.intro @truD_bl (And.intro @truD_non (And.intro @tNo_ev (And.intro @tAn_ev (And.intro @andK_t (And.intro @andK_f (And.intro @tOr_ev (And.intro @orK_t (And.intro @orK_f (And.intro @eAn_ev (And.intro @anK_t (And.intro @anK_f (And.intro @eOr_ev (And.intro @orrK_t (And.intro @orrK_f (And.intro @eNo_ev (And.intro @eIf_ev (And.intro @ifK_t (And.intro @ifK_f (And.intro @e3_ev (And.intro @chK_t (And.intro @chK_f (And.intro @oN_ev (And.intro @oE_ev (And.intro @inD_int (And.intro @eSl_ev (And.intro @eB_ev (And.intro @eIs_ev (And.intro @eMaxD_ev (And.intro @mxK_ok (And.intro @mxK2_ok (And.intro @sI_ev (And.intro @r1I_ev (And.intro @r2I_ev (And.intro @seqD_tup (@seqD_lst)))))))))))))))))))))))))))))))))))))))
def EV2 := And.intro @seqD_klst (And.intro @lstD_lst (And.intro @lstD_klst (And.intro @ixD_t0 (And.intro @ixD_t1 (And.intro @ixD_t2 (And.intro @ixD_l0 (And.intro @ixD_l1 (And.intro @ixD_l2 (And.intro @addD_int (And.intro @subD_int (And.intro @negD_int (And.intro @cmpD_int (And.intro @eqD_int (And.intro @neD_int (And.intro @eqD_str (And.intro @neD_str (And.intro @eqD_bl (And.intro @isND_non (And.intro @isND_lst (And.intro @isND_tup (And.intro @isND_int (And.intro @isND_str (And.intro @isND_bl (And.intro @inD_s1 (And.intro @inD_s2 (And.intro @inD_s3 (And.intro @lenC_tup (And.intro @lenC_lst (And.intro @lenC_klst (And.intro @listC_tup (And.intro @listC_lst (And.intro @tupleC_tup (And.intro @tupleC_lst (And.intro @intC_int (And.intro @absC_int (And.intro @max2C_int (((@slD_tup)))))))))))))))))))))))))))))))))))))))
def EV3 := And.intro @slD_lst (And.intro @cutD_1 (And.intro @sS_ev (And.intro @sK_nx (And.intro @sK_rt (And.intro @sK_bk (And.intro @sK_ct (And.intro @sK_ex (And.intro @xS_ev (And.intro @xK_ok (And.intro @xK_ex (And.intro @nS_ev (And.intro @rtS_ev (And.intro @aS_ev (And.intro @dS_ev (And.intro @iS_ev (And.intro @iK_t (And.intro @iK_f (And.intro @iK_ex (And.intro @raS_ev (And.intro @lK_nx (And.intro @lK_ct (And.intro @lK_bk (And.intro @lK_rt (And.intro @lK_ex (And.intro @fS_ev (And.intro @eLc_ev (And.intro @lsK_ok (And.intro @lsK_ex (And.intro @lcK_ex (And.intro @lcL_nil (And.intro @lcC_ok (And.intro @lcC_ex (And.intro @lcD_ok (And.intro @lcD_ex (And.intro @eGa_ev (And.intro @gaK_ok (And.intro @gaB_ok (And.intro @gaL_nil (@cPn_ev)))))))))))))))))))))))))))))))))))))))
def EV4 := And.intro @cPK_1 (And.intro @cPK_2 (And.intro @cPK_3 (And.intro @cPK_4 (And.intro @rP_some (And.intro @cK_ev (And.intro @cKK_ok (And.intro @cKL_21 (And.intro @cKL_11 (And.intro @outP_nx (And.intro @outP_rt (And.intro @outP_ex (And.intro @outI_nx (And.intro @outI_rt (And.intro @outI_ex (And.intro @bnot_t (And.intro @bnot_f (And.intro @bor_t (And.intro @bor_f (And.intro @band_t (And.intro @band_f (And.intro @beq_self_s (@beq_self_i))))))))))))))))))))))
def EVx := And.intro @lcK_0 (And.intro @lcK_1 (And.intro @lcK_2 (And.intro @lcK_3 (And.intro @sumC_0 (And.intro @sumC_1 (And.intro @sumC_2 (And.intro @sumC_3 (And.intro @maxDD_0 (And.intro @maxDD_1 (And.intro @maxDD_2 (And.intro @maxDD_3 (And.intro @gaC_tt (And.intro @gaC_tf (And.intro @gaC_ft (And.intro @gaC_ff (And.intro @lcL_cons (And.intro @gaL_cons (And.intro @len_0 (And.intro @len_1 (And.intro @len_2 (@len_3)))))))))))))))))))))
def EVy := And.intro @gL_lst (And.intro @stL_0 (And.intro @stL_1 (And.intro @stL_2 (And.intro @stL_3 (And.intro @stL_4 (And.intro @stL_5 (And.intro @stL_6 (And.intro @stL_7 (And.intro @stL_8 (And.intro @nth_0 (And.intro @nth_1 (And.intro @nth_2 (And.intro @sset_0 (And.intro @sset_1 (And.intro @sset_2 (And.intro @apS_ev (And.intro @apK_some (And.intro @apF_0 (And.intro @apF_1 (And.intro @apF_2 (And.intro @nlS_e (And.intro @nlF_0 (And.intro @nlF_1 (And.intro @nlF_01 (And.intro @nlF_11 (And.intro @rtL_ev (And.intro @rlF_ok (And.intro @lsE_ev (@lsF_ok)))))))))))))))))))))))))))))
/-- the whole set -/
def EV := And.intro EVy (And.intro EVx (And.intro EV0 (And.intro EV1 (And.intro EV2 (And.intro EV3 (EV4))))))
end DL

set_option Elab.async false
set_option linter.all false
set_option maxRecDepth 100000
set_option maxHeartbeats 4000000
/-! K61P1: the functions as a type; what the program's and the law's small functions say of them. -/
namespace K61
open PySem PySem.Spec PyProof.Rows L2 DL
inductive Fn where
  | zero (n : Nat) | next | arg (n i : Nat) | of1 (f g : Fn) | of2 (f g h : Fn) | rep (f g : Fn) | least (f : Fn)
def enc : Fn → D
  | .zero n => .tup [.str "zero", .int n]
  | .next => .tup [.str "next"]
  | .arg n i => .tup [.str "arg", .int n, .int i]
  | .of1 f g => .tup [.str "of", enc f, .tup [enc g]]
  | .of2 f g h => .tup [.str "of", enc f, .tup [enc g, enc h]]
  | .rep f g => .tup [.str "repeat", enc f, enc g]
  | .least f => .tup [.str "least", enc f]
def kids : Fn → List Fn
  | .of1 f g => [f, g]
  | .of2 f g h => [f, g, h]
  | .rep f g => [f, g]
  | .least f => [f]
  | _ => []
def hgt : Fn → Nat
  | .of1 f g => max (hgt f) (hgt g) + 1
  | .of2 f g h => max (max (hgt f) (hgt g)) (hgt h) + 1
  | .rep f g => max (hgt f) (hgt g) + 1
  | .least f => hgt f + 1
  | _ => 1
def cnt : Fn → Int
  | .of1 f g => cnt f + cnt g + 1
  | .of2 f g h => cnt f + cnt g + cnt h + 1
  | .rep f g => cnt f + cnt g + 1
  | .least f => cnt f + 1
  | _ => 1
/-- t is a right function of m arguments -/
def WT : Fn → Nat → Prop
  | .zero n, m => m = n ∧ n ≤ 6
  | .next, m => m = 1
  | .arg n i, m => m = n ∧ n ≤ 6 ∧ i < n
  | .of1 f g, m => WT g m ∧ WT f 1
  | .of2 f g h, m => WT g m ∧ WT h m ∧ WT f 2
  | .rep f g, m => ∃ p, m = p + 1 ∧ p < 6 ∧ WT f p ∧ WT g (p + 2)
  | .least f, m => WT f (m + 1)
theorem SB : ((Str.ofString "zero" == Str.ofString "next") = false) ∧ ((Str.ofString "zero" == Str.ofString "arg") = false) ∧ ((Str.ofString "zero" == Str.ofString "of") = false) ∧ ((Str.ofString "zero" == Str.ofString "repeat") = false) ∧ ((Str.ofString "zero" == Str.ofString "least") = false) ∧ ((Str.ofString "next" == Str.ofString "zero") = false) ∧ ((Str.ofString "next" == Str.ofString "arg") = false) ∧ ((Str.ofString "next" == Str.ofString "of") = false) ∧ ((Str.ofString "next" == Str.ofString "repeat") = false) ∧ ((Str.ofString "next" == Str.ofString "least") = false) ∧ ((Str.ofString "arg" == Str.ofString "zero") = false) ∧ ((Str.ofString "arg" == Str.ofString "next") = false) ∧ ((Str.ofString "arg" == Str.ofString "of") = false) ∧ ((Str.ofString "arg" == Str.ofString "repeat") = false) ∧ ((Str.ofString "arg" == Str.ofString "least") = false) ∧ ((Str.ofString "of" == Str.ofString "zero") = false) ∧ ((Str.ofString "of" == Str.ofString "next") = false) ∧ ((Str.ofString "of" == Str.ofString "arg") = false) ∧ ((Str.ofString "of" == Str.ofString "repeat") = false) ∧ ((Str.ofString "of" == Str.ofString "least") = false) ∧ ((Str.ofString "repeat" == Str.ofString "zero") = false) ∧ ((Str.ofString "repeat" == Str.ofString "next") = false) ∧ ((Str.ofString "repeat" == Str.ofString "arg") = false) ∧ ((Str.ofString "repeat" == Str.ofString "of") = false) ∧ ((Str.ofString "repeat" == Str.ofString "least") = false) ∧ ((Str.ofString "least" == Str.ofString "zero") = false) ∧ ((Str.ofString "least" == Str.ofString "next") = false) ∧ ((Str.ofString "least" == Str.ofString "arg") = false) ∧ ((Str.ofString "least" == Str.ofString "of") = false) ∧ ((Str.ofString "least" == Str.ofString "repeat") = false) := by decide +kernel
theorem hgt_pos (t : Fn) : 1 ≤ hgt t := by cases t <;> simp [hgt]
theorem tb_parts (n : Nat) (t : Fn) : (tb (n + 1)).parts [enc t] = some (.ok (.lst ((kids t).map enc))) := by
  cases t <;> rfl
theorem tb_pieces (n : Nat) (t : Fn) : (tb (n + 1))._law_pieces [enc t] = some (.ok (.lst ((kids t).map enc))) := by
  cases t <;> rfl
/-- at every level from n on -/
def Al (n : Nat) (p : Nat → Prop) : Prop := ∀ k, n ≤ k → p k
theorem Al.mono {n m : Nat} {p : Nat → Prop} (h : Al n p) (l : n ≤ m) : Al m p := fun k q => h k (Nat.le_trans l q)
theorem Al.step {n : Nat} {p : Nat → Prop} (h : ∀ k, n ≤ k → p (k + 1)) : Al (n + 1) p := fun k q => by
  match k, q with
  | k + 1, q => exact h k (by omega)
theorem arity_ok (t : Fn) : ∀ m, WT t m → Al (hgt t) fun k => (tb k).arity [enc t] = some (.ok (.int m)) := by
  induction t with
  | zero n => exact fun m w => Al.step fun k _ => by obtain ⟨rfl, _⟩ := w; rfl
  | next => exact fun m w => Al.step fun k _ => by obtain rfl := (show m = 1 from w); rfl
  | arg n i => exact fun m w => Al.step fun k _ => by obtain ⟨rfl, _⟩ := w; rfl
  | of1 f g ihf ihg =>
    exact fun m w => Al.step fun k q => by
      have h := ihg m w.1 k (by have := Nat.le_max_right (hgt f) (hgt g); omega)
      show outP (s_arity (tb k) [some (.v (enc (.of1 f g))), none] []) = _
      unfold s_arity enc
      simp only [EV, SB, h]
  | of2 f g i ihf ihg ihh =>
    exact fun m w => Al.step fun k q => by
      have h := ihg m w.1 k (by omega)
      show outP (s_arity (tb k) [some (.v (enc (.of2 f g i))), none] []) = _
      unfold s_arity enc
      simp only [EV, SB, h]
  | rep f g ihf ihg =>
    exact fun m w => Al.step fun k q => by
      obtain ⟨p, rfl, _, w1, w2⟩ := w
      have h := ihf p w1 k (by omega)
      show outP (s_arity (tb k) [some (.v (enc (.rep f g))), none] []) = _
      unfold s_arity enc
      simp only [EV, SB, h]
      rfl
  | least f ihf =>
    exact fun m w => Al.step fun k q => by
      have h := ihf (m + 1) w k q
      show outP (s_arity (tb k) [some (.v (enc (.least f))), none] []) = _
      unfold s_arity enc
      simp only [EV, SB, h]
      have : ((m + 1 : Nat) : Int) - 1 = m := by omega
      rw [this]
theorem larity_ok (t : Fn) : ∀ m, WT t m → Al (hgt t) fun k => (tb k)._law_arity [enc t] = some (.ok (.int m)) := by
  induction t with
  | zero n => exact fun m w => Al.step fun k _ => by obtain ⟨rfl, _⟩ := w; rfl
  | next => exact fun m w => Al.step fun k _ => by obtain rfl := (show m = 1 from w); rfl
  | arg n i => exact fun m w => Al.step fun k _ => by obtain ⟨rfl, _⟩ := w; rfl
  | of1 f g ihf ihg =>
    exact fun m w => Al.step fun k q => by
      have h := ihg m w.1 k (by omega)
      show outP (s__law_arity (tb k) [some (.v (enc (.of1 f g))), none] []) = _
      unfold s__law_arity enc
      simp only [EV, SB, h, show ((1 : Int) == 0) = false from rfl]
  | of2 f g i ihf ihg ihh =>
    exact fun m w => Al.step fun k q => by
      have h := ihg m w.1 k (by omega)
      show outP (s__law_arity (tb k) [some (.v (enc (.of2 f g i))), none] []) = _
      unfold s__law_arity enc
      simp only [EV, SB, h, show ((2 : Int) == 0) = false from rfl]
  | rep f g ihf ihg =>
    exact fun m w => Al.step fun k q => by
      obtain ⟨p, rfl, _, w1, w2⟩ := w
      have h := ihf p w1 k (by omega)
      show outP (s__law_arity (tb k) [some (.v (enc (.rep f g))), none] []) = _
      unfold s__law_arity enc
      simp only [EV, SB, h]
      rfl
  | least f ihf =>
    exact fun m w => Al.step fun k q => by
      have h := ihf (m + 1) w k q
      show outP (s__law_arity (tb k) [some (.v (enc (.least f))), none] []) = _
      unfold s__law_arity enc
      simp only [EV, SB, h]
      have : ((m + 1 : Nat) : Int) - 1 = m := by omega
      rw [this]
/-- depth is the height -/
theorem depth_ok (t : Fn) : Al (hgt t + 1) fun k => (tb k).depth [enc t] = some (.ok (.int (hgt t))) := by
  induction t with
  | zero n =>
    exact Al.step fun k q => by
      match k, q with
      | k + 1, _ =>
      show outP (s_depth (tb (k + 1)) [some (.v (enc (.zero n))), none] []) = _
      unfold s_depth
      simp only [EV, tb_parts, kids, List.map_nil, hgt]
      rfl
  | next =>
    exact Al.step fun k q => by
      match k, q with
      | k + 1, _ =>
      show outP (s_depth (tb (k + 1)) [some (.v (enc .next)), none] []) = _
      unfold s_depth
      simp only [EV, tb_parts, kids, List.map_nil, hgt]
      rfl
  | arg n i =>
    exact Al.step fun k q => by
      match k, q with
      | k + 1, _ =>
      show outP (s_depth (tb (k + 1)) [some (.v (enc (.arg n i))), none] []) = _
      unfold s_depth
      simp only [EV, tb_parts, kids, List.map_nil, hgt]
      rfl
  | of1 f g ihf ihg =>
    exact Al.step fun k q => by
      simp only [hgt] at q
      match k, q with
      | k + 1, q =>
      have h1 := ihf (k + 1) (by omega)
      have h2 := ihg (k + 1) (by omega)
      show outP (s_depth (tb (k + 1)) [some (.v (enc (.of1 f g))), none] []) = _
      unfold s_depth
      simp only [EV, tb_parts, kids, List.map_nil, List.map_cons, hgt, h1, h2]
      congr 3; omega
  | of2 f g i ihf ihg ihh =>
    exact Al.step fun k q => by
      simp only [hgt] at q
      match k, q with
      | k + 1, q =>
      have h1 := ihf (k + 1) (by omega)
      have h2 := ihg (k + 1) (by omega)
      have h3 := ihh (k + 1) (by omega)
      show outP (s_depth (tb (k + 1)) [some (.v (enc (.of2 f g i))), none] []) = _
      unfold s_depth
      simp only [EV, tb_parts, kids, List.map_nil, List.map_cons, hgt, h1, h2, h3]
      congr 3; omega
  | rep f g ihf ihg =>
    exact Al.step fun k q => by
      simp only [hgt] at q
      match k, q with
      | k + 1, q =>
      have h1 := ihf (k + 1) (by omega)
      have h2 := ihg (k + 1) (by omega)
      show outP (s_depth (tb (k + 1)) [some (.v (enc (.rep f g))), none] []) = _
      unfold s_depth
      simp only [EV, tb_parts, kids, List.map_nil, List.map_cons, hgt, h1, h2]
      congr 3; omega
  | least f ihf =>
    exact Al.step fun k q => by
      simp only [hgt] at q
      match k, q with
      | k + 1, q =>
      have h1 := ihf (k + 1) (by omega)
      show outP (s_depth (tb (k + 1)) [some (.v (enc (.least f))), none] []) = _
      unfold s_depth
      simp only [EV, tb_parts, kids, List.map_nil, List.map_cons, hgt, h1]
      congr 3; omega
end K61

set_option Elab.async false
set_option linter.all false
set_option maxRecDepth 100000
set_option maxHeartbeats 4000000
/-! K61P2: the sizes, the fits. -/
namespace K61
open PySem PySem.Spec PyProof.Rows L2 DL
theorem Al.step2 {n : Nat} {p : Nat → Prop} (h : ∀ k, n ≤ k → p (k + 2)) : Al (n + 2) p := fun k q => by
  match k, q with
  | k + 2, q => exact h k (by omega)
theorem count_ok (t : Fn) : Al (hgt t + 1) fun k => (tb k).count_parts [enc t] = some (.ok (.int (cnt t))) := by
  induction t with
  | zero n =>
    exact Al.step fun k q => by
      simp only [hgt] at q
      match k, q with
      | k + 1, q =>
      show outP (s_count_parts (tb (k + 1)) [some (.v (enc (.zero n))), none] []) = _
      unfold s_count_parts
      simp only [EV, tb_parts, tb_pieces, kids, List.map_nil, List.map_cons, hgt, cnt, forL_nil, forL_cons, lb__law_deep_1, lb__law_count_1]
      first | rfl | done | (try exact congrArg (fun z => some (Res.ok (D.int z))) (by omega))
  | next =>
    exact Al.step fun k q => by
      simp only [hgt] at q
      match k, q with
      | k + 1, q =>
      show outP (s_count_parts (tb (k + 1)) [some (.v (enc (.next))), none] []) = _
      unfold s_count_parts
      simp only [EV, tb_parts, tb_pieces, kids, List.map_nil, List.map_cons, hgt, cnt, forL_nil, forL_cons, lb__law_deep_1, lb__law_count_1]
      first | rfl | done | (try exact congrArg (fun z => some (Res.ok (D.int z))) (by omega))
  | arg n i =>
    exact Al.step fun k q => by
      simp only [hgt] at q
      match k, q with
      | k + 1, q =>
      show outP (s_count_parts (tb (k + 1)) [some (.v (enc (.arg n i))), none] []) = _
      unfold s_count_parts
      simp only [EV, tb_parts, tb_pieces, kids, List.map_nil, List.map_cons, hgt, cnt, forL_nil, forL_cons, lb__law_deep_1, lb__law_count_1]
      first | rfl | done | (try exact congrArg (fun z => some (Res.ok (D.int z))) (by omega))
  | of1 f g ihf ihg =>
    exact Al.step fun k q => by
      simp only [hgt] at q
      match k, q with
      | k + 1, q =>
      have h1 := ihf (k + 1) (by omega)
      have h2 := ihg (k + 1) (by omega)
      show outP (s_count_parts (tb (k + 1)) [some (.v (enc (.of1 f g))), none] []) = _
      unfold s_count_parts
      simp only [EV, tb_parts, tb_pieces, kids, List.map_nil, List.map_cons, hgt, cnt, forL_nil, forL_cons, lb__law_deep_1, lb__law_count_1, h1, h2]
      try exact congrArg (fun z => some (Res.ok (D.int z))) (by omega)
  | of2 f g i ihf ihg ihi =>
    exact Al.step fun k q => by
      simp only [hgt] at q
      match k, q with
      | k + 1, q =>
      have h1 := ihf (k + 1) (by omega)
      have h2 := ihg (k + 1) (by omega)
      have h3 := ihi (k + 1) (by omega)
      show outP (s_count_parts (tb (k + 1)) [some (.v (enc (.of2 f g i))), none] []) = _
      unfold s_count_parts
      simp only [EV, tb_parts, tb_pieces, kids, List.map_nil, List.map_cons, hgt, cnt, forL_nil, forL_cons, lb__law_deep_1, lb__law_count_1, h1, h2, h3]
      try exact congrArg (fun z => some (Res.ok (D.int z))) (by omega)
  | rep f g ihf ihg =>
    exact Al.step fun k q => by
      simp only [hgt] at q
      match k, q with
      | k + 1, q =>
      have h1 := ihf (k + 1) (by omega)
      have h2 := ihg (k + 1) (by omega)
      show outP (s_count_parts (tb (k + 1)) [some (.v (enc (.rep f g))), none] []) = _
      unfold s_count_parts
      simp only [EV, tb_parts, tb_pieces, kids, List.map_nil, List.map_cons, hgt, cnt, forL_nil, forL_cons, lb__law_deep_1, lb__law_count_1, h1, h2]
      try exact congrArg (fun z => some (Res.ok (D.int z))) (by omega)
  | least f ihf =>
    exact Al.step fun k q => by
      simp only [hgt] at q
      match k, q with
      | k + 1, q =>
      have h1 := ihf (k + 1) (by omega)
      show outP (s_count_parts (tb (k + 1)) [some (.v (enc (.least f))), none] []) = _
      unfold s_count_parts
      simp only [EV, tb_parts, tb_pieces, kids, List.map_nil, List.map_cons, hgt, cnt, forL_nil, forL_cons, lb__law_deep_1, lb__law_count_1, h1]
      try exact congrArg (fun z => some (Res.ok (D.int z))) (by omega)
theorem ldeep_ok (t : Fn) : Al (hgt t + 1) fun k => (tb k)._law_deep [enc t] = some (.ok (.int (hgt t))) := by
  induction t with
  | zero n =>
    exact Al.step fun k q => by
      simp only [hgt] at q
      match k, q with
      | k + 1, q =>
      show outP (s__law_deep (tb (k + 1)) [some (.v (enc (.zero n))), none, none] []) = _
      unfold s__law_deep
      simp only [EV, tb_parts, tb_pieces, kids, List.map_nil, List.map_cons, hgt, cnt, forL_nil, forL_cons, lb__law_deep_1, lb__law_count_1]
      first | rfl | done | (try exact congrArg (fun z => some (Res.ok (D.int z))) (by omega))
  | next =>
    exact Al.step fun k q => by
      simp only [hgt] at q
      match k, q with
      | k + 1, q =>
      show outP (s__law_deep (tb (k + 1)) [some (.v (enc (.next))), none, none] []) = _
      unfold s__law_deep
      simp only [EV, tb_parts, tb_pieces, kids, List.map_nil, List.map_cons, hgt, cnt, forL_nil, forL_cons, lb__law_deep_1, lb__law_count_1]
      first | rfl | done | (try exact congrArg (fun z => some (Res.ok (D.int z))) (by omega))
  | arg n i =>
    exact Al.step fun k q => by
      simp only [hgt] at q
      match k, q with
      | k + 1, q =>
      show outP (s__law_deep (tb (k + 1)) [some (.v (enc (.arg n i))), none, none] []) = _
      unfold s__law_deep
      simp only [EV, tb_parts, tb_pieces, kids, List.map_nil, List.map_cons, hgt, cnt, forL_nil, forL_cons, lb__law_deep_1, lb__law_count_1]
      first | rfl | done | (try exact congrArg (fun z => some (Res.ok (D.int z))) (by omega))
  | of1 f g ihf ihg =>
    exact Al.step fun k q => by
      simp only [hgt] at q
      match k, q with
      | k + 1, q =>
      have h1 := ihf (k + 1) (by omega)
      have h2 := ihg (k + 1) (by omega)
      show outP (s__law_deep (tb (k + 1)) [some (.v (enc (.of1 f g))), none, none] []) = _
      unfold s__law_deep
      simp only [EV, tb_parts, tb_pieces, kids, List.map_nil, List.map_cons, hgt, cnt, forL_nil, forL_cons, lb__law_deep_1, lb__law_count_1, h1, h2]
      try exact congrArg (fun z => some (Res.ok (D.int z))) (by omega)
  | of2 f g i ihf ihg ihi =>
    exact Al.step fun k q => by
      simp only [hgt] at q
      match k, q with
      | k + 1, q =>
      have h1 := ihf (k + 1) (by omega)
      have h2 := ihg (k + 1) (by omega)
      have h3 := ihi (k + 1) (by omega)
      show outP (s__law_deep (tb (k + 1)) [some (.v (enc (.of2 f g i))), none, none] []) = _
      unfold s__law_deep
      simp only [EV, tb_parts, tb_pieces, kids, List.map_nil, List.map_cons, hgt, cnt, forL_nil, forL_cons, lb__law_deep_1, lb__law_count_1, h1, h2, h3]
      try exact congrArg (fun z => some (Res.ok (D.int z))) (by omega)
  | rep f g ihf ihg =>
    exact Al.step fun k q => by
      simp only [hgt] at q
      match k, q with
      | k + 1, q =>
      have h1 := ihf (k + 1) (by omega)
      have h2 := ihg (k + 1) (by omega)
      show outP (s__law_deep (tb (k + 1)) [some (.v (enc (.rep f g))), none, none] []) = _
      unfold s__law_deep
      simp only [EV, tb_parts, tb_pieces, kids, List.map_nil, List.map_cons, hgt, cnt, forL_nil, forL_cons, lb__law_deep_1, lb__law_count_1, h1, h2]
      try exact congrArg (fun z => some (Res.ok (D.int z))) (by omega)
  | least f ihf =>
    exact Al.step fun k q => by
      simp only [hgt] at q
      match k, q with
      | k + 1, q =>
      have h1 := ihf (k + 1) (by omega)
      show outP (s__law_deep (tb (k + 1)) [some (.v (enc (.least f))), none, none] []) = _
      unfold s__law_deep
      simp only [EV, tb_parts, tb_pieces, kids, List.map_nil, List.map_cons, hgt, cnt, forL_nil, forL_cons, lb__law_deep_1, lb__law_count_1, h1]
      try exact congrArg (fun z => some (Res.ok (D.int z))) (by omega)
theorem lcount_ok (t : Fn) : Al (hgt t + 1) fun k => (tb k)._law_count [enc t] = some (.ok (.int (cnt t))) := by
  induction t with
  | zero n =>
    exact Al.step fun k q => by
      simp only [hgt] at q
      match k, q with
      | k + 1, q =>
      show outP (s__law_count (tb (k + 1)) [some (.v (enc (.zero n))), none, none] []) = _
      unfold s__law_count
      simp only [EV, tb_parts, tb_pieces, kids, List.map_nil, List.map_cons, hgt, cnt, forL_nil, forL_cons, lb__law_deep_1, lb__law_count_1]
      first | rfl | done | (try exact congrArg (fun z => some (Res.ok (D.int z))) (by omega))
  | next =>
    exact Al.step fun k q => by
      simp only [hgt] at q
      match k, q with
      | k + 1, q =>
      show outP (s__law_count (tb (k + 1)) [some (.v (enc (.next))), none, none] []) = _
      unfold s__law_count
      simp only [EV, tb_parts, tb_pieces, kids, List.map_nil, List.map_cons, hgt, cnt, forL_nil, forL_cons, lb__law_deep_1, lb__law_count_1]
      first | rfl | done | (try exact congrArg (fun z => some (Res.ok (D.int z))) (by omega))
  | arg n i =>
    exact Al.step fun k q => by
      simp only [hgt] at q
      match k, q with
      | k + 1, q =>
      show outP (s__law_count (tb (k + 1)) [some (.v (enc (.arg n i))), none, none] []) = _
      unfold s__law_count
      simp only [EV, tb_parts, tb_pieces, kids, List.map_nil, List.map_cons, hgt, cnt, forL_nil, forL_cons, lb__law_deep_1, lb__law_count_1]
      first | rfl | done | (try exact congrArg (fun z => some (Res.ok (D.int z))) (by omega))
  | of1 f g ihf ihg =>
    exact Al.step fun k q => by
      simp only [hgt] at q
      match k, q with
      | k + 1, q =>
      have h1 := ihf (k + 1) (by omega)
      have h2 := ihg (k + 1) (by omega)
      show outP (s__law_count (tb (k + 1)) [some (.v (enc (.of1 f g))), none, none] []) = _
      unfold s__law_count
      simp only [EV, tb_parts, tb_pieces, kids, List.map_nil, List.map_cons, hgt, cnt, forL_nil, forL_cons, lb__law_deep_1, lb__law_count_1, h1, h2]
      try exact congrArg (fun z => some (Res.ok (D.int z))) (by omega)
  | of2 f g i ihf ihg ihi =>
    exact Al.step fun k q => by
      simp only [hgt] at q
      match k, q with
      | k + 1, q =>
      have h1 := ihf (k + 1) (by omega)
      have h2 := ihg (k + 1) (by omega)
      have h3 := ihi (k + 1) (by omega)
      show outP (s__law_count (tb (k + 1)) [some (.v (enc (.of2 f g i))), none, none] []) = _
      unfold s__law_count
      simp only [EV, tb_parts, tb_pieces, kids, List.map_nil, List.map_cons, hgt, cnt, forL_nil, forL_cons, lb__law_deep_1, lb__law_count_1, h1, h2, h3]
      try exact congrArg (fun z => some (Res.ok (D.int z))) (by omega)
  | rep f g ihf ihg =>
    exact Al.step fun k q => by
      simp only [hgt] at q
      match k, q with
      | k + 1, q =>
      have h1 := ihf (k + 1) (by omega)
      have h2 := ihg (k + 1) (by omega)
      show outP (s__law_count (tb (k + 1)) [some (.v (enc (.rep f g))), none, none] []) = _
      unfold s__law_count
      simp only [EV, tb_parts, tb_pieces, kids, List.map_nil, List.map_cons, hgt, cnt, forL_nil, forL_cons, lb__law_deep_1, lb__law_count_1, h1, h2]
      try exact congrArg (fun z => some (Res.ok (D.int z))) (by omega)
  | least f ihf =>
    exact Al.step fun k q => by
      simp only [hgt] at q
      match k, q with
      | k + 1, q =>
      have h1 := ihf (k + 1) (by omega)
      show outP (s__law_count (tb (k + 1)) [some (.v (enc (.least f))), none, none] []) = _
      unfold s__law_count
      simp only [EV, tb_parts, tb_pieces, kids, List.map_nil, List.map_cons, hgt, cnt, forL_nil, forL_cons, lb__law_deep_1, lb__law_count_1, h1]
      try exact congrArg (fun z => some (Res.ok (D.int z))) (by omega)
theorem dT {p : Prop} [Decidable p] (h : p) : decide p = true := decide_eq_true h
theorem beqT {i j : Int} (h : i = j) : (i == j) = true := by simp [h]
theorem beqF {i j : Int} (h : i ≠ j) : (i == j) = false := by simp [h]
theorem has_ok (t : Fn) : ∀ m, WT t m → Al (hgt t + 2) fun k => (tb k).has_right_arities [enc t] = some (.ok (.bl true)) := by
  induction t with
  | zero n =>
    exact fun m w => Al.step2 fun k q => by
      obtain ⟨_, w⟩ := w
      have e1 := dT (show (0 : Int) ≤ (n : Int) by omega)
      have e2 := dT (show (n : Int) ≤ 6 by omega)
      show outP (s_has_right_arities (tb (k + 1)) [some (.v (enc (.zero n))), none, none, none, none] []) = _
      unfold s_has_right_arities enc
      simp only [EV, SB, e1, e2]
  | next =>
    exact fun m w => Al.step2 fun k q => by
      have hp := tb_parts k .next
      show outP (s_has_right_arities (tb (k + 1)) [some (.v (enc .next)), none, none, none, none] []) = _
      unfold s_has_right_arities enc
      unfold enc at hp
      simp only [EV, SB, hp, kids, List.map_nil]
  | arg n i =>
    exact fun m w => Al.step2 fun k q => by
      obtain ⟨_, w, w2⟩ := w
      have e1 := dT (show (1 : Int) ≤ (n : Int) by omega)
      have e2 := dT (show (n : Int) ≤ 6 by omega)
      have e3 := dT (show (0 : Int) ≤ (i : Int) by omega)
      have e4 := dT (show (i : Int) < (n : Int) by omega)
      show outP (s_has_right_arities (tb (k + 1)) [some (.v (enc (.arg n i))), none, none, none, none] []) = _
      unfold s_has_right_arities enc
      simp only [EV, SB, e1, e2, e3, e4]
  | of1 f g ihf ihg =>
    exact fun m w => Al.step2 fun k q => by
      simp only [hgt] at q
      have hp := tb_parts k (.of1 f g)
      have h1 := ihf 1 w.2 (k + 1) (by omega)
      have h2 := ihg m w.1 (k + 1) (by omega)
      have a0 := arity_ok (.of1 f g) m w (k + 1) (by simp only [hgt]; omega)
      have a1 : (tb (k + 1)).arity [enc f] = some (.ok (.int 1)) := arity_ok f 1 w.2 (k + 1) (by omega)
      have a2 := arity_ok g m w.1 (k + 1) (by omega)
      show outP (s_has_right_arities (tb (k + 1)) [some (.v (enc (.of1 f g))), none, none, none, none] []) = _
      unfold s_has_right_arities enc
      unfold enc at hp a0
      simp only [EV, SB, hp, kids, List.map_nil, List.map_cons, h1, h2, a0, a1, a2, show ((1 : Int) == 0) = false from rfl]
  | of2 f g i ihf ihg ihi =>
    exact fun m w => Al.step2 fun k q => by
      simp only [hgt] at q
      have hp := tb_parts k (.of2 f g i)
      have h1 := ihf 2 w.2.2 (k + 1) (by omega)
      have h2 := ihg m w.1 (k + 1) (by omega)
      have h3 := ihi m w.2.1 (k + 1) (by omega)
      have a0 := arity_ok (.of2 f g i) m w (k + 1) (by simp only [hgt]; omega)
      have a1 : (tb (k + 1)).arity [enc f] = some (.ok (.int 2)) := arity_ok f 2 w.2.2 (k + 1) (by omega)
      have a2 := arity_ok g m w.1 (k + 1) (by omega)
      have a3 := arity_ok i m w.2.1 (k + 1) (by omega)
      show outP (s_has_right_arities (tb (k + 1)) [some (.v (enc (.of2 f g i))), none, none, none, none] []) = _
      unfold s_has_right_arities enc
      unfold enc at hp a0
      simp only [EV, SB, hp, kids, List.map_nil, List.map_cons, h1, h2, h3, a0, a1, a2, a3, show ((2 : Int) == 0) = false from rfl]
  | rep f g ihf ihg =>
    exact fun m w => Al.step2 fun k q => by
      simp only [hgt] at q
      obtain ⟨p, rfl, hp6, w1, w2⟩ := w
      have hp := tb_parts k (.rep f g)
      have h1 := ihf p w1 (k + 1) (by omega)
      have h2 := ihg (p + 2) w2 (k + 1) (by omega)
      have a1 := arity_ok f p w1 (k + 1) (by omega)
      have a2 : (tb (k + 1)).arity [enc g] = some (.ok (.int ((p : Int) + 2))) := arity_ok g (p + 2) w2 (k + 1) (by omega)
      have e1 := dT (show (p : Int) < 6 by omega)
      show outP (s_has_right_arities (tb (k + 1)) [some (.v (enc (.rep f g))), none, none, none, none] []) = _
      unfold s_has_right_arities enc
      unfold enc at hp
      simp only [EV, SB, hp, kids, List.map_nil, List.map_cons, h1, h2, a1, a2, e1]
  | least f ihf =>
    exact fun m w => Al.step2 fun k q => by
      simp only [hgt] at q
      have hp := tb_parts k (.least f)
      have h1 := ihf (m + 1) w (k + 1) (by omega)
      have a1 : (tb (k + 1)).arity [enc f] = some (.ok (.int ((m : Int) + 1))) := arity_ok f (m + 1) w (k + 1) (by omega)
      have e1 := dT (show (1 : Int) ≤ (m : Int) + 1 by omega)
      show outP (s_has_right_arities (tb (k + 1)) [some (.v (enc (.least f))), none, none, none, none] []) = _
      unfold s_has_right_arities enc
      unfold enc at hp
      simp only [EV, SB, hp, kids, List.map_nil, List.map_cons, h1, a1, e1]
/-- a small right function is one -/
theorem isfun_ok {t : Fn} {m : Nat} (w : WT t m) (hh : hgt t ≤ 12) (hc : cnt t ≤ 200) : Al (hgt t + 3) fun k => (tb k).is_function [enc t] = some (.ok (.bl true)) :=
  Al.step fun k q => by
    have h1 := depth_ok t k (by omega)
    have h2 := count_ok t k (by omega)
    have h3 := has_ok t m w k (by omega)
    have e1 := dT (show (hgt t : Int) ≤ 12 by omega)
    have e2 := dT hc
    show outP (s_is_function (tb k) [some (.v (enc t))] []) = _
    unfold s_is_function
    simp only [EV, h1, h2, h3, e1, e2]
/-! the law's own -/
theorem lfits_ok (t : Fn) : ∀ m, WT t m → Al (hgt t + 2) fun k => (tb k)._law_fits_well [enc t] = some (.ok (.bl true)) := by
  induction t with
  | zero n =>
    exact fun m w => Al.step2 fun k q => by
      obtain ⟨_, w⟩ := w
      have e1 := dT (show (0 : Int) ≤ (n : Int) by omega)
      have e2 := dT (show (n : Int) ≤ 6 by omega)
      show outP (s__law_fits_well (tb (k + 1)) [some (.v (enc (.zero n))), none, none] []) = _
      unfold s__law_fits_well enc
      simp only [EV, SB, e1, e2]
  | next =>
    exact fun m w => Al.step2 fun k q => by
      show outP (s__law_fits_well (tb (k + 1)) [some (.v (enc .next)), none, none] []) = _
      unfold s__law_fits_well enc
      simp only [EV, SB]
  | arg n i =>
    exact fun m w => Al.step2 fun k q => by
      obtain ⟨_, w, w2⟩ := w
      have e1 := dT (show (1 : Int) ≤ (n : Int) by omega)
      have e2 := dT (show (n : Int) ≤ 6 by omega)
      have e3 := dT (show (0 : Int) ≤ (i : Int) by omega)
      have e4 := dT (show (i : Int) < (n : Int) by omega)
      show outP (s__law_fits_well (tb (k + 1)) [some (.v (enc (.arg n i))), none, none] []) = _
      unfold s__law_fits_well enc
      simp only [EV, SB, e1, e2, e3, e4]
  | of1 f g ihf ihg =>
    exact fun m w => Al.step2 fun k q => by
      simp only [hgt] at q
      have hp := tb_pieces k (.of1 f g)
      have h1 := ihf 1 w.2 (k + 1) (by omega)
      have h2 := ihg m w.1 (k + 1) (by omega)
      have a1 : (tb (k + 1))._law_arity [enc f] = some (.ok (.int 1)) := larity_ok f 1 w.2 (k + 1) (by omega)
      have a2 := larity_ok g m w.1 (k + 1) (by omega)
      show outP (s__law_fits_well (tb (k + 1)) [some (.v (enc (.of1 f g))), none, none] []) = _
      unfold s__law_fits_well enc
      unfold enc at hp
      simp only [EV, SB, hp, kids, List.map_nil, List.map_cons, forL_nil, forL_cons, lb__law_fits_well_1, h1, h2, a1, a2, lcL_consT, lcI_f, show ((1 : Int) == 0) = false from rfl]
  | of2 f g i ihf ihg ihi =>
    exact fun m w => Al.step2 fun k q => by
      simp only [hgt] at q
      have hp := tb_pieces k (.of2 f g i)
      have h1 := ihf 2 w.2.2 (k + 1) (by omega)
      have h2 := ihg m w.1 (k + 1) (by omega)
      have h3 := ihi m w.2.1 (k + 1) (by omega)
      have a1 : (tb (k + 1))._law_arity [enc f] = some (.ok (.int 2)) := larity_ok f 2 w.2.2 (k + 1) (by omega)
      have a2 := larity_ok g m w.1 (k + 1) (by omega)
      have a3 := larity_ok i m w.2.1 (k + 1) (by omega)
      show outP (s__law_fits_well (tb (k + 1)) [some (.v (enc (.of2 f g i))), none, none] []) = _
      unfold s__law_fits_well enc
      unfold enc at hp
      simp only [EV, SB, hp, kids, List.map_nil, List.map_cons, forL_nil, forL_cons, lb__law_fits_well_1, h1, h2, h3, a1, a2, a3, lcL_consT, lcI_f, show ((2 : Int) == 0) = false from rfl]
  | rep f g ihf ihg =>
    exact fun m w => Al.step2 fun k q => by
      simp only [hgt] at q
      obtain ⟨p, rfl, hp6, w1, w2⟩ := w
      have hp := tb_pieces k (.rep f g)
      have h1 := ihf p w1 (k + 1) (by omega)
      have h2 := ihg (p + 2) w2 (k + 1) (by omega)
      have a1 := larity_ok f p w1 (k + 1) (by omega)
      have a2 : (tb (k + 1))._law_arity [enc g] = some (.ok (.int ((p : Int) + 2))) := larity_ok g (p + 2) w2 (k + 1) (by omega)
      have e1 := dT (show (p : Int) ≤ 5 by omega)
      show outP (s__law_fits_well (tb (k + 1)) [some (.v (enc (.rep f g))), none, none] []) = _
      unfold s__law_fits_well enc
      unfold enc at hp
      simp only [EV, SB, hp, kids, List.map_nil, List.map_cons, forL_nil, forL_cons, lb__law_fits_well_1, h1, h2, a1, a2, e1]
  | least f ihf =>
    exact fun m w => Al.step2 fun k q => by
      simp only [hgt] at q
      have hp := tb_pieces k (.least f)
      have h1 := ihf (m + 1) w (k + 1) (by omega)
      have a1 : (tb (k + 1))._law_arity [enc f] = some (.ok (.int ((m : Int) + 1))) := larity_ok f (m + 1) w (k + 1) (by omega)
      have e1 := dT (show (1 : Int) ≤ (m : Int) + 1 by omega)
      show outP (s__law_fits_well (tb (k + 1)) [some (.v (enc (.least f))), none, none] []) = _
      unfold s__law_fits_well enc
      unfold enc at hp
      simp only [EV, SB, hp, kids, List.map_nil, List.map_cons, forL_nil, forL_cons, lb__law_fits_well_1, h1, a1, e1]
theorem lisfun_ok {t : Fn} {m : Nat} (w : WT t m) (hh : hgt t ≤ 12) (hc : cnt t ≤ 200) : Al (hgt t + 3) fun k => (tb k)._law_is_fun [enc t] = some (.ok (.bl true)) :=
  Al.step fun k q => by
    have h1 := ldeep_ok t k (by omega)
    have h2 := lcount_ok t k (by omega)
    have h3 := lfits_ok t m w k (by omega)
    have e1 := dT (show (hgt t : Int) ≤ 12 by omega)
    have e2 := dT hc
    show outP (s__law_is_fun (tb k) [some (.v (enc t))] []) = _
    unfold s__law_is_fun
    simp only [EV, h1, h2, h3, e1, e2]
end K61

set_option Elab.async false
set_option linter.all false
set_option maxRecDepth 100000
set_option maxHeartbeats 4000000
/-! K61P3: what the applications are: the value and what is left of the limit. -/
namespace K61
open PySem PySem.Spec PyProof.Rows L2 DL
abbrev Mo := Nat → Option (Int × Nat)
def bi (m : Option (Int × Nat)) (f : Int → Mo) : Option (Int × Nat) := match m with
  | none => none
  | some (v, l) => f v l
def lea (step : Nat → Mo) : Nat → Nat → Mo
  | 0, _ => fun _ => none
  | n + 1, k => fun l => bi (step k l) fun v l1 => if v = 0 then some ((k : Int), l1) else lea step n (k + 1) l1
def lo (step : Nat → Int → Mo) : Nat → Nat → Int → Mo
  | 0, _, v => fun l => some (v, l)
  | n + 1, k, v => fun l => bi (step k v l) fun v1 l1 => lo step n (k + 1) v1 l1
def tick (m : Mo) : Mo := fun l => match l with
  | 0 => none
  | l + 1 => m l
def evl : Fn → List Int → Mo
  | .zero _, _ => tick fun l => some (0, l)
  | .next, as => tick fun l => some (as.headD 0 + 1, l)
  | .arg _ i, as => tick fun l => some (as.getD i 0, l)
  | .of1 f g, as => tick fun l => bi (evl g as l) fun v l => evl f [v] l
  | .of2 f g h, as => tick fun l => bi (evl g as l) fun v l => bi (evl h as l) fun u l => evl f [v, u] l
  | .rep f g, as => tick fun l => bi (evl f as.tail l) fun v l => lo (fun k v => evl g ((k : Int) :: v :: as.tail)) (as.headD 0).toNat 0 v l
  | .least f, as => tick fun l => lea (fun k => evl f ((k : Int) :: as)) (l + 1) 0 l
theorem bi_some {m : Option (Int × Nat)} {f : Int → Mo} {r : Int × Nat} (h : bi m f = some r) : ∃ v l, m = some (v, l) ∧ f v l = some r := by
  cases m with
  | none => cases h
  | some p => exact ⟨p.1, p.2, rfl, h⟩
/-! ### what is used does not depend on what is left -/
/-- uses at least c -/
def Good (c : Nat) (m : Mo) : Prop := ∀ l v l', m l = some (v, l') → l' + c ≤ l ∧ (∀ j, m (l - l' + j) = some (v, j)) ∧ ∀ i, i < l - l' → m i = none
theorem Good.tick {c : Nat} {m : Mo} (h : Good c m) : Good (c + 1) (tick m) := fun l v l' e => by
  match l, e with
  | l + 1, e =>
    obtain ⟨h1, h2, h3⟩ := h l v l' e
    refine ⟨by omega, fun j => ?_, fun i hi => ?_⟩
    · rw [show l + 1 - l' + j = (l - l' + j) + 1 by omega]
      exact h2 j
    · match i, hi with
      | 0, _ => rfl
      | i + 1, hi => exact h3 i (by omega)
theorem Good.pure {f : Int} : Good 0 fun l => some (f, l) := fun l v l' e => by
  cases e
  exact ⟨by omega, fun j => by rw [Nat.sub_self, Nat.zero_add], fun i hi => by omega⟩
theorem Good.bind {c d : Nat} {m : Mo} {f : Int → Mo} (h : Good c m) (hf : ∀ v, Good d (f v)) : Good (c + d) fun l => bi (m l) f := fun l v l' e => by
  obtain ⟨u, l1, e1, e2⟩ := bi_some e
  obtain ⟨h1, h2, h3⟩ := h l u l1 e1
  obtain ⟨g1, g2, g3⟩ := hf u l1 v l' e2
  refine ⟨by omega, fun j => ?_, fun i hi => ?_⟩
  · have q := h2 (l1 - l' + j)
    rw [show l - l1 + (l1 - l' + j) = l - l' + j by omega] at q
    show bi (m (l - l' + j)) f = _
    rw [q]
    exact g2 j
  · show bi (m i) f = _
    by_cases hl : i < l - l1
    · rw [h3 i hl]; rfl
    · have q := h2 (i - (l - l1))
      rw [show l - l1 + (i - (l - l1)) = i by omega] at q
      rw [q]
      exact g3 _ (by omega)
theorem Good.mono {c d : Nat} {m : Mo} (h : Good c m) (l : d ≤ c) : Good d m := fun a v b e => by
  obtain ⟨h1, h2⟩ := h a v b e
  exact ⟨by omega, h2⟩
theorem good_lo {step : Nat → Int → Mo} (h : ∀ k v, Good 0 (step k v)) : ∀ n k v, Good 0 (lo step n k v)
  | 0, k, v => Good.pure
  | n + 1, k, v => (h k v).bind fun u => good_lo h n (k + 1) u
/-- with enough of it, the bound is no matter -/
theorem lea_fuel {step : Nat → Mo} (h : ∀ k, Good 1 (step k)) : ∀ n m k l, l < n → l < m → lea step n k l = lea step m k l
  | n + 1, m + 1, k, l, hn, hm => by
    show bi (step k l) _ = bi (step k l) _
    cases e : step k l with
    | none => rfl
    | some p =>
      obtain ⟨v, l1⟩ := p
      have := (h k l v l1 e).1
      show (if v = 0 then _ else _) = (if v = 0 then _ else _)
      split
      · rfl
      · exact lea_fuel h n m (k + 1) l1 (by omega) (by omega)
theorem lea_good {step : Nat → Mo} (h : ∀ k, Good 1 (step k)) : ∀ n k l v l', lea step n k l = some (v, l') →
    l' < l ∧ (∀ j m, l - l' + j < m → lea step m k (l - l' + j) = some (v, j)) ∧ ∀ i m, i < l - l' → lea step m k i = none
  | n + 1, k, l, v, l', e => by
    obtain ⟨u, l1, e1, e2⟩ := bi_some e
    obtain ⟨h1, h2, h3⟩ := h k l u l1 e1
    by_cases hu : u = 0
    · rw [if_pos hu] at e2
      cases e2
      refine ⟨by omega, fun j m hm => ?_, fun i m hi => ?_⟩
      · match m, hm with
        | m + 1, _ =>
          show bi (step k _) _ = _
          rw [h2 j]
          show (if u = 0 then _ else _) = _
          rw [if_pos hu]
      · match m with
        | 0 => rfl
        | m + 1 =>
          show bi (step k i) _ = _
          rw [h3 i hi]; rfl
    · rw [if_neg hu] at e2
      obtain ⟨g1, g2, g3⟩ := lea_good h n (k + 1) l1 v l' e2
      refine ⟨by omega, fun j m hm => ?_, fun i m hi => ?_⟩
      · match m, hm with
        | m + 1, hm =>
          have q := h2 (l1 - l' + j)
          rw [show l - l1 + (l1 - l' + j) = l - l' + j by omega] at q
          show bi (step k _) _ = _
          rw [q]
          show (if u = 0 then _ else _) = _
          rw [if_neg hu]
          exact g2 j m (by omega)
      · match m with
        | 0 => rfl
        | m + 1 =>
          show bi (step k i) _ = _
          by_cases hl : i < l - l1
          · rw [h3 i hl]; rfl
          · have q := h2 (i - (l - l1))
            rw [show l - l1 + (i - (l - l1)) = i by omega] at q
            rw [q]
            show (if u = 0 then _ else _) = _
            rw [if_neg hu]
            exact g3 _ m (by omega)
theorem good_least {step : Nat → Mo} (h : ∀ k, Good 1 (step k)) : Good 1 fun l => lea step (l + 1) 0 l := fun l v l' e => by
  obtain ⟨h1, h2, h3⟩ := lea_good h _ _ _ _ _ e
  exact ⟨by omega, fun j => h2 j _ (by omega), fun i hi => h3 i _ hi⟩
theorem evl_good (t : Fn) : ∀ as, Good 1 (evl t as) := by
  induction t with
  | zero n => exact fun as => Good.pure.tick
  | next => exact fun as => Good.pure.tick
  | arg n i => exact fun as => Good.pure.tick
  | of1 f g ihf ihg => exact fun as => (((ihg as).bind fun v => ihf [v]).tick).mono (by omega)
  | of2 f g i ihf ihg ihi => exact fun as => (((ihg as).bind fun v => (ihi as).bind fun u => ihf [v, u]).tick).mono (by omega)
  | rep f g ihf ihg => exact fun as => (((ihf as.tail).bind fun v => good_lo (fun k u => (ihg _).mono (by omega)) _ 0 v).tick).mono (by omega)
  | least f ihf => exact fun as => ((good_least fun k => ihf _).tick).mono (by omega)
/-! ### how big the values are -/
def Bd (as : List Int) (B : Int) : Prop := ∀ a ∈ as, 0 ≤ a ∧ a ≤ B
theorem Bd.mono {as : List Int} {B C : Int} (h : Bd as B) (l : B ≤ C) : Bd as C := fun a m => ⟨(h a m).1, by have := (h a m).2; omega⟩
theorem Bd.cons {a : Int} {as : List Int} {B : Int} (h : Bd as B) (h1 : 0 ≤ a) (h2 : a ≤ B) : Bd (a :: as) B := fun b m => by
  rcases List.mem_cons.mp m with rfl | m
  · exact ⟨h1, h2⟩
  · exact h b m
theorem Bd.nil {B : Int} : Bd [] B := fun _ m => by cases m
theorem Bd.tail {as : List Int} {B : Int} (h : Bd as B) : Bd as.tail B := fun a m => h a (List.mem_of_mem_tail m)
theorem Bd.head {as : List Int} {B : Int} (h : Bd as B) (hB : 0 ≤ B) : 0 ≤ as.headD 0 ∧ as.headD 0 ≤ B := by
  cases as with
  | nil => exact ⟨by decide, hB⟩
  | cons a r => exact h a List.mem_cons_self
theorem Bd.get {as : List Int} {B : Int} (h : Bd as B) (hB : 0 ≤ B) (i : Nat) : 0 ≤ as.getD i 0 ∧ as.getD i 0 ≤ B := by
  rw [List.getD_eq_getElem?_getD]
  cases e : as[i]? with
  | none => exact ⟨by decide, hB⟩
  | some a => exact h a (List.mem_of_getElem? e)
def Sized (B : Int) (m : Mo) : Prop := ∀ l v l', m l = some (v, l') → l' < l ∧ 0 ≤ v ∧ v ≤ B + ((l : Int) - l')
theorem lo_sized {B : Int} {step : Nat → Int → Mo} (h : ∀ (k : Nat) (v C : Int), (k : Int) ≤ B → 0 ≤ v → v ≤ C → B ≤ C → Sized C (step k v)) :
    ∀ (n k : Nat) (v C : Int) (l : Nat) (u : Int) (l' : Nat), (k : Int) + n ≤ B → 0 ≤ v → v ≤ C → B ≤ C → lo step n k v l = some (u, l') → l' ≤ l ∧ 0 ≤ u ∧ u ≤ C + ((l : Int) - l')
  | 0, k, v, C, l, u, l', _, h1, h2, _, e => by
    cases e
    exact ⟨Nat.le_refl _, h1, by omega⟩
  | n + 1, k, v, C, l, u, l', h0, h1, h2, h3, e => by
    obtain ⟨w, l1, e1, e2⟩ := bi_some e
    obtain ⟨q1, q2, q3⟩ := h k v C (by omega) h1 h2 h3 l w l1 e1
    obtain ⟨r1, r2, r3⟩ := lo_sized h n (k + 1) w (C + ((l : Int) - l1)) l1 u l' (by omega) q2 q3 (by omega) e2
    exact ⟨by omega, r2, by omega⟩
theorem lea_sized {B : Int} {step : Nat → Mo} (hB : 0 ≤ B) (h : ∀ (k : Nat) (C : Int), (k : Int) ≤ C → B ≤ C → Sized C (step k)) :
    ∀ (n k : Nat) (C : Int) (l : Nat) (u : Int) (l' : Nat), (k : Int) ≤ C → B ≤ C → lea step n k l = some (u, l') → l' < l ∧ 0 ≤ u ∧ u ≤ C + ((l : Int) - l')
  | n + 1, k, C, l, u, l', h1, h2, e => by
    obtain ⟨w, l1, e1, e2⟩ := bi_some e
    obtain ⟨q1, q2, q3⟩ := h k C h1 h2 l w l1 e1
    by_cases hw : w = 0
    · rw [if_pos hw] at e2
      cases e2
      exact ⟨q1, by omega, by omega⟩
    · rw [if_neg hw] at e2
      obtain ⟨r1, r2, r3⟩ := lea_sized hB h n (k + 1) (C + ((l : Int) - l1)) l1 u l' (by omega) (by omega) e2
      exact ⟨by omega, r2, by omega⟩
theorem tick_sized {B : Int} {m : Mo} (h : ∀ l v l', m l = some (v, l') → l' ≤ l ∧ 0 ≤ v ∧ v ≤ B + ((l : Int) - l') + 1) : Sized B (tick m) := fun l v l' e => by
  match l, e with
  | l + 1, e =>
    obtain ⟨h1, h2, h3⟩ := h l v l' e
    exact ⟨by omega, h2, by omega⟩
theorem evl_sized (t : Fn) : ∀ as B, Bd as B → 0 ≤ B → Sized B (evl t as) := by
  induction t with
  | zero n => exact fun as B h hB => tick_sized fun l v l' e => by cases e; exact ⟨by omega, by omega, by omega⟩
  | next => exact fun as B h hB => tick_sized fun l v l' e => by have := h.head hB; cases e; exact ⟨by omega, by omega, by omega⟩
  | arg n i => exact fun as B h hB => tick_sized fun l v l' e => by have := h.get hB i; cases e; exact ⟨by omega, by omega, by omega⟩
  | of1 f g ihf ihg =>
    exact fun as B h hB => tick_sized fun l v l' e => by
      obtain ⟨w, l1, e1, e2⟩ := bi_some e
      obtain ⟨q1, q2, q3⟩ := ihg as B h hB l w l1 e1
      obtain ⟨r1, r2, r3⟩ := ihf [w] (B + ((l : Int) - l1)) (Bd.nil.cons q2 q3) (by omega) l1 v l' e2
      exact ⟨by omega, r2, by omega⟩
  | of2 f g i ihf ihg ihi =>
    exact fun as B h hB => tick_sized fun l v l' e => by
      obtain ⟨w, l1, e1, e2⟩ := bi_some e
      obtain ⟨u, l2, e3, e4⟩ := bi_some e2
      obtain ⟨q1, q2, q3⟩ := ihg as B h hB l w l1 e1
      obtain ⟨p1, p2, p3⟩ := ihi as B h hB l1 u l2 e3
      obtain ⟨r1, r2, r3⟩ := ihf [w, u] (B + ((l : Int) - l2)) ((Bd.nil.cons p2 (by omega)).cons q2 (by omega)) (by omega) l2 v l' e4
      exact ⟨by omega, r2, by omega⟩
  | rep f g ihf ihg =>
    exact fun as B h hB => tick_sized fun l v l' e => by
      obtain ⟨w, l1, e1, e2⟩ := bi_some e
      have hh := h.head hB
      obtain ⟨q1, q2, q3⟩ := ihf as.tail B h.tail hB l w l1 e1
      obtain ⟨r1, r2, r3⟩ := lo_sized (B := B) (step := fun k v => evl g ((k : Int) :: v :: as.tail)) (fun k v C h1 h2 h3 h4 => ihg _ C ((((h.tail).mono h4).cons h2 h3).cons (by omega) (by omega)) (by omega)) _ 0 w (B + ((l : Int) - l1)) l1 v l' (by omega) q2 q3 (by omega) e2
      exact ⟨by omega, r2, by omega⟩
  | least f ihf =>
    exact fun as B h hB => tick_sized fun l v l' e => by
      obtain ⟨r1, r2, r3⟩ := lea_sized (B := B) (step := fun k => evl f ((k : Int) :: as)) hB (fun k C h1 h2 => ihf _ C ((h.mono h2).cons (by omega) h1) (by omega)) _ 0 B l v l' hB (by omega) e
      exact ⟨by omega, r2, by omega⟩
end K61

set_option Elab.async false
set_option linter.all false
set_option maxRecDepth 100000
set_option maxHeartbeats 4000000
/-! K61P4: the law's own way to apply a function. -/
namespace K61
open PySem PySem.Spec PyProof.Rows L2 DL
def up : Nat → Nat → List D
  | _, 0 => []
  | k, n + 1 => .int k :: up (k + 1) n
theorem upto_up : ∀ n k : Nat, upto (k : Int) n = up k n
  | 0, k => rfl
  | n + 1, k => by
    unfold upto
    rw [List.range_succ_eq_map, List.map_cons, List.map_map]
    show _ :: _ = D.int k :: up (k + 1) n
    rw [← upto_up n (k + 1)]
    unfold upto
    have e0 : (k : Int) + ((0 : Nat) : Int) = k := by omega
    rw [e0]
    congr 1
    · apply List.map_congr_left
      intro i _
      show D.int ((k : Int) + ((i + 1 : Nat) : Int)) = D.int (((k + 1 : Nat) : Int) + (i : Int))
      congr 1
      omega
theorem rng1_up {j : Int} (h1 : -4611686018427387904 ≤ j) (h2 : j < 4611686018427387904) : rng1 [.int j] = some (up 0 j.toNat) := by
  show (if okR j = true then some (upto 0 j.toNat) else none) = _
  rw [if_pos (by unfold okR; rw [dT h1, dT h2]; rfl)]
  exact congrArg some (upto_up _ 0)
def lres : Option (Int × Nat) → D
  | none => .non
  | some (v, l) => .lst [.int v, .int l]
theorem ladd1 (j : Int) (as : List Int) (h : as.length ≤ 1000) : addD (.tup [.int j]) (.tup (as.map .int)) = some (.tup (.int j :: as.map .int)) := addD_tup (by simp; omega)
theorem ladd2 (j v : Int) (as : List Int) (h : as.length ≤ 1000) : addD (.tup [.int j, .int v]) (.tup (as.map .int)) = some (.tup (.int j :: .int v :: as.map .int)) := addD_tup (by simp; omega)
theorem lapply_0 (t : Tb) (d a : D) : (tbS t)._law_apply [d, a, .int ((0 : Nat) : Int)] = some (.ok .non) := rfl
section
variable {k : Nat} {f g : Fn} {a : Int} {r : List Int} {B : Int}
theorem lrep_non (lf w vs pt kk : Option S) : ∀ n j, sK (rtS (eV 6)) (forL (nG 7) (lb__law_apply_2 (tb k)) (up j n) [some (.v (.tup [.str "repeat", enc f, enc g])), some (.v (.tup (.int a :: r.map .int))), lf, w, vs, pt, some (.v .non), kk] []) = some (.rt .non, [])
  | 0, j => rfl
  | n + 1, j => by
    unfold up
    simp only [EV, forL_cons, lb__law_apply_2]
theorem lrep_loop (hB : Bd r B) (hB0 : 0 ≤ B) (hr : r.length ≤ 1000)
    (h : ∀ (j : Nat) (v C : Int) (l : Nat), (j : Int) ≤ C → 0 ≤ v → v ≤ C → B ≤ C → C + l ≤ 1000000000 → (tb k)._law_apply [enc g, .tup (.int j :: .int v :: r.map .int), .int l] = some (.ok (lres (evl g (j :: v :: r) l)))) (lf w vs pt : Option S) :
    ∀ (n j : Nat) (v C : Int) (l : Nat) (kk : Option S), (j : Int) + n ≤ B → 0 ≤ v → v ≤ C → B ≤ C → C + l ≤ 1000000000 →
      sK (rtS (eV 6)) (forL (nG 7) (lb__law_apply_2 (tb k)) (up j n) [some (.v (.tup [.str "repeat", enc f, enc g])), some (.v (.tup (.int a :: r.map .int))), lf, w, vs, pt, some (.v (.lst [.int v, .int l])), kk] []) = some (.rt (lres (lo (fun k v => evl g ((k : Int) :: v :: r)) n j v l)), [])
  | 0, j, v, C, l, kk, h0, h1, h2, h3, h4 => rfl
  | n + 1, j, v, C, l, kk, h0, h1, h2, h3, h4 => by
    have h5 := h j v C l (by omega) h1 h2 h3 h4
    have h6 := ladd2 j v r hr
    unfold up
    cases e : evl g ((j : Int) :: v :: r) l with
    | none =>
      rw [e] at h5
      have h7 : lo (fun k v => evl g ((k : Int) :: v :: r)) (n + 1) j v l = none := by
        show bi (evl g ((j : Int) :: v :: r) l) _ = _
        rw [e]; rfl
      rw [h7]
      have q := lrep_non (k := k) (f := f) (g := g) (a := a) (r := r) lf w vs pt (some (.v (.int (j : Nat)))) n (j + 1)
      refine Eq.trans ?_ q
      rw [forL_cons]
      conv => lhs; arg 2; arg 1; unfold lb__law_apply_2
      simp only [EV, h5, h6, lres]
    | some p =>
      obtain ⟨u, l1⟩ := p
      rw [e] at h5
      have h7 : lo (fun k v => evl g ((k : Int) :: v :: r)) (n + 1) j v l = lo (fun k v => evl g ((k : Int) :: v :: r)) n (j + 1) u l1 := by
        show bi (evl g ((j : Int) :: v :: r) l) _ = _
        rw [e]; rfl
      rw [h7]
      obtain ⟨q1, q2, q3⟩ := evl_sized g (j :: v :: r) C (((hB.mono h3).cons h1 h2).cons (by omega) (by omega)) (by omega) l u l1 e
      have q := lrep_loop hB hB0 hr h lf w vs pt n (j + 1) u (C + ((l : Int) - l1)) l1 (some (.v (.int (j : Nat)))) (by omega) q2 q3 (by omega) (by omega)
      refine Eq.trans ?_ q
      rw [forL_cons]
      conv => lhs; arg 2; arg 1; unfold lb__law_apply_2
      simp only [EV, h5, h6, lres]
theorem llea_loop {as : List Int} (hB : Bd as B) (hB0 : 0 ≤ B) (hr : as.length ≤ 1000)
    (h : ∀ (j : Nat) (C : Int) (l : Nat), (j : Int) ≤ C → B ≤ C → C + l ≤ 1000000000 → (tb k)._law_apply [enc f, .tup (.int j :: as.map .int), .int l] = some (.ok (lres (evl f (j :: as) l)))) (w vs pt : Option S) :
    ∀ (n j : Nat) (C : Int) (l : Nat) (fo kk : Option S), (j : Int) ≤ C → B ≤ C → C + l ≤ 1000000000 →
      sK (rtS (rS .non)) (forL (nG 7) (lb__law_apply_1 (tb k)) (up j n) [some (.v (.tup [.str "least", enc f])), some (.v (.tup (as.map .int))), some (.v (.int l)), w, vs, pt, fo, kk] []) = some (.rt (lres (lea (fun k => evl f ((k : Int) :: as)) n j l)), [])
  | 0, j, C, l, fo, kk, h1, h2, h3 => rfl
  | n + 1, j, C, l, fo, kk, h1, h2, h3 => by
    have h5 := h j C l h1 h2 h3
    have h6 := ladd1 j as hr
    unfold up
    cases e : evl f ((j : Int) :: as) l with
    | none =>
      rw [e] at h5
      have h7 : lea (fun k => evl f ((k : Int) :: as)) (n + 1) j l = none := by
        show bi (evl f ((j : Int) :: as) l) _ = _
        rw [e]; rfl
      rw [h7, forL_cons]
      conv => lhs; arg 2; arg 1; unfold lb__law_apply_1
      simp only [EV, h5, h6, lres]
    | some p =>
      obtain ⟨u, l1⟩ := p
      rw [e] at h5
      have h7 : lea (fun k => evl f ((k : Int) :: as)) (n + 1) j l = if u = 0 then some ((j : Int), l1) else lea (fun k => evl f ((k : Int) :: as)) n (j + 1) l1 := by
        show bi (evl f ((j : Int) :: as) l) _ = _
        rw [e]; rfl
      obtain ⟨q1, q2, q3⟩ := evl_sized f (j :: as) C ((hB.mono h2).cons (by omega) h1) (by omega) l u l1 e
      rw [h7, forL_cons]
      conv => lhs; arg 2; arg 1; unfold lb__law_apply_1
      by_cases hu : u = 0
      · rw [if_pos hu]
        simp only [EV, h5, h6, lres, beqT hu]
      · rw [if_neg hu]
        have q := llea_loop hB hB0 hr h w vs pt n (j + 1) (C + ((l : Int) - l1)) l1 (some (.v (.lst [.int u, .int l1]))) (some (.v (.int (j : Nat)))) (by omega) (by omega) (by omega)
        refine Eq.trans ?_ q
        simp only [EV, h5, h6, lres, beqF hu]
end
theorem lapply_ok (t : Fn) : ∀ (m : Nat) (as : List Int) (B : Int) (l : Nat), WT t m → m + 2 * hgt t ≤ 1000 → as.length = m → Bd as B → 0 ≤ B → B + l ≤ 1000000000 → Al (hgt t) fun k => (tb k)._law_apply [enc t, .tup (as.map .int), .int l] = some (.ok (lres (evl t as l))) := by
  induction t with
  | zero n =>
    exact fun m as B l w hm hl hb hB hM => Al.step fun k q => by
      simp only [hgt] at hm
      match l, hM with
      | 0, _ => exact lapply_0 _ _ _
      | l + 1, _ =>
        have e1 : decide (((l + 1 : Nat) : Int) < 1) = false := decide_eq_false (by omega)
        have e2 : ((l + 1 : Nat) : Int) - 1 = l := by omega
        show outP (s__law_apply (tb k) [some (.v (enc (.zero n))), some (.v (.tup (as.map .int))), some (.v (.int ((l + 1 : Nat) : Int))), none, none, none, none, none] []) = _
        unfold s__law_apply
        rw [enc]
        simp only [EV, SB, e1, e2]
        rfl
  | next =>
    exact fun m as B l w hm hl hb hB hM => Al.step fun k q => by
      simp only [hgt] at hm
      match l, hM with
      | 0, _ => exact lapply_0 _ _ _
      | l + 1, _ =>
        have e1 : decide (((l + 1 : Nat) : Int) < 1) = false := decide_eq_false (by omega)
        have e2 : ((l + 1 : Nat) : Int) - 1 = l := by omega
        obtain rfl := (show m = 1 from w)
        match as, hl with
        | [a], _ =>
        show outP (s__law_apply (tb k) [some (.v (enc .next)), some (.v (.tup [.int a])), some (.v (.int ((l + 1 : Nat) : Int))), none, none, none, none, none] []) = _
        unfold s__law_apply
        rw [enc]
        simp only [EV, SB, e1, e2]
        rfl
  | arg n i =>
    exact fun m as B l w hm hl hb hB hM => Al.step fun k q => by
      simp only [hgt] at hm
      match l, hM with
      | 0, _ => exact lapply_0 _ _ _
      | l + 1, _ =>
        have e1 : decide (((l + 1 : Nat) : Int) < 1) = false := decide_eq_false (by omega)
        have e2 : ((l + 1 : Nat) : Int) - 1 = l := by omega
        obtain ⟨rfl, _, hi⟩ := w
        have hx : ixD (.tup (as.map .int)) (.int i) = some (.int (as.getD i 0)) := ixD_nat (by
          rw [List.getElem?_map, List.getD_eq_getElem?_getD, List.getElem?_eq_getElem (by omega)]; rfl)
        show outP (s__law_apply (tb k) [some (.v (enc (.arg m i))), some (.v (.tup (as.map .int))), some (.v (.int ((l + 1 : Nat) : Int))), none, none, none, none, none] []) = _
        unfold s__law_apply
        rw [enc]
        simp only [EV, SB, e1, e2, hx]
        rfl
  | of1 f g ihf ihg =>
    exact fun m as B l w hm hl hb hB hM => Al.step fun k q => by
      simp only [hgt] at hm
      match l, hM with
      | 0, _ => exact lapply_0 _ _ _
      | l + 1, hM =>
        have e1 : decide (((l + 1 : Nat) : Int) < 1) = false := decide_eq_false (by omega)
        have e2 : ((l + 1 : Nat) : Int) - 1 = l := by omega
        have h1 := ihg m as B l w.1 (by omega) hl hb hB (by omega) k (by omega)
        show outP (s__law_apply (tb k) [some (.v (enc (.of1 f g))), some (.v (.tup (as.map .int))), some (.v (.int ((l + 1 : Nat) : Int))), none, none, none, none, none] []) = some (.ok (lres (bi (evl g as l) fun v l => evl f [v] l)))
        unfold s__law_apply
        rw [enc]
        cases e : evl g as l with
        | none =>
          rw [e] at h1
          simp only [EV, SB, e1, e2, forL_nil, forL_cons, lb__law_apply_3, h1, lres, bi]
        | some p =>
          obtain ⟨v, l1⟩ := p
          rw [e] at h1
          obtain ⟨q1, q2, q3⟩ := evl_sized g as B hb hB l v l1 e
          have h2 : (tb k)._law_apply [enc f, .tup [.int v], .int l1] = some (.ok (lres (evl f [v] l1))) := ihf 1 [v] (B + ((l : Int) - l1)) l1 w.2 (by omega) rfl (Bd.nil.cons q2 q3) (by omega) (by omega) k (by omega)
          simp only [EV, SB, e1, e2, forL_nil, forL_cons, lb__law_apply_3, h1, h2, lres, bi, List.nil_append]
  | of2 f g i ihf ihg ihi =>
    exact fun m as B l w hm hl hb hB hM => Al.step fun k q => by
      simp only [hgt] at hm
      match l, hM with
      | 0, _ => exact lapply_0 _ _ _
      | l + 1, hM =>
        have e1 : decide (((l + 1 : Nat) : Int) < 1) = false := decide_eq_false (by omega)
        have e2 : ((l + 1 : Nat) : Int) - 1 = l := by omega
        have h1 := ihg m as B l w.1 (by omega) hl hb hB (by omega) k (by omega)
        show outP (s__law_apply (tb k) [some (.v (enc (.of2 f g i))), some (.v (.tup (as.map .int))), some (.v (.int ((l + 1 : Nat) : Int))), none, none, none, none, none] []) = some (.ok (lres (bi (evl g as l) fun v l => bi (evl i as l) fun u l => evl f [v, u] l)))
        unfold s__law_apply
        rw [enc]
        cases e : evl g as l with
        | none =>
          rw [e] at h1
          simp only [EV, SB, e1, e2, forL_nil, forL_cons, lb__law_apply_3, h1, lres, bi]
        | some p =>
          obtain ⟨v, l1⟩ := p
          rw [e] at h1
          obtain ⟨q1, q2, q3⟩ := evl_sized g as B hb hB l v l1 e
          have h2 := ihi m as B l1 w.2.1 (by omega) hl hb hB (by omega) k (by omega)
          cases e3 : evl i as l1 with
          | none =>
            rw [e3] at h2
            simp only [EV, SB, e1, e2, forL_nil, forL_cons, lb__law_apply_3, h1, h2, e3, lres, bi]
          | some p =>
            obtain ⟨u, l2⟩ := p
            rw [e3] at h2
            obtain ⟨r1, r2, r3⟩ := evl_sized i as B hb hB l1 u l2 e3
            have h3 : (tb k)._law_apply [enc f, .tup [.int v, .int u], .int l2] = some (.ok (lres (evl f [v, u] l2))) := ihf 2 [v, u] (B + ((l : Int) - l2)) l2 w.2.2 (by omega) rfl ((Bd.nil.cons r2 (by omega)).cons q2 (by omega)) (by omega) (by omega) k (by omega)
            simp only [EV, SB, e1, e2, forL_nil, forL_cons, lb__law_apply_3, h1, h2, h3, e3, lres, bi, List.nil_append, List.cons_append]
  | rep f g ihf ihg =>
    exact fun m as B l w hm hl hb hB hM => Al.step fun k q => by
      simp only [hgt] at hm
      match l, hM with
      | 0, _ => exact lapply_0 _ _ _
      | l + 1, hM =>
        have e1 : decide (((l + 1 : Nat) : Int) < 1) = false := decide_eq_false (by omega)
        have e2 : ((l + 1 : Nat) : Int) - 1 = l := by omega
        obtain ⟨p, rfl, hp6, w1, w2⟩ := w
        match as, hl, hb with
        | a :: r, hl, hb =>
        have hl : r.length = p := by simpa using hl
        have ha := hb a List.mem_cons_self
        have h1 := ihf p r B l w1 (by omega) hl hb.tail hB (by omega) k (by omega)
        have hr := rng1_up (j := a) (by omega) (by omega)
        show outP (s__law_apply (tb k) [some (.v (enc (.rep f g))), some (.v (.tup (.int a :: r.map .int))), some (.v (.int ((l + 1 : Nat) : Int))), none, none, none, none, none] []) = some (.ok (lres (bi (evl f r l) fun v l => lo (fun k v => evl g ((k : Int) :: v :: r)) a.toNat 0 v l)))
        unfold s__law_apply
        rw [enc]
        cases e : evl f r l with
        | none =>
          rw [e] at h1
          have hz := lrep_non (k := k) (f := f) (g := g) (a := a) (r := r) (some (.v (.int l))) (some (.v (.str "repeat"))) none none none a.toNat 0
          simp only [EV, SB, e1, e2, h1, hr, lres, bi, hz]
        | some p =>
          obtain ⟨v, l1⟩ := p
          rw [e] at h1
          obtain ⟨q1, q2, q3⟩ := evl_sized f r B hb.tail hB l v l1 e
          have hz := lrep_loop (k := k) (f := f) (g := g) (a := a) (r := r) (B := B) hb.tail hB (by omega) (fun j v C l c1 c2 c3 c4 c5 => ihg (p + 2) (j :: v :: r) C l w2 (by omega) (by simp [hl]) (((hb.tail.mono c4).cons c2 c3).cons (by omega) c1) (by omega) c5 k (by omega)) (some (.v (.int l))) (some (.v (.str "repeat"))) none none a.toNat 0 v (B + ((l : Int) - l1)) l1 none (by omega) q2 q3 (by omega) (by omega)
          simp only [EV, SB, e1, e2, h1, hr, lres, bi, hz]
  | least f ihf =>
    exact fun m as B l w hm hl hb hB hM => Al.step fun k q => by
      simp only [hgt] at hm
      match l, hM with
      | 0, _ => exact lapply_0 _ _ _
      | l + 1, hM =>
        have e1 : decide (((l + 1 : Nat) : Int) < 1) = false := decide_eq_false (by omega)
        have e2 : ((l + 1 : Nat) : Int) - 1 = l := by omega
        have hr := rng1_up (j := (l : Int) + 1) (by omega) (by omega)
        rw [show ((l : Int) + 1).toNat = l + 1 by omega] at hr
        have hz := llea_loop (k := k) (f := f) (B := B) hb hB (by omega) (fun j C l c1 c2 c3 => ihf (m + 1) (j :: as) C l w (by omega) (by simp [hl]) ((hb.mono c2).cons (by omega) c1) (by omega) c3 k q) (some (.v (.str "least"))) none none (l + 1) 0 B l none none hB (by omega) (by omega)
        show outP (s__law_apply (tb k) [some (.v (enc (.least f))), some (.v (.tup (as.map .int))), some (.v (.int ((l + 1 : Nat) : Int))), none, none, none, none, none] []) = some (.ok (lres (lea (fun k => evl f ((k : Int) :: as)) (l + 1) 0 l)))
        unfold s__law_apply
        rw [enc]
        simp only [EV, SB, e1, e2, hr, hz]
end K61

set_option Elab.async false
set_option linter.all false
set_option maxRecDepth 100000
set_option maxHeartbeats 4000000
/-! K61P5: the program's way to apply a function. -/
namespace K61
open PySem PySem.Spec PyProof.Rows L2 DL
def obj (L c : Int) : O := .ins "Evaluation" [("limit", .v (.int L)), ("count", .v (.int c))]
def tooLong (L : Int) : Xn := ⟨"TooLong", ["limit"], [.int L]⟩
def outc (L : Int) : Option (Int × Nat) → Option (Res D × Sto)
  | some (v, l) => some (.ok (.int v), [obj L (L - l)])
  | none => some (.ex (tooLong L), [obj L (L + 1)])
def cmQ (F : FI) (n : Nat) : Option (Res (List D) × Sto) → Option (Res D × Sto)
  | some (.ok ds, st) => if ds.length + 1 = n then F (.l 0 :: ds.map .v) st else none
  | some (.ex x, st) => some (.ex x, st)
  | none => none
section
variable {L c : Int} {F : FI} {f : SA} {r : Rho} {st : Sto}
theorem cm_a : cM 0 "Evaluation" "apply" 3 F f (some (.l 0) :: r) [obj L c] = cmQ F 3 (f (some (.l 0) :: r) [obj L c]) := by
  have h1 : stO (some (.l 0) :: r) [obj L c] 0 = some (0, ("Evaluation" : Str), ([("limit", .v (.int L)), ("count", .v (.int c))] : List (Str × S))) := rfl
  unfold cM
  rw [h1]
  dsimp only
  rw [if_pos ⟨rfl, rfl⟩]
  unfold bS cmQ
  generalize f (some (.l 0) :: r) [obj L c] = o
  match o with
  | none => rfl
  | some (.ex _, _) => rfl
  | some (.ok ds, st) => rfl
theorem cm_r : cM 0 "Evaluation" "repeat" 4 F f (some (.l 0) :: r) [obj L c] = cmQ F 4 (f (some (.l 0) :: r) [obj L c]) := by
  have h1 : stO (some (.l 0) :: r) [obj L c] 0 = some (0, ("Evaluation" : Str), ([("limit", .v (.int L)), ("count", .v (.int c))] : List (Str × S))) := rfl
  unfold cM
  rw [h1]
  dsimp only
  rw [if_pos ⟨rfl, rfl⟩]
  unfold bS cmQ
  generalize f (some (.l 0) :: r) [obj L c] = o
  match o with
  | none => rfl
  | some (.ex _, _) => rfl
  | some (.ok ds, st) => rfl
theorem cm_3 {s0 s1 s2 : Option S} : cM 3 "Evaluation" "apply" 3 F f (s0 :: s1 :: s2 :: some (.l 0) :: r) [obj L c] = cmQ F 3 (f (s0 :: s1 :: s2 :: some (.l 0) :: r) [obj L c]) := by
  have h1 : stO (s0 :: s1 :: s2 :: some (.l 0) :: r) [obj L c] 3 = some (0, ("Evaluation" : Str), ([("limit", .v (.int L)), ("count", .v (.int c))] : List (Str × S))) := rfl
  unfold cM
  rw [h1]
  dsimp only
  rw [if_pos ⟨rfl, rfl⟩]
  unfold bS cmQ
  generalize f (s0 :: s1 :: s2 :: some (.l 0) :: r) [obj L c] = o
  match o with
  | none => rfl
  | some (.ex _, _) => rfl
  | some (.ok ds, st) => rfl
theorem cmQ_2 {a b : D} : cmQ F 3 (some (.ok [a, b], st)) = F [.l 0, .v a, .v b] st := rfl
theorem cmQ_3 {a b c : D} : cmQ F 4 (some (.ok [a, b, c], st)) = F [.l 0, .v a, .v b, .v c] st := rfl
theorem f_lim : eF 0 "Evaluation" "limit" (some (.l 0) :: r) [obj L c] = some (.ok (.int L), [obj L c]) := rfl
theorem f_cnt : eF 0 "Evaluation" "count" (some (.l 0) :: r) [obj L c] = some (.ok (.int c), [obj L c]) := rfl
theorem f_cnt3 {s0 s1 s2 : Option S} : eF 3 "Evaluation" "count" (s0 :: s1 :: s2 :: some (.l 0) :: r) [obj L c] = some (.ok (.int c), [obj L c]) := rfl
theorem f_aug : fAug 0 "Evaluation" "count" iaddD (rS (.int 1)) (some (.l 0) :: r) [obj L c] = some (.nx (some (.l 0) :: r), [obj L (c + 1)]) := rfl
theorem mS_ev : mS "TooLong" "limit" f r st = bK (fun ds => oS (supD "TooLong" "limit" ds)) r (f r st) := rfl
theorem supD_ok (h : L.natAbs ≤ 1000000) : supD "TooLong" "limit" [.int L] = some (tooLong L) := if_pos h
theorem g_5 {s0 s1 s2 s3 s4 : Option S} {j : Int} : gS 5 iaddD (rS (.int 1)) (s0 :: s1 :: s2 :: s3 :: s4 :: some (.v (.int j)) :: r) st = some (.nx (s0 :: s1 :: s2 :: s3 :: s4 :: some (.v (.int (j + 1))) :: r), st) := rfl
end
section
variable {k : Nat} {f g : Fn} {a : Int} {r : List Int} {B L : Int}
theorem rep_loop (hB : Bd r B) (hB0 : 0 ≤ B) (hr : r.length ≤ 1000)
    (h : ∀ (j : Nat) (v C : Int) (l : Nat), (j : Int) ≤ C → 0 ≤ v → v ≤ C → B ≤ C → C + l ≤ 1000000000 → (tb k).Evaluation_apply [.l 0, .v (enc g), .v (.tup (.int j :: .int v :: r.map .int))] [obj L (L - l)] = outc L (evl g (j :: v :: r) l)) (cn : Option S) :
    ∀ (n j : Nat) (v C : Int) (l : Nat) (kk : Option S), (j : Int) + n ≤ B → 0 ≤ v → v ≤ C → B ≤ C → C + l ≤ 1000000000 →
      outI (sK (rtS (eV 4)) (forL (nG 5) (lb_Evaluation_repeat_1 (tb k)) (up j n) [some (.l 0), some (.v (.tup [.str "repeat", enc f, enc g])), cn, some (.v (.tup (r.map .int))), some (.v (.int v)), kk] [obj L (L - l)])) = outc L (lo (fun k v => evl g ((k : Int) :: v :: r)) n j v l)
  | 0, j, v, C, l, kk, h0, h1, h2, h3, h4 => rfl
  | n + 1, j, v, C, l, kk, h0, h1, h2, h3, h4 => by
    have h5 := h j v C l (by omega) h1 h2 h3 h4
    have h6 := ladd2 j v r hr
    unfold up
    cases e : evl g ((j : Int) :: v :: r) l with
    | none =>
      rw [e] at h5
      have h7 : lo (fun k v => evl g ((k : Int) :: v :: r)) (n + 1) j v l = none := by
        show bi (evl g ((j : Int) :: v :: r) l) _ = _
        rw [e]; rfl
      rw [h7, forL_cons]
      conv => lhs; arg 1; arg 2; arg 1; unfold lb_Evaluation_repeat_1
      simp only [EV, cm_a, cmQ_2, h5, h6, outc]
    | some p =>
      obtain ⟨u, l1⟩ := p
      rw [e] at h5
      have h7 : lo (fun k v => evl g ((k : Int) :: v :: r)) (n + 1) j v l = lo (fun k v => evl g ((k : Int) :: v :: r)) n (j + 1) u l1 := by
        show bi (evl g ((j : Int) :: v :: r) l) _ = _
        rw [e]; rfl
      rw [h7]
      obtain ⟨q1, q2, q3⟩ := evl_sized g (j :: v :: r) C (((hB.mono h3).cons h1 h2).cons (by omega) (by omega)) (by omega) l u l1 e
      have q := rep_loop hB hB0 hr h cn n (j + 1) u (C + ((l : Int) - l1)) l1 (some (.v (.int (j : Nat)))) (by omega) q2 q3 (by omega) (by omega)
      refine Eq.trans ?_ q
      rw [forL_cons]
      conv => lhs; arg 1; arg 2; arg 1; unfold lb_Evaluation_repeat_1
      simp only [EV, cm_a, cmQ_2, h5, h6, outc]
theorem least_loop {as : List Int} (hB : Bd as B) (hB0 : 0 ≤ B) (hr : as.length ≤ 1000)
    (h : ∀ (j : Nat) (C : Int) (l : Nat), (j : Int) ≤ C → B ≤ C → C + l ≤ 1000000000 → (tb k).Evaluation_apply [.l 0, .v (enc f), .v (.tup (.int j :: as.map .int))] [obj L (L - l)] = outc L (evl f (j :: as) l)) (kd inn pt : Option S) :
    ∀ (n j : Nat) (C : Int) (l : Nat), l < n → (j : Int) ≤ C → B ≤ C → C + l ≤ 1000000000 →
      outI (sK (rtS (eV 5)) (whileF (lb_Evaluation_apply_2 (tb k)) (lb_Evaluation_apply_1 (tb k)) n [some (.l 0), some (.v (.tup [.str "least", enc f])), some (.v (.tup (as.map .int))), kd, inn, some (.v (.int j)), pt] [obj L (L - l)])) = outc L (lea (fun k => evl f ((k : Int) :: as)) n j l)
  | n + 1, j, C, l, hn, h1, h2, h3 => by
    have h5 := h j C l h1 h2 h3
    have h6 := ladd1 j as hr
    rw [whileF_ev]
    conv => lhs; arg 1; arg 2; arg 5; unfold lb_Evaluation_apply_2
    cases e : evl f ((j : Int) :: as) l with
    | none =>
      rw [e] at h5
      have h7 : lea (fun k => evl f ((k : Int) :: as)) (n + 1) j l = none := by
        show bi (evl f ((j : Int) :: as) l) _ = _
        rw [e]; rfl
      rw [h7]
      simp only [EV, cm_a, cmQ_2, h5, h6, outc, wK_ex]
    | some p =>
      obtain ⟨u, l1⟩ := p
      rw [e] at h5
      have h7 : lea (fun k => evl f ((k : Int) :: as)) (n + 1) j l = if u = 0 then some ((j : Int), l1) else lea (fun k => evl f ((k : Int) :: as)) n (j + 1) l1 := by
        show bi (evl f ((j : Int) :: as) l) _ = _
        rw [e]; rfl
      obtain ⟨q1, q2, q3⟩ := evl_sized f (j :: as) C ((hB.mono h2).cons (by omega) h1) (by omega) l u l1 e
      rw [h7]
      by_cases hu : u = 0
      · rw [if_pos hu]
        simp only [EV, cm_a, cmQ_2, h5, h6, outc, beqT hu, wK_f]
      · rw [if_neg hu]
        have q := least_loop hB hB0 hr h kd inn pt n (j + 1) (C + ((l : Int) - l1)) l1 (by omega) (by omega) (by omega) (by omega)
        refine Eq.trans ?_ q
        simp only [EV, cm_a, cmQ_2, h5, h6, outc, beqF hu, wK_t]
        conv => lhs; arg 1; arg 2; arg 1; unfold lb_Evaluation_apply_1
        rw [g_5, lK_nx]
        rfl
end
theorem out_some {k : SS} {o : Option (Fl × Sto)} {L : Int} {z : Option (Int × Nat)} (h : outI (sK k o) = outc L z) : ∃ r, o = some r := by
  cases o with
  | some r => exact ⟨r, rfl⟩
  | none =>
    have h : none = outc L z := h
    cases z <;> cases h
theorem apply_0 (t : Tb) (d a : D) {L : Int} (h : L.natAbs ≤ 1000000) : (tbS t).Evaluation_apply [.l 0, .v d, .v a] [obj L (L - ((0 : Nat) : Int))] = outc L none := by
  have e1 : decide (L < L - ((0 : Nat) : Int) + 1) = true := dT (by omega)
  have e2 : L - ((0 : Nat) : Int) + 1 = L + 1 := by omega
  have e3 : decide (L < L + 1) = true := dT (by omega)
  show outI (s_Evaluation_apply t [some (.l 0), some (.v d), some (.v a), none, none, none, none] [obj L (L - ((0 : Nat) : Int))]) = _
  unfold s_Evaluation_apply
  simp only [EV, f_aug, f_cnt, f_lim, e1, e2, e3, mS_ev, supD_ok h, outc]
theorem apply_ok {L : Int} (hL : L.natAbs ≤ 1000000) (t : Fn) : ∀ (m : Nat) (as : List Int) (B : Int) (l : Nat), WT t m → m + 2 * hgt t ≤ 1000 → as.length = m → Bd as B → 0 ≤ B → B + l ≤ 1000000000 → Al (2 * hgt t) fun k => (tb k).Evaluation_apply [.l 0, .v (enc t), .v (.tup (as.map .int))] [obj L (L - l)] = outc L (evl t as l) := by
  induction t with
  | zero n =>
    exact fun m as B l w hm hl hb hB hM => Al.step2 (n := 0) fun k q => by
      match l, hM with
      | 0, _ => exact apply_0 _ _ _ hL
      | l + 1, _ =>
        have e1 : L - ((l + 1 : Nat) : Int) + 1 = L - l := by omega
        have e2 : decide (L < L - (l : Int)) = false := decide_eq_false (by omega)
        show outI (s_Evaluation_apply (tb (k + 1)) [some (.l 0), some (.v (enc (.zero n))), some (.v (.tup (as.map .int))), none, none, none, none] [obj L (L - ((l + 1 : Nat) : Int))]) = outc L (some (0, l))
        unfold s_Evaluation_apply
        rw [enc]
        simp only [EV, SB, f_aug, f_cnt, f_lim, e1, e2, outc]
  | next =>
    exact fun m as B l w hm hl hb hB hM => Al.step2 (n := 0) fun k q => by
      match l, hM with
      | 0, _ => exact apply_0 _ _ _ hL
      | l + 1, _ =>
        have e1 : L - ((l + 1 : Nat) : Int) + 1 = L - l := by omega
        have e2 : decide (L < L - (l : Int)) = false := decide_eq_false (by omega)
        obtain rfl := (show m = 1 from w)
        match as, hl with
        | [a], _ =>
        show outI (s_Evaluation_apply (tb (k + 1)) [some (.l 0), some (.v (enc .next)), some (.v (.tup [.int a])), none, none, none, none] [obj L (L - ((l + 1 : Nat) : Int))]) = outc L (some (a + 1, l))
        unfold s_Evaluation_apply
        rw [enc]
        simp only [EV, SB, f_aug, f_cnt, f_lim, e1, e2, outc]
  | arg n i =>
    exact fun m as B l w hm hl hb hB hM => Al.step2 (n := 0) fun k q => by
      match l, hM with
      | 0, _ => exact apply_0 _ _ _ hL
      | l + 1, _ =>
        have e1 : L - ((l + 1 : Nat) : Int) + 1 = L - l := by omega
        have e2 : decide (L < L - (l : Int)) = false := decide_eq_false (by omega)
        obtain ⟨rfl, _, hi⟩ := w
        have hx : ixD (.tup (as.map .int)) (.int i) = some (.int (as.getD i 0)) := ixD_nat (by
          rw [List.getElem?_map, List.getD_eq_getElem?_getD, List.getElem?_eq_getElem (by omega)]; rfl)
        show outI (s_Evaluation_apply (tb (k + 1)) [some (.l 0), some (.v (enc (.arg m i))), some (.v (.tup (as.map .int))), none, none, none, none] [obj L (L - ((l + 1 : Nat) : Int))]) = outc L (some (as.getD i 0, l))
        unfold s_Evaluation_apply
        rw [enc]
        simp only [EV, SB, f_aug, f_cnt, f_lim, e1, e2, hx, outc]
  | of1 f g ihf ihg =>
    exact fun m as B l w hm hl hb hB hM => Al.step2 (n := 2 * max (hgt f) (hgt g)) fun k q => by
      simp only [hgt] at hm
      match l, hM with
      | 0, _ => exact apply_0 _ _ _ hL
      | l + 1, hM =>
        have e1 : L - ((l + 1 : Nat) : Int) + 1 = L - l := by omega
        have e2 : decide (L < L - (l : Int)) = false := decide_eq_false (by omega)
        have h1 := ihg m as B l w.1 (by omega) hl hb hB (by omega) (k + 1) (by omega)
        show outI (s_Evaluation_apply (tb (k + 1)) [some (.l 0), some (.v (enc (.of1 f g))), some (.v (.tup (as.map .int))), none, none, none, none] [obj L (L - ((l + 1 : Nat) : Int))]) = outc L (bi (evl g as l) fun v l => evl f [v] l)
        unfold s_Evaluation_apply
        rw [enc]
        cases e : evl g as l with
        | none =>
          rw [e] at h1
          simp only [EV, SB, f_aug, f_cnt, f_lim, e1, e2, cm_a, cmQ_2, h1, outc, bi]
        | some p =>
          obtain ⟨v, l1⟩ := p
          rw [e] at h1
          obtain ⟨q1, q2, q3⟩ := evl_sized g as B hb hB l v l1 e
          have h2 : (tb (k + 1)).Evaluation_apply [.l 0, .v (enc f), .v (.tup [.int v])] [obj L (L - l1)] = outc L (evl f [v] l1) := ihf 1 [v] (B + ((l : Int) - l1)) l1 w.2 (by omega) rfl (Bd.nil.cons q2 q3) (by omega) (by omega) (k + 1) (by omega)
          show _ = outc L (evl f [v] l1)
          cases e5 : evl f [v] l1 <;> rw [e5] at h2 <;> simp only [EV, SB, f_aug, f_cnt, f_lim, e1, e2, cm_a, cmQ_2, h1, h2, outc]
  | of2 f g i ihf ihg ihi =>
    exact fun m as B l w hm hl hb hB hM => Al.step2 (n := 2 * max (max (hgt f) (hgt g)) (hgt i)) fun k q => by
      simp only [hgt] at hm
      match l, hM with
      | 0, _ => exact apply_0 _ _ _ hL
      | l + 1, hM =>
        have e1 : L - ((l + 1 : Nat) : Int) + 1 = L - l := by omega
        have e2 : decide (L < L - (l : Int)) = false := decide_eq_false (by omega)
        have h1 := ihg m as B l w.1 (by omega) hl hb hB (by omega) (k + 1) (by omega)
        show outI (s_Evaluation_apply (tb (k + 1)) [some (.l 0), some (.v (enc (.of2 f g i))), some (.v (.tup (as.map .int))), none, none, none, none] [obj L (L - ((l + 1 : Nat) : Int))]) = outc L (bi (evl g as l) fun v l => bi (evl i as l) fun u l => evl f [v, u] l)
        unfold s_Evaluation_apply
        rw [enc]
        cases e : evl g as l with
        | none =>
          rw [e] at h1
          simp only [EV, SB, f_aug, f_cnt, f_lim, e1, e2, cm_a, cmQ_2, h1, outc, bi]
        | some p =>
          obtain ⟨v, l1⟩ := p
          rw [e] at h1
          obtain ⟨q1, q2, q3⟩ := evl_sized g as B hb hB l v l1 e
          have h2 := ihi m as B l1 w.2.1 (by omega) hl hb hB (by omega) (k + 1) (by omega)
          show _ = outc L (bi (evl i as l1) fun u l => evl f [v, u] l)
          cases e3 : evl i as l1 with
          | none =>
            rw [e3] at h2
            simp only [EV, SB, f_aug, f_cnt, f_lim, e1, e2, cm_a, cmQ_2, h1, h2, outc, bi]
          | some p =>
            obtain ⟨u, l2⟩ := p
            rw [e3] at h2
            obtain ⟨r1, r2, r3⟩ := evl_sized i as B hb hB l1 u l2 e3
            have h3 : (tb (k + 1)).Evaluation_apply [.l 0, .v (enc f), .v (.tup [.int v, .int u])] [obj L (L - l2)] = outc L (evl f [v, u] l2) := ihf 2 [v, u] (B + ((l : Int) - l2)) l2 w.2.2 (by omega) rfl ((Bd.nil.cons r2 (by omega)).cons q2 (by omega)) (by omega) (by omega) (k + 1) (by omega)
            show _ = outc L (evl f [v, u] l2)
            cases e5 : evl f [v, u] l2 <;> rw [e5] at h3 <;> simp only [EV, SB, f_aug, f_cnt, f_lim, e1, e2, cm_a, cmQ_2, h1, h2, h3, outc]
  | rep f g ihf ihg =>
    exact fun m as B l w hm hl hb hB hM => Al.step2 (n := 2 * max (hgt f) (hgt g)) fun k q => by
      simp only [hgt] at hm
      match l, hM with
      | 0, _ => exact apply_0 _ _ _ hL
      | l + 1, hM =>
        have e1 : L - ((l + 1 : Nat) : Int) + 1 = L - l := by omega
        have e2 : decide (L < L - (l : Int)) = false := decide_eq_false (by omega)
        obtain ⟨p, rfl, hp6, w1, w2⟩ := w
        match as, hl, hb with
        | a :: r, hl, hb =>
        have hl : r.length = p := by simpa using hl
        have ha := hb a List.mem_cons_self
        have h1 := ihf p r B l w1 (by omega) hl hb.tail hB (by omega) k (by omega)
        have hr := rng1_up (j := a) (by omega) (by omega)
        have hR : (tb (k + 1)).Evaluation_repeat [.l 0, .v (.tup [.str "repeat", enc f, enc g]), .v (.int a), .v (.tup (r.map .int))] [obj L (L - l)] = outc L (bi (evl f r l) fun v l => lo (fun k v => evl g ((k : Int) :: v :: r)) a.toNat 0 v l) := by
          show outI (s_Evaluation_repeat (tb k) [some (.l 0), some (.v (.tup [.str "repeat", enc f, enc g])), some (.v (.int a)), some (.v (.tup (r.map .int))), none, none] [obj L (L - l)]) = _
          unfold s_Evaluation_repeat
          cases e : evl f r l with
          | none =>
            rw [e] at h1
            simp only [EV, cm_a, cmQ_2, h1, outc, bi]
          | some p =>
            obtain ⟨v, l1⟩ := p
            rw [e] at h1
            obtain ⟨q1, q2, q3⟩ := evl_sized f r B hb.tail hB l v l1 e
            have hz := rep_loop (k := k) (f := f) (g := g) (r := r) (B := B) (L := L) hb.tail hB (by omega) (fun j v C l c1 c2 c3 c4 c5 => ihg (p + 2) (j :: v :: r) C l w2 (by omega) (by simp [hl]) (((hb.tail.mono c4).cons c2 c3).cons (by omega) c1) (by omega) c5 k (by omega)) (some (.v (.int a))) a.toNat 0 v (B + ((l : Int) - l1)) l1 none (by omega) q2 q3 (by omega) (by omega)
            show _ = outc L (lo (fun k v => evl g ((k : Int) :: v :: r)) a.toNat 0 v l1)
            rw [← hz]
            simp only [EV, cm_a, cmQ_2, h1, hr, outc]
        show outI (s_Evaluation_apply (tb (k + 1)) [some (.l 0), some (.v (enc (.rep f g))), some (.v (.tup (.int a :: r.map .int))), none, none, none, none] [obj L (L - ((l + 1 : Nat) : Int))]) = outc L (bi (evl f r l) fun v l => lo (fun k v => evl g ((k : Int) :: v :: r)) a.toNat 0 v l)
        unfold s_Evaluation_apply
        rw [enc]
        cases e5 : (bi (evl f r l) fun v l => lo (fun k v => evl g ((k : Int) :: v :: r)) a.toNat 0 v l) <;> rw [e5] at hR <;> simp only [EV, SB, f_aug, f_cnt, f_lim, e1, e2, cm_r, cmQ_3, hR, outc]
  | least f ihf =>
    exact fun m as B l w hm hl hb hB hM => Al.step2 (n := 2 * hgt f) fun k q => by
      simp only [hgt] at hm
      match l, hM with
      | 0, _ => exact apply_0 _ _ _ hL
      | l + 1, hM =>
        have e1 : L - ((l + 1 : Nat) : Int) + 1 = L - l := by omega
        have e2 : decide (L < L - (l : Int)) = false := decide_eq_false (by omega)
        have hz := least_loop (k := k + 1) (f := f) (B := B) (L := L) hb hB (by omega) (fun j C l c1 c2 c3 => ihf (m + 1) (j :: as) C l w (by omega) (by simp [hl]) ((hb.mono c2).cons (by omega) c1) (by omega) c3 (k + 1) (by omega)) (some (.v (.str "least"))) none none (l + 1) 0 B l (by omega) hB (by omega) (by omega)
        show outI (s_Evaluation_apply (tb (k + 1)) [some (.l 0), some (.v (enc (.least f))), some (.v (.tup (as.map .int))), none, none, none, none] [obj L (L - ((l + 1 : Nat) : Int))]) = outc L (lea (fun k => evl f ((k : Int) :: as)) (l + 1) 0 l)
        unfold s_Evaluation_apply
        rw [enc]
        obtain ⟨w, hw⟩ := out_some hz
        have hs := wS_of hw
        rw [← hz, hw]
        simp only [EV, SB, f_aug, f_cnt, f_lim, e1, e2]
        exact congrArg (fun o => outI (sK (rtS (eV 5)) o)) hs
end K61

set_option Elab.async false
set_option linter.all false
set_option maxRecDepth 100000
set_option maxHeartbeats 4000000
/-! K61P6: value, applications, what the law is told. -/
namespace K61
open PySem PySem.Spec PyProof.Rows L2 DL
section
variable {t : Fn} {m l : Nat} {as : List Int} {B : Int}
theorem check_ok (w : WT t m) (hh : hgt t ≤ 12) (hc : cnt t ≤ 200) (hl : as.length = m) (hb : Bd as B) : Al (hgt t + 4) fun k => (tb k).check_arguments [enc t, .tup (as.map .int)] = some (.ok .non) :=
  Al.step fun k q => by
    have h1 := isfun_ok w hh hc k (by omega)
    have h2 := arity_ok t m w k (by omega)
    have h3 : ((List.map D.int as).length : Int) = m := by simp [hl]
    have h4 : gaL false (fun d ρ => some (List.set ρ 2 (some (S.v d)))) (e2 ltD (eV 2) (rS (.int 0))) (as.map .int) [some (.v (enc t)), some (.v (.tup (as.map .int))), none] [] = some (.ok false, []) := gaL_all fun a ha => by
      have e := decide_eq_false (show ¬ a < 0 by have := (hb a ha).1; omega)
      simp only [EV, e]
    show outP (s_check_arguments (tb k) [some (.v (enc t)), some (.v (.tup (as.map .int))), none] []) = _
    unfold s_check_arguments
    simp only [EV, h1, h2, h3, h4]
theorem init_ok (T : Tb) (L : Int) : (tbS T).Evaluation_init [.l 0, .v (.int L)] [.ins "Evaluation" []] = some (.ok .non, [obj L 0]) := rfl
theorem mk_ok {F : FI} {L : Int} {a b x y : Option S} (h : F [.l 0, .v (.int L)] [.ins "Evaluation" []] = some (.ok .non, [obj L 0])) :
    mkS 3 "Evaluation" 2 F (aC (eV 2) aN) [a, b, some (.v (.int L)), x, y] [] = some (.nx [a, b, some (.v (.int L)), some (.l 0), y], [obj L 0]) := by
  show (match F [.l 0, .v (.int L)] [.ins "Evaluation" []] with
    | some (.ok .non, st') => some (Fl.nx [a, b, some (S.v (D.int L)), some (S.l 0), y], st')
    | some (.ex x', st') => some (Fl.ex x' [a, b, some (S.v (D.int L)), x, y], st')
    | _ => none) = _
  rw [h]
def evd (l : Nat) : Option (Int × Nat) → Res D
  | some (v, l') => .ok (.tup [.int v, .int ((l : Int) - l')])
  | none => .ex (tooLong l)
theorem evaluated_ok (w : WT t m) (hh : hgt t ≤ 12) (hc : cnt t ≤ 200) (hm : m ≤ 100) (hl : as.length = m) (hb : Bd as B) (hB : 0 ≤ B) (hM : B + l ≤ 1000000) : Al (2 * hgt t + 6) fun k => (tb k).evaluated [enc t, .tup (as.map .int), .int l] = some (evd l (evl t as l)) :=
  Al.step2 (n := 2 * hgt t + 4) fun k q => by
    have h1 := check_ok w hh hc hl hb (k + 1) (by omega)
    have h2 := mk_ok (F := (tb (k + 1)).Evaluation_init) (L := l) (a := some (.v (enc t))) (b := some (.v (.tup (as.map .int)))) (x := none) (y := none) (init_ok (tb k) l)
    have h3 : (tb (k + 1)).Evaluation_apply [.l 0, .v (enc t), .v (.tup (as.map .int))] [obj l 0] = outc l (evl t as l) := by
      have := apply_ok (L := l) (by omega) t m as B l w (by omega) hl hb hB (by omega) (k + 1) (by omega)
      rw [Int.sub_self] at this
      exact this
    show outP (s_evaluated (tb (k + 1)) [some (.v (enc t)), some (.v (.tup (as.map .int))), some (.v (.int l)), none, none] []) = _
    unfold s_evaluated
    cases e : evl t as l <;> rw [e] at h3 <;> simp only [EV, h1, h2, h3, cm_3, cmQ_2, f_cnt3, outc, evd]
def vald (l : Nat) : Option (Int × Nat) → Res D
  | some (v, _) => .ok (.int v)
  | none => .ex (tooLong l)
def appd (l : Nat) : Option (Int × Nat) → Res D
  | some (_, l') => .ok (.int ((l : Int) - l'))
  | none => .ex (tooLong l)
theorem value_ok (w : WT t m) (hh : hgt t ≤ 12) (hc : cnt t ≤ 200) (hm : m ≤ 100) (hl : as.length = m) (hb : Bd as B) (hB : 0 ≤ B) (hM : B + l ≤ 1000000) : Al (2 * hgt t + 7) fun k => (tb k).value [enc t, .tup (as.map .int), .int l] = some (vald l (evl t as l)) :=
  Al.step (n := 2 * hgt t + 6) fun k q => by
    have h1 := evaluated_ok w hh hc hm hl hb hB hM k q
    show outP (s_value (tb k) [some (.v (enc t)), some (.v (.tup (as.map .int))), some (.v (.int l))] []) = _
    unfold s_value
    cases e : evl t as l <;> rw [e] at h1 <;> simp only [EV, h1, evd, vald]
theorem appl_ok (w : WT t m) (hh : hgt t ≤ 12) (hc : cnt t ≤ 200) (hm : m ≤ 100) (hl : as.length = m) (hb : Bd as B) (hB : 0 ≤ B) (hM : B + l ≤ 1000000) : Al (2 * hgt t + 7) fun k => (tb k).applications [enc t, .tup (as.map .int), .int l] = some (appd l (evl t as l)) :=
  Al.step (n := 2 * hgt t + 6) fun k q => by
    have h1 := evaluated_ok w hh hc hm hl hb hB hM k q
    show outP (s_applications (tb k) [some (.v (enc t)), some (.v (.tup (as.map .int))), some (.v (.int l))] []) = _
    unfold s_applications
    cases e : evl t as l <;> rw [e] at h1 <;> simp only [EV, h1, evd, appd]
end
/-! try -/
theorem tryS_ok {ct : Str → Option Bool} {C : Str} {i : Nat} {b : SS} {sf : Addr → Addr → SS} {ρ : Rho} {st st1 : Sto} {d : D} (h : b ρ st = some (.rt d, st1)) : tryS ct C i b sf ρ st = some (.rt d, st1) := by
  unfold tryS
  rw [h]
theorem tryS_ex {ct : Str → Option Bool} {C : Str} {i : Nat} {b : SS} {sf : Addr → Addr → SS} {ρ ρ1 : Rho} {st st1 : Sto} {x : Xn} {r : Fl × Sto} (h : b ρ st = some (.ex x ρ1, st1)) (h1 : ct x.C = some true) (h2 : x.C = C) (h3 : x.ns ≠ [])
    (h4 : ∀ a dx, unI i (sf a dx (ρ1.set i (some (.v (.exn a dx x.C x.ns x.ds)))) st1) = some r) : tryS ct C i b sf ρ st = some r := by
  unfold tryS
  rw [h]
  dsimp only
  rw [h1]
  dsimp only
  rw [if_pos ⟨h2, h3⟩]
  have hx : ∃ r, ∀ a dx, unI i (sf a dx (ρ1.set i (some (.v (.exn a dx x.C x.ns x.ds)))) st1) = some r := ⟨r, h4⟩
  rw [dif_pos hx]
  have e := (Classical.choose_spec hx 0 0).symm.trans (h4 0 0)
  rw [Option.some.inj e]
def toldV (l : Nat) : Option (Int × Nat) → D
  | some (v, _) => .tup [.str "value", .int v]
  | none => .tup [.str "long", .int l]
def toldA (l : Nat) : Option (Int × Nat) → D
  | some (_, l') => .tup [.str "value", .int ((l : Int) - l')]
  | none => .tup [.str "long", .int l]
section
variable {t : Fn} {m l : Nat} {as : List Int} {B : Int}
theorem told_ok (w : WT t m) (hh : hgt t ≤ 12) (hc : cnt t ≤ 200) (hm : m ≤ 100) (hl : as.length = m) (hb : Bd as B) (hB : 0 ≤ B) (hM : B + l ≤ 1000000) (way : Int) :
    Al (2 * hgt t + 8) fun k => (tb k)._law_told [enc t, .tup (as.map .int), .int l, .int way] = some (.ok (if way = 0 then toldV l (evl t as l) else toldA l (evl t as l))) :=
  Al.step (n := 2 * hgt t + 7) fun k q => by
    have h1 := value_ok w hh hc hm hl hb hB hM k q
    have h2 := appl_ok w hh hc hm hl hb hB hM k q
    show outP (s__law_told (tb k) [some (.v (enc t)), some (.v (.tup (as.map .int))), some (.v (.int l)), some (.v (.int way)), none] []) = _
    unfold s__law_told
    by_cases hw : way = 0
    · rw [if_pos hw]
      cases e : evl t as l with
      | none =>
        rw [e] at h1
        exact (congrArg outP (tryS_ex (x := tooLong l) (st1 := []) (ρ1 := [some (.v (enc t)), some (.v (.tup (as.map .int))), some (.v (.int l)), some (.v (.int way)), none]) (r := (.rt (.tup [.str "long", .int l]), [])) (by simp only [EV, beqT hw, h1, vald]) rfl rfl (by simp [tooLong]) (fun a dx => by
          rw [rtS_ev, eTup_ev, aC_ev, rS_ev, bK_ok, bS_ev, aC_ev]
          have e : exF 4 a dx "TooLong" "limit" [some (.v (enc t)), some (.v (.tup (as.map .int))), some (.v (.int l)), some (.v (.int way)), some (.v (.exn a dx "TooLong" ["limit"] [.int l]))] [] = some (.ok (.int l), []) := by
            show (if a = a ∧ dx = dx ∧ ("TooLong" : Str) = "TooLong" ∧ (["limit"] : List Str) = (["limit"] : List Str) then some (Res.ok (D.int l), ([] : Sto)) else none) = _
            rw [if_pos ⟨rfl, rfl, rfl, rfl⟩]
          have e2 : ([some (.v (enc t)), some (.v (.tup (as.map .int))), some (.v (.int l)), some (.v (.int way)), none] : Rho).set 4 (some (.v (.exn a dx (tooLong l).C (tooLong l).ns (tooLong l).ds))) = [some (.v (enc t)), some (.v (.tup (as.map .int))), some (.v (.int l)), some (.v (.int way)), some (.v (.exn a dx "TooLong" ["limit"] [.int l]))] := rfl
          rw [e2, e]
          rfl))).trans rfl
      | some p =>
        obtain ⟨v, l1⟩ := p
        rw [e] at h1
        exact (congrArg outP (tryS_ok (d := .tup [.str "value", .int v]) (st1 := []) (by simp only [EV, beqT hw, h1, vald]))).trans rfl
    · rw [if_neg hw]
      cases e : evl t as l with
      | none =>
        rw [e] at h2
        exact (congrArg outP (tryS_ex (x := tooLong l) (st1 := []) (ρ1 := [some (.v (enc t)), some (.v (.tup (as.map .int))), some (.v (.int l)), some (.v (.int way)), none]) (r := (.rt (.tup [.str "long", .int l]), [])) (by simp only [EV, beqF hw, h2, appd]) rfl rfl (by simp [tooLong]) (fun a dx => by
          rw [rtS_ev, eTup_ev, aC_ev, rS_ev, bK_ok, bS_ev, aC_ev]
          have e : exF 4 a dx "TooLong" "limit" [some (.v (enc t)), some (.v (.tup (as.map .int))), some (.v (.int l)), some (.v (.int way)), some (.v (.exn a dx "TooLong" ["limit"] [.int l]))] [] = some (.ok (.int l), []) := by
            show (if a = a ∧ dx = dx ∧ ("TooLong" : Str) = "TooLong" ∧ (["limit"] : List Str) = (["limit"] : List Str) then some (Res.ok (D.int l), ([] : Sto)) else none) = _
            rw [if_pos ⟨rfl, rfl, rfl, rfl⟩]
          have e2 : ([some (.v (enc t)), some (.v (.tup (as.map .int))), some (.v (.int l)), some (.v (.int way)), none] : Rho).set 4 (some (.v (.exn a dx (tooLong l).C (tooLong l).ns (tooLong l).ds))) = [some (.v (enc t)), some (.v (.tup (as.map .int))), some (.v (.int l)), some (.v (.int way)), some (.v (.exn a dx "TooLong" ["limit"] [.int l]))] := rfl
          rw [e2, e]
          rfl))).trans rfl
      | some p =>
        obtain ⟨v, l1⟩ := p
        rw [e] at h2
        exact (congrArg outP (tryS_ok (d := .tup [.str "value", .int ((l : Int) - l1)]) (st1 := []) (by simp only [EV, beqF hw, h2, appd]))).trans rfl
end
/-! like -/
theorem neD_bl {i j : Bool} : neD (.bl i) (.bl j) = some (.bl (!(i == j))) := rfl
theorem TY : (∀ x : Str, isTy .bool (.str x) = some false) ∧ (∀ x : Str, isTy .int (.str x) = some false) ∧ (∀ x : Str, isTy .str (.str x) = some true) ∧ (∀ x : Str, isTy .list (.str x) = some false) ∧ (∀ x : Str, isTy .tuple (.str x) = some false) ∧ (∀ x : Int, isTy .bool (.int x) = some false) ∧ (∀ x : Int, isTy .int (.int x) = some true) ∧ (∀ x : Int, isTy .str (.int x) = some false) ∧ (∀ x : Int, isTy .list (.int x) = some false) ∧ (∀ x : Int, isTy .tuple (.int x) = some false) ∧ (∀ x : Bool, isTy .bool (.bl x) = some true) ∧ (∀ x : Bool, isTy .int (.bl x) = some true) ∧ (∀ x : Bool, isTy .str (.bl x) = some false) ∧ (∀ x : Bool, isTy .list (.bl x) = some false) ∧ (∀ x : Bool, isTy .tuple (.bl x) = some false) ∧ (∀ x : List D, isTy .bool (.tup x) = some false) ∧ (∀ x : List D, isTy .int (.tup x) = some false) ∧ (∀ x : List D, isTy .str (.tup x) = some false) ∧ (∀ x : List D, isTy .list (.tup x) = some false) ∧ (∀ x : List D, isTy .tuple (.tup x) = some true) ∧ (∀ x : List D, isTy .bool (.lst x) = some false) ∧ (∀ x : List D, isTy .int (.lst x) = some false) ∧ (∀ x : List D, isTy .str (.lst x) = some false) ∧ (∀ x : List D, isTy .list (.lst x) = some true) ∧ (∀ x : List D, isTy .tuple (.lst x) = some false) := ⟨fun _ => rfl, fun _ => rfl, fun _ => rfl, fun _ => rfl, fun _ => rfl, fun _ => rfl, fun _ => rfl, fun _ => rfl, fun _ => rfl, fun _ => rfl, fun _ => rfl, fun _ => rfl, fun _ => rfl, fun _ => rfl, fun _ => rfl, fun _ => rfl, fun _ => rfl, fun _ => rfl, fun _ => rfl, fun _ => rfl, fun _ => rfl, fun _ => rfl, fun _ => rfl, fun _ => rfl, fun _ => rfl⟩
theorem run_like (T : Tb) (a b : D) : (tbS T)._law_like [a, b] = outP (s__law_like T [some (.v a), some (.v b), none] []) := rfl
theorem like_str (x : Str) : Al 1 fun k => (tb k)._law_like [.str x, .str x] = some (.ok (.bl true)) :=
  Al.step (n := 0) fun k _ => by
    show outP (s__law_like (tb k) [some (.v (.str x)), some (.v (.str x)), none] []) = _
    unfold s__law_like
    simp only [EV, TY, Option.map_some]
theorem like_int (x : Int) : Al 1 fun k => (tb k)._law_like [.int x, .int x] = some (.ok (.bl true)) :=
  Al.step (n := 0) fun k _ => by
    show outP (s__law_like (tb k) [some (.v (.int x)), some (.v (.int x)), none] []) = _
    unfold s__law_like
    simp only [EV, TY, Option.map_some]
theorem like_ok (x : Str) (i : Int) : Al 2 fun k => (tb k)._law_like [.tup [.str x, .int i], .tup [.str x, .int i]] = some (.ok (.bl true)) :=
  Al.step (n := 1) fun k q => by
    have h1 := like_str x k q
    have h2 := like_int i k q
    have h3 : rng1 [.int 2] = some [.int 0, .int 1] := by rfl
    have h4 : allC [.lst [.bl true, .bl true]] = some (.bl true) := rfl
    show (tbS (tb k))._law_like [_, _] = _
    rw [run_like]
    unfold s__law_like
    have b1 : (false == false) = true := rfl
    have b2 : (true == true) = true := rfl
    simp only [EV, TY, Option.map_some, neD_bl, h1, h2, h3, h4, b1, b2]
end K61

set_option Elab.async false
set_option linter.all false
set_option maxRecDepth 100000
set_option maxHeartbeats 4000000
/-! K61P7: the numbers drawn, the function made of them. -/
namespace K61
open PySem PySem.Spec PyProof.Rows L2 DL
theorem modD_pos {i j : Int} (h : 0 < j) : modD (.int i) (.int j) = some (.int (i % j)) := if_pos h
theorem divD_pos {i j : Int} (h : 0 < j) (h2 : j < 1073741824) : divD (.int i) (.int j) = some (.int (i / j)) := if_pos ⟨h, h2⟩
theorem mulD_l {i j : Int} (h : DL.small64 i = true) : mulD (.int i) (.int j) = some (.int (i * j)) := by
  show (if (DL.small64 i || DL.small64 j) = true then _ else _) = _
  rw [h, Bool.true_or, if_pos rfl]
theorem mulD_r {i j : Int} (h : DL.small64 j = true) : mulD (.int i) (.int j) = some (.int (i * j)) := by
  show (if (DL.small64 i || DL.small64 j) = true then _ else _) = _
  rw [h, Bool.or_true, if_pos rfl]
theorem AR : (∀ i, modD (.int i) (.int 9) = some (.int (i % 9))) ∧ (∀ i, modD (.int i) (.int 3) = some (.int (i % 3))) ∧ (∀ i, modD (.int i) (.int 4) = some (.int (i % 4))) ∧ (∀ i, modD (.int i) (.int 2) = some (.int (i % 2))) ∧ (∀ i, modD (.int i) (.int 5) = some (.int (i % 5))) ∧ (∀ i, modD (.int i) (.int 60) = some (.int (i % 60)))
    ∧ (∀ i, modD (.int i) (.int 4096) = some (.int (i % 4096))) ∧ (∀ i, modD (.int i) (.int 2147483647) = some (.int (i % 2147483647))) ∧ (∀ i, modD (.int i) (.int 2147483629) = some (.int (i % 2147483629))) ∧ (∀ i, modD (.int i) (.int 2147483587) = some (.int (i % 2147483587)))
    ∧ (∀ i, divD (.int i) (.int 9) = some (.int (i / 9))) ∧ (∀ i, divD (.int i) (.int 36) = some (.int (i / 36))) ∧ (∀ i, divD (.int i) (.int 7) = some (.int (i / 7))) ∧ (∀ i, divD (.int i) (.int 4096) = some (.int (i / 4096)))
    ∧ (∀ i, mulD (.int 17) (.int i) = some (.int (17 * i))) ∧ (∀ i, mulD (.int 5) (.int i) = some (.int (5 * i))) ∧ (∀ i, mulD (.int 13) (.int i) = some (.int (13 * i))) ∧ (∀ i, mulD (.int i) (.int 48271) = some (.int (i * 48271))) ∧ (∀ i, mulD (.int i) (.int 69621) = some (.int (i * 69621))) ∧ (∀ i, mulD (.int i) (.int 16807) = some (.int (i * 16807))) ∧ (∀ i, mulD (.int i) (.int 7919) = some (.int (i * 7919)))
    ∧ powD (.int 10) (.int 18) = some (.int 1000000000000000000) :=
  ⟨fun _ => modD_pos (by decide), fun _ => modD_pos (by decide), fun _ => modD_pos (by decide), fun _ => modD_pos (by decide), fun _ => modD_pos (by decide), fun _ => modD_pos (by decide), fun _ => modD_pos (by decide), fun _ => modD_pos (by decide), fun _ => modD_pos (by decide), fun _ => modD_pos (by decide),
    fun _ => divD_pos (by decide) (by decide), fun _ => divD_pos (by decide) (by decide), fun _ => divD_pos (by decide) (by decide), fun _ => divD_pos (by decide) (by decide), fun _ => mulD_l (by decide), fun _ => mulD_l (by decide), fun _ => mulD_l (by decide), fun _ => mulD_r (by decide), fun _ => mulD_r (by decide), fun _ => mulD_r (by decide), fun _ => mulD_r (by decide), by rfl⟩
theorem AM : (∀ i j : Int, mulD (.int (i % 2147483647)) (.int j) = some (.int (i % 2147483647 * j))) ∧ (∀ i j : Int, mulD (.int (i % 2147483629)) (.int j) = some (.int (i % 2147483629 * j))) :=
  ⟨fun i j => mulD_l (by
    have q1 := Int.emod_nonneg i (show (2147483647 : Int) ≠ 0 by decide)
    have q2 := Int.emod_lt_of_pos i (show (0 : Int) < 2147483647 by decide)
    unfold DL.small64; rw [dT (by omega), dT (by omega)]; rfl), fun i j => mulD_l (by
    have q1 := Int.emod_nonneg i (show (2147483629 : Int) ≠ 0 by decide)
    have q2 := Int.emod_lt_of_pos i (show (0 : Int) < 2147483629 by decide)
    unfold DL.small64; rw [dT (by omega), dT (by omega)]; rfl)⟩
/-- a number of the script -/
theorem cell_ok (ns : List Int) (i : Nat) : ∃ c, 0 ≤ c ∧ Al 1 fun k => (tb k)._law_cell [.klst (ns.map .int), .int i] = some (.ok (.int c)) := by
  have hl : ((List.map D.int ns).length : Int) = ns.length := by simp
  by_cases h : i < ns.length
  · refine ⟨if ns[i] < 0 then -ns[i] else ns[i], by split <;> omega, Al.step (n := 0) fun k _ => ?_⟩
    have h1 := dT (show (i : Int) < (ns.length : Int) by omega)
    have h2 : ixD (.klst (ns.map .int)) (.int i) = some (.int ns[i]) := ixD_natk (by rw [List.getElem?_map, List.getElem?_eq_getElem h]; rfl)
    show outP (s__law_cell (tb k) [some (.v (.klst (ns.map .int))), some (.v (.int i))] []) = _
    unfold s__law_cell
    simp only [EV, hl, h1, h2]
  · refine ⟨0, by omega, Al.step (n := 0) fun k _ => ?_⟩
    have h1 := decide_eq_false (show ¬ (i : Int) < (ns.length : Int) by omega)
    show outP (s__law_cell (tb k) [some (.v (.klst (ns.map .int))), some (.v (.int i))] []) = _
    unfold s__law_cell
    simp only [EV, hl, h1]
/-! the draws -/
def Dr (ds : List Int) : Prop := ∀ d ∈ ds, 0 ≤ d ∧ d < 4096
theorem Dr.snoc {ds : List Int} (h : Dr ds) (a : Int) : Dr (ds ++ [a % 4096]) := fun d m => by
  rcases List.mem_append.mp m with m | m
  · exact h d m
  · rw [List.mem_singleton.mp m]
    exact ⟨Int.emod_nonneg _ (by decide), Int.emod_lt_of_pos _ (by decide)⟩
theorem draws_loop (T : Tb) (c : Int) : ∀ (n j : Nat) (ds : List Int) (left : Int) (kk mx : Option S), Dr ds → ds.length = j → j + n ≤ 1000 →
    ∃ es : List Int, Dr es ∧ es.length = j + n ∧ outP (sK (rtL 2) (forL (nG 4) (lb__law_draws_1 T) (up j n) [some (.v (.int c)), some (.v (.int 60)), some (.l 0), some (.v (.int left)), kk, mx] [.lst (ds.map .int)])) = some (.ok (.lst (es.map .int)))
  | 0, j, ds, left, kk, mx, h, hl, hn => ⟨ds, h, hl, rfl⟩
  | n + 1, j, ds, left, kk, mx, h, hl, hn => by
    have h9 : (ds.map D.int).length ≤ 1000000 := by rw [List.length_map]; omega
    unfold up
    rw [forL_cons]
    have go : ∀ (a left' : Int) (mx' : Option S), ∃ es : List Int, Dr es ∧ es.length = j + (n + 1) ∧ outP (sK (rtL 2) (forL (nG 4) (lb__law_draws_1 T) (up (j + 1) n) [some (.v (.int c)), some (.v (.int 60)), some (.l 0), some (.v (.int left')), some (.v (.int j)), mx'] [.lst (ds.map .int ++ [.int (a % 4096)])])) = some (.ok (.lst (es.map .int))) := fun a left' mx' => by
      obtain ⟨es, e1, e2, e3⟩ := draws_loop T c n (j + 1) (ds ++ [a % 4096]) left' (some (.v (.int j))) mx' (h.snoc a) (by rw [List.length_append, List.length_singleton, hl]) (by omega)
      rw [List.map_append] at e3
      exact ⟨es, e1, by omega, e3⟩
    cases hb1 : decide ((1000000000000000000 : Int) ≤ c) with
    | false =>
      obtain ⟨es, e1, e2, e3⟩ := go (((((c * 48271 + ((j : Int) + 1) * 69621) % 2147483647 * ((c * 48271 + ((j : Int) + 1) * 69621) % 2147483647) + (c * 48271 + ((j : Int) + 1) * 69621) % 2147483647 * 16807 + j * 7919) % 2147483629 * (((c * 48271 + ((j : Int) + 1) * 69621) % 2147483647 * ((c * 48271 + ((j : Int) + 1) * 69621) % 2147483647) + (c * 48271 + ((j : Int) + 1) * 69621) % 2147483647 * 16807 + j * 7919) % 2147483629) + c + 13 * j) % 2147483587) / 7) left (some (.v (.int ((((c * 48271 + ((j : Int) + 1) * 69621) % 2147483647 * ((c * 48271 + ((j : Int) + 1) * 69621) % 2147483647) + (c * 48271 + ((j : Int) + 1) * 69621) % 2147483647 * 16807 + j * 7919) % 2147483629 * (((c * 48271 + ((j : Int) + 1) * 69621) % 2147483647 * ((c * 48271 + ((j : Int) + 1) * 69621) % 2147483647) + (c * 48271 + ((j : Int) + 1) * 69621) % 2147483647 * 16807 + j * 7919) % 2147483629) + c + 13 * j) % 2147483587))))
      refine ⟨es, e1, e2, Eq.trans ?_ e3⟩
      conv => lhs; arg 1; arg 2; arg 1; unfold lb__law_draws_1
      simp only [EV, AR, AM, hb1, apF_ok h9]
    | true =>
      cases hb2 : decide ((0 : Int) < left) with
      | true =>
        obtain ⟨es, e1, e2, e3⟩ := go left (left / 4096) mx
        refine ⟨es, e1, e2, Eq.trans ?_ e3⟩
        conv => lhs; arg 1; arg 2; arg 1; unfold lb__law_draws_1
        simp only [EV, AR, hb1, hb2, apF_ok h9]
      | false =>
        obtain ⟨es, e1, e2, e3⟩ := go (((((c * 48271 + ((j : Int) + 1) * 69621) % 2147483647 * ((c * 48271 + ((j : Int) + 1) * 69621) % 2147483647) + (c * 48271 + ((j : Int) + 1) * 69621) % 2147483647 * 16807 + j * 7919) % 2147483629 * (((c * 48271 + ((j : Int) + 1) * 69621) % 2147483647 * ((c * 48271 + ((j : Int) + 1) * 69621) % 2147483647) + (c * 48271 + ((j : Int) + 1) * 69621) % 2147483647 * 16807 + j * 7919) % 2147483629) + c + 13 * j) % 2147483587) / 7) left (some (.v (.int ((((c * 48271 + ((j : Int) + 1) * 69621) % 2147483647 * ((c * 48271 + ((j : Int) + 1) * 69621) % 2147483647) + (c * 48271 + ((j : Int) + 1) * 69621) % 2147483647 * 16807 + j * 7919) % 2147483629 * (((c * 48271 + ((j : Int) + 1) * 69621) % 2147483647 * ((c * 48271 + ((j : Int) + 1) * 69621) % 2147483647) + (c * 48271 + ((j : Int) + 1) * 69621) % 2147483647 * 16807 + j * 7919) % 2147483629) + c + 13 * j) % 2147483587))))
        refine ⟨es, e1, e2, Eq.trans ?_ e3⟩
        conv => lhs; arg 1; arg 2; arg 1; unfold lb__law_draws_1
        simp only [EV, AR, AM, hb1, hb2, apF_ok h9]
theorem draws_ok (c : Int) : ∃ es : List Int, Dr es ∧ es.length = 60 ∧ Al 1 fun k => (tb k)._law_draws [.int c, .int 60] = some (.ok (.lst (es.map .int))) := by
  obtain ⟨es, e1, e2, e3⟩ := draws_loop tb0 c 60 0 [] c none none (fun d m => by cases m) rfl (by decide)
  refine ⟨es, e1, e2, Al.step (n := 0) fun k _ => ?_⟩
  have hr : rng1 [.int 60] = some (up 0 60) := rng1_up (by decide) (by decide)
  have e4 : lb__law_draws_1 (tb k) = lb__law_draws_1 tb0 := rfl
  show outP (s__law_draws (tb k) [some (.v (.int c)), some (.v (.int 60)), none, none, none, none] []) = _
  unfold s__law_draws
  refine Eq.trans ?_ e3
  simp only [EV, hr, e4]
  rfl
end K61

set_option Elab.async false
set_option linter.all false
set_option maxRecDepth 100000
set_option maxHeartbeats 4000000
/-! K61P8: the function that is made of the draws. -/
namespace K61
open PySem PySem.Spec PyProof.Rows L2 DL
def cb : Nat → Int
  | 0 => 0
  | n + 1 => 3 * cb n + 1
theorem cb_nn : ∀ n, 0 ≤ cb n
  | 0 => by decide
  | n + 1 => by have := cb_nn n; simp only [cb]; omega
theorem cb_pos (n : Nat) : 1 ≤ cb (n + 1) := by have := cb_nn n; simp only [cb]; omega
/-- what the maker makes -/
structure Made (dp many : Nat) (t : Fn) : Prop where
  w : WT t many
  h : hgt t ≤ dp
  c : cnt t ≤ cb dp
section
variable {ds : List Int} {many dp : Nat} {w d : Int}
theorem Made.leaf {t : Fn} (hd : 1 ≤ dp) (w : WT t many) (h : hgt t = 1) (c : cnt t = 1) : Made dp many t := ⟨w, by omega, by
  match dp, hd with
  | n + 1, _ => have := cb_pos n; omega⟩
theorem run_fun (T : Tb) (a b c d : D) : (tbS T)._law_fun [a, b, c, d] = outP (s__law_fun T [some (.v a), some (.v b), some (.v c), some (.v d), none, none, none, none, none] []) := rfl
def mk (ds : List Int) (w : Int) (many dp : Nat) (k : Nat) (t : Fn) : Prop := (tb k)._law_fun [.lst (ds.map .int), .int w, .int many, .int dp] = some (.ok (enc t))
theorem tests (b : Bool) : b = true ∨ b = false := by cases b <;> simp
theorem leaf_ok (h1 : 1 ≤ dp) (hm : many ≤ 6) (hx : ixD (.lst (ds.map .int)) (.int (w % 60)) = some (.int d)) (hl : ((List.map D.int ds).length : Int) = 60)
    (hc : decide ((dp : Int) < 2) = true ∨ decide ((dp : Int) < 2) = false ∧ decide ((d + 17 * w) % 9 < 2) = true) :
    ∃ t, Made dp many t ∧ Al 1 fun k => mk ds w many dp k t := by
  have hM : ∀ j : Int, 0 < many → modD (.int j) (.int many) = some (.int (j % many)) := fun j h => modD_pos (by omega)
  rcases hc with c1 | ⟨c1, c2⟩
  · cases a1 : ((many : Int) == 1) with
    | true =>
      cases a2 : ((d + 17 * w) / 9 % 3 == 0) with
      | true =>
        refine ⟨.next, .leaf h1 (by have := beq_iff_eq.mp a1; show many = 1; omega) rfl rfl, Al.step (n := 0) fun k _ => ?_⟩
        unfold mk
        show (tbS (tb k))._law_fun _ = _
        rw [run_fun]
        unfold s__law_fun
        rw [enc]
        simp only [EV, AR, hx, hl, c1, a1, a2]
      | false =>
        have hp : 0 < many := by have := beq_iff_eq.mp a1; omega
        have a3 := dT (show (0 : Int) < (many : Int) by omega)
        cases a4 : decide (0 < (d + 17 * w) / 9 % 4) with
        | true =>
          have q1 := Int.emod_nonneg ((d + 17 * w) / 36) (show (many : Int) ≠ 0 by omega)
          have q2 := Int.emod_lt_of_pos ((d + 17 * w) / 36) (show (0 : Int) < many by omega)
          refine ⟨.arg many ((d + 17 * w) / 36 % many).toNat, .leaf h1 ⟨rfl, hm, by omega⟩ rfl rfl, Al.step (n := 0) fun k _ => ?_⟩
          have q3 : (((d + 17 * w) / 36 % many).toNat : Int) = (d + 17 * w) / 36 % many := by omega
          unfold mk
          show (tbS (tb k))._law_fun _ = _
          rw [run_fun]
          unfold s__law_fun
          rw [enc, q3]
          simp only [EV, AR, hx, hl, c1, a1, a2, a3, a4, hM _ hp]
        | false =>
          refine ⟨.zero many, .leaf h1 ⟨rfl, hm⟩ rfl rfl, Al.step (n := 0) fun k _ => ?_⟩
          unfold mk
          show (tbS (tb k))._law_fun _ = _
          rw [run_fun]
          unfold s__law_fun
          rw [enc]
          simp only [EV, AR, hx, hl, c1, a1, a2, a3, a4]
    | false =>
      cases a3 : decide ((0 : Int) < (many : Int)) with
      | true =>
        have hp : 0 < many := by have := of_decide_eq_true a3; omega
        cases a4 : decide (0 < (d + 17 * w) / 9 % 4) with
        | true =>
          have q1 := Int.emod_nonneg ((d + 17 * w) / 36) (show (many : Int) ≠ 0 by omega)
          have q2 := Int.emod_lt_of_pos ((d + 17 * w) / 36) (show (0 : Int) < many by omega)
          refine ⟨.arg many ((d + 17 * w) / 36 % many).toNat, .leaf h1 ⟨rfl, hm, by omega⟩ rfl rfl, Al.step (n := 0) fun k _ => ?_⟩
          have q3 : (((d + 17 * w) / 36 % many).toNat : Int) = (d + 17 * w) / 36 % many := by omega
          unfold mk
          show (tbS (tb k))._law_fun _ = _
          rw [run_fun]
          unfold s__law_fun
          rw [enc, q3]
          simp only [EV, AR, hx, hl, c1, a1, a3, a4, hM _ hp]
        | false =>
          refine ⟨.zero many, .leaf h1 ⟨rfl, hm⟩ rfl rfl, Al.step (n := 0) fun k _ => ?_⟩
          unfold mk
          show (tbS (tb k))._law_fun _ = _
          rw [run_fun]
          unfold s__law_fun
          rw [enc]
          simp only [EV, AR, hx, hl, c1, a1, a3, a4]
      | false =>
        refine ⟨.zero many, .leaf h1 ⟨rfl, hm⟩ rfl rfl, Al.step (n := 0) fun k _ => ?_⟩
        unfold mk
        show (tbS (tb k))._law_fun _ = _
        rw [run_fun]
        unfold s__law_fun
        rw [enc]
        simp only [EV, AR, hx, hl, c1, a1, a3]
  · cases a1 : ((many : Int) == 1) with
    | true =>
      cases a2 : ((d + 17 * w) / 9 % 3 == 0) with
      | true =>
        refine ⟨.next, .leaf h1 (by have := beq_iff_eq.mp a1; show many = 1; omega) rfl rfl, Al.step (n := 0) fun k _ => ?_⟩
        unfold mk
        show (tbS (tb k))._law_fun _ = _
        rw [run_fun]
        unfold s__law_fun
        rw [enc]
        simp only [EV, AR, hx, hl, c1, c2, a1, a2]
      | false =>
        have hp : 0 < many := by have := beq_iff_eq.mp a1; omega
        have a3 := dT (show (0 : Int) < (many : Int) by omega)
        cases a4 : decide (0 < (d + 17 * w) / 9 % 4) with
        | true =>
          have q1 := Int.emod_nonneg ((d + 17 * w) / 36) (show (many : Int) ≠ 0 by omega)
          have q2 := Int.emod_lt_of_pos ((d + 17 * w) / 36) (show (0 : Int) < many by omega)
          refine ⟨.arg many ((d + 17 * w) / 36 % many).toNat, .leaf h1 ⟨rfl, hm, by omega⟩ rfl rfl, Al.step (n := 0) fun k _ => ?_⟩
          have q3 : (((d + 17 * w) / 36 % many).toNat : Int) = (d + 17 * w) / 36 % many := by omega
          unfold mk
          show (tbS (tb k))._law_fun _ = _
          rw [run_fun]
          unfold s__law_fun
          rw [enc, q3]
          simp only [EV, AR, hx, hl, c1, c2, a1, a2, a3, a4, hM _ hp]
        | false =>
          refine ⟨.zero many, .leaf h1 ⟨rfl, hm⟩ rfl rfl, Al.step (n := 0) fun k _ => ?_⟩
          unfold mk
          show (tbS (tb k))._law_fun _ = _
          rw [run_fun]
          unfold s__law_fun
          rw [enc]
          simp only [EV, AR, hx, hl, c1, c2, a1, a2, a3, a4]
    | false =>
      cases a3 : decide ((0 : Int) < (many : Int)) with
      | true =>
        have hp : 0 < many := by have := of_decide_eq_true a3; omega
        cases a4 : decide (0 < (d + 17 * w) / 9 % 4) with
        | true =>
          have q1 := Int.emod_nonneg ((d + 17 * w) / 36) (show (many : Int) ≠ 0 by omega)
          have q2 := Int.emod_lt_of_pos ((d + 17 * w) / 36) (show (0 : Int) < many by omega)
          refine ⟨.arg many ((d + 17 * w) / 36 % many).toNat, .leaf h1 ⟨rfl, hm, by omega⟩ rfl rfl, Al.step (n := 0) fun k _ => ?_⟩
          have q3 : (((d + 17 * w) / 36 % many).toNat : Int) = (d + 17 * w) / 36 % many := by omega
          unfold mk
          show (tbS (tb k))._law_fun _ = _
          rw [run_fun]
          unfold s__law_fun
          rw [enc, q3]
          simp only [EV, AR, hx, hl, c1, c2, a1, a3, a4, hM _ hp]
        | false =>
          refine ⟨.zero many, .leaf h1 ⟨rfl, hm⟩ rfl rfl, Al.step (n := 0) fun k _ => ?_⟩
          unfold mk
          show (tbS (tb k))._law_fun _ = _
          rw [run_fun]
          unfold s__law_fun
          rw [enc]
          simp only [EV, AR, hx, hl, c1, c2, a1, a3, a4]
      | false =>
        refine ⟨.zero many, .leaf h1 ⟨rfl, hm⟩ rfl rfl, Al.step (n := 0) fun k _ => ?_⟩
        unfold mk
        show (tbS (tb k))._law_fun _ = _
        rw [run_fun]
        unfold s__law_fun
        rw [enc]
        simp only [EV, AR, hx, hl, c1, c2, a1, a3]
end
theorem fun_ok (ds : List Int) (hd : ds.length = 60) : ∀ (dp : Nat) (w : Int) (many : Nat), 1 ≤ dp → dp ≤ 4 → many + dp ≤ 7 → ∃ t, Made dp many t ∧ Al dp fun k => mk ds w many dp k t
  | dp + 1, w, many, h1, h4, hm => by
    have hl : ((List.map D.int ds).length : Int) = 60 := by rw [List.length_map, hd]; rfl
    have r1 := Int.emod_nonneg w (show (60 : Int) ≠ 0 by decide)
    have r2 := Int.emod_lt_of_pos w (show (0 : Int) < 60 by decide)
    obtain ⟨d, hx⟩ : ∃ d, ixD (.lst (ds.map .int)) (.int (w % 60)) = some (.int d) := by
      obtain ⟨j, hj⟩ : ∃ j : Nat, w % 60 = j := ⟨(w % 60).toNat, by omega⟩
      have hi : j < ds.length := by omega
      rw [hj]
      refine ⟨ds[j], ?_⟩
      exact ixD_natl (by rw [List.getElem?_map, List.getElem?_eq_getElem hi]; rfl)
    have leaf := leaf_ok (ds := ds) (many := many) (dp := dp + 1) (w := w) (d := d) h1 (by omega) hx hl
    cases c1 : decide (((dp + 1 : Nat) : Int) < 2) with
    | true =>
      obtain ⟨t, q1, q2⟩ := leaf (.inl c1)
      exact ⟨t, q1, q2.mono (by omega)⟩
    | false =>
      cases c2 : decide ((d + 17 * w) % 9 < 2) with
      | true =>
        obtain ⟨t, q1, q2⟩ := leaf (.inr ⟨c1, c2⟩)
        exact ⟨t, q1, q2.mono (by omega)⟩
      | false =>
        have hdp : 1 ≤ dp := by have := of_decide_eq_false c1; omega
        have e0 : ((dp + 1 : Nat) : Int) - 1 = (dp : Int) := by omega
        have e1 : ((many : Nat) : Int) + 1 = ((many + 1 : Nat) : Int) := by omega
        have hcb := cb_pos (dp - 1)
        rw [show dp - 1 + 1 = dp by omega] at hcb
        have key : ∀ {t : Fn} {m : Nat} {v : Int} {k : Nat}, (Al dp fun k => mk ds v m dp k t) → dp ≤ k → (tb k)._law_fun [.lst (ds.map .int), .int v, .int m, .int dp] = some (.ok (enc t)) := fun h q => h _ q
        by_cases c3 : (d + 17 * w) % 9 < 5 ∨ many = 0 ∧ (d + 17 * w) % 9 < 7
        · -- of
          have p1 := Int.emod_nonneg ((d + 17 * w) / 9) (show (2 : Int) ≠ 0 by decide)
          have p2 := Int.emod_lt_of_pos ((d + 17 * w) / 9) (show (0 : Int) < 2 by decide)
          obtain ⟨g, g1, g2⟩ := fun_ok ds hd dp (5 * w + 3 + 0) many hdp (by omega) (by omega)
          obtain ⟨i, i1, i2⟩ := fun_ok ds hd dp (5 * w + 3 + 1) many hdp (by omega) (by omega)
          have hE : decide ((d + 17 * w) % 9 < 5) = true ∨ decide ((d + 17 * w) % 9 < 5) = false ∧ ((many : Int) == 0) = true ∧ decide ((d + 17 * w) % 9 < 7) = true := by
            by_cases c4 : (d + 17 * w) % 9 < 5
            · exact .inl (dT c4)
            · obtain ⟨c5, c6⟩ := c3.resolve_left c4
              exact .inr ⟨decide_eq_false c4, beqT (by omega), dT c6⟩
          rcases (show (d + 17 * w) / 9 % 2 = 0 ∨ (d + 17 * w) / 9 % 2 = 1 by omega) with c | c
          · obtain ⟨f, f1, f2⟩ := fun_ok ds hd dp (5 * w + 9) 1 hdp (by omega) (by omega)
            refine ⟨.of1 f g, ⟨⟨g1.w, f1.w⟩, by have := f1.h; have := g1.h; simp only [hgt]; omega, by have := f1.c; have := g1.c; simp only [cnt, cb]; omega⟩, Al.step fun k q => ?_⟩
            have h1 := key f2 q
            have h2 := key g2 q
            have hr : rng1 [.int (1 + 0)] = some [.int 0] := by rfl
            unfold mk
            show (tbS (tb k))._law_fun _ = _
            rw [run_fun]
            unfold s__law_fun
            rw [enc]
            rcases hE with c4 | ⟨c4, c5, c6⟩
            · simp only [EV, AR, hx, hl, c1, c2, c4, c, hr, e0, h2]
              rw [show (1 : Int) + 0 = ((1 : Nat) : Int) from rfl, h1]
              simp only [EV]
            · simp only [EV, AR, hx, hl, c1, c2, c4, c5, c6, c, hr, e0, h2]
              rw [show (1 : Int) + 0 = ((1 : Nat) : Int) from rfl, h1]
              simp only [EV]
          · obtain ⟨f, f1, f2⟩ := fun_ok ds hd dp (5 * w + 9) 2 hdp (by omega) (by omega)
            refine ⟨.of2 f g i, ⟨⟨g1.w, i1.w, f1.w⟩, by have := f1.h; have := g1.h; have := i1.h; simp only [hgt]; omega, by have := f1.c; have := g1.c; have := i1.c; simp only [cnt, cb]; omega⟩, Al.step fun k q => ?_⟩
            have h1 := key f2 q
            have h2 := key g2 q
            have h3 := key i2 q
            have hr : rng1 [.int (1 + 1)] = some [.int 0, .int 1] := by rfl
            unfold mk
            show (tbS (tb k))._law_fun _ = _
            rw [run_fun]
            unfold s__law_fun
            rw [enc]
            rcases hE with c4 | ⟨c4, c5, c6⟩
            · simp only [EV, AR, hx, hl, c1, c2, c4, c, hr, e0, h2, h3]
              rw [show (1 : Int) + 1 = ((2 : Nat) : Int) from rfl, h1]
              simp only [EV]
            · simp only [EV, AR, hx, hl, c1, c2, c4, c5, c6, c, hr, e0, h2, h3]
              rw [show (1 : Int) + 1 = ((2 : Nat) : Int) from rfl, h1]
              simp only [EV]
        · have c4 : decide ((d + 17 * w) % 9 < 5) = false := decide_eq_false fun z => c3 (.inl z)
          have c5 : ((many : Int) == 0) = true ∧ decide ((d + 17 * w) % 9 < 7) = false ∨ ((many : Int) == 0) = false := by
            by_cases z : many = 0
            · exact .inl ⟨beqT (by omega), decide_eq_false fun y => c3 (.inr ⟨z, y⟩)⟩
            · exact .inr (beqF (by omega))
          by_cases c6 : (d + 17 * w) % 9 < 8 ∧ 0 < many
          · -- repeat
            obtain ⟨p, rfl⟩ : ∃ p, many = p + 1 := ⟨many - 1, by omega⟩
            obtain ⟨f, f1, f2⟩ := fun_ok ds hd dp (5 * w + 4) p hdp (by omega) (by omega)
            obtain ⟨g, g1, g2⟩ := fun_ok ds hd dp (5 * w + 8) (p + 2) hdp (by omega) (by omega)
            refine ⟨.rep f g, ⟨⟨p, rfl, by omega, f1.w, g1.w⟩, by have := f1.h; have := g1.h; simp only [hgt]; omega, by have := f1.c; have := g1.c; simp only [cnt, cb]; omega⟩, Al.step fun k q => ?_⟩
            have h1 := key f2 q
            have h2 := key g2 q
            have e2 : ((p + 1 : Nat) : Int) - 1 = p := by omega
            have e3 : ((p + 1 : Nat) : Int) + 1 = ((p + 2 : Nat) : Int) := by omega
            have d1 := dT c6.1
            have d2 := dT (show (0 : Int) < ((p + 1 : Nat) : Int) by omega)
            have d3 : (((p + 1 : Nat) : Int) == 0) = false := beqF (by omega)
            unfold mk
            show (tbS (tb k))._law_fun _ = _
            rw [run_fun]
            unfold s__law_fun
            rw [enc]
            simp only [EV, AR, hx, hl, c1, c2, c4, d1, d2, d3, e0, e2, e3, h1, h2]
          · -- least
            obtain ⟨f, f1, f2⟩ := fun_ok ds hd dp (5 * w + 6) (many + 1) hdp (by omega) (by omega)
            refine ⟨.least f, ⟨f1.w, by have := f1.h; simp only [hgt]; omega, by have := f1.c; simp only [cnt, cb]; omega⟩, Al.step fun k q => ?_⟩
            have h1 := key f2 q
            have hE : decide ((d + 17 * w) % 9 < 8) = false ∨ decide ((d + 17 * w) % 9 < 8) = true ∧ decide ((0 : Int) < (many : Int)) = false := by
              by_cases z : (d + 17 * w) % 9 < 8
              · exact .inr ⟨dT z, decide_eq_false fun y => c6 ⟨z, by omega⟩⟩
              · exact .inl (decide_eq_false z)
            unfold mk
            show (tbS (tb k))._law_fun _ = _
            rw [run_fun]
            unfold s__law_fun
            rw [enc]
            rcases hE with d1 | ⟨d1, d2⟩ <;> rcases c5 with ⟨c5, c7⟩ | c5
            · simp only [EV, AR, hx, hl, c1, c2, c4, c5, c7, d1, e0, e1, h1]
            · simp only [EV, AR, hx, hl, c1, c2, c4, c5, d1, e0, e1, h1]
            · simp only [EV, AR, hx, hl, c1, c2, c4, c5, c7, d1, d2, e0, e1, h1]
            · simp only [EV, AR, hx, hl, c1, c2, c4, c5, d1, d2, e0, e1, h1]
end K61

set_option Elab.async false
set_option linter.all false
set_option maxRecDepth 100000
set_option maxHeartbeats 4000000
/-! K61P9: the law holds of what the program computes. -/
namespace K61
open PySem PySem.Spec PyProof.Rows L2 DL
theorem up_map : ∀ n j : Nat, up j n = (List.range' j n).map fun i => D.int (i : Nat)
  | 0, j => rfl
  | n + 1, j => by
    show D.int j :: up (j + 1) n = _
    rw [up_map n (j + 1), List.range'_succ, List.map_cons]
theorem ix_es {es : List Int} (i : Nat) (h : i < es.length) : ixD (.lst (es.map .int)) (.int (i : Nat)) = some (.int (es.getD i 0)) := ixD_natl (by
  rw [List.getElem?_map, List.getD_eq_getElem?_getD, List.getElem?_eq_getElem h]; rfl)
theorem nat_of {i : Int} {n : Nat} (h : 0 ≤ i) (h2 : i ≤ n) : ∃ m : Nat, i = m ∧ m ≤ n := ⟨i.toNat, by omega, by omega⟩
/-- one turn -/
theorem turn_ok (ns : List Int) (j : Nat) (s2 s3 s4 s5 s6 s7 s8 : Option S) (k : Nat) (hk : 40 ≤ k) :
    ∃ r2 r3 r4 r5 r6 r7 r8, lb_law_2 (tb k) [some (.v (.klst (ns.map .int))), some (.v (.int j)), s2, s3, s4, s5, s6, s7, s8] [] = some (.nx [some (.v (.klst (ns.map .int))), some (.v (.int j)), r2, r3, r4, r5, r6, r7, r8], []) := by
  obtain ⟨c, _, hc⟩ := cell_ok ns j
  have hc := hc k (by omega)
  obtain ⟨es, _, hes, he⟩ := draws_ok c
  have he := he k (by omega)
  have x59 : ixD (.lst (es.map .int)) (.int 59) = some (.int (es.getD 59 0)) := ix_es 59 (by omega)
  have x58 : ixD (.lst (es.map .int)) (.int 58) = some (.int (es.getD 58 0)) := ix_es 58 (by omega)
  have x57 : ixD (.lst (es.map .int)) (.int 57) = some (.int (es.getD 57 0)) := ix_es 57 (by omega)
  obtain ⟨m, hm, hm3⟩ := nat_of (i := es.getD 59 0 % 4) (n := 3) (by omega) (by omega)
  obtain ⟨dp, hdp, hd4⟩ := nat_of (i := 2 + es.getD 58 0 % 3) (n := 4) (by omega) (by omega)
  obtain ⟨t, tm, ht⟩ := fun_ok es hes dp j m (by omega) hd4 (by omega)
  have ht : (tb k)._law_fun [.lst (es.map .int), .int j, .int m, .int dp] = some (.ok (enc t)) := ht k (by omega)
  have hh : hgt t ≤ 4 := Nat.le_trans tm.h hd4
  have hcn : cnt t ≤ 200 := by
    have := tm.c
    have h4 : ∀ n, n ≤ 4 → cb n ≤ 200 := by decide
    have := h4 dp hd4
    omega
  have hif := lisfun_ok tm.w (by omega) hcn k (by omega)
  have har := larity_ok t m tm.w k (by omega)
  have hr : rng1 [.int m] = some (up 0 m) := by
    have := rng1_up (j := (m : Int)) (by omega) (by omega)
    rwa [Int.toNat_natCast] at this
  obtain ⟨as, has⟩ : ∃ as : List Int, as = (List.range' 0 m).map fun i => es.getD (50 + i) 0 % 5 := ⟨_, rfl⟩
  have hlen : as.length = m := by rw [has]; simp
  have hbd : Bd as 4 := fun a ha => by
    rw [has] at ha
    obtain ⟨i, _, rfl⟩ := List.mem_map.mp ha
    omega
  have hlc : lcL (fun d ρ => some (List.set ρ 8 (some (S.v d)))) tsNil (e2 modD (e2 ixD (eV 2) (e2 addD (rS (.int 50)) (eV 8))) (rS (.int 5))) (up 0 m) [some (.v (.klst (ns.map .int))), some (.v (.int j)), some (.v (.lst (es.map .int))), some (.v (enc t)), s4, s5, s6, s7, none] [] = some (.ok (as.map .int), []) := by
    have q := lcL_map (ρ := [some (.v (.klst (ns.map .int))), some (.v (.int j)), some (.v (.lst (es.map .int))), some (.v (enc t)), s4, s5, s6, s7, none]) (st := []) (j := 8) (elt := e2 modD (e2 ixD (eV 2) (e2 addD (rS (.int 50)) (eV 8))) (rS (.int 5))) (f := fun i : Nat => D.int i) (h := fun i : Nat => D.int (es.getD (50 + i) 0 % 5)) (l := List.range' 0 m) fun i hi => by
      have hi := List.mem_range'_1.mp hi
      have hx := ix_es (es := es) (50 + i) (by omega)
      have e : (50 : Int) + i = ((50 + i : Nat) : Int) := by omega
      simp only [EV, AR, e, hx]
    rw [← up_map] at q
    rw [q, has, List.map_map]
    rfl
  have hap : (tb k)._law_apply [enc t, .tup (as.map .int), .int 300] = some (.ok (lres (evl t as 300))) := lapply_ok t m as 4 300 tm.w (by omega) hlen hbd (by decide) (by decide) k (by omega)
  have hl9 : (up 0 m).length ≤ 10000 := by rw [up_map]; simp; omega
  have told : ∀ (l : Nat) (way : Int), l ≤ 300 → (tb k)._law_told [enc t, .tup (as.map .int), .int l, .int way] = some (.ok (if way = 0 then toldV l (evl t as l) else toldA l (evl t as l))) := fun l way hl => told_ok tm.w (by omega) hcn (by omega) hlen hbd (by decide) (by omega) way k (by omega)
  have like : ∀ (x : Str) (i : Int), (tb k)._law_like [.tup [.str x, .int i], .tup [.str x, .int i]] = some (.ok (.bl true)) := fun x i => like_ok x i k (by omega)
  cases e : evl t as 300 with
  | none =>
    rw [e] at hap
    have t0 : (tb k)._law_told [enc t, .tup (as.map .int), .int 300, .int 0] = some (.ok (.tup [.str "long", .int 300])) := by
      have := told 300 0 (by omega)
      rw [e] at this
      exact this
    have t1 : (tb k)._law_told [enc t, .tup (as.map .int), .int 300, .int 1] = some (.ok (.tup [.str "long", .int 300])) := by
      have := told 300 1 (by omega)
      rw [e] at this
      exact this
    have hr2 : rng1 [.int 2] = some [.int 0, .int 1] := by rfl
    refine ⟨some (.v (.lst (es.map .int))), some (.v (enc t)), some (.v (.tup (as.map .int))), some (.v .non), some (.v (.int 1)), s7, s8, ?_⟩
    · unfold lb_law_2
      simp only [EV, AR, hc, he, x59, x58, hm, hdp, ht, hif, har, hr, lcK_ok hl9, hlc, hap, lres, hr2, forL_cons, forL_nil, lb_law_1, t0, t1, like]
  | some p =>
    obtain ⟨v, l'⟩ := p
    rw [e] at hap
    obtain ⟨g1, g2, g3⟩ := evl_good t as 300 v l' e
    obtain ⟨u, hu⟩ : ∃ u, u = 300 - l' := ⟨_, rfl⟩
    rw [← hu] at g2 g3
    have ev0 := g2 0
    rw [Nat.add_zero] at ev0
    have ev1 := g3 (u - 1) (by omega)
    have eu : (300 : Int) - (l' : Int) = (u : Int) := by omega
    have eu1 : (u : Int) - 1 = ((u - 1 : Nat) : Int) := by omega
    have t0 : (tb k)._law_told [enc t, .tup (as.map .int), .int u, .int 0] = some (.ok (.tup [.str "value", .int v])) := by
      have := told u 0 (by omega)
      rw [ev0] at this
      exact this
    have t1 : (tb k)._law_told [enc t, .tup (as.map .int), .int u, .int 1] = some (.ok (.tup [.str "value", .int u])) := by
      have := told u 1 (by omega)
      rw [ev0] at this
      rw [this]
      show some (Res.ok (D.tup [.str "value", .int ((u : Int) - ((0 : Nat) : Int))])) = _
      rw [show (u : Int) - ((0 : Nat) : Int) = u by omega]
    have t2 : (tb k)._law_told [enc t, .tup (as.map .int), .int ((u - 1 : Nat) : Int), .int (es.getD 57 0 % 2)] = some (.ok (.tup [.str "long", .int ((u - 1 : Nat) : Int)])) := by
      have := told (u - 1) (es.getD 57 0 % 2) (by omega)
      rw [ev1] at this
      rw [this]
      split <;> rfl
    refine ⟨some (.v (.lst (es.map .int))), some (.v (enc t)), some (.v (.tup (as.map .int))), some (.v (.lst [.int v, .int l'])), s6, some (.v (.int u)), s8, ?_⟩
    · unfold lb_law_2
      simp only [EV, AR, hc, he, x59, x58, x57, hm, hdp, ht, hif, har, hr, lcK_ok hl9, hlc, hap, lres, eu, eu1, t0, t1, t2, like]
theorem turns_ok (ns : List Int) (k : Nat) (hk : 40 ≤ k) : ∀ (n j : Nat) (s1 s2 s3 s4 s5 s6 s7 s8 : Option S),
    ∃ ρ, forL (nG 1) (lb_law_2 (tb k)) (up j n) [some (.v (.klst (ns.map .int))), s1, s2, s3, s4, s5, s6, s7, s8] [] = some (.nx ρ, [])
  | 0, j, s1, s2, s3, s4, s5, s6, s7, s8 => ⟨_, rfl⟩
  | n + 1, j, s1, s2, s3, s4, s5, s6, s7, s8 => by
    obtain ⟨r2, r3, r4, r5, r6, r7, r8, e⟩ := turn_ok ns j s2 s3 s4 s5 s6 s7 s8 k hk
    obtain ⟨ρ, q⟩ := turns_ok ns k hk n (j + 1) (some (.v (.int j))) r2 r3 r4 r5 r6 r7 r8
    refine ⟨ρ, ?_⟩
    unfold up
    rw [forL_cons, set_1, e, lK_nx]
    exact q
/-- THE PLAIN LAW -/
theorem law_true (ns : List Int) : (tb 41).law [.klst (ns.map .int)] = some (.ok (.bl true)) := by
  obtain ⟨ρ, q⟩ := turns_ok ns 40 (Nat.le_refl _) 3 0 none none none none none none none none
  have hr : rng1 [.int 3] = some (up 0 3) := rng1_up (by decide) (by decide)
  show outP (s_law (tb 40) [some (.v (.klst (ns.map .int))), none, none, none, none, none, none, none, none] []) = _
  unfold s_law
  simp only [EV, hr, q]
end K61

set_option Elab.async false
set_option linter.all false
set_option maxRecDepth 100000
set_option maxHeartbeats 4000000
/-! printed by gen.py: the derivations. -/
namespace K61
open PySem PySem.Spec PyProof.Rows L2 DL
theorem fit_tr {g : G} {X : Cx} {pn : List (Addr × Obj)} {xe : Value → Shared → Prop} (hf : Fit g X) : Fit g (X.tr pn xe) := ⟨hf.K, hf.prog, hf.w, hf.mg, hf.base, hf.calm, hf.nd⟩
def pp_TooLong : Pos × Pos := match (defArgs (inClass (top 2) 0)).args with | [x, y] => (x.pos, y.pos) | _ => (⟨0, 0, 0, 0⟩, ⟨0, 0, 0, 0⟩)
def ps_TooLong : SupX.Ps := match defBody (inClass (top 2) 0) with
  | [.Expr (.Call (.Attribute (.Call (.Name _ a) _ _ b) _ c) [.BinOp (.Constant _ _ d) _ (.Call (.Name _ e) [.Name _ f] _ g) h] _ i) j, .Assign [.Attribute (.Name _ k) _ l] (.Name _ m) n] => ⟨a, b, c, d, e, f, g, h, i, j, k, l, m, n, n, n⟩
  | _ => ⟨⟨0, 0, 0, 0⟩, ⟨0, 0, 0, 0⟩, ⟨0, 0, 0, 0⟩, ⟨0, 0, 0, 0⟩, ⟨0, 0, 0, 0⟩, ⟨0, 0, 0, 0⟩, ⟨0, 0, 0, 0⟩, ⟨0, 0, 0, 0⟩, ⟨0, 0, 0, 0⟩, ⟨0, 0, 0, 0⟩, ⟨0, 0, 0, 0⟩, ⟨0, 0, 0, 0⟩, ⟨0, 0, 0, 0⟩, ⟨0, 0, 0, 0⟩, ⟨0, 0, 0, 0⟩, ⟨0, 0, 0, 0⟩⟩
theorem bo_TooLong : SupX.BindOk "more than " "limit" pp_TooLong.1 pp_TooLong.2 ps_TooLong := fun _ _ _ _ _ _ _ _ _ => rfl
theorem eo_TooLong : SupX.EvalOk "more than " "limit" ps_TooLong := fun _ _ _ _ _ => ⟨_, rfl, rfl, rfl, rfl, rfl⟩
theorem po_TooLong : SupX.ParOk "limit" := ⟨by decide +kernel, by decide +kernel, by decide +kernel, by decide +kernel, by decide +kernel, by decide +kernel, by decide +kernel⟩
/-- what the written part says of the names -/
structure Sv (g : G) : Prop where
  n_abs : g.mg "abs" = none
  n_all : g.mg "all" = none
  n_any : g.mg "any" = none
  n_bool : g.mg "bool" = none
  n_int : g.mg "int" = none
  n_isinstance : g.mg "isinstance" = none
  n_len : g.mg "len" = none
  n_list : g.mg "list" = none
  n_max : g.mg "max" = none
  n_range : g.mg "range" = none
  n_str : g.mg "str" = none
  n_sum : g.mg "sum" = none
  n_tuple : g.mg "tuple" = none
  m_MOST_ARITY : ∃ u, g.mg "MOST_ARITY" = some u ∧ RelV (.int 6) u
  m_MOST_DEPTH : ∃ u, g.mg "MOST_DEPTH" = some u ∧ RelV (.int 12) u
  m_MOST_PARTS : ∃ u, g.mg "MOST_PARTS" = some u ∧ RelV (.int 200) u
  q_InvalidFunction : PySem.W.excIn g.K (g.cl "InvalidFunction") [.type "ValueError", .type "Exception", .type "BaseException", .type "object"] "ValueError.__new__" = true
  g_InvalidFunction : g.mg "InvalidFunction" = some (.ref (g.cl "InvalidFunction"))
  k_InvalidFunction : PySem.W.keepIn g.K (.ref (g.cl "InvalidFunction")) = true
  b_InvalidFunction : PySem.W.subIn g.K (.ref (g.cl "InvalidFunction")) (.type "BaseException") = some true
  t_InvalidFunction : PySem.W.typeIn g.K (.ref (g.cl "InvalidFunction")) = some (.type "type")
  q_BadArgument : PySem.W.excIn g.K (g.cl "BadArgument") [.type "ValueError", .type "Exception", .type "BaseException", .type "object"] "ValueError.__new__" = true
  g_BadArgument : g.mg "BadArgument" = some (.ref (g.cl "BadArgument"))
  k_BadArgument : PySem.W.keepIn g.K (.ref (g.cl "BadArgument")) = true
  b_BadArgument : PySem.W.subIn g.K (.ref (g.cl "BadArgument")) (.type "BaseException") = some true
  t_BadArgument : PySem.W.typeIn g.K (.ref (g.cl "BadArgument")) = some (.type "type")
  x_TooLong : SupX.Txt g.P g.K g.mg "TooLong" "more than " "limit" pp_TooLong.1 pp_TooLong.2 ps_TooLong (g.cl "TooLong")
  catch_TooLong : ∀ C' r, K61.catch_TooLong C' = some r → PySem.W.exmOne g.K (.ref (g.cl C')) (.ref (g.cl "TooLong")) = some r
  c_Evaluation : Cls g.K (g.cl "Evaluation")
  na_Evaluation_limit : NoAttr g.K (g.cl "Evaluation") "limit"
  na_Evaluation_count : NoAttr g.K (g.cl "Evaluation") "count"
  d_parts : ∃ fa fd, FunD g.K "parts" "parts" (defArgs (top 9)) (defBody (top 9)) (defScope (top 9)) [] [] fa fd ∧ g.mg "parts" = some (.ref fa)
  d_depth : ∃ fa fd, FunD g.K "depth" "depth" (defArgs (top 10)) (defBody (top 10)) (defScope (top 10)) [] [] fa fd ∧ g.mg "depth" = some (.ref fa)
  d_count_parts : ∃ fa fd, FunD g.K "count_parts" "count_parts" (defArgs (top 11)) (defBody (top 11)) (defScope (top 11)) [] [] fa fd ∧ g.mg "count_parts" = some (.ref fa)
  d_arity : ∃ fa fd, FunD g.K "arity" "arity" (defArgs (top 12)) (defBody (top 12)) (defScope (top 12)) [] [] fa fd ∧ g.mg "arity" = some (.ref fa)
  d_has_right_arities : ∃ fa fd, FunD g.K "has_right_arities" "has_right_arities" (defArgs (top 13)) (defBody (top 13)) (defScope (top 13)) [] [] fa fd ∧ g.mg "has_right_arities" = some (.ref fa) ∧ ∃ cc P, fd.code = .ref cc ∧ LamX.TabB g.base g.mg cc P ∧ P ∈ g.tabs
  d_is_function : ∃ fa fd, FunD g.K "is_function" "is_function" (defArgs (top 14)) (defBody (top 14)) (defScope (top 14)) [] [] fa fd ∧ g.mg "is_function" = some (.ref fa)
  d_Evaluation_init : ∃ fa fd, FunD g.K "__init__" "Evaluation.__init__" (defArgs (inClass (top 15) 0)) (defBody (inClass (top 15) 0)) (defScope (inClass (top 15) 0)) [] [] fa fd ∧ Mk g.K (g.cl "Evaluation") fa ∧ g.mg "Evaluation" = some (.ref (g.cl "Evaluation"))
  d_Evaluation_apply : ∃ fa fd, FunD g.K "apply" "Evaluation.apply" (defArgs (inClass (top 15) 1)) (defBody (inClass (top 15) 1)) (defScope (inClass (top 15) 1)) [] [] fa fd ∧ Meth g.K (g.cl "Evaluation") "apply" fa
  d_Evaluation_repeat : ∃ fa fd, FunD g.K "repeat" "Evaluation.repeat" (defArgs (inClass (top 15) 2)) (defBody (inClass (top 15) 2)) (defScope (inClass (top 15) 2)) [] [] fa fd ∧ Meth g.K (g.cl "Evaluation") "repeat" fa
  d_evaluated : ∃ fa fd, FunD g.K "evaluated" "evaluated" (defArgs (top 16)) (defBody (top 16)) (defScope (top 16)) [] [] fa fd ∧ g.mg "evaluated" = some (.ref fa)
  d_check_arguments : ∃ fa fd, FunD g.K "check_arguments" "check_arguments" (defArgs (top 17)) (defBody (top 17)) (defScope (top 17)) [] [] fa fd ∧ g.mg "check_arguments" = some (.ref fa) ∧ ∃ cc P, fd.code = .ref cc ∧ LamX.TabB g.base g.mg cc P ∧ P ∈ g.tabs
  d_value : ∃ fa fd, FunD g.K "value" "value" (defArgs (top 18)) (defBody (top 18)) (defScope (top 18)) [] [("limit", .int 100000)] fa fd ∧ g.mg "value" = some (.ref fa)
  d_applications : ∃ fa fd, FunD g.K "applications" "applications" (defArgs (top 19)) (defBody (top 19)) (defScope (top 19)) [] [("limit", .int 100000)] fa fd ∧ g.mg "applications" = some (.ref fa)
  d__law_cell : ∃ fa fd, FunD g.K "_law_cell" "_law_cell" (defArgs (top 21)) (defBody (top 21)) (defScope (top 21)) [] [] fa fd ∧ g.mg "_law_cell" = some (.ref fa)
  d__law_draws : ∃ fa fd, FunD g.K "_law_draws" "_law_draws" (defArgs (top 22)) (defBody (top 22)) (defScope (top 22)) [] [] fa fd ∧ g.mg "_law_draws" = some (.ref fa)
  d__law_like : ∃ fa fd, FunD g.K "_law_like" "_law_like" (defArgs (top 23)) (defBody (top 23)) (defScope (top 23)) [] [] fa fd ∧ g.mg "_law_like" = some (.ref fa)
  d__law_fun : ∃ fa fd, FunD g.K "_law_fun" "_law_fun" (defArgs (top 24)) (defBody (top 24)) (defScope (top 24)) [] [] fa fd ∧ g.mg "_law_fun" = some (.ref fa)
  d__law_pieces : ∃ fa fd, FunD g.K "_law_pieces" "_law_pieces" (defArgs (top 25)) (defBody (top 25)) (defScope (top 25)) [] [] fa fd ∧ g.mg "_law_pieces" = some (.ref fa)
  d__law_arity : ∃ fa fd, FunD g.K "_law_arity" "_law_arity" (defArgs (top 26)) (defBody (top 26)) (defScope (top 26)) [] [] fa fd ∧ g.mg "_law_arity" = some (.ref fa)
  d__law_deep : ∃ fa fd, FunD g.K "_law_deep" "_law_deep" (defArgs (top 27)) (defBody (top 27)) (defScope (top 27)) [] [] fa fd ∧ g.mg "_law_deep" = some (.ref fa)
  d__law_count : ∃ fa fd, FunD g.K "_law_count" "_law_count" (defArgs (top 28)) (defBody (top 28)) (defScope (top 28)) [] [] fa fd ∧ g.mg "_law_count" = some (.ref fa)
  d__law_fits_well : ∃ fa fd, FunD g.K "_law_fits_well" "_law_fits_well" (defArgs (top 29)) (defBody (top 29)) (defScope (top 29)) [] [] fa fd ∧ g.mg "_law_fits_well" = some (.ref fa)
  d__law_is_fun : ∃ fa fd, FunD g.K "_law_is_fun" "_law_is_fun" (defArgs (top 30)) (defBody (top 30)) (defScope (top 30)) [] [] fa fd ∧ g.mg "_law_is_fun" = some (.ref fa)
  d__law_apply : ∃ fa fd, FunD g.K "_law_apply" "_law_apply" (defArgs (top 31)) (defBody (top 31)) (defScope (top 31)) [] [] fa fd ∧ g.mg "_law_apply" = some (.ref fa)
  d__law_told : ∃ fa fd, FunD g.K "_law_told" "_law_told" (defArgs (top 32)) (defBody (top 32)) (defScope (top 32)) [] [] fa fd ∧ g.mg "_law_told" = some (.ref fa)
  d_law : ∃ fa fd, FunD g.K "law" "law" (defArgs (top 33)) (defBody (top 33)) (defScope (top 33)) [] [] fa fd ∧ g.mg "law" = some (.ref fa)
structure Ev (g : G) (k : Nat) (t : Tb) : Prop where
  parts : PFn g k "parts" 1 t.parts
  depth : PFn g k "depth" 1 t.depth
  count_parts : PFn g k "count_parts" 1 t.count_parts
  arity : PFn g k "arity" 1 t.arity
  has_right_arities : PFn g k "has_right_arities" 1 t.has_right_arities
  is_function : PFn g k "is_function" 1 t.is_function
  Evaluation_init : CFn g k "Evaluation" 2 t.Evaluation_init
  Evaluation_apply : MFn g k "Evaluation" "apply" 3 t.Evaluation_apply
  Evaluation_repeat : MFn g k "Evaluation" "repeat" 4 t.Evaluation_repeat
  evaluated : PFn g k "evaluated" 3 t.evaluated
  check_arguments : PFn g k "check_arguments" 2 t.check_arguments
  value : PFk g k "value" 2 1 ["limit"] t.value
  applications : PFk g k "applications" 2 1 ["limit"] t.applications
  _law_cell : PFn g k "_law_cell" 2 t._law_cell
  _law_draws : PFn g k "_law_draws" 2 t._law_draws
  _law_like : PFn g k "_law_like" 2 t._law_like
  _law_fun : PFn g k "_law_fun" 4 t._law_fun
  _law_pieces : PFn g k "_law_pieces" 1 t._law_pieces
  _law_arity : PFn g k "_law_arity" 1 t._law_arity
  _law_deep : PFn g k "_law_deep" 1 t._law_deep
  _law_count : PFn g k "_law_count" 1 t._law_count
  _law_fits_well : PFn g k "_law_fits_well" 1 t._law_fits_well
  _law_is_fun : PFn g k "_law_is_fun" 1 t._law_is_fun
  _law_apply : PFn g k "_law_apply" 3 t._law_apply
  _law_told : PFn g k "_law_told" 4 t._law_told
  law : PFn g k "law" 1 t.law
section
variable {g : G} {k : Nat} {t : Tb}
theorem sc_parts : FnScope N_parts ["function"] (defScope (top 9)) := ⟨rfl, rfl, rfl, by decide +kernel, rfl, by decide +kernel, by decide +kernel⟩
theorem b_parts (S : Sv g) (v : Ev g k t) {f : Addr} {cdv : Value} : BodyOk g (k + 1) N_parts "parts" (defScope (top 9)) f cdv (defBody (top 9)) (s_parts t) := by
  intro A Ar outer s H E hr
  have hf : Fit g (cxG g N_parts "parts" (defScope (top 9)) f cdv Ar outer s H E) := fit_cx sc_parts.nd
  have tk : Takes (cxG g N_parts "parts" (defScope (top 9)) f cdv Ar outer s H E) (WF E) := takes_cx
  have hr0 := hr.mono (Nat.le_succ k)
  unfold s_parts
  exact (ib_cons (is_if (it_cmp op_eq rd_eq (ie_ix hf (ie_var 0) ie_int) ie_str (nomark _))
    (ib_one (is_ret (ie_bin (op_add4 hf) rd_add (ie_lst (ia_cons (ie_ix hf (ie_var 0) ie_int) ia_nil)) (ie_callTy hf (call_listG hf) rd_list rfl S.n_list (by decide +kernel) (ia_cons (ie_ix hf (ie_var 0) ie_int) ia_nil)))))
    ib_nil)
    (ib_cons (is_if (it_cmp (op_inG hf) rd_in (ie_ix hf (ie_var 0) ie_int) (ie_tup (ia_cons ie_str (ia_cons ie_str ia_nil))) (by with_unfolding_all rfl))
    (ib_one (is_ret (ie_callTy hf (call_listG hf) rd_list rfl S.n_list (by decide +kernel) (ia_cons (ie_sl hf (ie_var 0) (io_some ie_int) io_none) ia_nil))))
    ib_nil)
    (ib_one (is_ret (ie_lst ia_nil)))))
theorem sc_depth : FnScope N_depth ["function"] (defScope (top 10)) := ⟨rfl, rfl, rfl, by decide +kernel, rfl, by decide +kernel, by decide +kernel⟩
theorem b_depth (S : Sv g) (v : Ev g k t) {f : Addr} {cdv : Value} : BodyOk g (k + 1) N_depth "depth" (defScope (top 10)) f cdv (defBody (top 10)) (s_depth t) := by
  intro A Ar outer s H E hr
  have hf : Fit g (cxG g N_depth "depth" (defScope (top 10)) f cdv Ar outer s H E) := fit_cx sc_depth.nd
  have tk : Takes (cxG g N_depth "depth" (defScope (top 10)) f cdv Ar outer s H E) (WF E) := takes_cx
  have hr0 := hr.mono (Nat.le_succ k)
  unfold s_depth
  exact (ib_one (is_ret (ie_bin (op_add4 hf) rd_add ie_int (ie_maxD hf rfl S.n_max (ia_cons (ie_lc (own := [("part", 1)]) hf tk rfl rfl (ii_seq hf (ie_callP hf tk v.parts hr0 rfl (ia_cons (ie_var 0) ia_nil))) (blkOk_by (N := N_depth) (sc := defScope (top 10)) (by decide +kernel)) (ct_name 1) (fun s H C cl fp xe => pg_name (fit_blk hf).nd rfl (by first | exact .inl rfl | exact .inr rfl)) (fun s H C cl fp xe W' tk' => its_nil) (fun s H C cl fp xe W' A' tk' => (ie_callP (fit_blk hf) tk' v.depth hr0 rfl (ia_cons (ie_var 1) ia_nil)))) ia_nil) (ik_cons ie_int ik_nil)))))
theorem sc_count_parts : FnScope N_count_parts ["function"] (defScope (top 11)) := ⟨rfl, rfl, rfl, by decide +kernel, rfl, by decide +kernel, by decide +kernel⟩
theorem b_count_parts (S : Sv g) (v : Ev g k t) {f : Addr} {cdv : Value} : BodyOk g (k + 1) N_count_parts "count_parts" (defScope (top 11)) f cdv (defBody (top 11)) (s_count_parts t) := by
  intro A Ar outer s H E hr
  have hf : Fit g (cxG g N_count_parts "count_parts" (defScope (top 11)) f cdv Ar outer s H E) := fit_cx sc_count_parts.nd
  have tk : Takes (cxG g N_count_parts "count_parts" (defScope (top 11)) f cdv Ar outer s H E) (WF E) := takes_cx
  have hr0 := hr.mono (Nat.le_succ k)
  unfold s_count_parts
  exact (ib_one (is_ret (ie_bin (op_add4 hf) rd_add ie_int (ie_callB hf (call_sumG hf) rd_sum rfl S.n_sum (by decide +kernel) (ia_cons (ie_lc (own := [("part", 1)]) hf tk rfl rfl (ii_seq hf (ie_callP hf tk v.parts hr0 rfl (ia_cons (ie_var 0) ia_nil))) (blkOk_by (N := N_count_parts) (sc := defScope (top 11)) (by decide +kernel)) (ct_name 1) (fun s H C cl fp xe => pg_name (fit_blk hf).nd rfl (by first | exact .inl rfl | exact .inr rfl)) (fun s H C cl fp xe W' tk' => its_nil) (fun s H C cl fp xe W' A' tk' => (ie_callP (fit_blk hf) tk' v.count_parts hr0 rfl (ia_cons (ie_var 1) ia_nil)))) ia_nil)))))
theorem sc_arity : FnScope N_arity ["function"] (defScope (top 12)) := ⟨rfl, rfl, rfl, by decide +kernel, rfl, by decide +kernel, by decide +kernel⟩
theorem b_arity (S : Sv g) (v : Ev g k t) {f : Addr} {cdv : Value} : BodyOk g (k + 1) N_arity "arity" (defScope (top 12)) f cdv (defBody (top 12)) (s_arity t) := by
  intro A Ar outer s H E hr
  have hf : Fit g (cxG g N_arity "arity" (defScope (top 12)) f cdv Ar outer s H E) := fit_cx sc_arity.nd
  have tk : Takes (cxG g N_arity "arity" (defScope (top 12)) f cdv Ar outer s H E) (WF E) := takes_cx
  have hr0 := hr.mono (Nat.le_succ k)
  unfold s_arity
  exact (ib_cons (is_set 1 hf (ie_ix hf (ie_var 0) ie_int))
    (ib_cons (is_if (it_cmp (op_inG hf) rd_in (ie_var 1) (ie_tup (ia_cons ie_str (ia_cons ie_str ia_nil))) (by with_unfolding_all rfl))
    (ib_one (is_ret (ie_ix hf (ie_var 0) ie_int)))
    ib_nil)
    (ib_cons (is_if (it_cmp op_eq rd_eq (ie_var 1) ie_str (nomark _))
    (ib_one (is_ret ie_int))
    ib_nil)
    (ib_cons (is_if (it_cmp op_eq rd_eq (ie_var 1) ie_str (nomark _))
    (ib_one (is_ret (ie_callP hf tk v.arity hr0 rfl (ia_cons (ie_ix hf (ie_ix hf (ie_var 0) ie_int) ie_int) ia_nil))))
    ib_nil)
    (ib_cons (is_if (it_cmp op_eq rd_eq (ie_var 1) ie_str (nomark _))
    (ib_one (is_ret (ie_bin (op_add4 hf) rd_add (ie_callP hf tk v.arity hr0 rfl (ia_cons (ie_ix hf (ie_var 0) ie_int) ia_nil)) ie_int)))
    ib_nil)
    (ib_one (is_ret (ie_bin op_sub rd_sub (ie_callP hf tk v.arity hr0 rfl (ia_cons (ie_ix hf (ie_var 0) ie_int) ia_nil)) ie_int))))))))
theorem sc_has_right_arities : FnScope N_has_right_arities ["function"] (defScope (top 13)) := ⟨rfl, rfl, rfl, by decide +kernel, rfl, by decide +kernel, by decide +kernel⟩
theorem b_has_right_arities (S : Sv g) (v : Ev g k t) {cc P : Addr} (TB : LamX.TabB g.base g.mg cc P) (hP : P ∈ g.tabs) {f : Addr} : BodyOk g (k + 1) N_has_right_arities "has_right_arities" (defScope (top 13)) f (.ref cc) (defBody (top 13)) (s_has_right_arities t) := by
  intro A Ar outer s H E hr
  have hf : Fit g (cxG g N_has_right_arities "has_right_arities" (defScope (top 13)) f (.ref cc) Ar outer s H E) := fit_cx sc_has_right_arities.nd
  have tk : Takes (cxG g N_has_right_arities "has_right_arities" (defScope (top 13)) f (.ref cc) Ar outer s H E) (WF E) := takes_cx
  have hr0 := hr.mono (Nat.le_succ k)
  obtain ⟨u_MOST_ARITY, m_MOST_ARITY, r_MOST_ARITY⟩ := S.m_MOST_ARITY
  unfold s_has_right_arities
  exact (ib_cons (is_set 1 hf (ie_ix hf (ie_var 0) ie_int))
    (ib_cons (is_if (it_cmp op_eq rd_eq (ie_var 1) ie_str (nomark _))
    (ib_one (is_ret (ie_chain op_le op_le rd_cmp rd_cmp ie_int (ie_ix hf (ie_var 0) ie_int) (ie_glob hf (by rfl) m_MOST_ARITY r_MOST_ARITY))))
    ib_nil)
    (ib_cons (is_if (it_cmp op_eq rd_eq (ie_var 1) ie_str (nomark _))
    (ib_one (is_ret (ie_and (ie_chain op_le op_le rd_cmp rd_cmp ie_int (ie_ix hf (ie_var 0) ie_int) (ie_glob hf (by rfl) m_MOST_ARITY r_MOST_ARITY)) (ie_one (ie_chain op_le op_lt rd_cmp rd_cmp ie_int (ie_ix hf (ie_var 0) ie_int) (ie_ix hf (ie_var 0) ie_int))))))
    ib_nil)
    (ib_cons (is_if (it_w (iw_and (it_cmp op_eq rd_eq (ie_var 1) ie_str (nomark _)) (iw_and1 (it_cmp op_eq rd_eq (ie_callB hf (call_lenG hf) rd_len rfl S.n_len (by decide +kernel) (ia_cons (ie_ix hf (ie_var 0) ie_int) ia_nil)) ie_int (nomark _)))))
    (ib_one (is_ret ie_bl))
    ib_nil)
    (ib_cons (is_if (it_not (it_val hf (ie_allG (own := [("part", 3)]) (k := k) hf hr rfl S.n_all TB hP rfl (ii_seq hf (ie_callP hf tk v.parts hr0 rfl (ia_cons (ie_var 0) ia_nil))) (GX.genOk_by (N := N_has_right_arities) (sc := defScope (top 13)) (by decide +kernel)) (ct_name 3) (fun B s H C code fp rB => pg_name (fit_gen hf).nd rfl (by first | exact .inl rfl | exact .inr rfl)) (fun B s H C code fp A' rB => (ie_callP (fit_gen hf) takes0 v.has_right_arities rB rfl (ia_cons (ie_var 3) ia_nil))))))
    (ib_one (is_ret ie_bl))
    ib_nil)
    (ib_cons (is_if (it_cmp op_eq rd_eq (ie_var 1) ie_str (nomark _))
    (ib_cons (is_set 2 hf (ie_callP hf tk v.arity hr0 rfl (ia_cons (ie_var 0) ia_nil)))
    (ib_one (is_ret (ie_and (ie_cmp op_eq rd_eq (ie_callP hf tk v.arity hr0 rfl (ia_cons (ie_ix hf (ie_var 0) ie_int) ia_nil)) (ie_callB hf (call_lenG hf) rd_len rfl S.n_len (by decide +kernel) (ia_cons (ie_ix hf (ie_var 0) ie_int) ia_nil)) (nomark _)) (ie_one (ie_allG (own := [("inner", 4)]) (k := k) hf hr rfl S.n_all TB hP rfl (ii_seq hf (ie_ix hf (ie_var 0) ie_int)) (GX.genOk_by (N := N_has_right_arities) (sc := defScope (top 13)) (by decide +kernel)) (ct_name 4) (fun B s H C code fp rB => pg_name (fit_gen hf).nd rfl (by first | exact .inl rfl | exact .inr rfl)) (fun B s H C code fp A' rB => (ie_cmp op_eq rd_eq (ie_callP (fit_gen hf) takes0 v.arity rB rfl (ia_cons (ie_var 4) ia_nil)) (ie_var 2) (nomark _)))))))))
    ib_nil)
    (ib_cons (is_if (it_cmp op_eq rd_eq (ie_var 1) ie_str (nomark _))
    (ib_one (is_ret (ie_and (ie_cmp op_lt rd_cmp (ie_callP hf tk v.arity hr0 rfl (ia_cons (ie_ix hf (ie_var 0) ie_int) ia_nil)) (ie_glob hf (by rfl) m_MOST_ARITY r_MOST_ARITY) (nomark _)) (ie_one (ie_cmp op_eq rd_eq (ie_callP hf tk v.arity hr0 rfl (ia_cons (ie_ix hf (ie_var 0) ie_int) ia_nil)) (ie_bin (op_add4 hf) rd_add (ie_callP hf tk v.arity hr0 rfl (ia_cons (ie_ix hf (ie_var 0) ie_int) ia_nil)) ie_int) (nomark _))))))
    ib_nil)
    (ib_one (is_ret (ie_or (ie_cmp op_eq rd_eq (ie_var 1) ie_str (nomark _)) (ie_one (ie_cmp op_ge rd_cmp (ie_callP hf tk v.arity hr0 rfl (ia_cons (ie_ix hf (ie_var 0) ie_int) ia_nil)) ie_int (nomark _)))))))))))))
theorem sc_is_function : FnScope N_is_function ["thing"] (defScope (top 14)) := ⟨rfl, rfl, rfl, by decide +kernel, rfl, by decide +kernel, by decide +kernel⟩
theorem b_is_function (S : Sv g) (v : Ev g k t) {f : Addr} {cdv : Value} : BodyOk g (k + 1) N_is_function "is_function" (defScope (top 14)) f cdv (defBody (top 14)) (s_is_function t) := by
  intro A Ar outer s H E hr
  have hf : Fit g (cxG g N_is_function "is_function" (defScope (top 14)) f cdv Ar outer s H E) := fit_cx sc_is_function.nd
  have tk : Takes (cxG g N_is_function "is_function" (defScope (top 14)) f cdv Ar outer s H E) (WF E) := takes_cx
  have hr0 := hr.mono (Nat.le_succ k)
  obtain ⟨u_MOST_DEPTH, m_MOST_DEPTH, r_MOST_DEPTH⟩ := S.m_MOST_DEPTH
  obtain ⟨u_MOST_PARTS, m_MOST_PARTS, r_MOST_PARTS⟩ := S.m_MOST_PARTS
  unfold s_is_function
  exact (ib_one (is_ret (ie_and (ie_cmp op_le rd_cmp (ie_callP hf tk v.depth hr0 rfl (ia_cons (ie_var 0) ia_nil)) (ie_glob hf (by rfl) m_MOST_DEPTH r_MOST_DEPTH) (nomark _)) (ie_and (ie_cmp op_le rd_cmp (ie_callP hf tk v.count_parts hr0 rfl (ia_cons (ie_var 0) ia_nil)) (ie_glob hf (by rfl) m_MOST_PARTS r_MOST_PARTS) (nomark _)) (ie_one (ie_callP hf tk v.has_right_arities hr0 rfl (ia_cons (ie_var 0) ia_nil)))))))
theorem sc_Evaluation_init : FnScope N_Evaluation_init ["self", "limit"] (defScope (inClass (top 15) 0)) := ⟨rfl, rfl, rfl, by decide +kernel, rfl, by decide +kernel, by decide +kernel⟩
theorem b_Evaluation_init (S : Sv g) (v : Ev g k t) {f : Addr} {cdv : Value} : BodyOk g (k + 1) N_Evaluation_init "Evaluation.__init__" (defScope (inClass (top 15) 0)) f cdv (defBody (inClass (top 15) 0)) (s_Evaluation_init t) := by
  intro A Ar outer s H E hr
  have hf : Fit g (cxG g N_Evaluation_init "Evaluation.__init__" (defScope (inClass (top 15) 0)) f cdv Ar outer s H E) := fit_cx sc_Evaluation_init.nd
  have tk : Takes (cxG g N_Evaluation_init "Evaluation.__init__" (defScope (inClass (top 15) 0)) f cdv Ar outer s H E) (WF E) := takes_cx
  have hr0 := hr.mono (Nat.le_succ k)
  unfold s_Evaluation_init
  exact (ib_cons (is_fld 0 hf S.c_Evaluation S.na_Evaluation_limit (ie_var 1))
    (ib_one (is_fld 0 hf S.c_Evaluation S.na_Evaluation_count ie_int)))
theorem sc_Evaluation_apply : FnScope N_Evaluation_apply ["self", "function", "arguments"] (defScope (inClass (top 15) 1)) := ⟨rfl, rfl, rfl, by decide +kernel, rfl, by decide +kernel, by decide +kernel⟩
theorem b_Evaluation_apply (S : Sv g) (v : Ev g k t) {f : Addr} {cdv : Value} : BodyOk g (k + 1) N_Evaluation_apply "Evaluation.apply" (defScope (inClass (top 15) 1)) f cdv (defBody (inClass (top 15) 1)) (s_Evaluation_apply t) := by
  intro A Ar outer s H E hr
  have hf : Fit g (cxG g N_Evaluation_apply "Evaluation.apply" (defScope (inClass (top 15) 1)) f cdv Ar outer s H E) := fit_cx sc_Evaluation_apply.nd
  have tk : Takes (cxG g N_Evaluation_apply "Evaluation.apply" (defScope (inClass (top 15) 1)) f cdv Ar outer s H E) (WF E) := takes_cx
  have hr0 := hr.mono (Nat.le_succ k)
  unfold s_Evaluation_apply
  exact (ib_cons (is_fadd 0 hf S.c_Evaluation S.na_Evaluation_count ie_int)
    (ib_cons (is_if (it_cmp op_gt rd_cmp (ie_fld 0 hf S.c_Evaluation S.na_Evaluation_count) (ie_fld 0 hf S.c_Evaluation S.na_Evaluation_limit) (nomark _))
    (ib_one (is_raise hf tk (im_sup hf bo_TooLong eo_TooLong po_TooLong (by decide) S.x_TooLong hr0 (ia_cons (ie_fld 0 hf S.c_Evaluation S.na_Evaluation_limit) ia_nil) rfl)))
    ib_nil)
    (ib_cons (is_set 3 hf (ie_ix hf (ie_var 1) ie_int))
    (ib_cons (is_if (it_cmp op_eq rd_eq (ie_var 3) ie_str (nomark _))
    (ib_one (is_ret ie_int))
    ib_nil)
    (ib_cons (is_if (it_cmp op_eq rd_eq (ie_var 3) ie_str (nomark _))
    (ib_one (is_ret (ie_bin (op_add4 hf) rd_add (ie_ix hf (ie_var 2) ie_int) ie_int)))
    ib_nil)
    (ib_cons (is_if (it_cmp op_eq rd_eq (ie_var 3) ie_str (nomark _))
    (ib_one (is_ret (ie_ix hf (ie_var 2) (ie_ix hf (ie_var 1) ie_int))))
    ib_nil)
    (ib_cons (is_if (it_cmp op_eq rd_eq (ie_var 3) ie_str (nomark _))
    (ib_cons (is_set 4 hf (ie_callTy hf (call_tupleG hf) rd_tuple rfl S.n_tuple (by decide +kernel) (ia_cons (ie_lc (own := [("part", 6)]) hf tk rfl rfl (ii_seq hf (ie_ix hf (ie_var 1) ie_int)) (blkOk_by (N := N_Evaluation_apply) (sc := defScope (inClass (top 15) 1)) (by decide +kernel)) (ct_name 6) (fun s H C cl fp xe => pg_name (fit_blk hf).nd rfl (by first | exact .inl rfl | exact .inr rfl)) (fun s H C cl fp xe W' tk' => its_nil) (fun s H C cl fp xe W' A' tk' => (ie_methP 0 (fit_blk hf) tk' S.c_Evaluation v.Evaluation_apply hr0 (ia_cons (ie_var 6) (ia_cons (ie_var 2) ia_nil))))) ia_nil)))
    (ib_one (is_ret (ie_methP 0 hf tk S.c_Evaluation v.Evaluation_apply hr0 (ia_cons (ie_ix hf (ie_var 1) ie_int) (ia_cons (ie_var 4) ia_nil))))))
    ib_nil)
    (ib_cons (is_if (it_cmp op_eq rd_eq (ie_var 3) ie_str (nomark _))
    (ib_one (is_ret (ie_methP 0 hf tk S.c_Evaluation v.Evaluation_repeat hr0 (ia_cons (ie_var 1) (ia_cons (ie_ix hf (ie_var 2) ie_int) (ia_cons (ie_sl hf (ie_var 2) (io_some ie_int) io_none) ia_nil))))))
    ib_nil)
    (ib_cons (is_set 5 hf ie_int)
    (ib_cons (is_while passes_cx (it_cmp op_ne rd_ne (ie_methP 0 hf tk S.c_Evaluation v.Evaluation_apply hr0 (ia_cons (ie_ix hf (ie_var 1) ie_int) (ia_cons (ie_bin (op_add4 hf) rd_add (ie_tup (ia_cons (ie_var 5) ia_nil)) (ie_var 2)) ia_nil))) ie_int (nomark _))
    (ib_one (is_add 5 hf ie_int)))
    (ib_one (is_ret (ie_var 5)))))))))))))
theorem sc_Evaluation_repeat : FnScope N_Evaluation_repeat ["self", "function", "count", "rest"] (defScope (inClass (top 15) 2)) := ⟨rfl, rfl, rfl, by decide +kernel, rfl, by decide +kernel, by decide +kernel⟩
theorem b_Evaluation_repeat (S : Sv g) (v : Ev g k t) {f : Addr} {cdv : Value} : BodyOk g (k + 1) N_Evaluation_repeat "Evaluation.repeat" (defScope (inClass (top 15) 2)) f cdv (defBody (inClass (top 15) 2)) (s_Evaluation_repeat t) := by
  intro A Ar outer s H E hr
  have hf : Fit g (cxG g N_Evaluation_repeat "Evaluation.repeat" (defScope (inClass (top 15) 2)) f cdv Ar outer s H E) := fit_cx sc_Evaluation_repeat.nd
  have tk : Takes (cxG g N_Evaluation_repeat "Evaluation.repeat" (defScope (inClass (top 15) 2)) f cdv Ar outer s H E) (WF E) := takes_cx
  have hr0 := hr.mono (Nat.le_succ k)
  unfold s_Evaluation_repeat
  exact (ib_cons (is_set 4 hf (ie_methP 0 hf tk S.c_Evaluation v.Evaluation_apply hr0 (ia_cons (ie_ix hf (ie_var 1) ie_int) (ia_cons (ie_var 3) ia_nil))))
    (ib_cons (is_for hf passes_cx (ii_range1 hf rfl S.n_range (ia_cons (ie_var 2) ia_nil)) (ig_name 5 hf)
    (ib_one (is_set 4 hf (ie_methP 0 hf tk S.c_Evaluation v.Evaluation_apply hr0 (ia_cons (ie_ix hf (ie_var 1) ie_int) (ia_cons (ie_bin (op_add4 hf) rd_add (ie_tup (ia_cons (ie_var 5) (ia_cons (ie_var 4) ia_nil))) (ie_var 3)) ia_nil))))))
    (ib_one (is_ret (ie_var 4)))))
theorem sc_evaluated : FnScope N_evaluated ["function", "arguments", "limit"] (defScope (top 16)) := ⟨rfl, rfl, rfl, by decide +kernel, rfl, by decide +kernel, by decide +kernel⟩
theorem b_evaluated (S : Sv g) (v : Ev g k t) {f : Addr} {cdv : Value} : BodyOk g (k + 1) N_evaluated "evaluated" (defScope (top 16)) f cdv (defBody (top 16)) (s_evaluated t) := by
  intro A Ar outer s H E hr
  have hf : Fit g (cxG g N_evaluated "evaluated" (defScope (top 16)) f cdv Ar outer s H E) := fit_cx sc_evaluated.nd
  have tk : Takes (cxG g N_evaluated "evaluated" (defScope (top 16)) f cdv Ar outer s H E) (WF E) := takes_cx
  have hr0 := hr.mono (Nat.le_succ k)
  unfold s_evaluated
  exact (ib_cons (is_expr (ie_callP hf tk v.check_arguments hr0 rfl (ia_cons (ie_var 0) (ia_cons (ie_var 1) ia_nil))))
    (ib_cons (is_mkP (k := k) 3 hf tk v.Evaluation_init hr rfl (ia_cons (ie_var 2) ia_nil))
    (ib_cons (is_set 4 hf (ie_methP 3 hf tk S.c_Evaluation v.Evaluation_apply hr0 (ia_cons (ie_var 0) (ia_cons (ie_var 1) ia_nil))))
    (ib_one (is_ret (ie_tup (ia_cons (ie_var 4) (ia_cons (ie_fld 3 hf S.c_Evaluation S.na_Evaluation_count) ia_nil))))))))
theorem sc_check_arguments : FnScope N_check_arguments ["function", "arguments"] (defScope (top 17)) := ⟨rfl, rfl, rfl, by decide +kernel, rfl, by decide +kernel, by decide +kernel⟩
theorem b_check_arguments (S : Sv g) (v : Ev g k t) {cc P : Addr} (TB : LamX.TabB g.base g.mg cc P) (hP : P ∈ g.tabs) {f : Addr} : BodyOk g (k + 1) N_check_arguments "check_arguments" (defScope (top 17)) f (.ref cc) (defBody (top 17)) (s_check_arguments t) := by
  intro A Ar outer s H E hr
  have hf : Fit g (cxG g N_check_arguments "check_arguments" (defScope (top 17)) f (.ref cc) Ar outer s H E) := fit_cx sc_check_arguments.nd
  have tk : Takes (cxG g N_check_arguments "check_arguments" (defScope (top 17)) f (.ref cc) Ar outer s H E) (WF E) := takes_cx
  have hr0 := hr.mono (Nat.le_succ k)
  unfold s_check_arguments
  exact (ib_cons (is_if (it_not (it_val hf (ie_callP hf tk v.is_function hr0 rfl (ia_cons (ie_var 0) ia_nil))))
    (ib_one (is_raise hf tk (im_pass hf S.q_InvalidFunction S.g_InvalidFunction S.k_InvalidFunction S.b_InvalidFunction S.t_InvalidFunction rfl)))
    ib_nil)
    (ib_one (is_if (it_w (iw_or (it_cmp op_ne rd_ne (ie_callB hf (call_lenG hf) rd_len rfl S.n_len (by decide +kernel) (ia_cons (ie_var 1) ia_nil)) (ie_callP hf tk v.arity hr0 rfl (ia_cons (ie_var 0) ia_nil)) (nomark _)) (iw_or1 (it_val hf (ie_anyG (own := [("argument", 2)]) (k := k) hf hr rfl S.n_any TB hP rfl (ii_seq hf (ie_var 1)) (GX.genOk_by (N := N_check_arguments) (sc := defScope (top 17)) (by decide +kernel)) (ct_name 2) (fun B s H C code fp rB => pg_name (fit_gen hf).nd rfl (by first | exact .inl rfl | exact .inr rfl)) (fun B s H C code fp A' rB => (ie_cmp op_lt rd_cmp (ie_var 2) ie_int (nomark _))))))))
    (ib_one (is_raise hf tk (im_pass hf S.q_BadArgument S.g_BadArgument S.k_BadArgument S.b_BadArgument S.t_BadArgument rfl)))
    ib_nil)))
theorem sc_value : FnScope N_value ["function", "arguments", "limit"] (defScope (top 18)) := ⟨rfl, rfl, rfl, by decide +kernel, rfl, by decide +kernel, by decide +kernel⟩
theorem b_value (S : Sv g) (v : Ev g k t) {f : Addr} {cdv : Value} : BodyOk g (k + 1) N_value "value" (defScope (top 18)) f cdv (defBody (top 18)) (s_value t) := by
  intro A Ar outer s H E hr
  have hf : Fit g (cxG g N_value "value" (defScope (top 18)) f cdv Ar outer s H E) := fit_cx sc_value.nd
  have tk : Takes (cxG g N_value "value" (defScope (top 18)) f cdv Ar outer s H E) (WF E) := takes_cx
  have hr0 := hr.mono (Nat.le_succ k)
  unfold s_value
  exact (ib_one (is_ret (ie_ix hf (ie_callP hf tk v.evaluated hr0 rfl (ia_cons (ie_var 0) (ia_cons (ie_var 1) (ia_cons (ie_var 2) ia_nil)))) ie_int)))
theorem sc_applications : FnScope N_applications ["function", "arguments", "limit"] (defScope (top 19)) := ⟨rfl, rfl, rfl, by decide +kernel, rfl, by decide +kernel, by decide +kernel⟩
theorem b_applications (S : Sv g) (v : Ev g k t) {f : Addr} {cdv : Value} : BodyOk g (k + 1) N_applications "applications" (defScope (top 19)) f cdv (defBody (top 19)) (s_applications t) := by
  intro A Ar outer s H E hr
  have hf : Fit g (cxG g N_applications "applications" (defScope (top 19)) f cdv Ar outer s H E) := fit_cx sc_applications.nd
  have tk : Takes (cxG g N_applications "applications" (defScope (top 19)) f cdv Ar outer s H E) (WF E) := takes_cx
  have hr0 := hr.mono (Nat.le_succ k)
  unfold s_applications
  exact (ib_one (is_ret (ie_ix hf (ie_callP hf tk v.evaluated hr0 rfl (ia_cons (ie_var 0) (ia_cons (ie_var 1) (ia_cons (ie_var 2) ia_nil)))) ie_int)))
theorem sc__law_cell : FnScope N__law_cell ["_law_script", "_law_k"] (defScope (top 21)) := ⟨rfl, rfl, rfl, by decide +kernel, rfl, by decide +kernel, by decide +kernel⟩
theorem b__law_cell (S : Sv g) (v : Ev g k t) {f : Addr} {cdv : Value} : BodyOk g (k + 1) N__law_cell "_law_cell" (defScope (top 21)) f cdv (defBody (top 21)) (s__law_cell t) := by
  intro A Ar outer s H E hr
  have hf : Fit g (cxG g N__law_cell "_law_cell" (defScope (top 21)) f cdv Ar outer s H E) := fit_cx sc__law_cell.nd
  have tk : Takes (cxG g N__law_cell "_law_cell" (defScope (top 21)) f cdv Ar outer s H E) (WF E) := takes_cx
  have hr0 := hr.mono (Nat.le_succ k)
  unfold s__law_cell
  exact (ib_cons (is_if (it_cmp op_lt rd_cmp (ie_var 1) (ie_callB hf (call_lenG hf) rd_len rfl S.n_len (by decide +kernel) (ia_cons (ie_var 0) ia_nil)) (nomark _))
    (ib_one (is_ret (ie_callB hf call_abs rd_abs rfl S.n_abs (by decide +kernel) (ia_cons (ie_callTy hf call_int1 rd_int rfl S.n_int (by decide +kernel) (ia_cons (ie_ix hf (ie_var 0) (ie_var 1)) ia_nil)) ia_nil))))
    ib_nil)
    (ib_one (is_ret ie_int)))
theorem sc__law_draws : FnScope N__law_draws ["_law_cell_here", "_law_count_here"] (defScope (top 22)) := ⟨rfl, rfl, rfl, by decide +kernel, rfl, by decide +kernel, by decide +kernel⟩
theorem b__law_draws (S : Sv g) (v : Ev g k t) {f : Addr} {cdv : Value} : BodyOk g (k + 1) N__law_draws "_law_draws" (defScope (top 22)) f cdv (defBody (top 22)) (s__law_draws t) := by
  intro A Ar outer s H E hr
  have hf : Fit g (cxG g N__law_draws "_law_draws" (defScope (top 22)) f cdv Ar outer s H E) := fit_cx sc__law_draws.nd
  have tk : Takes (cxG g N__law_draws "_law_draws" (defScope (top 22)) f cdv Ar outer s H E) (WF E) := takes_cx
  have hr0 := hr.mono (Nat.le_succ k)
  unfold s__law_draws
  exact (ib_cons (is_nl 2 hf ia_nil)
    (ib_cons (is_set 3 hf (ie_var 0))
    (ib_cons (is_for hf passes_cx (ii_range1 hf rfl S.n_range (ia_cons (ie_var 1) ia_nil)) (ig_name 4 hf)
    (ib_one (is_if (it_w (iw_and (it_cmp op_ge rd_cmp (ie_var 0) (ie_bin op_pow rd_pow ie_int ie_int) (nomark _)) (iw_and1 (it_cmp op_gt rd_cmp (ie_var 3) ie_int (nomark _)))))
    (ib_cons (is_append 2 hf (ie_bin op_mod rd_mod (ie_callTy hf call_int1 rd_int rfl S.n_int (by decide +kernel) (ia_cons (ie_var 3) ia_nil)) ie_int))
    (ib_one (is_set 3 hf (ie_bin op_fdiv rd_div (ie_var 3) ie_int))))
    (ib_cons (is_set 5 hf (ie_bin op_mod rd_mod (ie_callTy hf call_int1 rd_int rfl S.n_int (by decide +kernel) (ia_cons (ie_bin (op_add4 hf) rd_add (ie_bin op_mul rd_mul (ie_var 0) ie_int) (ie_bin op_mul rd_mul (ie_bin (op_add4 hf) rd_add (ie_var 4) ie_int) ie_int)) ia_nil)) ie_int))
    (ib_cons (is_set 5 hf (ie_bin op_mod rd_mod (ie_callTy hf call_int1 rd_int rfl S.n_int (by decide +kernel) (ia_cons (ie_bin (op_add4 hf) rd_add (ie_bin (op_add4 hf) rd_add (ie_bin op_mul rd_mul (ie_var 5) (ie_var 5)) (ie_bin op_mul rd_mul (ie_var 5) ie_int)) (ie_bin op_mul rd_mul (ie_var 4) ie_int)) ia_nil)) ie_int))
    (ib_cons (is_set 5 hf (ie_bin op_mod rd_mod (ie_callTy hf call_int1 rd_int rfl S.n_int (by decide +kernel) (ia_cons (ie_bin (op_add4 hf) rd_add (ie_bin (op_add4 hf) rd_add (ie_bin op_mul rd_mul (ie_var 5) (ie_var 5)) (ie_var 0)) (ie_bin op_mul rd_mul ie_int (ie_var 4))) ia_nil)) ie_int))
    (ib_one (is_append 2 hf (ie_bin op_mod rd_mod (ie_bin op_fdiv rd_div (ie_var 5) ie_int) ie_int)))))))))
    (ib_one (is_retL 2)))))
theorem sc__law_like : FnScope N__law_like ["_law_actual", "_law_due"] (defScope (top 23)) := ⟨rfl, rfl, rfl, by decide +kernel, rfl, by decide +kernel, by decide +kernel⟩
theorem b__law_like (S : Sv g) (v : Ev g k t) {f : Addr} {cdv : Value} : BodyOk g (k + 1) N__law_like "_law_like" (defScope (top 23)) f cdv (defBody (top 23)) (s__law_like t) := by
  intro A Ar outer s H E hr
  have hf : Fit g (cxG g N__law_like "_law_like" (defScope (top 23)) f cdv Ar outer s H E) := fit_cx sc__law_like.nd
  have tk : Takes (cxG g N__law_like "_law_like" (defScope (top 23)) f cdv Ar outer s H E) (WF E) := takes_cx
  have hr0 := hr.mono (Nat.le_succ k)
  unfold s__law_like
  exact (ib_cons (is_if (it_cmp op_isN rd_isN (ie_var 1) ie_non (nomark _))
    (ib_one (is_ret (ie_cmp op_isN rd_isN (ie_var 0) ie_non (nomark _))))
    ib_nil)
    (ib_cons (is_if (it_val hf (ie_isinst .bool hf rfl S.n_isinstance rfl S.n_bool (by decide +kernel) (ie_var 1)))
    (ib_one (is_ret (ie_and (ie_isinst .bool hf rfl S.n_isinstance rfl S.n_bool (by decide +kernel) (ie_var 0)) (ie_one (ie_cmp op_eq rd_eq (ie_var 0) (ie_var 1) (nomark _))))))
    ib_nil)
    (ib_cons (is_if (it_val hf (ie_isinst .str hf rfl S.n_isinstance rfl S.n_str (by decide +kernel) (ie_var 1)))
    (ib_one (is_ret (ie_and (ie_isinst .str hf rfl S.n_isinstance rfl S.n_str (by decide +kernel) (ie_var 0)) (ie_one (ie_cmp op_eq rd_eq (ie_var 0) (ie_var 1) (nomark _))))))
    ib_nil)
    (ib_cons (is_if (it_val hf (ie_isinst .int hf rfl S.n_isinstance rfl S.n_int (by decide +kernel) (ie_var 1)))
    (ib_one (is_ret (ie_and (ie_isinst .int hf rfl S.n_isinstance rfl S.n_int (by decide +kernel) (ie_var 0)) (ie_and (ie_not (ie_isinst .bool hf rfl S.n_isinstance rfl S.n_bool (by decide +kernel) (ie_var 0))) (ie_one (ie_cmp op_eq rd_eq (ie_var 0) (ie_var 1) (nomark _)))))))
    ib_nil)
    (ib_cons (is_if (it_w (iw_or (it_cmp op_ne rd_ne (ie_isinst .list hf rfl S.n_isinstance rfl S.n_list (by decide +kernel) (ie_var 1)) (ie_isinst .list hf rfl S.n_isinstance rfl S.n_list (by decide +kernel) (ie_var 0)) (nomark _)) (iw_or1 (it_cmp op_ne rd_ne (ie_isinst .tuple hf rfl S.n_isinstance rfl S.n_tuple (by decide +kernel) (ie_var 1)) (ie_isinst .tuple hf rfl S.n_isinstance rfl S.n_tuple (by decide +kernel) (ie_var 0)) (nomark _)))))
    (ib_one (is_ret ie_bl))
    ib_nil)
    (ib_cons (is_if (it_cmp op_ne rd_ne (ie_callB hf (call_lenG hf) rd_len rfl S.n_len (by decide +kernel) (ia_cons (ie_var 0) ia_nil)) (ie_callB hf (call_lenG hf) rd_len rfl S.n_len (by decide +kernel) (ia_cons (ie_var 1) ia_nil)) (nomark _))
    (ib_one (is_ret ie_bl))
    ib_nil)
    (ib_one (is_ret (ie_callB hf (call_allG hf) rd_all rfl S.n_all (by decide +kernel) (ia_cons (ie_lc (own := [("_law_k", 2)]) hf tk rfl rfl (ii_range1 hf rfl S.n_range (ia_cons (ie_callB hf (call_lenG hf) rd_len rfl S.n_len (by decide +kernel) (ia_cons (ie_var 1) ia_nil)) ia_nil)) (blkOk_by (N := N__law_like) (sc := defScope (top 23)) (by decide +kernel)) (ct_name 2) (fun s H C cl fp xe => pg_name (fit_blk hf).nd rfl (by first | exact .inl rfl | exact .inr rfl)) (fun s H C cl fp xe W' tk' => its_nil) (fun s H C cl fp xe W' A' tk' => (ie_callP (fit_blk hf) tk' v._law_like hr0 rfl (ia_cons (ie_ix (fit_blk hf) (ie_var 0) (ie_var 2)) (ia_cons (ie_ix (fit_blk hf) (ie_var 1) (ie_var 2)) ia_nil))))) ia_nil))))))))))
theorem sc__law_fun : FnScope N__law_fun ["_law_draws_here", "_law_at", "_law_many", "_law_deep_here"] (defScope (top 24)) := ⟨rfl, rfl, rfl, by decide +kernel, rfl, by decide +kernel, by decide +kernel⟩
theorem b__law_fun (S : Sv g) (v : Ev g k t) {f : Addr} {cdv : Value} : BodyOk g (k + 1) N__law_fun "_law_fun" (defScope (top 24)) f cdv (defBody (top 24)) (s__law_fun t) := by
  intro A Ar outer s H E hr
  have hf : Fit g (cxG g N__law_fun "_law_fun" (defScope (top 24)) f cdv Ar outer s H E) := fit_cx sc__law_fun.nd
  have tk : Takes (cxG g N__law_fun "_law_fun" (defScope (top 24)) f cdv Ar outer s H E) (WF E) := takes_cx
  have hr0 := hr.mono (Nat.le_succ k)
  unfold s__law_fun
  exact (ib_cons (is_set 4 hf (ie_bin (op_add4 hf) rd_add (ie_ix hf (ie_var 0) (ie_bin op_mod rd_mod (ie_var 1) (ie_callB hf (call_lenG hf) rd_len rfl S.n_len (by decide +kernel) (ia_cons (ie_var 0) ia_nil)))) (ie_bin op_mul rd_mul ie_int (ie_var 1))))
    (ib_cons (is_set 5 hf (ie_bin op_mod rd_mod (ie_var 4) ie_int))
    (ib_cons (is_if (it_w (iw_or (it_cmp op_lt rd_cmp (ie_var 3) ie_int (nomark _)) (iw_or1 (it_cmp op_lt rd_cmp (ie_var 5) ie_int (nomark _)))))
    (ib_cons (is_if (it_w (iw_and (it_cmp op_eq rd_eq (ie_var 2) ie_int (nomark _)) (iw_and1 (it_cmp op_eq rd_eq (ie_bin op_mod rd_mod (ie_bin op_fdiv rd_div (ie_var 4) ie_int) ie_int) ie_int (nomark _)))))
    (ib_one (is_ret (ie_tup (ia_cons ie_str ia_nil))))
    ib_nil)
    (ib_cons (is_if (it_w (iw_and (it_cmp op_gt rd_cmp (ie_var 2) ie_int (nomark _)) (iw_and1 (it_cmp op_gt rd_cmp (ie_bin op_mod rd_mod (ie_bin op_fdiv rd_div (ie_var 4) ie_int) ie_int) ie_int (nomark _)))))
    (ib_one (is_ret (ie_tup (ia_cons ie_str (ia_cons (ie_var 2) (ia_cons (ie_bin op_mod rd_mod (ie_bin op_fdiv rd_div (ie_var 4) ie_int) (ie_var 2)) ia_nil))))))
    ib_nil)
    (ib_one (is_ret (ie_tup (ia_cons ie_str (ia_cons (ie_var 2) ia_nil)))))))
    ib_nil)
    (ib_cons (is_if (it_w (iw_or (it_cmp op_lt rd_cmp (ie_var 5) ie_int (nomark _)) (iw_or1 (it_w (iw_and (it_cmp op_eq rd_eq (ie_var 2) ie_int (nomark _)) (iw_and1 (it_cmp op_lt rd_cmp (ie_var 5) ie_int (nomark _))))))))
    (ib_cons (is_set 6 hf (ie_bin (op_add4 hf) rd_add ie_int (ie_bin op_mod rd_mod (ie_bin op_fdiv rd_div (ie_var 4) ie_int) ie_int)))
    (ib_cons (is_set 7 hf (ie_callTy hf (call_tupleG hf) rd_tuple rfl S.n_tuple (by decide +kernel) (ia_cons (ie_lc (own := [("_law_k", 8)]) hf tk rfl rfl (ii_range1 hf rfl S.n_range (ia_cons (ie_var 6) ia_nil)) (blkOk_by (N := N__law_fun) (sc := defScope (top 24)) (by decide +kernel)) (ct_name 8) (fun s H C cl fp xe => pg_name (fit_blk hf).nd rfl (by first | exact .inl rfl | exact .inr rfl)) (fun s H C cl fp xe W' tk' => its_nil) (fun s H C cl fp xe W' A' tk' => (ie_callP (fit_blk hf) tk' v._law_fun hr0 rfl (ia_cons (ie_var 0) (ia_cons (ie_bin (op_add4 (fit_blk hf)) rd_add (ie_bin (op_add4 (fit_blk hf)) rd_add (ie_bin op_mul rd_mul ie_int (ie_var 1)) ie_int) (ie_var 8)) (ia_cons (ie_var 2) (ia_cons (ie_bin op_sub rd_sub (ie_var 3) ie_int) ia_nil))))))) ia_nil)))
    (ib_one (is_ret (ie_tup (ia_cons ie_str (ia_cons (ie_callP hf tk v._law_fun hr0 rfl (ia_cons (ie_var 0) (ia_cons (ie_bin (op_add4 hf) rd_add (ie_bin op_mul rd_mul ie_int (ie_var 1)) ie_int) (ia_cons (ie_var 6) (ia_cons (ie_bin op_sub rd_sub (ie_var 3) ie_int) ia_nil))))) (ia_cons (ie_var 7) ia_nil))))))))
    ib_nil)
    (ib_cons (is_if (it_w (iw_and (it_cmp op_lt rd_cmp (ie_var 5) ie_int (nomark _)) (iw_and1 (it_cmp op_gt rd_cmp (ie_var 2) ie_int (nomark _)))))
    (ib_one (is_ret (ie_tup (ia_cons ie_str (ia_cons (ie_callP hf tk v._law_fun hr0 rfl (ia_cons (ie_var 0) (ia_cons (ie_bin (op_add4 hf) rd_add (ie_bin op_mul rd_mul ie_int (ie_var 1)) ie_int) (ia_cons (ie_bin op_sub rd_sub (ie_var 2) ie_int) (ia_cons (ie_bin op_sub rd_sub (ie_var 3) ie_int) ia_nil))))) (ia_cons (ie_callP hf tk v._law_fun hr0 rfl (ia_cons (ie_var 0) (ia_cons (ie_bin (op_add4 hf) rd_add (ie_bin op_mul rd_mul ie_int (ie_var 1)) ie_int) (ia_cons (ie_bin (op_add4 hf) rd_add (ie_var 2) ie_int) (ia_cons (ie_bin op_sub rd_sub (ie_var 3) ie_int) ia_nil))))) ia_nil))))))
    ib_nil)
    (ib_one (is_ret (ie_tup (ia_cons ie_str (ia_cons (ie_callP hf tk v._law_fun hr0 rfl (ia_cons (ie_var 0) (ia_cons (ie_bin (op_add4 hf) rd_add (ie_bin op_mul rd_mul ie_int (ie_var 1)) ie_int) (ia_cons (ie_bin (op_add4 hf) rd_add (ie_var 2) ie_int) (ia_cons (ie_bin op_sub rd_sub (ie_var 3) ie_int) ia_nil))))) ia_nil))))))))))
theorem sc__law_pieces : FnScope N__law_pieces ["_law_thing"] (defScope (top 25)) := ⟨rfl, rfl, rfl, by decide +kernel, rfl, by decide +kernel, by decide +kernel⟩
theorem b__law_pieces (S : Sv g) (v : Ev g k t) {f : Addr} {cdv : Value} : BodyOk g (k + 1) N__law_pieces "_law_pieces" (defScope (top 25)) f cdv (defBody (top 25)) (s__law_pieces t) := by
  intro A Ar outer s H E hr
  have hf : Fit g (cxG g N__law_pieces "_law_pieces" (defScope (top 25)) f cdv Ar outer s H E) := fit_cx sc__law_pieces.nd
  have tk : Takes (cxG g N__law_pieces "_law_pieces" (defScope (top 25)) f cdv Ar outer s H E) (WF E) := takes_cx
  have hr0 := hr.mono (Nat.le_succ k)
  unfold s__law_pieces
  exact (ib_cons (is_if (it_cmp op_eq rd_eq (ie_ix hf (ie_var 0) ie_int) ie_str (nomark _))
    (ib_one (is_ret (ie_bin (op_add4 hf) rd_add (ie_lst (ia_cons (ie_ix hf (ie_var 0) ie_int) ia_nil)) (ie_callTy hf (call_listG hf) rd_list rfl S.n_list (by decide +kernel) (ia_cons (ie_ix hf (ie_var 0) ie_int) ia_nil)))))
    ib_nil)
    (ib_cons (is_if (it_cmp (op_inG hf) rd_in (ie_ix hf (ie_var 0) ie_int) (ie_tup (ia_cons ie_str (ia_cons ie_str ia_nil))) (by with_unfolding_all rfl))
    (ib_one (is_ret (ie_callTy hf (call_listG hf) rd_list rfl S.n_list (by decide +kernel) (ia_cons (ie_sl hf (ie_var 0) (io_some ie_int) io_none) ia_nil))))
    ib_nil)
    (ib_one (is_ret (ie_lst ia_nil)))))
theorem sc__law_arity : FnScope N__law_arity ["_law_thing"] (defScope (top 26)) := ⟨rfl, rfl, rfl, by decide +kernel, rfl, by decide +kernel, by decide +kernel⟩
theorem b__law_arity (S : Sv g) (v : Ev g k t) {f : Addr} {cdv : Value} : BodyOk g (k + 1) N__law_arity "_law_arity" (defScope (top 26)) f cdv (defBody (top 26)) (s__law_arity t) := by
  intro A Ar outer s H E hr
  have hf : Fit g (cxG g N__law_arity "_law_arity" (defScope (top 26)) f cdv Ar outer s H E) := fit_cx sc__law_arity.nd
  have tk : Takes (cxG g N__law_arity "_law_arity" (defScope (top 26)) f cdv Ar outer s H E) (WF E) := takes_cx
  have hr0 := hr.mono (Nat.le_succ k)
  unfold s__law_arity
  exact (ib_cons (is_set 1 hf (ie_ix hf (ie_var 0) ie_int))
    (ib_cons (is_if (it_cmp (op_inG hf) rd_in (ie_var 1) (ie_tup (ia_cons ie_str (ia_cons ie_str ia_nil))) (by with_unfolding_all rfl))
    (ib_one (is_ret (ie_ix hf (ie_var 0) ie_int)))
    ib_nil)
    (ib_cons (is_if (it_cmp op_eq rd_eq (ie_var 1) ie_str (nomark _))
    (ib_one (is_ret ie_int))
    ib_nil)
    (ib_cons (is_if (it_cmp op_eq rd_eq (ie_var 1) ie_str (nomark _))
    (ib_cons (is_if (it_cmp op_eq rd_eq (ie_callB hf (call_lenG hf) rd_len rfl S.n_len (by decide +kernel) (ia_cons (ie_ix hf (ie_var 0) ie_int) ia_nil)) ie_int (nomark _))
    (ib_one (is_ret (ie_un un_neg rd_neg ie_int)))
    ib_nil)
    (ib_one (is_ret (ie_callP hf tk v._law_arity hr0 rfl (ia_cons (ie_ix hf (ie_ix hf (ie_var 0) ie_int) ie_int) ia_nil)))))
    ib_nil)
    (ib_cons (is_if (it_cmp op_eq rd_eq (ie_var 1) ie_str (nomark _))
    (ib_one (is_ret (ie_bin (op_add4 hf) rd_add (ie_callP hf tk v._law_arity hr0 rfl (ia_cons (ie_ix hf (ie_var 0) ie_int) ia_nil)) ie_int)))
    ib_nil)
    (ib_one (is_ret (ie_bin op_sub rd_sub (ie_callP hf tk v._law_arity hr0 rfl (ia_cons (ie_ix hf (ie_var 0) ie_int) ia_nil)) ie_int))))))))
theorem sc__law_deep : FnScope N__law_deep ["_law_thing"] (defScope (top 27)) := ⟨rfl, rfl, rfl, by decide +kernel, rfl, by decide +kernel, by decide +kernel⟩
theorem b__law_deep (S : Sv g) (v : Ev g k t) {f : Addr} {cdv : Value} : BodyOk g (k + 1) N__law_deep "_law_deep" (defScope (top 27)) f cdv (defBody (top 27)) (s__law_deep t) := by
  intro A Ar outer s H E hr
  have hf : Fit g (cxG g N__law_deep "_law_deep" (defScope (top 27)) f cdv Ar outer s H E) := fit_cx sc__law_deep.nd
  have tk : Takes (cxG g N__law_deep "_law_deep" (defScope (top 27)) f cdv Ar outer s H E) (WF E) := takes_cx
  have hr0 := hr.mono (Nat.le_succ k)
  unfold s__law_deep
  exact (ib_cons (is_set 1 hf ie_int)
    (ib_cons (is_for hf passes_cx (ii_seq hf (ie_callP hf tk v._law_pieces hr0 rfl (ia_cons (ie_var 0) ia_nil))) (ig_name 2 hf)
    (ib_one (is_set 1 hf (ie_callB hf (call_max2 hf.calm) rd_max2 rfl S.n_max (by decide +kernel) (ia_cons (ie_var 1) (ia_cons (ie_callP hf tk v._law_deep hr0 rfl (ia_cons (ie_var 2) ia_nil)) ia_nil))))))
    (ib_one (is_ret (ie_bin (op_add4 hf) rd_add (ie_var 1) ie_int)))))
theorem sc__law_count : FnScope N__law_count ["_law_thing"] (defScope (top 28)) := ⟨rfl, rfl, rfl, by decide +kernel, rfl, by decide +kernel, by decide +kernel⟩
theorem b__law_count (S : Sv g) (v : Ev g k t) {f : Addr} {cdv : Value} : BodyOk g (k + 1) N__law_count "_law_count" (defScope (top 28)) f cdv (defBody (top 28)) (s__law_count t) := by
  intro A Ar outer s H E hr
  have hf : Fit g (cxG g N__law_count "_law_count" (defScope (top 28)) f cdv Ar outer s H E) := fit_cx sc__law_count.nd
  have tk : Takes (cxG g N__law_count "_law_count" (defScope (top 28)) f cdv Ar outer s H E) (WF E) := takes_cx
  have hr0 := hr.mono (Nat.le_succ k)
  unfold s__law_count
  exact (ib_cons (is_set 1 hf ie_int)
    (ib_cons (is_for hf passes_cx (ii_seq hf (ie_callP hf tk v._law_pieces hr0 rfl (ia_cons (ie_var 0) ia_nil))) (ig_name 2 hf)
    (ib_one (is_set 1 hf (ie_bin (op_add4 hf) rd_add (ie_var 1) (ie_callP hf tk v._law_count hr0 rfl (ia_cons (ie_var 2) ia_nil))))))
    (ib_one (is_ret (ie_var 1)))))
theorem sc__law_fits_well : FnScope N__law_fits_well ["_law_thing"] (defScope (top 29)) := ⟨rfl, rfl, rfl, by decide +kernel, rfl, by decide +kernel, by decide +kernel⟩
theorem b__law_fits_well (S : Sv g) (v : Ev g k t) {f : Addr} {cdv : Value} : BodyOk g (k + 1) N__law_fits_well "_law_fits_well" (defScope (top 29)) f cdv (defBody (top 29)) (s__law_fits_well t) := by
  intro A Ar outer s H E hr
  have hf : Fit g (cxG g N__law_fits_well "_law_fits_well" (defScope (top 29)) f cdv Ar outer s H E) := fit_cx sc__law_fits_well.nd
  have tk : Takes (cxG g N__law_fits_well "_law_fits_well" (defScope (top 29)) f cdv Ar outer s H E) (WF E) := takes_cx
  have hr0 := hr.mono (Nat.le_succ k)
  unfold s__law_fits_well
  exact (ib_cons (is_set 1 hf (ie_ix hf (ie_var 0) ie_int))
    (ib_cons (is_if (it_cmp op_eq rd_eq (ie_var 1) ie_str (nomark _))
    (ib_one (is_ret (ie_and (ie_cmp op_le rd_cmp ie_int (ie_ix hf (ie_var 0) ie_int) (nomark _)) (ie_one (ie_cmp op_le rd_cmp (ie_ix hf (ie_var 0) ie_int) ie_int (nomark _))))))
    ib_nil)
    (ib_cons (is_if (it_cmp op_eq rd_eq (ie_var 1) ie_str (nomark _))
    (ib_one (is_ret (ie_and (ie_cmp op_le rd_cmp ie_int (ie_ix hf (ie_var 0) ie_int) (nomark _)) (ie_and (ie_cmp op_le rd_cmp (ie_ix hf (ie_var 0) ie_int) ie_int (nomark _)) (ie_and (ie_cmp op_le rd_cmp ie_int (ie_ix hf (ie_var 0) ie_int) (nomark _)) (ie_one (ie_cmp op_lt rd_cmp (ie_ix hf (ie_var 0) ie_int) (ie_ix hf (ie_var 0) ie_int) (nomark _))))))))
    ib_nil)
    (ib_cons (is_if (it_cmp op_eq rd_eq (ie_var 1) ie_str (nomark _))
    (ib_one (is_ret ie_bl))
    ib_nil)
    (ib_cons (is_for hf passes_cx (ii_seq hf (ie_callP hf tk v._law_pieces hr0 rfl (ia_cons (ie_var 0) ia_nil))) (ig_name 2 hf)
    (ib_one (is_if (it_not (it_val hf (ie_callP hf tk v._law_fits_well hr0 rfl (ia_cons (ie_var 2) ia_nil))))
    (ib_one (is_ret ie_bl))
    ib_nil)))
    (ib_cons (is_if (it_cmp op_eq rd_eq (ie_var 1) ie_str (nomark _))
    (ib_cons (is_if (it_w (iw_or (it_cmp op_eq rd_eq (ie_callB hf (call_lenG hf) rd_len rfl S.n_len (by decide +kernel) (ia_cons (ie_ix hf (ie_var 0) ie_int) ia_nil)) ie_int (nomark _)) (iw_or1 (it_cmp op_ne rd_ne (ie_callP hf tk v._law_arity hr0 rfl (ia_cons (ie_ix hf (ie_var 0) ie_int) ia_nil)) (ie_callB hf (call_lenG hf) rd_len rfl S.n_len (by decide +kernel) (ia_cons (ie_ix hf (ie_var 0) ie_int) ia_nil)) (nomark _)))))
    (ib_one (is_ret ie_bl))
    ib_nil)
    (ib_one (is_ret (ie_cmp op_eq rd_eq (ie_callB hf (call_lenG hf) rd_len rfl S.n_len (by decide +kernel) (ia_cons (ie_lc (own := [("_law_part", 2)]) hf tk rfl rfl (ii_seq hf (ie_ix hf (ie_var 0) ie_int)) (blkOk_by (N := N__law_fits_well) (sc := defScope (top 29)) (by decide +kernel)) (ct_name 2) (fun s H C cl fp xe => pg_name (fit_blk hf).nd rfl (by first | exact .inl rfl | exact .inr rfl)) (fun s H C cl fp xe W' tk' => its_one fun A => (it_cmp op_ne rd_ne (ie_callP (fit_blk hf) tk' v._law_arity hr0 rfl (ia_cons (ie_var 2) ia_nil)) (ie_callP (fit_blk hf) tk' v._law_arity hr0 rfl (ia_cons (ie_ix (fit_blk hf) (ie_ix (fit_blk hf) (ie_var 0) ie_int) ie_int) ia_nil)) (nomark _))) (fun s H C cl fp xe W' A' tk' => (ie_var 2))) ia_nil)) ie_int (nomark _)))))
    ib_nil)
    (ib_cons (is_if (it_cmp op_eq rd_eq (ie_var 1) ie_str (nomark _))
    (ib_one (is_ret (ie_and (ie_cmp op_le rd_cmp (ie_callP hf tk v._law_arity hr0 rfl (ia_cons (ie_ix hf (ie_var 0) ie_int) ia_nil)) ie_int (nomark _)) (ie_one (ie_cmp op_eq rd_eq (ie_callP hf tk v._law_arity hr0 rfl (ia_cons (ie_ix hf (ie_var 0) ie_int) ia_nil)) (ie_bin (op_add4 hf) rd_add (ie_callP hf tk v._law_arity hr0 rfl (ia_cons (ie_ix hf (ie_var 0) ie_int) ia_nil)) ie_int) (nomark _))))))
    ib_nil)
    (ib_one (is_ret (ie_cmp op_ge rd_cmp (ie_callP hf tk v._law_arity hr0 rfl (ia_cons (ie_ix hf (ie_var 0) ie_int) ia_nil)) ie_int (nomark _)))))))))))
theorem sc__law_is_fun : FnScope N__law_is_fun ["_law_thing"] (defScope (top 30)) := ⟨rfl, rfl, rfl, by decide +kernel, rfl, by decide +kernel, by decide +kernel⟩
theorem b__law_is_fun (S : Sv g) (v : Ev g k t) {f : Addr} {cdv : Value} : BodyOk g (k + 1) N__law_is_fun "_law_is_fun" (defScope (top 30)) f cdv (defBody (top 30)) (s__law_is_fun t) := by
  intro A Ar outer s H E hr
  have hf : Fit g (cxG g N__law_is_fun "_law_is_fun" (defScope (top 30)) f cdv Ar outer s H E) := fit_cx sc__law_is_fun.nd
  have tk : Takes (cxG g N__law_is_fun "_law_is_fun" (defScope (top 30)) f cdv Ar outer s H E) (WF E) := takes_cx
  have hr0 := hr.mono (Nat.le_succ k)
  unfold s__law_is_fun
  exact (ib_one (is_ret (ie_and (ie_cmp op_le rd_cmp (ie_callP hf tk v._law_deep hr0 rfl (ia_cons (ie_var 0) ia_nil)) ie_int (nomark _)) (ie_and (ie_cmp op_le rd_cmp (ie_callP hf tk v._law_count hr0 rfl (ia_cons (ie_var 0) ia_nil)) ie_int (nomark _)) (ie_one (ie_callP hf tk v._law_fits_well hr0 rfl (ia_cons (ie_var 0) ia_nil)))))))
theorem sc__law_apply : FnScope N__law_apply ["_law_thing", "_law_arguments", "_law_left"] (defScope (top 31)) := ⟨rfl, rfl, rfl, by decide +kernel, rfl, by decide +kernel, by decide +kernel⟩
theorem b__law_apply (S : Sv g) (v : Ev g k t) {f : Addr} {cdv : Value} : BodyOk g (k + 1) N__law_apply "_law_apply" (defScope (top 31)) f cdv (defBody (top 31)) (s__law_apply t) := by
  intro A Ar outer s H E hr
  have hf : Fit g (cxG g N__law_apply "_law_apply" (defScope (top 31)) f cdv Ar outer s H E) := fit_cx sc__law_apply.nd
  have tk : Takes (cxG g N__law_apply "_law_apply" (defScope (top 31)) f cdv Ar outer s H E) (WF E) := takes_cx
  have hr0 := hr.mono (Nat.le_succ k)
  unfold s__law_apply
  exact (ib_cons (is_if (it_cmp op_lt rd_cmp (ie_var 2) ie_int (nomark _))
    (ib_one (is_ret ie_non))
    ib_nil)
    (ib_cons (is_set 2 hf (ie_bin op_sub rd_sub (ie_var 2) ie_int))
    (ib_cons (is_set 3 hf (ie_ix hf (ie_var 0) ie_int))
    (ib_cons (is_if (it_cmp op_eq rd_eq (ie_var 3) ie_str (nomark _))
    (ib_one (is_ret (ie_lst (ia_cons ie_int (ia_cons (ie_var 2) ia_nil)))))
    ib_nil)
    (ib_cons (is_if (it_cmp op_eq rd_eq (ie_var 3) ie_str (nomark _))
    (ib_one (is_ret (ie_lst (ia_cons (ie_bin (op_add4 hf) rd_add (ie_ix hf (ie_var 1) ie_int) ie_int) (ia_cons (ie_var 2) ia_nil)))))
    ib_nil)
    (ib_cons (is_if (it_cmp op_eq rd_eq (ie_var 3) ie_str (nomark _))
    (ib_one (is_ret (ie_lst (ia_cons (ie_ix hf (ie_var 1) (ie_ix hf (ie_var 0) ie_int)) (ia_cons (ie_var 2) ia_nil)))))
    ib_nil)
    (ib_cons (is_if (it_cmp op_eq rd_eq (ie_var 3) ie_str (nomark _))
    (ib_cons (is_nl 4 hf ia_nil)
    (ib_cons (is_for hf passes_cx (ii_seq hf (ie_ix hf (ie_var 0) ie_int)) (ig_name 5 hf)
    (ib_cons (is_set 6 hf (ie_callP hf tk v._law_apply hr0 rfl (ia_cons (ie_var 5) (ia_cons (ie_var 1) (ia_cons (ie_var 2) ia_nil)))))
    (ib_cons (is_if (it_cmp op_isN rd_isN (ie_var 6) ie_non (nomark _))
    (ib_one (is_ret ie_non))
    ib_nil)
    (ib_cons (is_append 4 hf (ie_ix hf (ie_var 6) ie_int))
    (ib_one (is_set 2 hf (ie_ix hf (ie_var 6) ie_int)))))))
    (ib_one (is_ret (ie_callP hf tk v._law_apply hr0 rfl (ia_cons (ie_ix hf (ie_var 0) ie_int) (ia_cons (ie_tupL 4 hf rfl S.n_tuple) (ia_cons (ie_var 2) ia_nil))))))))
    ib_nil)
    (ib_cons (is_if (it_cmp op_eq rd_eq (ie_var 3) ie_str (nomark _))
    (ib_cons (is_set 6 hf (ie_callP hf tk v._law_apply hr0 rfl (ia_cons (ie_ix hf (ie_var 0) ie_int) (ia_cons (ie_sl hf (ie_var 1) (io_some ie_int) io_none) (ia_cons (ie_var 2) ia_nil)))))
    (ib_cons (is_for hf passes_cx (ii_range1 hf rfl S.n_range (ia_cons (ie_ix hf (ie_var 1) ie_int) ia_nil)) (ig_name 7 hf)
    (ib_cons (is_if (it_cmp op_isN rd_isN (ie_var 6) ie_non (nomark _))
    (ib_one (is_ret ie_non))
    ib_nil)
    (ib_one (is_set 6 hf (ie_callP hf tk v._law_apply hr0 rfl (ia_cons (ie_ix hf (ie_var 0) ie_int) (ia_cons (ie_bin (op_add4 hf) rd_add (ie_tup (ia_cons (ie_var 7) (ia_cons (ie_ix hf (ie_var 6) ie_int) ia_nil))) (ie_sl hf (ie_var 1) (io_some ie_int) io_none)) (ia_cons (ie_ix hf (ie_var 6) ie_int) ia_nil))))))))
    (ib_one (is_ret (ie_var 6)))))
    ib_nil)
    (ib_cons (is_for hf passes_cx (ii_range1 hf rfl S.n_range (ia_cons (ie_bin (op_add4 hf) rd_add (ie_var 2) ie_int) ia_nil)) (ig_name 7 hf)
    (ib_cons (is_set 6 hf (ie_callP hf tk v._law_apply hr0 rfl (ia_cons (ie_ix hf (ie_var 0) ie_int) (ia_cons (ie_bin (op_add4 hf) rd_add (ie_tup (ia_cons (ie_var 7) ia_nil)) (ie_var 1)) (ia_cons (ie_var 2) ia_nil)))))
    (ib_cons (is_if (it_cmp op_isN rd_isN (ie_var 6) ie_non (nomark _))
    (ib_one (is_ret ie_non))
    ib_nil)
    (ib_cons (is_if (it_cmp op_eq rd_eq (ie_ix hf (ie_var 6) ie_int) ie_int (nomark _))
    (ib_one (is_ret (ie_lst (ia_cons (ie_var 7) (ia_cons (ie_ix hf (ie_var 6) ie_int) ia_nil)))))
    ib_nil)
    (ib_one (is_set 2 hf (ie_ix hf (ie_var 6) ie_int)))))))
    (ib_one (is_ret ie_non)))))))))))
theorem sc__law_told : FnScope N__law_told ["_law_thing", "_law_arguments", "_law_limit", "_law_way"] (defScope (top 32)) := ⟨rfl, rfl, rfl, by decide +kernel, rfl, by decide +kernel, by decide +kernel⟩
theorem b__law_told (S : Sv g) (v : Ev g k t) {f : Addr} {cdv : Value} : BodyOk g (k + 1) N__law_told "_law_told" (defScope (top 32)) f cdv (defBody (top 32)) (s__law_told t) := by
  intro A Ar outer s H E hr
  have hf : Fit g (cxG g N__law_told "_law_told" (defScope (top 32)) f cdv Ar outer s H E) := fit_cx sc__law_told.nd
  have tk : Takes (cxG g N__law_told "_law_told" (defScope (top 32)) f cdv Ar outer s H E) (WF E) := takes_cx
  have hr0 := hr.mono (Nat.le_succ k)
  unfold s__law_told
  exact (ib_one (is_try hf tk rfl rfl S.catch_TooLong rfl S.x_TooLong.gC (fun W' pn xe tk' hp => (ib_cons (is_if (it_cmp op_eq rd_eq (ie_var 3) ie_int (nomark _))
    (ib_one (is_ret (ie_tup (ia_cons ie_str (ia_cons (ie_callPk (fit_tr hf) tk' v.value hr0 rfl (ia_cons (ie_var 0) (ia_cons (ie_var 1) ia_nil)) (ik_cons (ie_var 2) ik_nil)) ia_nil)))))
    ib_nil)
    (ib_one (is_ret (ie_tup (ia_cons ie_str (ia_cons (ie_callPk (fit_tr hf) tk' v.applications hr0 rfl (ia_cons (ie_var 0) (ia_cons (ie_var 1) ia_nil)) (ik_cons (ie_var 2) ik_nil)) ia_nil)))))))
    (fun a oe dx pn hz hv => (ib_one (is_ret (ie_tup (ia_cons ie_str (ia_cons (ie_exf 4 hf S.x_TooLong hz hv) ia_nil))))))))
theorem sc_law : FnScope N_law ["_law_script"] (defScope (top 33)) := ⟨rfl, rfl, rfl, by decide +kernel, rfl, by decide +kernel, by decide +kernel⟩
theorem b_law (S : Sv g) (v : Ev g k t) {f : Addr} {cdv : Value} : BodyOk g (k + 1) N_law "law" (defScope (top 33)) f cdv (defBody (top 33)) (s_law t) := by
  intro A Ar outer s H E hr
  have hf : Fit g (cxG g N_law "law" (defScope (top 33)) f cdv Ar outer s H E) := fit_cx sc_law.nd
  have tk : Takes (cxG g N_law "law" (defScope (top 33)) f cdv Ar outer s H E) (WF E) := takes_cx
  have hr0 := hr.mono (Nat.le_succ k)
  unfold s_law
  exact (ib_cons (is_for hf passes_cx (ii_range1 hf rfl S.n_range (ia_cons ie_int ia_nil)) (ig_name 1 hf)
    (ib_cons (is_set 2 hf (ie_callP hf tk v._law_draws hr0 rfl (ia_cons (ie_callP hf tk v._law_cell hr0 rfl (ia_cons (ie_var 0) (ia_cons (ie_var 1) ia_nil))) (ia_cons ie_int ia_nil))))
    (ib_cons (is_set 3 hf (ie_callP hf tk v._law_fun hr0 rfl (ia_cons (ie_var 2) (ia_cons (ie_var 1) (ia_cons (ie_bin op_mod rd_mod (ie_ix hf (ie_var 2) ie_int) ie_int) (ia_cons (ie_bin (op_add4 hf) rd_add ie_int (ie_bin op_mod rd_mod (ie_ix hf (ie_var 2) ie_int) ie_int)) ia_nil))))))
    (ib_cons (is_if (it_not (it_val hf (ie_callP hf tk v._law_is_fun hr0 rfl (ia_cons (ie_var 3) ia_nil))))
    (ib_one (is_ret ie_bl))
    ib_nil)
    (ib_cons (is_set 4 hf (ie_callTy hf (call_tupleG hf) rd_tuple rfl S.n_tuple (by decide +kernel) (ia_cons (ie_lc (own := [("_law_k", 8)]) hf tk rfl rfl (ii_range1 hf rfl S.n_range (ia_cons (ie_callP hf tk v._law_arity hr0 rfl (ia_cons (ie_var 3) ia_nil)) ia_nil)) (blkOk_by (N := N_law) (sc := defScope (top 33)) (by decide +kernel)) (ct_name 8) (fun s H C cl fp xe => pg_name (fit_blk hf).nd rfl (by first | exact .inl rfl | exact .inr rfl)) (fun s H C cl fp xe W' tk' => its_nil) (fun s H C cl fp xe W' A' tk' => (ie_bin op_mod rd_mod (ie_ix (fit_blk hf) (ie_var 2) (ie_bin (op_add4 (fit_blk hf)) rd_add ie_int (ie_var 8))) ie_int))) ia_nil)))
    (ib_cons (is_set 5 hf (ie_callP hf tk v._law_apply hr0 rfl (ia_cons (ie_var 3) (ia_cons (ie_var 4) (ia_cons ie_int ia_nil)))))
    (ib_one (is_if (it_cmp op_isN rd_isN (ie_var 5) ie_non (nomark _))
    (ib_one (is_for hf passes_cx (ii_range1 hf rfl S.n_range (ia_cons ie_int ia_nil)) (ig_name 6 hf)
    (ib_one (is_if (it_not (it_val hf (ie_callP hf tk v._law_like hr0 rfl (ia_cons (ie_callP hf tk v._law_told hr0 rfl (ia_cons (ie_var 3) (ia_cons (ie_var 4) (ia_cons ie_int (ia_cons (ie_var 6) ia_nil))))) (ia_cons (ie_tup (ia_cons ie_str (ia_cons ie_int ia_nil))) ia_nil)))))
    (ib_one (is_ret ie_bl))
    ib_nil))))
    (ib_cons (is_set 7 hf (ie_bin op_sub rd_sub ie_int (ie_ix hf (ie_var 5) ie_int)))
    (ib_cons (is_if (it_not (it_val hf (ie_callP hf tk v._law_like hr0 rfl (ia_cons (ie_callP hf tk v._law_told hr0 rfl (ia_cons (ie_var 3) (ia_cons (ie_var 4) (ia_cons (ie_var 7) (ia_cons ie_int ia_nil))))) (ia_cons (ie_tup (ia_cons ie_str (ia_cons (ie_ix hf (ie_var 5) ie_int) ia_nil))) ia_nil)))))
    (ib_one (is_ret ie_bl))
    ib_nil)
    (ib_cons (is_if (it_not (it_val hf (ie_callP hf tk v._law_like hr0 rfl (ia_cons (ie_callP hf tk v._law_told hr0 rfl (ia_cons (ie_var 3) (ia_cons (ie_var 4) (ia_cons (ie_var 7) (ia_cons ie_int ia_nil))))) (ia_cons (ie_tup (ia_cons ie_str (ia_cons (ie_var 7) ia_nil))) ia_nil)))))
    (ib_one (is_ret ie_bl))
    ib_nil)
    (ib_one (is_if (it_not (it_val hf (ie_callP hf tk v._law_like hr0 rfl (ia_cons (ie_callP hf tk v._law_told hr0 rfl (ia_cons (ie_var 3) (ia_cons (ie_var 4) (ia_cons (ie_bin op_sub rd_sub (ie_var 7) ie_int) (ia_cons (ie_bin op_mod rd_mod (ie_ix hf (ie_var 2) ie_int) ie_int) ia_nil))))) (ia_cons (ie_tup (ia_cons ie_str (ia_cons (ie_bin op_sub rd_sub (ie_var 7) ie_int) ia_nil))) ia_nil)))))
    (ib_one (is_ret ie_bl))
    ib_nil)))))))))))))
    (ib_one (is_ret ie_bl)))
theorem st_parts (S : Sv g) (v : Ev g k t) : PFn g (k + 1 + 1) "parts" 1 (tbS t).parts := by
  obtain ⟨fa, fd, F, gm⟩ := S.d_parts
  exact ⟨fa, fd, ["function"], fn_pure F sc_parts (b_parts S v), gm, F.kp, F.bindsN fun _ _ _ _ _ _ us hl => match us, hl with | [_], _ => rfl⟩
theorem st_depth (S : Sv g) (v : Ev g k t) : PFn g (k + 1 + 1) "depth" 1 (tbS t).depth := by
  obtain ⟨fa, fd, F, gm⟩ := S.d_depth
  exact ⟨fa, fd, ["function"], fn_pure F sc_depth (b_depth S v), gm, F.kp, F.bindsN fun _ _ _ _ _ _ us hl => match us, hl with | [_], _ => rfl⟩
theorem st_count_parts (S : Sv g) (v : Ev g k t) : PFn g (k + 1 + 1) "count_parts" 1 (tbS t).count_parts := by
  obtain ⟨fa, fd, F, gm⟩ := S.d_count_parts
  exact ⟨fa, fd, ["function"], fn_pure F sc_count_parts (b_count_parts S v), gm, F.kp, F.bindsN fun _ _ _ _ _ _ us hl => match us, hl with | [_], _ => rfl⟩
theorem st_arity (S : Sv g) (v : Ev g k t) : PFn g (k + 1 + 1) "arity" 1 (tbS t).arity := by
  obtain ⟨fa, fd, F, gm⟩ := S.d_arity
  exact ⟨fa, fd, ["function"], fn_pure F sc_arity (b_arity S v), gm, F.kp, F.bindsN fun _ _ _ _ _ _ us hl => match us, hl with | [_], _ => rfl⟩
theorem st_has_right_arities (S : Sv g) (v : Ev g k t) : PFn g (k + 1 + 1) "has_right_arities" 1 (tbS t).has_right_arities := by
  obtain ⟨fa, fd, F, gm, cc, P, hc, TB, hP⟩ := S.d_has_right_arities
  exact ⟨fa, fd, ["function"], fn_pure F sc_has_right_arities (by rw [hc]; exact b_has_right_arities S v TB hP), gm, F.kp, F.bindsN fun _ _ _ _ _ _ us hl => match us, hl with | [_], _ => rfl⟩
theorem st_is_function (S : Sv g) (v : Ev g k t) : PFn g (k + 1 + 1) "is_function" 1 (tbS t).is_function := by
  obtain ⟨fa, fd, F, gm⟩ := S.d_is_function
  exact ⟨fa, fd, ["thing"], fn_pure F sc_is_function (b_is_function S v), gm, F.kp, F.bindsN fun _ _ _ _ _ _ us hl => match us, hl with | [_], _ => rfl⟩
theorem st_Evaluation_init (S : Sv g) (v : Ev g k t) : CFn g (k + 1 + 1) "Evaluation" 2 (tbS t).Evaluation_init := by
  obtain ⟨fa, fd, F, gm, gc⟩ := S.d_Evaluation_init
  exact ⟨fa, fd, ["self", "limit"], fn_imp F sc_Evaluation_init (b_Evaluation_init S v), gm, gc, F.bindsN fun _ _ _ _ _ _ us hl => match us, hl with | [_, _], _ => rfl⟩
theorem st_Evaluation_apply (S : Sv g) (v : Ev g k t) : MFn g (k + 1 + 1) "Evaluation" "apply" 3 (tbS t).Evaluation_apply := by
  obtain ⟨fa, fd, F, gm⟩ := S.d_Evaluation_apply
  exact ⟨fa, fd, ["self", "function", "arguments"], fn_imp F sc_Evaluation_apply (b_Evaluation_apply S v), gm, F.bindsN fun _ _ _ _ _ _ us hl => match us, hl with | [_, _, _], _ => rfl⟩
theorem st_Evaluation_repeat (S : Sv g) (v : Ev g k t) : MFn g (k + 1 + 1) "Evaluation" "repeat" 4 (tbS t).Evaluation_repeat := by
  obtain ⟨fa, fd, F, gm⟩ := S.d_Evaluation_repeat
  exact ⟨fa, fd, ["self", "function", "count", "rest"], fn_imp F sc_Evaluation_repeat (b_Evaluation_repeat S v), gm, F.bindsN fun _ _ _ _ _ _ us hl => match us, hl with | [_, _, _, _], _ => rfl⟩
theorem st_evaluated (S : Sv g) (v : Ev g k t) : PFn g (k + 1 + 1) "evaluated" 3 (tbS t).evaluated := by
  obtain ⟨fa, fd, F, gm⟩ := S.d_evaluated
  exact ⟨fa, fd, ["function", "arguments", "limit"], fn_pure F sc_evaluated (b_evaluated S v), gm, F.kp, F.bindsN fun _ _ _ _ _ _ us hl => match us, hl with | [_, _, _], _ => rfl⟩
theorem st_check_arguments (S : Sv g) (v : Ev g k t) : PFn g (k + 1 + 1) "check_arguments" 2 (tbS t).check_arguments := by
  obtain ⟨fa, fd, F, gm, cc, P, hc, TB, hP⟩ := S.d_check_arguments
  exact ⟨fa, fd, ["function", "arguments"], fn_pure F sc_check_arguments (by rw [hc]; exact b_check_arguments S v TB hP), gm, F.kp, F.bindsN fun _ _ _ _ _ _ us hl => match us, hl with | [_, _], _ => rfl⟩
theorem st_value (S : Sv g) (v : Ev g k t) : PFk g (k + 1 + 1) "value" 2 1 ["limit"] (tbS t).value := by
  obtain ⟨fa, fd, F, gm⟩ := S.d_value
  refine ⟨fa, fd, ["function", "arguments", "limit"], fn_pure F sc_value (b_value S v), gm, F.kp, ⟨fun s us ws h hu hw => ?_, fun h1 h2 => h1.append h2⟩, rfl⟩
  obtain ⟨oc, od, dV, kV, doc, pm, an, cdv, ct, osl, rfl, lk, hcd, hD, hK⟩ := F.ex
  match us, hu, ws, hw with
  | [u0, u1], _, [w0], _ =>
    rcases hD with ⟨_, rfl⟩ | ⟨e, _⟩
    · exact BindsTo.of_eq rfl
    · exact absurd rfl e
theorem st_applications (S : Sv g) (v : Ev g k t) : PFk g (k + 1 + 1) "applications" 2 1 ["limit"] (tbS t).applications := by
  obtain ⟨fa, fd, F, gm⟩ := S.d_applications
  refine ⟨fa, fd, ["function", "arguments", "limit"], fn_pure F sc_applications (b_applications S v), gm, F.kp, ⟨fun s us ws h hu hw => ?_, fun h1 h2 => h1.append h2⟩, rfl⟩
  obtain ⟨oc, od, dV, kV, doc, pm, an, cdv, ct, osl, rfl, lk, hcd, hD, hK⟩ := F.ex
  match us, hu, ws, hw with
  | [u0, u1], _, [w0], _ =>
    rcases hD with ⟨_, rfl⟩ | ⟨e, _⟩
    · exact BindsTo.of_eq rfl
    · exact absurd rfl e
theorem st__law_cell (S : Sv g) (v : Ev g k t) : PFn g (k + 1 + 1) "_law_cell" 2 (tbS t)._law_cell := by
  obtain ⟨fa, fd, F, gm⟩ := S.d__law_cell
  exact ⟨fa, fd, ["_law_script", "_law_k"], fn_pure F sc__law_cell (b__law_cell S v), gm, F.kp, F.bindsN fun _ _ _ _ _ _ us hl => match us, hl with | [_, _], _ => rfl⟩
theorem st__law_draws (S : Sv g) (v : Ev g k t) : PFn g (k + 1 + 1) "_law_draws" 2 (tbS t)._law_draws := by
  obtain ⟨fa, fd, F, gm⟩ := S.d__law_draws
  exact ⟨fa, fd, ["_law_cell_here", "_law_count_here"], fn_pure F sc__law_draws (b__law_draws S v), gm, F.kp, F.bindsN fun _ _ _ _ _ _ us hl => match us, hl with | [_, _], _ => rfl⟩
theorem st__law_like (S : Sv g) (v : Ev g k t) : PFn g (k + 1 + 1) "_law_like" 2 (tbS t)._law_like := by
  obtain ⟨fa, fd, F, gm⟩ := S.d__law_like
  exact ⟨fa, fd, ["_law_actual", "_law_due"], fn_pure F sc__law_like (b__law_like S v), gm, F.kp, F.bindsN fun _ _ _ _ _ _ us hl => match us, hl with | [_, _], _ => rfl⟩
theorem st__law_fun (S : Sv g) (v : Ev g k t) : PFn g (k + 1 + 1) "_law_fun" 4 (tbS t)._law_fun := by
  obtain ⟨fa, fd, F, gm⟩ := S.d__law_fun
  exact ⟨fa, fd, ["_law_draws_here", "_law_at", "_law_many", "_law_deep_here"], fn_pure F sc__law_fun (b__law_fun S v), gm, F.kp, F.bindsN fun _ _ _ _ _ _ us hl => match us, hl with | [_, _, _, _], _ => rfl⟩
theorem st__law_pieces (S : Sv g) (v : Ev g k t) : PFn g (k + 1 + 1) "_law_pieces" 1 (tbS t)._law_pieces := by
  obtain ⟨fa, fd, F, gm⟩ := S.d__law_pieces
  exact ⟨fa, fd, ["_law_thing"], fn_pure F sc__law_pieces (b__law_pieces S v), gm, F.kp, F.bindsN fun _ _ _ _ _ _ us hl => match us, hl with | [_], _ => rfl⟩
theorem st__law_arity (S : Sv g) (v : Ev g k t) : PFn g (k + 1 + 1) "_law_arity" 1 (tbS t)._law_arity := by
  obtain ⟨fa, fd, F, gm⟩ := S.d__law_arity
  exact ⟨fa, fd, ["_law_thing"], fn_pure F sc__law_arity (b__law_arity S v), gm, F.kp, F.bindsN fun _ _ _ _ _ _ us hl => match us, hl with | [_], _ => rfl⟩
theorem st__law_deep (S : Sv g) (v : Ev g k t) : PFn g (k + 1 + 1) "_law_deep" 1 (tbS t)._law_deep := by
  obtain ⟨fa, fd, F, gm⟩ := S.d__law_deep
  exact ⟨fa, fd, ["_law_thing"], fn_pure F sc__law_deep (b__law_deep S v), gm, F.kp, F.bindsN fun _ _ _ _ _ _ us hl => match us, hl with | [_], _ => rfl⟩
theorem st__law_count (S : Sv g) (v : Ev g k t) : PFn g (k + 1 + 1) "_law_count" 1 (tbS t)._law_count := by
  obtain ⟨fa, fd, F, gm⟩ := S.d__law_count
  exact ⟨fa, fd, ["_law_thing"], fn_pure F sc__law_count (b__law_count S v), gm, F.kp, F.bindsN fun _ _ _ _ _ _ us hl => match us, hl with | [_], _ => rfl⟩
theorem st__law_fits_well (S : Sv g) (v : Ev g k t) : PFn g (k + 1 + 1) "_law_fits_well" 1 (tbS t)._law_fits_well := by
  obtain ⟨fa, fd, F, gm⟩ := S.d__law_fits_well
  exact ⟨fa, fd, ["_law_thing"], fn_pure F sc__law_fits_well (b__law_fits_well S v), gm, F.kp, F.bindsN fun _ _ _ _ _ _ us hl => match us, hl with | [_], _ => rfl⟩
theorem st__law_is_fun (S : Sv g) (v : Ev g k t) : PFn g (k + 1 + 1) "_law_is_fun" 1 (tbS t)._law_is_fun := by
  obtain ⟨fa, fd, F, gm⟩ := S.d__law_is_fun
  exact ⟨fa, fd, ["_law_thing"], fn_pure F sc__law_is_fun (b__law_is_fun S v), gm, F.kp, F.bindsN fun _ _ _ _ _ _ us hl => match us, hl with | [_], _ => rfl⟩
theorem st__law_apply (S : Sv g) (v : Ev g k t) : PFn g (k + 1 + 1) "_law_apply" 3 (tbS t)._law_apply := by
  obtain ⟨fa, fd, F, gm⟩ := S.d__law_apply
  exact ⟨fa, fd, ["_law_thing", "_law_arguments", "_law_left"], fn_pure F sc__law_apply (b__law_apply S v), gm, F.kp, F.bindsN fun _ _ _ _ _ _ us hl => match us, hl with | [_, _, _], _ => rfl⟩
theorem st__law_told (S : Sv g) (v : Ev g k t) : PFn g (k + 1 + 1) "_law_told" 4 (tbS t)._law_told := by
  obtain ⟨fa, fd, F, gm⟩ := S.d__law_told
  exact ⟨fa, fd, ["_law_thing", "_law_arguments", "_law_limit", "_law_way"], fn_pure F sc__law_told (b__law_told S v), gm, F.kp, F.bindsN fun _ _ _ _ _ _ us hl => match us, hl with | [_, _, _, _], _ => rfl⟩
theorem st_law (S : Sv g) (v : Ev g k t) : PFn g (k + 1 + 1) "law" 1 (tbS t).law := by
  obtain ⟨fa, fd, F, gm⟩ := S.d_law
  exact ⟨fa, fd, ["_law_script"], fn_pure F sc_law (b_law S v), gm, F.kp, F.bindsN fun _ _ _ _ _ _ us hl => match us, hl with | [_], _ => rfl⟩
theorem z_parts (S : Sv g) : PFn g 0 "parts" 1 tb0.parts := by
  obtain ⟨fa, fd, F, gm⟩ := S.d_parts
  exact ⟨fa, fd, ["function"], fn_none (spP_none fun _ => rfl), gm, F.kp, F.bindsN fun _ _ _ _ _ _ us hl => match us, hl with | [_], _ => rfl⟩
theorem z_depth (S : Sv g) : PFn g 0 "depth" 1 tb0.depth := by
  obtain ⟨fa, fd, F, gm⟩ := S.d_depth
  exact ⟨fa, fd, ["function"], fn_none (spP_none fun _ => rfl), gm, F.kp, F.bindsN fun _ _ _ _ _ _ us hl => match us, hl with | [_], _ => rfl⟩
theorem z_count_parts (S : Sv g) : PFn g 0 "count_parts" 1 tb0.count_parts := by
  obtain ⟨fa, fd, F, gm⟩ := S.d_count_parts
  exact ⟨fa, fd, ["function"], fn_none (spP_none fun _ => rfl), gm, F.kp, F.bindsN fun _ _ _ _ _ _ us hl => match us, hl with | [_], _ => rfl⟩
theorem z_arity (S : Sv g) : PFn g 0 "arity" 1 tb0.arity := by
  obtain ⟨fa, fd, F, gm⟩ := S.d_arity
  exact ⟨fa, fd, ["function"], fn_none (spP_none fun _ => rfl), gm, F.kp, F.bindsN fun _ _ _ _ _ _ us hl => match us, hl with | [_], _ => rfl⟩
theorem z_has_right_arities (S : Sv g) : PFn g 0 "has_right_arities" 1 tb0.has_right_arities := by
  obtain ⟨fa, fd, F, gm, _⟩ := S.d_has_right_arities
  exact ⟨fa, fd, ["function"], fn_none (spP_none fun _ => rfl), gm, F.kp, F.bindsN fun _ _ _ _ _ _ us hl => match us, hl with | [_], _ => rfl⟩
theorem z_is_function (S : Sv g) : PFn g 0 "is_function" 1 tb0.is_function := by
  obtain ⟨fa, fd, F, gm⟩ := S.d_is_function
  exact ⟨fa, fd, ["thing"], fn_none (spP_none fun _ => rfl), gm, F.kp, F.bindsN fun _ _ _ _ _ _ us hl => match us, hl with | [_], _ => rfl⟩
theorem z_Evaluation_init (S : Sv g) : CFn g 0 "Evaluation" 2 tb0.Evaluation_init := by
  obtain ⟨fa, fd, F, gm, gc⟩ := S.d_Evaluation_init
  exact ⟨fa, fd, ["self", "limit"], fn_none (spI_none fun _ _ => rfl), gm, gc, F.bindsN fun _ _ _ _ _ _ us hl => match us, hl with | [_, _], _ => rfl⟩
theorem z_Evaluation_apply (S : Sv g) : MFn g 0 "Evaluation" "apply" 3 tb0.Evaluation_apply := by
  obtain ⟨fa, fd, F, gm⟩ := S.d_Evaluation_apply
  exact ⟨fa, fd, ["self", "function", "arguments"], fn_none (spI_none fun _ _ => rfl), gm, F.bindsN fun _ _ _ _ _ _ us hl => match us, hl with | [_, _, _], _ => rfl⟩
theorem z_Evaluation_repeat (S : Sv g) : MFn g 0 "Evaluation" "repeat" 4 tb0.Evaluation_repeat := by
  obtain ⟨fa, fd, F, gm⟩ := S.d_Evaluation_repeat
  exact ⟨fa, fd, ["self", "function", "count", "rest"], fn_none (spI_none fun _ _ => rfl), gm, F.bindsN fun _ _ _ _ _ _ us hl => match us, hl with | [_, _, _, _], _ => rfl⟩
theorem z_evaluated (S : Sv g) : PFn g 0 "evaluated" 3 tb0.evaluated := by
  obtain ⟨fa, fd, F, gm⟩ := S.d_evaluated
  exact ⟨fa, fd, ["function", "arguments", "limit"], fn_none (spP_none fun _ => rfl), gm, F.kp, F.bindsN fun _ _ _ _ _ _ us hl => match us, hl with | [_, _, _], _ => rfl⟩
theorem z_check_arguments (S : Sv g) : PFn g 0 "check_arguments" 2 tb0.check_arguments := by
  obtain ⟨fa, fd, F, gm, _⟩ := S.d_check_arguments
  exact ⟨fa, fd, ["function", "arguments"], fn_none (spP_none fun _ => rfl), gm, F.kp, F.bindsN fun _ _ _ _ _ _ us hl => match us, hl with | [_, _], _ => rfl⟩
theorem z_value (S : Sv g) : PFk g 0 "value" 2 1 ["limit"] tb0.value := by
  obtain ⟨fa, fd, F, gm⟩ := S.d_value
  refine ⟨fa, fd, ["function", "arguments", "limit"], fn_none (spP_none fun _ => rfl), gm, F.kp, ⟨fun s us ws h hu hw => ?_, fun h1 h2 => h1.append h2⟩, rfl⟩
  obtain ⟨oc, od, dV, kV, doc, pm, an, cdv, ct, osl, rfl, lk, hcd, hD, hK⟩ := F.ex
  match us, hu, ws, hw with
  | [u0, u1], _, [w0], _ =>
    rcases hD with ⟨_, rfl⟩ | ⟨e, _⟩
    · exact BindsTo.of_eq rfl
    · exact absurd rfl e
theorem z_applications (S : Sv g) : PFk g 0 "applications" 2 1 ["limit"] tb0.applications := by
  obtain ⟨fa, fd, F, gm⟩ := S.d_applications
  refine ⟨fa, fd, ["function", "arguments", "limit"], fn_none (spP_none fun _ => rfl), gm, F.kp, ⟨fun s us ws h hu hw => ?_, fun h1 h2 => h1.append h2⟩, rfl⟩
  obtain ⟨oc, od, dV, kV, doc, pm, an, cdv, ct, osl, rfl, lk, hcd, hD, hK⟩ := F.ex
  match us, hu, ws, hw with
  | [u0, u1], _, [w0], _ =>
    rcases hD with ⟨_, rfl⟩ | ⟨e, _⟩
    · exact BindsTo.of_eq rfl
    · exact absurd rfl e
theorem z__law_cell (S : Sv g) : PFn g 0 "_law_cell" 2 tb0._law_cell := by
  obtain ⟨fa, fd, F, gm⟩ := S.d__law_cell
  exact ⟨fa, fd, ["_law_script", "_law_k"], fn_none (spP_none fun _ => rfl), gm, F.kp, F.bindsN fun _ _ _ _ _ _ us hl => match us, hl with | [_, _], _ => rfl⟩
theorem z__law_draws (S : Sv g) : PFn g 0 "_law_draws" 2 tb0._law_draws := by
  obtain ⟨fa, fd, F, gm⟩ := S.d__law_draws
  exact ⟨fa, fd, ["_law_cell_here", "_law_count_here"], fn_none (spP_none fun _ => rfl), gm, F.kp, F.bindsN fun _ _ _ _ _ _ us hl => match us, hl with | [_, _], _ => rfl⟩
theorem z__law_like (S : Sv g) : PFn g 0 "_law_like" 2 tb0._law_like := by
  obtain ⟨fa, fd, F, gm⟩ := S.d__law_like
  exact ⟨fa, fd, ["_law_actual", "_law_due"], fn_none (spP_none fun _ => rfl), gm, F.kp, F.bindsN fun _ _ _ _ _ _ us hl => match us, hl with | [_, _], _ => rfl⟩
theorem z__law_fun (S : Sv g) : PFn g 0 "_law_fun" 4 tb0._law_fun := by
  obtain ⟨fa, fd, F, gm⟩ := S.d__law_fun
  exact ⟨fa, fd, ["_law_draws_here", "_law_at", "_law_many", "_law_deep_here"], fn_none (spP_none fun _ => rfl), gm, F.kp, F.bindsN fun _ _ _ _ _ _ us hl => match us, hl with | [_, _, _, _], _ => rfl⟩
theorem z__law_pieces (S : Sv g) : PFn g 0 "_law_pieces" 1 tb0._law_pieces := by
  obtain ⟨fa, fd, F, gm⟩ := S.d__law_pieces
  exact ⟨fa, fd, ["_law_thing"], fn_none (spP_none fun _ => rfl), gm, F.kp, F.bindsN fun _ _ _ _ _ _ us hl => match us, hl with | [_], _ => rfl⟩
theorem z__law_arity (S : Sv g) : PFn g 0 "_law_arity" 1 tb0._law_arity := by
  obtain ⟨fa, fd, F, gm⟩ := S.d__law_arity
  exact ⟨fa, fd, ["_law_thing"], fn_none (spP_none fun _ => rfl), gm, F.kp, F.bindsN fun _ _ _ _ _ _ us hl => match us, hl with | [_], _ => rfl⟩
theorem z__law_deep (S : Sv g) : PFn g 0 "_law_deep" 1 tb0._law_deep := by
  obtain ⟨fa, fd, F, gm⟩ := S.d__law_deep
  exact ⟨fa, fd, ["_law_thing"], fn_none (spP_none fun _ => rfl), gm, F.kp, F.bindsN fun _ _ _ _ _ _ us hl => match us, hl with | [_], _ => rfl⟩
theorem z__law_count (S : Sv g) : PFn g 0 "_law_count" 1 tb0._law_count := by
  obtain ⟨fa, fd, F, gm⟩ := S.d__law_count
  exact ⟨fa, fd, ["_law_thing"], fn_none (spP_none fun _ => rfl), gm, F.kp, F.bindsN fun _ _ _ _ _ _ us hl => match us, hl with | [_], _ => rfl⟩
theorem z__law_fits_well (S : Sv g) : PFn g 0 "_law_fits_well" 1 tb0._law_fits_well := by
  obtain ⟨fa, fd, F, gm⟩ := S.d__law_fits_well
  exact ⟨fa, fd, ["_law_thing"], fn_none (spP_none fun _ => rfl), gm, F.kp, F.bindsN fun _ _ _ _ _ _ us hl => match us, hl with | [_], _ => rfl⟩
theorem z__law_is_fun (S : Sv g) : PFn g 0 "_law_is_fun" 1 tb0._law_is_fun := by
  obtain ⟨fa, fd, F, gm⟩ := S.d__law_is_fun
  exact ⟨fa, fd, ["_law_thing"], fn_none (spP_none fun _ => rfl), gm, F.kp, F.bindsN fun _ _ _ _ _ _ us hl => match us, hl with | [_], _ => rfl⟩
theorem z__law_apply (S : Sv g) : PFn g 0 "_law_apply" 3 tb0._law_apply := by
  obtain ⟨fa, fd, F, gm⟩ := S.d__law_apply
  exact ⟨fa, fd, ["_law_thing", "_law_arguments", "_law_left"], fn_none (spP_none fun _ => rfl), gm, F.kp, F.bindsN fun _ _ _ _ _ _ us hl => match us, hl with | [_, _, _], _ => rfl⟩
theorem z__law_told (S : Sv g) : PFn g 0 "_law_told" 4 tb0._law_told := by
  obtain ⟨fa, fd, F, gm⟩ := S.d__law_told
  exact ⟨fa, fd, ["_law_thing", "_law_arguments", "_law_limit", "_law_way"], fn_none (spP_none fun _ => rfl), gm, F.kp, F.bindsN fun _ _ _ _ _ _ us hl => match us, hl with | [_, _, _, _], _ => rfl⟩
theorem z_law (S : Sv g) : PFn g 0 "law" 1 tb0.law := by
  obtain ⟨fa, fd, F, gm⟩ := S.d_law
  exact ⟨fa, fd, ["_law_script"], fn_none (spP_none fun _ => rfl), gm, F.kp, F.bindsN fun _ _ _ _ _ _ us hl => match us, hl with | [_], _ => rfl⟩
/-- every level of the table is kept -/
theorem ev (S : Sv g) : ∀ n, Ev g (2 * n) (tb n)
  | 0 => ⟨z_parts S, z_depth S, z_count_parts S, z_arity S, z_has_right_arities S, z_is_function S, z_Evaluation_init S, z_Evaluation_apply S, z_Evaluation_repeat S, z_evaluated S, z_check_arguments S, z_value S, z_applications S, z__law_cell S, z__law_draws S, z__law_like S, z__law_fun S, z__law_pieces S, z__law_arity S, z__law_deep S, z__law_count S, z__law_fits_well S, z__law_is_fun S, z__law_apply S, z__law_told S, z_law S⟩
  | n + 1 => have v := ev S n; ⟨st_parts S v, st_depth S v, st_count_parts S v, st_arity S v, st_has_right_arities S v, st_is_function S v, st_Evaluation_init S v, st_Evaluation_apply S v, st_Evaluation_repeat S v, st_evaluated S v, st_check_arguments S v, st_value S v, st_applications S v, st__law_cell S v, st__law_draws S v, st__law_like S v, st__law_fun S v, st__law_pieces S v, st__law_arity S v, st__law_deep S v, st__law_count S v, st__law_fits_well S v, st__law_is_fun S v, st__law_apply S v, st__law_told S v, st_law S v⟩
end
end K61

set_option Elab.async false
set_option linter.all false
set_option maxRecDepth 100000
set_option maxHeartbeats 4000000
/-! DLH: a head's hook that also looks at classes of SupX. -/
namespace PySem
namespace SupX
open PySem.W PySem.Calls PyProof.Rows PySem.HandSPX
/-- such a class: its name, the text, the parameter, the places -/
structure Dt where
  (nm pre par qual file : Str) (p1 p2 : Pos) (q : Ps)
abbrev FnC : Type := Option (Str × Str × Arguments × FuncBody × Scope × Addr × List Str × Addr)
def Dt.val (d : Dt) : FnC := some ("__init__", d.qual, sArgs d.par d.p1 d.p2, .stmts (sBody d.pre d.par d.q), sScope d.par, mainGlobals, ["__class__"], builtinsNs)
def obsC (K : Frag) (d : Dt) : FnC := match K.lookup (He.ma K (He.ga K d.nm) "__init__") with
  | some ⟨_, _, .func fd, _⟩ => some (fd.name, fd.qualname, fd.params, fd.body, fd.scope, fd.globals, fd.closure.map (·.1), fd.builtins)
  | _ => none
def isV (a b : Value) : Bool := decide (a = b)
def clsB (K : Frag) (C : Addr) : Bool := match K.lookup C with
  | some ⟨.type "type", _, .cls cd, sl⟩ => (match cd.mro, sl.toList with
    | .ref C' :: bm, [_, _, _, _, some (.builtin n), _] => C' == C && (n == "ValueError.__new__" && (!cd.hasDel && (cd.hasDict && refsVE bm)))
    | _, _ => false)
  | _ => false
def codB (K : Frag) (cda : Addr) (file : Str) : Bool := match K.lookup cda with
  | some ⟨_, _, .fields vs, _⟩ => (match (vs[2]? : Option Value) with
    | some (.str f _) => decide (f = file)
    | _ => false)
  | _ => false
def celB (K : Frag) (cc C : Addr) : Bool := match K.lookup cc with
  | some ⟨_, _, .cell (some (.ref C')), _⟩ => C' == C
  | _ => false
def cfB (K : Frag) (C : Addr) (qual file : Str) : Value → List (Str × Addr) → Bool
  | .ref cda, [(_, cc)] => codeIn K (.ref cda) qual && (codB K cda file && celB K cc C)
  | _, _ => false
theorem cf_of {K : Frag} {C : Addr} {qual file : Str} {cd : Value} {cl : List (Str × Addr)} (h : cfB K C qual file cd cl = true) : ∃ cda x cc, cd = .ref cda ∧ cl = [(x, cc)] ∧ codeIn K (.ref cda) qual = true ∧ codB K cda file = true ∧ celB K cc C = true := by
  unfold cfB at h
  split at h
  · obtain ⟨k3, q5⟩ := He.ba h
    obtain ⟨k4, k5⟩ := He.ba q5
    exact ⟨_, _, _, rfl, rfl, k3, k4, k5⟩
  · cases h
def fnB (K : Frag) (f C : Addr) (qual file : Str) : Bool := match K.lookup f with
  | some ⟨_, _, .func fd, _⟩ => isV fd.defaults .none && (isV fd.kwdefaults .none && cfB K C qual file fd.code fd.closure)
  | _ => false
def okB (K : Frag) (d : Dt) : Bool :=
  clsB K (He.ga K d.nm) && (excInitIn K (He.ga K d.nm) [.type "ValueError", .type "Exception", .type "BaseException", .type "object"] "ValueError.__new__" && (He.eqO (nsIn K mainGlobals d.nm) (some (some (.ref (He.ga K d.nm)))) &&
  (He.eqO (nsIn K mainGlobals "super") (some none) && (He.eqO (nsIn K mainGlobals "str") (some none) && (He.eqO (findIn K (.ref (He.ga K d.nm)) "__setattr__") (some (some (.builtin "object.__setattr__"))) &&
  (He.eqO (findIn K (.ref (He.ga K d.nm)) "__getattribute__") (some (some (.builtin "BaseException.__getattribute__"))) && (He.eqO (findIn K (.ref (He.ga K d.nm)) "__getattr__") (some none) && (He.eqO (findIn K (.ref (He.ga K d.nm)) d.par) (some none) &&
  (keepIn K (.ref (He.ga K d.nm)) && (decide (subIn K (.ref (He.ga K d.nm)) (.type "BaseException") = some true) && (decide (subIn K (.ref (He.ga K d.nm)) (.type "ValueError") = some true) && (decide (typeIn K (.ref (He.ga K d.nm)) = some (.type "type")) &&
  (hasDictIn K (He.ga K d.nm) && (decide (mroIn K (He.ga K d.nm) (.ref (He.ga K d.nm)) = some true) && (He.eqO (nsIn K cStatics "thirdparty.any") (some none) && (He.eqO (ks_superIn K (He.ga K d.nm) (He.ga K d.nm) "__init__") (some (some (.builtin "ValueError.__init__"))) &&
  (He.eqO (findIn K (.ref (He.ga K d.nm)) "__init__") (some (some (.ref (He.ma K (He.ga K d.nm) "__init__")))) && (decide (typeIn K (.ref (He.ma K (He.ga K d.nm) "__init__")) = some (.type "function")) && fnB K (He.ma K (He.ga K d.nm) "__init__") (He.ga K d.nm) d.qual d.file))))))))))))))))))
theorem cls_of {K : Frag} {C : Addr} (q : clsB K C = true) : ∃ nm q N bs bm sn sub ab col dd k0 k1 k2 k3 k5, K.lookup C = some (excClassObj nm q C N bs bm true sn sub ab col dd k0 k1 k2 k3 k5 "ValueError.__new__") ∧ refsVE bm = true := by
  unfold clsB at q
  split at q
  · rename_i dd cd sl ho
    split at q
    · rename_i C' bm k0 k1 k2 k3 n k5 hm hs
      simp only [Bool.and_eq_true, beq_iff_eq, Bool.not_eq_true'] at q
      obtain ⟨rfl, rfl, hdel, hd, ht⟩ := q
      obtain ⟨nm, bs, mro, ns, qn, hd', sn, sub, ab, col, del⟩ := cd
      dsimp only at hm hdel hd
      subst hm hdel hd
      have hsl : sl = #[k0, k1, k2, k3, some (.builtin "ValueError.__new__"), k5] := by
        obtain ⟨l⟩ := sl
        simp only at hs
        rw [hs]
      subst hsl
      exact ⟨nm, qn, ns, bs, bm, sn, sub, ab, col, dd, k0, k1, k2, k3, k5, ho, ht⟩
    · cases q
  · cases q
theorem cod_of {K : Frag} {cda : Addr} {file : Str} (q : codB K cda file = true) : ∃ ccl cdd vs ccs tf, K.lookup cda = some ⟨ccl, cdd, .fields vs, ccs⟩ ∧ vs[2]? = some (.str file tf) := by
  unfold codB at q
  split at q
  · rename_i ccl cdd vs ccs ho
    split at q
    · rename_i f tf hv
      rw [of_decide_eq_true q] at hv
      exact ⟨ccl, cdd, vs, ccs, tf, ho, hv⟩
    · cases q
  · cases q
theorem cel_of {K : Frag} {cc C : Addr} (q : celB K cc C = true) : ∃ cl cld csl, K.lookup cc = some ⟨cl, cld, .cell (some (.ref C)), csl⟩ := by
  unfold celB at q
  split at q
  · rename_i cl cld C' csl ho
    rw [beq_iff_eq.mp q] at ho
    exact ⟨cl, cld, csl, ho⟩
  · cases q
theorem fn_of' {K : Frag} {C : Addr} {d : Dt} (q : fnB K (He.ma K (He.ga K d.nm) "__init__") C d.qual d.file = true) (e : obsC K d = d.val) :
    ∃ (oc : Value) (od : Option Addr) (doc pm : Value) (an : Option Addr) (cda cc : Addr) (ct : Value) (osl : Array (Option Value)) (ccl cl : Value) (cdd cld : Option Addr) (ccs csl : Array (Option Value)) (vs : Array Value) (tf : Tok),
    K.lookup (He.ma K (He.ga K d.nm) "__init__") = some ⟨oc, od, .func (ksFn "__init__" d.qual (sArgs d.par d.p1 d.p2) (sBody d.pre d.par d.q) (sScope d.par) .none .none doc pm an (.ref cda) ct cc), osl⟩ ∧ codeIn K (.ref cda) d.qual = true ∧
    K.lookup cda = some ⟨ccl, cdd, .fields vs, ccs⟩ ∧ vs[2]? = some (.str d.file tf) ∧ K.lookup cc = some ⟨cl, cld, .cell (some (.ref C)), csl⟩ := by
  unfold fnB at q
  unfold obsC at e
  cases ho : K.lookup (He.ma K (He.ga K d.nm) "__init__") with
  | none => rw [ho] at q; cases q
  | some o =>
    obtain ⟨oc, od, dt, osl⟩ := o
    rw [ho] at q e
    cases dt with
    | func fd =>
      obtain ⟨n1, n2, n3, n4, n5, n6, n7, n8, n9, n10, n11, n12, n13, n14, n15⟩ := fd
      have e2 : (some (n1, n2, n3, n4, n5, n6, n7.map (·.1), n15) : FnC) = d.val := e
      unfold Dt.val at e2
      simp only [Option.some.injEq, Prod.mk.injEq] at e2
      obtain ⟨h1, h2, h3, h4, h5, h6, h7, h8⟩ := e2
      have q2 : (isV n8 .none && (isV n9 .none && cfB K C d.qual d.file n13 n7)) = true := q
      obtain ⟨k1, q3⟩ := He.ba q2
      obtain ⟨k2, q4⟩ := He.ba q3
      have k1 := of_decide_eq_true k1
      have k2 := of_decide_eq_true k2
      obtain ⟨cda, x, cc, rfl, rfl, k3, k4, k5⟩ := cf_of q4
      have hx : x = "__class__" := by simpa using h7
      subst h1 h2 h3 h4 h5 h6 h8 k1 k2 hx
      obtain ⟨ccl, cdd, vs, ccs, tf, a1, a2⟩ := cod_of k4
      obtain ⟨cl, cld, csl, a3⟩ := cel_of k5
      exact ⟨oc, od, n10, n11, n12, cda, cc, n14, osl, ccl, cl, cdd, cld, ccs, csl, vs, tf, rfl, k3, a1, a2, a3⟩
    | _ => cases q
theorem txt_of {P : Program} {K : Frag} {h : Heap} {mg : Str → Option Value} {d : Dt} (X : K.In h) (G : h.Ns mainGlobals mg) (q : okB K d = true) (e : obsC K d = d.val) (ht : (P.main.scope.names.lookup ("super" : Str)).isSome = false) (hf : ((P.main.file : Str) == d.file) = true) :
    Txt P K mg d.nm d.pre d.par d.p1 d.p2 d.q (He.ga K d.nm) := by
  unfold okB at q
  obtain ⟨c1, q⟩ := He.ba q
  obtain ⟨c2, q⟩ := He.ba q
  obtain ⟨c3, q⟩ := He.ba q
  obtain ⟨c4, q⟩ := He.ba q
  obtain ⟨c5, q⟩ := He.ba q
  obtain ⟨c6, q⟩ := He.ba q
  obtain ⟨c7, q⟩ := He.ba q
  obtain ⟨c8, q⟩ := He.ba q
  obtain ⟨c9, q⟩ := He.ba q
  obtain ⟨c10, q⟩ := He.ba q
  obtain ⟨c11, q⟩ := He.ba q
  obtain ⟨c12, q⟩ := He.ba q
  obtain ⟨c13, q⟩ := He.ba q
  obtain ⟨c14, q⟩ := He.ba q
  obtain ⟨c15, q⟩ := He.ba q
  obtain ⟨c16, q⟩ := He.ba q
  obtain ⟨c17, q⟩ := He.ba q
  obtain ⟨c18, q⟩ := He.ba q
  obtain ⟨c19, c20⟩ := He.ba q
  obtain ⟨oc, od, doc, pm, an, cda, cc, ct, osl, ccl, cl, cdd, cld, ccs, csl, vs, tf, a1, a2, a3, a4, a5⟩ := fn_of' c20 e
  exact ⟨mg_of X G (He.eqO_ok c3), ht, mg_none_of X G (He.eqO_ok c4), mg_none_of X G (He.eqO_ok c5), cls_of c1, c2, He.eqO_ok c6, He.eqO_ok c7, He.eqO_ok c8, He.eqO_ok c9, c10, of_decide_eq_true c11, of_decide_eq_true c12, of_decide_eq_true c13, c14, of_decide_eq_true c15, He.eqO_ok c16, He.eqO_ok c17,
    ⟨_, oc, od, d.qual, doc, pm, an, cda, cc, ct, osl, ccl, cl, cdd, cld, ccs, csl, vs, d.file, tf, He.eqO_ok c18, of_decide_eq_true c19, a1, a2, a3, a4, hf, a5⟩⟩
end SupX
end PySem
namespace DLH
open PySem PySem.Spec PyProof.Rows L2 He
def asY (g : Addr → Option Obj) (n : Nat) : List Addr := He.asD g n ++ [cStatics]
abbrev AlY : Type := He.AlX × List SupX.FnC
def obsY (n : Nat) (fa : List Fa) (fn : List DefD) (ts : List Tab) (tf : List Defn) (ex : PySem.W.Frag → Bool) (su : List SupX.Dt) (g : Addr → Option Obj) : AlY :=
  ((obsT fa fn ts (frT g (asY g n)), (ex (frT g (asY g n)) && su.all (SupX.okB (frT g (asY g n)))) && tabsB g tf (frT g (asY g n))), su.map (SupX.obsC (frT g (asY g n))))
def valY (fn : List DefD) (ts : List Tab) (su : List SupX.Dt) (w : World) : AlY := (valX fn ts w, su.map SupX.Dt.val)
structure SaysY (fa : List Fa) (fn : List DefD) (ts : List Tab) (tf : List Defn) (ex : PySem.W.Frag → Bool) (su : List SupX.Dt) (w : World) (h : Heap) (K : PySem.W.Frag) : Prop where
  x : SaysX fa fn ts tf ex w h K
  ok : ∀ d ∈ su, SupX.okB K d = true
  eq : ∀ d ∈ su, SupX.obsC K d = d.val
theorem saysY_of {n : Nat} {fa : List Fa} {fn : List DefD} {ts : List Tab} {tf : List Defn} {ex : PySem.W.Frag → Bool} {su : List SupX.Dt} {w : World} {h : Heap} (e : obsY n fa fn ts tf ex su h.get? = valY fn ts su w) : SaysY fa fn ts tf ex su w h (frT h.get? (asY h.get? n)) := by
  have e1 : obsT fa fn ts (frT h.get? (asY h.get? n)) = valT fn ts w := congrArg (fun z : AlY => z.1.1) e
  have e2 : ((ex (frT h.get? (asY h.get? n)) && su.all (SupX.okB (frT h.get? (asY h.get? n)))) && tabsB h.get? tf (frT h.get? (asY h.get? n))) = true := congrArg (fun z : AlY => z.1.2) e
  have e3 : su.map (SupX.obsC (frT h.get? (asY h.get? n))) = su.map SupX.Dt.val := congrArg (fun z : AlY => z.2) e
  obtain ⟨h0, h2⟩ := ba e2
  obtain ⟨h1, h9⟩ := ba h0
  have key : ∀ p ∈ tf, PySem.W.codeHdIn (frT h.get? (asY h.get? n)) (cT (frT h.get? (asY h.get? n)) p).1 (cT (frT h.get? (asY h.get? n)) p).2 = true ∧ ∃ o, h.get? (cT (frT h.get? (asY h.get? n)) p).2 = some o ∧ emptyTab o = true := fun p hp => by
    obtain ⟨h3, h4⟩ := ba (List.all_eq_true.mp h2 p hp)
    refine ⟨h3, ?_⟩
    cases q : h.get? (cT (frT h.get? (asY h.get? n)) p).2 with
    | none => rw [q] at h4; cases h4
    | some o => rw [q] at h4; exact ⟨o, rfl, h4⟩
  refine ⟨⟨e1, h1, fun p hp => (key p hp).1, fun p hp => ?_, fun p hp => ?_⟩, fun d hd => List.all_eq_true.mp h9 d hd, fun d hd => ?_⟩
  · obtain ⟨_, o, q, z⟩ := key p hp
    exact frT_none q z
  · obtain ⟨_, o, q, z⟩ := key p hp
    rw [q, emptyTab_eq z]
  · exact List.map_inj_left.mp e3 d hd
def hookY (n : Nat) (fa : List Fa) (fn : List DefD) (ts : List Tab) (tf : List Defn) (ex : PySem.W.Frag → Bool) (su : List SupX.Dt) : PySem.W.Hook where
  α := AlY
  obs := fun s => obsY n fa fn ts tf ex su s.heap.get?
  val := fun w => valY fn ts su w
  says := fun w h => ∃ K : PySem.W.Frag, K.In h ∧ SaysY fa fn ts tf ex su w h K
  of := fun _ _ e => ⟨_, frT_in, saysY_of e⟩
  keeps := fun _ _ _ ⟨K, hK, c⟩ k => ⟨K, PySem.W.Frag.In.keeps hK k, ⟨⟨c.x.t, c.x.more, c.x.hd, c.x.out, fun p hp => k _ _ (c.x.empty p hp)⟩, c.ok, c.eq⟩⟩
theorem obsY_eq {n : Nat} {fa : List Fa} {fn : List DefD} {ts : List Tab} {tf : List Defn} {ex : PySem.W.Frag → Bool} {su : List SupX.Dt} {g : Addr → Option Obj} {s : Shared} (h : ∀ a, g a = s.heap.get? a) : obsY n fa fn ts tf ex su g = (hookY n fa fn ts tf ex su).obs s := by
  have e : g = s.heap.get? := funext h
  rw [e] <;> rfl
end DLH

set_option Elab.async false
set_option linter.all false
set_option maxRecDepth 100000
set_option maxHeartbeats 0
/-! printed by gen.py: the head. -/
namespace K61
open PySem PySem.Spec PyProof.Rows L2 DL
def hfa : List He.Fa := [.free "abs", .free "all", .free "any", .free "bool", .free "int", .free "isinstance", .free "len", .free "list", .free "max", .free "range", .free "str", .free "sum", .free "tuple", .int "MOST_ARITY" 6, .int "MOST_DEPTH" 12, .int "MOST_PARTS" 200, .glo "InvalidFunction", .exc "InvalidFunction", .glo "BadArgument", .exc "BadArgument", .exm "TooLong" "TooLong" true, .exm "InvalidFunction" "TooLong" false, .exm "BadArgument" "TooLong" false, .glo "Evaluation", .cls "Evaluation", .mkr "Evaluation", .noat "Evaluation" "limit", .noat "Evaluation" "count", .glo "parts", .glo "depth", .glo "count_parts", .glo "arity", .glo "has_right_arities", .glo "is_function", .meth "Evaluation" "apply", .meth "Evaluation" "repeat", .glo "evaluated", .glo "check_arguments", .glo "value", .glo "applications", .glo "_law_cell", .glo "_law_draws", .glo "_law_like", .glo "_law_fun", .glo "_law_pieces", .glo "_law_arity", .glo "_law_deep", .glo "_law_count", .glo "_law_fits_well", .glo "_law_is_fun", .glo "_law_apply", .glo "_law_told", .glo "law"]
def hd0 : He.DefD := ⟨("parts", none), "parts", "parts", defArgs (top 9), defBody (top 9), defScope (top 9), [], []⟩
def hd1 : He.DefD := ⟨("depth", none), "depth", "depth", defArgs (top 10), defBody (top 10), defScope (top 10), [], []⟩
def hd2 : He.DefD := ⟨("count_parts", none), "count_parts", "count_parts", defArgs (top 11), defBody (top 11), defScope (top 11), [], []⟩
def hd3 : He.DefD := ⟨("arity", none), "arity", "arity", defArgs (top 12), defBody (top 12), defScope (top 12), [], []⟩
def hd4 : He.DefD := ⟨("has_right_arities", none), "has_right_arities", "has_right_arities", defArgs (top 13), defBody (top 13), defScope (top 13), [], []⟩
def hd5 : He.DefD := ⟨("is_function", none), "is_function", "is_function", defArgs (top 14), defBody (top 14), defScope (top 14), [], []⟩
def hd6 : He.DefD := ⟨("Evaluation", some "__init__"), "__init__", "Evaluation.__init__", defArgs (inClass (top 15) 0), defBody (inClass (top 15) 0), defScope (inClass (top 15) 0), [], []⟩
def hd7 : He.DefD := ⟨("Evaluation", some "apply"), "apply", "Evaluation.apply", defArgs (inClass (top 15) 1), defBody (inClass (top 15) 1), defScope (inClass (top 15) 1), [], []⟩
def hd8 : He.DefD := ⟨("Evaluation", some "repeat"), "repeat", "Evaluation.repeat", defArgs (inClass (top 15) 2), defBody (inClass (top 15) 2), defScope (inClass (top 15) 2), [], []⟩
def hd9 : He.DefD := ⟨("evaluated", none), "evaluated", "evaluated", defArgs (top 16), defBody (top 16), defScope (top 16), [], []⟩
def hd10 : He.DefD := ⟨("check_arguments", none), "check_arguments", "check_arguments", defArgs (top 17), defBody (top 17), defScope (top 17), [], []⟩
def hd11 : He.DefD := ⟨("value", none), "value", "value", defArgs (top 18), defBody (top 18), defScope (top 18), [], [("limit", .int 100000)]⟩
def hd12 : He.DefD := ⟨("applications", none), "applications", "applications", defArgs (top 19), defBody (top 19), defScope (top 19), [], [("limit", .int 100000)]⟩
def hd13 : He.DefD := ⟨("_law_cell", none), "_law_cell", "_law_cell", defArgs (top 21), defBody (top 21), defScope (top 21), [], []⟩
def hd14 : He.DefD := ⟨("_law_draws", none), "_law_draws", "_law_draws", defArgs (top 22), defBody (top 22), defScope (top 22), [], []⟩
def hd15 : He.DefD := ⟨("_law_like", none), "_law_like", "_law_like", defArgs (top 23), defBody (top 23), defScope (top 23), [], []⟩
def hd16 : He.DefD := ⟨("_law_fun", none), "_law_fun", "_law_fun", defArgs (top 24), defBody (top 24), defScope (top 24), [], []⟩
def hd17 : He.DefD := ⟨("_law_pieces", none), "_law_pieces", "_law_pieces", defArgs (top 25), defBody (top 25), defScope (top 25), [], []⟩
def hd18 : He.DefD := ⟨("_law_arity", none), "_law_arity", "_law_arity", defArgs (top 26), defBody (top 26), defScope (top 26), [], []⟩
def hd19 : He.DefD := ⟨("_law_deep", none), "_law_deep", "_law_deep", defArgs (top 27), defBody (top 27), defScope (top 27), [], []⟩
def hd20 : He.DefD := ⟨("_law_count", none), "_law_count", "_law_count", defArgs (top 28), defBody (top 28), defScope (top 28), [], []⟩
def hd21 : He.DefD := ⟨("_law_fits_well", none), "_law_fits_well", "_law_fits_well", defArgs (top 29), defBody (top 29), defScope (top 29), [], []⟩
def hd22 : He.DefD := ⟨("_law_is_fun", none), "_law_is_fun", "_law_is_fun", defArgs (top 30), defBody (top 30), defScope (top 30), [], []⟩
def hd23 : He.DefD := ⟨("_law_apply", none), "_law_apply", "_law_apply", defArgs (top 31), defBody (top 31), defScope (top 31), [], []⟩
def hd24 : He.DefD := ⟨("_law_told", none), "_law_told", "_law_told", defArgs (top 32), defBody (top 32), defScope (top 32), [], []⟩
def hd25 : He.DefD := ⟨("law", none), "law", "law", defArgs (top 33), defBody (top 33), defScope (top 33), [], []⟩
def hfn : List He.DefD := [hd0, hd1, hd2, hd3, hd4, hd5, hd6, hd7, hd8, hd9, hd10, hd11, hd12, hd13, hd14, hd15, hd16, hd17, hd18, hd19, hd20, hd21, hd22, hd23, hd24, hd25]
def htf : List He.Defn := [("has_right_arities", none), ("check_arguments", none)]
def su_TooLong : SupX.Dt := ⟨"TooLong", "more than ", "limit", "TooLong.__init__", "/claim/cut.py", pp_TooLong.1, pp_TooLong.2, ps_TooLong⟩
def hsu : List SupX.Dt := [su_TooLong]
abbrev hR : PySem.W.OpenRow := PySem.W.OpenLaw.row PySem.Challenge.rw_translatory_k61_values_and_applications
abbrev hk : PySem.W.Hook := DLH.hookY 5 hfa hfn [] htf (fun _ => true) hsu
def hob (s : PySem.W.SharedT) : DLH.AlY := DLH.obsY 5 hfa hfn [] htf (fun _ => true) hsu (HandSHeadRun.getT s)
theorem hob_eq (s : PySem.W.SharedT) : hob s = hk.obs s.abs := DLH.obsY_eq (HandSHeadRun.getT_eq s)
def hnames : List PySem.Str := ["TranslatoryError", "TooLong", "InvalidFunction", "BadArgument", "MOST_ARITY", "MOST_DEPTH", "MOST_PARTS", "parts", "depth", "count_parts", "arity", "has_right_arities", "is_function", "Evaluation", "evaluated", "check_arguments", "value", "applications", "_law_cell", "_law_draws", "_law_like", "_law_fun", "_law_pieces", "_law_arity", "_law_deep", "_law_count", "_law_fits_well", "_law_is_fun", "_law_apply", "_law_told"]
theorem run (w : World) : HandSHeadRun.RunEq hR (PySem.W.view hR.prog [33]) hk hob 3000 hnames w := by
  intro os
  kernel_rfl
/-- what the names are -/
abbrev gOf (K : PySem.W.Frag) (P : Program) (w : World) (mg : Str → Option Value) (base : Heap) : G := ⟨K, He.ga K, htf.map fun p => (He.cT K p).2, P, w, mg, base⟩
theorem code_ref {K : PySem.W.Frag} {x qual : Str} {params : Arguments} {body : List Stmt} {sc : Scope} {dvs : List V} {kws : List (Str × V)} {p : He.Defn} {fd : FuncData} (F : FunD K x qual params body sc dvs kws (He.fAd K p) fd) : fd.code = .ref (He.codeOf K p) := by
  obtain ⟨oc, od, dV, kV, doc, pm, an, cdv, ct, osl, rfl, lk, hcd, hD, hK⟩ := F.ex
  obtain ⟨c, hc⟩ := He.codeIn_ref hcd
  have hc2 : cdv = .ref c := hc
  subst hc2
  rw [He.codeOf_eq lk rfl]
theorem sv_of {P : Program} {w : World} {K : PySem.W.Frag} {h base : Heap} {mg : Str → Option Value} (X : K.In h) (G : h.Ns mainGlobals mg) (c : DLH.SaysY hfa hfn [] htf (fun _ => true) hsu w h K)
    (ht : (P.main.scope.names.lookup ("super" : Str)).isSome = false) (hf : ((P.main.file : Str) == ("/claim/cut.py" : Str)) = true) (TB : ∀ p ∈ htf.map (He.cT K), LamX.TabB base mg p.1 p.2) : Sv (gOf K P w mg base) where
  n_abs := He.free_ok X G (c.x.t.d.fact 0 (f := .free "abs") rfl)
  n_all := He.free_ok X G (c.x.t.d.fact 1 (f := .free "all") rfl)
  n_any := He.free_ok X G (c.x.t.d.fact 2 (f := .free "any") rfl)
  n_bool := He.free_ok X G (c.x.t.d.fact 3 (f := .free "bool") rfl)
  n_int := He.free_ok X G (c.x.t.d.fact 4 (f := .free "int") rfl)
  n_isinstance := He.free_ok X G (c.x.t.d.fact 5 (f := .free "isinstance") rfl)
  n_len := He.free_ok X G (c.x.t.d.fact 6 (f := .free "len") rfl)
  n_list := He.free_ok X G (c.x.t.d.fact 7 (f := .free "list") rfl)
  n_max := He.free_ok X G (c.x.t.d.fact 8 (f := .free "max") rfl)
  n_range := He.free_ok X G (c.x.t.d.fact 9 (f := .free "range") rfl)
  n_str := He.free_ok X G (c.x.t.d.fact 10 (f := .free "str") rfl)
  n_sum := He.free_ok X G (c.x.t.d.fact 11 (f := .free "sum") rfl)
  n_tuple := He.free_ok X G (c.x.t.d.fact 12 (f := .free "tuple") rfl)
  m_MOST_ARITY := let ⟨t, e⟩ := He.int_ok X G (c.x.t.d.fact 13 (f := .int "MOST_ARITY" 6) rfl); ⟨_, e, t, rfl⟩
  m_MOST_DEPTH := let ⟨t, e⟩ := He.int_ok X G (c.x.t.d.fact 14 (f := .int "MOST_DEPTH" 12) rfl); ⟨_, e, t, rfl⟩
  m_MOST_PARTS := let ⟨t, e⟩ := He.int_ok X G (c.x.t.d.fact 15 (f := .int "MOST_PARTS" 200) rfl); ⟨_, e, t, rfl⟩
  q_InvalidFunction := (He.exc_ok (c.x.t.d.fact 17 (f := .exc "InvalidFunction") rfl)).1
  g_InvalidFunction := He.glo_ok X G (c.x.t.d.fact 16 (f := .glo "InvalidFunction") rfl)
  k_InvalidFunction := (He.exc_ok (c.x.t.d.fact 17 (f := .exc "InvalidFunction") rfl)).2.1
  b_InvalidFunction := (He.exc_ok (c.x.t.d.fact 17 (f := .exc "InvalidFunction") rfl)).2.2.1
  t_InvalidFunction := (He.exc_ok (c.x.t.d.fact 17 (f := .exc "InvalidFunction") rfl)).2.2.2
  q_BadArgument := (He.exc_ok (c.x.t.d.fact 19 (f := .exc "BadArgument") rfl)).1
  g_BadArgument := He.glo_ok X G (c.x.t.d.fact 18 (f := .glo "BadArgument") rfl)
  k_BadArgument := (He.exc_ok (c.x.t.d.fact 19 (f := .exc "BadArgument") rfl)).2.1
  b_BadArgument := (He.exc_ok (c.x.t.d.fact 19 (f := .exc "BadArgument") rfl)).2.2.1
  t_BadArgument := (He.exc_ok (c.x.t.d.fact 19 (f := .exc "BadArgument") rfl)).2.2.2
  x_TooLong := SupX.txt_of X G (c.ok su_TooLong (by simp [hsu])) (c.eq su_TooLong (by simp [hsu])) ht hf
  catch_TooLong := fun C' r hc => by
    unfold catch_TooLong at hc
    split at hc
    · rename_i hC
      subst hC
      cases hc
      exact He.exm_ok (c.x.t.d.fact 20 (f := .exm "TooLong" "TooLong" true) rfl)
    split at hc
    · rename_i hC
      subst hC
      cases hc
      exact He.exm_ok (c.x.t.d.fact 21 (f := .exm "InvalidFunction" "TooLong" false) rfl)
    split at hc
    · rename_i hC
      subst hC
      cases hc
      exact He.exm_ok (c.x.t.d.fact 22 (f := .exm "BadArgument" "TooLong" false) rfl)
    cases hc
  c_Evaluation := He.cls_ok (c.x.t.d.fact 24 (f := .cls "Evaluation") rfl)
  na_Evaluation_limit := He.noat_ok (c.x.t.d.fact 26 (f := .noat "Evaluation" "limit") rfl)
  na_Evaluation_count := He.noat_ok (c.x.t.d.fact 27 (f := .noat "Evaluation" "count") rfl)
  d_parts := let ⟨fd, F⟩ := c.x.t.d.def_ 0 (d := hd0) rfl; ⟨_, fd, F, He.glo_ok X G (c.x.t.d.fact 28 (f := .glo "parts") rfl)⟩
  d_depth := let ⟨fd, F⟩ := c.x.t.d.def_ 1 (d := hd1) rfl; ⟨_, fd, F, He.glo_ok X G (c.x.t.d.fact 29 (f := .glo "depth") rfl)⟩
  d_count_parts := let ⟨fd, F⟩ := c.x.t.d.def_ 2 (d := hd2) rfl; ⟨_, fd, F, He.glo_ok X G (c.x.t.d.fact 30 (f := .glo "count_parts") rfl)⟩
  d_arity := let ⟨fd, F⟩ := c.x.t.d.def_ 3 (d := hd3) rfl; ⟨_, fd, F, He.glo_ok X G (c.x.t.d.fact 31 (f := .glo "arity") rfl)⟩
  d_has_right_arities := let ⟨fd, F⟩ := c.x.t.d.def_ 4 (d := hd4) rfl; ⟨_, fd, F, He.glo_ok X G (c.x.t.d.fact 32 (f := .glo "has_right_arities") rfl), _, _, code_ref F, TB _ (List.mem_map_of_mem (List.mem_of_getElem? (i := 0) rfl)), List.mem_map_of_mem (f := fun p => (He.cT K p).2) (List.mem_of_getElem? (l := htf) (i := 0) rfl)⟩
  d_is_function := let ⟨fd, F⟩ := c.x.t.d.def_ 5 (d := hd5) rfl; ⟨_, fd, F, He.glo_ok X G (c.x.t.d.fact 33 (f := .glo "is_function") rfl)⟩
  d_Evaluation_init := let ⟨fd, F⟩ := c.x.t.d.def_ 6 (d := hd6) rfl; ⟨_, fd, F, He.mkr_ok (c.x.t.d.fact 25 (f := .mkr "Evaluation") rfl), He.glo_ok X G (c.x.t.d.fact 23 (f := .glo "Evaluation") rfl)⟩
  d_Evaluation_apply := let ⟨fd, F⟩ := c.x.t.d.def_ 7 (d := hd7) rfl; ⟨_, fd, F, He.meth_ok (c.x.t.d.fact 34 (f := .meth "Evaluation" "apply") rfl)⟩
  d_Evaluation_repeat := let ⟨fd, F⟩ := c.x.t.d.def_ 8 (d := hd8) rfl; ⟨_, fd, F, He.meth_ok (c.x.t.d.fact 35 (f := .meth "Evaluation" "repeat") rfl)⟩
  d_evaluated := let ⟨fd, F⟩ := c.x.t.d.def_ 9 (d := hd9) rfl; ⟨_, fd, F, He.glo_ok X G (c.x.t.d.fact 36 (f := .glo "evaluated") rfl)⟩
  d_check_arguments := let ⟨fd, F⟩ := c.x.t.d.def_ 10 (d := hd10) rfl; ⟨_, fd, F, He.glo_ok X G (c.x.t.d.fact 37 (f := .glo "check_arguments") rfl), _, _, code_ref F, TB _ (List.mem_map_of_mem (List.mem_of_getElem? (i := 1) rfl)), List.mem_map_of_mem (f := fun p => (He.cT K p).2) (List.mem_of_getElem? (l := htf) (i := 1) rfl)⟩
  d_value := let ⟨fd, F⟩ := c.x.t.d.def_ 11 (d := hd11) rfl; ⟨_, fd, F, He.glo_ok X G (c.x.t.d.fact 38 (f := .glo "value") rfl)⟩
  d_applications := let ⟨fd, F⟩ := c.x.t.d.def_ 12 (d := hd12) rfl; ⟨_, fd, F, He.glo_ok X G (c.x.t.d.fact 39 (f := .glo "applications") rfl)⟩
  d__law_cell := let ⟨fd, F⟩ := c.x.t.d.def_ 13 (d := hd13) rfl; ⟨_, fd, F, He.glo_ok X G (c.x.t.d.fact 40 (f := .glo "_law_cell") rfl)⟩
  d__law_draws := let ⟨fd, F⟩ := c.x.t.d.def_ 14 (d := hd14) rfl; ⟨_, fd, F, He.glo_ok X G (c.x.t.d.fact 41 (f := .glo "_law_draws") rfl)⟩
  d__law_like := let ⟨fd, F⟩ := c.x.t.d.def_ 15 (d := hd15) rfl; ⟨_, fd, F, He.glo_ok X G (c.x.t.d.fact 42 (f := .glo "_law_like") rfl)⟩
  d__law_fun := let ⟨fd, F⟩ := c.x.t.d.def_ 16 (d := hd16) rfl; ⟨_, fd, F, He.glo_ok X G (c.x.t.d.fact 43 (f := .glo "_law_fun") rfl)⟩
  d__law_pieces := let ⟨fd, F⟩ := c.x.t.d.def_ 17 (d := hd17) rfl; ⟨_, fd, F, He.glo_ok X G (c.x.t.d.fact 44 (f := .glo "_law_pieces") rfl)⟩
  d__law_arity := let ⟨fd, F⟩ := c.x.t.d.def_ 18 (d := hd18) rfl; ⟨_, fd, F, He.glo_ok X G (c.x.t.d.fact 45 (f := .glo "_law_arity") rfl)⟩
  d__law_deep := let ⟨fd, F⟩ := c.x.t.d.def_ 19 (d := hd19) rfl; ⟨_, fd, F, He.glo_ok X G (c.x.t.d.fact 46 (f := .glo "_law_deep") rfl)⟩
  d__law_count := let ⟨fd, F⟩ := c.x.t.d.def_ 20 (d := hd20) rfl; ⟨_, fd, F, He.glo_ok X G (c.x.t.d.fact 47 (f := .glo "_law_count") rfl)⟩
  d__law_fits_well := let ⟨fd, F⟩ := c.x.t.d.def_ 21 (d := hd21) rfl; ⟨_, fd, F, He.glo_ok X G (c.x.t.d.fact 48 (f := .glo "_law_fits_well") rfl)⟩
  d__law_is_fun := let ⟨fd, F⟩ := c.x.t.d.def_ 22 (d := hd22) rfl; ⟨_, fd, F, He.glo_ok X G (c.x.t.d.fact 49 (f := .glo "_law_is_fun") rfl)⟩
  d__law_apply := let ⟨fd, F⟩ := c.x.t.d.def_ 23 (d := hd23) rfl; ⟨_, fd, F, He.glo_ok X G (c.x.t.d.fact 50 (f := .glo "_law_apply") rfl)⟩
  d__law_told := let ⟨fd, F⟩ := c.x.t.d.def_ 24 (d := hd24) rfl; ⟨_, fd, F, He.glo_ok X G (c.x.t.d.fact 51 (f := .glo "_law_told") rfl)⟩
  d_law := let ⟨fd, F⟩ := c.x.t.d.def_ 25 (d := hd25) rfl; ⟨_, fd, F, He.glo_ok X G (c.x.t.d.fact 52 (f := .glo "law") rfl)⟩
theorem law_at {w : World} {K : PySem.W.Frag} {h : Heap} {mg : Str → Option Value} {fa : Addr} (X : K.In h) (G : h.Ns mainGlobals mg) (hm : mg ("law" : Str) = some (.ref fa)) (c : DLH.SaysY hfa hfn [] htf (fun _ => true) hsu w h K) :
    LamX.LawAtS PySem.Challenge.rw_translatory_k61_values_and_applications w K (L2.CX PySem.Challenge.rw_translatory_k61_values_and_applications.prog w) 82 63 "_law_script" mg fa h := by
  obtain ⟨fd, F⟩ := c.x.t.d.def_ 25 (d := hd25) rfl
  have e := hm.symm.trans (He.glo_ok X G (c.x.t.d.fact 52 (f := .glo "law") rfl))
  cases e
  have b := FunD.bindsA (ps := ["_law_script"]) F fun _ _ _ _ _ _ us hl => match us, hl with | [_], _ => rfl
  refine ⟨fd, htf.map (He.cT K), fun vs H Q E => ∀ base : Heap, spP (gOf K PySem.Challenge.rw_translatory_k61_values_and_applications.prog w mg base) 1 (tb 41).law vs H Q E, fun p hp => ?_, fun p hp => ?_, fun p hp => ?_, fun s v => b s [v] rfl, fun H a ns hl hbits hT hS base => ?_, fun base KB GB TB => ?_⟩
  · obtain ⟨q, hq, rfl⟩ := List.mem_map.mp hp
    exact c.x.empty q hq
  · obtain ⟨q, hq, rfl⟩ := List.mem_map.mp hp
    exact c.x.out q hq
  · obtain ⟨q, hq, rfl⟩ := List.mem_map.mp hp
    exact PySem.W.codeHd_of_K X (c.x.hd q hq)
  · refine ⟨rfl, fun _ => False, [.klst (ns.map .int)], fun _ z => z.elim, fun p hp => ?_, .cons ?_ .nil, .ok (.bl true), law_true ns, fun H' _ _ v r => ?_⟩
    · obtain ⟨q, hq, rfl⟩ := List.mem_map.mp hp
      exact ⟨#[], hT _ (List.mem_map_of_mem hq), trivial⟩
    · have rl : RepL (gOf K PySem.Challenge.rw_translatory_k61_values_and_applications.prog w mg base) (fun _ => False) H (ns.map D.int) (ns.map V.int) := RepL.ints
      rcases hS with hS | hS
      · rcases hS with hS | ⟨o, hS⟩
        · exact .plst hS id rl
        · exact .frz hS id rl
      · exact .klst (fun H' => .inr hS) rl
    · cases r
      rfl
  · have S := sv_of (P := PySem.Challenge.rw_translatory_k61_values_and_applications.prog) (w := w) (base := base) X G c (by kernel_rfl) (by kernel_rfl) TB
    exact (fn_pure F sc_law (b_law S (ev S 40))).imp fun vs H Q E z => z base
end K61
open PySem PySem.W PySem.Calls PyProof.Rows
theorem PySem.Challenge.cw_translatory_k61_values_and_applications_holds : PySem.Challenge.rw_translatory_k61_values_and_applications.Holds := by
  w_on; o_law
  refine HandSHeadRun.head_any (r := OpenLaw.row PySem.Challenge.rw_translatory_k61_values_and_applications) (q := view (OpenLaw.row PySem.Challenge.rw_translatory_k61_values_and_applications).prog [33]) (H := K61.hk) (ob := K61.hob) (M := 3000) (loose := K61.hnames) (d := HandSHeadRun.topDef (OpenLaw.row PySem.Challenge.rw_translatory_k61_values_and_applications).prog 33) (kwd := []) K61.hob_eq
    (by kernel_rfl) (fun s => by kernel_rfl) K61.run (by kernel_rfl) (by kernel_rfl) (by kernel_rfl) (by rfl) (by first | assumption | decide +kernel) (by decide +kernel) ⟨rfl, rfl, rfl, rfl, rfl, by decide +kernel⟩ ?hw ?hc
  case hw => w_witness2
  case hc =>
    refine LamX.walk_ofTsE (l := PySem.Challenge.rw_translatory_k61_values_and_applications) (n := 63) (k := 82) (x := "_law_script") (CX := fun w => L2.CX PySem.Challenge.rw_translatory_k61_values_and_applications.prog w) rfl (by decide) (by kernel_rfl) ⟨rfl, by decide, by decide⟩ ?F (fun _ _ _ _ _ z => by
      obtain ⟨_, _, _, _, _, _, _, _, _, _, _, _, z⟩ := z
      exact z)
    intro w mg fa h Y G hmg0
    obtain ⟨K, KX, c⟩ := Y
    have hmg : mg ("law" : PySem.Str) = some (.ref fa) := by
      have e : (HandSHeadRun.topDef (OpenLaw.row PySem.Challenge.rw_translatory_k61_values_and_applications).prog 33).name = ("law" : PySem.Str) := by kernel_rfl
      rw [← e]
      exact hmg0
    exact ⟨K, KX, K61.law_at KX G hmg c⟩

