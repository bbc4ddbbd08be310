import PyProof.Rows.All
import Wide.All
import OpenK.AllK
import Wide.FinOn
import HandS.ForMost
import HandS.AnyAll
import HandS.GenList
import KE.GoesEnum
import HandS.EndTab
import HandS.IsInst
import HandS.TupLe
import PySem.Challenge.RW_formflow_k00_values_coded
set_option Elab.async false
set_option linter.all false
set_option maxRecDepth 100000
set_option maxHeartbeats 4000000
/-! all(..) and any(..) of a generator expression over anything that PI serves, the element any PE (it may call defs). -/
namespace K0
open PySem PySem.Spec PyProof.Rows L2 GenW

/-- the frame of a generator expression that was made in the state s over the heap H: around it A, its iterator's objects fp, its own object go at a -/
abbrev gcx (X : Cx) (A : Around) (s : Shared) (H : Hp) (cenv : Env) (fp : List Addr) (a : Addr) (go : Obj) : Cx :=
  { X with A := A, s_0 := s, H_0 := H, env := cenv, outer := X.stack, stack := cenv :: X.stack, ex := fp, fn := fun _ => false, pn := [(a, go)], xe := fun _ _ => False }

/-- its environment -/
abbrev genv (X : Cx) (scope : Scope) (C : Addr) (code : Value) : Env := genEnv scope (cloFrom X.env.cells scope.names []) C code builtinsNs X.env

theorem clo_look {cells : List (Str × Addr)} {names : List (Str × NameKind)} (hf : ∀ y ∈ names, y.2 = .free → ∃ c, cells.lookup y.1 = some c) {y : Str} {c : Addr} (h : (cloFrom cells names []).lookup y = some c) :
    cells.lookup y = some c ∧ (y, NameKind.free) ∈ names := by
  rcases cloFrom_mem (PySem.mem_of_lookup h) with q | ⟨q, e⟩
  · cases q
  · obtain ⟨c', hc⟩ := hf _ q rfl
    have hc' : cells.lookup y = some c' := hc
    rw [hc'] at e
    subst e
    exact ⟨hc', q⟩

section
variable {X : Cx} {pins : List (Addr × Obj)} {σ : L2.St} {H : Hp} {s s' : Shared}

/-- the generator's frame at its start: s the state when it was made, s' the state when it is woken first -/
theorem gen_start {scope : Scope} {own : List (Str × Nat)} {fp : List Addr} {A : Around} {code : Value} {a : Addr} {go : Obj} {m0 : Str → Option Value}
    (I : Inv X pins σ H s) (ok : BlkOk X.N X.env.scope scope own) (hN : X.N.Nodup) (nc : ∀ y ∈ scope.names, y.2 ≠ .cell) (hfp : ∀ b ∈ fp, FpOk X pins H b ∧ b < s.heap.objs.size)
    (hA : X.calm = true → A.handled = none) (hAf : A.frames = some (genv X scope s.heap.objs.size code :: X.stack)) (os : s'.os = s.os) (bare : AllBare s'.gens) (kp : ∀ b o, s.heap.get? b = some o → s'.heap.get? b = some o)
    (ns : s'.heap.Ns s.heap.objs.size m0) (ha : s.heap.objs.size < a) (hgo : s'.heap.get? a = some go) (hgd : ∀ v, go.data ≠ .cell v) :
    Inv (gcx X A s H (genv X scope s.heap.objs.size code) fp a go) [] (wipe σ (own.map (·.2))) H s' := by
  have hfree : ∀ y ∈ scope.names, y.2 = .free → ∃ c, X.env.cells.lookup y.1 = some c := fun y hy e => by
    rcases ok.free y hy e with k | k
    · exact I.ok.has _ (.inl k)
    · exact I.ok.has _ (.inr k)
  have cm : ∀ {y c}, (cloFrom X.env.cells scope.names []).lookup y = some c → X.env.cells.lookup y = some c ∧ (y, NameKind.free) ∈ scope.names := fun h => clo_look hfree h
  have clt : ∀ {y c}, X.env.cells.lookup y = some c → c < s.heap.objs.size := fun h => let ⟨_, z⟩ := I.cell _ _ h; z.lt
  have okG : (gcx X A s H (genv X scope s.heap.objs.size code) fp a go).Ok := by
    refine ⟨I.ok.mod, ok.kind, I.ok.glob, rfl, Nat.le_refl _, fun y z c e1 e2 => ?_, fun y hy => ?_, fun y c z _ => ?_, hA, hAf, .inr ⟨rfl, rfl⟩, fun b hb => ⟨?_, fun y c e z => ?_⟩, I.bs, Nat.le_trans I.ok.bsz I.sz, fun b o e hb => ?_, fun b hb z => ?_, I.stack, I.stkFree⟩
    · exact I.ok.inj y z c (cm e1).1 (cm e2).1
    · have hy' : scope.names.lookup y = some .cell ∨ scope.names.lookup y = some .free := hy
      rcases hy' with q | q
      · exact absurd rfl (nc _ (PySem.mem_of_lookup q))
      · obtain ⟨c', e⟩ := mem_lookup (cloFrom_has (cells := X.env.cells) (acc := []) (PySem.mem_of_lookup q))
        exact ⟨c', e⟩
    · exact absurd (show false = true from z) Bool.false_ne_true
    · exact Nat.ne_of_lt (hfp b hb).2
    · exact (hfp b hb).1.2.2.2.2.1 y c (cm e).1 z
    · rcases (hfp b hb).1.2.2.2.1 with z | z
      · exact I.ok.noex b o e z
      · exact absurd (Nat.lt_of_lt_of_le (Heap.lt_size e) (Nat.le_trans I.ok.bsz z)) (Nat.lt_irrefl _)
    · rcases List.mem_cons.mp (I.stkSub b z) with q | q
      · exact (hfp b hb).1.2.1 q
      · exact (hfp b hb).1.2.2.1 q
  refine ⟨okG, os, bare, Un.kept kp, ⟨m0, ns, fun i y v e1 e2 e3 => ?_⟩, fun y c e => ?_, I.hok.fresh (Nat.le_refl _), fun y c e => I.freeC y c (cm e).1, fun p hp => ?_, I.hok.kept kp, by rw [wipe_length]; exact I.len⟩
  · obtain ⟨e2', hne⟩ := wipe_some e2
    have e3' : Vis scope y := e3
    have hfr : scope.names.lookup y = some .free := by
      have no : ∀ k, scope.names.lookup y = some k → ¬ (k = .local ∨ k = .cell) := fun k hk hh => by
        rcases ok.own _ (PySem.mem_of_lookup hk) hh with e' | e'
        · obtain ⟨p, hp, hpy⟩ := List.mem_map.mp e'
          have e4 := ok.ix p hp
          have hpy' : p.1 = y := hpy
          rw [hpy'] at e4
          exact hne (List.mem_map.mpr ⟨p, hp, nodup_ix hN e4 e1⟩)
        · exact e' (List.mem_of_getElem? e1)
      rcases e3' with q | q | q
      · exact absurd (.inl rfl) (no _ q)
      · exact absurd (.inr rfl) (no _ q)
      · exact q
    obtain ⟨c, hc⟩ := hfree _ (PySem.mem_of_lookup hfr) rfl
    have hc0 : X.env.cells.lookup y = some c := hc
    obtain ⟨c', hc'⟩ := mem_lookup (cloFrom_has (cells := X.env.cells) (acc := []) (PySem.mem_of_lookup hfr))
    have hcc : c' = c := by
      have q := (cm hc').1
      rw [hc0] at q
      exact (Option.some.inj q).symm
    subst hcc
    obtain ⟨m, hn, hl⟩ := I.loc
    have hvis : Vis X.env.scope y := (ok.free _ (PySem.mem_of_lookup hfr) rfl).elim (fun k => .inr (.inl k)) fun k => .inr (.inr k)
    obtain ⟨w, r, q⟩ := hl i y v e1 e2' hvis
    refine ⟨w, r, .inr ⟨.inr hfr, c', hc', ?_⟩⟩
    rcases q with ⟨k, _⟩ | ⟨_, c2, e', z⟩
    · have k' : X.env.scope.names.lookup y = some .local := k
      rcases ok.free _ (PySem.mem_of_lookup hfr) rfl with k2 | k2
      · rw [show X.env.scope.names.lookup y = _ from k2] at k'; cases k'
      · rw [show X.env.scope.names.lookup y = _ from k2] at k'; cases k'
    · rw [hc0] at e'; cases e'
      exact z.keeps kp
  · obtain ⟨w, z⟩ := I.cell y c (cm e).1
    exact ⟨w, z.keeps kp⟩
  · have hp' : p = (a, go) := by
      have z : p ∈ [(a, go)] ++ ([] : List (Addr × Obj)) := hp
      simpa using z
    subst hp'
    refine ⟨hgo, I.hok.fresh (Nat.le_of_lt ha), Nat.ne_of_gt ha, fun z => ?_, hgd⟩
    have z' : a ∈ frs X.stack := z
    rcases List.mem_cons.mp (I.stkSub a z') with q | q
    · rw [q] at ha
      exact absurd (Nat.lt_trans ha I.lt) (Nat.lt_irrefl _)
    · exact I.nofs (Nat.le_of_lt ha) q

/-- out of the generator's frame: what its run has come to, for the frame around -/
theorem gen_back {fp : List Addr} {A : Around} {cenv : Env} {a : Addr} {go : Obj} {pins' : List (Addr × Obj)} {σ' : L2.St} {H' : Hp} {s1 : Shared}
    (I : Inv X pins σ H s) (hfp : ∀ b ∈ fp, FpOk X pins H b) (J : Inv (gcx X A s H cenv fp a go) pins' σ' H' s1) (ho : s'.os = s1.os) (bare : AllBare s'.gens) (kp : ∀ b o, s1.heap.get? b = some o → s'.heap.get? b = some o) :
    Inv X pins σ H' s' := by
  refine I.call' (ch := fp) (ho.trans J.os) (Un.trans J.base (Un.kept kp)) (J.hok.kept kp) bare fun b hb => ?_
  obtain ⟨_, f1, f2, f3, f4, f5⟩ := hfp b hb
  exact ⟨f3, f1, f4, f5⟩

/-- asleep: between two items nothing is touched -/
theorem Inv.slept {X : Cx} {pins : List (Addr × Obj)} {σ : L2.St} {H : Hp} {s s' : Shared} (I : Inv X pins σ H s) (ho : s'.os = s.os) (bare : AllBare s'.gens) (kp : ∀ b o, s.heap.get? b = some o → s'.heap.get? b = some o) : Inv X pins σ H s' :=
  I.call' (ch := []) ho (Un.kept kp) (I.hok.kept kp) bare fun b z => by simp at z
end
end K0

set_option Elab.async false
set_option linter.all false
set_option maxRecDepth 100000
set_option maxHeartbeats 4000000
namespace K0
open PySem PySem.Spec PyProof.Rows L2 GenW

/-- what stands behind a stretch of the generator's run: H' is held, its object stands -/
structure Past (X : Cx) (s : Shared) (H : Hp) (fp : List Addr) (cenv : Env) (a g : Nat) (H' : Hp) (s1 : Shared) : Prop where
  inv : ∃ (A : Around) (go : Obj) (pins' : List (Addr × Obj)) (σ' : L2.St), Inv (gcx X A s H cenv fp a go) pins' σ' H' s1
  gen : s1.heap.IsGen a g
  lim : s1.heap.NoLimit

/-- an item is handed out; d: the answer at which the reader stops, QS what it wants then -/
def gxY (X : Cx) (s : Shared) (H : Hp) (fp : List Addr) (cenv : Env) (a g : Nat) (d : Bool) (QS : Hp → Prop) : Protocol := fun _ _ v s1 kap =>
  ∃ (b : Bool) (H' : Hp), v = .bool b ∧ Past X s H fp cenv a g H' s1 ∧
    if b = d then QS H' else ∀ s2 : Shared, s2.os = s1.os → AllBare s2.gens → (∀ c o, s1.heap.get? c = some o → s2.heap.get? c = some o) → kap (.send .none) s2
/-- it ends; QE: what the reader wants then -/
def gxR (X : Cx) (s : Shared) (H : Hp) (fp : List Addr) (cenv : Env) (a g : Nat) (QE : Hp → Prop) : GenEnd := fun n s0 r s1 =>
  ((r = .ok (.ret .none) ∨ r = .ok .next) ∧ ∃ H', Past X s H fp cenv a g H' s1 ∧ QE H') ∨ ∃ e, r = .error e ∧ False

section
variable {X : Cx} {s : Shared} {H : Hp} {σ : L2.St} {fp : List Addr} {cenv : Env} {a g it : Nat} {go : Obj} {tg elt iter : Expr} {scope : Scope} {gpos : Pos} {own : List Nat} {J : It} {tn : Nat → Heap → Prop} {tgr : TG} {te : TE} {d : Bool} {QS QE : Hp → Prop} {W : Nat → Nat → Hp → Prop} {B : Around}

/-- what one turn asks -/
def TurnsOk (J : It) (own : List Nat) (σ : L2.St) (tgr : TG) (te : TE) (d : Bool) (QS QE : Hp → Prop) (W : Nat → Nat → Hp → Prop) : Prop :=
  ∀ i m H, W i m H → (J.stop i H ∧ QE H) ∨ (J.go i H ∧ ∀ x H', J.yld i H x H' → tgr x (wipe σ own) H' fun σ2 H3 => wipe σ2 own = wipe σ own ∧ te σ2 H3 fun y H4 => ∃ b : Bool, y = .bl b ∧ if b = d then QS H4 else ∃ m', m' < m ∧ W (i + 1) m' H4)

/-- the code of its loop -/
abbrev gxC (elt tg iter : Expr) (scope : Scope) (gpos : Pos) (it : Addr) (cenv : Env) : Code := .compLoop (.GeneratorExp elt [⟨tg, iter, [], 0⟩] scope gpos) 0 (.ref it) .none cenv

theorem gx_loop (hc : X.calm = true) (hgen : ∀ h : Heap, h.get? a = some go → h.IsGen a g) (T : Turn X.prog X.w X.K tg J fp it tn) (hco : cenv.scope.isCoroutine = false)
    (hg : PG (gcx X (B.over (gxC elt tg iter scope gpos it cenv) []) s H cenv fp a go) tg tgr) (he : PE (gcx X (B.over (gxC elt tg iter scope gpos it cenv) []) s H cenv fp a go) elt te)
    (f2 : ∀ b ∈ fp, ∀ H' : Hp, H' b = none → FpOk (gcx X (B.over (gxC elt tg iter scope gpos it cenv) []) s H cenv fp a go) [] H' b) (turn : TurnsOk J own σ tgr te d QS QE W) :
    ∀ (n i m : Nat) (s0 s1 : Shared) (H1 : Hp), m < n → W i m H1 → Inv (gcx X (B.over (gxC elt tg iter scope gpos it cenv) []) s H cenv fp a go) [] (wipe σ own) H1 s1 → tn i s1.heap → (∀ b ∈ fp, H1 b = none) →
      Seg (model X.prog X.w) B (gxR X s H fp cenv a g QE) (gxY X s H fp cenv a g d QS) n s0 (gxC elt tg iter scope gpos it cenv) ((model X.prog X.w).den (gxC elt tg iter scope gpos it cenv)) [] s1 := by
  intro n
  induction n with
  | zero => intro i m s0 s1 H1 hm; exact absurd hm (Nat.not_lt_zero _)
  | succ n ih =>
    intro i m s0 s1 H1 hm w I1 st1 fr1
    have past : ∀ {pins' : List (Addr × Obj)} {σ' : L2.St} {H' : Hp} {s' : Shared}, Inv (gcx X (B.over (gxC elt tg iter scope gpos it cenv) []) s H cenv fp a go) pins' σ' H' s' → Past X s H fp cenv a g H' s' :=
      fun {pins' σ' H' s'} K => ⟨⟨_, go, pins', σ', K⟩, hgen _ (K.pin (a, go) (List.mem_append_left _ (List.mem_singleton.mpr rfl))).1, K.nolimit⟩
    show Seg _ B _ _ _ s0 _ ((compTurn (.GeneratorExp elt [⟨tg, iter, [], 0⟩] scope gpos) 0 (.ref it) .none cenv).onRaise (leaving cenv)) [] s1
    rw [compTurn_gen, Sem.onRaise_eq_wrap]
    refine seg_bind_wrap (wpAny_standAt ?_)
    rcases turn i m H1 w with ⟨stop, qe⟩ | ⟨go1, step⟩
    · refine seg_bind_wrap (thn (T.done (gcx X (B.over (gxC elt tg iter scope gpos it cenv) []) s H cenv fp a go) rfl rfl rfl hc i [] s1 _ H1 _ I1 (fun b hb => f2 b hb H1 (fr1 b hb)) st1 stop) fun r s2 hr => ?_)
      obtain ⟨rfl, I2⟩ := hr
      exact seg_end (.ok .next) (.inl ⟨.inr rfl, H1, past I2, qe⟩)
    · refine seg_bind_wrap (thn (T.item (gcx X (B.over (gxC elt tg iter scope gpos it cenv) []) s H cenv fp a go) rfl rfl rfl hc i [] s1 _ H1 _ I1 (fun b hb => f2 b hb H1 (fr1 b hb)) st1 go1) fun r s2 hr => ?_)
      obtain ⟨u, rfl, h2⟩ := hr
      refine seg_bind_wrap (thn h2 fun _ s3 h3 => ?_)
      obtain ⟨x, H3, I3, r3, y3, st3, fr3⟩ := h3
      have I3' := I3.pinned (fun b hb => f2 b hb H3 (fr3 b hb)) (T.obj _ _ st3)
      refine seg_bind_wrap (wpAny_mono (hg.run _ s3 _ H3 x u _ I3' r3 (step x H3 y3)) (fun _ s4 h4 => ?_) fun _ _ z => z.elim)
      obtain ⟨σ4, H4, I4, ew, q4⟩ := h4
      refine seg_bind_wrap ?_
      simp only [List.forIn_nil]
      refine wpAny_pure ?_
      simp only [if_true]
      have hy : ∀ v, yieldOut cenv v = yieldValue v := fun v => by simp only [yieldOut, hco, Bool.false_eq_true, if_false]
      simp only [hy]
      rw [Sem.bind_eq_wrap', Sem.bind_eq_wrap', Sem.wrap_wrap, Sem.wrap_wrap]
      refine seg_wrap (wpAny_mono (he.run _ s4 σ4 H4 _ I4 q4) (fun v s5 h5 => ?_) fun _ _ z => z.elim)
      obtain ⟨yv, H5, I5, rv, b, eb, q5⟩ := h5
      subst eb
      obtain rfl : v = Value.bool b := rv
      refine seg_at (seg_yield rfl rfl rfl ⟨b, H5, rfl, past I5, ?_⟩)
      by_cases hb : b = d
      · rw [if_pos hb] at q5 ⊢
        exact q5
      · rw [if_neg hb] at q5 ⊢
        obtain ⟨m', hm', w'⟩ := q5
        intro s6 ho hb6 kp
        have I6 := K0.Inv.slept (I5.weak (σ' := wipe σ4 own) (wipe_length _ _) fun j v' e => (wipe_some e).1) ho hb6 kp
        rw [ew] at I6
        refine seg_again rfl (ih (i + 1) m' s6 s6 H5 (by omega) w' I6.unpinned ?_ fun c hc' => ?_)
        · exact T.keep _ _ _ st3 fun c hc' o e => kp c o (I5.pin (c, o) (List.mem_append_right _ (List.mem_append_right _ (mem_pinsAt hc' e)))).1
        · obtain ⟨o, e, _⟩ := T.obj _ _ st3 c hc'
          exact (I5.pin (c, o) (List.mem_append_right _ (List.mem_append_right _ (mem_pinsAt hc' e)))).2.1

theorem gx_start (hc : X.calm = true) (hgen : ∀ h : Heap, h.get? a = some go → h.IsGen a g) (T : Turn X.prog X.w X.K tg J fp it tn) (hco : cenv.scope.isCoroutine = false)
    (hg : PG (gcx X (B.over (gxC elt tg iter scope gpos it cenv) []) s H cenv fp a go) tg tgr) (he : PE (gcx X (B.over (gxC elt tg iter scope gpos it cenv) []) s H cenv fp a go) elt te)
    (f2 : ∀ b ∈ fp, ∀ H' : Hp, H' b = none → FpOk (gcx X (B.over (gxC elt tg iter scope gpos it cenv) []) s H cenv fp a go) [] H' b) (turn : TurnsOk J own σ tgr te d QS QE W)
    {n m : Nat} {s0 s1 : Shared} {H1 : Hp} (hm : m < n) (w : W 0 m H1) (I1 : Inv (gcx X (B.over (gxC elt tg iter scope gpos it cenv) []) s H cenv fp a go) [] (wipe σ own) H1 s1) (st1 : tn 0 s1.heap) (fr1 : ∀ b ∈ fp, H1 b = none) :
      Seg (model X.prog X.w) B (gxR X s H fp cenv a g QE) (gxY X s H fp cenv a g d QS) n s0 (.compStart (.GeneratorExp elt [⟨tg, iter, [], 0⟩] scope gpos) 0 (.ref it) .none cenv)
        ((model X.prog X.w).den (.compStart (.GeneratorExp elt [⟨tg, iter, [], 0⟩] scope gpos) 0 (.ref it) .none cenv)) [] s1 := by
  have loop := gx_loop (QS := QS) (QE := QE) hc hgen T hco hg he f2 turn n 0 m s0 s1 H1 hm w I1 st1 fr1
  show Seg _ B _ _ _ s0 _ ((compStart (.GeneratorExp elt [⟨tg, iter, [], 0⟩] scope gpos) 0 (.ref it) .none cenv).onRaise (leaving cenv)) [] s1
  unfold compStart
  rw [Sem.onRaise_eq_wrap]
  show Seg _ B _ _ _ s0 _ ((ask >>= _).wrap _ _ _ _) [] s1
  refine seg_bind_wrap (wpAny_askSetting ?_)
  split
  · exact seg_again rfl loop
  · refine seg_bind_wrap (wpAny_rule ?_)
    refine seg_bind_wrap (wpAny_standAt (seg_bind_wrap (T.self _ 0 s1 _ _ st1 (seg_again rfl loop))))
end
end K0

set_option Elab.async false
set_option linter.all false
set_option maxRecDepth 100000
set_option maxHeartbeats 4000000
namespace K0
open PySem PySem.Spec PyProof.Rows L2 GenW

section
variable {X : Cx} {pins : List (Addr × Obj)} {s : Shared} {H : Hp} {σ : L2.St} {fp : List Addr} {cenv : Env} {a g : Nat} {QS QE : Hp → Prop} {A : Around} {Rr : Result → Shared → Prop}

/-- behind a stretch that ends the reading -/
theorem Past.back (I : Inv X pins σ H s) (hfp : ∀ b ∈ fp, FpOk X pins H b) {H' : Hp} {s1 s2 : Shared} (p : Past X s H fp cenv a g H' s1) (ho : s2.os = s1.os) (hb : AllBare s1.gens → AllBare s2.gens) (kp : ∀ b o, s1.heap.get? b = some o → s2.heap.get? b = some o) : Inv X pins σ H' s2 := by
  obtain ⟨B, go, pins', σ', J⟩ := p.inv
  exact gen_back I hfp J ho (hb J.bare) kp

/-- what the two readers share: a turn of the generator -/
theorem gx_next {d : Bool} {n : Nat} {s1 : Shared} {Q : Option Value → Shared → Prop} {E : Value → Shared → Prop} (I : Inv X pins σ H s) (hfp : ∀ b ∈ fp, FpOk X pins H b) (hh : A.handled = none) (hd : A.depth < recursionLimit)
    (hg : s1.heap.IsGen a g) (hl : s1.heap.NoLimit) (hgo : ∃ gs, s1.gens[g]? = some gs ∧ gs.Goes (model X.prog X.w) A.in1 (gxR X s H fp cenv a g QE) (gxY X s H fp cenv a g d QS) n (.send .none) (s1.setGen g .running))
    (hS : ∀ (H' : Hp) (s2 : Shared), Inv X pins σ H' s2 → QS H' → Q (some (.bool d)) s2) (hE : ∀ (H' : Hp) (s2 : Shared), Inv X pins σ H' s2 → QE H' → Q none s2)
    (hN : ∀ (b : Bool) (m : Nat) (s2 : Shared), n = m + 1 → b ≠ d → s2.heap.IsGen a g → s2.heap.NoLimit →
      (∃ gs, s2.gens[g]? = some gs ∧ gs.Goes (model X.prog X.w) A.in1 (gxR X s H fp cenv a g QE) (gxY X s H fp cenv a g d QS) m (.send .none) (s2.setGen g .running)) → Q (some (.bool b)) s2) :
    wpAny (model X.prog X.w) A (pyNext (.ref a)) Q E s1 := by
  obtain ⟨gs, hgs, hgo⟩ := hgo
  have hgl : g < s1.gens.size := (Array.getElem?_eq_some_iff.mp hgs).1
  refine wpAny_gsz (n := g + 1) hgl (next_genG (F := fun _ _ s2 => ∃ H', Past X s H fp cenv a g H' s2 ∧ QE H') (Er := fun _ _ => False) (Y := gxY X s H fp cenv a g d QS) (n := n) hh hl hd hg hgs hgo (fun v s2 gs' hbare hv hsz => ?_) (fun s2 hp h' hk hsz => ?_) fun e s2 he => he.elim)
  · obtain ⟨b, H', rfl, past, hq⟩ := hv
    by_cases hb : b = d
    · rw [if_pos hb] at hq
      subst hb
      exact hS H' _ (past.back I hfp rfl (fun z => allBare_setGen z hbare) fun _ _ e => e) hq
    · rw [if_neg hb] at hq
      have hsz1 : g < s2.gens.size := by
        have q : (s2.setGen g gs').gens.size = s2.gens.size := setGen_size _ _ _
        have hsz' : g + 1 ≤ (s2.setGen g gs').gens.size := hsz
        omega
      obtain ⟨B, go, pins', σ', Jv⟩ := past.inv
      cases n with
      | zero => exact (hq s2 rfl Jv.bare fun _ _ e => e).elim
      | succ m =>
        refine hN b m _ rfl hb past.gen past.lim ⟨gs', setGen_at hsz1, ?_⟩
        exact hq ((s2.setGen g gs').setGen g .running) rfl (allBare_setGen (allBare_setGen Jv.bare hbare) rfl) fun _ _ e => e
  · obtain ⟨H', past, hq⟩ := hp
    exact hE H' _ (past.back I hfp rfl (fun z => allBare_setGen z rfl) hk) hq

theorem all_read (I : Inv X pins σ H s) (hfp : ∀ b ∈ fp, FpOk X pins H b) (hh : A.handled = none) (hd : A.depth < recursionLimit)
    (hS : ∀ (H' : Hp) (s2 : Shared), Inv X pins σ H' s2 → QS H' → Rr (.ok (.ret (.bool false))) s2) (hE : ∀ (H' : Hp) (s2 : Shared), Inv X pins σ H' s2 → QE H' → Rr (.ok (.ret (.bool true))) s2) :
    ∀ (n : Nat) (s1 : Shared), s1.heap.IsGen a g → s1.heap.NoLimit →
      (∃ gs, s1.gens[g]? = some gs ∧ gs.Goes (model X.prog X.w) A.in1.in1 (gxR X s H fp cenv a g QE) (gxY X s H fp cenv a g false QS) n (.send .none) (s1.setGen g .running)) →
      codeAny (model X.prog X.w) A (.builtin "all.loop" ⟨[.ref a], []⟩) Rr s1 := by
  intro n
  induction n with
  | zero =>
    intro s1 hg hl hgo
    refine codeAny_builtin F.entry_all_loop ?_
    rw [Around.under_plainId F.plain_all_loop _]
    refine wpAny_bind (gx_next (A := A.in1) I hfp hh hd hg hl hgo (fun H' s2 I2 q => ?_) (fun H' s2 I2 q => ?_) fun b m s2 hm => absurd hm (Nat.succ_ne_zero m).symm)
    · refine wpAny_bind (wpAny_holding (wpAny_truthy_bool ?_))
      refine wpAny_bind (wpAny_letGo ?_)
      simp only [Bool.false_eq_true, if_false]
      exact wpAny_bind (wpAny_rule (wpAny_pure (hS H' s2 I2 q)))
    · exact wpAny_bind (wpAny_rule (wpAny_pure (hE H' s2 I2 q)))
  | succ n ih =>
    intro s1 hg hl hgo
    refine codeAny_builtin F.entry_all_loop ?_
    rw [Around.under_plainId F.plain_all_loop _]
    refine wpAny_bind (gx_next (A := A.in1) I hfp hh hd hg hl hgo (fun H' s2 I2 q => ?_) (fun H' s2 I2 q => ?_) fun b m s2 hm hb hg2 hl2 hgo2 => ?_)
    · refine wpAny_bind (wpAny_holding (wpAny_truthy_bool ?_))
      refine wpAny_bind (wpAny_letGo ?_)
      simp only [Bool.false_eq_true, if_false]
      exact wpAny_bind (wpAny_rule (wpAny_pure (hS H' s2 I2 q)))
    · exact wpAny_bind (wpAny_rule (wpAny_pure (hE H' s2 I2 q)))
    · cases Nat.succ.inj hm
      refine wpAny_bind (wpAny_holding (wpAny_truthy_bool ?_))
      refine wpAny_bind (wpAny_letGo ?_)
      cases b with
      | false => exact absurd rfl hb
      | true =>
        simp only [if_true]
        exact wpAny_pure ⟨plainId_quiet F.plain_all_loop _, ih s2 hg2 hl2 hgo2⟩

theorem any_read (I : Inv X pins σ H s) (hfp : ∀ b ∈ fp, FpOk X pins H b) (hh : A.handled = none) (hd : A.depth < recursionLimit)
    (hS : ∀ (H' : Hp) (s2 : Shared), Inv X pins σ H' s2 → QS H' → Rr (.ok (.ret (.bool true))) s2) (hE : ∀ (H' : Hp) (s2 : Shared), Inv X pins σ H' s2 → QE H' → Rr (.ok (.ret (.bool false))) s2) :
    ∀ (n : Nat) (s1 : Shared), s1.heap.IsGen a g → s1.heap.NoLimit →
      (∃ gs, s1.gens[g]? = some gs ∧ gs.Goes (model X.prog X.w) A.in1.in1 (gxR X s H fp cenv a g QE) (gxY X s H fp cenv a g true QS) n (.send .none) (s1.setGen g .running)) →
      codeAny (model X.prog X.w) A (.builtin "any.loop" ⟨[.ref a], []⟩) Rr s1 := by
  intro n
  induction n with
  | zero =>
    intro s1 hg hl hgo
    refine codeAny_builtin F.entry_any_loop ?_
    rw [Around.under_plainId F.plain_any_loop _]
    refine wpAny_bind (gx_next (A := A.in1) I hfp hh hd hg hl hgo (fun H' s2 I2 q => ?_) (fun H' s2 I2 q => ?_) fun b m s2 hm => absurd hm (Nat.succ_ne_zero m).symm)
    · refine wpAny_bind (wpAny_holding (wpAny_truthy_bool ?_))
      refine wpAny_bind (wpAny_letGo ?_)
      simp only [if_true]
      exact wpAny_bind (wpAny_rule (wpAny_pure (hS H' s2 I2 q)))
    · exact wpAny_bind (wpAny_rule (wpAny_pure (hE H' s2 I2 q)))
  | succ n ih =>
    intro s1 hg hl hgo
    refine codeAny_builtin F.entry_any_loop ?_
    rw [Around.under_plainId F.plain_any_loop _]
    refine wpAny_bind (gx_next (A := A.in1) I hfp hh hd hg hl hgo (fun H' s2 I2 q => ?_) (fun H' s2 I2 q => ?_) fun b m s2 hm hb hg2 hl2 hgo2 => ?_)
    · refine wpAny_bind (wpAny_holding (wpAny_truthy_bool ?_))
      refine wpAny_bind (wpAny_letGo ?_)
      simp only [if_true]
      exact wpAny_bind (wpAny_rule (wpAny_pure (hS H' s2 I2 q)))
    · exact wpAny_bind (wpAny_rule (wpAny_pure (hE H' s2 I2 q)))
    · cases Nat.succ.inj hm
      refine wpAny_bind (wpAny_holding (wpAny_truthy_bool ?_))
      refine wpAny_bind (wpAny_letGo ?_)
      cases b with
      | true => exact absurd rfl hb
      | false =>
        simp only [Bool.false_eq_true, if_false]
        exact wpAny_pure ⟨plainId_quiet F.plain_any_loop _, ih s2 hg2 hl2 hgo2⟩
end
end K0

set_option Elab.async false
set_option linter.all false
set_option maxRecDepth 100000
set_option maxHeartbeats 4000000
namespace K0
open PySem PySem.Spec PyProof.Rows L2 GenW

/-- a generator that has not begun, at a, ready for a reader that stops at d -/
def ReadyX (X : Cx) (pins : List (Addr × Obj)) (σ : L2.St) (d : Bool) (QS QE : Hp → Prop) (a : Addr) (s5 : Shared) : Prop :=
  ∃ (sB : Shared) (HB : Hp) (fp : List Addr) (cenv : Env) (g n : Nat), Inv X pins σ HB sB ∧ (∀ b ∈ fp, FpOk X pins HB b) ∧ s5.heap.IsGen a g ∧ s5.heap.NoLimit ∧
    ∃ gs, s5.gens[g]? = some gs ∧ gs.Goes (model X.prog X.w) X.A.in1.in1 (gxR X sB HB fp cenv a g QE) (gxY X sB HB fp cenv a g d QS) n (.send .none) (s5.setGen g .running)

/-- the scope of a generator expression: its own names by their slots, or captured ones -/
structure GxOk (N : List Str) (sc scope : Scope) (own : List (Str × Nat)) : Prop where
  blk : BlkOk N sc scope own
  nc : ∀ y ∈ scope.names, y.2 ≠ .cell
  co : scope.isCoroutine = false
  dot : scope.names.lookup (".0" : Str) = some NameKind.local

section
variable {X : Cx} {pins : List (Addr × Obj)} {σ : L2.St} {H : Hp} {s : Shared} {c P : Addr} {tg elt iter : Expr} {scope : Scope} {gpos : Pos} {own : List (Str × Nat)} {wi : TI} {tgr : TG} {te : TE} {d : Bool} {QS QE : Hp → Prop} {k : Nat}

theorem gx_make (hr : Room (k + 1) X.A) (hc : X.calm = true) (TB : GxR.TabB X.base X.mg c P) (hcode : X.env.code = .ref c) (ok : GxOk X.N X.env.scope scope own) (hN : X.N.Nodup) (hi : PI X tg iter wi)
    (hg : ∀ (A : Around) (s : Shared) (H : Hp) (C : Addr) (code : Value) (fp : List Addr) (a : Addr) (go : Obj), PG (gcx X A s H (genv X scope C code) fp a go) tg tgr)
    (he : ∀ (A : Around) (s : Shared) (H : Hp) (C : Addr) (code : Value) (fp : List Addr) (a : Addr) (go : Obj), Room k A → PE (gcx X A s H (genv X scope C code) fp a go) elt te)
    (hs : ∀ v, genFold iter X.env v = pure v) (I : Inv X pins σ H s)
    (h : wi σ H fun J H1 => GxR.TabG H1 P ∧ ∀ H2, GxR.Tabbed P H1 H2 → ∃ W : Nat → Nat → Hp → Prop, (∃ m, W 0 m H2) ∧ TurnsOk J (own.map (·.2)) σ tgr te d QS QE W) :
    wpAny (model X.prog X.w) X.A (eval (.GeneratorExp elt [⟨tg, iter, [], 0⟩] scope gpos) X.env) (fun u s5 => ∃ a : Addr, u = .ref a ∧ ReadyX X pins σ d QS QE a s5) X.xe s := by
  have hfree : ∀ y ∈ scope.names, y.2 = .free → ∃ c, X.env.cells.lookup y.1 = some c := fun y hy e => by
    rcases ok.blk.free y hy e with q | q
    · exact I.ok.has _ (.inl q)
    · exact I.ok.has _ (.inr q)
  have hdep := hr.dp
  have hun := hr.un
  refine wpAny_GeneratorExp_make ok.co (closure_ok hfree) ok.nc ok.dot ok.blk.kind (by omega) ?_ hs
  refine thn (hi.run pins s σ H _ I h) fun v s1 h1 => thn h1 fun itv s2 h2 => ?_
  obtain ⟨it, fp, tn, J, H1, rfl, I1, T, st1, f1, ⟨ps, hP, ht⟩, hW⟩ := h2
  refine ⟨I1.nolimit, ?_⟩
  have hPs : s2.heap.get? P = some { cls := .none, data := .fields ps } := I1.hok P _ hP
  have cd : PySem.W.CodeHd s2.heap c P := TB.code.keeps I1.bk
  have cont : ∀ (code : Value) (h3 : Heap) (tk : Nat) (ps' : Array Value), Heap.ExtBut P s2.heap h3 → s2.heap.objs.size ≤ h3.objs.size → h3.get? P = some { cls := .none, data := .fields ps' } → (∃ more, ps' = ps ++ more) → TriplesOk ps'.toList →
      wpAny (model X.prog X.w) X.A (builtinsFor X.env.globals X.env.builtins) (fun bi s₄ => ∀ h', h'.Ns s₄.heap.objs.size (fun y => if y = ".0" then some (Value.ref it) else none) → Heap.SameBut s₄.heap.objs.size (s₄.heap.push { cls := .type "frame", data := .dict #[] }) h' →
          ∃ a : Addr, Value.ref h'.objs.size = .ref a ∧ ReadyX X pins σ d QS QE a { s₄ with
            gens := s₄.gens.push (.fresh (.compStart (.GeneratorExp elt [⟨tg, iter, [], 0⟩] scope gpos) 0 (.ref it) .none (genEnv scope (cloFrom X.env.cells scope.names []) s₄.heap.objs.size code bi X.env))),
            toks := s₄.toks + 1 + 1 + 1,
            heap := h'.push { cls := .type "generator", data := .fields #[.int s₄.gens.size 0, .str "<genexpr>" (s₄.toks + 1), .str (X.env.qual ++ "<genexpr>") (s₄.toks + 1 + 1)] } }) X.xe { s2 with heap := h3, toks := tk } := by
    intro code h3 tk ps' hx hsz hP3 hmore ht3
    obtain ⟨bm, ob, e1, e2, e3, e4, e5, e6, e7, e8⟩ := TB.bm
    refine wpAny_builtinsFor (m := X.mg) (by rw [I1.ok.glob]; exact (I1.mod.glob.keeps I1.bk).extBut hx TB.gP) e1 e2 (hx _ _ e4 (I1.bk _ _ e5)) e6 e7 e8 ?_
    intro h' hn' hs'
    obtain ⟨more, rfl⟩ := hmore
    have I3 : Inv X pins σ (upd H1 P (.tbl (ps ++ more))) { s2 with heap := h3, toks := tk } := GxR.inv_tab (g' := s2.gens) (d' := s2.drawn) I1 hP (fun b o hb e => hx b o hb e) hP3 I1.bare
    have nP : ∀ {b}, H1 b = none → b ≠ P := fun e z => by rw [z, hP] at e; cases e
    have f3 : ∀ b ∈ fp, FpOk X pins (upd H1 P (.tbl (ps ++ more))) b := fun b hb => by
      obtain ⟨q0, q1⟩ := f1 b hb
      exact ⟨by rw [upd_ne (nP q0)]; exact q0, q1⟩
    have lt3 : ∀ b ∈ fp, b < h3.objs.size := fun b hb => by
      obtain ⟨o, e, _⟩ := T.obj _ _ st1 b hb
      exact Nat.lt_of_lt_of_le (Heap.lt_size e) hsz
    obtain ⟨W, ⟨m, w⟩, turn⟩ := hW _ ⟨⟨ps ++ more, upd_same, ht3⟩, fun b hb => upd_ne hb⟩
    have hsz' : h'.objs.size = h3.objs.size + 1 := by rw [hs'.1, Heap.size_push]
    have kp' : ∀ b o, h3.get? b = some o → h'.get? b = some o := fun b o e => hs'.extBut b o (Nat.ne_of_lt (Heap.lt_size e)) (Heap.get?_push_of_some _ e)
    refine ⟨h'.objs.size, rfl, { s2 with heap := h3, toks := tk }, upd H1 P (.tbl (ps ++ more)), fp, genv X scope h3.objs.size code, s2.gens.size, m + 1, I3, f3, ⟨_, _, _, Heap.get?_push_size _ rfl, rfl, rfl, rfl⟩,
      I3.nolimit.keeps fun b o e => Heap.get?_push_of_some _ (kp' b o e), _, Array.getElem?_push_size .., ?_⟩
    have hcn : ∀ {y cc}, (cloFrom X.env.cells scope.names []).lookup y = some cc → X.env.cells.lookup y = some cc := fun e => (clo_look hfree e).1
    refine ⟨rfl, gx_start (X := X) (s := { s2 with heap := h3, toks := tk }) (H := upd H1 P (.tbl (ps ++ more))) (σ := σ) (own := own.map (·.2)) (B := X.A.in1.in1) (J := J) (tn := tn) (W := W) (go := { cls := .type "generator", data := .fields #[.int s2.gens.size 0, .str "<genexpr>" (tk + 1), .str (X.env.qual ++ "<genexpr>") (tk + 1 + 1)] }) hc (fun h e => ⟨_, _, _, e, rfl, rfl, rfl⟩) T ok.co
      (hg _ _ _ _ _ _ _ _) (he _ _ _ _ _ _ _ _ ⟨hr.hd, ?_, ?_⟩) (fun b hb H' hn => ⟨hn, Nat.ne_of_lt (lt3 b hb), fun z => ?_, .inl hb, fun y cc e => (f3 b hb).2.2.2.2.1 y cc (hcn e), fun p hp => ?_⟩) turn (Nat.lt_succ_self m) w
      ?_ ?_ fun b hb => (f3 b hb).1⟩
    · show X.A.depth + 0 + 1 + 3 * k + 5 < _
      omega
    · show X.A.units + 1 + 1 + 0 + 3 + 16 * k + 200 < _
      omega
    · rcases List.mem_cons.mp (I3.stkSub b z) with q | q
      · exact (f3 b hb).2.1 q
      · exact (f3 b hb).2.2.1 q
    · have hp' : p.1 = h'.objs.size := by
        have z : p ∈ [(h'.objs.size, _)] ++ ([] : List (Addr × Obj)) := hp
        rw [List.append_nil] at z
        rw [List.mem_singleton.mp z]
      rw [hp', hsz']
      exact Nat.ne_of_gt (Nat.lt_succ_of_lt (lt3 b hb))
    · refine gen_start I3 ok.blk hN ok.nc (fun b hb => ⟨f3 b hb, lt3 b hb⟩) (fun _ => hr.hd) ?_ ?_ ?_ (fun b o e => Heap.get?_push_of_some _ (kp' b o e)) (hn'.push _) ?_ (Heap.get?_push_size _ rfl) fun v z => nomatch z
      · show X.A.frames.map _ = _
        rw [I3.ok.frames] <;> rfl
      · rfl
      · exact allBare_setGen (AllBare.push I3.bare rfl) rfl
      · show h3.objs.size < h'.objs.size
        rw [hsz']
        exact Nat.lt_succ_self _
    · exact T.keep _ _ _ st1 fun b hb o e => Heap.get?_push_of_some _ (kp' b o (hx b o (nP (f1 b hb).1) e))
  cases hf : codeAmong gpos ps.toList with
  | none =>
    refine wpAny_genexprCodeX hcode (cd.code hPs ht) (cd.tab hPs) hf fun c' h' tk hx hge hlt hco' _ htab' _ => ?_
    obtain ⟨o1, vs, f1', tf, fl, tg', inF, tx, tt, op, _, _, _, _, _, _, _, _, _, htr, _⟩ := hco'
    exact cont _ h' tk _ hx (Nat.le_trans hge (Nat.le_of_lt hlt)) htab'.2 ⟨_, rfl⟩ htr
  | some cv =>
    refine wpAny_genexprCode_hit hcode (cd.code hPs ht) hf ?_
    exact cont cv s2.heap s2.toks ps (Heap.ExtBut.refl _ _) (Nat.le_refl _) hPs ⟨#[], by simp⟩ ht

/-- all(..) where d is False, any(..) where d is True -/
def tGx (P : Addr) (d : Bool) (own : List Nat) (wi : TI) (tgr : TG) (te : TE) : TE := fun σ H Q => wi σ H fun J H1 => GxR.TabG H1 P ∧ ∀ H2, GxR.Tabbed P H1 H2 →
  ∃ W : Nat → Nat → Hp → Prop, (∃ m, W 0 m H2) ∧ TurnsOk J own σ tgr te d (Q (.bl d)) (Q (.bl !d)) W

theorem pe_allX {p pos : Pos} (hr : Room (k + 1) X.A) (hgl : Gl X "all") (hm : X.mg "all" = none) (hc : X.calm = true) (TB : GxR.TabB X.base X.mg c P) (hcode : X.env.code = .ref c) (ok : GxOk X.N X.env.scope scope own) (hN : X.N.Nodup) (hi : PI X tg iter wi)
    (hg : ∀ (A : Around) (s : Shared) (H : Hp) (C : Addr) (code : Value) (fp : List Addr) (a : Addr) (go : Obj), PG (gcx X A s H (genv X scope C code) fp a go) tg tgr)
    (he : ∀ (A : Around) (s : Shared) (H : Hp) (C : Addr) (code : Value) (fp : List Addr) (a : Addr) (go : Obj), Room k A → PE (gcx X A s H (genv X scope C code) fp a go) elt te)
    (hs : ∀ v, genFold iter X.env v = pure v := by intro _; rfl)
    (hse : starEach [.GeneratorExp elt [⟨tg, iter, [], 0⟩] scope gpos] X.env = (false, eval (.GeneratorExp elt [⟨tg, iter, [], 0⟩] scope gpos) X.env) :: starEach [] X.env := by rfl) :
    PE X (.Call (.Name "all" p) [.GeneratorExp elt [⟨tg, iter, [], 0⟩] scope gpos] [] pos) (tGx P false (own.map (·.2)) wi tgr te) := by
  refine ⟨fun pins s σ H Q I h => ?_⟩
  refine wpAny_Call_Name_kw (ld_blt I hgl hm (by decide +kernel : bootBuiltins "all" = some (.builtin "all")) ?_)
  refine PyProof.Rows.callWith_builtin1 ?_ hse (by rfl)
  rw [hse]
  show wpAny _ _ (spliced ((false, eval (.GeneratorExp elt [⟨tg, iter, [], 0⟩] scope gpos) X.env) :: backTo pos (starEach [] X.env))) _ _ s
  refine Calls.spliced_cons (thn (gx_make (d := false) hr hc TB hcode ok hN hi hg he hs I h) fun u s5 hu => ?_)
  obtain ⟨a, rfl, sB, HB, fp, cenv, g, n, IB, fB, hgen, hlim, hgo⟩ := hu
  refine Calls.spliced_nil ?_
  refine call_function_tree F.kind_all F.plain_all F.entry_all (F.args_all1 _) ?_
  unfold Builtin.«all»
  refine wpAny_bind (m := oneArg "all" _) (wpAny_pure ?_)
  refine wpAny_bind (wpAny_pyIter_gen hgen ?_)
  exact wpAny_pure ⟨plainId_quiet F.plain_all_loop _, all_read IB fB hr.hd hr.depth (fun H' s2 I2 q => ⟨.bl false, H', I2, rfl, q⟩) (fun H' s2 I2 q => ⟨.bl true, H', I2, rfl, q⟩) n s5 hgen hlim hgo⟩

theorem pe_anyX {p pos : Pos} (hr : Room (k + 1) X.A) (hgl : Gl X "any") (hm : X.mg "any" = none) (hc : X.calm = true) (TB : GxR.TabB X.base X.mg c P) (hcode : X.env.code = .ref c) (ok : GxOk X.N X.env.scope scope own) (hN : X.N.Nodup) (hi : PI X tg iter wi)
    (hg : ∀ (A : Around) (s : Shared) (H : Hp) (C : Addr) (code : Value) (fp : List Addr) (a : Addr) (go : Obj), PG (gcx X A s H (genv X scope C code) fp a go) tg tgr)
    (he : ∀ (A : Around) (s : Shared) (H : Hp) (C : Addr) (code : Value) (fp : List Addr) (a : Addr) (go : Obj), Room k A → PE (gcx X A s H (genv X scope C code) fp a go) elt te)
    (hs : ∀ v, genFold iter X.env v = pure v := by intro _; rfl)
    (hse : starEach [.GeneratorExp elt [⟨tg, iter, [], 0⟩] scope gpos] X.env = (false, eval (.GeneratorExp elt [⟨tg, iter, [], 0⟩] scope gpos) X.env) :: starEach [] X.env := by rfl) :
    PE X (.Call (.Name "any" p) [.GeneratorExp elt [⟨tg, iter, [], 0⟩] scope gpos] [] pos) (tGx P true (own.map (·.2)) wi tgr te) := by
  refine ⟨fun pins s σ H Q I h => ?_⟩
  refine wpAny_Call_Name_kw (ld_blt I hgl hm boot_any ?_)
  refine PyProof.Rows.callWith_builtin1 ?_ hse (by rfl)
  rw [hse]
  show wpAny _ _ (spliced ((false, eval (.GeneratorExp elt [⟨tg, iter, [], 0⟩] scope gpos) X.env) :: backTo pos (starEach [] X.env))) _ _ s
  refine Calls.spliced_cons (thn (gx_make (d := true) hr hc TB hcode ok hN hi hg he hs I h) fun u s5 hu => ?_)
  obtain ⟨a, rfl, sB, HB, fp, cenv, g, n, IB, fB, hgen, hlim, hgo⟩ := hu
  refine Calls.spliced_nil ?_
  refine call_function_tree F.kind_any F.plain_any F.entry_any (F.args_any1 _) ?_
  unfold Builtin.«any»
  refine wpAny_bind (m := oneArg "any" _) (wpAny_pure ?_)
  refine wpAny_bind (wpAny_pyIter_gen hgen ?_)
  exact wpAny_pure ⟨plainId_quiet F.plain_any_loop _, any_read IB fB hr.hd hr.depth (fun H' s2 I2 q => ⟨.bl true, H', I2, rfl, q⟩) (fun H' s2 I2 q => ⟨.bl false, H', I2, rfl, q⟩) n s5 hgen hlim hgo⟩
end
end K0

set_option Elab.async false
set_option linter.all false
set_option maxRecDepth 100000
set_option maxHeartbeats 4000000
/-! enumerate(t), t a tuple, with a target of several names. -/
namespace K0
open PySem PySem.Spec PyProof.Rows L2

/-- enumerate(v) of anything that begins -/
theorem meets_enum1 {v : Value} {o : Obj} {Hh : Heap → Prop} (B : Begins v o Hh) :
    Meets (Builtin.«enumerate.__new__» ⟨[.type "enumerate", v], []⟩) (fun _ R s => Hh s.heap ∧
      R (.ok (.ret (.ref (s.heap.push o).objs.size))) { s with heap := (s.heap.push o).push { cls := .type "enumerate", data := .fields #[.none, .bool false, .ref s.heap.objs.size, rawInt 0, .none, .none] } }) :=
  .of_wp fun prog w A R s h => by
    obtain ⟨hp, g, d, tk, os⟩ := s
    obtain ⟨h1, h⟩ := h
    have hsub := sub_enumerate
    have q1 : ∀ {A' : Around} {E : Value → Shared → Prop} {Q : Value → Shared → Prop}, Q (.ref hp.objs.size) ⟨hp.push o, g, d, tk, os⟩ → wpAny (model prog w) A' (pyIter v) Q E ⟨hp, g, d, tk, os⟩ :=
      fun q => B.iter prog w _ _ ⟨hp, g, d, tk, os⟩ _ h1 q
    wp_walk using q1
    refine wpAny_stack_any fun st => wpAny_pure ?_
    split
    · rename_i c _ _ _ _ _
      cases (c == Value.type "enumerate") <;> (wp_walk using q1; exact ⟨_, rfl, h⟩)
    · wp_walk using q1
      exact ⟨_, rfl, h⟩

theorem call_enum1 {prog : Program} {w : World} {A : Around} {E : Value → Shared → Prop} {s : Shared} {v : Value} {o : Obj} {Hh : Heap → Prop} {Q : Value → Shared → Prop} (B : Begins v o Hh) (h1 : Hh s.heap)
    (h : ∀ h', IsEnum h' (s.heap.objs.size + 1) s.heap.objs.size 0 .none → h'.get? s.heap.objs.size = some o → (∀ b ob, s.heap.get? b = some ob → h'.get? b = some ob) → Q (.ref (s.heap.objs.size + 1)) { s with heap := h' }) :
    wpAny (model prog w) A (call (.type "enumerate") [v]) Q E s := by
  refine callType_new F.called_enumerate (by decide) (F.typeCall_enumerate_1 _) (F.newCall_enumerate_1 _) (fun obj => F.args_object_init_2 obj _) F.entry_enumerate_new (meets_enum1 B) ⟨h1, ?_⟩
  have hz : (s.heap.push o).objs.size = s.heap.objs.size + 1 := Heap.size_push ..
  show _ ∧ _
  rw [hz]
  have he : IsEnum ((s.heap.push o).push { cls := .type "enumerate", data := .fields #[.none, .bool false, .ref s.heap.objs.size, rawInt 0, .none, .none] }) (s.heap.objs.size + 1) s.heap.objs.size 0 .none := by
    have q := Heap.get?_push_size (s.heap.push o) (o := { cls := .type "enumerate", data := .fields #[.none, .bool false, .ref s.heap.objs.size, rawInt 0, .none, .none] }) rfl
    rw [hz] at q
    exact q
  exact ⟨⟨_, he, rfl⟩, h _ he (Heap.get?_push_of_some _ (Heap.get?_push_size _ B.free)) fun b ob x => Heap.get?_push_of_some _ (Heap.get?_push_of_some _ x)⟩

/-- the tuple at a, each item in a new pair with its place -/
def IteT (K : PySem.W.Frag) (a : Addr) : It :=
  ⟨fun i H => ∃ (xs : List V) (x : V), SqT K H a xs ∧ xs[i]? = some x, fun i H v H' => ∃ T x, v = .ref T ∧ H T = none ∧ H' = upd H T (.tup [.int (i : Nat), x]) ∧ ∀ xs, SqT K H a xs → xs[i]? = some x, fun i H => ∃ xs : List V, SqT K H a xs ∧ xs.length = i⟩

theorem turn_enumT {P : Program} {w : World} {K : PySem.W.Frag} {elts : List Expr} {kk : Nat} {tpos : Pos} (a e it : Addr) :
    Turn P w K (.Tuple elts kk tpos) (IteT K a) [e, it] e (fun i h => (∃ old, IsEnum h e it ((i : Nat) : Int) old) ∧ h.IsTupleIter it a i ∧ e ≠ it) where
  mem := by simp
  obj := fun i h st b hb => by
    obtain ⟨⟨old, he⟩, ⟨o, ho, hc, hd⟩, _⟩ := st
    have e' : b = e ∨ b = it := by simpa using hb
    rcases e' with rfl | rfl
    · exact ⟨_, he, fun v q => nomatch q⟩
    · exact ⟨o, ho, fun v q => by rw [hd] at q; cases q⟩
  keep := fun i h h' st k => by
    obtain ⟨⟨old, he⟩, hi, hne⟩ := st
    exact ⟨⟨old, k e (by simp) _ he⟩, hi.at fun o q => k it (by simp) o q, hne⟩
  item := by
    intro X hP hw hK hc i pins s σ H E I hf st hg
    subst hP hw hK
    obtain ⟨⟨old, he⟩, hit, hne⟩ := st
    obtain ⟨xs, x, hq, hx⟩ := hg
    obtain ⟨its, rv, p, hz⟩ := I.tuple hq
    have hT : s.heap.IsTuple a its.toArray := p
    have hel : e < s.heap.objs.size := Heap.lt_size he
    have hil : it < s.heap.objs.size := by obtain ⟨_, q, _⟩ := hit; exact Heap.lt_size q
    have nea : e ≠ a := fun z => by
      obtain ⟨o, q, c, _⟩ := hT
      rw [← z, he] at q
      cases q
      injection c with c
      exact absurd c (by decide)
    have nia : a ≠ it := fun z => by
      obtain ⟨o, q, c, _⟩ := hT
      obtain ⟨o', q', c', _⟩ := hit
      rw [z, q'] at q
      cases q
      rw [c'] at c
      injection c with c
      exact absurd c (by decide)
    have D : Draws X.prog X.w X.A.in1 it [it, a] its.toArray.size (fun i v => its.toArray[i]? = some v) (fun i h => h.IsTupleIter it a i ∧ h.IsTuple a its.toArray) := Draws.tuple (A := X.A.in1) (I.ok.hd hc) it a nia its.toArray
    have hlt : i < its.toArray.size := by
      obtain ⟨u, hu, _⟩ := rv.get hx
      have := (List.getElem?_eq_some_iff.mp hu).1
      simpa using this
    refine wpAny_pyNext_enum_itemD D he ⟨hit, hT⟩ hlt hne (by simp [hne, nea]) fun u h' tk hu ho hit' hT' hsz hk => ?_
    obtain ⟨u', hu', ru⟩ := rv.get hx
    have eu : u = u' := by
      have q : its[i]? = some u := by simpa using hu
      rw [q] at hu'
      exact Option.some.inj hu'
    subst eu
    refine ⟨_, rfl, wpAny_letOwnedTupleGo_enum (s := { s with heap := h', toks := tk + 1 }) ho fun h'' he' sb => ?_⟩
    have hT2 : h''.get? s.heap.objs.size = some { cls := .type "tuple", data := .seq #[.int i tk, u] } := (sb.2 _ (Nat.ne_of_gt hel)).trans hT'
    have new : ObjOk X.prog X.w (upd H s.heap.objs.size (.tup [.int (i : Nat), x])) h'' s.heap.objs.size (.tup [.int (i : Nat), x]) :=
      ⟨by show 2 ≤ sizeLine; decide, [.int i tk, u], .cons ⟨_, rfl⟩ (.cons ru .nil), ⟨_, hT2, rfl, _, rfl⟩⟩
    have I1 : Inv X pins σ (upd H s.heap.objs.size (.tup [.int (i : Nat), x])) { s with heap := h'', toks := tk + 1 } :=
      I.turnedNew (ch := [e, it]) (fun b ob hb q => (sb.2 b (fun z => hb (by simp [z]))).trans (hk b ob (fun z => hb (by simp [z])) (fun z => hb (by simp [z])) q)) hf (Nat.le_refl _) new
    refine ⟨.ref s.heap.objs.size, _, I1, rfl, ⟨_, x, rfl, I.hok.fresh (Nat.le_refl _), rfl, fun ys hy => by rw [I.tuple_inj hy hq]; exact hx⟩, ⟨⟨u, ?_⟩, hit'.1.at fun o q => (sb.2 it (Ne.symm hne)).trans q, hne⟩, fun b hb => ?_⟩
    · have e1 : ((i + 1 : Nat) : Int) = (i : Int) + 1 := by omega
      rw [e1]
      exact he'
    · have hb' : b < s.heap.objs.size := by
        have e' : b = e ∨ b = it := by simpa using hb
        rcases e' with rfl | rfl
        · exact hel
        · exact hil
      rw [upd_ne (Nat.ne_of_lt hb')]
      exact (hf b hb).1
  done := by
    intro X hP hw hK hc i pins s σ H E I hf st hg
    subst hP hw hK
    obtain ⟨⟨old, he⟩, hit, hne⟩ := st
    obtain ⟨xs, hq, hx⟩ := hg
    obtain ⟨its, rv, p, hz⟩ := I.tuple hq
    have hT : s.heap.IsTuple a its.toArray := p
    have nia : a ≠ it := fun z => by
      obtain ⟨o, q, c, _⟩ := hT
      obtain ⟨o', q', c', _⟩ := id hit
      rw [z, q'] at q
      cases q
      rw [c'] at c
      injection c with c
      exact absurd c (by decide)
    obtain ⟨f0, f1, f2, f3, f4, f5⟩ := hf it (by simp)
    have hl := rv.length
    have hsz : its.toArray.size = i := by
      rw [List.size_toArray]
      omega
    refine wpAny_pyNext_enum_endD (Draws.tuple (A := X.A.in1) (I.ok.hd hc) it a nia its.toArray) he ⟨hsz ▸ hit, hT⟩ fun h' eb => ⟨rfl, I.turned (t' := s.toks) (fun b o hb q => eb b o hb q) f0 f1 f3 f4 f5⟩
  self := fun A i s Q E st h => let ⟨⟨_, he⟩, _⟩ := st; wpAny_pyIter_enum he h

def iEnumT (K : PySem.W.Frag) (ta : TA) : TI := fun σ H R => ta σ H fun vs H1 => ∃ a xs, vs = [.ref a] ∧ SqT K H1 a xs ∧ R (IteT K a) H1
theorem pi_enumT {X : Cx} {e : Expr} {ta : TA} {p pos tpos : Pos} {elts : List Expr} {kk : Nat} (hg : Gl X "enumerate") (hm : X.mg "enumerate" = none) (ha : PA X [e] ta) (hs : starEach [e] X.env = [(false, eval e X.env)] := by rfl) :
    PI X (.Tuple elts kk tpos) (.Call (.Name "enumerate" p) [e] [] pos) (iEnumT X.K ta) := by
  refine ⟨fun pins s σ H R I h => ?_⟩
  refine Call_ (ld_blt I hg hm boot_enumerate (PyProof.Rows.callWith_type1 (thn (ha.run pos pins s σ H _ I h) fun us s1 h1 => ?_) hs rfl))
  obtain ⟨vs, H1, I1, r1, a, xs, rfl, hq, q⟩ := h1
  cases r1 with
  | cons r rr =>
    cases rr
    cases r
    obtain ⟨its, rv, p', hz⟩ := I1.tuple hq
    refine call_enum1 (begins_tuple a its.toArray) (show s1.heap.IsTuple a its.toArray from p') fun h' he hit hk => wpAny_pyIter_enum he ?_
    have I2 : Inv X pins σ H1 { s1 with heap := h' } := I1.kept (t' := s1.toks) hk
    refine ⟨s1.heap.objs.size + 1, [s1.heap.objs.size + 1, s1.heap.objs.size], _, _, H1, rfl, I2, turn_enumT a (s1.heap.objs.size + 1) s1.heap.objs.size, ⟨⟨.none, he⟩, ⟨_, hit, rfl, rfl⟩, Nat.succ_ne_self _⟩, fun b hb => ?_, q⟩
    have hle : s1.heap.objs.size ≤ b := by
      have e' : b = s1.heap.objs.size + 1 ∨ b = s1.heap.objs.size := by simpa using hb
      rcases e' with z | z
      · rw [z]; exact Nat.le_add_right _ _
      · rw [z]; exact Nat.le_refl _
    exact I1.fpOk hle (I1.hok.fresh hle)
end K0

set_option Elab.async false
set_option linter.all false
set_option maxRecDepth 100000
set_option maxHeartbeats 4000000
/-! The mirror: values, codes, names, in plain Lean. -/
namespace K0
open PySem PySem.Spec PyProof.Rows L2

inductive Val where
  | truth (b : Bool) | number (i : Int) | option (x : Str) | options (xs : List Str) | text (x : Str)
  deriving DecidableEq

def cLetters : Str := "abcdefghijklmnopqrstuvwxyz"
def cDigits : Str := "0123456789"
def cWords : List Str := ["if", "then", "else", "or", "and", "not", "yes", "no", "row"]

def codeOf : Val → Str
  | .truth b => if b then "yes" else "no"
  | .number i => ((toString i : String) : Str)
  | .option x => ("." : Str) ++ x
  | .options xs => ("[" : Str) ++ Txt.join "," xs ++ "]"
  | .text x => ("\"" : Str) ++ x

def inStr (c : Nat) (z : Str) : Bool := decide (c ∈ z.cps.toList)
def nameSign (c : Nat) : Bool := inStr c cLetters || inStr c cDigits
def isName (x : Str) : Bool :=
  match x.cps.toList with
  | [] => false
  | c :: r => decide ((c :: r).length ≤ 6) && inStr c cLetters && !(decide (x ∈ cWords)) && (c :: r).all nameSign

def digitsOf (x : Str) : Str := if cutS x none (some 1) = ("-" : Str) then cutS x (some 1) none else x
def numberOf (x : Str) : Option Int :=
  match (digitsOf x).cps.toList with
  | [] => none
  | c :: r => if (c :: r).any (fun k => !inStr k cDigits) = true then none else if c = 48 ∧ x ≠ ("0" : Str) then none else intText? x

def strLt (a b : Str) : Bool := decide (a.cps.toList < b.cps.toList)
def ascends : List Str → Bool
  | a :: b :: r => strLt a b && ascends (b :: r)
  | _ => true
def namesOf (x : Str) : List Str := Txt.split (cutS x (some 1) (some (-1))) ","
def optionsOf (x : Str) : Option (List Str) :=
  if x = ("[]" : Str) then some []
  else if (decide (x.cps.toList.head? = some 91) && decide (x.cps.toList.getLast? = some 93) && (namesOf x).all isName && ascends (namesOf x)) = true then some (namesOf x) else none

def valueOf (x : Str) : Option Val :=
  if x = ("yes" : Str) then some (.truth true) else if x = ("no" : Str) then some (.truth false)
  else if cutS x none (some 1) = ("\"" : Str) then some (.text (cutS x (some 1) none))
  else if cutS x none (some 1) = ("." : Str) then (if isName (cutS x (some 1) none) = true then some (.option (cutS x (some 1) none)) else none)
  else if cutS x none (some 1) = ("[" : Str) then (optionsOf x).map .options
  else (numberOf x).map .number

/-- what the law draws -/
def goods : List Val :=
  [.truth false, .truth true] ++ ([0, -1, 9999, -9999, 123456] : List Int).map Val.number ++ (List.range 900).map (fun k : Nat => Val.number ((k : Int) - 450)) ++
  ([ "a", "b2", "yes1", "x"] : List Str).map Val.option ++ [.options [], .options ["a"], .options ["a", "b"], .options ["b2", "c", "zz"]] ++
  (["", "yes", "12", ".a", "[a]", "a\"b", " ", "\n", "no"] : List Str).map Val.text
def wrongs : List Str := ["", "-0", "01", "+1", "1.0", "Yes", ".", ".if", ".toolongs", "[", "[a", "a]", "[b,a]", "[a,a]", "[a, b]", "[,]", "[if]", "a", "-", "--1", "[A]", ".a b"]

theorem wrongs_none : wrongs.all (fun x => decide (valueOf x = none)) = true := by decide +kernel
theorem goods_back : goods.all (fun v => decide (valueOf (codeOf v) = some v)) = true := by decide +kernel
end K0

set_option Elab.async false
set_option linter.all false
set_option maxRecDepth 100000
set_option maxHeartbeats 4000000
/-! A def called in one known place (what runs around it is told: repr asks that no repr is under way), repr of data. -/
namespace K0
open PySem PySem.Spec PyProof.Rows L2

/-- the promise of the def at f where A is what runs around the call -/
structure FnAt (P : Program) (w : World) (K : PySem.W.Frag) (mg : Str → Option Value) (base : Heap) (A : Around) (f : Addr) (fd : FuncData) (ps : List Str) (sp : Sp) : Prop where
  len : ∀ vs H Q E, sp vs H Q E → vs.length = ps.length
  run : ∀ (outer : List Env) (s : Shared) (H : Hp) (args : Args) (us : List Value) (vs : List V) (Q : VK), Env0 P w K mg base A outer s H → BindsTo s fd args (ps.zip us) → Vals vs us → sp vs H Q E0 →
    codeAny (model P w) A (.call (.ref f) args) (CR CX0 outer P w H s Q E0) s

theorem Fun.at {P : Program} {w : World} {K : PySem.W.Frag} {mg : Str → Option Value} {base : Heap} {x qual : Str} {st : Stmt} {f : Addr} {fd : FuncData} {N ps : List Str} {k : Nat} {sp : Sp} {A : Around} (F : Fun K x qual st f fd) (S : FnScope N ps (defScope st)) (hr : Room (k + 1) A)
    (len : ∀ vs H Q E, sp vs H Q E → vs.length = ps.length)
    (hbody : ∀ (cdv : Value) (outer : List Env) (s : Shared) (H : Hp) (vs : List V) (Q : VK), Room k (A.deeper (envOfC qual (defScope st) s.heap.objs.size f cdv)) → sp vs H Q E0 →
      ∃ t, PSs (cxOf CX0 P w K mg base N qual (defScope st) f cdv A outer s H E0).nox (defBody st) t ∧ t { nx := fun _ H' => Q .non H', rt := Q } (start N vs) H) : FnAt P w K mg base A f fd ps sp := by
  obtain ⟨oc, od, kV, doc, pm, an, cdv, ct, osl, rfl, lk, hcd⟩ := F.ex
  refine ⟨len, fun outer s H args us vs Q e0 hb r hsp => ?_⟩
  have heap : ∀ b o, base.get? b = some o → s.heap.get? b = some o := fun b o e => (e0.bs b o e).1
  refine codeAny_call_function hr.depth ((e0.mod.kin.keeps heap) _ _ lk) rfl S.co S.gen rfl (PySem.W.codeRec_of (e0.mod.kin.keeps heap) hcd) (hb _ _ _ _ ?_)
  refine wpAny_newFunctionEnv_cells S.kind (fun y hy => ?_) fun env he s1 x => ?_
  · rcases S.par y.1 (List.of_mem_zip (a := y.1) (b := y.2) hy).1 with q | q
    · exact .inl q
    · exact .inr ⟨q, PySem.W.cellsFrom_some _ _ _ (.inl q)⟩
  subst he
  refine ⟨(e0.mod.nolimit.keeps heap).keeps x.toInCall.keep, codeAny_func ?_⟩
  obtain ⟨t, ht, hq⟩ := hbody cdv outer s H vs Q (hr.deeper _) hsp
  have I := inv_start (CX := CX0) (E := E0) (P := P) (w := w) S hr.hd e0 (len _ _ _ _ hsp) r x
  refine wpAny_mono (ht.nox.run [] s1 (start N vs) H _ I hq) (fun fl s' hs => ?_) fun e s' hs => hs
  cases fl with
  | ret u =>
    obtain ⟨v, σ', H', J, rv, q⟩ := hs
    exact ⟨v, H', J.os, J.bare, J.base, J.hok, rv, q⟩
  | next =>
    obtain ⟨σ', H', J, q⟩ := hs
    exact ⟨.non, H', J.os, J.bare, J.base, J.hok, rfl, q⟩
  | brk => obtain ⟨_, _, _, q⟩ := hs; exact q.elim
  | cont => obtain ⟨_, _, _, q⟩ := hs; exact q.elim

section
variable {X : Cx} {f : Addr} {fd : FuncData} {ps : List Str} {sp : Sp} {x : Str} {p pos : Pos} {e : Expr} {es : List Expr} {t : TA}
theorem pe_callAt (F : FnAt X.prog X.w X.K X.mg X.base X.A f fd ps sp) (hg : Gl X x) (hm : X.mg x = some (.ref f)) (hk : PySem.W.keepIn X.K (.ref f) = true) (hb : Binds X.K fd ps []) (ha : PA X (e :: es) t)
    (hdb : (x == ("__debug__" : Str)) = false := by decide) (he : starEach (e :: es) X.env = (false, eval e X.env) :: starEach es X.env := by rfl) (hpl : (backTo pos (starEach es X.env)).any (·.1) = false := by rfl) :
    PE X (.Call (.Name x p) (e :: es) [] pos) (tCall sp [] E0 t) := by
  refine ⟨fun pins s σ H Q I h => ?_⟩
  refine wpAny_Call_Name_kw (ld_glob I hg hm ?_ hdb)
  refine PySem.W.callWith_K (h₀ := X.base) I.ok.mod.kin hk (thn (ha.run pos pins s σ H _ I h) fun us s1 h1 => ?_) he hpl
  obtain ⟨vs, H1, I1, r, q⟩ := h1
  refine ⟨I1.kIn, ?_⟩
  rw [List.append_nil] at q
  have hl : (us ++ []).length = ps.length := by
    rw [List.append_nil, ← r.length]
    exact F.len _ _ _ _ q
  have hb' := hb s1 us I1.kIn hl
  rw [List.append_nil] at hb'
  refine wpAny_call (codeAny_mono (F.run X.stack s1 H1 ⟨us, []⟩ us vs Q I1.env0 hb' r q) fun rr s' hq => ?_)
  cases rr with
  | error e => exact hq.elim
  | ok fl =>
    cases fl with
    | ret u => exact I1.after hq
    | next => exact hq.elim
    | brk => exact hq.elim
    | cont => exact hq.elim
end

/-! ### repr -/
def rRepr (K : PySem.W.Frag) : List V → Hp → VK → Prop := fun xs H Q => ∃ (a : Addr) (d : PyData), xs = [.ref a] ∧ Dp K H (.ref a) d ∧ d.showable = true ∧ d.hasDict = false ∧ d.depth ≤ 100 ∧ d.shown.length ≤ sizeLine ∧ Q (.str d.shown) H
theorem call_repr {X : Cx} {k : Nat} (hr : Room k X.A) (hgd : X.A.guards = some []) : CallR X (.builtin "repr") (rRepr X.K) := by
  intro pins s σ H xs us Q I r h
  obtain ⟨a, d, rfl, hd, h1, h2, h3, h4, q⟩ := h
  cases r with
  | cons r rr =>
    cases rr
    cases r
    obtain ⟨as, rd⟩ := Dp.reads I d _ _ hd rfl
    have hu := hr.un
    refine repr_of_reads' rd h1 (fun z => by rw [h2] at z; cases z) hgd (by omega) (fun _ _ e => e) (fun h' u tk kp => ?_) h4
    exact ⟨.str d.shown, H, I.kept kp, ⟨u, rfl⟩, q⟩
end K0

set_option Elab.async false
set_option linter.all false
set_option maxRecDepth 100000
set_option maxHeartbeats 4000000
/-! The law's end: from the law's promise at the place from which the claim calls it. -/
namespace K0
open PySem PySem.Spec PyProof.Rows L2

/-- what is tracked at the entry: the tables Ts, and the script at a (where it is no object of the top) -/
def H0 (K : PySem.W.Frag) (Ts : List Addr) (a : Addr) (vs : List Value) (ns : List Int) : Hp := fun b =>
  if b ∈ Ts then some (.tbl #[]) else if b = a ∧ (K.lookup a).isNone = true then some (.frz { cls := .type "list", data := .seq vs.toArray } (.lst (ns.map V.int))) else none

section
variable {K : PySem.W.Frag} {Ts : List Addr} {a : Addr} {vs : List Value} {ns : List Int}
theorem H0_tab {b : Addr} (h : b ∈ Ts) : H0 K Ts a vs ns b = some (.tbl #[]) := if_pos h
theorem H0_scr (h : a ∉ Ts) (hk : K.lookup a = none) : H0 K Ts a vs ns a = some (.frz { cls := .type "list", data := .seq vs.toArray } (.lst (ns.map V.int))) :=
  (if_neg h).trans (if_pos ⟨rfl, by rw [hk] <;> rfl⟩)
theorem H0_cases {b : Addr} {u : HO} (e : H0 K Ts a vs ns b = some u) :
    (b ∈ Ts ∧ u = .tbl #[]) ∨ (b = a ∧ K.lookup a = none ∧ u = .frz { cls := .type "list", data := .seq vs.toArray } (.lst (ns.map V.int))) := by
  unfold H0 at e
  split at e
  · rename_i h
    exact .inl ⟨h, (Option.some.inj e).symm⟩
  · split at e
    · rename_i h
      exact .inr ⟨h.1, Option.isNone_iff_eq_none.mp h.2, (Option.some.inj e).symm⟩
    · cases e
end

theorem law_at {P : Program} {w : World} {K : PySem.W.Frag} {mg mb : Str → Option Value} {fa a : Addr} {cs : List (Addr × Addr)} {fd : FuncData} {x : Str} {sp : Sp} {s : Shared} {vs : List Value} {ns : List Int}
    (KX : K.In s.heap) (hns : s.heap.Ns mainGlobals mg) (hb : s.heap.Ns builtinsNs mb) (hbb : ∀ x : Str, x ≠ "__name__" → mb x = bootBuiltins x) (hlim : s.heap.NoLimit) (hg : s.gens = #[])
    (hT : ∀ p ∈ cs, s.heap.get? p.2 = some { cls := .none, data := .fields #[] }) (nT : ∀ p ∈ cs, K.lookup p.2 = none) (hC : ∀ p ∈ cs, PySem.W.CodeHd s.heap p.1 p.2)
    (hbm : ∃ (bm : Addr) (ob : Obj), mg "__builtins__" = some (.ref bm) ∧ bm ≠ builtinsNs ∧ s.heap.get? bm = some ob ∧ ob.cls = .type "module" ∧ ob.dict = some builtinsNs ∧ ob.data = .plain)
    (ha : s.heap.get? a = some { cls := .type "list", data := .seq vs.toArray }) (hi : IntsAre vs ns) (hl : ns.length ≤ sizeLine)
    (F : ∀ base : Heap, K.In base → base.Ns mainGlobals mg → (∀ p ∈ cs, GxR.TabB base mg p.1 p.2) → FnAt P w K mg base callerA fa fd [x] sp) (hbind : ∀ (s : Shared) (u : Value), BindsTo s fd ⟨[u], []⟩ [(x, u)])
    (hsp : ∀ H : Hp, (∀ p ∈ cs, H p.2 = some (.tbl #[])) → SqL K H a (ns.map V.int) → sp [.ref a] H (fun v _ => v = .bl true) E0) :
    codeAny (model P w) callerA (.call (.ref fa) ⟨[.ref a], []⟩) (fun r s' => r = .ok (.ret (.bool true)) ∧ OldK s.heap s'.heap ∧ s'.os = s.os ∧ AllBare s'.gens) s := by
  have tabOf : ∀ {b : Addr}, b ∈ cs.map (·.2) → ∃ p ∈ cs, p.2 = b := fun hb => by
    obtain ⟨p, hp, e⟩ := List.mem_map.mp hb
    exact ⟨p, hp, e⟩
  have inTs : ∀ {p : Addr × Addr}, p ∈ cs → p.2 ∈ cs.map (·.2) := fun hp => List.mem_map.mpr ⟨_, hp, rfl⟩
  have aT : a ∉ cs.map (·.2) := fun z => by
    obtain ⟨p, hp, e⟩ := tabOf z
    have q := hT p hp
    rw [e, ha] at q
    cases q
  generalize hH : H0 K (cs.map (·.2)) a vs ns = H
  have cas : ∀ {b : Addr} {u : HO}, H b = some u → (b ∈ cs.map (·.2) ∧ u = .tbl #[]) ∨ (b = a ∧ K.lookup a = none ∧ u = .frz { cls := .type "list", data := .seq vs.toArray } (.lst (ns.map V.int))) := fun e => by
    rw [← hH] at e
    exact H0_cases e
  have atT : ∀ {b : Addr}, b ∈ cs.map (·.2) → H b = some (.tbl #[]) := fun h => by
    rw [← hH]
    exact H0_tab h
  -- what is neither a table nor the script is not tracked
  have off : ∀ {b : Addr} {o : Obj}, s.heap.get? b = some o → o.data ≠ .fields #[] → (∀ ws m, o.data ≠ .seq ws m) → H b = none := fun {b o} e h1 h2 => by
    cases q : H b with
    | none => rfl
    | some u =>
      rcases cas q with ⟨z, _⟩ | ⟨z, _⟩
      · obtain ⟨p, hp, ep⟩ := tabOf z
        have e2 := hT p hp
        rw [ep, e] at e2
        cases e2
        exact absurd rfl h1
      · rw [z, ha] at e
        cases e
        exact absurd rfl (h2 _ _)
  have nsB : ∀ {b : Addr} {m : Str → Option Value}, s.heap.Ns b m → (hidT s.heap H).Ns b m := fun {b m} h => by
    obtain ⟨o, es, ep, e, d, r⟩ := h
    exact ⟨o, es, ep, hidT_get e (off e (fun z => by rw [d] at z; cases z) fun ws n z => by rw [d] at z; cases z), d, r⟩
  have kB : K.In (hidT s.heap H) := fun b o e => hidT_get (KX b o e) (by
    cases q : H b with
    | none => rfl
    | some u =>
      rcases cas q with ⟨z, _⟩ | ⟨z, hk, _⟩
      · obtain ⟨p, hp, ep⟩ := tabOf z
        rw [← ep, nT p hp] at e
        cases e
      · rw [z, hk] at e
        cases e)
  have mod : L2.Mod K mg (hidT s.heap H) := ⟨kB, nsB hns, ⟨mb, nsB hb, hbb⟩, let ⟨mc, h1, h2⟩ := hlim; ⟨mc, nsB h1, h2⟩⟩
  have hok : HOk P w H s.heap := fun b u e => by
    rcases cas e with ⟨z, rfl⟩ | ⟨rfl, _, rfl⟩
    · obtain ⟨p, hp, ep⟩ := tabOf z
      have e2 := hT p hp
      rw [ep] at e2
      exact e2
    · have e2 : ObjOk P w H s.heap b (.lst (ns.map V.int)) := ⟨by rw [List.length_map]; exact hl, vs, _, vals_ints hi, ha⟩
      exact ⟨ha, e2⟩
  have e0 : Env0 P w K mg (hidT s.heap H) callerA [] s H :=
    ⟨rfl, mod, fun b o e => of_hidT e, Nat.le_of_eq (hidT_size _ _), trivial, fun b z => by simp [frs] at z, hok, .of_eq hg⟩
  have hS : SqL K H a (ns.map V.int) := by
    cases hk : K.lookup a with
    | none =>
      have z := H0_scr (vs := vs) (ns := ns) aT hk
      rw [hH] at z
      exact .inl (.inr ⟨_, z⟩)
    | some o =>
      have e := KX a o hk
      rw [ha] at e
      cases e
      exact .inr ⟨_, vs.toArray, _, hk, rfl, rfl, rfl, by rw [List.size_toArray, hi.length]; exact hl, by simpa using vals_ints hi⟩
  have TB : ∀ p ∈ cs, GxR.TabB (hidT s.heap H) mg p.1 p.2 := fun p hp => by
    have e2 := hT p hp
    have nG : mainGlobals ≠ p.2 := fun z => by
      obtain ⟨o, es, ep, e, d, _⟩ := hns
      rw [z, e2] at e
      cases e
      cases d
    refine ⟨?_, ?_, nG⟩
    · obtain ⟨o, us, file, tf, flags, tg, inF, text, tt, e, r1, r2, r3, r⟩ := hC p hp
      refine ⟨o, us, file, tf, flags, tg, inF, text, tt, hidT_get e (off e (fun z => ?_) fun ws n z => ?_), r1, r2, r3, r⟩
      · rw [r2] at z
        injection z with z
        rw [z] at r3
        simp at r3
      · rw [r2] at z
        cases z
    · obtain ⟨bm, ob, b1, b2, b3, b4, b5, b6⟩ := hbm
      refine ⟨bm, ob, b1, b2, fun z => ?_, fun z => ?_, hidT_get b3 (off b3 (fun z => ?_) fun ws n z => ?_), b4, b5, b6⟩
      · obtain ⟨o, es, ep, e, d, _⟩ := hns
        rw [z, e] at b3
        cases b3
        rw [d] at b6
        cases b6
      · rw [z, e2] at b3
        cases b3
        cases b6
      · rw [b6] at z
        cases z
      · rw [b6] at z
        cases z
  refine codeAny_mono ((F _ kB (nsB hns) TB).run [] s H ⟨[.ref a], []⟩ [.ref a] [.ref a] _ e0 (hbind s (.ref a)) (.cons rfl .nil) (hsp H (fun p hp => atT (inTs hp)) hS)) fun r s' h => ?_
  cases r with
  | error e => exact h.elim
  | ok fl =>
    cases fl with
    | next => exact h.elim
    | brk => exact h.elim
    | cont => exact h.elim
    | ret u =>
      obtain ⟨v, H', os, bare, un, hok', rv, q⟩ := h
      obtain rfl : v = .bl true := q
      obtain rfl : u = Value.bool true := rv
      have key : ∀ b o, b ∉ cs.map (·.2) → s.heap.get? b = some o → s'.heap.get? b = some o := fun b o nb e => by
        cases q : H b with
        | none => exact un.keep b o e q (fun z => by simp [frs] at z) (by simp)
        | some u =>
          rcases cas q with ⟨z, _⟩ | ⟨rfl, _, rfl⟩
          · exact absurd z nb
          · have e3 := (hok' b _ (un.frzs b _ _ q)).1
            rw [ha] at e
            cases e
            exact e3
      have grown : ∀ b, b ∈ cs.map (·.2) → ∃ more : Array Value, s'.heap.get? b = some { cls := .none, data := .fields more } := fun b hb => by
        obtain ⟨more, z⟩ := un.tbls b #[] (atT hb)
        exact ⟨_, hok' b _ z⟩
      refine ⟨rfl, ⟨fun b o e => ?_, fun b o e => ?_⟩, os, bare⟩
      · by_cases hb : b ∈ cs.map (·.2)
        · obtain ⟨p, hp, rfl⟩ := tabOf hb
          obtain ⟨more, hm⟩ := grown _ hb
          have e2 := hT p hp
          rw [e] at e2
          cases e2
          exact .inr (.inl ⟨((hC p hp).tab (hT p hp)).isCodeTable, rfl, #[], more, rfl, by rw [Array.empty_append]; exact hm⟩)
        · exact .inl (key b o hb e)
      · by_cases hb : b ∈ cs.map (·.2)
        · obtain ⟨more, hm⟩ := grown _ hb
          exact ⟨_, hm⟩
        · exact ⟨o, key b o hb e⟩

/-- what the head leaves of the defs' tables -/
abbrev TabsOf (q : Program) (mg : Str → Option Value) (h : Heap) : Prop :=
  ∀ d ∈ recsOf q, ∃ a o fd c P, mg d.name = some (.ref a) ∧ h.get? a = some o ∧ o.data = .func fd ∧ fd.code = .ref c ∧ h.IsCode c P #[] ∧ h.TableAt c P #[]

/-- the law's promise at the head's heap -/
def LawG (l : PySem.W.OpenLaw) (w : World) (K : PySem.W.Frag) (n : Nat) (x : Str) (mg : Str → Option Value) (fa : Addr) (h : Heap) : Prop :=
  ∃ (fd : FuncData) (cs : List (Addr × Addr)) (sp : Sp), (∀ p ∈ cs, h.get? p.2 = some { cls := .none, data := .fields #[] }) ∧ (∀ p ∈ cs, K.lookup p.2 = none) ∧ (∀ p ∈ cs, PySem.W.CodeHd h p.1 p.2) ∧ (∀ (s : Shared) (u : Value), BindsTo s fd ⟨[u], []⟩ [(x, u)]) ∧
    (∀ (H : Hp) (a : Addr) (ns : List Int), ns.length ≤ n → (∀ p ∈ cs, H p.2 = some (.tbl #[])) → SqL K H a (ns.map V.int) → sp [.ref a] H (fun v _ => v = .bl true) E0) ∧
    ∀ base : Heap, K.In base → base.Ns mainGlobals mg → (∀ p ∈ cs, GxR.TabB base mg p.1 p.2) → FnAt l.prog w K mg base callerA fa fd [x] sp

theorem walk_g {l : PySem.W.OpenLaw} {n : Nat} {q : Program} {loose : List Str} {XP : (Str → Option Value) → Heap → Prop} {YP : World → Heap → Prop} {d : DefRec} {K : Params → PySem.W.Frag} {x : Str}
    (hn : l.most = some n) (hn2 : n ≤ sizeLine) (hdf : d.params.defaults = []) (hY : ∀ (w : World) (h : Heap), YP w h → (K w.params).In h)
    (F : ∀ (w : World) (mg : Str → Option Value) (fa : Addr) (h : Heap), (K w.params).In h → h.Ns mainGlobals mg → TabsOf q mg h → mg d.name = some (.ref fa) → LawG l w (K w.params) n x mg fa h) :
    PySem.W.WalkO q loose XP YP l.row.toRowW d [] (fun f vs => PySem.call f vs) := by
  refine Att.attach_callB hn hdf fun w s₀ s₁ mg mb fa o pm cd doc a vs ns G Y ho hd hcd hmg hobj hints hlen _ hg => ?_
  obtain ⟨fd, cs, sp, hT, nT, hC, hb, hsp, hF⟩ := F w mg fa _ (hY w _ Y) G.T.g G.T.tab hmg
  exact law_at (hY w _ Y) G.T.g G.T.b G.T.builtins G.T.nolimit hg hT nT hC G.T.bmain hobj hints (Nat.le_trans hlen hn2) hF hb fun H hH hS => hsp H a ns hlen hH hS
end K0

set_option Elab.async false
set_option linter.all false
set_option maxRecDepth 100000
set_option maxHeartbeats 4000000
/-! The text by places, what the top leaves, the heaps between the defs. -/
namespace K0
open PySem PySem.Spec PyProof.Rows L2

def topS (i : Nat) : Stmt := PySem.Challenge.pw_formflow_k00_values_coded.main.body.getD i (.Pass ⟨0, 0, 0, 0⟩)

/-- a def that holds generator expressions: its code object at c -/
structure FunT (K : PySem.W.Frag) (x qual : Str) (st : Stmt) (f : Addr) (fd : FuncData) (c : Addr) : Prop where
  ex : ∃ (oc : Value) (od : Option Addr) (kV doc pm : Value) (an : Option Addr) (ct : Value) (osl : Array (Option Value)),
    fd = PySem.W.fnOf x qual (defArgs st) (defBody st) (defScope st) .none kV doc pm an (.ref c) ct ∧ K.lookup f = some ⟨oc, od, .func fd, osl⟩ ∧ PySem.W.codeIn K (.ref c) qual = true
  kp : PySem.W.keepIn K (.ref f) = true
theorem FunT.toFun {K : PySem.W.Frag} {x qual : Str} {st : Stmt} {f c : Addr} {fd : FuncData} (F : FunT K x qual st f fd c) : Fun K x qual st f fd := by
  obtain ⟨oc, od, kV, doc, pm, an, ct, osl, e, l, h⟩ := F.ex
  exact ⟨⟨oc, od, kV, doc, pm, an, .ref c, ct, osl, e, l, h⟩, F.kp⟩
theorem FunT.ok {P : Program} {w : World} {K : PySem.W.Frag} {mg : Str → Option Value} {base : Heap} {x qual : Str} {st : Stmt} {f c : Addr} {fd : FuncData} {N ps : List Str} {k : Nat} {sp : Sp} (F : FunT K x qual st f fd c) (S : FnScope N ps (defScope st)) (len : ∀ vs H Q E, sp vs H Q E → vs.length = ps.length)
    (hbody : ∀ (A : Around) (outer : List Env) (s : Shared) (H : Hp) (vs : List V) (Q : VK) (E : XK), Room k (A.deeper (envOfC qual (defScope st) s.heap.objs.size f (.ref c))) → sp vs H Q E →
      ∃ t, PSs (cxOf CX0 P w K mg base N qual (defScope st) f (.ref c) A outer s H E).nox (defBody st) t ∧ t { nx := fun _ H' => Q .non H', rt := Q } (start N vs) H) : FnOk P w K mg base CX0 (k + 1) f fd ps sp := by
  obtain ⟨oc, od, kV, doc, pm, an, ct, osl, rfl, lk, hcd⟩ := F.ex
  refine fn_of lk hcd S len fun A outer s H vs Q E hr hsp => ?_
  obtain ⟨t, h, q⟩ := hbody A outer s H vs Q E hr hsp
  exact ⟨t, h.nox, q⟩

/-- what the top leaves: constants; built-ins that are still their own -/
structure Tx (K : PySem.W.Frag) (mg : Str → Option Value) : Prop where
  letters : ∃ t, mg "LETTERS" = some (.str cLetters t)
  digits : ∃ t, mg "DIGITS" = some (.str cDigits t)
  words : ∃ a, mg "WORDS" = some (.ref a) ∧ ∀ H, SqT K H a (cWords.map V.str)
  nmost : ∃ t, mg "NAME_MOST" = some (.int 6 t)
  umost : ∃ t, mg "NUMBER_MOST" = some (.int 9999 t)
  len : mg "len" = none
  any : mg "any" = none
  all : mg "all" = none
  str : mg "str" = none
  int : mg "int" = none
  tuple : mg "tuple" = none
  enum : mg "enumerate" = none
  isi : mg "isinstance" = none
  bool : mg "bool" = none
  repr : mg "repr" = none
  range : mg "range" = none

/-! ### heaps -/
abbrev NoTab (o : HO) : Prop := ∀ ps, o ≠ .tbl ps
/-- all but tables is kept, the tables Ps stand -/
structure Ext (Ps : List Addr) (H H' : Hp) : Prop where
  tab : ∀ P ∈ Ps, GxR.TabG H' P
  keep : ∀ b o, H b = some o → NoTab o → H' b = some o
abbrev Tabs (Ps : List Addr) (H : Hp) : Prop := ∀ P ∈ Ps, GxR.TabG H P
section
variable {Ps : List Addr} {H H1 H2 : Hp} {K : PySem.W.Frag} {a p : Addr} {xs : List V} {o : HO}
theorem Ext.refl (h : Tabs Ps H) : Ext Ps H H := ⟨h, fun _ _ e _ => e⟩
theorem Ext.trans (x : Ext Ps H H1) (y : Ext Ps H1 H2) : Ext Ps H H2 := ⟨y.tab, fun b o e n => y.keep b o (x.keep b o e n) n⟩
theorem Ext.tabbed {P : Addr} (h : Tabs Ps H) (t : GxR.TabG H P) (x : GxR.Tabbed P H H1) : Ext Ps H H1 := by
  refine ⟨fun Q hQ => ?_, fun b o e n => ?_⟩
  · by_cases z : Q = P
    · rw [z]; exact x.1
    · obtain ⟨ps, e, r⟩ := h Q hQ
      exact ⟨ps, by rw [x.2 Q z]; exact e, r⟩
  · by_cases z : b = P
    · obtain ⟨ps, e2, _⟩ := t
      rw [z, e2] at e
      exact absurd (Option.some.inj e).symm (n ps)
    · rw [x.2 b z]; exact e
theorem Ext.new (h : Tabs Ps H) (n : H p = none) : Ext Ps H (upd H p o) := by
  refine ⟨fun Q hQ => ?_, fun b u e _ => ?_⟩
  · obtain ⟨ps, e, r⟩ := h Q hQ
    exact ⟨ps, by rw [upd_ne (ne_of_none e n)]; exact e, r⟩
  · rw [upd_ne (ne_of_none e n)]; exact e
theorem Ext.write {u : HO} (h : Tabs Ps H) (e : H p = some u) (n : NoTab u) : Tabs Ps (upd H p o) := fun Q hQ => by
  obtain ⟨ps, e2, r⟩ := h Q hQ
  refine ⟨ps, ?_, r⟩
  rw [upd_ne]
  · exact e2
  · intro z
    rw [z, e] at e2
    exact n ps (Option.some.inj e2)
theorem Ext.seqL (x : Ext Ps H H1) (h : SqL K H a xs) : SqL K H1 a xs := by
  rcases h with (h | ⟨o, h⟩) | h
  · exact .inl (.inl (x.keep _ _ h (fun _ z => nomatch z)))
  · exact .inl (.inr ⟨o, x.keep _ _ h (fun _ z => nomatch z)⟩)
  · exact .inr h
theorem Ext.seqT (x : Ext Ps H H1) (h : SqT K H a xs) : SqT K H1 a xs := by
  rcases h with (h | ⟨o, h⟩) | h
  · exact .inl (.inl (x.keep _ _ h (fun _ z => nomatch z)))
  · exact .inl (.inr ⟨o, x.keep _ _ h (fun _ z => nomatch z)⟩)
  · exact .inr h
mutual
theorem Ext.dp (x : Ext Ps H H1) : ∀ (d : PyData) (v : V), Dp K H v d → Dp K H1 v d
  | .none, _, h => by cases h; exact .non
  | .bool b, _, h => by cases h; exact .bl b
  | .int i, _, h => by cases h; exact .int i
  | .str y, _, h => by cases h; exact .str y
  | .list ds, _, h => by
    cases h with
    | lst hs ha => exact .lst (x.seqL hs) (Ext.dpAll x ds _ ha)
  | .tuple ds, _, h => by
    cases h with
    | tup hs ha => exact .tup (x.seqT hs) (Ext.dpAll x ds _ ha)
  | .dict _, _, h => by cases h
theorem Ext.dpAll (x : Ext Ps H H1) : ∀ (ds : List PyData) (vs : List V), DpAll K H vs ds → DpAll K H1 vs ds
  | [], _, h => by cases h; exact .nil
  | d :: ds, _, h => by
    cases h with
    | cons h1 h2 => exact .cons (Ext.dp x d _ h1) (Ext.dpAll x ds _ h2)
end
end
section
variable {X : Cx} {x z : Str} {i : Int} {a : Addr} {t : Tok} {pos : Pos}
theorem pg_s (hg : Gl X x) (hm : X.mg x = some (.str z t)) (hd : (x == ("__debug__" : Str)) = false := by decide) : PE X (.Name x pos) (tC (.str z)) := pe_glob hg hm ⟨t, rfl⟩ hd
theorem pg_i (hg : Gl X x) (hm : X.mg x = some (.int i t)) (hd : (x == ("__debug__" : Str)) = false := by decide) : PE X (.Name x pos) (tC (.int i)) := pe_glob hg hm ⟨t, rfl⟩ hd
theorem pg_r (hg : Gl X x) (hm : X.mg x = some (.ref a)) (hd : (x == ("__debug__" : Str)) = false := by decide) : PE X (.Name x pos) (tC (.ref a)) := pe_glob hg hm rfl hd
/-- a built-in class as a value -/
theorem pg_ty {n : String} (hg : Gl X x) (hm : X.mg x = none) (hv : bootBuiltins x = some (.type n)) (hn : x ≠ "__name__" := by decide) (hd : (x == ("__debug__" : Str)) = false := by decide) : PE X (.Name x pos) (tC (.ty n)) := pe_bltn hg hm hv rfl hn hd
end
def gxC1 (scope : Scope) : Bool := (scope.names.all fun y => match y.2 with | .cell => false | _ => true) && !scope.isCoroutine && (match scope.names.lookup (".0" : Str) with | some .local => true | _ => false)
/-- the scope of a generator expression, by evaluation -/
theorem gxOk_by {N : List Str} {sc scope : Scope} {own : List (Str × Nat)} (h : blkC N sc scope own = true) (h2 : gxC1 scope = true) : GxOk N sc scope own := by
  unfold gxC1 at h2
  simp only [Bool.and_eq_true, List.all_eq_true] at h2
  obtain ⟨⟨h3, h4⟩, h5⟩ := h2
  refine ⟨blkOk_by h, fun y hy e => ?_, by simpa using h4, ?_⟩
  · have q := h3 y hy
    rw [e] at q
    cases q
  · split at h5
    · assumption
    · cases h5
theorem tabbed_refl {H : Hp} {P : Addr} (h : GxR.TabG H P) : GxR.Tabbed P H H := ⟨h, fun _ _ => rfl⟩
theorem tabbed_trans {H H1 H2 : Hp} {P : Addr} (x : GxR.Tabbed P H H1) (y : GxR.Tabbed P H1 H2) : GxR.Tabbed P H H2 := ⟨y.1, fun b h => (y.2 b h).trans (x.2 b h)⟩
end K0

set_option Elab.async false
set_option linter.all false
set_option maxRecDepth 100000
set_option maxHeartbeats 4000000
/-! The turns of all and any, by what is walked. -/
namespace K0
open PySem PySem.Spec PyProof.Rows L2

theorem ifT {b : Bool} {A B : Prop} (hb : b = true) (h : A) : if b = true then A else B := by rw [if_pos hb]; exact h
theorem ifF {b : Bool} {A B : Prop} (hb : b = false) (h : B) : if b = true then A else B := by rw [hb, if_neg Bool.false_ne_true]; exact h
theorem wipe_set {σ : L2.St} {i : Nat} {v : V} : wipe ((wipe σ [i]).set i (some v)) [i] = wipe σ [i] := by
  show ((σ.set i none).set i (some v)).set i none = σ.set i none
  rw [List.set_set, List.set_set]

/-- over a text's signs, the test pb of each; the heap stands still -/
theorem gx_text {x : Str} {H : Hp} {te : TE} {d : Bool} {QS QE : Hp → Prop} {σ : L2.St} {i0 : Nat} (pb : Nat → Bool)
    (step : ∀ (c : Nat) (H : Hp) (Q : VK), Q (.bl (pb c)) H → te ((wipe σ [i0]).set i0 (some (.str ⟨#[c]⟩))) H Q)
    (hS : x.cps.toList.any (fun c => pb c == d) = true → QS H) (hE : x.cps.toList.any (fun c => pb c == d) = false → QE H) :
    ∃ W : Nat → Nat → Hp → Prop, (∃ m, W 0 m H) ∧ TurnsOk (Its x) [i0] σ (gName i0) te d QS QE W := by
  refine ⟨fun i m H' => H' = H ∧ m = x.cps.size - i ∧ i ≤ x.cps.size ∧ ∀ (j : Nat) (c : Nat), j < i → x.cps[j]? = some c → pb c ≠ d, ⟨_, rfl, rfl, Nat.zero_le _, fun j c hj => absurd hj (Nat.not_lt_zero _)⟩, ?_⟩
  rintro i m H' ⟨rfl, rfl, hi, hb⟩
  by_cases h : i < x.cps.size
  · refine .inr ⟨h, fun v H2 hy => ?_⟩
    obtain ⟨rfl, c, hc, rfl⟩ := hy
    refine ⟨wipe_set, step c _ _ ⟨pb c, rfl, ?_⟩⟩
    by_cases hp : pb c = d
    · rw [if_pos hp]
      refine hS (List.any_eq_true.mpr ⟨c, ?_, by simp [hp]⟩)
      exact List.mem_of_getElem? (by rw [Array.getElem?_toList]; exact hc)
    · rw [if_neg hp]
      refine ⟨_, ?_, rfl, rfl, h, fun j k hj hk => ?_⟩
      · omega
      · by_cases z : j = i
        · rw [z, hc] at hk
          cases hk
          exact hp
        · exact hb j k (by omega) hk
  · have e : i = x.cps.size := by omega
    refine .inl ⟨Nat.le_of_eq e.symm, hE ?_⟩
    rw [List.any_eq_false]
    intro c hc
    obtain ⟨j, hj, ej⟩ := List.getElem_of_mem hc
    have hj' : j < x.cps.size := by simpa using hj
    have q := hb j c (by omega) (by rw [← Array.getElem?_toList, List.getElem?_eq_getElem hj, ej])
    simpa using q

/-- over a tuple's items, each a text, the test pb of each; G: what holds of the heap all the way -/
theorem gx_tup {K : PySem.W.Frag} {a : Addr} {ys : List Str} {H : Hp} {te : TE} {d : Bool} {QS QE : Hp → Prop} {σ : L2.St} {i0 : Nat} (G : Hp → Prop) (pb : Str → Bool) (h0 : G H) (hG : ∀ H, G H → SqT K H a (ys.map V.str))
    (step : ∀ (y : Str) (H : Hp) (Q : VK), y ∈ ys → G H → (∀ H', G H' → Q (.bl (pb y)) H') → te ((wipe σ [i0]).set i0 (some (.str y))) H Q)
    (hS : ∀ H, G H → ys.any (fun y => pb y == d) = true → QS H) (hE : ∀ H, G H → ys.any (fun y => pb y == d) = false → QE H) :
    ∃ W : Nat → Nat → Hp → Prop, (∃ m, W 0 m H) ∧ TurnsOk (Itt K a) [i0] σ (gName i0) te d QS QE W := by
  refine ⟨fun i m H' => G H' ∧ m = ys.length - i ∧ i ≤ ys.length ∧ ∀ (j : Nat) (y : Str), j < i → ys[j]? = some y → pb y ≠ d, ⟨_, h0, rfl, Nat.zero_le _, fun j c hj => absurd hj (Nat.not_lt_zero _)⟩, ?_⟩
  rintro i m H' ⟨g, rfl, hi, hb⟩
  by_cases h : i < ys.length
  · have ei : (ys.map V.str)[i]? = some (.str ys[i]) := by rw [List.getElem?_map, List.getElem?_eq_getElem h] <;> rfl
    refine .inr ⟨⟨_, _, hG _ g, ei⟩, fun v H2 hy => ?_⟩
    obtain ⟨rfl, hv⟩ := hy
    have ev : V.str ys[i] = v := Option.some.inj (ei.symm.trans (hv _ (hG _ g)))
    subst ev
    refine ⟨wipe_set, step ys[i] _ _ (List.getElem_mem h) g fun H3 g3 => ⟨pb ys[i], rfl, ?_⟩⟩
    by_cases hp : pb ys[i] = d
    · rw [if_pos hp]
      exact hS H3 g3 (List.any_eq_true.mpr ⟨_, List.getElem_mem h, by simp [hp]⟩)
    · rw [if_neg hp]
      refine ⟨_, ?_, g3, rfl, h, fun j k hj hk => ?_⟩
      · omega
      · by_cases z : j = i
        · rw [z, List.getElem?_eq_getElem h] at hk
          cases hk
          exact hp
        · exact hb j k (by omega) hk
  · have e : i = ys.length := by omega
    refine .inl ⟨⟨_, hG _ g, by rw [List.length_map]; omega⟩, hE _ g ?_⟩
    rw [List.any_eq_false]
    intro c hc
    obtain ⟨j, hj, ej⟩ := List.getElem_of_mem hc
    have q := hb j c (by omega) (by rw [List.getElem?_eq_getElem hj, ej])
    simpa using q
end K0

set_option Elab.async false
set_option linter.all false
set_option maxRecDepth 100000
set_option maxHeartbeats 4000000
/-! is_name -/
namespace K0
open PySem PySem.Spec PyProof.Rows L2
abbrev sName : Stmt := topS 6
theorem scName : FnScope ["text", "sign"] ["text"] (defScope sName) := ⟨rfl, rfl, rfl, by decide +kernel, rfl, by decide +kernel, by decide +kernel⟩
def spName (P : Addr) : Sp := fun vs H Q _ => ∃ x : Str, vs = [.str x] ∧ x.length ≤ 1000 ∧ GxR.TabG H P ∧ ∀ H', GxR.Tabbed P H H' → Q (.bl (isName x)) H'

theorem at_zero {α : Type} (c : α) (r : List α) : atI (c :: r) 0 = some c := by
  unfold atI ixN
  rw [if_pos (by omega), if_pos (by rw [List.length_cons]; omega)]
  rfl
theorem in_texts {x : Str} {l : List Str} : inV (.str x) (l.map V.str) = decide (x ∈ l) := by
  unfold inV
  rw [List.any_map]
  rw [Bool.eq_iff_iff, List.any_eq_true, decide_eq_true_iff]
  constructor
  · rintro ⟨y, hy, e⟩
    have e' : (y == x) = true := e
    rw [← beq_iff_eq.mp e']
    exact hy
  · intro h
    exact ⟨x, h, (beq_self_eq_true x : (x == x) = true)⟩
theorem all_of_any {l : List Nat} {p : Nat → Bool} (h : l.any (fun c => p c == false) = true) : l.all p = false := by
  obtain ⟨c, hc, e⟩ := List.any_eq_true.mp h
  rw [List.all_eq_false]
  exact ⟨c, hc, by simpa using e⟩
theorem all_of_any' {l : List Nat} {p : Nat → Bool} (h : l.any (fun c => p c == false) = false) : l.all p = true := by
  rw [List.all_eq_true]
  intro c hc
  have q := List.any_eq_false.mp h c hc
  simpa using q
section
variable {P : Program} {w : World} {K : PySem.W.Frag} {mg : Str → Option Value} {base : Heap}
theorem ok_name {f c Pt : Addr} {fd : FuncData} (F : FunT K "is_name" "is_name" sName f fd c) (T : Tx K mg) (TB : GxR.TabB base mg c Pt) : FnOk P w K mg base CX0 2 f fd ["text"] (spName Pt) := by
  refine F.ok scName (fun vs H Q E h => ?_) (fun A outer s H vs Q E hr h => ?_)
  · obtain ⟨x, rfl, _⟩ := h
    rfl
  · obtain ⟨x, rfl, hx, hT, q⟩ := h
    obtain ⟨tl, hL⟩ := T.letters
    obtain ⟨td, hD⟩ := T.digits
    obtain ⟨aw, hW, hWs⟩ := T.words
    obtain ⟨tm, hM⟩ := T.nmost
    refine ⟨_, pss_cons (ps_if (PW.pt (pw_or (pt_not (pt_chain op_le op_le pe_int (pe_callB call_len_str (by rfl) T.len PySem.boot_len (pa_cons (pv 0) pa_nil)) (pg_i rfl hM)))
        (pw_or (pt_cmpR op_notIn_sign (pe_ix ix_str (pv 0) pe_int (fun _ _ => rfl)) (pg_s rfl hL) (by rfl))
          (pw_or1 (pt_cmpR op_in_seq (pv 0) (pg_r rfl hW) (by rfl))))))
        (pss_one (ps_ret pe_bl)) pss_nil)
      (pss_one (ps_ret (pe_allX (k := 0) (own := [("sign", 1)]) hr (by rfl) T.all rfl TB rfl (gxOk_by (N := ["text", "sign"]) (sc := defScope sName) (by decide +kernel) (by decide +kernel)) scName.nd (pi_str (pv 0))
        (fun A s H C code fp a go => pg_name (i := 1) scName.nd rfl (.inl (by rfl)) (.inr (by rfl)))
        (fun A s H C code fp a go _ => pe_or (pe_cmpR op_in_sign (pv 1) (pg_s (by rfl) hL) (by rfl)) (pe_one (pe_cmpR op_in_sign (pv 1) (pg_s (by rfl) hD) (by rfl))))))), ?_⟩
    have hsz : x.length ≤ sizeLine := Nat.le_trans hx (by decide)
    have hlen : x.cps.toList.length = x.length := by simp [Str.length]
    refine ⟨_, rfl, x, rfl, hsz, _, _, rfl, rfl, _, rfl, ?_⟩
    cases hc : x.cps.toList with
    | nil =>
      rw [hc] at hlen
      have e : x.length = 0 := hlen.symm
      refine ifF (by rw [e]; decide) ⟨_, rfl, ifT rfl (ifT rfl ?_)⟩
      have z := q H (tabbed_refl hT)
      rw [show isName x = false by unfold isName; rw [hc]] at z
      exact z
    | cons c r =>
      rw [hc] at hlen
      have hl1 : (1 : Int) ≤ (x.length : Int) := by
        have : (c :: r).length = r.length + 1 := rfl
        omega
      refine ifT (decide_eq_true hl1) ⟨_, _, rfl, rfl, _, rfl, ?_⟩
      have hn : isName x = (decide ((c :: r).length ≤ 6) && inStr c cLetters && !(decide (x ∈ cWords)) && (c :: r).all nameSign) := by
        unfold isName
        rw [hc]
      by_cases h2 : (c :: r).length ≤ 6
      · refine ifF (by rw [decide_eq_true (show ((x.length : Nat) : Int) ≤ 6 by omega)] <;> rfl) ?_
        refine ⟨_, rfl, x, 0, c, rfl, rfl, hsz, by rw [hc]; exact at_zero c r, c, cLetters, rfl, rfl, _, rfl, ?_⟩
        by_cases h3 : c ∈ cLetters.cps.toList
        · refine ifF (by rw [decide_eq_true h3] <;> rfl) ?_
          refine ⟨_, rfl, aw, _, rfl, .inr (hWs _), rfl, by decide +kernel, _, rfl, ?_⟩
          by_cases h4 : x ∈ cWords
          · refine ifT (by rw [in_texts, decide_eq_true h4] <;> rfl) ?_
            have z := q H (tabbed_refl hT)
            rw [hn, decide_eq_true h4] at z
            simp at z
            exact z
          · refine ifF (by rw [in_texts, decide_eq_false h4] <;> rfl) ?_
            refine ⟨_, rfl, x, rfl, hT, fun H2 hT2 => ?_⟩
            refine gx_text nameSign (fun k H3 Q3 q3 => ⟨_, rfl, k, cLetters, rfl, rfl, _, rfl, ?_⟩) (fun hs => ?_) fun hs => ?_
            · by_cases hk : k ∈ cLetters.cps.toList
              · refine ifT (decide_eq_true hk) ?_
                have e : nameSign k = true := by unfold nameSign inStr; rw [decide_eq_true hk] <;> rfl
                rw [e] at q3
                exact q3
              · refine ifF (decide_eq_false hk) ⟨_, rfl, k, cDigits, rfl, rfl, ?_⟩
                have e : nameSign k = decide (k ∈ cDigits.cps.toList) := by unfold nameSign inStr; rw [decide_eq_false hk] <;> rfl
                rw [e] at q3
                exact q3
            · have z := q H2 hT2
              rw [hn, ← hc, all_of_any hs] at z
              simp at z
              exact z
            · have z := q H2 hT2
              rw [hn, ← hc, all_of_any' hs, hc, decide_eq_true h2, decide_eq_false h4, show inStr c cLetters = true from decide_eq_true h3] at z
              exact z
        · refine ifT (by rw [decide_eq_false h3] <;> rfl) ?_
          have z := q H (tabbed_refl hT)
          rw [hn, show inStr c cLetters = false from decide_eq_false h3] at z
          simp at z
          exact z
      · refine ifT (by rw [decide_eq_false (show ¬ ((x.length : Nat) : Int) ≤ 6 by omega)] <;> rfl) (ifT rfl ?_)
        have z := q H (tabbed_refl hT)
        rw [hn, decide_eq_false h2] at z
        simp at z
        exact z
end
end K0

set_option Elab.async false
set_option linter.all false
set_option maxRecDepth 100000
set_option maxHeartbeats 4000000
/-! Values as data at an address. -/
namespace K0
open PySem PySem.Spec PyProof.Rows L2

def kindOf : Val → Str
  | .truth _ => "truth"
  | .number _ => "number"
  | .option _ => "option"
  | .options _ => "options"
  | .text _ => "text"
def innerD : Val → PyData
  | .truth b => .bool b
  | .number i => .int i
  | .option x => .str x
  | .options xs => .tuple (xs.map .str)
  | .text x => .str x
def dat (v : Val) : PyData := .tuple [.str (kindOf v), innerD v]
def InnerAt (K : PySem.W.Frag) (H : Hp) : Val → V → Prop
  | .truth b, u => u = .bl b
  | .number i, u => u = .int i
  | .option x, u => u = .str x
  | .options xs, u => ∃ t, u = .ref t ∧ SqT K H t (xs.map V.str)
  | .text x, u => u = .str x
section
variable {K : PySem.W.Frag} {H : Hp}
theorem dpAll_strs : ∀ {xs : List Str} {vs : List V}, DpAll K H vs (xs.map PyData.str) → vs = xs.map V.str
  | [], _, h => by cases h; rfl
  | x :: xs, _, h => by
    cases h with
    | cons h1 h2 =>
      cases h1
      rw [dpAll_strs h2] <;> rfl
theorem strs_dpAll : ∀ (xs : List Str), DpAll K H (xs.map V.str) (xs.map PyData.str)
  | [] => .nil
  | x :: xs => .cons (.str x) (strs_dpAll xs)
theorem inner_of {v : Val} {u : V} (h : Dp K H u (innerD v)) : InnerAt K H v u := by
  cases v with
  | truth b => cases h; rfl
  | number i => cases h; rfl
  | option x => cases h; rfl
  | options xs =>
    cases h with
    | tup hs ha =>
      rw [dpAll_strs ha] at hs
      exact ⟨_, rfl, hs⟩
  | text x => cases h; rfl
theorem inner_dp {v : Val} {u : V} (h : InnerAt K H v u) : Dp K H u (innerD v) := by
  cases v with
  | truth b => cases h; exact .bl b
  | number i => cases h; exact .int i
  | option x => cases h; exact .str x
  | options xs =>
    obtain ⟨t, rfl, hs⟩ := h
    exact .tup hs (strs_dpAll xs)
  | text x => cases h; exact .str x
theorem dat_inv {v : Val} {x : V} (h : Dp K H x (dat v)) : ∃ a u, x = .ref a ∧ SqT K H a [.str (kindOf v), u] ∧ InnerAt K H v u := by
  cases h with
  | tup hs ha =>
    cases ha with
    | cons h1 h2 =>
      cases h2 with
      | cons h3 h4 =>
        cases h4
        cases h1
        exact ⟨_, _, rfl, hs, inner_of h3⟩
theorem dat_mk {v : Val} {a : Addr} {u : V} (hs : SqT K H a [.str (kindOf v), u]) (h : InnerAt K H v u) : Dp K H (.ref a) (dat v) :=
  .tup hs (.cons (.str _) (.cons (inner_dp h) .nil))
theorem InnerAt.ext {Ps : List Addr} {H1 : Hp} {v : Val} {u : V} (x : Ext Ps H H1) (h : InnerAt K H v u) : InnerAt K H1 v u := inner_of (x.dp _ _ (inner_dp h))
end
/-- sizes -/
def small : Val → Bool
  | .truth _ => true
  | .number i => decide (i.natAbs ≤ 200000)
  | .option x => decide (x.length ≤ 100)
  | .options xs => decide ((xs.map (·.length)).sum + xs.length ≤ 1000) && decide ((Txt.join "," xs).length ≤ 1000) && decide (xs.length ≤ 100)
  | .text x => decide (x.length ≤ 100)
theorem log_small {i : Int} (h : i.natAbs ≤ 200000) : i.natAbs.log2 < 1920 := by
  by_cases z : i.natAbs = 0
  · rw [z]
    decide
  · exact (Nat.log2_lt z).mpr (Nat.lt_of_le_of_lt h (by decide))
end K0

set_option Elab.async false
set_option linter.all false
set_option maxRecDepth 100000
set_option maxHeartbeats 4000000
/-! code_of -/
namespace K0
open PySem PySem.Spec PyProof.Rows L2
abbrev sCode : Stmt := topS 7
theorem scCode : FnScope ["value", "kind", "inner"] ["value"] (defScope sCode) := ⟨rfl, rfl, rfl, by decide +kernel, rfl, by decide +kernel, by decide +kernel⟩
def spCode (K : PySem.W.Frag) : Sp := fun vs H Q _ => ∃ x : V, vs = [x] ∧ ((x = .non ∧ Q (.str "") H) ∨ ∃ v, Dp K H x (dat v) ∧ small v = true ∧ Q (.str (codeOf v)) H)
theorem k_nt : ("number" : Str) ≠ "truth" := by decide +kernel
theorem k_ot : ("option" : Str) ≠ "truth" := by decide +kernel
theorem k_on : ("option" : Str) ≠ "number" := by decide +kernel
theorem k_op : ("option" : Str) ≠ "options" := by decide +kernel
theorem k_pt : ("options" : Str) ≠ "truth" := by decide +kernel
theorem k_pn : ("options" : Str) ≠ "number" := by decide +kernel
theorem k_po : ("options" : Str) ≠ "option" := by decide +kernel
theorem k_xt : ("text" : Str) ≠ "truth" := by decide +kernel
theorem k_xn : ("text" : Str) ≠ "number" := by decide +kernel
theorem k_xo : ("text" : Str) ≠ "option" := by decide +kernel
theorem k_xp : ("text" : Str) ≠ "options" := by decide +kernel
theorem str_ne {a b : Str} (h : a ≠ b) : decide (V.str a = V.str b) = false := decide_eq_false fun z => h (V.str.inj z)
section
variable {P : Program} {w : World} {K : PySem.W.Frag} {mg : Str → Option Value} {base : Heap}
theorem ok_code {f : Addr} {fd : FuncData} (F : Fun K "code_of" "code_of" sCode f fd) (T : Tx K mg) : FnOk P w K mg base CX0 1 f fd ["value"] (spCode K) := by
  refine F.ok scCode (fun vs H Q E h => ?_) (fun cdv A outer s H vs Q E hr h => ?_)
  · obtain ⟨x, rfl, _⟩ := h
    rfl
  · obtain ⟨x, rfl, h⟩ := h
    refine ⟨_, pss_cons (ps_if (pt_cmp (pc_isN (pv 0))) (pss_one (ps_ret pe_str)) pss_nil)
      (pss_cons (ps_asg (pv 0) (pg_tup (by rfl) (pgs_cons (pg_name (i := 1) scCode.nd rfl (.inl rfl)) (pgs_cons (pg_name (i := 2) scCode.nd rfl (.inl rfl)) pgs_nil))))
      (pss_cons (ps_if (pt_cmpR op_eq (pv 1) pe_str (nomark _)) (pss_one (ps_ret (pe_ifExp (pt_val (pv 2)) pe_str pe_str))) pss_nil)
      (pss_cons (ps_if (pt_cmpR op_eq (pv 1) pe_str (nomark _)) (pss_one (ps_ret (pe_callTy call_str_int (by rfl) T.str PyProof.Rows.boot_str (pa_cons (pv 2) pa_nil)))) pss_nil)
      (pss_cons (ps_if (pt_cmpR op_eq (pv 1) pe_str (nomark _)) (pss_one (ps_ret (pe_op op_add_str pe_str (pv 2)))) pss_nil)
      (pss_cons (ps_if (pt_cmpR op_eq (pv 1) pe_str (nomark _)) (pss_one (ps_ret (pe_op op_add_str (pe_op op_add_str pe_str (pe_join pe_str (pv 2))) pe_str))) pss_nil)
      (pss_one (ps_ret (pe_op op_add_str pe_str (pv 2))))))))), ?_⟩
    rcases h with ⟨rfl, q⟩ | ⟨v, hd, hs, q⟩
    · exact ⟨_, rfl, _, rfl, ifT (decide_eq_true rfl) q⟩
    · obtain ⟨a, u, rfl, ht, hi⟩ := dat_inv hd
      refine ⟨_, rfl, _, rfl, ifF (decide_eq_false fun z => nomatch z) ?_⟩
      refine ⟨_, rfl, a, _, rfl, ht, rfl, _, _, rfl, _, _, rfl, rfl, ?_⟩
      cases v with
      | truth b =>
        cases hi
        refine ⟨_, rfl, rfl, _, rfl, ifT (decide_eq_true rfl) ⟨_, rfl, _, rfl, ?_⟩⟩
        cases b with
        | true => exact ifT rfl q
        | false => exact ifF rfl q
      | number i =>
        cases hi
        refine ⟨_, rfl, rfl, _, rfl, ifF (str_ne k_nt) ⟨_, rfl, rfl, _, rfl, ifT (decide_eq_true rfl) ⟨_, rfl, i, rfl, log_small (of_decide_eq_true hs), q⟩⟩⟩
      | option x =>
        cases hi
        have hx : x.length ≤ 100 := of_decide_eq_true hs
        refine ⟨_, rfl, rfl, _, rfl, ifF (str_ne k_ot) ⟨_, rfl, rfl, _, rfl, ifF (str_ne k_on) ⟨_, rfl, rfl, _, rfl, ifT (decide_eq_true rfl) ⟨_, rfl, _, _, rfl, rfl, ?_, q⟩⟩⟩⟩
        show 1 + x.length ≤ sizeLine
        have : 1000 ≤ sizeLine := by decide
        omega
      | options xs =>
        obtain ⟨t, rfl, hx⟩ := hi
        unfold small at hs
        simp only [Bool.and_eq_true, decide_eq_true_eq] at hs
        obtain ⟨⟨h1, h2⟩, h3⟩ := hs
        have hz : 2000 ≤ sizeLine := by decide
        refine ⟨_, rfl, rfl, _, rfl, ifF (str_ne k_pt) ⟨_, rfl, rfl, _, rfl, ifF (str_ne k_pn) ⟨_, rfl, rfl, _, rfl, ifF (str_ne k_po) ⟨_, rfl, rfl, _, rfl, ifT (decide_eq_true rfl) ?_⟩⟩⟩⟩
        refine ⟨⟨_, rfl⟩, _, rfl, _, t, xs, rfl, rfl, .inr hx, ?_, _, _, rfl, rfl, ?_, _, _, rfl, rfl, ?_, q⟩
        · show _ + xs.length * 1 ≤ _
          omega
        · show 1 + (Txt.join "," xs).length ≤ _
          omega
        · have e : ((("[" : Str) ++ Txt.join "," xs)).length = 1 + (Txt.join "," xs).length := by
            rw [strLen_append] <;> rfl
          show (("[" : Str) ++ Txt.join "," xs).length + 1 ≤ _
          omega
      | text x =>
        cases hi
        have hx : x.length ≤ 100 := of_decide_eq_true hs
        refine ⟨_, rfl, rfl, _, rfl, ifF (str_ne k_xt) ⟨_, rfl, rfl, _, rfl, ifF (str_ne k_xn) ⟨_, rfl, rfl, _, rfl, ifF (str_ne k_xo) ⟨_, rfl, rfl, _, rfl, ifF (str_ne k_xp) ⟨_, rfl, _, _, rfl, rfl, ?_, q⟩⟩⟩⟩⟩
        show 1 + x.length ≤ sizeLine
        have : 1000 ≤ sizeLine := by decide
        omega
end
end K0

set_option Elab.async false
set_option linter.all false
set_option maxRecDepth 100000
set_option maxHeartbeats 4000000
/-! number_of -/
namespace K0
open PySem PySem.Spec PyProof.Rows L2
abbrev sNum : Stmt := topS 8
theorem scNum : FnScope ["code", "digits", "sign"] ["code"] (defScope sNum) := ⟨rfl, rfl, rfl, by decide +kernel, rfl, by decide +kernel, by decide +kernel⟩
/-- int(code) is asked only of what it reads -/
def numOk (x : Str) : Bool :=
  match (digitsOf x).cps.toList with
  | [] => true
  | c :: r => if (c :: r).any (fun k => !inStr k cDigits) = true then true else if c = 48 ∧ x ≠ ("0" : Str) then true else (intText? x).isSome
def optInt : Option Int → V
  | none => .non
  | some i => .int i
def spNum (P : Addr) : Sp := fun vs H Q _ => ∃ x : Str, vs = [.str x] ∧ x.length ≤ 600 ∧ numOk x = true ∧ GxR.TabG H P ∧ ∀ H', GxR.Tabbed P H H' → Q (optInt (numberOf x)) H'
theorem str_ext {a b : Str} (h : a.cps.toList = b.cps.toList) : a = b := by
  obtain ⟨⟨l⟩⟩ := a
  obtain ⟨⟨m⟩⟩ := b
  have e : l = m := h
  rw [e]
theorem any_eq {l : List Nat} {p : Nat → Bool} {b : Bool} (h : l.any (fun c => p c == true) = b) : l.any p = b := by
  rw [← h]
  congr 1
  funext c
  cases p c <;> rfl
section
variable {P : Program} {w : World} {K : PySem.W.Frag} {mg : Str → Option Value} {base : Heap}
theorem ok_num {f c Pt : Addr} {fd : FuncData} (F : FunT K "number_of" "number_of" sNum f fd c) (T : Tx K mg) (TB : GxR.TabB base mg c Pt) : FnOk P w K mg base CX0 2 f fd ["code"] (spNum Pt) := by
  refine F.ok scNum (fun vs H Q E h => ?_) (fun A outer s H vs Q E hr h => ?_)
  · obtain ⟨x, rfl, _⟩ := h
    rfl
  · obtain ⟨x, rfl, hx, hok, hT, q⟩ := h
    obtain ⟨td, hD⟩ := T.digits
    refine ⟨_, pss_cons (ps_set (i := 1) scNum.nd rfl (.inl rfl) (pe_ifExp (pt_cmpR op_eq (pe_slice sl_str (pv 0) po_none (po_some pe_int)) pe_str (nomark _)) (pe_slice sl_str (pv 0) (po_some pe_int) po_none) (pv 0)))
      (pss_cons (ps_if (PW.pt (pw_or (pt_cmpR op_eq (pv 1) pe_str (nomark _)) (pw_or1 (pt_val (pe_anyX (k := 0) (own := [("sign", 2)]) hr (by rfl) T.any rfl TB rfl (gxOk_by (N := ["code", "digits", "sign"]) (sc := defScope sNum) (by decide +kernel) (by decide +kernel)) scNum.nd (pi_str (pv 1))
        (fun A s H C code fp a go => pg_name (i := 2) scNum.nd rfl (.inl (by rfl)) (.inr (by rfl)))
        (fun A s H C code fp a go _ => pe_cmpR op_notIn_sign (pv 2) (pg_s (by rfl) hD) (by rfl))))))) (pss_one (ps_ret pe_non)) pss_nil)
      (pss_cons (ps_if (PW.pt (pw_and (pt_cmpR op_eq (pe_ix ix_str (pv 1) pe_int (fun _ _ => rfl)) pe_str (nomark _)) (pw_and1 (pt_cmpR op_ne (pv 0) pe_str (nomark _))))) (pss_one (ps_ret pe_non)) pss_nil)
      (pss_one (ps_ret (pe_callTy call_int_str (by rfl) T.int PyProof.Rows.boot_int (pa_cons (pv 0) pa_nil)))))), ?_⟩
    have hsz : x.length ≤ sizeLine := Nat.le_trans hx (by decide)
    -- what stands in digits
    have hdl : (digitsOf x).length ≤ sizeLine := by
      unfold digitsOf
      split
      · exact Nat.le_trans (cutS_length _ _ _) hsz
      · exact hsz
    have fst : ∀ (tl : TS) (D : Ends), (∀ d, d = digitsOf x → tl D [some (.str x), some (.str d), none] H) →
        tSeq (tAsg (tIf (tTest (tOp rEq (tSl rSlS (tVar 0) tNoPart (tPart (tC (V.int 1)))) (tC (V.str "-")))) (tSl rSlS (tVar 0) (tPart (tC (V.int 1))) tNoPart) (tVar 0)) (gName 1)) tl D [some (.str x), none, none] H := by
      intro tl D hh
      refine ⟨_, rfl, 1, rfl, x, rfl, hsz, rfl, _, rfl, ?_⟩
      by_cases hc : cutS x none (some 1) = ("-" : Str)
      · refine ifT (decide_eq_true (congrArg V.str hc)) ⟨_, rfl, 1, rfl, x, rfl, hsz, ?_⟩
        exact hh _ (by unfold digitsOf; rw [if_pos hc])
      · refine ifF (decide_eq_false fun z => hc (V.str.inj z)) ⟨_, rfl, ?_⟩
        exact hh _ (by unfold digitsOf; rw [if_neg hc])
    refine fst _ _ fun d hd => ?_
    have hq : ∀ b, numberOf x = b → ∀ H', GxR.Tabbed Pt H H' → Q (optInt b) H' := fun b hb H' h' => by
      rw [← hb]
      exact q H' h'
    refine ⟨_, rfl, rfl, _, rfl, ?_⟩
    cases hl : d.cps.toList with
    | nil =>
      have e : d = ("" : Str) := str_ext hl
      refine ifT (decide_eq_true (congrArg V.str e)) (ifT rfl (hq none ?_ H (tabbed_refl hT)))
      unfold numberOf
      rw [← hd, hl]
    | cons k r =>
      have e : d ≠ ("" : Str) := fun z => by
        rw [z] at hl
        cases hl
      refine ifF (decide_eq_false fun z => e (V.str.inj z)) ?_
      refine ⟨_, rfl, d, rfl, hT, fun H2 hT2 => ?_⟩
      have hn : numberOf x = if (k :: r).any (fun k => !inStr k cDigits) = true then none else if k = 48 ∧ x ≠ ("0" : Str) then none else intText? x := by
        unfold numberOf
        rw [← hd, hl]
      refine gx_text (fun c => !inStr c cDigits) (fun c H3 Q3 q3 => ⟨_, rfl, c, cDigits, rfl, rfl, q3⟩) (fun hs => ?_) fun hs => ?_
      · have hs' := any_eq hs
        rw [hl] at hs'
        refine ⟨_, rfl, ifT rfl (hq none ?_ H2 hT2)⟩
        rw [hn, if_pos hs']
      · have hs' := any_eq hs
        rw [hl] at hs'
        have hn2 : numberOf x = if k = 48 ∧ x ≠ ("0" : Str) then none else intText? x := by
          rw [hn, hs', if_neg Bool.false_ne_true]
        have hdz : d.length ≤ sizeLine := by rw [hd]; exact hdl
        refine ⟨_, rfl, ifF rfl ⟨_, rfl, d, 0, k, rfl, rfl, hdz, by rw [hl]; exact at_zero k r, rfl, _, rfl, ?_⟩⟩
        have tail : ¬ (k = 48 ∧ x ≠ ("0" : Str)) → ∃ n, intText? x = some n ∧ numberOf x = some n := fun hz => by
          unfold numOk at hok
          rw [← hd, hl] at hok
          dsimp only at hok
          rw [hs', if_neg Bool.false_ne_true, if_neg hz] at hok
          rw [hn2, if_neg hz]
          obtain ⟨n, e⟩ := Option.isSome_iff_exists.mp hok
          exact ⟨n, e, e⟩
        by_cases h0 : k = 48
        · refine ifT (decide_eq_true (by rw [h0] <;> rfl)) ⟨_, rfl, rfl, _, rfl, ?_⟩
          by_cases h1 : x = ("0" : Str)
          · obtain ⟨n, e1, e2⟩ := tail fun z => z.2 h1
            refine ifF (by rw [decide_eq_true (congrArg V.str h1)] <;> rfl) ⟨_, rfl, x, n, rfl, e1, by omega, hq _ e2 H2 hT2⟩
          · refine ifT (by rw [decide_eq_false fun z => h1 (V.str.inj z)] <;> rfl) (hq none ?_ H2 hT2)
            rw [hn2, if_pos ⟨h0, h1⟩]
        · obtain ⟨n, e1, e2⟩ := tail fun z => h0 z.1
          refine ifF (decide_eq_false fun z => h0 ?_) (ifF rfl ⟨_, rfl, x, n, rfl, e1, by omega, hq _ e2 H2 hT2⟩)
          have z2 := congrArg (fun y : Str => y.cps.toList) (V.str.inj z)
          have z3 : [k] = [48] := z2
          exact (List.cons.inj z3).1
end
end K0

set_option Elab.async false
set_option linter.all false
set_option maxRecDepth 100000
set_option maxHeartbeats 4000000
/-! The turns over enumerate of a tuple; names in ascending order. -/
namespace K0
open PySem PySem.Spec PyProof.Rows L2
theorem wipe_set2 {σ : L2.St} {i j : Nat} {u v : V} (h : i ≠ j) : wipe ((((wipe σ [i, j]).set i (some u)).set j (some v))) [i, j] = wipe σ [i, j] := by
  show (((((σ.set j none).set i none).set i (some u)).set j (some v)).set j none).set i none = (σ.set j none).set i none
  rw [List.set_set, List.set_set, List.set_comm (l := σ.set j none) _ _ h, List.set_set, List.set_set]
theorem gx_enum {K : PySem.W.Frag} {a : Addr} {ys : List Str} {H : Hp} {te : TE} {d : Bool} {QS QE : Hp → Prop} {σ : L2.St} {i0 j0 : Nat} (hij : i0 ≠ j0) (G : Hp → Prop) (pb : Nat → Str → Bool) (h0 : G H) (hG : ∀ H, G H → SqT K H a (ys.map V.str))
    (hN : ∀ H T o, G H → H T = none → G (upd H T o))
    (step : ∀ (i : Nat) (y : Str) (H : Hp) (Q : VK), ys[i]? = some y → G H → Q (.bl (pb i y)) H → te (((wipe σ [i0, j0]).set i0 (some (.int (i : Nat)))).set j0 (some (.str y))) H Q)
    (hS : ∀ H, G H → (∃ i y, ys[i]? = some y ∧ pb i y = d) → QS H) (hE : ∀ H, G H → (∀ i y, ys[i]? = some y → pb i y ≠ d) → QE H) :
    ∃ W : Nat → Nat → Hp → Prop, (∃ m, W 0 m H) ∧ TurnsOk (IteT K a) [i0, j0] σ (gTup K 2 (gCons (gName i0) (gCons (gName j0) gNil))) te d QS QE W := by
  refine ⟨fun i m H' => G H' ∧ m = ys.length - i ∧ i ≤ ys.length ∧ ∀ (j : Nat) (y : Str), j < i → ys[j]? = some y → pb j y ≠ d, ⟨_, h0, rfl, Nat.zero_le _, fun j c hj => absurd hj (Nat.not_lt_zero _)⟩, ?_⟩
  rintro i m H' ⟨g, rfl, hi, hb⟩
  by_cases h : i < ys.length
  · have ey : ys[i]? = some ys[i] := List.getElem?_eq_getElem h
    have ei : (ys.map V.str)[i]? = some (.str ys[i]) := by rw [List.getElem?_map, ey] <;> rfl
    refine .inr ⟨⟨_, _, hG _ g, ei⟩, fun v H2 hy => ?_⟩
    obtain ⟨T, x, rfl, nT, rfl, hv⟩ := hy
    have ev : V.str ys[i] = x := Option.some.inj (ei.symm.trans (hv _ (hG _ g)))
    subst ev
    refine ⟨T, _, rfl, .inl (.inl upd_same), rfl, _, _, rfl, _, _, rfl, rfl, wipe_set2 hij, ?_⟩
    have g2 := hN _ T (.tup [.int (i : Nat), .str ys[i]]) g nT
    refine step i ys[i] _ _ ey g2 ⟨_, rfl, ?_⟩
    by_cases hp : pb i ys[i] = d
    · rw [if_pos hp]
      exact hS _ g2 ⟨i, _, ey, hp⟩
    · rw [if_neg hp]
      refine ⟨_, ?_, g2, rfl, h, fun j k hj hk => ?_⟩
      · omega
      · by_cases z : j = i
        · subst z
          rw [ey] at hk
          cases hk
          exact hp
        · exact hb j k (by omega) hk
  · have e : i = ys.length := by omega
    refine .inl ⟨⟨_, hG _ g, by rw [List.length_map]; omega⟩, hE _ g fun j y hy => ?_⟩
    have hj : j < ys.length := (List.getElem?_eq_some_iff.mp hy).1
    exact hb j y (by omega) hy

theorem asc_true : ∀ {l : List Str}, (∀ i y z, l[i]? = some y → l[i + 1]? = some z → strLt y z = true) → ascends l = true
  | [], _ => rfl
  | [_], _ => rfl
  | a :: b :: r, h => by
    show (strLt a b && ascends (b :: r)) = true
    rw [h 0 a b rfl rfl, asc_true fun i y z e1 e2 => h (i + 1) y z e1 e2] <;> rfl
theorem asc_false : ∀ {l : List Str} {i : Nat} {y z : Str}, l[i]? = some y → l[i + 1]? = some z → strLt y z = false → ascends l = false
  | [], _, _, _, h, _, _ => by simp at h
  | [_], 0, _, _, _, h, _ => by simp at h
  | [_], i + 1, _, _, h, _, _ => by simp at h
  | a :: b :: r, 0, y, z, h1, h2, h => by
    have e1 : a = y := Option.some.inj h1
    have e2 : b = z := Option.some.inj h2
    show (strLt a b && ascends (b :: r)) = false
    rw [e1, e2, h] <;> rfl
  | a :: b :: r, i + 1, y, z, h1, h2, h => by
    show (strLt a b && ascends (b :: r)) = false
    rw [asc_false (l := b :: r) (i := i) h1 h2 h, Bool.and_false]
end K0

set_option Elab.async false
set_option linter.all false
set_option maxRecDepth 100000
set_option maxHeartbeats 4000000
/-! options_of -/
namespace K0
open PySem PySem.Spec PyProof.Rows L2
abbrev sOpts : Stmt := topS 9
abbrev nOpts : List Str := ["code", "is_right", "names", "name", "at"]
theorem scOpts : FnScope nOpts ["code"] (defScope sOpts) := ⟨rfl, rfl, rfl, by decide +kernel, rfl, by decide +kernel, by decide +kernel⟩
def OptAt (K : PySem.W.Frag) (H : Hp) : Option (List Str) → V → Prop
  | none, u => u = .non
  | some ns, u => ∃ t, u = .ref t ∧ SqT K H t (ns.map V.str)
def spOpts (K : PySem.W.Frag) (Ps : List Addr) : Sp := fun vs H Q _ => ∃ x : Str, vs = [.str x] ∧ 1 ≤ x.length ∧ x.length ≤ 600 ∧ (namesOf x).all (fun y => decide (y.length ≤ 1000)) = true ∧ namesOf x ≠ [] ∧ (namesOf x).length ≤ 1000 ∧ Tabs Ps H ∧ ∀ H' u, Ext Ps H H' → OptAt K H' (optionsOf x) u → Q u H'
section
variable {P : Program} {w : World} {K : PySem.W.Frag} {mg : Str → Option Value} {base : Heap}
theorem ok_opts {f c Pt fN PN : Addr} {fd fdN : FuncData} {Ps : List Addr} (F : FunT K "options_of" "options_of" sOpts f fd c) (T : Tx K mg) (TB : GxR.TabB base mg c Pt) (hPt : Pt ∈ Ps) (hPN : PN ∈ Ps)
    (GN : FnOk P w K mg base CX0 2 fN fdN ["text"] (spName PN)) (mN : mg "is_name" = some (.ref fN)) (kN : PySem.W.keepIn K (.ref fN) = true) (bN : Binds K fdN ["text"] []) : FnOk P w K mg base CX0 4 f fd ["code"] (spOpts K Ps) := by
  refine F.ok scOpts (fun vs H Q E h => ?_) (fun A outer s H vs Q E hr h => ?_)
  · obtain ⟨x, rfl, _⟩ := h
    rfl
  · obtain ⟨x, rfl, hx1, hx, hnl, hne, hnz, hT, q⟩ := h
    refine ⟨_, pss_cons (ps_if (pt_cmpR op_eq (pv 0) pe_str (nomark _)) (pss_one (ps_ret (pe_tup pa_nil))) pss_nil)
      (pss_cons (ps_set (i := 2) scOpts.nd rfl (.inr rfl) (pe_callTy call_tuple_of (by rfl) T.tuple PyProof.Rows.boot_tuple (pa_cons (pe_split (pe_slice sl_str (pv 0) (po_some pe_int) (po_some (pe_un un_neg pe_int))) pe_str) pa_nil)))
      (pss_cons (ps_set (i := 1) scOpts.nd rfl (.inl rfl) (pe_and (pe_cmpR op_eq (pe_ix ix_str (pv 0) pe_int (fun _ _ => rfl)) pe_str (nomark _)) (pe_and (pe_cmpR op_eq (pe_ix ix_str (pv 0) (pe_un un_neg pe_int) (fun _ _ => rfl)) pe_str (nomark _))
        (pe_one (pe_allX (k := 2) (own := [("name", 3)]) hr (by rfl) T.all rfl TB rfl (gxOk_by (N := nOpts) (sc := defScope sOpts) (by decide +kernel) (by decide +kernel)) scOpts.nd (pi_tup (pv 2))
          (fun A s H C code fp a go => pg_name (i := 3) scOpts.nd rfl (.inl (by rfl)) (.inr (by rfl)))
          (fun A s H C code fp a go hr2 => pe_call GN hr2 (by rfl) mN kN bN .nil pass0 (pa_cons (pv 3) pa_nil)))))))
      (pss_one (ps_ret (pe_ifExp (PW.pt (pw_and (pt_val (pv 1)) (pw_and1 (pt_val (pe_allX (k := 0) (tgr := gTup K 2 (gCons (gName 4) (gCons (gName 3) gNil))) (te := tOp _ (tVar 3) (tOp (rIxT K) (tVar 2) (tOp _ (tVar 4) (tC (.int 1))))) (own := [("at", 4), ("name", 3)]) (hr.mono (by decide)) (by rfl) T.all rfl TB rfl (gxOk_by (N := nOpts) (sc := defScope sOpts) (by decide +kernel) (by decide +kernel)) scOpts.nd
          (pi_enumT (by rfl) T.enum (pa_cons (pe_slice sl_tup (pv 2) po_none (po_some (pe_un un_neg pe_int))) pa_nil))
          (fun A s H C code fp a go => pg_tup (by rfl) (pgs_cons (pg_name (i := 4) scOpts.nd rfl (.inl (by rfl)) (.inr (by rfl))) (pgs_cons (pg_name (i := 3) scOpts.nd rfl (.inl (by rfl)) (.inr (by rfl))) pgs_nil)))
          (fun A s H C code fp a go _ => pe_cmpR op_lt_str (pv 3) (pe_ix ix_tup (pv 2) (pe_op op_add (pv 4) pe_int) (fun _ _ => rfl)) (nomark _))))))) (pv 2) pe_non))))), ?_⟩
    have hsz : x.length ≤ sizeLine := Nat.le_trans hx (by decide)
    refine ⟨_, rfl, rfl, _, rfl, ?_⟩
    by_cases hx0 : x = ("[]" : Str)
    · refine ifT (decide_eq_true (congrArg V.str hx0)) ⟨Nat.zero_le _, fun p np => q _ _ (Ext.new hT np) ?_⟩
      have e : optionsOf x = some [] := by
        unfold optionsOf
        rw [if_pos hx0]
      rw [e]
      exact ⟨p, rfl, .inl (.inl upd_same)⟩
    refine ifF (decide_eq_false fun z => hx0 (V.str.inj z)) ?_
    refine ⟨_, rfl, 1, rfl, 1, rfl, -1, rfl, x, rfl, hsz, ⟨_, rfl⟩, _, _, rfl, rfl, rfl, ?_, fun p np => ?_⟩
    · have h1 := cutS_length x (some 1) (some (-1))
      have h2 : 1000 ≤ sizeLine := by decide
      omega
    refine ⟨p, _, rfl, .inl ⟨.inl (.inl upd_same), fun t nt => ?_⟩⟩
    dsimp only [gName]
    generalize hH1 : upd (upd H p _) t _ = H1
    have x0 : Ext Ps H (upd H p (.lst ((Txt.split (cutS x (some 1) (some (-1))) ",").map V.str))) := Ext.new hT np
    have x1 : Ext Ps H H1 := by
      rw [← hH1]
      exact x0.trans (Ext.new x0.tab nt)
    have ht : H1 t = some (.tup ((namesOf x).map V.str)) := by
      rw [← hH1]
      exact upd_same
    have ho : optionsOf x = if (decide (x.cps.toList.head? = some 91) && decide (x.cps.toList.getLast? = some 93) && (namesOf x).all isName && ascends (namesOf x)) = true then some (namesOf x) else none := by
      unfold optionsOf
      rw [if_neg hx0]
    clear hH1 x0 nt np
    refine (fun (h1 : ∀ (tl : TS) (D : Ends), (∀ b H2, Ext Ps H1 H2 → (decide (x.cps.toList.head? = some 91) && decide (x.cps.toList.getLast? = some 93) && (namesOf x).all isName) = b → tl D [some (.str x), some (.bl b), some (.ref t), none, none] H2) → tSeq (tAsg (tAndV _ _) (gName 1)) tl D _ H1) => h1 _ _ ?_) ?_
    · -- names if is_right and all(..) else None
      intro b H2 x2 hb
      have x12 := x1.trans x2
      have ht2 : SqT K H2 t ((namesOf x).map V.str) := x2.seqT (.inl (.inl ht))
      refine ⟨_, rfl, _, rfl, ?_⟩
      cases b with
      | false =>
        refine ifF rfl (ifF rfl (q H2 .non x12 ?_))
        rw [ho, hb]
        rfl
      | true =>
        refine ifT rfl ⟨_, rfl, 1, rfl, -1, rfl, t, _, rfl, ht2, ?_, fun p np => ?_⟩
        · intro z
          have h2 := z.2
          have hl : 0 < (namesOf x).length := List.length_pos_iff.mpr hne
          rw [List.length_map] at h2
          have e : HT.sIx (namesOf x).length (namesOf x).length (some (-1)) = ((-1 : Int) + ((namesOf x).length : Int)).toNat := rfl
          rw [e] at h2
          omega
        have x3 := x12.trans (Ext.new (o := .tup (cutV ((namesOf x).map V.str) none (some (-1)))) x12.tab np)
        have hcut : cutV ((namesOf x).map V.str) none (some (-1)) = (namesOf x).dropLast.map V.str := by
          unfold cutV
          have e1 : HT.sIx ((namesOf x).map V.str).length 0 none = 0 := rfl
          have e2 : HT.sIx ((namesOf x).map V.str).length ((namesOf x).map V.str).length (some (-1)) = (namesOf x).length - 1 := by
            rw [List.length_map]
            show ((-1 : Int) + ((namesOf x).length : Int)).toNat = _
            omega
          rw [e1, e2, List.drop_zero, Nat.sub_zero, List.dropLast_eq_take, List.map_take]
        have gd : ∀ {i : Nat} {y : Str}, (namesOf x).dropLast[i]? = some y → (namesOf x)[i]? = some y ∧ i + 1 < (namesOf x).length := fun {i y} e => by
          rw [List.getElem?_dropLast] at e
          split at e
          · exact ⟨e, by omega⟩
          · cases e
        refine ⟨p, _, rfl, .inl (.inl upd_same), x3.tab Pt hPt, fun H3 hT3 => ?_⟩
        have x4 := x3.trans (Ext.tabbed x3.tab (x3.tab Pt hPt) hT3)
        refine gx_enum (by decide) (fun H' => Ext Ps H H' ∧ SqT K H' t ((namesOf x).map V.str) ∧ SqT K H' p ((namesOf x).dropLast.map V.str)) (fun i y => strLt y ((namesOf x)[i + 1]?.getD "")) ⟨x4, ?_, ?_⟩ (fun _ g => g.2.2) (fun H' T o g n => ?_) (fun i y H' Q' ey g q' => ?_) (fun H' g hs => ?_) fun H' g hs => ?_
        · exact (Ext.tabbed x3.tab (x3.tab Pt hPt) hT3).seqT ((Ext.new x12.tab np).seqT ht2)
        · rw [← hcut]
          exact (Ext.tabbed x3.tab (x3.tab Pt hPt) hT3).seqT (.inl (.inl upd_same))
        · have z := Ext.new (o := o) g.1.tab n
          exact ⟨g.1.trans z, z.seqT g.2.1, z.seqT g.2.2⟩
        · obtain ⟨e1, e2⟩ := gd ey
          have e3 : (namesOf x)[i + 1]? = some (namesOf x)[i + 1] := List.getElem?_eq_getElem e2
          have e4 : ((namesOf x).map V.str)[i + 1]? = some (.str (namesOf x)[i + 1]) := by rw [List.getElem?_map, e3] <;> rfl
          rw [e3] at q'
          have e5 : atI ((namesOf x).map V.str) ((i : Int) + 1) = some (.str (namesOf x)[i + 1]) := by
            have z := atI_nat e4
            rw [show (((i + 1 : Nat)) : Int) = (i : Int) + 1 by omega] at z
            exact z
          exact ⟨_, rfl, _, rfl, _, rfl, _, _, rfl, rfl, t, _, _, _, rfl, rfl, g.2.1, e5, _, _, rfl, rfl, q'⟩
        · obtain ⟨i, y, ey, hp⟩ := hs
          obtain ⟨e1, e2⟩ := gd ey
          have e3 : (namesOf x)[i + 1]? = some (namesOf x)[i + 1] := List.getElem?_eq_getElem e2
          rw [e3] at hp
          refine ⟨_, rfl, ifF rfl (q H' .non g.1 ?_)⟩
          rw [ho, hb, asc_false e1 e3 hp]
          rfl
        · have e : ascends (namesOf x) = true := asc_true fun i y z e1 e2 => by
            have hi : i + 1 < (namesOf x).length := (List.getElem?_eq_some_iff.mp e2).1
            have e3 : (namesOf x).dropLast[i]? = some y := by
              rw [List.getElem?_dropLast, if_pos (by omega)]
              exact e1
            have z2 := hs i y e3
            rw [e2] at z2
            simpa using z2
          refine ⟨_, rfl, ifT rfl ⟨_, rfl, q H' (.ref t) g.1 ?_⟩⟩
          rw [ho, hb, e]
          exact ⟨t, rfl, g.2.1⟩
    · intro tl D hh
      have hlen : x.cps.toList.length = x.length := by simp [Str.length]
      obtain ⟨k, r, hk⟩ : ∃ k r, x.cps.toList = k :: r := by
        cases e : x.cps.toList with
        | nil =>
          rw [e] at hlen
          have : x.length = 0 := hlen.symm
          omega
        | cons k r => exact ⟨k, r, rfl⟩
      obtain ⟨ini, l, hl⟩ : ∃ ini l, x.cps.toList = ini ++ [l] := ⟨x.cps.toList.dropLast, x.cps.toList.getLast (by rw [hk]; simp), (List.dropLast_concat_getLast _).symm⟩
      have eh : decide (x.cps.toList.head? = some 91) = decide (k = 91) := by
        rw [hk]
        simp
      have el : decide (x.cps.toList.getLast? = some 93) = decide (l = 93) := by
        rw [hl]
        simp
      have sg : ∀ (a b : Nat), decide (V.str ⟨#[a]⟩ = V.str ⟨#[b]⟩) = decide (a = b) := fun a b => by
        rw [Bool.eq_iff_iff, decide_eq_true_iff, decide_eq_true_iff]
        constructor
        · intro z
          have z2 := congrArg (fun y : Str => y.cps.toList) (V.str.inj z)
          have z3 : [a] = [b] := z2
          exact (List.cons.inj z3).1
        · rintro rfl
          rfl
      refine ⟨_, rfl, x, 0, k, rfl, rfl, hsz, by rw [hk]; exact at_zero k r, rfl, _, rfl, ?_⟩
      by_cases h1 : k = 91
      · refine ifT ((sg k 91).trans (decide_eq_true h1)) ⟨_, rfl, 1, rfl, x, -1, l, rfl, rfl, hsz, by rw [hl]; exact atI_last ini l, rfl, _, rfl, ?_⟩
        by_cases h2 : l = 93
        · refine ifT ((sg l 93).trans (decide_eq_true h2)) ⟨_, rfl, t, rfl, ⟨_, .inl (.inl ht)⟩, x1.tab Pt hPt, fun H2 hT2 => ?_⟩
          have y2 := Ext.tabbed x1.tab (x1.tab Pt hPt) hT2
          refine gx_tup (fun H' => Ext Ps H1 H') isName y2 (fun H' g => g.seqT (.inl (.inl ht))) (fun y H' Q' hy g q' => ⟨_, rfl, y, rfl, ?_, g.tab PN hPN, fun H3 h3 => q' H3 (g.trans (Ext.tabbed g.tab (g.tab PN hPN) h3))⟩) (fun H' g hs => hh false H' g ?_) fun H' g hs => hh true H' g ?_
          · exact of_decide_eq_true (List.all_eq_true.mp hnl y hy)
          · obtain ⟨y, hy, e⟩ := List.any_eq_true.mp hs
            have e2 : (namesOf x).all isName = false := List.all_eq_false.mpr ⟨y, hy, by simpa using e⟩
            rw [e2, Bool.and_false]
          · have e2 : (namesOf x).all isName = true := List.all_eq_true.mpr fun y hy => by
              have z := List.any_eq_false.mp hs y hy
              simpa using z
            rw [eh, el, decide_eq_true h1, decide_eq_true h2, e2] <;> rfl
        · refine ifF ((sg l 93).trans (decide_eq_false h2)) (hh false H1 (Ext.refl x1.tab) ?_)
          rw [el, decide_eq_false h2, Bool.and_false, Bool.false_and]
      · refine ifF ((sg k 91).trans (decide_eq_false h1)) (hh false H1 (Ext.refl x1.tab) ?_)
        rw [eh, decide_eq_false h1, Bool.false_and, Bool.false_and]
end
end K0

set_option Elab.async false
set_option linter.all false
set_option maxRecDepth 100000
set_option maxHeartbeats 4000000
/-! value_of -/
namespace K0
open PySem PySem.Spec PyProof.Rows L2
abbrev sVal : Stmt := topS 10
theorem scVal : FnScope ["code", "names", "number"] ["code"] (defScope sVal) := ⟨rfl, rfl, rfl, by decide +kernel, rfl, by decide +kernel, by decide +kernel⟩
def valOk (x : Str) : Bool := decide (x.length ≤ 600) && numOk x && (namesOf x).all (fun y => decide (y.length ≤ 1000)) && !(namesOf x).isEmpty && decide ((namesOf x).length ≤ 1000)
def ValAt (K : PySem.W.Frag) (H : Hp) : Option Val → V → Prop
  | none, u => u = .non
  | some v, u => Dp K H u (dat v)
def spVal (K : PySem.W.Frag) (Ps : List Addr) : Sp := fun vs H Q _ => ∃ x : Str, vs = [.str x] ∧ valOk x = true ∧ Tabs Ps H ∧ ∀ H' u, Ext Ps H H' → ValAt K H' (valueOf x) u → Q u H'
section
variable {P : Program} {w : World} {K : PySem.W.Frag} {mg : Str → Option Value} {base : Heap}
theorem ok_val {f fN PN fO fM PM : Addr} {fd fdN fdO fdM : FuncData} {Ps : List Addr} (F : Fun K "value_of" "value_of" sVal f fd) (hPN : PN ∈ Ps) (hPM : PM ∈ Ps)
    (GN : FnOk P w K mg base CX0 2 fN fdN ["text"] (spName PN)) (mN : mg "is_name" = some (.ref fN)) (kN : PySem.W.keepIn K (.ref fN) = true) (bN : Binds K fdN ["text"] [])
    (GO : FnOk P w K mg base CX0 4 fO fdO ["code"] (spOpts K Ps)) (mO : mg "options_of" = some (.ref fO)) (kO : PySem.W.keepIn K (.ref fO) = true) (bO : Binds K fdO ["code"] [])
    (GM : FnOk P w K mg base CX0 2 fM fdM ["code"] (spNum PM)) (mM : mg "number_of" = some (.ref fM)) (kM : PySem.W.keepIn K (.ref fM) = true) (bM : Binds K fdM ["code"] []) : FnOk P w K mg base CX0 5 f fd ["code"] (spVal K Ps) := by
  refine F.ok scVal (fun vs H Q E h => ?_) (fun cdv A outer s H vs Q E hr h => ?_)
  · obtain ⟨x, rfl, _⟩ := h
    rfl
  · obtain ⟨x, rfl, hok, hT, q⟩ := h
    unfold valOk at hok
    simp only [Bool.and_eq_true, decide_eq_true_eq, Bool.not_eq_true', List.isEmpty_eq_false_iff] at hok
    obtain ⟨⟨⟨⟨hx, hnum⟩, hnl⟩, hne⟩, hnz⟩ := hok
    have hr2 := hr.mono (show 2 ≤ 4 by decide)
    refine ⟨_, pss_cons (ps_if (pt_cmpR op_in_seq (pv 0) (pe_tup (pa_cons pe_str (pa_cons pe_str pa_nil))) (by rfl)) (pss_one (ps_ret (pe_tup (pa_cons pe_str (pa_cons (pe_cmpR op_eq (pv 0) pe_str (nomark _)) pa_nil))))) pss_nil)
      (pss_cons (ps_if (pt_cmpR op_eq (pe_slice sl_str (pv 0) po_none (po_some pe_int)) pe_str (nomark _)) (pss_one (ps_ret (pe_tup (pa_cons pe_str (pa_cons (pe_slice sl_str (pv 0) (po_some pe_int) po_none) pa_nil))))) pss_nil)
      (pss_cons (ps_if (pt_cmpR op_eq (pe_slice sl_str (pv 0) po_none (po_some pe_int)) pe_str (nomark _)) (pss_one (ps_ret (pe_ifExp (pt_val (pe_call GN hr2 (by rfl) mN kN bN .nil pass0 (pa_cons (pe_slice sl_str (pv 0) (po_some pe_int) po_none) pa_nil)))
        (pe_tup (pa_cons pe_str (pa_cons (pe_slice sl_str (pv 0) (po_some pe_int) po_none) pa_nil))) pe_non))) pss_nil)
      (pss_cons (ps_if (pt_cmpR op_eq (pe_slice sl_str (pv 0) po_none (po_some pe_int)) pe_str (nomark _)) (pss_cons (ps_set (i := 1) scVal.nd rfl (.inl rfl) (pe_call GO hr (by rfl) mO kO bO .nil pass0 (pa_cons (pv 0) pa_nil)))
        (pss_one (ps_ret (pe_ifExp (pt_cmp (pc_isN (pv 1))) pe_non (pe_tup (pa_cons pe_str (pa_cons (pv 1) pa_nil))))))) pss_nil)
      (pss_cons (ps_set (i := 2) scVal.nd rfl (.inl rfl) (pe_call GM hr2 (by rfl) mM kM bM .nil pass0 (pa_cons (pv 0) pa_nil)))
        (pss_one (ps_ret (pe_ifExp (pt_cmp (pc_isN (pv 2))) pe_non (pe_tup (pa_cons pe_str (pa_cons (pv 2) pa_nil)))))))))), ?_⟩
    have hsz : x.length ≤ sizeLine := Nat.le_trans hx (by decide)
    have hz : 1000 ≤ sizeLine := by decide
    have hc1 := cutS_length x (some 1) none
    -- the pair of constants
    refine ⟨_, rfl, by show 2 ≤ sizeLine; decide, fun p np => ⟨p, _, rfl, .inr (.inl (.inl upd_same)), rfl, rfl, _, rfl, ?_⟩⟩
    have x1 := Ext.new (o := .tup [.str "yes", .str "no"]) hT np
    generalize upd H p (.tup [.str "yes", .str "no"]) = H1 at x1
    have hq : ∀ v, valueOf x = v → ∀ H' u, Ext Ps H H' → ValAt K H' v u → Q u H' := fun v e H' u h1 h2 => q H' u h1 (e ▸ h2)
    show if inV (.str x) (([("yes" : Str), ("no" : Str)] : List Str).map V.str) = true then _ else _
    rw [in_texts]
    by_cases hyn : x ∈ (["yes", "no"] : List Str)
    · refine ifT (decide_eq_true hyn) ⟨_, rfl, rfl, by show 2 ≤ sizeLine; decide, fun a na => ?_⟩
      have x2 := x1.trans (Ext.new (o := .tup [.str "truth", .bl (decide (V.str x = V.str "yes"))]) x1.tab na)
      by_cases hy : x = ("yes" : Str)
      · refine hq (some (.truth true)) ?_ _ _ x2 (dat_mk (v := .truth true) (a := a) (u := .bl true) ?_ rfl)
        · unfold valueOf
          rw [if_pos hy]
        · rw [decide_eq_true (congrArg V.str hy)]
          exact .inl (.inl upd_same)
      · have hno : x = ("no" : Str) := by
          rcases List.mem_cons.mp hyn with z | z
          · exact absurd z hy
          · exact List.mem_singleton.mp z
        refine hq (some (.truth false)) ?_ _ _ x2 (dat_mk (v := .truth false) (a := a) (u := .bl false) ?_ rfl)
        · unfold valueOf
          rw [if_neg hy, if_pos hno]
        · rw [decide_eq_false fun z => hy (V.str.inj z)]
          exact .inl (.inl upd_same)
    have hy : ¬ x = ("yes" : Str) := fun z => hyn (by rw [z]; exact List.mem_cons_self)
    have hno : ¬ x = ("no" : Str) := fun z => hyn (by rw [z]; exact List.mem_cons_of_mem _ List.mem_cons_self)
    refine ifF (decide_eq_false hyn) ?_
    -- texts
    refine ⟨_, rfl, 1, rfl, x, rfl, hsz, rfl, _, rfl, ?_⟩
    by_cases h1 : cutS x none (some 1) = ("\"" : Str)
    · refine ifT (decide_eq_true (congrArg V.str h1)) ⟨_, rfl, 1, rfl, x, rfl, hsz, by show 2 ≤ sizeLine; decide, fun a na => ?_⟩
      refine hq (some (.text (cutS x (some 1) none))) ?_ _ _ (x1.trans (Ext.new x1.tab na)) (dat_mk (v := .text (cutS x (some 1) none)) (a := a) (u := .str (cutS x (some 1) none)) (.inl (.inl upd_same)) rfl)
      unfold valueOf
      rw [if_neg hy, if_neg hno, if_pos h1]
    refine ifF (decide_eq_false fun z => h1 (V.str.inj z)) ?_
    -- options
    refine ⟨_, rfl, 1, rfl, x, rfl, hsz, rfl, _, rfl, ?_⟩
    by_cases h2 : cutS x none (some 1) = ("." : Str)
    · refine ifT (decide_eq_true (congrArg V.str h2)) ⟨_, rfl, 1, rfl, x, rfl, hsz, cutS x (some 1) none, rfl, by omega, x1.tab PN hPN, fun H2 h2' => ⟨_, rfl, ?_⟩⟩
      have x2 := x1.trans (Ext.tabbed x1.tab (x1.tab PN hPN) h2')
      by_cases hn : isName (cutS x (some 1) none) = true
      · refine ifT hn ⟨_, rfl, 1, rfl, x, rfl, hsz, by show 2 ≤ sizeLine; decide, fun a na => ?_⟩
        refine hq (some (.option (cutS x (some 1) none))) ?_ _ _ (x2.trans (Ext.new x2.tab na)) (dat_mk (v := .option (cutS x (some 1) none)) (a := a) (u := .str (cutS x (some 1) none)) (.inl (.inl upd_same)) rfl)
        unfold valueOf
        rw [if_neg hy, if_neg hno, if_neg h1, if_pos h2, if_pos hn]
      · refine ifF (by simpa using hn) (hq none ?_ H2 .non x2 rfl)
        unfold valueOf
        rw [if_neg hy, if_neg hno, if_neg h1, if_pos h2, if_neg hn]
    refine ifF (decide_eq_false fun z => h2 (V.str.inj z)) ?_
    refine ⟨_, rfl, 1, rfl, x, rfl, hsz, rfl, _, rfl, ?_⟩
    by_cases h3 : cutS x none (some 1) = ("[" : Str)
    · have hv : valueOf x = (optionsOf x).map .options := by
        unfold valueOf
        rw [if_neg hy, if_neg hno, if_neg h1, if_neg h2, if_pos h3]
      have hx1 : 1 ≤ x.length := by
        cases e : x.length with
        | zero =>
          have z := cutS_length x none (some 1)
          rw [h3, e] at z
          exact absurd z (by decide)
        | succ n => omega
      refine ifT (decide_eq_true (congrArg V.str h3)) ⟨_, rfl, x, rfl, hx1, hx, hnl, hne, hnz, x1.tab, fun H2 u x2' hu => ?_⟩
      have x2 := x1.trans x2'
      cases ho : optionsOf x with
      | none =>
        rw [ho] at hu hv
        obtain rfl : u = .non := hu
        exact ⟨_, rfl, _, rfl, ifT (decide_eq_true rfl) (hq none hv H2 .non x2 rfl)⟩
      | some ns =>
        rw [ho] at hu hv
        obtain ⟨t, rfl, ht⟩ := hu
        refine ⟨_, rfl, _, rfl, ifF (decide_eq_false fun z => nomatch z) ⟨_, rfl, by show 2 ≤ sizeLine; decide, fun a na => ?_⟩⟩
        have x3 := Ext.new (o := .tup [.str "options", .ref t]) x2.tab na
        exact hq (some (.options ns)) hv _ _ (x2.trans x3) (dat_mk (v := .options ns) (a := a) (u := .ref t) (.inl (.inl upd_same)) ⟨t, rfl, x3.seqT ht⟩)
    refine ifF (decide_eq_false fun z => h3 (V.str.inj z)) ?_
    have hv : valueOf x = (numberOf x).map .number := by
      unfold valueOf
      rw [if_neg hy, if_neg hno, if_neg h1, if_neg h2, if_neg h3]
    refine ⟨_, rfl, x, rfl, hx, hnum, x1.tab PM hPM, fun H2 h2' => ?_⟩
    have x2 := x1.trans (Ext.tabbed x1.tab (x1.tab PM hPM) h2')
    cases ho : numberOf x with
    | none =>
      rw [ho] at hv
      exact ⟨_, rfl, _, rfl, ifT (decide_eq_true rfl) (hq none hv H2 .non x2 rfl)⟩
    | some n =>
      rw [ho] at hv
      refine ⟨_, rfl, _, rfl, ifF (decide_eq_false fun z => nomatch z) ⟨_, rfl, by show 2 ≤ sizeLine; decide, fun a na => ?_⟩⟩
      exact hq (some (.number n)) hv _ _ (x2.trans (Ext.new x2.tab na)) (dat_mk (v := .number n) (a := a) (u := .int n) (.inl (.inl upd_same)) rfl)
end
end K0

set_option Elab.async false
set_option linter.all false
set_option maxRecDepth 100000
set_option maxHeartbeats 4000000
/-! is_whole, is_row_of_texts -/
namespace K0
open PySem PySem.Spec PyProof.Rows L2
def tyN : PyData → String
  | .none => "NoneType"
  | .bool _ => "bool"
  | .int _ => "int"
  | .str _ => "str"
  | .list _ => "list"
  | .tuple _ => "tuple"
  | .dict _ => "dict"
theorem dp_ty {K : PySem.W.Frag} {H : Hp} {x : V} {d : PyData} (h : Dp K H x d) : TyX K H x (.type (tyN d)) := by
  cases h with
  | non => exact .base .non
  | bl b => exact .base (.bl b)
  | int i => exact .base (.int i)
  | str y => exact .base (.str y)
  | lst hs _ =>
    rcases hs with (e | ⟨o, e⟩) | ⟨o, its, n, e, c, _⟩
    · exact .base (.lst e)
    · exact .base (.frz e)
    · exact .kList e c
  | tup hs _ =>
    rcases hs with (e | ⟨o, e⟩) | ⟨o, its, n, e, c, _⟩
    · exact .base (.tup e)
    · exact .fTuple e
    · exact .kTuple e c
def isTupD : PyData → Bool
  | .tuple _ => true
  | _ => false
def isIntD : PyData → Bool
  | .int _ => true
  | .bool _ => true
  | _ => false
def isBoolD : PyData → Bool
  | .bool _ => true
  | _ => false
def isStrD : PyData → Bool
  | .str _ => true
  | _ => false
theorem kt_tuple_NoneType : kitB "NoneType" "tuple" = some false := by decide +kernel
theorem kt_tuple_bool : kitB "bool" "tuple" = some false := by decide +kernel
theorem kt_tuple_int : kitB "int" "tuple" = some false := by decide +kernel
theorem kt_tuple_str : kitB "str" "tuple" = some false := by decide +kernel
theorem kt_tuple_list : kitB "list" "tuple" = some false := by decide +kernel
theorem kt_tuple_tuple : kitB "tuple" "tuple" = some true := by decide +kernel
theorem kt_tuple_dict : kitB "dict" "tuple" = some false := by decide +kernel
theorem kit_tup (d : PyData) : kitB (tyN d) "tuple" = some (isTupD d) := by
  cases d with
  | none => exact kt_tuple_NoneType
  | bool _ => exact kt_tuple_bool
  | int _ => exact kt_tuple_int
  | str _ => exact kt_tuple_str
  | list _ => exact kt_tuple_list
  | tuple _ => exact kt_tuple_tuple
  | dict _ => exact kt_tuple_dict
theorem kt_int_NoneType : kitB "NoneType" "int" = some false := by decide +kernel
theorem kt_int_bool : kitB "bool" "int" = some true := by decide +kernel
theorem kt_int_int : kitB "int" "int" = some true := by decide +kernel
theorem kt_int_str : kitB "str" "int" = some false := by decide +kernel
theorem kt_int_list : kitB "list" "int" = some false := by decide +kernel
theorem kt_int_tuple : kitB "tuple" "int" = some false := by decide +kernel
theorem kt_int_dict : kitB "dict" "int" = some false := by decide +kernel
theorem kit_int (d : PyData) : kitB (tyN d) "int" = some (isIntD d) := by
  cases d with
  | none => exact kt_int_NoneType
  | bool _ => exact kt_int_bool
  | int _ => exact kt_int_int
  | str _ => exact kt_int_str
  | list _ => exact kt_int_list
  | tuple _ => exact kt_int_tuple
  | dict _ => exact kt_int_dict
theorem kt_bool_NoneType : kitB "NoneType" "bool" = some false := by decide +kernel
theorem kt_bool_bool : kitB "bool" "bool" = some true := by decide +kernel
theorem kt_bool_int : kitB "int" "bool" = some false := by decide +kernel
theorem kt_bool_str : kitB "str" "bool" = some false := by decide +kernel
theorem kt_bool_list : kitB "list" "bool" = some false := by decide +kernel
theorem kt_bool_tuple : kitB "tuple" "bool" = some false := by decide +kernel
theorem kt_bool_dict : kitB "dict" "bool" = some false := by decide +kernel
theorem kit_bool (d : PyData) : kitB (tyN d) "bool" = some (isBoolD d) := by
  cases d with
  | none => exact kt_bool_NoneType
  | bool _ => exact kt_bool_bool
  | int _ => exact kt_bool_int
  | str _ => exact kt_bool_str
  | list _ => exact kt_bool_list
  | tuple _ => exact kt_bool_tuple
  | dict _ => exact kt_bool_dict
theorem kt_str_NoneType : kitB "NoneType" "str" = some false := by decide +kernel
theorem kt_str_bool : kitB "bool" "str" = some false := by decide +kernel
theorem kt_str_int : kitB "int" "str" = some false := by decide +kernel
theorem kt_str_str : kitB "str" "str" = some true := by decide +kernel
theorem kt_str_list : kitB "list" "str" = some false := by decide +kernel
theorem kt_str_tuple : kitB "tuple" "str" = some false := by decide +kernel
theorem kt_str_dict : kitB "dict" "str" = some false := by decide +kernel
theorem kit_str (d : PyData) : kitB (tyN d) "str" = some (isStrD d) := by
  cases d with
  | none => exact kt_str_NoneType
  | bool _ => exact kt_str_bool
  | int _ => exact kt_str_int
  | str _ => exact kt_str_str
  | list _ => exact kt_str_list
  | tuple _ => exact kt_str_tuple
  | dict _ => exact kt_str_dict
/-- isinstance(x, T) of data -/
theorem isi_of {K : PySem.W.Frag} {H : Hp} {x : V} {d : PyData} {c : String} {b : Bool} {Q : VK} (h : Dp K H x d) (k : kitB (tyN d) c = some b) (q : Q (.bl b) H) : rIsi K [x, .ty c] H Q :=
  ⟨x, .ty c, _, _, b, rfl, .ty c, dp_ty h, kit_ty k, q⟩

abbrev sWhole : Stmt := topS 11
abbrev sRow : Stmt := topS 12
theorem scWhole : FnScope ["thing"] ["thing"] (defScope sWhole) := ⟨rfl, rfl, rfl, by decide +kernel, rfl, by decide +kernel, by decide +kernel⟩
theorem scRow : FnScope ["thing", "part"] ["thing"] (defScope sRow) := ⟨rfl, rfl, rfl, by decide +kernel, rfl, by decide +kernel, by decide +kernel⟩
def isWholeD : PyData → Bool
  | .int _ => true
  | _ => false
def isRowD : PyData → Bool
  | .tuple ds => ds.all isStrD
  | _ => false
def spWhole (K : PySem.W.Frag) : Sp := fun vs H Q _ => ∃ (x : V) (d : PyData), vs = [x] ∧ Dp K H x d ∧ Q (.bl (isWholeD d)) H
def spRow (K : PySem.W.Frag) (P : Addr) : Sp := fun vs H Q _ => ∃ (x : V) (d : PyData), vs = [x] ∧ Dp K H x d ∧ GxR.TabG H P ∧ ∀ H', GxR.Tabbed P H H' → Q (.bl (isRowD d)) H'

theorem dpAll_get {K : PySem.W.Frag} {H : Hp} : ∀ {xs : List V} {ds : List PyData}, DpAll K H xs ds → xs.length = ds.length ∧ ∀ (i : Nat) (x : V), xs[i]? = some x → ∃ d, ds[i]? = some d ∧ Dp K H x d
  | _, [], h => by
    cases h
    exact ⟨rfl, fun i x e => by simp at e⟩
  | _, d :: ds, h => by
    cases h with
    | cons h1 h2 =>
      obtain ⟨hl, hg⟩ := dpAll_get h2
      refine ⟨by rw [List.length_cons, List.length_cons, hl], fun i x e => ?_⟩
      cases i with
      | zero =>
        cases Option.some.inj e
        exact ⟨d, rfl, h1⟩
      | succ i => exact hg i x e

/-- over a tuple of data, a test of each that leaves the heap as it is -/
theorem gx_data {K : PySem.W.Frag} {a : Addr} {xs : List V} {ds : List PyData} {H : Hp} {te : TE} {d : Bool} {QS QE : Hp → Prop} {σ : L2.St} {i0 : Nat} (pb : PyData → Bool) (ht : SqT K H a xs) (hd : DpAll K H xs ds)
    (step : ∀ (x : V) (e : PyData) (Q : VK), Dp K H x e → Q (.bl (pb e)) H → te ((wipe σ [i0]).set i0 (some x)) H Q)
    (hS : ds.any (fun y => pb y == d) = true → QS H) (hE : ds.any (fun y => pb y == d) = false → QE H) :
    ∃ W : Nat → Nat → Hp → Prop, (∃ m, W 0 m H) ∧ TurnsOk (Itt K a) [i0] σ (gName i0) te d QS QE W := by
  obtain ⟨hl, hg⟩ := dpAll_get hd
  refine ⟨fun i m H' => H' = H ∧ m = xs.length - i ∧ i ≤ xs.length ∧ ∀ (j : Nat) (y : PyData), j < i → ds[j]? = some y → pb y ≠ d, ⟨_, rfl, rfl, Nat.zero_le _, fun j c hj => absurd hj (Nat.not_lt_zero _)⟩, ?_⟩
  rintro i m H' ⟨rfl, rfl, hi, hb⟩
  by_cases h : i < xs.length
  · have ei : xs[i]? = some xs[i] := List.getElem?_eq_getElem h
    refine .inr ⟨⟨_, _, ht, ei⟩, fun v H2 hy => ?_⟩
    obtain ⟨rfl, hv⟩ := hy
    obtain ⟨e, he, hde⟩ := hg i v (hv _ ht)
    refine ⟨wipe_set, step v e _ hde ⟨pb e, rfl, ?_⟩⟩
    by_cases hp : pb e = d
    · rw [if_pos hp]
      exact hS (List.any_eq_true.mpr ⟨e, List.mem_of_getElem? he, by simp [hp]⟩)
    · rw [if_neg hp]
      refine ⟨_, ?_, rfl, rfl, h, fun j k hj hk => ?_⟩
      · omega
      · by_cases z : j = i
        · rw [z, he] at hk
          cases hk
          exact hp
        · exact hb j k (by omega) hk
  · have e : i = xs.length := by omega
    refine .inl ⟨⟨_, ht, by omega⟩, hE ?_⟩
    rw [List.any_eq_false]
    intro c hc
    obtain ⟨j, hj, ej⟩ := List.getElem_of_mem hc
    have q := hb j c (by omega) (by rw [List.getElem?_eq_getElem hj, ej])
    simpa using q

section
variable {P : Program} {w : World} {K : PySem.W.Frag} {mg : Str → Option Value} {base : Heap}
theorem ok_whole {f : Addr} {fd : FuncData} (F : Fun K "is_whole" "is_whole" sWhole f fd) (T : Tx K mg) : FnOk P w K mg base CX0 1 f fd ["thing"] (spWhole K) := by
  refine F.ok scWhole (fun vs H Q E h => ?_) (fun cdv A outer s H vs Q E hr h => ?_)
  · obtain ⟨x, d, rfl, _⟩ := h
    rfl
  · obtain ⟨x, d, rfl, hd, q⟩ := h
    refine ⟨_, pss_one (ps_ret (pe_and (pe_callB call_isi (by rfl) T.isi boot_isinstance (pa_cons (pv 0) (pa_cons (pg_ty rfl T.int PyProof.Rows.boot_int) pa_nil)))
      (pe_one (pe_not (pe_callB call_isi (by rfl) T.isi boot_isinstance (pa_cons (pv 0) (pa_cons (pg_ty rfl T.bool PyProof.Rows.boot_bool) pa_nil))))))), ?_⟩
    refine ⟨_, rfl, ⟨_, _, _, _, _, rfl, .ty _, dp_ty hd, kit_ty (kit_int d), _, rfl, ?_⟩⟩
    cases d with
    | int i => exact ifT rfl ⟨_, rfl, _, _, _, _, _, rfl, .ty _, dp_ty hd, kit_ty (kit_bool _), _, rfl, q⟩
    | bool b => exact ifT rfl ⟨_, rfl, _, _, _, _, _, rfl, .ty _, dp_ty hd, kit_ty (kit_bool _), _, rfl, q⟩
    | none => exact ifF rfl q
    | str y => exact ifF rfl q
    | list ds => exact ifF rfl q
    | tuple ds => exact ifF rfl q
    | dict ds => exact ifF rfl q
theorem ok_row {f c Pt : Addr} {fd : FuncData} (F : FunT K "is_row_of_texts" "is_row_of_texts" sRow f fd c) (T : Tx K mg) (TB : GxR.TabB base mg c Pt) : FnOk P w K mg base CX0 2 f fd ["thing"] (spRow K Pt) := by
  refine F.ok scRow (fun vs H Q E h => ?_) (fun A outer s H vs Q E hr h => ?_)
  · obtain ⟨x, d, rfl, _⟩ := h
    rfl
  · obtain ⟨x, d, rfl, hd, hT, q⟩ := h
    refine ⟨_, pss_one (ps_ret (pe_and (pe_callB call_isi (by rfl) T.isi boot_isinstance (pa_cons (pv 0) (pa_cons (pg_ty rfl T.tuple PyProof.Rows.boot_tuple) pa_nil)))
      (pe_one (pe_allX (k := 0) (te := tCB (rIsi K) (tCons (tVar 1) (tCons (tC (.ty "str")) tNil))) (own := [("part", 1)]) hr (by rfl) T.all rfl TB rfl (gxOk_by (N := ["thing", "part"]) (sc := defScope sRow) (by decide +kernel) (by decide +kernel)) scRow.nd (pi_tup (pv 0))
        (fun A s H C code fp a go => pg_name (i := 1) scRow.nd rfl (.inl (by rfl)) (.inr (by rfl)))
        (fun A s H C code fp a go _ => pe_callB call_isi (by rfl) T.isi boot_isinstance (pa_cons (pv 1) (pa_cons (pg_ty (by rfl) T.str PyProof.Rows.boot_str) pa_nil))))))), ?_⟩
    refine ⟨_, rfl, ⟨_, _, _, _, _, rfl, .ty _, dp_ty hd, kit_ty (kit_tup d), _, rfl, ?_⟩⟩
    cases d with
    | tuple ds =>
      refine ifT rfl ?_
      cases hd with
      | tup hs ha =>
        refine ⟨_, rfl, _, rfl, ⟨_, hs⟩, hT, fun H2 h2 => ?_⟩
        have x2 : Ext [Pt] H H2 := Ext.tabbed (fun P hP => by rw [List.mem_singleton.mp hP]; exact hT) hT h2
        refine gx_data isStrD (x2.seqT hs) (x2.dpAll _ _ ha) (fun x e Q' hx q' => ⟨_, rfl, _, _, _, _, _, rfl, .ty _, dp_ty hx, kit_ty (kit_str e), q'⟩) (fun hh => ?_) fun hh => ?_
        · have z := q H2 h2
          obtain ⟨y, hy, e⟩ := List.any_eq_true.mp hh
          have e2 : ds.all isStrD = false := List.all_eq_false.mpr ⟨y, hy, by simpa using e⟩
          have e3 : isRowD (.tuple ds) = false := e2
          rw [e3] at z
          exact z
        · have z := q H2 h2
          have e2 : ds.all isStrD = true := List.all_eq_true.mpr fun y hy => by
            have z2 := List.any_eq_false.mp hh y hy
            simpa using z2
          have e3 : isRowD (.tuple ds) = true := e2
          rw [e3] at z
          exact z
    | int i => exact ifF rfl (q H (tabbed_refl hT))
    | bool b => exact ifF rfl (q H (tabbed_refl hT))
    | none => exact ifF rfl (q H (tabbed_refl hT))
    | str y => exact ifF rfl (q H (tabbed_refl hT))
    | list ds => exact ifF rfl (q H (tabbed_refl hT))
    | dict ds => exact ifF rfl (q H (tabbed_refl hT))
end
end K0

set_option Elab.async false
set_option linter.all false
set_option maxRecDepth 100000
set_option maxHeartbeats 4000000
/-! is_inner, is_value -/
namespace K0
open PySem PySem.Spec PyProof.Rows L2
def textOf : PyData → Option Str
  | .str y => some y
  | _ => none
def textsD : PyData → Option (List Str)
  | .tuple ds => if ds.all isStrD = true then some (ds.filterMap textOf) else none
  | _ => none
def inNum : PyData → Bool
  | .int n => decide (-9999 ≤ n) && decide (n ≤ 9999)
  | _ => false
def isInnerD (k : Str) (i : PyData) : Bool :=
  if k = ("truth" : Str) then isBoolD i
  else if k = ("number" : Str) then inNum i
  else if k = ("options" : Str) then (match textsD i with | some ns => decide (valueOf (codeOf (.options ns)) = some (.options ns)) | none => false)
  else match i with | .str y => decide (k = ("text" : Str)) || (decide (k = ("option" : Str)) && isName y) | _ => false
def isValueD : PyData → Bool
  | .tuple [.str k, i] => isInnerD k i
  | _ => false
def backOk (v : Val) : Bool := small v && valOk (codeOf v) && SeqAt.shaped (dat v) && (decide (valueOf (codeOf v) = none) || decide (valueOf (codeOf v) = some v))
def innerOk (k : Str) (i : PyData) : Bool :=
  if k = ("options" : Str) then (match textsD i with | some ns => backOk (.options ns) | none => true)
  else match i with | .str y => decide (y.length ≤ 1000) | _ => true
def thingOk : PyData → Bool
  | .tuple [.str k, i] => innerOk k i
  | .tuple [_, _] => false
  | .tuple ds => decide (ds.length ≤ 1000)
  | _ => true
theorem texts_all : ∀ {ds : List PyData}, ds.all isStrD = true → ds = (ds.filterMap textOf).map PyData.str
  | [], _ => rfl
  | d :: ds, h => by
    rw [List.all_cons, Bool.and_eq_true] at h
    cases d with
    | str y => exact congrArg (PyData.str y :: ·) (texts_all h.2)
    | none => exact absurd (show false = true from h.1) Bool.false_ne_true
    | bool b => exact absurd (show false = true from h.1) Bool.false_ne_true
    | int b => exact absurd (show false = true from h.1) Bool.false_ne_true
    | list b => exact absurd (show false = true from h.1) Bool.false_ne_true
    | tuple b => exact absurd (show false = true from h.1) Bool.false_ne_true
    | dict b => exact absurd (show false = true from h.1) Bool.false_ne_true
theorem texts_some {i : PyData} {ns : List Str} (h : textsD i = some ns) : i = innerD (.options ns) ∧ isRowD i = true := by
  cases i with
  | tuple ds =>
    replace h : (if ds.all isStrD = true then some (ds.filterMap textOf) else none) = _ := h
    by_cases z : ds.all isStrD = true
    · rw [if_pos z] at h
      cases Option.some.inj h
      exact ⟨congrArg PyData.tuple (texts_all z), z⟩
    · rw [if_neg z] at h
      cases h
  | none => cases h
  | bool b => cases h
  | int b => cases h
  | list b => cases h
  | str b => cases h
  | dict b => cases h
theorem texts_none {i : PyData} (h : textsD i = none) : isRowD i = false := by
  cases i with
  | tuple ds =>
    replace h : (if ds.all isStrD = true then some (ds.filterMap textOf) else none) = _ := h
    by_cases z : ds.all isStrD = true
    · rw [if_pos z] at h
      cases h
    · show ds.all isStrD = false
      simpa using z
  | none => rfl
  | bool b => rfl
  | int b => rfl
  | list b => rfl
  | str b => rfl
  | dict b => rfl
theorem eqv_strs : ∀ xs ys : List Str, PyData.eqvAll (xs.map PyData.str) (ys.map PyData.str) = decide (xs = ys)
  | [], [] => by simp [PyData.eqvAll]
  | [], _ :: _ => by simp [PyData.eqvAll]
  | _ :: _, [] => by simp [PyData.eqvAll]
  | x :: xs, y :: ys => by
    rw [List.map_cons, List.map_cons, PyData.eqvAll, eqv_strs xs ys, PyData.eqv, Bool.eq_iff_iff]
    simp [beq_iff_eq]
theorem eqv_dat_self (v : Val) : PyData.eqv (dat v) (dat v) = true := by
  cases v with
  | truth b => simp [dat, innerD, PyData.eqv, PyData.eqvAll]
  | number i => simp [dat, innerD, PyData.eqv, PyData.eqvAll]
  | option x => simp [dat, innerD, PyData.eqv, PyData.eqvAll]
  | options xs => simp [dat, innerD, PyData.eqv, PyData.eqvAll, eqv_strs]
  | text x => simp [dat, innerD, PyData.eqv, PyData.eqvAll]
theorem eqv_non (v : Val) : PyData.eqv .none (dat v) = false := by
  simp [dat, PyData.eqv]
theorem room_64 {k : Nat} {A : Around} (h : Room k A) : A.units + 64 < cLine := by
  have := h.un
  omega
abbrev sInner : Stmt := topS 13
abbrev sIsVal : Stmt := topS 14
theorem scInner : FnScope ["kind", "inner"] ["kind", "inner"] (defScope sInner) := ⟨rfl, rfl, rfl, by decide +kernel, rfl, by decide +kernel, by decide +kernel⟩
theorem scIsVal : FnScope ["thing"] ["thing"] (defScope sIsVal) := ⟨rfl, rfl, rfl, by decide +kernel, rfl, by decide +kernel, by decide +kernel⟩
def spInner (K : PySem.W.Frag) (Ps : List Addr) : Sp := fun vs H Q _ => ∃ (k : Str) (u : V) (i : PyData), vs = [.str k, u] ∧ Dp K H u i ∧ innerOk k i = true ∧ Tabs Ps H ∧ ∀ H', Ext Ps H H' → Q (.bl (isInnerD k i)) H'
def spIsVal (K : PySem.W.Frag) (Ps : List Addr) : Sp := fun vs H Q _ => ∃ (x : V) (d : PyData), vs = [x] ∧ Dp K H x d ∧ thingOk d = true ∧ Tabs Ps H ∧ ∀ H', Ext Ps H H' → Q (.bl (isValueD d)) H'
section
variable {P : Program} {w : World} {K : PySem.W.Frag} {mg : Str → Option Value} {base : Heap}
theorem ok_inner {f fN PN fW fR PR fV fC : Addr} {fd fdN fdW fdR fdV fdC : FuncData} {Ps : List Addr} (F : Fun K "is_inner" "is_inner" sInner f fd) (T : Tx K mg) (hPN : PN ∈ Ps) (hPR : PR ∈ Ps)
    (GN : FnOk P w K mg base CX0 2 fN fdN ["text"] (spName PN)) (mN : mg "is_name" = some (.ref fN)) (kN : PySem.W.keepIn K (.ref fN) = true) (bN : Binds K fdN ["text"] [])
    (GW : FnOk P w K mg base CX0 1 fW fdW ["thing"] (spWhole K)) (mW : mg "is_whole" = some (.ref fW)) (kW : PySem.W.keepIn K (.ref fW) = true) (bW : Binds K fdW ["thing"] [])
    (GR : FnOk P w K mg base CX0 2 fR fdR ["thing"] (spRow K PR)) (mR : mg "is_row_of_texts" = some (.ref fR)) (kR : PySem.W.keepIn K (.ref fR) = true) (bR : Binds K fdR ["thing"] [])
    (GV : FnOk P w K mg base CX0 5 fV fdV ["code"] (spVal K Ps)) (mV : mg "value_of" = some (.ref fV)) (kV : PySem.W.keepIn K (.ref fV) = true) (bV : Binds K fdV ["code"] [])
    (GC : FnOk P w K mg base CX0 1 fC fdC ["value"] (spCode K)) (mC : mg "code_of" = some (.ref fC)) (kC : PySem.W.keepIn K (.ref fC) = true) (bC : Binds K fdC ["value"] []) : FnOk P w K mg base CX0 6 f fd ["kind", "inner"] (spInner K Ps) := by
  refine F.ok scInner (fun vs H Q E h => ?_) (fun cdv A outer s H vs Q E hr h => ?_)
  · obtain ⟨k, u, i, rfl, _⟩ := h
    rfl
  · obtain ⟨k, u, i, rfl, hd, hok, hT, q⟩ := h
    obtain ⟨tu, hU⟩ := T.umost
    have hr1 := hr.mono (show 1 ≤ 5 by decide)
    have hr2 := hr.mono (show 2 ≤ 5 by decide)
    refine ⟨_, pss_cons (ps_if (pt_cmpR op_eq (pv 0) pe_str (nomark _)) (pss_one (ps_ret (pe_callB call_isi (by rfl) T.isi boot_isinstance (pa_cons (pv 1) (pa_cons (pg_ty rfl T.bool PyProof.Rows.boot_bool) pa_nil))))) pss_nil)
      (pss_cons (ps_if (pt_cmpR op_eq (pv 0) pe_str (nomark _)) (pss_one (ps_ret (pe_and (pe_call GW hr1 (by rfl) mW kW bW .nil pass0 (pa_cons (pv 1) pa_nil)) (pe_one (pe_chain op_le op_le (pe_op op_sub pe_int (pg_i rfl hU)) (pv 1) (pg_i rfl hU)))))) pss_nil)
      (pss_cons (ps_if (pt_cmpR op_eq (pv 0) pe_str (nomark _)) (pss_one (ps_ret (pe_and (pe_call GR hr2 (by rfl) mR kR bR .nil pass0 (pa_cons (pv 1) pa_nil))
        (pe_one (pe_cmpR (op_eqD (room_64 hr)) (pe_call GV hr (by rfl) mV kV bV .nil pass0 (pa_cons (pe_call GC hr1 (by rfl) mC kC bC .nil pass0 (pa_cons (pe_tup (pa_cons (pv 0) (pa_cons (pv 1) pa_nil))) pa_nil)) pa_nil)) (pe_tup (pa_cons (pv 0) (pa_cons (pv 1) pa_nil))) (by rfl)))))) pss_nil)
      (pss_cons (ps_if (pt_not (pt_val (pe_callB call_isi (by rfl) T.isi boot_isinstance (pa_cons (pv 1) (pa_cons (pg_ty rfl T.str PyProof.Rows.boot_str) pa_nil))))) (pss_one (ps_ret pe_bl)) pss_nil)
      (pss_one (ps_ret (pe_or (pe_cmpR op_eq (pv 0) pe_str (nomark _)) (pe_one (pe_and (pe_cmpR op_eq (pv 0) pe_str (nomark _)) (pe_one (pe_call GN hr2 (by rfl) mN kN bN .nil pass0 (pa_cons (pv 1) pa_nil))))))))))), ?_⟩
    refine ⟨_, rfl, rfl, _, rfl, ?_⟩
    by_cases h1 : k = ("truth" : Str)
    · refine ifT (decide_eq_true (congrArg V.str h1)) ⟨_, rfl, _, _, _, _, _, rfl, .ty _, dp_ty hd, kit_ty (kit_bool i), ?_⟩
      have z := q H (Ext.refl hT)
      unfold isInnerD at z
      rw [if_pos h1] at z
      exact z
    refine ifF (str_ne h1) ⟨_, rfl, rfl, _, rfl, ?_⟩
    by_cases h2 : k = ("number" : Str)
    · refine ifT (decide_eq_true (congrArg V.str h2)) ⟨_, rfl, u, i, rfl, hd, _, rfl, ?_⟩
      have z := q H (Ext.refl hT)
      unfold isInnerD at z
      rw [if_neg h1, if_pos h2] at z
      cases i with
      | int n =>
        cases hd
        refine ifT rfl ⟨_, _, rfl, rfl, _, rfl, _, _, rfl, rfl, _, rfl, ?_⟩
        by_cases a1 : (-9999 : Int) ≤ n
        · refine ifT (decide_eq_true a1) ⟨_, _, rfl, rfl, ?_⟩
          have e : inNum (.int n) = decide (n ≤ 9999) := by show (decide (-9999 ≤ n) && decide (n ≤ 9999)) = _; rw [decide_eq_true a1] <;> rfl
          rw [e] at z
          exact z
        · refine ifF (decide_eq_false a1) ?_
          have e : inNum (.int n) = false := by show (decide (-9999 ≤ n) && decide (n ≤ 9999)) = _; rw [decide_eq_false a1] <;> rfl
          rw [e] at z
          exact z
      | bool b => exact ifF rfl z
      | none => exact ifF rfl z
      | str y => exact ifF rfl z
      | list ds => exact ifF rfl z
      | tuple ds => exact ifF rfl z
      | dict ds => exact ifF rfl z
    refine ifF (str_ne h2) ⟨_, rfl, rfl, _, rfl, ?_⟩
    by_cases h3 : k = ("options" : Str)
    · refine ifT (decide_eq_true (congrArg V.str h3)) ⟨_, rfl, u, i, rfl, hd, hT PR hPR, fun H1 hh1 => ⟨_, rfl, ?_⟩⟩
      have x1 : Ext Ps H H1 := Ext.tabbed hT (hT PR hPR) hh1
      have hq : isInnerD k i = (match textsD i with | some ns => decide (valueOf (codeOf (.options ns)) = some (.options ns)) | none => false) := by
        unfold isInnerD
        rw [if_neg h1, if_neg h2, if_pos h3]
      have ho : innerOk k i = (match textsD i with | some ns => backOk (.options ns) | none => true) := by
        unfold innerOk
        rw [if_pos h3]
      cases ht : textsD i with
      | none =>
        have z := q H1 x1
        rw [hq, ht] at z
        exact ifF (texts_none ht) z
      | some ns =>
        rw [ht] at ho hq
        rw [hok] at ho
        have hb : backOk (.options ns) = true := ho.symm
        unfold backOk at hb
        simp only [Bool.and_eq_true, Bool.or_eq_true, decide_eq_true_eq] at hb
        obtain ⟨⟨⟨hs, hv⟩, hsh⟩, hback⟩ := hb
        obtain ⟨rfl, hrow⟩ := texts_some ht
        subst h3
        have hq2 : isInnerD ("options" : Str) (innerD (.options ns)) = decide (valueOf (codeOf (.options ns)) = some (.options ns)) := hq
        refine ifT hrow ⟨_, rfl, _, rfl, by show 2 ≤ sizeLine; decide, fun a na => ⟨.ref a, rfl, .inr ⟨.options ns, ?_, hs, ?_⟩⟩⟩
        · exact .tup (.inl (.inl upd_same)) (.cons (.str _) (.cons ((x1.trans (Ext.new x1.tab na)).dp _ _ hd) .nil))
        · have x2 := x1.trans (Ext.new (o := .tup [.str "options", u]) x1.tab na)
          refine ⟨_, rfl, hv, x2.tab, fun H3 r x3' hr3 => ?_⟩
          have x3 := x2.trans x3'
          refine ⟨_, rfl, _, rfl, by show 2 ≤ sizeLine; decide, fun b nb => ?_⟩
          have x4 := x3.trans (Ext.new (o := .tup [.str "options", u]) x3.tab nb)
          have x4' := Ext.new (o := .tup [.str "options", u]) x3.tab nb
          have hd2 : Dp K (upd H3 b (.tup [.str "options", u])) (.ref b) (dat (.options ns)) := .tup (.inl (.inl upd_same)) (.cons (.str _) (.cons (x4.dp _ _ hd) .nil))
          have z := q _ x4
          rw [hq2] at z
          rcases hback with e | e
          · rw [e] at hr3 z
            obtain rfl : r = .non := hr3
            exact ⟨.none, dat (.options ns), .non, hd2, by decide +kernel, hsh, by rw [eqv_non]; exact z⟩
          · rw [e] at hr3 z
            exact ⟨dat (.options ns), dat (.options ns), x4'.dp _ _ hr3, hd2, hsh, hsh, by rw [eqv_dat_self]; rw [decide_eq_true rfl] at z; exact z⟩
    refine ifF (str_ne h3) ⟨_, rfl, _, _, _, _, _, rfl, .ty _, dp_ty hd, kit_ty (kit_str i), _, rfl, ?_⟩
    have z := q H (Ext.refl hT)
    unfold isInnerD at z
    rw [if_neg h1, if_neg h2, if_neg h3] at z
    cases i with
    | str y =>
      cases hd
      have hl : innerOk k (.str y) = decide (y.length ≤ 1000) := by
        unfold innerOk
        rw [if_neg h3]
      rw [hok] at hl
      have hy : y.length ≤ 1000 := of_decide_eq_true hl.symm
      refine ifF rfl ⟨_, rfl, rfl, _, rfl, ?_⟩
      by_cases h4 : k = ("text" : Str)
      · refine ifT (decide_eq_true (congrArg V.str h4)) ?_
        have z2 : Q (.bl (decide (k = ("text" : Str)) || (decide (k = ("option" : Str)) && isName y))) H := z
        rw [decide_eq_true h4] at z2
        exact z2
      refine ifF (str_ne h4) ⟨_, rfl, rfl, _, rfl, ?_⟩
      by_cases h5 : k = ("option" : Str)
      · refine ifT (decide_eq_true (congrArg V.str h5)) ⟨_, rfl, y, rfl, hy, hT PN hPN, fun H1 hh1 => ?_⟩
        have z3 := q H1 (Ext.tabbed hT (hT PN hPN) hh1)
        unfold isInnerD at z3
        rw [if_neg h1, if_neg h2, if_neg h3] at z3
        have z2 : Q (.bl (decide (k = ("text" : Str)) || (decide (k = ("option" : Str)) && isName y))) H1 := z3
        rw [decide_eq_false h4, decide_eq_true h5] at z2
        exact z2
      · refine ifF (str_ne h5) ?_
        have z2 : Q (.bl (decide (k = ("text" : Str)) || (decide (k = ("option" : Str)) && isName y))) H := z
        rw [decide_eq_false h4, decide_eq_false h5] at z2
        exact z2
    | none => exact ifT rfl z
    | bool b => exact ifT rfl z
    | int b => exact ifT rfl z
    | list ds => exact ifT rfl z
    | tuple ds => exact ifT rfl z
    | dict ds => exact ifT rfl z

theorem ok_isval {f fI : Addr} {fd fdI : FuncData} {Ps : List Addr} (F : Fun K "is_value" "is_value" sIsVal f fd) (T : Tx K mg)
    (GI : FnOk P w K mg base CX0 6 fI fdI ["kind", "inner"] (spInner K Ps)) (mI : mg "is_inner" = some (.ref fI)) (kI : PySem.W.keepIn K (.ref fI) = true) (bI : Binds K fdI ["kind", "inner"] []) : FnOk P w K mg base CX0 7 f fd ["thing"] (spIsVal K Ps) := by
  refine F.ok scIsVal (fun vs H Q E h => ?_) (fun cdv A outer s H vs Q E hr h => ?_)
  · obtain ⟨x, d, rfl, _⟩ := h
    rfl
  · obtain ⟨x, d, rfl, hd, hok, hT, q⟩ := h
    refine ⟨_, pss_cons (ps_if (PW.pt (pw_or (pt_not (pt_val (pe_callB call_isi (by rfl) T.isi boot_isinstance (pa_cons (pv 0) (pa_cons (pg_ty rfl T.tuple PyProof.Rows.boot_tuple) pa_nil))))) (pw_or1 (pt_cmpR op_ne (pe_callB call_len (by rfl) T.len PySem.boot_len (pa_cons (pv 0) pa_nil)) pe_int (nomark _))))) (pss_one (ps_ret pe_bl)) pss_nil)
      (pss_one (ps_ret (pe_call GI hr (by rfl) mI kI bI .nil pass0 (pa_cons (pe_ix ix_tup (pv 0) pe_int (fun _ _ => rfl)) (pa_cons (pe_ix ix_tup (pv 0) pe_int (fun _ _ => rfl)) pa_nil))))), ?_⟩
    have z := q H (Ext.refl hT)
    refine ⟨_, rfl, _, _, _, _, _, rfl, .ty _, dp_ty hd, kit_ty (kit_tup d), _, rfl, ?_⟩
    cases d with
    | none => exact ifT rfl z
    | bool b => exact ifT rfl z
    | int b => exact ifT rfl z
    | list ds => exact ifT rfl z
    | str ds => exact ifT rfl z
    | dict ds => exact ifT rfl z
    | tuple ds =>
      cases hd with
      | tup hs ha =>
        rename_i a xs
        obtain ⟨hl, _⟩ := dpAll_get ha
        match ds, hl, ha, hok, z, q with
        | [], hl, _, _, z, _ => exact ifF rfl ⟨_, rfl, _, _, rfl, .inr ⟨_, hs, rfl⟩, rfl, _, rfl, ifT (by rw [hl] <;> rfl) z⟩
        | [d1], hl, _, _, z, _ => exact ifF rfl ⟨_, rfl, _, _, rfl, .inr ⟨_, hs, rfl⟩, rfl, _, rfl, ifT (by rw [hl] <;> rfl) (by cases d1 <;> exact z)⟩
        | d1 :: d2 :: d3 :: r, hl, _, _, z, _ => 
          refine ifF rfl ⟨_, rfl, _, _, rfl, .inr ⟨_, hs, rfl⟩, rfl, _, rfl, ifT ?_ ?_⟩
          · have e0 : ¬ V.int ((d1 :: d2 :: d3 :: r).length : Nat) = V.int 2 := fun e => by
              have e2 : ((r.length + 1 + 1 + 1 : Nat) : Int) = 2 := V.int.inj e
              omega
            rw [hl]
            exact congrArg Bool.not (decide_eq_false e0)
          · cases d1 <;> exact z
        | [d1, d2], hl, ha, hok, z, q =>
          refine ifF rfl ⟨_, rfl, _, _, rfl, .inr ⟨_, hs, rfl⟩, rfl, _, rfl, ifF (by rw [hl] <;> rfl) ?_⟩
          cases ha with
          | cons a1 ha2 =>
            cases ha2 with
            | cons a2 a3 =>
              cases a3
              cases d1 with
              | str k =>
                cases a1
                exact ⟨_, rfl, a, _, 0, _, rfl, rfl, hs, rfl, _, rfl, a, _, 1, _, rfl, rfl, hs, rfl, k, _, d2, rfl, a2, hok, hT, q⟩
              | none => cases hok
              | bool b => cases hok
              | int b => cases hok
              | list b => cases hok
              | tuple b => cases hok
              | dict b => cases hok
end
end K0

set_option Elab.async false
set_option linter.all false
set_option maxRecDepth 100000
set_option maxHeartbeats 4000000
/-! the law's own: _law_cell, _law_digits, _law_draw -/
namespace K0
open PySem PySem.Spec PyProof.Rows L2
abbrev sCell : Stmt := topS 17
abbrev sDigits : Stmt := topS 20
abbrev sDraw : Stmt := topS 21
abbrev nDigits : List Str := ["_law_script", "_law_first", "_law_last", "_law_digits_here", "_law_k", "_law_cell_here", "_law_turn", "_law_seed"]
theorem scCell : FnScope ["_law_script", "_law_k"] ["_law_script", "_law_k"] (defScope sCell) := ⟨rfl, rfl, rfl, by decide +kernel, rfl, by decide +kernel, by decide +kernel⟩
theorem scDigits : FnScope nDigits ["_law_script", "_law_first", "_law_last"] (defScope sDigits) := ⟨rfl, rfl, rfl, by decide +kernel, rfl, by decide +kernel, by decide +kernel⟩
theorem scDraw : FnScope ["_law_box", "_law_many", "_law_at"] ["_law_box", "_law_many"] (defScope sDraw) := ⟨rfl, rfl, rfl, by decide +kernel, rfl, by decide +kernel, by decide +kernel⟩

/-- a number of the script, which one is no matter -/
def spCel (K : PySem.W.Frag) : Sp := fun vs H Q _ => ∃ (l : Addr) (ns : List Int) (j : Nat), vs = [.ref l, .int (j : Nat)] ∧ SqL K H l (ns.map V.int) ∧ ns.length ≤ sizeLine ∧ ∀ n : Int, Q (.int n) H
def spDigits (K : PySem.W.Frag) : Sp := fun vs H Q _ => ∃ (l : Addr) (ns : List Int), vs = [.ref l, .int 0, .int 30] ∧ SqL K H l (ns.map V.int) ∧ ns.length ≤ sizeLine ∧ ∀ (a : Addr) (ds : List Int), H a = none → ds.length ≤ 1800 → Q (.ref a) (upd H a (.lst (ds.map V.int)))
/-- the box: digits, the place of the next one -/
def Box (H : Hp) (b d : Addr) : Prop := ∃ (ds : List Int) (n : Nat), H b = some (.lst [.ref d, .int (n : Nat)]) ∧ H d = some (.lst (ds.map V.int)) ∧ ds.length ≤ 1800
def KeepB (b : Addr) (H H' : Hp) : Prop := ∀ a o, a ≠ b → H a = some o → H' a = some o
def spDraw : Sp := fun vs H Q _ => ∃ (b d : Addr) (m : Nat), vs = [.ref b, .int (m : Nat)] ∧ 0 < m ∧ Box H b d ∧ ∀ (r : Nat) (H' : Hp), r < m → Box H' b d → KeepB b H H' → Q (.int (r : Nat)) H'
theorem ixN_nat {n j : Nat} (h : j < n) : ixN n ((j : Nat) : Int) = some j := by
  unfold ixN
  rw [if_pos (by omega), if_pos (by omega)]
  all_goals rfl
theorem atI_ints {ns : List Int} {j : Nat} (h : j < ns.length) : atI (ns.map V.int) ((j : Nat) : Int) = some (V.int ns[j]) := atI_nat (by rw [List.getElem?_map, List.getElem?_eq_getElem h] <;> rfl)
section
variable {P : Program} {w : World} {K : PySem.W.Frag} {mg : Str → Option Value} {base : Heap}
theorem ok_cell {f : Addr} {fd : FuncData} (F : Fun K "_law_cell" "_law_cell" sCell f fd) (T : Tx K mg) : FnOk P w K mg base CX0 1 f fd ["_law_script", "_law_k"] (spCel K) := by
  refine F.ok scCell (fun vs H Q E h => ?_) (fun cdv A outer s H vs Q E hr h => ?_)
  · obtain ⟨l, ns, j, rfl, _⟩ := h
    rfl
  · obtain ⟨l, ns, j, rfl, hs, hz, q⟩ := h
    refine ⟨_, pss_cons (ps_if (pt_cmpR op_lt (pv 1) (pe_callB call_len (by rfl) T.len PySem.boot_len (pa_cons (pv 0) pa_nil)) (nomark _)) (pss_one (ps_ret (pe_ix ix_list (pv 0) (pv 1) fun _ _ => rfl))) pss_nil) (pss_one (ps_ret pe_int)), ?_⟩
    refine ⟨_, rfl, _, rfl, _, (ns.map V.int).length, rfl, .inl ⟨_, hs, rfl⟩, (j : Nat), ((ns.map V.int).length : Nat), rfl, rfl, _, rfl, ?_⟩
    by_cases hj : j < ns.length
    · exact ifT (decide_eq_true (by rw [List.length_map]; omega)) ⟨_, rfl, _, rfl, l, _, _, _, rfl, rfl, hs, atI_ints hj, q _⟩
    · exact ifF (decide_eq_false (by rw [List.length_map]; omega)) (q _)
theorem ok_draw {f : Addr} {fd : FuncData} (F : Fun K "_law_draw" "_law_draw" sDraw f fd) (T : Tx K mg) : FnOk P w K mg base CX0 1 f fd ["_law_box", "_law_many"] spDraw := by
  refine F.ok scDraw (fun vs H Q E h => ?_) (fun cdv A outer s H vs Q E hr h => ?_)
  · obtain ⟨b, d, m, rfl, _⟩ := h
    rfl
  · obtain ⟨b, d, m, rfl, hm, ⟨ds, n, hb, hd, hl⟩, q⟩ := h
    refine ⟨_, pss_cons (ps_set (i := 2) scDraw.nd rfl (.inl rfl) (pe_ix ix_list (pv 0) pe_int fun _ _ => rfl))
      (pss_cons (ps_asg (pe_op op_add (pv 2) pe_int) (pg_sub (pv 0) pe_int set_list))
      (pss_cons (ps_if (pt_cmpR op_lt (pv 2) (pe_callB call_len (by rfl) T.len PySem.boot_len (pa_cons (pe_ix ix_list (pv 0) pe_int fun _ _ => rfl) pa_nil)) (nomark _))
        (pss_one (ps_ret (pe_op op_mod (pe_callTy call_int1 (by rfl) T.int PyProof.Rows.boot_int (pa_cons (pe_ix ix_list (pe_ix ix_list (pv 0) pe_int fun _ _ => rfl) (pv 2) fun _ _ => rfl) pa_nil)) (pv 1)))) pss_nil)
      (pss_one (ps_ret (pe_op op_mod (pe_callTy call_int1 (by rfl) T.int PyProof.Rows.boot_int (pa_cons (pe_op op_add (pe_op op_mul (pv 2) pe_int) pe_int) pa_nil)) (pv 1)))))), ?_⟩
    have hdb : d ≠ b := fun e => by
      rw [e, hb] at hd
      have z := HO.lst.inj (Option.some.inj hd)
      cases ds with
      | nil => cases z
      | cons i r => cases (List.cons.inj z).1
    have H1b : ∀ u, upd H b (.lst [.ref d, u]) b = some (.lst [.ref d, u]) := fun u => upd_same
    have H1d : ∀ u, upd H b (.lst [.ref d, u]) d = some (.lst (ds.map V.int)) := fun u => by rw [upd_ne hdb]; exact hd
    refine ⟨_, rfl, b, _, 1, .int (n : Nat), rfl, rfl, .inl (.inl hb), rfl, ?_⟩
    dsimp only [gName]
    refine ⟨_, rfl, _, _, rfl, rfl, _, rfl, b, _, _, 1, rfl, rfl, hb, rfl, ?_⟩
    have qq : ∀ r : Int, Q (.int (r % (m : Nat))) (upd H b (.lst [.ref d, .int ((n : Nat) + 1)])) := fun r => by
      have e1 : 0 ≤ r % (m : Int) := Int.emod_nonneg _ (by omega)
      have e2 : r % (m : Int) < m := Int.emod_lt_of_pos _ (by omega)
      have z := q (r % (m : Int)).toNat (upd H b (.lst [.ref d, .int ((n : Nat) + 1)])) (by omega) ⟨ds, n + 1, H1b _, H1d _, hl⟩ (fun a o na e => by rw [upd_ne na]; exact e)
      rw [Int.toNat_of_nonneg e1] at z
      exact z
    refine ⟨_, rfl, _, rfl, b, _, 0, .ref d, rfl, rfl, .inl (.inl (H1b _)), rfl, _, _, rfl, .inl ⟨_, .inl (.inl (H1d _)), rfl⟩, (n : Nat), ((ds.map V.int).length : Nat), rfl, rfl, _, rfl, ?_⟩
    by_cases hj : n < ds.length
    · refine ifT (decide_eq_true (by rw [List.length_map]; omega)) ?_
      exact ⟨_, rfl, b, _, 0, .ref d, rfl, rfl, .inl (.inl (H1b _)), rfl, _, rfl, d, _, (n : Nat), _, rfl, rfl, .inl (.inl (H1d _)), atI_ints hj, .inl ⟨_, rfl, _, rfl, _, (m : Nat), rfl, rfl, show (0 : Int) < m by omega, qq _⟩⟩
    · refine ifF (decide_eq_false (by rw [List.length_map]; omega)) ?_
      exact ⟨_, rfl, _, _, rfl, rfl, .inr ⟨by decide, by decide⟩, _, _, rfl, rfl, .inl ⟨_, rfl, _, rfl, _, (m : Nat), rfl, rfl, show (0 : Int) < m by omega, qq _⟩⟩

theorem ok_digits {f fC : Addr} {fd fdC : FuncData} (F : Fun K "_law_digits" "_law_digits" sDigits f fd) (T : Tx K mg)
    (GC : FnOk P w K mg base CX0 1 fC fdC ["_law_script", "_law_k"] (spCel K)) (mC : mg "_law_cell" = some (.ref fC)) (kC : PySem.W.keepIn K (.ref fC) = true) (bC : Binds K fdC ["_law_script", "_law_k"] []) : FnOk P w K mg base CX0 2 f fd ["_law_script", "_law_first", "_law_last"] (spDigits K) := by
  refine F.ok scDigits (fun vs H Q E h => ?_) (fun cdv A outer s H vs Q E hr h => ?_)
  · obtain ⟨l, ns, rfl, _⟩ := h
    rfl
  · obtain ⟨l, ns, rfl, hs, hz, q⟩ := h
    refine ⟨_, pss_cons (ps_set (i := 3) scDigits.nd rfl (.inl rfl) (pe_lst pa_nil))
      (pss_cons (ps_for (PassesOwn.never) rfl (pi_range2 (by rfl) T.range (pa_cons (pv 1) (pa_cons (pv 2) pa_nil))) (pg_name (i := 4) scDigits.nd rfl (.inl rfl))
        (pss_cons (ps_set (i := 5) scDigits.nd rfl (.inl rfl) (pe_call GC hr (by rfl) mC kC bC .nil pass0 (pa_cons (pv 0) (pa_cons (pv 4) pa_nil))))
        (pss_cons (ps_if (pt_cmpR op_lt (pv 5) pe_int (nomark _)) (pss_one (ps_set (i := 5) scDigits.nd rfl (.inl rfl) (pe_op op_sub pe_int (pe_op op_mul pe_int (pv 5))))) pss_nil)
        (pss_one (ps_if (pt_cmpR op_ge (pv 5) (pe_op op_pow pe_int pe_int) (nomark _))
          (pss_one (ps_for (PassesOwn.never) rfl (pi_range1 (by rfl) T.range (pa_cons pe_int pa_nil)) (pg_name (i := 6) scDigits.nd rfl (.inl rfl))
            (pss_one (ps_if (pt_cmpR op_gt (pv 5) pe_int (nomark _))
              (pss_cons (ps_expr (pe_bm PySem.F.plainAttrs_list PySem.F.slot_list_append PySem.F.type_list_append mt_append (pv 3) (pa_cons (pe_op op_mod (pe_callTy call_int1 (by rfl) T.int PyProof.Rows.boot_int (pa_cons (pv 5) pa_nil)) pe_int) pa_nil)))
              (pss_one (ps_set (i := 5) scDigits.nd rfl (.inl rfl) (pe_op op_fdiv (pv 5) pe_int)))) pss_nil))))
          (pss_cons (ps_set (i := 7) scDigits.nd rfl (.inl rfl) (pe_op op_mod (pe_callTy call_int1 (by rfl) T.int PyProof.Rows.boot_int (pa_cons (pe_op op_add (pe_op op_add (pe_op op_mul (pv 5) pe_int) (pe_op op_mul (pv 4) pe_int)) pe_int) pa_nil)) pe_int))
            (pss_one (ps_for (PassesOwn.never) rfl (pi_range1 (by rfl) T.range (pa_cons pe_int pa_nil)) (pg_name (i := 6) scDigits.nd rfl (.inl rfl))
              (pss_cons (ps_set (i := 7) scDigits.nd rfl (.inl rfl) (pe_op op_mod (pe_callTy call_int1 (by rfl) T.int PyProof.Rows.boot_int (pa_cons (pe_op op_add (pe_op op_add (pe_op op_mul (pv 7) pe_int) (pe_op op_mul pe_int (pv 6))) pe_int) pa_nil)) pe_int))
              (pss_one (ps_expr (pe_bm PySem.F.plainAttrs_list PySem.F.slot_list_append PySem.F.type_list_append mt_append (pv 3) (pa_cons (pe_op op_mod (pe_callTy call_int1 (by rfl) T.int PyProof.Rows.boot_int (pa_cons (pe_op op_fdiv (pv 7) pe_int) pa_nil)) pe_int) pa_nil)))))))))))))
      (pss_one (ps_ret (pv 3)))), ?_⟩
    refine ⟨Nat.zero_le _, fun a na => ?_⟩
    dsimp only [gName]
    have hal : ∀ ds : List Int, SqL K (upd H a (.lst (ds.map V.int))) l (ns.map V.int) := fun ds => Ext.seqL (Ps := []) (Ext.new (fun _ h => absurd h List.not_mem_nil) na) hs
    have hsz : 2000 ≤ sizeLine := by decide
    have huu : ∀ (ds : List Int) (y : Int), upd (upd H a (.lst (ds.map V.int))) a (.lst (ds.map V.int ++ [.int y])) = upd H a (.lst ((ds ++ [y]).map V.int)) := fun ds y => by
      rw [upd_upd, List.map_append] <;> rfl
    refine ⟨_, rfl, _, rfl, 0, 30, rfl, ⟨by decide, by decide, by decide, by decide⟩, ?_⟩
    refine for_range (lo := 0) (n := 30) (fun i σ' H' => ∃ (ds : List Int) (x4 x5 x6 x7 : Option V), ds.length ≤ 60 * i ∧ σ' = [some (.ref l), some (.int 0), some (.int 30), some (.ref a), x4, x5, x6, x7] ∧ H' = upd H a (.lst (ds.map V.int)))
      ⟨[], _, _, _, _, Nat.le_refl _, rfl, rfl⟩ (fun i σ' H' hi hp => ?_) fun σ' H' hp => ?_
    · obtain ⟨ds, x4, x5, x6, x7, hd, rfl, rfl⟩ := hp
      dsimp only [gName]
      refine ⟨_, rfl, _, rfl, l, ns, i, by rw [Int.zero_add] <;> rfl, hal ds, hz, fun c => ?_⟩
      dsimp only [gName]
      refine (fun (h1 : ∀ (tl : TS) (D : Ends), (∀ c : Int, tl D [some (.ref l), some (.int 0), some (.int 30), some (.ref a), some (.int (0 + (i : Nat))), some (.int c), x6, x7] (upd H a (.lst (ds.map V.int)))) → tSeq (tIfS _ _ _) tl D [some (.ref l), some (.int 0), some (.int 30), some (.ref a), some (.int (0 + (i : Nat))), some (.int c), x6, x7] (upd H a (.lst (ds.map V.int)))) => h1 _ _ (fun c => ?_)) ?_
      · refine ⟨_, rfl, _, _, rfl, rfl, ⟨by decide, by decide, by decide⟩, _, _, rfl, rfl, _, rfl, ?_⟩
        by_cases hc : c ≥ 10 ^ (18 : Int).toNat
        · refine ifT (decide_eq_true hc) ?_
          refine ⟨60, rfl, by decide, by decide, ?_⟩
          refine for_range (lo := 0) (n := 60) (fun j σ' H' => ∃ (ds' : List Int) (c' : Int) (x6 x7 : Option V), ds'.length ≤ 60 * i + j ∧ σ' = [some (.ref l), some (.int 0), some (.int 30), some (.ref a), some (.int (0 + (i : Nat))), some (.int c'), x6, x7] ∧ H' = upd H a (.lst (ds'.map V.int)))
            ⟨ds, c, _, _, hd, rfl, rfl⟩ (fun j σ' H' hj hp => ?_) fun σ' H' hp => ?_
          · obtain ⟨ds', c', x6, x7, hd', rfl, rfl⟩ := hp
            dsimp only [gName]
            refine ⟨_, rfl, _, _, rfl, rfl, _, rfl, ?_⟩
            by_cases hc' : c' > 0
            · refine ifT (decide_eq_true hc') ?_
              refine ⟨_, rfl, .inl ⟨rfl, _, .inl (.inl upd_same)⟩, _, rfl, .inl ⟨_, rfl, _, _, rfl, rfl, show (0 : Int) < 1000 by decide, a, _, _, rfl, rfl, upd_same, by rw [List.length_map]; omega, ?_⟩⟩
              rw [huu]
              refine ⟨_, rfl, _, _, rfl, rfl, ⟨by decide, by decide⟩, ?_⟩
              exact ⟨_, _, _, _, by rw [List.length_append]; show _ + 1 ≤ _; omega, rfl, rfl⟩
            · exact ifF (decide_eq_false hc') ⟨_, _, _, _, by omega, rfl, rfl⟩
          · obtain ⟨ds', c', x6, x7, hd', rfl, rfl⟩ := hp
            exact ⟨_, _, _, _, _, by omega, rfl, rfl⟩
        · refine ifF (decide_eq_false hc) ?_
          refine ⟨_, rfl, _, _, rfl, rfl, .inr ⟨by decide, by decide⟩, _, rfl, _, _, rfl, rfl, .inr ⟨by decide, by decide⟩, _, _, rfl, rfl, _, _, rfl, rfl, .inl ⟨_, rfl, _, _, rfl, rfl, show (0 : Int) < 2147483647 by decide, ?_⟩⟩
          dsimp only [gName]
          refine ⟨12, rfl, by decide, by decide, ?_⟩
          refine for_range (lo := 0) (n := 12) (fun j σ' H' => ∃ (ds' : List Int) (c' : Int) (x6 : Option V) (x7 : Int), ds'.length ≤ 60 * i + j ∧ σ' = [some (.ref l), some (.int 0), some (.int 30), some (.ref a), some (.int (0 + (i : Nat))), some (.int c'), x6, some (.int x7)] ∧ H' = upd H a (.lst (ds'.map V.int)))
            ⟨ds, c, _, _, hd, rfl, rfl⟩ (fun j σ' H' hj hp => ?_) fun σ' H' hp => ?_
          · obtain ⟨ds', c', x6, x7, hd', rfl, rfl⟩ := hp
            dsimp only [gName]
            refine ⟨_, rfl, _, _, rfl, rfl, .inr ⟨by decide, by decide⟩, _, rfl, _, _, rfl, rfl, .inl ⟨by decide, by decide⟩, _, _, rfl, rfl, _, _, rfl, rfl, .inl ⟨_, rfl, _, _, rfl, rfl, show (0 : Int) < 2147483647 by decide, ?_⟩⟩
            dsimp only [gName]
            refine ⟨_, rfl, .inl ⟨rfl, _, .inl (.inl upd_same)⟩, _, rfl, _, _, rfl, rfl, ⟨by decide, by decide⟩, .inl ⟨_, rfl, _, _, rfl, rfl, show (0 : Int) < 1000 by decide, a, _, _, rfl, rfl, upd_same, by rw [List.length_map]; omega, ?_⟩⟩
            rw [huu]
            exact ⟨_, _, _, _, by rw [List.length_append]; show _ + 1 ≤ _; omega, rfl, rfl⟩
          · obtain ⟨ds', c', x6, x7, hd', rfl, rfl⟩ := hp
            exact ⟨_, _, _, _, _, by omega, rfl, rfl⟩
      · intro tl D rest
        refine ⟨_, rfl, _, _, rfl, rfl, _, rfl, ?_⟩
        by_cases h : c < 0
        · refine ifT (decide_eq_true h) ⟨_, rfl, _, _, rfl, rfl, .inl ⟨by decide, by decide⟩, _, _, rfl, rfl, ?_⟩
          dsimp only [gName]
          exact rest _
        · exact ifF (decide_eq_false h) (rest c)
    · obtain ⟨ds, x4, x5, x6, x7, hd, rfl, rfl⟩ := hp
      exact ⟨_, rfl, q a ds na (by omega)⟩
end
end K0

set_option Elab.async false
set_option linter.all false
set_option maxRecDepth 100000
set_option maxHeartbeats 4000000
/-! the law's own: _law_value, _law_code, _law_same -/
namespace K0
open PySem PySem.Spec PyProof.Rows L2
abbrev sSame : Stmt := topS 19
abbrev sLawV : Stmt := topS 22
abbrev sLawC : Stmt := topS 23
theorem scSame : FnScope ["_law_actual", "_law_due"] ["_law_actual", "_law_due"] (defScope sSame) := ⟨rfl, rfl, rfl, by decide +kernel, rfl, by decide +kernel, by decide +kernel⟩
theorem scLawV : FnScope ["_law_box", "_law_kind"] ["_law_box"] (defScope sLawV) := ⟨rfl, rfl, rfl, by decide +kernel, rfl, by decide +kernel, by decide +kernel⟩
theorem scLawC : FnScope ["_law_value_here"] ["_law_value_here"] (defScope sLawC) := ⟨rfl, rfl, rfl, by decide +kernel, rfl, by decide +kernel, by decide +kernel⟩
def showOk (v : Val) : Bool := (dat v).showable && !(dat v).hasDict && decide ((dat v).depth ≤ 100) && decide ((dat v).shown.length ≤ 1000)
def spSame (K : PySem.W.Frag) : Sp := fun vs H Q _ => ∃ (x y : V) (v : Val), vs = [x, y] ∧ Dp K H x (dat v) ∧ Dp K H y (dat v) ∧ showOk v = true ∧ Q (.bl true) H
def spLawV (K : PySem.W.Frag) : Sp := fun vs H Q _ => ∃ b d : Addr, vs = [.ref b] ∧ Box H b d ∧ ∀ (v : Val) (x : V) (H' : Hp), v ∈ goods → Dp K H' x (dat v) → Box H' b d → KeepB b H H' → Q x H'
def spLawC (K : PySem.W.Frag) (Ps : List Addr) : Sp := fun vs H Q _ => ∃ (x : V) (v : Val), vs = [x] ∧ Dp K H x (dat v) ∧ small v = true ∧ Tabs Ps H ∧ ∀ H', Ext Ps H H' → Q (.str (codeOf v)) H'

section
variable {H H1 H2 : Hp} {b a d : Addr} {o : HO}
theorem KeepB.trans (x : KeepB b H H1) (y : KeepB b H1 H2) : KeepB b H H2 := fun a o n e => y a o n (x a o n e)
theorem KeepB.new (n : H a = none) : KeepB b H (upd H a o) := fun c u _ e => by rw [upd_ne (ne_of_none e n)]; exact e
theorem Box.new (h : Box H b d) (n : H a = none) : Box (upd H a o) b d := by
  obtain ⟨ds, k, h1, h2, h3⟩ := h
  exact ⟨ds, k, by rw [upd_ne (ne_of_none h1 n)]; exact h1, by rw [upd_ne (ne_of_none h2 n)]; exact h2, h3⟩
theorem Box.ne (h : Box H b d) (n : H a = none) : a ≠ b := by
  obtain ⟨ds, k, h1, _⟩ := h
  exact fun e => by
    rw [e, h1] at n
    cases n
end
theorem pick {xs : List V} {r : Nat} (h : r < xs.length) : atI xs ((r : Nat) : Int) = some xs[r] := atI_nat (List.getElem?_eq_getElem h)
theorem good_num {k : Nat} (h : k < 900) : Val.number ((k : Int) - 450) ∈ goods := by
  unfold goods
  simp only [List.mem_append, List.mem_map, List.mem_range]
  exact .inl (.inl (.inl (.inr ⟨k, h, rfl⟩)))
theorem good_n1 : ([0, -1, 9999, -9999, 123456] : List Int).all (fun i => decide (Val.number i ∈ goods)) = true := by decide +kernel
theorem good_opt : (["a", "b2", "yes1", "x"] : List Str).all (fun y => decide (Val.option y ∈ goods)) = true := by decide +kernel
theorem good_txt : (["", "yes", "12", ".a", "[a]", "a\"b", " ", "\n", "no"] : List Str).all (fun y => decide (Val.text y ∈ goods)) = true := by decide +kernel
theorem good_opts : ([[], ["a"], ["a", "b"], ["b2", "c", "zz"]] : List (List Str)).all (fun y => decide (Val.options y ∈ goods)) = true := by decide +kernel
theorem good_tr (b : Bool) : Val.truth b ∈ goods := by
  cases b with
  | true => decide +kernel
  | false => decide +kernel
theorem all_dec {α : Type} {p : α → Prop} [DecidablePred p] {xs : List α} (h : xs.all (fun y => decide (p y)) = true) : ∀ y ∈ xs, p y := fun y hy => of_decide_eq_true (List.all_eq_true.mp h y hy)
theorem map_get {α : Type} {f : α → V} {xs : List α} {r : Nat} (h : r < xs.length) : atI (xs.map f) ((r : Nat) : Int) = some (f xs[r]) := atI_nat (by rw [List.getElem?_map, List.getElem?_eq_getElem h] <;> rfl)
section
variable {P : Program} {w : World} {K : PySem.W.Frag} {mg : Str → Option Value} {base : Heap}
theorem ok_same {f : Addr} {fd : FuncData} {A : Around} {k : Nat} (F : Fun K "_law_same" "_law_same" sSame f fd) (T : Tx K mg) (hr0 : Room (k + 1) A) (hg : A.guards = some []) : FnAt P w K mg base A f fd ["_law_actual", "_law_due"] (spSame K) := by
  refine K0.Fun.at F scSame hr0 (fun vs H Q E h => ?_) (fun cdv outer s H vs Q hr h => ?_)
  · obtain ⟨x, y, v, rfl, _⟩ := h
    rfl
  · obtain ⟨x, y, v, rfl, hx, hy, hs, q⟩ := h
    unfold showOk at hs
    simp only [Bool.and_eq_true, decide_eq_true_eq, Bool.not_eq_true'] at hs
    obtain ⟨⟨⟨h1, h2⟩, h3⟩, h4⟩ := hs
    have hz : 1000 ≤ sizeLine := by decide
    obtain ⟨a1, u1, rfl, _⟩ := dat_inv hx
    obtain ⟨a2, u2, rfl, _⟩ := dat_inv hy
    refine ⟨_, pss_one (ps_ret (pe_cmpR op_eq (pe_callB (call_repr hr hg) (by rfl) T.repr boot_repr (pa_cons (pv 0) pa_nil)) (pe_callB (call_repr hr hg) (by rfl) T.repr boot_repr (pa_cons (pv 1) pa_nil)) (by rfl))), ?_⟩
    refine ⟨_, rfl, a1, dat v, rfl, hx, h1, h2, h3, Nat.le_trans h4 hz, _, rfl, a2, dat v, rfl, hy, h1, h2, h3, Nat.le_trans h4 hz, rfl, ?_⟩
    rw [decide_eq_true rfl]
    exact q

theorem ok_lawC {f : Addr} {fd : FuncData} {Ps : List Addr} (F : Fun K "_law_code" "_law_code" sLawC f fd) (T : Tx K mg) : FnOk P w K mg base CX0 1 f fd ["_law_value_here"] (spLawC K Ps) := by
  refine F.ok scLawC (fun vs H Q E h => ?_) (fun cdv A outer s H vs Q E hr h => ?_)
  · obtain ⟨x, v, rfl, _⟩ := h
    rfl
  · obtain ⟨x, v, rfl, hd, hs, hT, q⟩ := h
    refine ⟨_, pss_cons (ps_if (pt_cmpR op_eq (pe_ix ix_tup (pv 0) pe_int (fun _ _ => rfl)) pe_str (nomark _)) (pss_one (ps_ret (pe_ix ix_list (pe_lst (pa_cons pe_str (pa_cons pe_str pa_nil))) (pe_callTy call_int1 (by rfl) T.int PyProof.Rows.boot_int (pa_cons (pe_ix ix_tup (pv 0) pe_int (fun _ _ => rfl)) pa_nil)) (fun _ _ => rfl)))) pss_nil)
      (pss_cons (ps_if (pt_cmpR op_eq (pe_ix ix_tup (pv 0) pe_int (fun _ _ => rfl)) pe_str (nomark _)) (pss_one (ps_ret (pe_callTy call_str_int (by rfl) T.str PyProof.Rows.boot_str (pa_cons (pe_ix ix_tup (pv 0) pe_int (fun _ _ => rfl)) pa_nil)))) pss_nil)
      (pss_cons (ps_if (pt_cmpR op_eq (pe_ix ix_tup (pv 0) pe_int (fun _ _ => rfl)) pe_str (nomark _)) (pss_one (ps_ret (pe_op op_add_str pe_str (pe_ix ix_tup (pv 0) pe_int (fun _ _ => rfl))))) pss_nil)
      (pss_cons (ps_if (pt_cmpR op_eq (pe_ix ix_tup (pv 0) pe_int (fun _ _ => rfl)) pe_str (nomark _)) (pss_one (ps_ret (pe_op op_add_str (pe_op op_add_str pe_str (pe_join pe_str (pe_ix ix_tup (pv 0) pe_int (fun _ _ => rfl)))) pe_str))) pss_nil)
      (pss_one (ps_ret (pe_op op_add_str pe_str (pe_ix ix_tup (pv 0) pe_int (fun _ _ => rfl)))))))), ?_⟩
    obtain ⟨a, u, rfl, ht, hi⟩ := dat_inv hd
    refine ⟨_, rfl, a, _, 0, _, rfl, rfl, ht, rfl, rfl, _, rfl, ?_⟩
    cases v with
    | truth b =>
      cases hi
      refine ifT (decide_eq_true rfl) ⟨by show 2 ≤ sizeLine; decide, fun l nl => ?_⟩
      have x1 := Ext.new (o := .lst [.str "no", .str "yes"]) hT nl
      refine ⟨_, rfl, a, _, 1, _, rfl, rfl, x1.seqT ht, rfl, .inr ⟨_, rfl, ?_⟩⟩
      cases b with
      | true => exact ⟨l, _, 1, _, rfl, rfl, .inl (.inl upd_same), rfl, q _ x1⟩
      | false => exact ⟨l, _, 0, _, rfl, rfl, .inl (.inl upd_same), rfl, q _ x1⟩
    | number i =>
      cases hi
      refine ifF (str_ne k_nt) ⟨_, rfl, a, _, 0, _, rfl, rfl, ht, rfl, rfl, _, rfl, ifT (decide_eq_true rfl) ⟨_, rfl, a, _, 1, _, rfl, rfl, ht, rfl, i, rfl, log_small (of_decide_eq_true hs), q _ (Ext.refl hT)⟩⟩
    | option x =>
      cases hi
      have hx : x.length ≤ 100 := of_decide_eq_true hs
      refine ifF (str_ne k_ot) ⟨_, rfl, a, _, 0, _, rfl, rfl, ht, rfl, rfl, _, rfl, ifF (str_ne k_on) ⟨_, rfl, a, _, 0, _, rfl, rfl, ht, rfl, rfl, _, rfl, ifT (decide_eq_true rfl) ⟨_, rfl, a, _, 1, _, rfl, rfl, ht, rfl, _, _, rfl, rfl, ?_, q _ (Ext.refl hT)⟩⟩⟩
      show 1 + x.length ≤ sizeLine
      have : 1000 ≤ sizeLine := by decide
      omega
    | options xs =>
      obtain ⟨t, rfl, hx⟩ := hi
      unfold small at hs
      simp only [Bool.and_eq_true, decide_eq_true_eq] at hs
      obtain ⟨⟨h1, h2⟩, h3⟩ := hs
      have hz : 2000 ≤ sizeLine := by decide
      refine ifF (str_ne k_pt) ⟨_, rfl, a, _, 0, _, rfl, rfl, ht, rfl, rfl, _, rfl, ifF (str_ne k_pn) ⟨_, rfl, a, _, 0, _, rfl, rfl, ht, rfl, rfl, _, rfl, ifF (str_ne k_po) ⟨_, rfl, a, _, 0, _, rfl, rfl, ht, rfl, rfl, _, rfl, ifT (decide_eq_true rfl) ?_⟩⟩⟩
      refine ⟨⟨_, rfl⟩, _, rfl, a, _, 1, _, rfl, rfl, ht, rfl, _, t, xs, rfl, rfl, .inr hx, ?_, _, _, rfl, rfl, ?_, _, _, rfl, rfl, ?_, q _ (Ext.refl hT)⟩
      · show _ + xs.length * 1 ≤ _
        omega
      · show 1 + (Txt.join "," xs).length ≤ _
        omega
      · have e : ((("[" : Str) ++ Txt.join "," xs)).length = 1 + (Txt.join "," xs).length := by
          rw [strLen_append] <;> rfl
        show (("[" : Str) ++ Txt.join "," xs).length + 1 ≤ _
        omega
    | text x =>
      cases hi
      have hx : x.length ≤ 100 := of_decide_eq_true hs
      refine ifF (str_ne k_xt) ⟨_, rfl, a, _, 0, _, rfl, rfl, ht, rfl, rfl, _, rfl, ifF (str_ne k_xn) ⟨_, rfl, a, _, 0, _, rfl, rfl, ht, rfl, rfl, _, rfl, ifF (str_ne k_xo) ⟨_, rfl, a, _, 0, _, rfl, rfl, ht, rfl, rfl, _, rfl, ifF (str_ne k_xp) ⟨_, rfl, a, _, 1, _, rfl, rfl, ht, rfl, _, _, rfl, rfl, ?_, q _ (Ext.refl hT)⟩⟩⟩⟩
      show 1 + x.length ≤ sizeLine
      have : 1000 ≤ sizeLine := by decide
      omega

theorem ok_lawV {f fD : Addr} {fd fdD : FuncData} (F : Fun K "_law_value" "_law_value" sLawV f fd) (T : Tx K mg)
    (GD : FnOk P w K mg base CX0 1 fD fdD ["_law_box", "_law_many"] spDraw) (mD : mg "_law_draw" = some (.ref fD)) (kD : PySem.W.keepIn K (.ref fD) = true) (bD : Binds K fdD ["_law_box", "_law_many"] []) : FnOk P w K mg base CX0 2 f fd ["_law_box"] (spLawV K) := by
  refine F.ok scLawV (fun vs H Q E h => ?_) (fun cdv A outer s H vs Q E hr h => ?_)
  · obtain ⟨b, d, rfl, _⟩ := h
    rfl
  · obtain ⟨b, d, rfl, hb, q⟩ := h
    refine ⟨_, pss_cons (ps_set (i := 1) scLawV.nd rfl (.inl rfl) (pe_call GD hr (by rfl) mD kD bD .nil pass0 (pa_cons (pv 0) (pa_cons pe_int pa_nil))))
      (pss_cons (ps_if (pt_cmpR op_eq (pv 1) pe_int (nomark _)) (pss_one (ps_ret (pe_tup (pa_cons pe_str (pa_cons (pe_cmpR op_eq (pe_call GD hr (by rfl) mD kD bD .nil pass0 (pa_cons (pv 0) (pa_cons pe_int pa_nil))) pe_int (nomark _)) pa_nil))))) pss_nil)
      (pss_cons (ps_if (pt_cmpR op_eq (pv 1) pe_int (nomark _)) (pss_one (ps_ret (pe_tup (pa_cons pe_str (pa_cons (pe_ix ix_list (pe_lst (pa_cons pe_int (pa_cons (pe_un un_neg pe_int) (pa_cons pe_int (pa_cons (pe_un un_neg pe_int) (pa_cons (pe_op op_sub (pe_call GD hr (by rfl) mD kD bD .nil pass0 (pa_cons (pv 0) (pa_cons pe_int pa_nil))) pe_int) (pa_cons pe_int pa_nil)))))))
        (pe_call GD hr (by rfl) mD kD bD .nil pass0 (pa_cons (pv 0) (pa_cons pe_int pa_nil))) (fun _ _ => rfl)) pa_nil))))) pss_nil)
      (pss_cons (ps_if (pt_cmpR op_eq (pv 1) pe_int (nomark _)) (pss_one (ps_ret (pe_tup (pa_cons pe_str (pa_cons (pe_ix ix_list (pe_lst (pa_cons pe_str (pa_cons pe_str (pa_cons pe_str (pa_cons pe_str pa_nil)))))
        (pe_call GD hr (by rfl) mD kD bD .nil pass0 (pa_cons (pv 0) (pa_cons pe_int pa_nil))) (fun _ _ => rfl)) pa_nil))))) pss_nil)
      (pss_cons (ps_if (pt_cmpR op_eq (pv 1) pe_int (nomark _)) (pss_one (ps_ret (pe_tup (pa_cons pe_str (pa_cons (pe_ix ix_list (pe_lst (pa_cons (pe_tup pa_nil) (pa_cons (pe_tup (pa_cons pe_str pa_nil)) (pa_cons (pe_tup (pa_cons pe_str (pa_cons pe_str pa_nil))) (pa_cons (pe_tup (pa_cons pe_str (pa_cons pe_str (pa_cons pe_str pa_nil)))) pa_nil)))))
        (pe_call GD hr (by rfl) mD kD bD .nil pass0 (pa_cons (pv 0) (pa_cons pe_int pa_nil))) (fun _ _ => rfl)) pa_nil))))) pss_nil)
      (pss_one (ps_ret (pe_tup (pa_cons pe_str (pa_cons (pe_ix ix_list (pe_lst (pa_cons pe_str (pa_cons pe_str (pa_cons pe_str (pa_cons pe_str (pa_cons pe_str (pa_cons pe_str (pa_cons pe_str (pa_cons pe_str (pa_cons pe_str pa_nil))))))))))
        (pe_call GD hr (by rfl) mD kD bD .nil pass0 (pa_cons (pv 0) (pa_cons pe_int pa_nil))) (fun _ _ => rfl)) pa_nil))))))))), ?_⟩
    refine ⟨_, rfl, b, d, 6, rfl, by decide, hb, fun r H1 hr1 hb1 k1 => ?_⟩
    dsimp only [gName]
    have n2 : 2 ≤ sizeLine := by decide
    have n9 : 9 ≤ sizeLine := by decide
    refine ⟨_, rfl, rfl, _, rfl, ?_⟩
    by_cases c0 : V.int (r : Nat) = V.int 0
    · refine ifT (decide_eq_true c0) ⟨_, rfl, b, d, 2, rfl, by decide, hb1, fun r2 H2 hr2 hb2 k2 => ⟨rfl, n2, fun a na => ?_⟩⟩
      refine q (.truth (decide (V.int (r2 : Nat) = V.int 1))) _ _ (good_tr _) ?_ (hb2.new na) (k1.trans (k2.trans (KeepB.new na)))
      exact dat_mk (.inl (.inl upd_same)) rfl
    refine ifF (decide_eq_false c0) ⟨_, rfl, rfl, _, rfl, ?_⟩
    by_cases c1 : V.int (r : Nat) = V.int 1
    · refine ifT (decide_eq_true c1) ⟨_, rfl, _, rfl, _, rfl, b, d, 900, rfl, by decide, hb1, fun r2 H2 hr2 hb2 k2 => ⟨_, _, rfl, rfl, by show 6 ≤ sizeLine; decide, fun l nl => ?_⟩⟩
      refine ⟨_, rfl, b, d, 6, rfl, by decide, hb2.new nl, fun r3 H3 hr3 hb3 k3 => ?_⟩
      have hl := k3 l _ (hb2.ne nl) upd_same
      have hin : ∀ i ∈ ([0, -1, 9999, -9999, (r2 : Int) - 450, 123456] : List Int), Val.number i ∈ goods := fun i hi => by
        have z := all_dec good_n1
        simp only [List.mem_cons, List.not_mem_nil, or_false] at hi
        rcases hi with rfl | rfl | rfl | rfl | rfl | rfl
        · exact z _ (by simp)
        · exact z _ (by simp)
        · exact z _ (by simp)
        · exact z _ (by simp)
        · exact good_num hr2
        · exact z _ (by simp)
      refine ⟨l, ([0, -1, 9999, -9999, (r2 : Int) - 450, 123456] : List Int).map V.int, (r3 : Nat), _, rfl, rfl, .inl (.inl hl), map_get (f := V.int) hr3, n2, fun a na => ?_⟩
      refine q (.number _) _ _ (hin _ (List.getElem_mem hr3)) (dat_mk (.inl (.inl upd_same)) rfl) (hb3.new na) (k1.trans (k2.trans ((KeepB.new nl).trans (k3.trans (KeepB.new na)))))
    refine ifF (decide_eq_false c1) ⟨_, rfl, rfl, _, rfl, ?_⟩
    by_cases c2 : V.int (r : Nat) = V.int 2
    · refine ifT (decide_eq_true c2) ⟨by show 4 ≤ sizeLine; decide, fun l nl => ⟨_, rfl, b, d, 4, rfl, by decide, hb1.new nl, fun r3 H3 hr3 hb3 k3 => ?_⟩⟩
      have hl := k3 l _ (hb1.ne nl) upd_same
      refine ⟨l, (["a", "b2", "yes1", "x"] : List Str).map V.str, (r3 : Nat), _, rfl, rfl, .inl (.inl hl), map_get (f := V.str) hr3, n2, fun a na => ?_⟩
      refine q (.option _) _ _ (all_dec good_opt _ (List.getElem_mem hr3)) (dat_mk (.inl (.inl upd_same)) rfl) (hb3.new na) (k1.trans ((KeepB.new nl).trans (k3.trans (KeepB.new na))))
    refine ifF (decide_eq_false c2) ⟨_, rfl, rfl, _, rfl, ?_⟩
    by_cases c3 : V.int (r : Nat) = V.int 3
    · refine ifT (decide_eq_true c3) ⟨Nat.zero_le _, fun t0 n0 => ⟨by show 1 ≤ sizeLine; decide, fun t1 n1 => ⟨n2, fun t2 n2' => ⟨by show 3 ≤ sizeLine; decide, fun t3 n3 => ⟨by show 4 ≤ sizeLine; decide, fun l nl => ?_⟩⟩⟩⟩⟩
      have kk := ((KeepB.new (b := b) (o := .tup []) n0).trans ((KeepB.new (o := .tup [.str "a"]) n1).trans ((KeepB.new (o := .tup [.str "a", .str "b"]) n2').trans ((KeepB.new (o := .tup [.str "b2", .str "c", .str "zz"]) n3).trans (KeepB.new (o := .lst [.ref t0, .ref t1, .ref t2, .ref t3]) nl)))))
      have hb' := ((((hb1.new (o := .tup []) n0).new (o := .tup [.str "a"]) n1).new (o := .tup [.str "a", .str "b"]) n2').new (o := .tup [.str "b2", .str "c", .str "zz"]) n3)
      have hbl := hb'.new (o := .lst [.ref t0, .ref t1, .ref t2, .ref t3]) nl
      have e0 := ((KeepB.new (b := b) (o := .tup [.str "a"]) n1).trans ((KeepB.new (o := .tup [.str "a", .str "b"]) n2').trans ((KeepB.new (o := .tup [.str "b2", .str "c", .str "zz"]) n3).trans (KeepB.new (o := .lst [.ref t0, .ref t1, .ref t2, .ref t3]) nl)))) t0 _ (hb1.ne n0) upd_same
      have e1 := ((KeepB.new (b := b) (o := .tup [.str "a", .str "b"]) n2').trans ((KeepB.new (o := .tup [.str "b2", .str "c", .str "zz"]) n3).trans (KeepB.new (o := .lst [.ref t0, .ref t1, .ref t2, .ref t3]) nl))) t1 _ ((hb1.new n0).ne n1) upd_same
      have e2 := ((KeepB.new (b := b) (o := .tup [.str "b2", .str "c", .str "zz"]) n3).trans (KeepB.new (o := .lst [.ref t0, .ref t1, .ref t2, .ref t3]) nl)) t2 _ (((hb1.new n0).new n1).ne n2') upd_same
      have e3 := (KeepB.new (b := b) (o := .lst [.ref t0, .ref t1, .ref t2, .ref t3]) nl) t3 _ ((((hb1.new n0).new n1).new n2').ne n3) upd_same
      refine ⟨_, rfl, b, d, 4, rfl, by decide, hbl, fun r3 H3 hr3 hb3 k3 => ?_⟩
      have hl := k3 l _ (hb'.ne nl) upd_same
      have f0 := k3 t0 _ (hb1.ne n0) e0
      have f1 := k3 t1 _ ((hb1.new n0).ne n1) e1
      have f2 := k3 t2 _ (((hb1.new n0).new n1).ne n2') e2
      have f3 := k3 t3 _ ((((hb1.new n0).new n1).new n2').ne n3) e3
      have hin : ∀ t ∈ [t0, t1, t2, t3], ∃ ns : List Str, Val.options ns ∈ goods ∧ H3 t = some (.tup (ns.map V.str)) := fun t hi => by
        have z := all_dec good_opts
        simp only [List.mem_cons, List.not_mem_nil, or_false] at hi
        rcases hi with rfl | rfl | rfl | rfl
        · exact ⟨[], z _ (by simp), f0⟩
        · exact ⟨["a"], z _ (by simp), f1⟩
        · exact ⟨["a", "b"], z _ (by simp), f2⟩
        · exact ⟨["b2", "c", "zz"], z _ (by simp), f3⟩
      obtain ⟨ns, g1, g2⟩ := hin _ (List.getElem_mem hr3)
      refine ⟨l, [t0, t1, t2, t3].map V.ref, (r3 : Nat), _, rfl, rfl, .inl (.inl hl), map_get (f := V.ref) hr3, n2, fun a na => ?_⟩
      refine q (.options ns) _ _ g1 (dat_mk (.inl (.inl upd_same)) ⟨_, rfl, .inl (.inl ?_)⟩) (hb3.new na) (k1.trans (kk.trans (k3.trans (KeepB.new na))))
      rw [upd_ne (ne_of_none g2 na)]
      exact g2
    refine ifF (decide_eq_false c3) ⟨by show 9 ≤ sizeLine; decide, fun l nl => ⟨_, rfl, b, d, 9, rfl, by decide, hb1.new nl, fun r3 H3 hr3 hb3 k3 => ?_⟩⟩
    have hl := k3 l _ (hb1.ne nl) upd_same
    refine ⟨l, (["", "yes", "12", ".a", "[a]", "a\"b", " ", "\n", "no"] : List Str).map V.str, (r3 : Nat), _, rfl, rfl, .inl (.inl hl), map_get (f := V.str) hr3, n2, fun a na => ?_⟩
    exact q (.text _) _ _ (all_dec good_txt _ (List.getElem_mem hr3)) (dat_mk (.inl (.inl upd_same)) rfl) (hb3.new na) (k1.trans ((KeepB.new nl).trans (k3.trans (KeepB.new na))))
end
end K0

set_option Elab.async false
set_option linter.all false
set_option maxRecDepth 100000
set_option maxHeartbeats 4000000
/-! literals as data; what the law's own data fulfil; data when one list changes -/
namespace K0
open PySem PySem.Spec PyProof.Rows L2

/-! ### literals -/
def DE (K : PySem.W.Frag) (Ps : List Addr) (te : TE) (d : PyData) : Prop := ∀ (σ : L2.St) (H : Hp) (Q : VK), Tabs Ps H → (∀ H' x, Ext Ps H H' → Dp K H' x d → Q x H') → te σ H Q
def DA (K : PySem.W.Frag) (Ps : List Addr) (t : TA) (ds : List PyData) : Prop := ∀ (σ : L2.St) (H : Hp) (Q : List V → Hp → Prop), Tabs Ps H → (∀ H' xs, Ext Ps H H' → DpAll K H' xs ds → Q xs H') → t σ H Q
section
variable {K : PySem.W.Frag} {Ps : List Addr}
theorem DE.non : DE K Ps (tC .non) .none := fun σ H Q hT q => q H _ (Ext.refl hT) .non
theorem DE.bl {b : Bool} : DE K Ps (tC (.bl b)) (.bool b) := fun σ H Q hT q => q H _ (Ext.refl hT) (.bl b)
theorem DE.int {i : Int} : DE K Ps (tC (.int i)) (.int i) := fun σ H Q hT q => q H _ (Ext.refl hT) (.int i)
theorem DE.str {y : Str} : DE K Ps (tC (.str y)) (.str y) := fun σ H Q hT q => q H _ (Ext.refl hT) (.str y)
theorem DE.neg {i : Int} : DE K Ps (tUn (rU fun i => .int (-i)) (tC (.int i))) (.int (-i)) := fun σ H Q hT q => ⟨i, rfl, q H _ (Ext.refl hT) (.int _)⟩
theorem DA.nil : DA K Ps tNil [] := fun σ H Q hT q => q H [] (Ext.refl hT) .nil
theorem DA.cons {te : TE} {t : TA} {d : PyData} {ds : List PyData} (h1 : DE K Ps te d) (h2 : DA K Ps t ds) : DA K Ps (tCons te t) (d :: ds) := fun σ H Q hT q =>
  h1 σ H _ hT fun H1 x x1 hx => h2 σ H1 _ x1.tab fun H2 xs x2 hxs => q H2 (x :: xs) (x1.trans x2) (.cons (x2.dp _ _ hx) hxs)
theorem DA.len {H : Hp} {xs : List V} {ds : List PyData} (h : DpAll K H xs ds) (z : decide (ds.length ≤ 1000) = true) : xs.length ≤ sizeLine := by
  have e := (dpAll_get h).1
  have e2 := of_decide_eq_true z
  have : 1000 ≤ sizeLine := by decide
  omega
theorem DE.tup {t : TA} {ds : List PyData} (h : DA K Ps t ds) (z : decide (ds.length ≤ 1000) = true) : DE K Ps (tTup t) (.tuple ds) := fun σ H Q hT q =>
  h σ H _ hT fun H1 xs x1 hxs => ⟨DA.len hxs z, fun a na => q _ _ (x1.trans (Ext.new x1.tab na)) (.tup (.inl (.inl upd_same)) ((Ext.new x1.tab na).dpAll _ _ hxs))⟩
theorem DE.lst {t : TA} {ds : List PyData} (h : DA K Ps t ds) (z : decide (ds.length ≤ 1000) = true) : DE K Ps (tLst t) (.list ds) := fun σ H Q hT q =>
  h σ H _ hT fun H1 xs x1 hxs => ⟨DA.len hxs z, fun a na => q _ _ (x1.trans (Ext.new x1.tab na)) (.lst (.inl (.inl upd_same)) ((Ext.new x1.tab na).dpAll _ _ hxs))⟩
/-- a list display: the list itself stands in H -/
theorem DL {t : TA} {ds : List PyData} (h : DA K Ps t ds) (z : decide (ds.length ≤ 1000) = true) (σ : L2.St) (H : Hp) (Q : VK) (hT : Tabs Ps H) (q : ∀ H' a xs, Ext Ps H H' → H' a = some (.lst xs) → DpAll K H' xs ds → Q (.ref a) H') : tLst t σ H Q :=
  h σ H _ hT fun H1 xs x1 hxs => ⟨DA.len hxs z, fun a na => q _ _ _ (x1.trans (Ext.new x1.tab na)) upd_same ((Ext.new x1.tab na).dpAll _ _ hxs)⟩
end

/-! ### the law's data -/
def bads1 : List PyData := [.none, .bool true, .int 1, .str "a", .tuple [], .tuple [.str "number"], .tuple [.str "truth", .int 1], .tuple [.str "number", .bool true], .tuple [.str "option", .str "if"], .tuple [.str "options", .tuple [.str "b", .str "a"]]]
def bads2 : List PyData := [.tuple [.str "options", .list [.str "a"]], .tuple [.str "text", .int 5], .tuple [.str "word", .str "a"], .tuple [.str "number", .int 10000], .tuple [.str "number", .int (-10000)], .tuple [.str "options", .tuple [.int 1]], .tuple [.str "options", .tuple [.str "a", .none]]]
def rows1 : List (Str × Bool) := [("a", true), ("a1b2c3", true), ("row", false), ("rows", true), ("if", false), ("", false), ("1a", false), ("A", false), ("abcdefg", false)]
def rows2 : List (Str × Bool) := [("yes", false), ("has", true), ("then", false), ("else", false), ("or", false), ("and", false), ("not", false), ("no", false)]
def rowD (p : Str × Bool) : PyData := .tuple [.str p.1, .bool p.2]
/-! no list but lists of texts (L), no list at all (not L) -/
mutual
def nbx (L : Bool) : PyData → Bool
  | .list ds => L && ds.all isStrD
  | .tuple ds => nbxs L ds
  | .dict _ => false
  | _ => true
def nbxs (L : Bool) : List PyData → Bool
  | [] => true
  | d :: ds => nbx L d && nbxs L ds
end
def lawSmall : Val → Bool
  | .number i => decide (-9999 ≤ i) && decide (i ≤ 9999)
  | _ => true
def goodOk (v : Val) : Bool := small v && valOk (codeOf v) && showOk v && thingOk (dat v) && SeqAt.shaped (dat v) && (isValueD (dat v) == lawSmall v)
theorem goods_ok : goods.all goodOk = true := by decide +kernel
theorem bads_ok : (bads1 ++ bads2).all (fun d => thingOk d && !isValueD d && nbx true d) = true := by decide +kernel
theorem rows_ok : (rows1 ++ rows2).all (fun p => (isName p.1 == p.2) && decide (p.1.length ≤ 1000)) = true := by decide +kernel
theorem wrongs_ok : wrongs.all (fun x => valOk x) = true := by decide +kernel

section
variable {K : PySem.W.Frag} {H H' : Hp} {c : Addr} {L : Bool}
theorem seqT_keep {a : Addr} {xs : List V} (hc : ∃ ys, H c = some (.lst ys)) (k : KeepB c H H') (h : SqT K H a xs) : SqT K H' a xs := by
  obtain ⟨ys, hc⟩ := hc
  rcases h with (e | ⟨o, e⟩) | e
  · exact .inl (.inl (k a _ (fun z => by rw [z, hc] at e; cases e) e))
  · exact .inl (.inr ⟨o, k a _ (fun z => by rw [z, hc] at e; cases e) e⟩)
  · exact .inr e
mutual
theorem dp_keep (hc : ∃ ys, H c = some (.lst ys)) (hL : L = true → ∀ xs ds, H c = some (.lst xs) → ds.all isStrD = true → ¬ DpAll K H xs ds) (k : KeepB c H H') : ∀ (d : PyData) (v : V), nbx L d = true → Dp K H v d → Dp K H' v d
  | .none, _, _, h => by cases h; exact .non
  | .bool b, _, _, h => by cases h; exact .bl b
  | .int i, _, _, h => by cases h; exact .int i
  | .str y, _, _, h => by cases h; exact .str y
  | .list ds, _, n, h => by
    unfold nbx at n
    rw [Bool.and_eq_true] at n
    cases h with
    | lst hs ha =>
      have ha' := strs_keep ds _ n.2 ha
      rcases hs with (e | ⟨o, e⟩) | e
      · exact .lst (.inl (.inl (k _ _ (fun z => by rw [z] at e; exact hL n.1 _ _ e n.2 ha) e))) ha'
      · obtain ⟨ys, hc⟩ := hc
        exact .lst (.inl (.inr ⟨o, k _ _ (fun z => by rw [z, hc] at e; cases e) e⟩)) ha'
      · exact .lst (.inr e) ha'
  | .tuple ds, _, n, h => by
    unfold nbx at n
    cases h with
    | tup hs ha => exact .tup (seqT_keep hc k hs) (dp_keeps hc hL k ds _ n ha)
  | .dict _, _, _, h => by cases h
theorem strs_keep : ∀ (ds : List PyData) (vs : List V), ds.all isStrD = true → DpAll K H vs ds → DpAll K H' vs ds
  | [], _, _, h => by cases h; exact .nil
  | d :: ds, _, n, h => by
    rw [List.all_cons, Bool.and_eq_true] at n
    cases h with
    | cons h1 h2 =>
      refine .cons ?_ (strs_keep ds _ n.2 h2)
      cases h1 with
      | str y => exact .str y
      | non => exact .non
      | bl b => exact .bl b
      | int i => exact .int i
      | lst hs _ => exact absurd (show false = true from n.1) Bool.false_ne_true
      | tup hs _ => exact absurd (show false = true from n.1) Bool.false_ne_true
theorem dp_keeps (hc : ∃ ys, H c = some (.lst ys)) (hL : L = true → ∀ xs ds, H c = some (.lst xs) → ds.all isStrD = true → ¬ DpAll K H xs ds) (k : KeepB c H H') : ∀ (ds : List PyData) (vs : List V), nbxs L ds = true → DpAll K H vs ds → DpAll K H' vs ds
  | [], _, _, h => by cases h; exact .nil
  | d :: ds, _, n, h => by
    unfold nbxs at n
    rw [Bool.and_eq_true] at n
    cases h with
    | cons h1 h2 => exact .cons (dp_keep hc hL k d _ n.1 h1) (dp_keeps hc hL k ds _ n.2 h2)
end
end
theorem nbx_strs : ∀ xs : List Str, nbxs false (xs.map PyData.str) = true
  | [] => by unfold nbxs <;> rfl
  | x :: xs => by
    simp [nbxs, nbx, nbx_strs xs]
theorem nbx_dat (v : Val) : nbx false (dat v) = true := by
  cases v <;> simp [dat, innerD, nbx, nbxs, nbx_strs]
theorem nbx_dats : ∀ vs : List Val, nbxs false (vs.map dat) = true
  | [] => by unfold nbxs <;> rfl
  | v :: vs => by
    rw [List.map_cons, nbxs, nbx_dat v, nbx_dats vs] <;> rfl
/-! ### equality of values -/
def kindN : Val → Fin 5
  | .truth _ => 0
  | .number _ => 1
  | .option _ => 2
  | .options _ => 3
  | .text _ => 4
def kindT : Fin 5 → Str := fun i => (["truth", "number", "option", "options", "text"] : List Str).getD i.val ""
theorem kindT_inj : ∀ i j : Fin 5, kindT i = kindT j → i = j := by decide +kernel
theorem kindOf_T (v : Val) : kindOf v = kindT (kindN v) := by cases v <;> rfl
theorem eqv_dat (v u : Val) : PyData.eqv (dat v) (dat u) = decide (v = u) := by
  by_cases e : v = u
  · subst e
    rw [eqv_dat_self, decide_eq_true rfl]
  · rw [decide_eq_false e]
    by_cases k : kindN v = kindN u
    · cases v <;> cases u <;> first | (cases k; done) | (simp [dat, innerD, PyData.eqv, PyData.eqvAll, eqv_strs]; exact fun _ z => e (by rw [z]))
    · have h : (kindOf v == kindOf u) = false := by
        rw [beq_eq_false_iff_ne]
        intro z
        rw [kindOf_T, kindOf_T] at z
        exact k (kindT_inj _ _ z)
      simp [dat, PyData.eqv, PyData.eqvAll, h]
theorem code_inj {v u : Val} (hv : v ∈ goods) (hu : u ∈ goods) : decide (V.str (codeOf v) = V.str (codeOf u)) = decide (v = u) := by
  have z := all_dec goods_back
  rw [Bool.eq_iff_iff, decide_eq_true_iff, decide_eq_true_iff]
  constructor
  · intro e
    have e2 := V.str.inj e
    have h1 := z v hv
    have h2 := z u hu
    rw [e2, h2] at h1
    exact (Option.some.inj h1).symm
  · intro e
    rw [e]
end K0

set_option Elab.async false
set_option linter.all false
set_option maxRecDepth 100000
set_option maxHeartbeats 4000000
/-! the law -/
namespace K0
open PySem PySem.Spec PyProof.Rows L2
abbrev sLaw : Stmt := topS 24
abbrev nLaw : List Str := ["_law_script", "_law_box", "_law_values", "_law_value_here", "_law_code_here", "_law_small", "_law_wrong", "_law_text", "_law_things", "_law_rows", "_law_k", "_law_other", "_law_told"]
theorem scLaw : FnScope nLaw ["_law_script"] (defScope sLaw) := ⟨rfl, rfl, rfl, by decide +kernel, rfl, by decide +kernel, by decide +kernel⟩
def spLaw (K : PySem.W.Frag) (Ps : List Addr) : Sp := fun vs H Q _ => ∃ (l : Addr) (ns : List Int), vs = [.ref l] ∧ SqL K H l (ns.map V.int) ∧ ns.length ≤ sizeLine ∧ Tabs Ps H ∧ ∀ H', Q (.bl true) H'
theorem Tabs.keep {Ps : List Addr} {H H' : Hp} {b d : Addr} (h : Tabs Ps H) (hb : Box H b d) (k : KeepB b H H') : Tabs Ps H' := fun P hP => by
  obtain ⟨ps, e, r⟩ := h P hP
  obtain ⟨ds, n, h1, _⟩ := hb
  exact ⟨ps, k P _ (fun z => by rw [z, h1] at e; cases e) e, r⟩
theorem Box.ext {Ps : List Addr} {H H' : Hp} {b d : Addr} (h : Box H b d) (x : Ext Ps H H') : Box H' b d := by
  obtain ⟨ds, n, h1, h2, h3⟩ := h
  exact ⟨ds, n, x.keep _ _ h1 (fun _ z => nomatch z), x.keep _ _ h2 (fun _ z => nomatch z), h3⟩
theorem Box.off {H : Hp} {b d D : Addr} {o : HO} (h : Box H b d) (h1 : D ≠ b) (h2 : D ≠ d) : Box (upd H D o) b d := by
  obtain ⟨ds, n, e1, e2, e3⟩ := h
  exact ⟨ds, n, by rw [upd_ne (Ne.symm h1)]; exact e1, by rw [upd_ne (Ne.symm h2)]; exact e2, e3⟩
theorem Box.ne2 {H : Hp} {a b d : Addr} (h : Box H b d) (n : H a = none) : a ≠ d := by
  obtain ⟨ds, k, _, h2, _⟩ := h
  exact fun e => by
    rw [e, h2] at n
    cases n
theorem Box.lists {K : PySem.W.Frag} {H : Hp} {b d : Addr} (h : Box H b d) : ∀ xs ds, H b = some (.lst xs) → ds.all isStrD = true → ¬ DpAll K H xs ds := fun xs ds e ha hd => by
  obtain ⟨_, _, h1, _⟩ := h
  rw [h1] at e
  cases e
  cases hd with
  | cons q1 q2 =>
    rw [List.all_cons, Bool.and_eq_true] at ha
    cases q1 with
    | lst _ _ => exact absurd (show false = true from ha.1) Bool.false_ne_true
    | tup _ _ => exact absurd (show false = true from ha.1) Bool.false_ne_true
theorem dpAll_snoc {K : PySem.W.Frag} {H : Hp} {x : V} {d : PyData} (h : Dp K H x d) : ∀ {ds : List PyData} {xs : List V}, DpAll K H xs ds → DpAll K H (xs ++ [x]) (ds ++ [d])
  | [], _, h1 => by cases h1; exact .cons h .nil
  | e :: ds, _, h1 => by
    cases h1 with
    | cons q1 q2 => exact .cons q1 (dpAll_snoc h q2)
theorem dpAll_app {K : PySem.W.Frag} {H : Hp} {es : List PyData} {ys : List V} (h : DpAll K H ys es) : ∀ {ds : List PyData} {xs : List V}, DpAll K H xs ds → DpAll K H (xs ++ ys) (ds ++ es)
  | [], _, h1 => by cases h1; exact h
  | e :: ds, _, h1 => by
    cases h1 with
    | cons q1 q2 => exact .cons q1 (dpAll_app h q2)


section
variable {K : PySem.W.Frag} {Ps : List Addr}
theorem asg_lst {t : TA} {ds : List PyData} {i : Nat} {tl : TS} {D : Ends} {σ : L2.St} {H : Hp} (h : DA K Ps t ds) (z : decide (ds.length ≤ 1000) = true) (hT : Tabs Ps H)
    (q : ∀ H' a xs, Ext Ps H H' → (∀ c o, H c = some o → NoTab o → a ≠ c) → H' a = some (.lst xs) → DpAll K H' xs ds → tl D (σ.set i (some (.ref a))) H') : tSeq (tAsg (tLst t) (gName i)) tl D σ H :=
  h σ H _ hT fun H1 xs x1 hxs => ⟨DA.len hxs z, fun a na => q _ _ _ (x1.trans (Ext.new x1.tab na)) (fun c o e n z => by rw [← z] at e; rw [x1.keep _ _ e n] at na; cases na) upd_same ((Ext.new x1.tab na).dpAll _ _ hxs)⟩
theorem asg_cat {t : TA} {ds0 ds : List PyData} {i j : Nat} {tl : TS} {D : Ends} {σ : L2.St} {H : Hp} {l : Addr} {xs : List V} (hσ : σ[j]? = some (some (.ref l))) (hl : H l = some (.lst xs)) (hx : DpAll K H xs ds0) (h : DA K Ps t ds) (z : decide (ds0.length + ds.length ≤ 1000) = true) (hT : Tabs Ps H)
    (q : ∀ H' a zs, Ext Ps H H' → (∀ c o, H c = some o → NoTab o → a ≠ c) → H' a = some (.lst zs) → DpAll K H' zs (ds0 ++ ds) → tl D (σ.set i (some (.ref a))) H') : tSeq (tAsg (tOp rCat (tVar j) (tLst t)) (gName i)) tl D σ H := by
  have z2 := of_decide_eq_true z
  have hz : 1000 ≤ sizeLine := by decide
  refine ⟨_, hσ, DL h (by rw [decide_eq_true_iff]; omega) σ H _ hT fun H1 b ys x1 hb hy => ?_⟩
  have hx1 := x1.dpAll _ _ hx
  have e1 := (dpAll_get hx1).1
  have e2 := (dpAll_get hy).1
  refine ⟨l, b, xs, ys, rfl, rfl, x1.keep _ _ hl (fun _ z => nomatch z), hb, by omega, fun p np => ?_⟩
  have x2 := Ext.new (o := .lst (xs ++ ys)) x1.tab np
  exact q _ _ _ (x1.trans x2) (fun c o e n z => by rw [← z] at e; rw [x1.keep _ _ e n] at np; cases np) upd_same (dpAll_app (x2.dpAll _ _ hy) (x2.dpAll _ _ hx1))
end
abbrev lawCx (P : Program) (w : World) (K : PySem.W.Frag) (mg : Str → Option Value) (base : Heap) (A : Around) (outer : List Env) (s : Shared) (H : Hp) (f : Addr) (cdv : Value) : Cx := (cxOf CX0 P w K mg base nLaw "law" (defScope sLaw) f cdv A outer s H E0).nox
abbrev lawS (i : Nat) : Stmt := (defBody sLaw).getD i (.Pass ⟨0, 0, 0, 0⟩)
def forB : Stmt → List Stmt
  | .For _ _ b _ _ => b
  | _ => []
abbrev lawB (i : Nat) : Stmt := (forB (lawS 2)).getD i (.Pass ⟨0, 0, 0, 0⟩)
section
variable {P : Program} {w : World} {K : PySem.W.Frag} {mg : Str → Option Value} {base : Heap}
theorem ok_law {A : Around} {f fN PN fC fV fI fL fD fG fW fM : Addr} {fd fdN fdC fdV fdI fdL fdD fdG fdW fdM : FuncData} {Ps : List Addr} (F : Fun K "law" "law" sLaw f fd) (T : Tx K mg) (hr0 : Room 8 A) (hg : A.guards = some []) (hPN : PN ∈ Ps)
    (GN : FnOk P w K mg base CX0 2 fN fdN ["text"] (spName PN)) (mN : mg "is_name" = some (.ref fN)) (kN : PySem.W.keepIn K (.ref fN) = true) (bN : Binds K fdN ["text"] [])
    (GC : FnOk P w K mg base CX0 1 fC fdC ["value"] (spCode K)) (mC : mg "code_of" = some (.ref fC)) (kC : PySem.W.keepIn K (.ref fC) = true) (bC : Binds K fdC ["value"] [])
    (GV : FnOk P w K mg base CX0 5 fV fdV ["code"] (spVal K Ps)) (mV : mg "value_of" = some (.ref fV)) (kV : PySem.W.keepIn K (.ref fV) = true) (bV : Binds K fdV ["code"] [])
    (GI : FnOk P w K mg base CX0 7 fI fdI ["thing"] (spIsVal K Ps)) (mI : mg "is_value" = some (.ref fI)) (kI : PySem.W.keepIn K (.ref fI) = true) (bI : Binds K fdI ["thing"] [])
    (GL : ∀ (A : Around) (k : Nat), Room (k + 1) A → A.guards = some [] → FnAt P w K mg base A fL fdL ["_law_actual", "_law_due"] (spSame K)) (mL : mg "_law_same" = some (.ref fL)) (kL : PySem.W.keepIn K (.ref fL) = true) (bL : Binds K fdL ["_law_actual", "_law_due"] [])
    (GD : FnOk P w K mg base CX0 1 fD fdD ["_law_box", "_law_many"] spDraw) (mD : mg "_law_draw" = some (.ref fD)) (kD : PySem.W.keepIn K (.ref fD) = true) (bD : Binds K fdD ["_law_box", "_law_many"] [])
    (GG : FnOk P w K mg base CX0 2 fG fdG ["_law_script", "_law_first", "_law_last"] (spDigits K)) (mG : mg "_law_digits" = some (.ref fG)) (kG : PySem.W.keepIn K (.ref fG) = true) (bG : Binds K fdG ["_law_script", "_law_first", "_law_last"] [])
    (GW : FnOk P w K mg base CX0 2 fW fdW ["_law_box"] (spLawV K)) (mW : mg "_law_value" = some (.ref fW)) (kW : PySem.W.keepIn K (.ref fW) = true) (bW : Binds K fdW ["_law_box"] [])
    (GM : FnOk P w K mg base CX0 1 fM fdM ["_law_value_here"] (spLawC K Ps)) (mM : mg "_law_code" = some (.ref fM)) (kM : PySem.W.keepIn K (.ref fM) = true) (bM : Binds K fdM ["_law_value_here"] []) :
    FnAt P w K mg base A f fd ["_law_script"] (spLaw K Ps) := by
  refine K0.Fun.at F scLaw hr0 (fun vs H Q E h => ?_) (fun cdv outer s H vs Q hr h => ?_)
  · obtain ⟨l, ns, rfl, _⟩ := h
    rfl
  · obtain ⟨l, ns, rfl, hs, hz, hT, q⟩ := h
    have hr1 := hr.mono (show 1 ≤ 7 by decide)
    have hr2 := hr.mono (show 2 ≤ 7 by decide)
    have hr5 := hr.mono (show 5 ≤ 7 by decide)
    have hu := room_64 hr
    have s0 : PS (lawCx P w K mg base A outer s H f cdv) (lawS 0) _ := ps_set (i := 1) scLaw.nd rfl (.inr rfl) (pe_lst (pa_cons (pe_call GG hr2 (by rfl) mG kG bG .nil pass0 (pa_cons (pv 0) (pa_cons pe_int (pa_cons pe_int pa_nil)))) (pa_cons pe_int pa_nil)))
    have s1 : PS (lawCx P w K mg base A outer s H f cdv) (lawS 1) _ := ps_setLc (i := 2) (own := [("_law_k", 10)]) (g := gName 10) (tt := tYes) rfl scLaw.nd rfl rfl (sw_true rfl rfl rfl (by decide +kernel)) (pi_range1 (by rfl) T.range (pa_cons pe_int pa_nil)) (blkOk_by (own := [("_law_k", 10)]) (N := nLaw) (sc := defScope sLaw) (by decide +kernel))
        (fun _ _ _ _ _ => pg_name (i := 10) scLaw.nd rfl (Or.inl rfl)) (fun _ _ _ _ _ => pts_nil) (fun _ _ _ _ _ => pe_call GW hr2 (by rfl) mW kW bW .nil pass0 (pa_cons (pv 1) pa_nil))
    have b0 : PS (lawCx P w K mg base A outer s H f cdv) (lawB 0) _ := ps_set (i := 4) scLaw.nd rfl (.inr rfl) (pe_call GM hr1 (by rfl) mM kM bM .nil pass0 (pa_cons (pv 3) pa_nil))
    have b1 : PS (lawCx P w K mg base A outer s H f cdv) (lawB 1) _ := ps_if (PW.pt (pw_or (pt_cmpR op_ne (pe_call GC hr1 (by rfl) mC kC bC .nil pass0 (pa_cons (pv 3) pa_nil)) (pv 4) (nomark _))
            (pw_or1 (pt_not (pt_val (pe_callAt (GL _ 6 hr hg) (by rfl) mL kL bL (pa_cons (pe_call GV hr5 (by rfl) mV kV bV .nil pass0 (pa_cons (pv 4) pa_nil)) (pa_cons (pv 3) pa_nil)))))))) (pss_one (ps_ret pe_bl)) pss_nil
    have b2 : PS (lawCx P w K mg base A outer s H f cdv) (lawB 2) _ := ps_set (i := 5) scLaw.nd rfl (.inl rfl) (pe_or (pe_cmpR op_ne (pe_ix ix_tup (pv 3) pe_int (fun _ _ => rfl)) pe_str (nomark _)) (pe_one (pe_chain op_le op_le (pe_un un_neg pe_int) (pe_ix ix_tup (pv 3) pe_int (fun _ _ => rfl)) pe_int)))
    have b3 : PS (lawCx P w K mg base A outer s H f cdv) (lawB 3) _ := ps_if (pt_cmpR op_ne (pe_call GI hr (by rfl) mI kI bI .nil pass0 (pa_cons (pv 3) pa_nil)) (pv 5) (nomark _)) (pss_one (ps_ret pe_bl)) pss_nil
    have b4 : PS (lawCx P w K mg base A outer s H f cdv) (lawB 4) _ := ps_if (pt_cmpR op_gt (pe_callB call_len (by rfl) T.len PySem.boot_len (pa_cons
            (pe_lc (own := [("_law_other", 11)]) (g := gName 11) (by rfl) scLaw.nd (pi_list (pv 2)) (blkOk_by (own := [("_law_other", 11)]) (N := nLaw) (sc := defScope sLaw) (by decide +kernel)) (fun _ _ _ _ _ => pg_name (i := 11) scLaw.nd rfl (Or.inl rfl))
              (fun _ _ _ _ _ => pts_one (pt_cmpR op_ne (pe_cmpR op_eq (pe_call GM hr1 (by rfl) mM kM bM .nil pass0 (pa_cons (pv 11) pa_nil)) (pv 4) (nomark _)) (pe_cmpR (r := rEqD K) (op_eqD hu) (pv 11) (pv 3) (nomark _)) (nomark _)))
              (fun _ _ _ _ _ => pv 11)) pa_nil)) pe_int (nomark _)) (pss_one (ps_ret pe_bl)) pss_nil
    have s2 : PS (lawCx P w K mg base A outer s H f cdv) (lawS 2) _ := ps_for PassesOwn.never rfl (pi_list (pv 2)) (pg_name (i := 3) scLaw.nd rfl (.inr rfl)) (pss_cons b0 (pss_cons b1 (pss_cons b2 (pss_cons b3 (pss_one b4)))))
    have s3 : PS (lawCx P w K mg base A outer s H f cdv) (lawS 3) _ := ps_set (i := 6) scLaw.nd rfl (.inl rfl) (pe_lst (pa_cons pe_str (pa_cons pe_str (pa_cons pe_str (pa_cons pe_str (pa_cons pe_str (pa_cons pe_str (pa_cons pe_str (pa_cons pe_str (pa_cons pe_str (pa_cons pe_str (pa_cons pe_str (pa_cons pe_str (pa_cons pe_str (pa_cons pe_str (pa_cons pe_str (pa_cons pe_str (pa_cons pe_str (pa_cons pe_str (pa_cons pe_str (pa_cons pe_str (pa_cons pe_str (pa_cons pe_str pa_nil)))))))))))))))))))))))
    have s4 : PS (lawCx P w K mg base A outer s H f cdv) (lawS 4) _ := ps_set (i := 7) scLaw.nd rfl (.inl rfl) (pe_ix ix_list (pv 6) (pe_op op_mod (pe_callTy call_int1 (by rfl) T.int PyProof.Rows.boot_int (pa_cons (pe_call GD hr1 (by rfl) mD kD bD .nil pass0 (pa_cons (pv 1) (pa_cons pe_int pa_nil))) pa_nil)) (pe_callB call_len (by rfl) T.len PySem.boot_len (pa_cons (pv 6) pa_nil))) (fun _ _ => rfl))
    have s5 : PS (lawCx P w K mg base A outer s H f cdv) (lawS 5) _ := ps_if (PW.pt (pw_or (pt_cmpR op_notN (pe_call GV hr5 (by rfl) mV kV bV .nil pass0 (pa_cons (pv 7) pa_nil)) pe_non (nomark _)) (pw_or1 (pt_cmpR op_ne (pe_call GC hr1 (by rfl) mC kC bC .nil pass0 (pa_cons pe_non pa_nil)) pe_str (nomark _))))) (pss_one (ps_ret pe_bl)) pss_nil
    have s6 : PS (lawCx P w K mg base A outer s H f cdv) (lawS 6) _ := ps_set (i := 8) scLaw.nd rfl (.inl rfl) (pe_lst (pa_cons pe_non (pa_cons pe_bl (pa_cons pe_int (pa_cons pe_str (pa_cons (pe_tup pa_nil) (pa_cons (pe_tup (pa_cons pe_str pa_nil)) (pa_cons (pe_tup (pa_cons pe_str (pa_cons pe_int pa_nil))) (pa_cons (pe_tup (pa_cons pe_str (pa_cons pe_bl pa_nil))) (pa_cons (pe_tup (pa_cons pe_str (pa_cons pe_str pa_nil))) (pa_cons (pe_tup (pa_cons pe_str (pa_cons (pe_tup (pa_cons pe_str (pa_cons pe_str pa_nil))) pa_nil))) pa_nil)))))))))))
    have s7 : PS (lawCx P w K mg base A outer s H f cdv) (lawS 7) _ := ps_set (i := 8) scLaw.nd rfl (.inl rfl) (pe_op op_cat (pv 8) (pe_lst (pa_cons (pe_tup (pa_cons pe_str (pa_cons (pe_lst (pa_cons pe_str pa_nil)) pa_nil))) (pa_cons (pe_tup (pa_cons pe_str (pa_cons pe_int pa_nil))) (pa_cons (pe_tup (pa_cons pe_str (pa_cons pe_str pa_nil))) (pa_cons (pe_tup (pa_cons pe_str (pa_cons pe_int pa_nil))) (pa_cons (pe_tup (pa_cons pe_str (pa_cons (pe_un un_neg pe_int) pa_nil))) (pa_cons (pe_tup (pa_cons pe_str (pa_cons (pe_tup (pa_cons pe_int pa_nil)) pa_nil))) (pa_cons (pe_tup (pa_cons pe_str (pa_cons (pe_tup (pa_cons pe_str (pa_cons pe_non pa_nil))) pa_nil))) pa_nil)))))))))
    have s8 : PS (lawCx P w K mg base A outer s H f cdv) (lawS 8) _ := ps_if (pt_cmpR op_isnot_bl (pe_call GI hr (by rfl) mI kI bI .nil pass0 (pa_cons (pe_ix ix_list (pv 8) (pe_call GD hr1 (by rfl) mD kD bD .nil pass0 (pa_cons (pv 1) (pa_cons pe_int pa_nil))) (fun _ _ => rfl)) pa_nil)) pe_bl (nomark _)) (pss_one (ps_ret pe_bl)) pss_nil
    have s9 : PS (lawCx P w K mg base A outer s H f cdv) (lawS 9) _ := ps_set (i := 9) scLaw.nd rfl (.inl rfl) (pe_lst (pa_cons (pe_tup (pa_cons pe_str (pa_cons pe_bl pa_nil))) (pa_cons (pe_tup (pa_cons pe_str (pa_cons pe_bl pa_nil))) (pa_cons (pe_tup (pa_cons pe_str (pa_cons pe_bl pa_nil))) (pa_cons (pe_tup (pa_cons pe_str (pa_cons pe_bl pa_nil))) (pa_cons (pe_tup (pa_cons pe_str (pa_cons pe_bl pa_nil))) (pa_cons (pe_tup (pa_cons pe_str (pa_cons pe_bl pa_nil))) (pa_cons (pe_tup (pa_cons pe_str (pa_cons pe_bl pa_nil))) (pa_cons (pe_tup (pa_cons pe_str (pa_cons pe_bl pa_nil))) (pa_cons (pe_tup (pa_cons pe_str (pa_cons pe_bl pa_nil))) pa_nil))))))))))
    have s10 : PS (lawCx P w K mg base A outer s H f cdv) (lawS 10) _ := ps_set (i := 9) scLaw.nd rfl (.inl rfl) (pe_op op_cat (pv 9) (pe_lst (pa_cons (pe_tup (pa_cons pe_str (pa_cons pe_bl pa_nil))) (pa_cons (pe_tup (pa_cons pe_str (pa_cons pe_bl pa_nil))) (pa_cons (pe_tup (pa_cons pe_str (pa_cons pe_bl pa_nil))) (pa_cons (pe_tup (pa_cons pe_str (pa_cons pe_bl pa_nil))) (pa_cons (pe_tup (pa_cons pe_str (pa_cons pe_bl pa_nil))) (pa_cons (pe_tup (pa_cons pe_str (pa_cons pe_bl pa_nil))) (pa_cons (pe_tup (pa_cons pe_str (pa_cons pe_bl pa_nil))) (pa_cons (pe_tup (pa_cons pe_str (pa_cons pe_bl pa_nil))) pa_nil))))))))))
    have s11 : PS (lawCx P w K mg base A outer s H f cdv) (lawS 11) _ := ps_ret (pe_cmpR op_eq (pe_callB call_len (by rfl) T.len PySem.boot_len (pa_cons
        (pe_lc (own := [("_law_text", 7), ("_law_told", 12)]) (g := gTup K 2 (gCons (gName 7) (gCons (gName 12) gNil))) (by rfl) scLaw.nd (pi_list (pv 9)) (blkOk_by (own := [("_law_text", 7), ("_law_told", 12)]) (N := nLaw) (sc := defScope sLaw) (by decide +kernel))
          (fun _ _ _ _ _ => pg_tup (by rfl) (pgs_cons (pg_name (i := 7) scLaw.nd rfl (.inl (by rfl)) (.inr (by rfl))) (pgs_cons (pg_name (i := 12) scLaw.nd rfl (.inl (by rfl)) (.inr (by rfl))) pgs_nil)))
          (fun _ _ _ _ _ => pts_one (pt_cmpR op_ne (pe_call GN hr2 (by rfl) mN kN bN .nil pass0 (pa_cons (pv 7) pa_nil)) (pv 12) (nomark _)))
          (fun _ _ _ _ _ => pv 7)) pa_nil)) pe_int (nomark _))
    refine ⟨_, pss_cons s0 (pss_cons s1 (pss_cons s2 (pss_cons s3 (pss_cons s4 (pss_cons s5 (pss_cons s6 (pss_cons s7 (pss_cons s8 (pss_cons s9 (pss_cons s10 (pss_one s11))))))))))), ?_⟩
    have n2 : 2 ≤ sizeLine := by decide
    -- the box
    refine ⟨_, rfl, l, ns, rfl, hs, hz, fun a ds na hl => ⟨n2, fun b nb => ?_⟩⟩
    dsimp only [gName]
    have x1 := Ext.new (o := .lst (ds.map V.int)) hT na
    have x2 := x1.trans (Ext.new (o := .lst [.ref a, .int 0]) x1.tab nb)
    have hb2 : Box (upd (upd H a (.lst (ds.map V.int))) b (.lst [.ref a, .int 0])) b a := ⟨ds, 0, upd_same, by rw [upd_ne (ne_of_none upd_same nb)]; exact upd_same, hl⟩
    generalize upd (upd H a (.lst (ds.map V.int))) b (.lst [.ref a, .int 0]) = H2 at x2 hb2
    -- the values
    refine ⟨8, rfl, by decide, by decide, fun D nD => ?_⟩
    have hDb := hb2.ne nD
    have hDa := hb2.ne2 nD
    refine lc_range (lo := 0) (n := 8) (fun i H' => Box H' b a ∧ Tabs Ps H' ∧ ∃ xs vs, H' D = some (.lst xs) ∧ DpAll K H' xs (vs.map dat) ∧ (∀ v ∈ vs, v ∈ goods) ∧ xs.length = i)
      ⟨hb2.new nD, (Ext.new x2.tab nD).tab, [], [], upd_same, .nil, fun v hv => absurd hv List.not_mem_nil, rfl⟩ (fun i H' hi hp => ?_) fun H3 hp => ?_
    · obtain ⟨hb', hT', xs, vs, hD', hxs, hvs, hlen⟩ := hp
      refine ⟨rfl, _, rfl, b, a, rfl, hb', fun v x H4 hv hx hb4 k4 => ?_⟩
      have hD4 := k4 D _ hDb hD'
      have hz8 : 1000 ≤ sizeLine := by decide
      have hxs4 : DpAll K H4 xs (vs.map dat) := dp_keeps (L := false) (c := b) (by obtain ⟨es, n, e, _⟩ := hb'; exact ⟨_, e⟩) (fun z => nomatch z) k4 _ _ (nbx_dats vs) hxs
      have kD : KeepB D H4 (upd H4 D (.lst (xs ++ [x]))) := fun c o nc e => by rw [upd_ne nc]; exact e
      refine ⟨xs, hD4, by omega, hb4.off hDb hDa, Ext.write (hT'.keep hb' k4) hD4 (fun _ z => nomatch z), xs ++ [x], vs ++ [v], upd_same, ?_, fun u hu => ?_, by rw [List.length_append, hlen] <;> rfl⟩
      · rw [List.map_append]
        exact dpAll_snoc (dp_keep (L := false) ⟨_, hD4⟩ (fun z => nomatch z) kD _ _ (nbx_dat v) hx) (dp_keeps (L := false) ⟨_, hD4⟩ (fun z => nomatch z) kD _ _ (nbx_dats vs) hxs4)
      · rcases List.mem_append.mp hu with z | z
        · exact hvs u z
        · rw [List.mem_singleton.mp z]
          exact hv
    obtain ⟨hb3, hT3, xs, vs, hD3, hxs, hvs, hlen⟩ := hp
    dsimp only [gName]
    have hgood := List.all_eq_true.mp goods_ok
    have hback := all_dec goods_back
    -- each value
    refine ⟨_, rfl, D, rfl, ⟨_, .inl (.inl hD3)⟩, for_list (xs := xs) (fun i σ' H' => Ext Ps H3 H' ∧ ∃ x3 x4 x5, σ' = [some (.ref l), some (.ref b), some (.ref D), x3, x4, x5, none, none, none, none, none, none, none])
      ⟨Ext.refl hT3, _, _, _, rfl⟩ (fun i σ' H' _ hp => hp.1.seqL (.inl (.inl hD3))) (fun i x σ' H' hx hp => ?_) fun σ' H' hp => ?_⟩
    · obtain ⟨x4, o3, o4, o5, rfl⟩ := hp
      dsimp only [gName]
      obtain ⟨d, hd, hdx⟩ := (dpAll_get hxs).2 i x hx
      rw [List.getElem?_map] at hd
      obtain ⟨v, hv, rfl⟩ := Option.map_eq_some_iff.mp hd
      have hvg := hvs v (List.mem_of_getElem? hv)
      have hok := hgood v hvg
      unfold goodOk at hok
      simp only [Bool.and_eq_true, beq_iff_eq] at hok
      obtain ⟨⟨⟨⟨⟨hsm, hval⟩, hsh⟩, hth⟩, hshp⟩, hlaw⟩ := hok
      have hdx4 := x4.dp _ _ hdx
      obtain ⟨ax, ux, rfl, htx, hix⟩ := dat_inv hdx4
      refine ⟨_, rfl, .ref ax, v, rfl, hdx4, hsm, x4.tab, fun H5 x5 => ?_⟩
      dsimp only [gName]
      have hdx5 := x5.dp _ _ hdx4
      refine ⟨_, rfl, .ref ax, rfl, .inr ⟨v, hdx5, hsm, _, rfl, rfl, _, rfl, ifF (by rw [decide_eq_true rfl] <;> rfl) ?_⟩⟩
      refine ⟨_, rfl, codeOf v, rfl, hval, x5.tab, fun H6 u x6 hu => ?_⟩
      rw [hback v hvg] at hu
      have hdx6 := x6.dp _ _ hdx5
      refine ⟨_, rfl, u, .ref ax, v, rfl, hu, hdx6, hsh, _, rfl, ifF rfl ?_⟩
      have ht6 := x6.seqT (x5.seqT htx)
      have hi6 : InnerAt K H6 v ux := (hix.ext x5).ext x6
      have x36 := x4.trans (x5.trans x6)
      dsimp only [tNext]
      refine (fun (h1 : ∀ (tl : TS) (D' : Ends), tl D' [some (.ref l), some (.ref b), some (.ref D), some (.ref ax), some (.str (codeOf v)), some (.bl (lawSmall v)), none, none, none, none, none, none, none] H6 → tSeq (tAsg _ (gName 5)) tl D' _ H6) => h1 _ _ ?_) ?_
      · refine ⟨_, rfl, .ref ax, dat v, rfl, hdx6, hth, x6.tab, fun H7 x7 => ⟨_, rfl, rfl, _, rfl, ifF (by rw [hlaw, decide_eq_true rfl] <;> rfl) ?_⟩⟩
        have x37 := x36.trans x7
        have hdx7 := x7.dp _ _ hdx6
        refine ⟨_, rfl, D, rfl, ⟨_, x37.seqL (.inl (.inl hD3))⟩, fun L nL => ?_⟩
        have xL := Ext.new (o := .lst []) x7.tab nL
        refine lc_list (K := K) (a := D) (xs := xs) (fun i H' => Ext Ps (upd H7 L (.lst [])) H') (Ext.refl xL.tab) (fun i H' _ hp => (x37.trans (xL.trans hp)).seqL (.inl (.inl hD3))) (fun i o H8 ho x8 => ?_) fun H8 x8 => ?_
        · obtain ⟨d', hd', hdo⟩ := (dpAll_get hxs).2 i o ho
          rw [List.getElem?_map] at hd'
          obtain ⟨v', hv', rfl⟩ := Option.map_eq_some_iff.mp hd'
          have hvg' := hvs v' (List.mem_of_getElem? hv')
          have hok' := hgood v' hvg'
          unfold goodOk at hok'
          simp only [Bool.and_eq_true, beq_iff_eq] at hok'
          obtain ⟨⟨⟨⟨⟨hsm', _⟩, _⟩, _⟩, hshp'⟩, _⟩ := hok'
          have x38 := x37.trans (xL.trans x8)
          refine ⟨rfl, _, rfl, o, v', rfl, x38.dp _ _ hdo, hsm', x8.tab, fun H9 x9 => ⟨_, rfl, rfl, _, rfl, _, rfl, dat v', dat v, (x38.trans x9).dp _ _ hdo, (xL.trans (x8.trans x9)).dp _ _ hdx7, hshp', hshp, rfl, _, rfl, ifF ?_ (x8.trans x9)⟩⟩
          rw [code_inj hvg' hvg, eqv_dat, decide_eq_true rfl] <;> rfl
        · have hL8 : H8 L = some (.lst []) := x8.keep _ _ upd_same (fun _ z => nomatch z)
          exact ⟨_, _, rfl, .inl ⟨[], .inl (.inl hL8), rfl⟩, _, _, rfl, rfl, _, rfl, ifF (by decide) ⟨x37.trans (xL.trans x8), _, _, _, rfl⟩⟩
      · intro tl D' hh
        cases v with
        | number n =>
          cases hi6
          refine ⟨_, rfl, ax, _, 0, _, rfl, rfl, ht6, rfl, rfl, _, rfl, ifF (by rw [decide_eq_true] <;> rfl) ?_⟩
          refine ⟨9999, rfl, _, rfl, ax, _, 1, _, rfl, rfl, ht6, rfl, _, _, rfl, rfl, _, rfl, ?_⟩
          have e : lawSmall (.number n) = (decide (-9999 ≤ n) && decide (n ≤ 9999)) := rfl
          rw [e] at hh
          by_cases a1 : (-9999 : Int) ≤ n
          · refine ifT (decide_eq_true a1) ⟨_, _, rfl, rfl, ?_⟩
            rw [decide_eq_true a1] at hh
            exact hh
          · refine ifF (decide_eq_false a1) ?_
            rw [decide_eq_false a1] at hh
            exact hh
        | truth t => exact ⟨_, rfl, ax, _, 0, _, rfl, rfl, ht6, rfl, rfl, _, rfl, ifT (congrArg Bool.not (str_ne (Ne.symm k_nt))) hh⟩
        | option t => exact ⟨_, rfl, ax, _, 0, _, rfl, rfl, ht6, rfl, rfl, _, rfl, ifT (congrArg Bool.not (str_ne k_on)) hh⟩
        | options t => exact ⟨_, rfl, ax, _, 0, _, rfl, rfl, ht6, rfl, rfl, _, rfl, ifT (congrArg Bool.not (str_ne k_pn)) hh⟩
        | text t => exact ⟨_, rfl, ax, _, 0, _, rfl, rfl, ht6, rfl, rfl, _, rfl, ifT (congrArg Bool.not (str_ne k_xn)) hh⟩
    obtain ⟨x4, o3, o4, o5, rfl⟩ := hp
    have hb4 := hb3.ext x4
    have hbL : ∀ {H : Hp}, Box H b a → ∃ xs, H b = some (.lst xs) := fun h => by
      obtain ⟨es, n, e, _⟩ := h
      exact ⟨_, e⟩
    -- the wrong texts
    try dsimp only [tNext]
    refine asg_lst (K := K) (ds := wrongs.map PyData.str) ?_ (by decide +kernel) x4.tab fun H5 aw ws x5 hne5 hw5 hws5 => ?_
    · repeat first | exact DA.nil | refine DA.cons ?_ ?_ | exact DE.str
    dsimp only [List.set]
    rw [dpAll_strs hws5] at hw5
    have hb5 := hb4.ext x5
    have hwb : aw ≠ b := by
      obtain ⟨ys, e⟩ := hbL hb4
      exact hne5 b _ e (fun _ z => nomatch z)
    refine ⟨_, rfl, _, rfl, b, a, 90, rfl, by decide, hb5, fun r H6 hr6 hb6 k6 => .inl ⟨_, rfl, ?_⟩⟩
    have hw6 := k6 aw _ hwb hw5
    have hT6 := Tabs.keep x5.tab hb5 k6
    have hwl : (wrongs.map V.str).length = wrongs.length := List.length_map _
    have h22 : wrongs.length = 22 := by decide +kernel
    have hrm : r % wrongs.length < wrongs.length := Nat.mod_lt _ (by omega)
    have hwat : atI (wrongs.map V.str) ((r : Nat) % ((wrongs.map V.str).length : Nat)) = some (V.str wrongs[r % wrongs.length]) := by
      have z := map_get (f := V.str) hrm
      rw [Int.natCast_emod] at z
      rw [hwl]
      exact z
    refine ⟨_, rfl, _, _, rfl, .inl ⟨_, .inl (.inl hw6), rfl⟩, _, _, rfl, rfl, show (0 : Int) < (((wrongs.map V.str).length : Nat) : Int) by omega, aw, _, _, _, rfl, rfl, .inl (.inl hw6), hwat, ?_⟩
    dsimp only [gName, List.set]
    have hwm : wrongs[r % wrongs.length] ∈ wrongs := List.getElem_mem hrm
    generalize wrongs[r % wrongs.length] = tx at hwm
    have htv := List.all_eq_true.mp wrongs_ok tx hwm
    have htn := all_dec wrongs_none tx hwm
    refine ⟨_, rfl, tx, rfl, htv, hT6, fun H7 u x7 hu => ?_⟩
    rw [htn] at hu
    obtain rfl : u = .non := hu
    refine ⟨rfl, _, rfl, ifF rfl ⟨.non, rfl, .inl ⟨rfl, rfl, _, rfl, ifF rfl ?_⟩⟩⟩
    have hb7 := hb6.ext x7
    -- the things
    try dsimp only [tNext]
    refine asg_lst (K := K) (ds := bads1) ?_ (by decide +kernel) x7.tab fun H8 at8 ts8 x8 _ h8 hts8 => ?_
    · repeat first | exact DA.nil | refine DA.cons ?_ ?_ | exact DE.non | exact DE.bl | exact DE.int | exact DE.str | refine DE.tup ?_ rfl | refine DE.lst ?_ rfl | exact DE.neg
    dsimp only [List.set]
    try dsimp only [tNext]
    refine asg_cat (K := K) (ds0 := bads1) (ds := bads2) rfl h8 hts8 ?_ (by decide +kernel) x8.tab fun H9 at9 ts9 x9 hne9 h9 hts9 => ?_
    · repeat first | exact DA.nil | refine DA.cons ?_ ?_ | exact DE.non | exact DE.bl | exact DE.int | exact DE.str | refine DE.tup ?_ rfl | refine DE.lst ?_ rfl | exact DE.neg
    dsimp only [List.set]
    have hb8 := hb7.ext x8
    have hb9 := hb8.ext x9
    have htb : at9 ≠ b := by
      obtain ⟨ys, e⟩ := hbL hb8
      exact hne9 b _ e (fun _ z => nomatch z)
    refine ⟨_, rfl, _, rfl, b, a, 17, rfl, by decide, hb9, fun r9 H10 hr9 hb10 k10 => ?_⟩
    have h10 := k10 at9 _ htb h9
    have hT10 := Tabs.keep x9.tab hb9 k10
    have hl9 := (dpAll_get hts9).1
    have h17 : (bads1 ++ bads2).length = 17 := by decide +kernel
    have hr9' : r9 < ts9.length := by omega
    obtain ⟨d9, hd9, hdp9⟩ := (dpAll_get hts9).2 r9 ts9[r9] (List.getElem?_eq_getElem hr9')
    have hbad := List.all_eq_true.mp bads_ok d9 (List.mem_of_getElem? hd9)
    simp only [Bool.and_eq_true, Bool.not_eq_true'] at hbad
    obtain ⟨⟨hth9, hnv9⟩, hnb9⟩ := hbad
    have hdp10 := dp_keep (L := true) (hbL hb9) (fun _ => hb9.lists) k10 _ _ hnb9 hdp9
    refine ⟨at9, ts9, (r9 : Nat), ts9[r9], rfl, rfl, .inl (.inl h10), pick hr9', ts9[r9], d9, rfl, hdp10, hth9, hT10, fun H11 x11 => ⟨_, _, rfl, rfl, _, rfl, ifF (by rw [hnv9] <;> rfl) ?_⟩⟩
    -- the rows
    try dsimp only [tNext]
    refine asg_lst (K := K) (ds := rows1.map rowD) ?_ (by decide +kernel) x11.tab fun H12 at12 ts12 x12 _ h12 hts12 => ?_
    · repeat first | exact DA.nil | refine DA.cons ?_ ?_ | exact DE.bl | exact DE.str | refine DE.tup ?_ rfl
    dsimp only [List.set]
    try dsimp only [tNext]
    refine asg_cat (K := K) (ds0 := rows1.map rowD) (ds := rows2.map rowD) rfl h12 hts12 ?_ (by decide +kernel) x12.tab fun H13 at13 ts13 x13 _ h13 hts13 => ?_
    · repeat first | exact DA.nil | refine DA.cons ?_ ?_ | exact DE.bl | exact DE.str | refine DE.tup ?_ rfl
    dsimp only [List.set]
    rw [← List.map_append] at hts13
    refine ⟨_, rfl, at13, rfl, ⟨_, .inl (.inl h13)⟩, fun L nL => ?_⟩
    have xL := Ext.new (o := .lst []) x13.tab nL
    refine lc_list (K := K) (a := at13) (xs := ts13) (fun i H' => Ext Ps (upd H13 L (.lst [])) H') (Ext.refl xL.tab) (fun i H' _ hp => (xL.trans hp).seqL (.inl (.inl h13))) (fun i o H14 ho x14 => ?_) fun H14 x14 => ?_
    · obtain ⟨d', hd', hdo⟩ := (dpAll_get hts13).2 i o ho
      rw [List.getElem?_map] at hd'
      obtain ⟨p, hp, rfl⟩ := Option.map_eq_some_iff.mp hd'
      have hrow := List.all_eq_true.mp rows_ok p (List.mem_of_getElem? hp)
      simp only [Bool.and_eq_true, beq_iff_eq, decide_eq_true_eq] at hrow
      obtain ⟨hr1', hr2'⟩ := hrow
      have hdo14 := (xL.trans x14).dp _ _ hdo
      cases hdo14 with
      | tup hs14 ha14 =>
        cases ha14 with
        | cons q1 q2 =>
          cases q2 with
          | cons q3 q4 =>
            cases q4
            cases q1
            cases q3
            refine ⟨_, _, rfl, hs14, rfl, _, _, rfl, _, _, rfl, rfl, rfl, _, rfl, p.1, rfl, hr2', x14.tab PN hPN, fun H15 h15 => ⟨_, rfl, rfl, _, rfl, ifF (by rw [hr1', decide_eq_true rfl] <;> rfl) ?_⟩⟩
            exact x14.trans (Ext.tabbed x14.tab (x14.tab PN hPN) h15)
    · have hL14 : H14 L = some (.lst []) := x14.keep _ _ upd_same (fun _ z => nomatch z)
      exact ⟨_, _, rfl, .inl ⟨[], .inl (.inl hL14), rfl⟩, rfl, q H14⟩
end
end K0

set_option Elab.async false
set_option linter.all false
set_option maxRecDepth 100000
set_option maxHeartbeats 4000000
/-! what the top leaves -/
namespace K0
open PySem PySem.Spec PyProof.Rows L2
def txtsOf : List Value → Option (List Str)
  | [] => some []
  | .str x _ :: r => (txtsOf r).map (x :: ·)
  | _ => none
theorem txts_vals : ∀ {us : List Value} {xs : List Str}, txtsOf us = some xs → Vals (xs.map V.str) us
  | [], xs, h => by cases Option.some.inj h; exact .nil
  | .str x t :: r, xs, h => by
    obtain ⟨ys, e, rfl⟩ := Option.map_eq_some_iff.mp h
    exact .cons ⟨t, rfl⟩ (txts_vals e)
  | .none :: _, _, h => by cases h
  | .bool _ :: _, _, h => by cases h
  | .int _ _ :: _, _, h => by cases h
  | .bytes _ _ :: _, _, h => by cases h
  | .float _ _ :: _, _, h => by cases h
  | .ref _ :: _, _, h => by cases h
  | .type _ :: _, _, h => by cases h
  | .builtin _ :: _, _, h => by cases h
theorem tab_of {q : Program} {mg : Str → Option Value} {h : Heap} {K : PySem.W.Frag} {x : Str} {f c P : Addr} {oc oc2 : Value} {od od2 : Option Addr} {fd : FuncData} {us : Array Value} {sl sl2 : Array (Option Value)} (X : K.In h) (TT : TabsOf q mg h)
    (r : ((recsOf q).any fun d => d.name == x) = true) (m : mg x = some (.ref f)) (l : K.lookup f = some ⟨oc, od, .func fd, sl⟩) (hc : fd.code = .ref c) (lc : K.lookup c = some ⟨oc2, od2, .fields us, sl2⟩) (p : us[11]? = some (.ref P)) :
    h.IsCode c P #[] ∧ h.TableAt c P #[] := by
  obtain ⟨d, hd, e⟩ := List.any_eq_true.mp r
  obtain ⟨a, o, fd', c', P', h1, h2, h3, h4, h5, h6⟩ := TT d hd
  rw [beq_iff_eq.mp e, m] at h1
  cases h1
  have e1 := X _ _ l
  rw [h2] at e1
  cases e1
  cases h3
  rw [hc] at h4
  cases h4
  have e2 := X _ _ lc
  obtain ⟨o2, vs, g1, g2, g3, g4⟩ := h6.1
  rw [e2] at g1
  cases g1
  cases g3
  rw [p] at g4
  cases g4
  exact ⟨h5, h6⟩

theorem all_mk {l : PySem.W.OpenLaw} {n : Nat} {w : World} {K : PySem.W.Frag} {h : Heap} {mg : Str → Option Value} {q : Program} {fa f1 f2 f3 f4 f5 f6 f7 f8 f9 f10 f11 f12 f13 f14 f15 f16 c1 P1 c3 P3 c4 P4 c7 P7 fW : Addr}
    {od1 an1 od2 an2 od3 an3 od4 an4 od5 an5 od6 an6 od7 an7 od8 an8 od9 an9 od10 an10 od11 an11 od12 an12 od13 an13 od14 an14 od15 an15 od16 an16 odc1 odc3 odc4 odc7 odW : Option Addr} {sl1 sl2 sl3 sl4 sl5 sl6 sl7 sl8 sl9 sl10 sl11 sl12 sl13 sl14 sl15 sl16 slc1 slc3 slc4 slc7 slW : Array (Option Value)}
    {oc1 kV1 dc1 pm1 ct1 oc2 kV2 dc2 pm2 ct2 cd2 oc3 kV3 dc3 pm3 ct3 oc4 kV4 dc4 pm4 ct4 oc5 kV5 dc5 pm5 ct5 cd5 oc6 kV6 dc6 pm6 ct6 cd6 oc7 kV7 dc7 pm7 ct7 oc8 kV8 dc8 pm8 ct8 cd8 oc9 kV9 dc9 pm9 ct9 cd9 oc10 kV10 dc10 pm10 ct10 cd10 oc11 kV11 dc11 pm11 ct11 cd11 oc12 kV12 dc12 pm12 ct12 cd12 oc13 kV13 dc13 pm13 ct13 cd13 oc14 kV14 dc14 pm14 ct14 cd14 oc15 kV15 dc15 pm15 ct15 cd15 oc16 kV16 dc16 pm16 ct16 cd16 occ1 occ3 occ4 occ7 : Value}
    {us1 us3 us4 us7 itW : Array Value} {zL zD : Str} {tL tD tN tU : Tok} {nW : Nat}
    (hn : n ≤ sizeLine) (X : K.In h) (G : h.Ns mainGlobals mg) (TT : TabsOf q mg h) (hfa : mg "law" = some (.ref fa))
    (a1 : PySem.W.nsIn K mainGlobals "is_name" = some (some (.ref f1)))
    (l1 : K.lookup f1 = some ⟨oc1, od1, .func (PySem.W.fnOf "is_name" "is_name" (defArgs sName) (defBody sName) (defScope sName) .none kV1 dc1 pm1 an1 (.ref c1) ct1), sl1⟩)
    (c1_ : PySem.W.codeIn K (.ref c1) "is_name" = true)
    (k1 : PySem.W.keepIn K (.ref f1) = true)
    (r1 : ((recsOf q).any fun d => d.name == ("is_name" : Str)) = true)
    (lc1 : K.lookup c1 = some ⟨occ1, odc1, .fields us1, slc1⟩)
    (p1 : us1[11]? = some (.ref P1))
    (n1 : K.lookup P1 = none)
    (a2 : PySem.W.nsIn K mainGlobals "code_of" = some (some (.ref f2)))
    (l2 : K.lookup f2 = some ⟨oc2, od2, .func (PySem.W.fnOf "code_of" "code_of" (defArgs sCode) (defBody sCode) (defScope sCode) .none kV2 dc2 pm2 an2 cd2 ct2), sl2⟩)
    (c2_ : PySem.W.codeIn K cd2 "code_of" = true)
    (k2 : PySem.W.keepIn K (.ref f2) = true)
    (a3 : PySem.W.nsIn K mainGlobals "number_of" = some (some (.ref f3)))
    (l3 : K.lookup f3 = some ⟨oc3, od3, .func (PySem.W.fnOf "number_of" "number_of" (defArgs sNum) (defBody sNum) (defScope sNum) .none kV3 dc3 pm3 an3 (.ref c3) ct3), sl3⟩)
    (c3_ : PySem.W.codeIn K (.ref c3) "number_of" = true)
    (k3 : PySem.W.keepIn K (.ref f3) = true)
    (r3 : ((recsOf q).any fun d => d.name == ("number_of" : Str)) = true)
    (lc3 : K.lookup c3 = some ⟨occ3, odc3, .fields us3, slc3⟩)
    (p3 : us3[11]? = some (.ref P3))
    (n3 : K.lookup P3 = none)
    (a4 : PySem.W.nsIn K mainGlobals "options_of" = some (some (.ref f4)))
    (l4 : K.lookup f4 = some ⟨oc4, od4, .func (PySem.W.fnOf "options_of" "options_of" (defArgs sOpts) (defBody sOpts) (defScope sOpts) .none kV4 dc4 pm4 an4 (.ref c4) ct4), sl4⟩)
    (c4_ : PySem.W.codeIn K (.ref c4) "options_of" = true)
    (k4 : PySem.W.keepIn K (.ref f4) = true)
    (r4 : ((recsOf q).any fun d => d.name == ("options_of" : Str)) = true)
    (lc4 : K.lookup c4 = some ⟨occ4, odc4, .fields us4, slc4⟩)
    (p4 : us4[11]? = some (.ref P4))
    (n4 : K.lookup P4 = none)
    (a5 : PySem.W.nsIn K mainGlobals "value_of" = some (some (.ref f5)))
    (l5 : K.lookup f5 = some ⟨oc5, od5, .func (PySem.W.fnOf "value_of" "value_of" (defArgs sVal) (defBody sVal) (defScope sVal) .none kV5 dc5 pm5 an5 cd5 ct5), sl5⟩)
    (c5_ : PySem.W.codeIn K cd5 "value_of" = true)
    (k5 : PySem.W.keepIn K (.ref f5) = true)
    (a6 : PySem.W.nsIn K mainGlobals "is_whole" = some (some (.ref f6)))
    (l6 : K.lookup f6 = some ⟨oc6, od6, .func (PySem.W.fnOf "is_whole" "is_whole" (defArgs sWhole) (defBody sWhole) (defScope sWhole) .none kV6 dc6 pm6 an6 cd6 ct6), sl6⟩)
    (c6_ : PySem.W.codeIn K cd6 "is_whole" = true)
    (k6 : PySem.W.keepIn K (.ref f6) = true)
    (a7 : PySem.W.nsIn K mainGlobals "is_row_of_texts" = some (some (.ref f7)))
    (l7 : K.lookup f7 = some ⟨oc7, od7, .func (PySem.W.fnOf "is_row_of_texts" "is_row_of_texts" (defArgs sRow) (defBody sRow) (defScope sRow) .none kV7 dc7 pm7 an7 (.ref c7) ct7), sl7⟩)
    (c7_ : PySem.W.codeIn K (.ref c7) "is_row_of_texts" = true)
    (k7 : PySem.W.keepIn K (.ref f7) = true)
    (r7 : ((recsOf q).any fun d => d.name == ("is_row_of_texts" : Str)) = true)
    (lc7 : K.lookup c7 = some ⟨occ7, odc7, .fields us7, slc7⟩)
    (p7 : us7[11]? = some (.ref P7))
    (n7 : K.lookup P7 = none)
    (a8 : PySem.W.nsIn K mainGlobals "is_inner" = some (some (.ref f8)))
    (l8 : K.lookup f8 = some ⟨oc8, od8, .func (PySem.W.fnOf "is_inner" "is_inner" (defArgs sInner) (defBody sInner) (defScope sInner) .none kV8 dc8 pm8 an8 cd8 ct8), sl8⟩)
    (c8_ : PySem.W.codeIn K cd8 "is_inner" = true)
    (k8 : PySem.W.keepIn K (.ref f8) = true)
    (a9 : PySem.W.nsIn K mainGlobals "is_value" = some (some (.ref f9)))
    (l9 : K.lookup f9 = some ⟨oc9, od9, .func (PySem.W.fnOf "is_value" "is_value" (defArgs sIsVal) (defBody sIsVal) (defScope sIsVal) .none kV9 dc9 pm9 an9 cd9 ct9), sl9⟩)
    (c9_ : PySem.W.codeIn K cd9 "is_value" = true)
    (k9 : PySem.W.keepIn K (.ref f9) = true)
    (a10 : PySem.W.nsIn K mainGlobals "_law_cell" = some (some (.ref f10)))
    (l10 : K.lookup f10 = some ⟨oc10, od10, .func (PySem.W.fnOf "_law_cell" "_law_cell" (defArgs sCell) (defBody sCell) (defScope sCell) .none kV10 dc10 pm10 an10 cd10 ct10), sl10⟩)
    (c10_ : PySem.W.codeIn K cd10 "_law_cell" = true)
    (k10 : PySem.W.keepIn K (.ref f10) = true)
    (a11 : PySem.W.nsIn K mainGlobals "_law_same" = some (some (.ref f11)))
    (l11 : K.lookup f11 = some ⟨oc11, od11, .func (PySem.W.fnOf "_law_same" "_law_same" (defArgs sSame) (defBody sSame) (defScope sSame) .none kV11 dc11 pm11 an11 cd11 ct11), sl11⟩)
    (c11_ : PySem.W.codeIn K cd11 "_law_same" = true)
    (k11 : PySem.W.keepIn K (.ref f11) = true)
    (a12 : PySem.W.nsIn K mainGlobals "_law_digits" = some (some (.ref f12)))
    (l12 : K.lookup f12 = some ⟨oc12, od12, .func (PySem.W.fnOf "_law_digits" "_law_digits" (defArgs sDigits) (defBody sDigits) (defScope sDigits) .none kV12 dc12 pm12 an12 cd12 ct12), sl12⟩)
    (c12_ : PySem.W.codeIn K cd12 "_law_digits" = true)
    (k12 : PySem.W.keepIn K (.ref f12) = true)
    (a13 : PySem.W.nsIn K mainGlobals "_law_draw" = some (some (.ref f13)))
    (l13 : K.lookup f13 = some ⟨oc13, od13, .func (PySem.W.fnOf "_law_draw" "_law_draw" (defArgs sDraw) (defBody sDraw) (defScope sDraw) .none kV13 dc13 pm13 an13 cd13 ct13), sl13⟩)
    (c13_ : PySem.W.codeIn K cd13 "_law_draw" = true)
    (k13 : PySem.W.keepIn K (.ref f13) = true)
    (a14 : PySem.W.nsIn K mainGlobals "_law_value" = some (some (.ref f14)))
    (l14 : K.lookup f14 = some ⟨oc14, od14, .func (PySem.W.fnOf "_law_value" "_law_value" (defArgs sLawV) (defBody sLawV) (defScope sLawV) .none kV14 dc14 pm14 an14 cd14 ct14), sl14⟩)
    (c14_ : PySem.W.codeIn K cd14 "_law_value" = true)
    (k14 : PySem.W.keepIn K (.ref f14) = true)
    (a15 : PySem.W.nsIn K mainGlobals "_law_code" = some (some (.ref f15)))
    (l15 : K.lookup f15 = some ⟨oc15, od15, .func (PySem.W.fnOf "_law_code" "_law_code" (defArgs sLawC) (defBody sLawC) (defScope sLawC) .none kV15 dc15 pm15 an15 cd15 ct15), sl15⟩)
    (c15_ : PySem.W.codeIn K cd15 "_law_code" = true)
    (k15 : PySem.W.keepIn K (.ref f15) = true)
    (a16 : PySem.W.nsIn K mainGlobals "law" = some (some (.ref f16)))
    (l16 : K.lookup f16 = some ⟨oc16, od16, .func (PySem.W.fnOf "law" "law" (defArgs sLaw) (defBody sLaw) (defScope sLaw) .none kV16 dc16 pm16 an16 cd16 ct16), sl16⟩)
    (c16_ : PySem.W.codeIn K cd16 "law" = true)
    (k16 : PySem.W.keepIn K (.ref f16) = true)
    (z0 : PySem.W.nsIn K mainGlobals "len" = some none)
    (z1 : PySem.W.nsIn K mainGlobals "any" = some none)
    (z2 : PySem.W.nsIn K mainGlobals "all" = some none)
    (z3 : PySem.W.nsIn K mainGlobals "str" = some none)
    (z4 : PySem.W.nsIn K mainGlobals "int" = some none)
    (z5 : PySem.W.nsIn K mainGlobals "tuple" = some none)
    (z6 : PySem.W.nsIn K mainGlobals "enumerate" = some none)
    (z7 : PySem.W.nsIn K mainGlobals "isinstance" = some none)
    (z8 : PySem.W.nsIn K mainGlobals "bool" = some none)
    (z9 : PySem.W.nsIn K mainGlobals "repr" = some none)
    (z10 : PySem.W.nsIn K mainGlobals "range" = some none)
    (aL : PySem.W.nsIn K mainGlobals "LETTERS" = some (some (.str zL tL)))
    (eL : zL = cLetters)
    (aD : PySem.W.nsIn K mainGlobals "DIGITS" = some (some (.str zD tD)))
    (eD : zD = cDigits)
    (aW : PySem.W.nsIn K mainGlobals "WORDS" = some (some (.ref fW)))
    (lW : K.lookup fW = some ⟨.type "tuple", odW, .seq itW nW, slW⟩)
    (sW : itW.size ≤ sizeLine)
    (eW : txtsOf itW.toList = some cWords)
    (aN : PySem.W.nsIn K mainGlobals "NAME_MOST" = some (some (.int 6 tN)))
    (aU : PySem.W.nsIn K mainGlobals "NUMBER_MOST" = some (some (.int 9999 tU)))
    : LawG l w K n "_law_script" mg fa h := by
  have e := hfa.symm.trans (PySem.W.mg_of X G a16)
  cases e
  have T : Tx K mg := ⟨⟨tL, by rw [← eL]; exact PySem.W.mg_of X G aL⟩, ⟨tD, by rw [← eD]; exact PySem.W.mg_of X G aD⟩, ⟨fW, PySem.W.mg_of X G aW, fun H => .inr ⟨_, itW, nW, lW, rfl, rfl, sW, txts_vals eW⟩⟩, ⟨tN, PySem.W.mg_of X G aN⟩, ⟨tU, PySem.W.mg_of X G aU⟩, PySem.W.mg_none_of X G z0, PySem.W.mg_none_of X G z1, PySem.W.mg_none_of X G z2, PySem.W.mg_none_of X G z3, PySem.W.mg_none_of X G z4, PySem.W.mg_none_of X G z5, PySem.W.mg_none_of X G z6, PySem.W.mg_none_of X G z7, PySem.W.mg_none_of X G z8, PySem.W.mg_none_of X G z9, PySem.W.mg_none_of X G z10⟩
  have F1 : FunT K "is_name" "is_name" sName f1 (PySem.W.fnOf "is_name" "is_name" (defArgs sName) (defBody sName) (defScope sName) .none kV1 dc1 pm1 an1 (.ref c1) ct1) c1 := ⟨⟨_, _, _, _, _, _, _, _, rfl, l1, c1_⟩, k1⟩
  have F1b := F1.toFun
  obtain ⟨ic1, it1⟩ := tab_of X TT r1 (PySem.W.mg_of X G a1) l1 rfl lc1 p1
  have b1 := F1b.binds (ps := ["text"]) fun _ _ _ _ _ _ us hl => match us, hl with | [_], _ => rfl
  have m1 := PySem.W.mg_of X G a1
  have F2b := fun_mk (st := sCode) l2 c2_ k2
  have b2 := F2b.binds (ps := ["value"]) fun _ _ _ _ _ _ us hl => match us, hl with | [_], _ => rfl
  have m2 := PySem.W.mg_of X G a2
  have F3 : FunT K "number_of" "number_of" sNum f3 (PySem.W.fnOf "number_of" "number_of" (defArgs sNum) (defBody sNum) (defScope sNum) .none kV3 dc3 pm3 an3 (.ref c3) ct3) c3 := ⟨⟨_, _, _, _, _, _, _, _, rfl, l3, c3_⟩, k3⟩
  have F3b := F3.toFun
  obtain ⟨ic3, it3⟩ := tab_of X TT r3 (PySem.W.mg_of X G a3) l3 rfl lc3 p3
  have b3 := F3b.binds (ps := ["code"]) fun _ _ _ _ _ _ us hl => match us, hl with | [_], _ => rfl
  have m3 := PySem.W.mg_of X G a3
  have F4 : FunT K "options_of" "options_of" sOpts f4 (PySem.W.fnOf "options_of" "options_of" (defArgs sOpts) (defBody sOpts) (defScope sOpts) .none kV4 dc4 pm4 an4 (.ref c4) ct4) c4 := ⟨⟨_, _, _, _, _, _, _, _, rfl, l4, c4_⟩, k4⟩
  have F4b := F4.toFun
  obtain ⟨ic4, it4⟩ := tab_of X TT r4 (PySem.W.mg_of X G a4) l4 rfl lc4 p4
  have b4 := F4b.binds (ps := ["code"]) fun _ _ _ _ _ _ us hl => match us, hl with | [_], _ => rfl
  have m4 := PySem.W.mg_of X G a4
  have F5b := fun_mk (st := sVal) l5 c5_ k5
  have b5 := F5b.binds (ps := ["code"]) fun _ _ _ _ _ _ us hl => match us, hl with | [_], _ => rfl
  have m5 := PySem.W.mg_of X G a5
  have F6b := fun_mk (st := sWhole) l6 c6_ k6
  have b6 := F6b.binds (ps := ["thing"]) fun _ _ _ _ _ _ us hl => match us, hl with | [_], _ => rfl
  have m6 := PySem.W.mg_of X G a6
  have F7 : FunT K "is_row_of_texts" "is_row_of_texts" sRow f7 (PySem.W.fnOf "is_row_of_texts" "is_row_of_texts" (defArgs sRow) (defBody sRow) (defScope sRow) .none kV7 dc7 pm7 an7 (.ref c7) ct7) c7 := ⟨⟨_, _, _, _, _, _, _, _, rfl, l7, c7_⟩, k7⟩
  have F7b := F7.toFun
  obtain ⟨ic7, it7⟩ := tab_of X TT r7 (PySem.W.mg_of X G a7) l7 rfl lc7 p7
  have b7 := F7b.binds (ps := ["thing"]) fun _ _ _ _ _ _ us hl => match us, hl with | [_], _ => rfl
  have m7 := PySem.W.mg_of X G a7
  have F8b := fun_mk (st := sInner) l8 c8_ k8
  have b8 := F8b.binds (ps := ["kind", "inner"]) fun _ _ _ _ _ _ us hl => match us, hl with | [_, _], _ => rfl
  have m8 := PySem.W.mg_of X G a8
  have F9b := fun_mk (st := sIsVal) l9 c9_ k9
  have b9 := F9b.binds (ps := ["thing"]) fun _ _ _ _ _ _ us hl => match us, hl with | [_], _ => rfl
  have m9 := PySem.W.mg_of X G a9
  have F10b := fun_mk (st := sCell) l10 c10_ k10
  have b10 := F10b.binds (ps := ["_law_script", "_law_k"]) fun _ _ _ _ _ _ us hl => match us, hl with | [_, _], _ => rfl
  have m10 := PySem.W.mg_of X G a10
  have F11b := fun_mk (st := sSame) l11 c11_ k11
  have b11 := F11b.binds (ps := ["_law_actual", "_law_due"]) fun _ _ _ _ _ _ us hl => match us, hl with | [_, _], _ => rfl
  have m11 := PySem.W.mg_of X G a11
  have F12b := fun_mk (st := sDigits) l12 c12_ k12
  have b12 := F12b.binds (ps := ["_law_script", "_law_first", "_law_last"]) fun _ _ _ _ _ _ us hl => match us, hl with | [_, _, _], _ => rfl
  have m12 := PySem.W.mg_of X G a12
  have F13b := fun_mk (st := sDraw) l13 c13_ k13
  have b13 := F13b.binds (ps := ["_law_box", "_law_many"]) fun _ _ _ _ _ _ us hl => match us, hl with | [_, _], _ => rfl
  have m13 := PySem.W.mg_of X G a13
  have F14b := fun_mk (st := sLawV) l14 c14_ k14
  have b14 := F14b.binds (ps := ["_law_box"]) fun _ _ _ _ _ _ us hl => match us, hl with | [_], _ => rfl
  have m14 := PySem.W.mg_of X G a14
  have F15b := fun_mk (st := sLawC) l15 c15_ k15
  have b15 := F15b.binds (ps := ["_law_value_here"]) fun _ _ _ _ _ _ us hl => match us, hl with | [_], _ => rfl
  have m15 := PySem.W.mg_of X G a15
  have F16b := fun_mk (st := sLaw) l16 c16_ k16
  have b16 := F16b.binds (ps := ["_law_script"]) fun _ _ _ _ _ _ us hl => match us, hl with | [_], _ => rfl
  have m16 := PySem.W.mg_of X G a16
  refine ⟨PySem.W.fnOf "law" "law" (defArgs sLaw) (defBody sLaw) (defScope sLaw) .none kV16 dc16 pm16 an16 cd16 ct16, [(c1, P1), (c3, P3), (c4, P4), (c7, P7)], spLaw K [P1, P3, P4, P7], fun p hp => ?_, fun p hp => ?_, fun p hp => ?_, fun s v => .of_eq rfl, fun H a ns hl hH hS => ⟨a, ns, rfl, hS, Nat.le_trans hl hn, fun P hP => ?_, fun _ => rfl⟩, fun base _ _ TB => ?_⟩
  · simp only [List.mem_cons, List.not_mem_nil, or_false] at hp
    rcases hp with rfl | rfl | rfl | rfl
    · exact it1.2
    · exact it3.2
    · exact it4.2
    · exact it7.2
  · simp only [List.mem_cons, List.not_mem_nil, or_false] at hp
    rcases hp with rfl | rfl | rfl | rfl
    · exact n1
    · exact n3
    · exact n4
    · exact n7
  · simp only [List.mem_cons, List.not_mem_nil, or_false] at hp
    rcases hp with rfl | rfl | rfl | rfl
    · exact PySem.W.CodeHd.of ic1 it1
    · exact PySem.W.CodeHd.of ic3 it3
    · exact PySem.W.CodeHd.of ic4 it4
    · exact PySem.W.CodeHd.of ic7 it7
  · simp only [List.mem_cons, List.not_mem_nil, or_false] at hP
    rcases hP with e | e | e | e
    · rw [e]
      exact ⟨#[], hH (c1, P1) (by simp), by simp [TriplesOk]⟩
    · rw [e]
      exact ⟨#[], hH (c3, P3) (by simp), by simp [TriplesOk]⟩
    · rw [e]
      exact ⟨#[], hH (c4, P4) (by simp), by simp [TriplesOk]⟩
    · rw [e]
      exact ⟨#[], hH (c7, P7) (by simp), by simp [TriplesOk]⟩
  · have B1 : GxR.TabB base mg c1 P1 := TB (c1, P1) (by simp)
    have B3 : GxR.TabB base mg c3 P3 := TB (c3, P3) (by simp)
    have B4 : GxR.TabB base mg c4 P4 := TB (c4, P4) (by simp)
    have B7 : GxR.TabB base mg c7 P7 := TB (c7, P7) (by simp)
    have G1 := ok_name (P := l.prog) (w := w) (base := base) F1 T B1
    have G2 := ok_code (P := l.prog) (w := w) (mg := mg) (base := base) F2b T
    have G3 := ok_num (P := l.prog) (w := w) (base := base) F3 T B3
    have G4 := ok_opts (P := l.prog) (w := w) (base := base) (Ps := [P1, P3, P4, P7]) F4 T B4 (show P4 ∈ ([P1, P3, P4, P7] : List Addr) by simp) (show P1 ∈ ([P1, P3, P4, P7] : List Addr) by simp) G1 m1 k1 b1
    have G5 := ok_val (P := l.prog) (w := w) (base := base) (Ps := [P1, P3, P4, P7]) F5b (show P1 ∈ ([P1, P3, P4, P7] : List Addr) by simp) (show P3 ∈ ([P1, P3, P4, P7] : List Addr) by simp) G1 m1 k1 b1 G4 m4 k4 b4 G3 m3 k3 b3
    have G6 := ok_whole (P := l.prog) (w := w) (mg := mg) (base := base) F6b T
    have G7 := ok_row (P := l.prog) (w := w) (base := base) F7 T B7
    have G8 := ok_inner (P := l.prog) (w := w) (base := base) (Ps := [P1, P3, P4, P7]) F8b T (show P1 ∈ ([P1, P3, P4, P7] : List Addr) by simp) (show P7 ∈ ([P1, P3, P4, P7] : List Addr) by simp) G1 m1 k1 b1 G6 m6 k6 b6 G7 m7 k7 b7 G5 m5 k5 b5 G2 m2 k2 b2
    have G9 := ok_isval (P := l.prog) (w := w) (base := base) F9b T G8 m8 k8 b8
    have G10 := ok_cell (P := l.prog) (w := w) (mg := mg) (base := base) F10b T
    have G12 := ok_digits (P := l.prog) (w := w) (base := base) F12b T G10 m10 k10 b10
    have G13 := ok_draw (P := l.prog) (w := w) (mg := mg) (base := base) F13b T
    have G14 := ok_lawV (P := l.prog) (w := w) (base := base) F14b T G13 m13 k13 b13
    have G15 := ok_lawC (P := l.prog) (w := w) (mg := mg) (base := base) (Ps := [P1, P3, P4, P7]) F15b T
    exact ok_law (P := l.prog) (w := w) (base := base) F16b T ⟨rfl, by decide, by decide⟩ rfl (show P1 ∈ ([P1, P3, P4, P7] : List Addr) by simp) G1 m1 k1 b1 G2 m2 k2 b2 G5 m5 k5 b5 G9 m9 k9 b9 (fun A k hr hg => ok_same (P := l.prog) (w := w) (mg := mg) (base := base) F11b T hr hg) m11 k11 b11 G13 m13 k13 b13 G12 m12 k12 b12 G14 m14 k14 b14 G15 m15 k15 b15
end K0

set_option Elab.async false
set_option maxRecDepth 100000
open PySem PySem.W PyProof.Rows
set_option maxHeartbeats 0 in
theorem PySem.Challenge.cw_formflow_k00_values_coded_holds : PySem.Challenge.rw_formflow_k00_values_coded.Holds := by
  w_on; o_law; k_head; (case hw => w_witness2)
  k_fill
  refine K0.walk_g (l := PySem.Challenge.rw_formflow_k00_values_coded) (x := "_law_script") rfl (by decide) rfl (fun w h Y => PySem.W.kIn_of Y) ?F
  case F =>
    intro w mg fa h KX G TT hmg
    refine' K0.all_mk (by decide) KX G TT hmg ?a1 ?l1 ?c1_ ?k1 ?r1 ?lc1 ?p1 ?n1 ?a2 ?l2 ?c2_ ?k2 ?a3 ?l3 ?c3_ ?k3 ?r3 ?lc3 ?p3 ?n3 ?a4 ?l4 ?c4_ ?k4 ?r4 ?lc4 ?p4 ?n4 ?a5 ?l5 ?c5_ ?k5 ?a6 ?l6 ?c6_ ?k6 ?a7 ?l7 ?c7_ ?k7 ?r7 ?lc7 ?p7 ?n7 ?a8 ?l8 ?c8_ ?k8 ?a9 ?l9 ?c9_ ?k9 ?a10 ?l10 ?c10_ ?k10 ?a11 ?l11 ?c11_ ?k11 ?a12 ?l12 ?c12_ ?k12 ?a13 ?l13 ?c13_ ?k13 ?a14 ?l14 ?c14_ ?k14 ?a15 ?l15 ?c15_ ?k15 ?a16 ?l16 ?c16_ ?k16 ?z0 ?z1 ?z2 ?z3 ?z4 ?z5 ?z6 ?z7 ?z8 ?z9 ?z10 ?aL ?eL ?aD ?eD ?aW ?lW ?sW ?eW ?aN ?aU
    (case a1 => k_is)
    (case l1 => k_is)
    (case c1_ => k_is)
    (case k1 => k_is)
    (case r1 => kernel_rfl)
    (case lc1 => k_is)
    (case p1 => first | rfl | kernel_rfl)
    (case n1 => kernel_rfl)
    (case a2 => k_is)
    (case l2 => k_is)
    (case c2_ => k_is)
    (case k2 => k_is)
    (case a3 => k_is)
    (case l3 => k_is)
    (case c3_ => k_is)
    (case k3 => k_is)
    (case r3 => kernel_rfl)
    (case lc3 => k_is)
    (case p3 => first | rfl | kernel_rfl)
    (case n3 => kernel_rfl)
    (case a4 => k_is)
    (case l4 => k_is)
    (case c4_ => k_is)
    (case k4 => k_is)
    (case r4 => kernel_rfl)
    (case lc4 => k_is)
    (case p4 => first | rfl | kernel_rfl)
    (case n4 => kernel_rfl)
    (case a5 => k_is)
    (case l5 => k_is)
    (case c5_ => k_is)
    (case k5 => k_is)
    (case a6 => k_is)
    (case l6 => k_is)
    (case c6_ => k_is)
    (case k6 => k_is)
    (case a7 => k_is)
    (case l7 => k_is)
    (case c7_ => k_is)
    (case k7 => k_is)
    (case r7 => kernel_rfl)
    (case lc7 => k_is)
    (case p7 => first | rfl | kernel_rfl)
    (case n7 => kernel_rfl)
    (case a8 => k_is)
    (case l8 => k_is)
    (case c8_ => k_is)
    (case k8 => k_is)
    (case a9 => k_is)
    (case l9 => k_is)
    (case c9_ => k_is)
    (case k9 => k_is)
    (case a10 => k_is)
    (case l10 => k_is)
    (case c10_ => k_is)
    (case k10 => k_is)
    (case a11 => k_is)
    (case l11 => k_is)
    (case c11_ => k_is)
    (case k11 => k_is)
    (case a12 => k_is)
    (case l12 => k_is)
    (case c12_ => k_is)
    (case k12 => k_is)
    (case a13 => k_is)
    (case l13 => k_is)
    (case c13_ => k_is)
    (case k13 => k_is)
    (case a14 => k_is)
    (case l14 => k_is)
    (case c14_ => k_is)
    (case k14 => k_is)
    (case a15 => k_is)
    (case l15 => k_is)
    (case c15_ => k_is)
    (case k15 => k_is)
    (case a16 => k_is)
    (case l16 => k_is)
    (case c16_ => k_is)
    (case k16 => k_is)
    (case z0 => k_is)
    (case z1 => k_is)
    (case z2 => k_is)
    (case z3 => k_is)
    (case z4 => k_is)
    (case z5 => k_is)
    (case z6 => k_is)
    (case z7 => k_is)
    (case z8 => k_is)
    (case z9 => k_is)
    (case z10 => k_is)
    (case aL => k_is)
    (case eL => decide +kernel)
    (case aD => k_is)
    (case eD => decide +kernel)
    (case aW => k_is)
    (case lW => k_is)
    (case sW => decide)
    (case eW => decide +kernel)
    (case aN => k_is)
    (case aU => k_is)
