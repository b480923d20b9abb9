import PyProof.Rows.All
import Wide.All
import OpenK.AllK
import Wide.FinOn
import HandS.ForMost
import HandS.GenBody
import HandS.AnyAll
import PyProof.SumAny
import PySem.Challenge.RW_twoways_k15_whole_meaning_of_sentences
import HandS.IsInst
import HandS.Defaults
import HandS.Head0
import HandS.Head1
import HandS.Head2
import HandS.HeadEnd
import HandS.HeadHook1
import HandS.HeadHook2
import HandS.HeadHook3
import HandS.HeadHook4
import HandS.HeadNt
import HandS.HeadWalk
set_option Elab.async false
set_option linter.all false
set_option maxRecDepth 100000
set_option maxHeartbeats 2000000
/-! any, all, sum of a generator expression whose element is any expression of the layer -/
namespace GX
open PySem PySem.Spec PyProof.Rows L2 GenW GxR

/-- a generator expression's scope: its own name x, the walked thing at «.0», captured names -/
structure GSc (N : List Str) (sc scope : Scope) (x : Str) : Prop where
  kind : scope.kind = .function
  co : scope.isCoroutine = false
  cell : ∀ y ∈ scope.names, y.2 ≠ .cell
  dot : scope.names.lookup (".0" : Str) = some NameKind.local
  loc : scope.names.lookup x = some .local
  own : ∀ y ∈ scope.names, y.2 = .local → y.1 ∉ N
  free : ∀ y ∈ scope.names, y.2 = .free → sc.names.lookup y.1 = some .cell ∨ sc.names.lookup y.1 = some .free
  uniq : ∀ y ∈ scope.names, scope.names.lookup y.1 = some y.2
  nd : (N ++ [x]).Nodup
def gscB (N : List Str) (sc scope : Scope) (x : Str) : Bool :=
  (match scope.kind with | .function => true | _ => false) && !scope.isCoroutine && (scope.names.all fun y => !decide (y.2 = .cell)) &&
  decide (scope.names.lookup (".0" : Str) = some NameKind.local) && decide (scope.names.lookup x = some NameKind.local) &&
  (scope.names.all fun y => !decide (y.2 = .local) || decide (y.1 ∉ N)) &&
  (scope.names.all fun y => !decide (y.2 = .free) || decide (sc.names.lookup y.1 = some .cell) || decide (sc.names.lookup y.1 = some .free)) &&
  (scope.names.all fun y => decide (scope.names.lookup y.1 = some y.2)) && decide ((N ++ [x]).Nodup)
theorem gsc_by {N : List Str} {sc scope : Scope} {x : Str} (h : gscB N sc scope x = true) : GSc N sc scope x := by
  unfold gscB at h
  simp only [Bool.and_eq_true, Bool.or_eq_true, List.all_eq_true, decide_eq_true_eq, Bool.not_eq_true', decide_eq_false_iff_not] at h
  obtain ⟨⟨⟨⟨⟨⟨⟨⟨h1, h2⟩, h3⟩, h4⟩, h5⟩, h6⟩, h7⟩, h8⟩, h9⟩ := h
  refine ⟨?_, h2, h3, h4, h5, fun y hy e => ?_, fun y hy e => ?_, h8, h9⟩
  · split at h1
    · assumption
    · cases h1
  · rcases h6 y hy with z | z
    · exact absurd e z
    · exact z
  · rcases h7 y hy with (z | z) | z
    · exact absurd e z
    · exact .inl z
    · exact .inr z

/-- the generator's own context -/
abbrev gcx (X : Cx) (s : Shared) (H : Hp) (x : Str) (cenv : Env) (fp : List Addr) (pn : List (Addr × Obj)) : Cx :=
  { X with A := X.A.in1.in1.deeper cenv, N := X.N ++ [x], s_0 := s, H_0 := H, env := cenv, outer := X.stack, stack := cenv :: X.stack, ex := fp, fn := fun _ => false, pn := pn, xe := fun _ _ => False }
theorem room_g {k : Nat} {A : Around} (r : Room (k + 1) A) (env : Env) : Room k (A.in1.in1.deeper env) :=
  ⟨r.hd, by have := r.dp; show A.depth + 1 + 3 * k + 5 < _; omega, by have := r.un; show A.units + 1 + 1 + 3 + 16 * k + 200 < _; omega⟩

section
variable {X : Cx} {pins : List (Addr × Obj)} {σ : L2.St} {H : Hp}
theorem gx_start {x : Str} {scope : Scope} {code : Value} {fp : List Addr} {a : Addr} {go : Obj} {s4 s6 : Shared} {pl : List (Addr × Obj)} (I : Inv X pins σ H s4) (S : GSc X.N X.env.scope scope x) (hfp : ∀ b ∈ fp, FpOk X pins H b ∧ b < s4.heap.objs.size)
    (os : s6.os = s4.os) (bare : AllBare s6.gens) (keep : ∀ b o, s4.heap.get? b = some o → s6.heap.get? b = some o) (ns : ∃ m, s6.heap.Ns s4.heap.objs.size m)
    (hpl : ∀ p ∈ [(a, go)] ++ pl, s4.heap.objs.size < p.1 ∧ s6.heap.get? p.1 = some p.2 ∧ ∀ v, p.2.data ≠ .cell v) :
    Inv (gcx X s4 H x (genEnv scope (cloFrom X.env.cells scope.names []) s4.heap.objs.size code builtinsNs X.env) fp [(a, go)]) pl (σ ++ [none]) H s6 := by
  have hfree : ∀ y ∈ scope.names, y.2 = .free → ∃ c, X.env.cells.lookup y.1 = some c := fun y hy e => by
    rcases S.free y hy e with k | k
    · exact I.ok.has _ (.inl k)
    · exact I.ok.has _ (.inr k)
  have cm : ∀ {y c}, (y, c) ∈ cloFrom X.env.cells scope.names [] → X.env.cells.lookup y = some c ∧ c < s4.heap.objs.size := fun {y c} hm => by
    rcases cloFrom_mem hm with hm | ⟨h1, rfl⟩
    · cases hm
    · obtain ⟨c, hc⟩ := hfree _ h1 rfl
      rw [hc]
      obtain ⟨w, z⟩ := I.cell _ _ hc
      exact ⟨rfl, z.lt⟩
  have look : ∀ {y}, scope.names.lookup y = some .free → ∃ c, (cloFrom X.env.cells scope.names []).lookup y = some c ∧ X.env.cells.lookup y = some c := fun {y} hl => by
    have hy : (y, NameKind.free) ∈ scope.names := PySem.mem_of_lookup hl
    obtain ⟨c', e'⟩ := mem_lookup (cloFrom_has (cells := X.env.cells) (acc := []) hy)
    exact ⟨c', e', (cm (PySem.mem_of_lookup e')).1⟩
  have young : ∀ b, s4.heap.objs.size ≤ b → b ∉ frs X.stack := fun b hb z => by
    rcases List.mem_cons.mp (I.stkSub b z) with e | e
    · have h1 := I.lt
      rw [← e] at h1
      exact Nat.lt_irrefl _ (Nat.lt_of_lt_of_le h1 hb)
    · exact I.nofs hb e
  have okB : (gcx X s4 H x (genEnv scope (cloFrom X.env.cells scope.names []) s4.heap.objs.size code builtinsNs X.env) fp [(a, go)]).Ok := by
    refine ⟨I.ok.mod, S.kind, I.ok.glob, rfl, Nat.le_refl _, fun y z c e1 e2 => ?_, fun y hy => ?_, fun y c z e => (by cases z), fun hc => I.ok.hd hc, Around.frames_deeper I.ok.frames, .inr ⟨rfl, rfl⟩, fun b hb => ⟨Nat.ne_of_lt (hfp b hb).2, fun y c e z => ?_⟩, I.bs, Nat.le_trans I.ok.bsz I.sz, fun b o e hb => ?_, fun b hb z => ?_, I.stack, I.stkFree⟩
    · exact I.ok.inj y z c (cm (PySem.mem_of_lookup e1)).1 (cm (PySem.mem_of_lookup e2)).1
    · show ∃ c, (cloFrom X.env.cells scope.names []).lookup y = some c
      rcases hy with hy | hy
      · exact absurd rfl (S.cell _ (PySem.mem_of_lookup (show scope.names.lookup y = some .cell from hy)))
      · obtain ⟨c, h1, _⟩ := look (show scope.names.lookup y = some .free from hy)
        exact ⟨c, h1⟩
    · exact (hfp b hb).1.2.2.2.2.1 y c (cm (PySem.mem_of_lookup (show (cloFrom X.env.cells scope.names []).lookup y = some c from e))).1 z
    · rcases (hfp b hb).1.2.2.2.1 with z | z
      · exact I.ok.noex b o e z
      · exact absurd (Nat.lt_of_lt_of_le (Heap.lt_size e) (Nat.le_trans I.ok.bsz z)) (Nat.lt_irrefl _)
    · rcases List.mem_cons.mp (I.stkSub b z) with z | z
      · exact (hfp b hb).1.2.1 z
      · exact (hfp b hb).1.2.2.1 z
  obtain ⟨m0, hm0⟩ := ns
  have hlen : σ.length = X.N.length := I.len
  refine ⟨okB, os, bare, Un.kept keep, ⟨m0, hm0, fun i y av e1 e2 e3 => ?_⟩, fun y c e => ?_, I.hok.fresh (Nat.le_refl _), fun y c e => ?_, fun p hp => ?_, I.hok.kept keep, by rw [List.length_append, List.length_append, hlen]; rfl⟩
  · have hi : i < σ.length := by
      by_cases hi : i < σ.length
      · exact hi
      · rw [List.getElem?_append_right (by omega)] at e2
        rw [List.getElem?_cons] at e2
        split at e2 <;> simp at e2
    have e1' : X.N[i]? = some y := by
      rw [← e1]
      exact (List.getElem?_append_left (by omega)).symm
    have e2' : σ[i]? = some (some av) := by
      rw [← e2]
      exact (List.getElem?_append_left hi).symm
    have hfr : scope.names.lookup y = some .free := by
      have e3 : Vis scope y := e3
      rcases e3 with e3 | e3 | e3
      · exact absurd (List.mem_of_getElem? e1') (S.own _ (PySem.mem_of_lookup e3) rfl)
      · exact absurd rfl (S.cell _ (PySem.mem_of_lookup e3))
      · exact e3
    obtain ⟨m, hn, hl⟩ := I.loc
    have hvis : Vis X.env.scope y := (S.free _ (PySem.mem_of_lookup hfr) rfl).elim (fun k => .inr (.inl k)) (fun k => .inr (.inr k))
    obtain ⟨w, r, q⟩ := hl i y av e1' e2' hvis
    refine ⟨w, r, .inr ⟨.inr hfr, ?_⟩⟩
    obtain ⟨c, h1, h2⟩ := look hfr
    rcases q with ⟨k, _⟩ | ⟨_, c', e', z⟩
    · have k : X.env.scope.names.lookup y = some .local := k
      rcases S.free _ (PySem.mem_of_lookup hfr) rfl with k' | k' <;> rw [show X.env.scope.names.lookup y = _ from k'] at k <;> cases k
    · rw [h2] at e'; cases e'
      exact ⟨c, h1, z.keeps keep⟩
  · have e : (cloFrom X.env.cells scope.names []).lookup y = some c := e
    obtain ⟨w, z⟩ := I.cell y c (cm (PySem.mem_of_lookup e)).1
    exact ⟨w, z.keeps keep⟩
  · have e : (cloFrom X.env.cells scope.names []).lookup y = some c := e
    exact I.freeC y c (cm (PySem.mem_of_lookup e)).1
  · obtain ⟨h1, h2, h3⟩ := hpl p hp
    exact ⟨h2, I.hok.fresh (Nat.le_of_lt h1), Nat.ne_of_gt h1, young _ (Nat.le_of_lt h1), h3⟩
end

/-! ### the consumer's own objects -/
/-- while the generator sleeps: only the objects at L may have changed (none of them a cell) -/
structure SleptG (L : List Addr) (s s' : Shared) : Prop where
  os : s'.os = s.os
  bare : AllBare s'.gens
  keep : ∀ b o, b ∉ L → s.heap.get? b = some o → s'.heap.get? b = some o
  own : ∀ b ∈ L, ∃ o, s'.heap.get? b = some o ∧ ∀ v, o.data ≠ .cell v
/-- running, with the consumer's objects pinned as they stand -/
def GInv (Xg : Cx) (L : List Addr) (σ : L2.St) (H : Hp) (s : Shared) : Prop := Inv Xg (pinsAt L s.heap) σ H s ∧ ∀ b ∈ L, ∃ o, s.heap.get? b = some o
def ApartG (Xg : Cx) (L : List Addr) : Prop := ∀ b ∈ L, Xg.s_0.heap.objs.size ≤ b ∧ b ≠ Xg.env.locals ∧ b ∉ Xg.fs ∧ (∀ x c, Xg.env.cells.lookup x = some c → c ≠ b) ∧ ∀ p ∈ Xg.pn, p.1 ≠ b
theorem GInv.woken {Xg : Cx} {L : List Addr} {σ : L2.St} {H : Hp} {s s' : Shared} (hA : ApartG Xg L) (h : GInv Xg L σ H s) (z : SleptG L s s') : GInv Xg L σ H s' := by
  obtain ⟨I, hL⟩ := h
  have hn : ∀ b ∈ L, H b = none := fun b hb => by
    obtain ⟨o, e⟩ := hL b hb
    exact (I.pin (b, o) (List.mem_append_right _ (mem_pinsAt hb e))).2.1
  have I0 : Inv Xg [] σ H s := I.pins_of fun p hp => absurd hp (by simp)
  have nt : ∀ b u, H b = some u → b ∉ L := fun b u q hb => by rw [hn b hb] at q; cases q
  obtain ⟨z1, z2, z3, z4⟩ := z
  obtain ⟨hh, g, d, t, o⟩ := s'
  have ho : o = s.os := z1
  subst ho
  have J : Inv Xg [] σ H { s with heap := hh, gens := g, drawn := d, toks := t } := by
    refine I0.step (g' := g) (t' := t) (d' := d) (ch := L) (fun b hb => ?_)
      (fun b ob _ _ hc q _ => z3 b ob hc q) (fun b ob _ _ hc q _ => ⟨ob.slots, z3 b ob hc q⟩) (fun _ _ _ _ n => n) (fun b ob hc q => ⟨ob, z3 b ob hc q⟩)
      (fun _ _ q => q) (fun _ _ _ q => q) (fun b ps q => ⟨#[], by rw [q]; simp⟩) (fun m hm => ?_) (fun b u q => ?_) z2
    · obtain ⟨h1, h2, h3, h4, h5⟩ := hA b hb
      refine ⟨.inr h1, h2, h4, fun p hp => ?_⟩
      rw [List.append_nil] at hp
      exact h5 p hp
    · obtain ⟨ob, es, ep, ho, r⟩ := hm
      exact ⟨ob, es, ep, z3 _ ob (fun hb => (hA _ hb).2.1 rfl) ho, r⟩
    · refine (I0.hok b u q).stay (fun c v hc y => z3 c v ?_ y) (fun _ y => y) fun _ _ y => y
      rcases hc with y | y
      · rw [y]; exact nt b u q
      · exact nt c _ y
  refine ⟨J.pins_of fun p hp => ?_, fun b hb => let ⟨o, e, _⟩ := z4 b hb; ⟨o, e⟩⟩
  obtain ⟨hb, e⟩ := of_pinsAt hp
  obtain ⟨o, e', d⟩ := z4 p.1 hb
  have e2 : hh.get? p.1 = some o := e'
  have e3 : hh.get? p.1 = some p.2 := e
  rw [e2] at e3
  cases e3
  exact ⟨e, hn p.1 hb, (hA p.1 hb).2.1, (hA p.1 hb).2.2.1, d⟩
/-- behind a run that bore pins: as they stand now -/
theorem GInv.of_run {Xg : Cx} {L : List Addr} {σ : L2.St} {H0 H : Hp} {s s' : Shared} {σ0 : L2.St} (h : GInv Xg L σ0 H0 s) (I : Inv Xg (pinsAt L s.heap) σ H s') : GInv Xg L σ H s' ∧ ∀ b ∈ L, s'.heap.get? b = s.heap.get? b := by
  have at_ : ∀ b ∈ L, ∃ o, s.heap.get? b = some o ∧ s'.heap.get? b = some o := fun b hb => by
    obtain ⟨o, e⟩ := h.2 b hb
    exact ⟨o, e, (I.pin (b, o) (List.mem_append_right _ (mem_pinsAt hb e))).1⟩
  refine ⟨⟨I.pins_of fun p hp => ?_, fun b hb => let ⟨o, _, e⟩ := at_ b hb; ⟨o, e⟩⟩, fun b hb => let ⟨o, e1, e2⟩ := at_ b hb; e2.trans e1.symm⟩
  obtain ⟨hb, e⟩ := of_pinsAt hp
  obtain ⟨o, e1, e2⟩ := at_ p.1 hb
  rw [e] at e2
  cases e2
  exact I.pin p (List.mem_append_right _ (mem_pinsAt hb e1))

/-! ### the generator's run -/
/-- an item is handed out: the turn i with the measure m, the value y, the abstract heap behind it -/
def YG (Xg : Cx) (L : List Addr) (σ : L2.St) (W : Nat → Nat → Hp → Prop) (Z : Nat → Nat → V → Hp → Prop) : Protocol := fun n s₀ v s kap =>
  ∃ i m y H, RelV y v ∧ m ≤ n ∧ GInv Xg L (σ ++ [none]) H s ∧ (∀ b ∈ L, s.heap.get? b = s₀.heap.get? b) ∧ Z i m y H ∧ ∀ m', m' < m → W (i + 1) m' H → ∀ s'', SleptG L s s'' → kap (.send .none) s''
/-- nothing more comes -/
def PG_ (Xg : Cx) (L : List Addr) (σ : L2.St) (Qe : Hp → Prop) : Nat → Shared → Shared → Prop := fun _ s₀ s => ∃ H, GInv Xg L (σ ++ [none]) H s ∧ (∀ b ∈ L, s.heap.get? b = s₀.heap.get? b) ∧ Qe H
abbrev RG (Xg : Cx) (L : List Addr) (σ : L2.St) (Qe : Hp → Prop) : GenEnd := fun n s₀ r s₁ => r = .ok .next ∧ PG_ Xg L σ Qe n s₀ s₁

theorem over_gen {A : Around} {elt : Expr} {gs : List Comprehension} {scope : Scope} {pos : Pos} {it acc : Value} {env : Env} : A.over (.compLoop (.GeneratorExp elt gs scope pos) 0 it acc env) [] = A.deeper env := by
  first
    | rfl
    | (obtain ⟨hd, d, fr, gs, u⟩ := A; simp [Around.over, Around.deeper, marksOver, frameCount, unitsOf, envsOf, guardsOf, pushEnvs, pushGuards, Code.envs, Code.env?, Code.isFrame, Code.guards, Code.isGuard, Code.weight, Code.frames, Code.isCreation, Code.isCaller, Code.cUnits])
theorem over_gen0 {A : Around} {elt : Expr} {gs : List Comprehension} {scope : Scope} {pos : Pos} {it acc : Value} {env : Env} : A.over (.compStart (.GeneratorExp elt gs scope pos) 0 it acc env) [] = A.deeper env := by
  first
    | rfl
    | (obtain ⟨hd, d, fr, gs, u⟩ := A; simp [Around.over, Around.deeper, marksOver, frameCount, unitsOf, envsOf, guardsOf, pushEnvs, pushGuards, Code.envs, Code.env?, Code.isFrame, Code.guards, Code.isGuard, Code.weight, Code.frames, Code.isCreation, Code.isCaller, Code.cUnits])

section
variable {Xg : Cx} {A : Around} {L : List Addr} {σ : L2.St} {elt iter : Expr} {x : Str} {px : Pos} {scope : Scope} {gpos : Pos} {it : Addr} {fp : List Addr} {tn : Nat → Heap → Prop} {J : It} {te : TE}
  {W : Nat → Nat → Hp → Prop} {Z : Nat → Nat → V → Hp → Prop} {Qe : Hp → Prop}
theorem seg_gx (hA : A.deeper Xg.env = Xg.A) (hAp : ApartG Xg L) (hc : Xg.calm = true) (hsc : Xg.env.scope.isCoroutine = false) (hlen : σ.length + 1 = Xg.N.length) (hx : Xg.N[σ.length]? = some x) (hnd : Xg.N.Nodup) (hxl : Xg.env.scope.names.lookup x = some .local)
    (hfpok : ∀ b ∈ fp, b ≠ Xg.env.locals ∧ b ∉ Xg.fs ∧ b ∈ Xg.ex ∧ (∀ x c, Xg.env.cells.lookup x = some c → c ≠ b) ∧ (∀ p ∈ Xg.pn, p.1 ≠ b) ∧ b ∉ L)
    (hxe : Xg.xe = fun _ _ => False)
    (T : Turn Xg.prog Xg.w Xg.K (.Name x px) J fp it tn) (he : PE Xg elt te)
    (turn : ∀ i m H, W i m H → (J.stop i H ∧ Qe H) ∨ (J.go i H ∧ ∀ v H', J.yld i H v H' → te (σ ++ [some v]) H' fun y H4 => Z i m y H4)) :
    ∀ (n i m : Nat) (s₀ s : Shared) (H : Hp), m < n → W i m H → GInv Xg L (σ ++ [none]) H s → (∀ b ∈ fp, H b = none) → tn i s.heap → (∀ b ∈ L, s.heap.get? b = s₀.heap.get? b) →
      Seg (model Xg.prog Xg.w) A (RG Xg L σ Qe) (YG Xg L σ W Z) n s₀ (.compLoop (.GeneratorExp elt [⟨.Name x px, iter, [], 0⟩] scope gpos) 0 (.ref it) .none Xg.env)
        ((model Xg.prog Xg.w).den (.compLoop (.GeneratorExp elt [⟨.Name x px, iter, [], 0⟩] scope gpos) 0 (.ref it) .none Xg.env)) [] s := by
  intro n
  induction n with
  | zero => intro i m s₀ s H hm; omega
  | succ n ih =>
    intro i m s₀ s H hm w GI nfp st hs0
    obtain ⟨I, hL⟩ := id GI
    have stat : ∀ {H' : Hp} {h : Heap}, (∀ b ∈ fp, H' b = none) → ∀ b ∈ fp, FpOk Xg (pinsAt L h) H' b := fun {H' h} hn b hb => by
      obtain ⟨f1, f2, f3, f4, f5, f6⟩ := hfpok b hb
      refine ⟨hn b hb, f1, f2, .inl f3, f4, fun p hp => ?_⟩
      rcases List.mem_append.mp hp with hp | hp
      · exact f5 p hp
      · exact fun e => f6 (e ▸ (of_pinsAt hp).1)
    show Seg _ A _ _ (n + 1) s₀ _ ((compTurn (.GeneratorExp elt [⟨.Name x px, iter, [], 0⟩] scope gpos) 0 (.ref it) .none Xg.env).onRaise (leaving Xg.env)) [] s
    rw [compTurn_gen, Sem.onRaise_eq_wrap]
    refine seg_bind_wrap (wpAny_standAt ?_)
    rcases turn i m H w with ⟨stop, qe⟩ | ⟨go, step⟩
    · refine seg_bind_wrap ?_
      rw [over_gen, hA]
      refine thnF (T.done Xg rfl rfl rfl hc i _ s _ H (fun _ _ => False) I (stat nfp) st stop) fun r s1 ⟨hr, I1⟩ => ?_
      subst hr
      obtain ⟨g1, g2⟩ := GI.of_run I1
      exact seg_end (.ok .next) ⟨rfl, H, g1, fun b hb => (g2 b hb).trans (hs0 b hb), qe⟩
    · refine seg_bind_wrap ?_
      rw [over_gen, hA]
      refine thnF (T.item Xg rfl rfl rfl hc i _ s _ H (fun _ _ => False) I (stat nfp) st go) fun r s1 ⟨u, hr, h1⟩ => ?_
      subst hr
      refine seg_bind_wrap ?_
      rw [over_gen, hA]
      refine thnF h1 fun _ s2 ⟨v, H2, I2, r2, y2, st2, n2⟩ => ?_
      have I2' := I2.pinned (stat (h := s.heap) n2) (T.obj _ _ st2)
      refine seg_bind_wrap ?_
      rw [over_gen, hA]
      refine wpAny_assign_Name (store_ok I2' hnd hx (.inl hxl) r2 (fun s3 I3 => ?_) (.inr hxl))
      have eσ : (σ ++ [none]).set σ.length (some v) = σ ++ [some v] := by
        rw [List.set_append_right _ _ (Nat.le_refl _), Nat.sub_self]
        rfl
      rw [eσ] at I3
      refine seg_bind_wrap (wpAny_tests_nil ?_)
      simp only [if_true]
      have hy : ∀ v, yieldOut Xg.env v = yieldValue v := fun v => by simp only [yieldOut, hsc, Bool.false_eq_true, if_false]
      simp only [hy]
      rw [Sem.bind_eq_wrap', Sem.bind_eq_wrap', Sem.wrap_wrap, Sem.wrap_wrap]
      refine seg_wrap ?_
      rw [over_gen, hA]
      have run := he.run _ s3 _ H2 _ I3 (step v H2 y2)
      rw [hxe] at run
      refine thnF run fun yv s4 ⟨y, H4, I4, r4, z4⟩ => ?_
      have pin' : ∀ b ∈ fp, ∀ o, s2.heap.get? b = some o → s4.heap.get? b = some o ∧ H4 b = none := fun b hb o e =>
        let z := I4.pin (b, o) (List.mem_append_right _ (List.mem_append_right _ (mem_pinsAt hb e)))
        ⟨z.1, z.2.1⟩
      have I5 : Inv Xg (pinsAt L s.heap) (σ ++ [none]) H4 s4 := (I4.unpinned (pins := pinsAt L s.heap)).weak (by simp) fun j w e => by
        by_cases hj : j < σ.length
        · rw [List.getElem?_append_left hj] at e ⊢
          exact e
        · rw [List.getElem?_append_right (by omega), List.getElem?_cons] at e
          split at e <;> simp at e
      obtain ⟨g1, g2⟩ := GI.of_run I5
      have st4 : tn (i + 1) s4.heap := T.keep _ _ _ st2 fun b hb o e => (pin' b hb o e).1
      have n4 : ∀ b ∈ fp, H4 b = none := fun b hb => by
        obtain ⟨o, e, _⟩ := T.obj _ _ st2 b hb
        exact (pin' b hb o e).2
      refine seg_at (seg_yield rfl rfl rfl ⟨i, m, y, H4, r4, by omega, g1, fun b hb => (g2 b hb).trans (hs0 b hb), z4, fun m' hm' w' s'' hsl => ?_⟩)
      refine seg_again rfl (ih (i + 1) m' s'' s'' H4 (by omega) w' (g1.woken hAp hsl) n4 (T.keep _ _ _ st4 fun b hb o e => hsl.keep b o (hfpok b hb).2.2.2.2.2 e) fun _ _ => rfl)
theorem seg_gx0 (hA : A.deeper Xg.env = Xg.A) (hAp : ApartG Xg L) (hc : Xg.calm = true) (hsc : Xg.env.scope.isCoroutine = false) (hlen : σ.length + 1 = Xg.N.length) (hx : Xg.N[σ.length]? = some x) (hnd : Xg.N.Nodup) (hxl : Xg.env.scope.names.lookup x = some .local)
    (hfpok : ∀ b ∈ fp, b ≠ Xg.env.locals ∧ b ∉ Xg.fs ∧ b ∈ Xg.ex ∧ (∀ x c, Xg.env.cells.lookup x = some c → c ≠ b) ∧ (∀ p ∈ Xg.pn, p.1 ≠ b) ∧ b ∉ L)
    (hxe : Xg.xe = fun _ _ => False)
    (T : Turn Xg.prog Xg.w Xg.K (.Name x px) J fp it tn) (he : PE Xg elt te)
    (turn : ∀ i m H, W i m H → (J.stop i H ∧ Qe H) ∨ (J.go i H ∧ ∀ v H', J.yld i H v H' → te (σ ++ [some v]) H' fun y H4 => Z i m y H4))
    (n m : Nat) (s₀ s : Shared) (H : Hp) (hm : m < n) (w : W 0 m H) (GI : GInv Xg L (σ ++ [none]) H s) (nfp : ∀ b ∈ fp, H b = none) (st : tn 0 s.heap) (hs0 : ∀ b ∈ L, s.heap.get? b = s₀.heap.get? b) :
      Seg (model Xg.prog Xg.w) A (RG Xg L σ Qe) (YG Xg L σ W Z) n s₀ (.compStart (.GeneratorExp elt [⟨.Name x px, iter, [], 0⟩] scope gpos) 0 (.ref it) .none Xg.env)
        ((model Xg.prog Xg.w).den (.compStart (.GeneratorExp elt [⟨.Name x px, iter, [], 0⟩] scope gpos) 0 (.ref it) .none Xg.env)) [] s := by
  have loop := seg_gx (iter := iter) (scope := scope) (gpos := gpos) hA hAp hc hsc hlen hx hnd hxl hfpok hxe T he turn n 0 m s₀ s H hm w GI nfp st hs0
  show Seg _ A _ _ n s₀ _ ((compStart (.GeneratorExp elt [⟨.Name x px, iter, [], 0⟩] scope gpos) 0 (.ref it) .none Xg.env).onRaise (leaving Xg.env)) [] s
  unfold compStart
  rw [Sem.onRaise_eq_wrap]
  show Seg _ A _ _ n s₀ _ ((ask >>= _).wrap _ _ _ _) [] s
  refine seg_bind_wrap (wpAny_askSetting ?_)
  split
  · exact seg_again rfl loop
  · first
      | exact seg_bind_wrap (wpAny_rule (seg_bind_wrap (wpAny_standAt (seg_bind_wrap (T.self _ 0 _ _ _ st (seg_again rfl loop))))))
      | (refine seg_bind_wrap (wpAny_rule ?_); show Seg _ A _ _ n s₀ _ ((standAt iter.pos >>= _).wrap _ _ _ _) [] s; exact seg_bind_wrap (wpAny_standAt (seg_bind_wrap (T.self _ 0 _ _ _ st (seg_again rfl loop)))))
end
end GX


set_option Elab.async false
set_option linter.all false
set_option maxRecDepth 100000
set_option maxHeartbeats 2000000
/-! the consumers: all, any, sum -/
namespace GX
open PySem PySem.Spec PyProof.Rows L2 GenW GxR

/-- the generator at a, not begun, in the state s5 behind its making; s4: ahead of its frame -/
structure Made (X : Cx) (s4 : Shared) (scope : Scope) (x : Str) (px : Pos) (elt iter : Expr) (gpos : Pos) (it : Addr) (code : Value) (a : Addr) (go : Obj) (g : Nat) (s5 : Shared) : Prop where
  os : s5.os = s4.os
  bare : AllBare s5.gens
  keep : ∀ b o, s4.heap.get? b = some o → s5.heap.get? b = some o
  ns : ∃ m, s5.heap.Ns s4.heap.objs.size m
  at_ : s5.heap.get? a = some go
  gd : ∃ nm qn, go.cls = .type "generator" ∧ go.data = .fields #[.int g 0, nm, qn] ∧ go.slots = #[]
  lt : s4.heap.objs.size < a
  sz : s5.heap.objs.size = a + 1
  gens : s5.gens[g]? = some (.fresh (.compStart (.GeneratorExp elt [⟨.Name x px, iter, [], 0⟩] scope gpos) 0 (.ref it) .none (genEnv scope (cloFrom X.env.cells scope.names []) s4.heap.objs.size code builtinsNs X.env)))
theorem Made.isGen {X : Cx} {s4 : Shared} {scope : Scope} {x : Str} {px : Pos} {elt iter : Expr} {gpos : Pos} {it : Addr} {code : Value} {a : Addr} {go : Obj} {g : Nat} {s5 : Shared} (M : Made X s4 scope x px elt iter gpos it code a go g s5) {h : Heap} (e : h.get? a = some go) : h.IsGen a g := by
  obtain ⟨nm, qn, h1, h2, h3⟩ := M.gd
  exact ⟨go, nm, qn, e, h1, h2, h3⟩

section
variable {X : Cx} {pins : List (Addr × Obj)} {σ : L2.St} {H : Hp} {s : Shared}
/-- the generator expression, evaluated -/
theorem gen_make {c P : Addr} {elt iter : Expr} {x : Str} {px gpos : Pos} {scope : Scope} {wi : TI} {k : Nat} {R : It → Hp → Prop} {Q' : Value → Shared → Prop}
    (hr : Room k X.A) (TB : TabB X.base X.mg c P) (hcode : X.env.code = .ref c) (S : GSc X.N X.env.scope scope x) (hi : PI X (.Name x px) iter wi)
    (hs : ∀ v, genFold iter X.env v = pure v) (I : Inv X pins σ H s) (h : wi σ H fun J H1 => TabG H1 P ∧ ∀ H2, Tabbed P H1 H2 → R J H2)
    (hQ : ∀ (J : It) (H2 : Hp) (s4 : Shared) (it : Addr) (fp : List Addr) (tn : Nat → Heap → Prop) (code : Value) (a : Addr) (go : Obj) (g : Nat) (s5 : Shared), Inv X pins σ H2 s4 → Turn X.prog X.w X.K (.Name x px) J fp it tn → tn 0 s4.heap →
      (∀ b ∈ fp, FpOk X pins H2 b ∧ b < s4.heap.objs.size) → R J H2 → Made X s4 scope x px elt iter gpos it code a go g s5 → Q' (.ref a) s5) :
    wpAny (model X.prog X.w) X.A (eval (.GeneratorExp elt [⟨.Name x px, iter, [], 0⟩] scope gpos) X.env) Q' X.xe s := by
  have hfree : ∀ y ∈ scope.names, y.2 = .free → ∃ c, X.env.cells.lookup y.1 = some c := fun y hy e => by
    rcases S.free y hy e with k | k
    · exact I.ok.has _ (.inl k)
    · exact I.ok.has _ (.inr k)
  refine wpAny_GeneratorExp_make S.co (closure_ok hfree) S.cell S.dot S.kind (by have := hr.dp; omega) ?_ hs
  refine thn (hi.run pins s σ H _ I h) fun v s1 h1 => thn h1 fun itv s2 h2 => ?_
  obtain ⟨it, fp, tn, J, H1, e, I1, T, st1, f1, ⟨ps, hP, ht⟩, q⟩ := h2
  subst e
  have hPs : s2.heap.get? P = some { cls := .none, data := .fields ps } := I1.hok P _ hP
  have cd : PySem.W.CodeHd s2.heap c P := TB.code.keeps I1.bk
  have lt1 : ∀ b ∈ fp, b < s2.heap.objs.size := fun b hb => by
    obtain ⟨o, e, _⟩ := T.obj _ _ st1 b hb
    exact Heap.lt_size e
  have nPf : ∀ b ∈ fp, b ≠ P := fun b hb z => by
    have q := (f1 b hb).1
    rw [z, hP] at q
    cases q
  have cont : ∀ (code : Value) (h3 : Heap) (tk : Nat) (ps' : Array Value), Heap.ExtBut P s2.heap h3 → s2.heap.objs.size ≤ h3.objs.size → h3.get? P = some { cls := .none, data := .fields ps' } → (∃ more, ps' = ps ++ more) → TriplesOk ps'.toList →
      wpAny (model X.prog X.w) X.A (builtinsFor X.env.globals X.env.builtins) (fun bi s₄ =>
        ∀ h', h'.Ns s₄.heap.objs.size (fun y => if y = ".0" then some (.ref it) else none) → Heap.SameBut s₄.heap.objs.size (s₄.heap.push { cls := .type "frame", data := .dict #[] }) h' →
          Q' (.ref h'.objs.size) { s₄ with
            gens := s₄.gens.push (.fresh (.compStart (.GeneratorExp elt [⟨.Name x px, iter, [], 0⟩] scope gpos) 0 (.ref it) .none (genEnv scope (cloFrom X.env.cells scope.names []) s₄.heap.objs.size code bi X.env))),
            toks := s₄.toks + 1 + 1 + 1,
            heap := h'.push { cls := .type "generator", data := .fields #[.int s₄.gens.size 0, .str "<genexpr>" (s₄.toks + 1), .str (X.env.qual ++ "<genexpr>") (s₄.toks + 1 + 1)] } }) X.xe { s2 with heap := h3, toks := tk } := by
    intro code h3 tk ps' hx hsz hP3 hmore ht3
    obtain ⟨bm, ob, e1, e2, e3, e4, e5, e6, e7, e8⟩ := TB.bm
    have keep3 : ∀ b u, b ≠ P → s2.heap.get? b = some u → h3.get? b = some u := fun b u hb e => hx b u hb e
    refine wpAny_builtinsFor (m := X.mg) (by rw [I1.ok.glob]; exact (I1.mod.glob.keeps I1.bk).extBut hx TB.gP) e1 e2 (keep3 _ _ e4 (I1.bk _ _ e5)) e6 e7 e8 ?_
    intro h' hn' hs'
    obtain ⟨more, em⟩ := hmore
    have J4 := inv_tab (more := more) (h' := h3) (g' := s2.gens) (d' := s2.drawn) (t' := tk) I1 hP keep3 (by rw [← em]; exact hP3) I1.bare
    have hH2 : Tabbed P H1 (upd H1 P (.tbl (ps ++ more))) := ⟨⟨ps ++ more, upd_same, by rw [← em]; exact ht3⟩, fun b hb => upd_ne hb⟩
    have sz' : h'.objs.size = h3.objs.size + 1 := by rw [hs'.1, Heap.size_push]
    have keep' : ∀ b o, h3.get? b = some o → h'.get? b = some o := fun b o e => hs'.extBut b o (Nat.ne_of_lt (Heap.lt_size e)) (Heap.get?_push_of_some _ e)
    have fin : ∀ (tk3 : Nat) (go : Obj) (nm qn : Value), go.cls = .type "generator" → go.data = .fields #[.int s2.gens.size 0, nm, qn] → go.slots = #[] → (∀ h : Heap, (h.push go).get? h.objs.size = some go) →
        Q' (.ref h'.objs.size) { ({ s2 with heap := h3, toks := tk } : Shared) with gens := s2.gens.push (.fresh (.compStart (.GeneratorExp elt [⟨.Name x px, iter, [], 0⟩] scope gpos) 0 (.ref it) .none (genEnv scope (cloFrom X.env.cells scope.names []) h3.objs.size code builtinsNs X.env))), toks := tk3, heap := h'.push go } := by
      intro tk3 go nm qn g1 g2 g3 g4
      refine hQ J _ _ it fp tn code h'.objs.size go s2.gens.size _ J4 T (T.keep _ _ _ st1 fun b hb o e => keep3 b o (nPf b hb) e) (fun b hb => ⟨⟨by rw [upd_ne (nPf b hb)]; exact (f1 b hb).1, (f1 b hb).2⟩, Nat.lt_of_lt_of_le (lt1 b hb) hsz⟩) (q _ hH2) ?_
      refine ⟨rfl, I1.bare.push rfl, fun b o e => Heap.get?_push_of_some _ (keep' b o e), ⟨_, hn'.push _⟩, g4 _, ⟨nm, qn, g1, g2, g3⟩, ?_, ?_, Array.getElem?_push_size ..⟩
      · show h3.objs.size < h'.objs.size
        omega
      · show (h'.push go).objs.size = _
        rw [Heap.size_push]
    exact fin _ _ _ _ rfl rfl rfl fun h => Heap.get?_push_size _ rfl
  refine ⟨I1.nolimit, ?_⟩
  cases hf : codeAmong gpos ps.toList with
  | none =>
    refine wpAny_genexprCodeX hcode (cd.code hPs ht) (cd.tab hPs) hf fun c' h' tk hx hge hlt hco' _ htab' _ => ?_
    obtain ⟨o1, vs, f1, tf, fl, tg, inF, tx, tt, op, _, _, _, _, _, _, _, _, _, htr, _⟩ := hco'
    exact cont _ h' tk _ hx (Nat.le_trans hge (Nat.le_of_lt hlt)) htab'.2 ⟨_, rfl⟩ htr
  | some cv =>
    refine wpAny_genexprCode_hit hcode (cd.code hPs ht) hf ?_
    exact cont cv s2.heap s2.toks ps (Heap.ExtBut.refl _ _) (Nat.le_refl _) hPs ⟨#[], by simp⟩ ht

/-- the generator at a is ready to be woken, n + 1 items at most to come -/
def ReadyG (X : Cx) (L : List Addr) (a : Addr) (g : Nat) (R : GenEnd) (Y : Protocol) (n : Nat) (s : Shared) : Prop :=
  s.heap.IsGen a g ∧ s.heap.NoLimit ∧ g + 1 ≤ s.gens.size ∧ ∃ gs, s.gens[g]? = some gs ∧ ∀ s'', SleptG L s s'' → gs.Goes (model X.prog X.w) X.A.in1.in1 R Y (n + 1) (.send .none) s''
theorem setGen_bare {s : Shared} {g : Nat} {gs : GenState} (h : AllBare s.gens) (hb : gs.bare = true) : AllBare (s.setGen g gs).gens := by
  intro x hx
  obtain ⟨i, hi, e0⟩ := Array.mem_iff_getElem.mp hx
  have h1 : (s.setGen g gs).gens[i]? = some x := by rw [Array.getElem?_eq_getElem hi, e0]
  by_cases e : i = g
  · subst e
    have hs : i < s.gens.size := by
      have := hi
      simp only [Shared.setGen, Array.size_setIfInBounds] at this
      exact this
    have h2 := setGen_self (x := gs) (Array.getElem?_eq_getElem hs)
    rw [h2] at h1
    cases h1
    exact hb
  · have h2 : (s.setGen g gs).gens[i]? = s.gens[i]? := by simp [Shared.setGen, Ne.symm e]
    rw [h2] at h1
    obtain ⟨hi', e'⟩ := Array.getElem?_eq_some_iff.mp h1
    rw [← e']
    exact h _ (Array.getElem_mem hi')
/-- one item drawn: the next one, or the end -/
theorem gen_next {L : List Addr} {a : Addr} {g : Nat} {n : Nat} {s4 : Shared} {H2 : Hp} {x : Str} {cenv : Env} {fp : List Addr} {go : Obj} {W : Nat → Nat → Hp → Prop} {Z : Nat → Nat → V → Hp → Prop} {Qe : Hp → Prop} {E : Value → Shared → Prop} {Q : Option Value → Shared → Prop} {k : Nat}
    (hr : Room k X.A) (haL : a ∉ L) (hLy : ∀ b ∈ L, s4.heap.objs.size < b) (hgo : ∀ h : Heap, h.get? a = some go → h.IsGen a g) (hbare : AllBare s.gens) (hL : ∀ b ∈ L, ∃ o, s.heap.get? b = some o ∧ ∀ v, o.data ≠ .cell v)
    (G : ReadyG X L a g (RG (gcx X s4 H2 x cenv fp [(a, go)]) L σ Qe) (YG (gcx X s4 H2 x cenv fp [(a, go)]) L σ W Z) n s)
    (hY : ∀ (i m : Nat) (v : Value) (y : V) (H' : Hp) (s' : Shared), RelV y v → GInv (gcx X s4 H2 x cenv fp [(a, go)]) L (σ ++ [none]) H' s' → (∀ b ∈ L, s'.heap.get? b = s.heap.get? b) → Z i m y H' →
      (∀ m', m' < m → W (i + 1) m' H' → ∃ n', n = n' + 1 ∧ ∀ s'' : Shared, s''.gens = s'.gens → s''.os = s'.os → (∀ b o, b ∉ L → s'.heap.get? b = some o → s''.heap.get? b = some o) →
        ReadyG X L a g (RG (gcx X s4 H2 x cenv fp [(a, go)]) L σ Qe) (YG (gcx X s4 H2 x cenv fp [(a, go)]) L σ W Z) n' s'') → Q (some v) s')
    (hE : ∀ (H' : Hp) (s' : Shared), GInv (gcx X s4 H2 x cenv fp [(a, go)]) L (σ ++ [none]) H' s' → (∀ b ∈ L, s'.heap.get? b = s.heap.get? b) → Qe H' → Q none s') :
    wpAny (model X.prog X.w) X.A.in1 (pyNext (.ref a)) Q E s := by
  obtain ⟨hg, hl, hsz, gs, hgs, hgoes⟩ := G
  have hsl : SleptG L s (s.setGen g .running) := ⟨rfl, setGen_bare hbare rfl, fun _ _ _ e => e, hL⟩
  have gset : ∀ {z : GenState} {s1 : Shared} {H' : Hp}, z.bare = true → GInv (gcx X s4 H2 x cenv fp [(a, go)]) L (σ ++ [none]) H' s1 → GInv (gcx X s4 H2 x cenv fp [(a, go)]) L (σ ++ [none]) H' (s1.setGen g z) := fun {z s1 H'} hz GI => by
    obtain ⟨I, hL1⟩ := GI
    have I' : Inv (gcx X s4 H2 x cenv fp [(a, go)]) (pinsAt L s1.heap) (σ ++ [none]) H' (s1.setGen g z) :=
      ⟨I.ok, I.os, setGen_bare I.bare hz, I.base, I.loc, I.cell, I.free, I.freeC, I.pin, I.hok, I.len⟩
    exact ⟨I', hL1⟩
  refine wpAny_gsz hsz (wpAny_pyNext_genexpQ (P := PG_ (gcx X s4 H2 x cenv fp [(a, go)]) L σ Qe) (show X.A.in1.handled = none from hr.hd) hl (show X.A.in1.depth < recursionLimit from hr.depth) hg hgs (hgoes _ hsl) (fun v s1 gs' hb hv hszz => ?_) (fun s1 hp h' hk hszz => ?_))
  · obtain ⟨i, m, y, H', ry, hm, GI, same, z, kap⟩ := hv
    have hszs : g < s1.gens.size := by
      have := hszz
      rw [setGen_size] at this
      omega
    have eG : (s1.setGen g gs').gens[g]? = some gs' := setGen_self (Array.getElem?_eq_getElem hszs)
    refine hY i m v y H' (s1.setGen g gs') ry (gset hb GI) same z fun m' hm' w' => ?_
    obtain ⟨n', rfl⟩ : ∃ n', n = n' + 1 := ⟨n - 1, by simp at hm; omega⟩
    refine ⟨n', rfl, fun s'' e1 e2 e3 => ?_⟩
    obtain ⟨I, hL1⟩ := gset hb GI
    have pinA := (I.pin (a, go) (List.mem_append_left _ (List.mem_singleton.mpr rfl))).1
    refine ⟨hgo _ (e3 a go haL pinA), ?_, ?_, gs', by rw [e1]; exact eG, fun s3 hs3 => kap m' hm' w' s3 ?_⟩
    · refine I.mod.nolimit.keeps fun b o e => e3 b o (fun hb2 => ?_) (I.bk b o e)
      exact absurd (Nat.lt_of_lt_of_le (Heap.lt_size e) (Nat.le_trans I.ok.bsz (Nat.le_of_lt (hLy b hb2)))) (Nat.lt_irrefl _)
    · rw [e1, setGen_size]
      omega
    · exact ⟨hs3.os.trans e2, hs3.bare, fun b o hb2 e => hs3.keep b o hb2 (e3 b o hb2 e), hs3.own⟩
  · obtain ⟨H', GI, same, qe⟩ := hp
    obtain ⟨I, hL1⟩ := gset (z := .finished) rfl GI
    have I' : Inv (gcx X s4 H2 x cenv fp [(a, go)]) (pinsAt L s1.heap) (σ ++ [none]) H' { s1.setGen g .finished with heap := h' } := I.kept (t' := (s1.setGen g .finished).toks) hk
    obtain ⟨g1, g2⟩ := GInv.of_run ⟨I, hL1⟩ I'
    exact hE H' _ g1 (fun b hb => (g2 b hb).trans (same b hb)) qe
theorem gen_ready {elt iter : Expr} {x : Str} {px gpos : Pos} {scope : Scope} {s4 s5 s6 : Shared} {H2 : Hp} {it : Addr} {fp : List Addr} {tn : Nat → Heap → Prop} {J : It} {code : Value} {a : Addr} {go : Obj} {g : Nat} {te : TE}
    {W : Nat → Nat → Hp → Prop} {Z : Nat → Nat → V → Hp → Prop} {Qe : Hp → Prop} {L : List Addr} {m : Nat}
    (hc : X.calm = true) (S : GSc X.N X.env.scope scope x) (I4 : Inv X pins σ H2 s4) (T : Turn X.prog X.w X.K (.Name x px) J fp it tn) (st : tn 0 s4.heap) (hfp : ∀ b ∈ fp, FpOk X pins H2 b ∧ b < s4.heap.objs.size)
    (M : Made X s4 scope x px elt iter gpos it code a go g s5) (he : PE (gcx X s4 H2 x (genEnv scope (cloFrom X.env.cells scope.names []) s4.heap.objs.size code builtinsNs X.env) fp [(a, go)]) elt te)
    (turn : ∀ i m H, W i m H → (J.stop i H ∧ Qe H) ∨ (J.go i H ∧ ∀ v H', J.yld i H v H' → te (σ ++ [some v]) H' fun y H4 => Z i m y H4)) (w0 : W 0 m H2)
    (os6 : s6.os = s5.os) (g6 : s6.gens = s5.gens) (k6 : ∀ b o, s5.heap.get? b = some o → s6.heap.get? b = some o) (hL : ∀ b ∈ L, a < b) :
    ReadyG X L a g (RG (gcx X s4 H2 x (genEnv scope (cloFrom X.env.cells scope.names []) s4.heap.objs.size code builtinsNs X.env) fp [(a, go)]) L σ Qe)
      (YG (gcx X s4 H2 x (genEnv scope (cloFrom X.env.cells scope.names []) s4.heap.objs.size code builtinsNs X.env) fp [(a, go)]) L σ W Z) m s6 := by
  have hgo : ∀ v, go.data ≠ .cell v := fun v e => by
    obtain ⟨nm, qn, _, h2, _⟩ := M.gd
    rw [h2] at e
    cases e
  have hgsz : g < s6.gens.size := by
    rw [g6]
    rcases Nat.lt_or_ge g s5.gens.size with h' | h'
    · exact h'
    · have := M.gens
      rw [Array.getElem?_eq_none h'] at this
      cases this
  refine ⟨M.isGen (k6 _ _ M.at_), I4.nolimit.keeps fun b o e => k6 _ _ (M.keep _ _ e), hgsz, _, (by rw [g6]; exact M.gens), fun s'' hsl => ?_⟩
  refine And.intro rfl ?_
  have nL : ∀ b o, s4.heap.get? b = some o → b ∉ L := fun b o e hb => absurd (Nat.lt_trans (Heap.lt_size e) (Nat.lt_trans M.lt (hL b hb))) (Nat.lt_irrefl _)
  have aL : a ∉ L := fun hb => absurd (hL a hb) (Nat.lt_irrefl _)
  have cL : s4.heap.objs.size ∉ L := fun hb => absurd (Nat.lt_trans M.lt (hL _ hb)) (Nat.lt_irrefl _)
  have kp : ∀ b o, s4.heap.get? b = some o → s''.heap.get? b = some o := fun b o e => hsl.keep b o (nL b o e) (k6 _ _ (M.keep _ _ e))
  have I7 := gx_start (code := code) (a := a) (go := go) (pl := pinsAt L s''.heap) I4 S hfp (hsl.os.trans (os6.trans M.os)) hsl.bare kp (by
      obtain ⟨mm, hn⟩ := M.ns
      exact ⟨mm, hn.at' fun o e => hsl.keep _ o cL (k6 _ _ e)⟩) (fun p hp => by
      rcases List.mem_append.mp hp with hp | hp
      · rw [List.mem_singleton.mp hp]
        exact ⟨M.lt, hsl.keep _ _ aL (k6 _ _ M.at_), hgo⟩
      · obtain ⟨hb, e⟩ := of_pinsAt hp
        obtain ⟨o, e', d⟩ := hsl.own p.1 hb
        rw [e] at e'
        cases e'
        exact ⟨Nat.lt_trans M.lt (hL _ hb), e, d⟩)
  have ok7 := I7.ok
  have hAp : ApartG (gcx X s4 H2 x (genEnv scope (cloFrom X.env.cells scope.names []) s4.heap.objs.size code builtinsNs X.env) fp [(a, go)]) L := fun b hb => by
    have hlt : s4.heap.objs.size < b := Nat.lt_trans M.lt (hL b hb)
    obtain ⟨o, e, _⟩ := hsl.own b hb
    have q := I7.pin (b, o) (List.mem_append_right _ (mem_pinsAt hb e))
    refine ⟨Nat.le_of_lt hlt, Nat.ne_of_gt hlt, q.2.2.2.1, fun y c e2 z => ?_, fun p hp => ?_⟩
    · obtain ⟨v, oc, ho, hd⟩ := I7.cell y c e2
      have ho' : s''.heap.get? b = some oc := by rw [← z]; exact ho
      rw [e] at ho'
      cases ho'
      exact q.2.2.2.2 v hd
    · rw [List.mem_singleton.mp hp]
      exact Nat.ne_of_lt (hL b hb)
  have hlen : σ.length = X.N.length := I4.len
  refine seg_gx0 (Xg := gcx X s4 H2 x (genEnv scope (cloFrom X.env.cells scope.names []) s4.heap.objs.size code builtinsNs X.env) fp [(a, go)]) (A := X.A.in1.in1) rfl hAp hc S.co (by rw [hlen]; show _ = (X.N ++ [x]).length; simp) (by
      show (X.N ++ [x])[σ.length]? = some x
      rw [List.getElem?_append_right (by omega), hlen, Nat.sub_self]
      rfl) S.nd S.loc (fun b hb => ?_) rfl T he turn (m + 1) m s'' s'' H2 (Nat.lt_succ_self _) w0 ⟨I7, fun b hb => let ⟨o, e, _⟩ := hsl.own b hb; ⟨o, e⟩⟩ (fun b hb => (hfp b hb).1.1) (T.keep _ _ _ st fun b hb o e => kp b o e) fun _ _ => rfl
  obtain ⟨f1, f2⟩ := ok7.exf b hb
  refine ⟨f1, ok7.exfs b hb, hb, f2, fun p hp => ?_, fun hb2 => ?_⟩
  · rw [List.mem_singleton.mp hp]
    exact Nat.ne_of_gt (Nat.lt_trans (hfp b hb).2 M.lt)
  · exact absurd (Nat.lt_trans (hfp b hb).2 (Nat.lt_trans M.lt (hL b hb2))) (Nat.lt_irrefl _)
/-- back in the def's context -/
theorem gen_back {x : Str} {scope : Scope} {s4 s' : Shared} {H2 H' : Hp} {code : Value} {fp : List Addr} {a : Addr} {go : Obj} {L : List Addr} {σ' : L2.St} (I4 : Inv X pins σ H2 s4) (hfp : ∀ b ∈ fp, FpOk X pins H2 b ∧ b < s4.heap.objs.size)
    (G : GInv (gcx X s4 H2 x (genEnv scope (cloFrom X.env.cells scope.names []) s4.heap.objs.size code builtinsNs X.env) fp [(a, go)]) L σ' H' s') : Inv X pins σ H' s' :=
  I4.call' (ch := fp) G.1.os G.1.base G.1.hok G.1.bare fun b hb => ⟨(hfp b hb).1.2.2.2.1, (hfp b hb).1.2.1, (hfp b hb).1.2.2.2.2.1, (hfp b hb).1.2.2.2.2.2⟩

/-! ### all, any -/
def zAll (W : Nat → Nat → Hp → Prop) (Qf : Hp → Prop) : Nat → Nat → V → Hp → Prop := fun i m y H => ∃ b, y = .bl b ∧ if b = true then ∃ m', m' < m ∧ W (i + 1) m' H else Qf H
def zAny (W : Nat → Nat → Hp → Prop) (Qf : Hp → Prop) : Nat → Nat → V → Hp → Prop := fun i m y H => ∃ b, y = .bl b ∧ if b = true then Qf H else ∃ m', m' < m ∧ W (i + 1) m' H
theorem all_loop {a : Addr} {g : Nat} {s4 : Shared} {H2 : Hp} {x : Str} {cenv : Env} {fp : List Addr} {go : Obj} {W : Nat → Nat → Hp → Prop} {Qf Qe : Hp → Prop} {Rr : Result → Shared → Prop} {k : Nat}
    (hr : Room k X.A) (hgo : ∀ h : Heap, h.get? a = some go → h.IsGen a g)
    (hT : ∀ H' s', GInv (gcx X s4 H2 x cenv fp [(a, go)]) [] (σ ++ [none]) H' s' → Qe H' → Rr (.ok (.ret (.bool true))) s') (hF : ∀ H' s', GInv (gcx X s4 H2 x cenv fp [(a, go)]) [] (σ ++ [none]) H' s' → Qf H' → Rr (.ok (.ret (.bool false))) s') :
    ∀ (n : Nat) (s : Shared), AllBare s.gens → ReadyG X [] a g (RG (gcx X s4 H2 x cenv fp [(a, go)]) [] σ Qe) (YG (gcx X s4 H2 x cenv fp [(a, go)]) [] σ W (zAll W Qf)) n s →
      codeAny (model X.prog X.w) X.A (.builtin "all.loop" ⟨[.ref a], []⟩) Rr s := by
  intro n
  induction n using Nat.strongRecOn with
  | ind n ih =>
    intro s hb G
    refine codeAny_builtin F.entry_all_loop ?_
    rw [Around.under_plainId F.plain_all_loop _]
    show wpAny _ X.A.in1 (pyNext (.ref a) >>= _) _ _ s
    refine wpAny_bind (gen_next hr (by simp) (fun b hb => absurd hb (by simp)) hgo hb (fun b hb => absurd hb (by simp)) G (fun i m v y H' s' ry GI _ z again => ?_) fun H' s' GI _ qe => ?_)
    · obtain ⟨b, rfl, z⟩ := z
      cases ry
      refine wpAny_bind (wpAny_holding (wpAny_truthy_bool ?_))
      refine wpAny_bind (wpAny_letGo ?_)
      cases b with
      | true =>
        simp only [if_true] at z ⊢
        obtain ⟨m', hm', w'⟩ := z
        obtain ⟨n', rfl, more⟩ := again m' hm' w'
        exact wpAny_pure ⟨plainId_quiet F.plain_all_loop _, ih n' (Nat.lt_succ_self _) s' GI.1.bare (more s' rfl rfl fun _ _ _ e => e)⟩
      | false =>
        simp only [Bool.false_eq_true, if_false] at z ⊢
        exact wpAny_bind (wpAny_rule (wpAny_pure (hF H' s' GI z)))
    · exact wpAny_bind (wpAny_rule (wpAny_pure (hT H' s' GI qe)))
theorem any_loop {a : Addr} {g : Nat} {s4 : Shared} {H2 : Hp} {x : Str} {cenv : Env} {fp : List Addr} {go : Obj} {W : Nat → Nat → Hp → Prop} {Qf Qe : Hp → Prop} {Rr : Result → Shared → Prop} {k : Nat}
    (hr : Room k X.A) (hgo : ∀ h : Heap, h.get? a = some go → h.IsGen a g)
    (hT : ∀ H' s', GInv (gcx X s4 H2 x cenv fp [(a, go)]) [] (σ ++ [none]) H' s' → Qe H' → Rr (.ok (.ret (.bool false))) s') (hF : ∀ H' s', GInv (gcx X s4 H2 x cenv fp [(a, go)]) [] (σ ++ [none]) H' s' → Qf H' → Rr (.ok (.ret (.bool true))) s') :
    ∀ (n : Nat) (s : Shared), AllBare s.gens → ReadyG X [] a g (RG (gcx X s4 H2 x cenv fp [(a, go)]) [] σ Qe) (YG (gcx X s4 H2 x cenv fp [(a, go)]) [] σ W (zAny W Qf)) n s →
      codeAny (model X.prog X.w) X.A (.builtin "any.loop" ⟨[.ref a], []⟩) Rr s := by
  intro n
  induction n using Nat.strongRecOn with
  | ind n ih =>
    intro s hb G
    refine codeAny_builtin F.entry_any_loop ?_
    rw [Around.under_plainId F.plain_any_loop _]
    show wpAny _ X.A.in1 (pyNext (.ref a) >>= _) _ _ s
    refine wpAny_bind (gen_next hr (by simp) (fun b hb => absurd hb (by simp)) hgo hb (fun b hb => absurd hb (by simp)) G (fun i m v y H' s' ry GI _ z again => ?_) fun H' s' GI _ qe => ?_)
    · obtain ⟨b, rfl, z⟩ := z
      cases ry
      refine wpAny_bind (wpAny_holding (wpAny_truthy_bool ?_))
      refine wpAny_bind (wpAny_letGo ?_)
      cases b with
      | false =>
        simp only [Bool.false_eq_true, if_false] at z ⊢
        obtain ⟨m', hm', w'⟩ := z
        obtain ⟨n', rfl, more⟩ := again m' hm' w'
        exact wpAny_pure ⟨plainId_quiet F.plain_any_loop _, ih n' (Nat.lt_succ_self _) s' GI.1.bare (more s' rfl rfl fun _ _ _ e => e)⟩
      | true =>
        simp only [if_true] at z ⊢
        exact wpAny_bind (wpAny_rule (wpAny_pure (hF H' s' GI z)))
    · exact wpAny_bind (wpAny_rule (wpAny_pure (hT H' s' GI qe)))
/-- all(elt for x in iter): P is the table of the def's code object -/
def tAllG (P : Addr) (wi : TI) (te : TE) : TE := fun σ H Q => wi σ H fun J H1 => TabG H1 P ∧ ∀ H2, Tabbed P H1 H2 → ∃ W : Nat → Nat → Hp → Prop, (∃ m, W 0 m H2) ∧
  ∀ i m H, W i m H → (J.stop i H ∧ Q (.bl true) H) ∨ (J.go i H ∧ ∀ v H', J.yld i H v H' → te (σ ++ [some v]) H' fun y H4 => ∃ b, y = .bl b ∧ if b = true then ∃ m', m' < m ∧ W (i + 1) m' H4 else Q (.bl false) H4)
def tAnyG (P : Addr) (wi : TI) (te : TE) : TE := fun σ H Q => wi σ H fun J H1 => TabG H1 P ∧ ∀ H2, Tabbed P H1 H2 → ∃ W : Nat → Nat → Hp → Prop, (∃ m, W 0 m H2) ∧
  ∀ i m H, W i m H → (J.stop i H ∧ Q (.bl false) H) ∨ (J.go i H ∧ ∀ v H', J.yld i H v H' → te (σ ++ [some v]) H' fun y H4 => ∃ b, y = .bl b ∧ if b = true then Q (.bl true) H4 else ∃ m', m' < m ∧ W (i + 1) m' H4)
/-- sum(elt for x in iter): some number -/
def tSumG (P : Addr) (wi : TI) (te : TE) : TE := fun σ H Q => wi σ H fun J H1 => TabG H1 P ∧ ∀ H2, Tabbed P H1 H2 → ∃ W : Nat → Nat → Hp → Prop, (∃ m, W 0 m H2) ∧
  ∀ i m H, W i m H → (J.stop i H ∧ ∀ t : Int, Q (.int t) H) ∨ (J.go i H ∧ ∀ v H', J.yld i H v H' → te (σ ++ [some v]) H' fun y H4 => ∃ j : Int, y = .int j ∧ ∃ m', m' < m ∧ W (i + 1) m' H4)
end
section
variable {X : Cx}
theorem pe_allG {c P : Addr} {elt iter : Expr} {x : Str} {px p pos gpos : Pos} {scope : Scope} {wi : TI} {te : TE} {k : Nat}
    (hr : Room k X.A) (hc : X.calm = true) (hg : Gl X "all") (hm : X.mg "all" = none) (TB : TabB X.base X.mg c P) (hcode : X.env.code = .ref c) (S : GSc X.N X.env.scope scope x) (hi : PI X (.Name x px) iter wi)
    (hel : ∀ (s : Shared) (H : Hp) (C : Addr) (cl : List (Str × Addr)) (code : Value) (fp : List Addr) (pn : List (Addr × Obj)), PE (gcx X s H x (genEnv scope cl C code builtinsNs X.env) fp pn) elt te)
    (hb : bootBuiltins "all" = some (.builtin "all") := by decide +kernel)
    (hs : ∀ v, genFold iter X.env v = pure v := by intro _; rfl)
    (he : starEach [.GeneratorExp elt [⟨.Name x px, iter, [], 0⟩] scope gpos] X.env = (false, eval (.GeneratorExp elt [⟨.Name x px, iter, [], 0⟩] scope gpos) X.env) :: starEach [] X.env := by rfl) :
    PE X (.Call (.Name "all" p) [.GeneratorExp elt [⟨.Name x px, iter, [], 0⟩] scope gpos] [] pos) (tAllG P wi te) := by
  refine ⟨fun pins s σ H Q I h => ?_⟩
  refine wpAny_Call_Name_kw (ld_blt I hg hm hb ?_)
  refine PyProof.Rows.callWith_builtin1 ?_ he (by rfl)
  rw [he]
  show wpAny _ _ (spliced ((false, eval (.GeneratorExp elt [⟨.Name x px, iter, [], 0⟩] scope gpos) X.env) :: backTo pos (starEach [] X.env))) _ _ s
  refine Calls.spliced_cons (gen_make hr TB hcode S hi hs I h fun J H2 s4 it fp tn code a go g s5 I4 T st hfp ⟨W, ⟨m0, w0⟩, turn⟩ M => ?_)
  refine Calls.spliced_nil ?_
  refine call_function_tree F.kind_all F.plain_all F.entry_all (F.args_all1 _) ?_
  unfold Builtin.«all»
  refine wpAny_bind (m := oneArg "all" _) (wpAny_pure ?_)
  refine wpAny_bind (wpAny_pyIter_gen (M.isGen M.at_) ?_)
  have G := gen_ready (L := []) (Z := zAll W (Q (.bl false))) (Qe := Q (.bl true)) hc S I4 T st hfp M (hel s4 H2 _ _ code fp _) turn w0 rfl rfl (fun _ _ e => e) (fun b hb => absurd hb (by simp))
  exact wpAny_pure ⟨plainId_quiet F.plain_all_loop _, all_loop hr (fun _ e => M.isGen e) (fun H' s' GI q => ⟨.bl true, H', gen_back I4 hfp GI, rfl, q⟩) (fun H' s' GI q => ⟨.bl false, H', gen_back I4 hfp GI, rfl, q⟩) m0 s5 M.bare G⟩
theorem pe_anyG {c P : Addr} {elt iter : Expr} {x : Str} {px p pos gpos : Pos} {scope : Scope} {wi : TI} {te : TE} {k : Nat}
    (hr : Room k X.A) (hc : X.calm = true) (hg : Gl X "any") (hm : X.mg "any" = none) (TB : TabB X.base X.mg c P) (hcode : X.env.code = .ref c) (S : GSc X.N X.env.scope scope x) (hi : PI X (.Name x px) iter wi)
    (hel : ∀ (s : Shared) (H : Hp) (C : Addr) (cl : List (Str × Addr)) (code : Value) (fp : List Addr) (pn : List (Addr × Obj)), PE (gcx X s H x (genEnv scope cl C code builtinsNs X.env) fp pn) elt te)
    (hb : bootBuiltins "any" = some (.builtin "any") := by decide +kernel)
    (hs : ∀ v, genFold iter X.env v = pure v := by intro _; rfl)
    (he : starEach [.GeneratorExp elt [⟨.Name x px, iter, [], 0⟩] scope gpos] X.env = (false, eval (.GeneratorExp elt [⟨.Name x px, iter, [], 0⟩] scope gpos) X.env) :: starEach [] X.env := by rfl) :
    PE X (.Call (.Name "any" p) [.GeneratorExp elt [⟨.Name x px, iter, [], 0⟩] scope gpos] [] pos) (tAnyG P wi te) := by
  refine ⟨fun pins s σ H Q I h => ?_⟩
  refine wpAny_Call_Name_kw (ld_blt I hg hm hb ?_)
  refine PyProof.Rows.callWith_builtin1 ?_ he (by rfl)
  rw [he]
  show wpAny _ _ (spliced ((false, eval (.GeneratorExp elt [⟨.Name x px, iter, [], 0⟩] scope gpos) X.env) :: backTo pos (starEach [] X.env))) _ _ s
  refine Calls.spliced_cons (gen_make hr TB hcode S hi hs I h fun J H2 s4 it fp tn code a go g s5 I4 T st hfp ⟨W, ⟨m0, w0⟩, turn⟩ M => ?_)
  refine Calls.spliced_nil ?_
  refine call_function_tree F.kind_any F.plain_any F.entry_any (F.args_any1 _) ?_
  unfold Builtin.«any»
  refine wpAny_bind (m := oneArg "any" _) (wpAny_pure ?_)
  refine wpAny_bind (wpAny_pyIter_gen (M.isGen M.at_) ?_)
  have G := gen_ready (L := []) (Z := zAny W (Q (.bl true))) (Qe := Q (.bl false)) hc S I4 T st hfp M (hel s4 H2 _ _ code fp _) turn w0 rfl rfl (fun _ _ e => e) (fun b hb => absurd hb (by simp))
  exact wpAny_pure ⟨plainId_quiet F.plain_any_loop _, any_loop hr (fun _ e => M.isGen e) (fun H' s' GI q => ⟨.bl false, H', gen_back I4 hfp GI, rfl, q⟩) (fun H' s' GI q => ⟨.bl true, H', gen_back I4 hfp GI, rfl, q⟩) m0 s5 M.bare G⟩
end
end GX


set_option Elab.async false
set_option linter.all false
set_option maxRecDepth 100000
set_option maxHeartbeats 2000000
/-! sum of a generator expression: some number -/
namespace GX
open PySem PySem.Spec PyProof.Rows L2 GenW GxR
section
variable {X : Cx} {pins : List (Addr × Obj)} {σ : L2.St} {H : Hp} {s : Shared}
def zSum (W : Nat → Nat → Hp → Prop) : Nat → Nat → V → Hp → Prop := fun i m y H => ∃ j : Int, y = .int j ∧ ∃ m', m' < m ∧ W (i + 1) m' H
abbrev sumObj (t : Int) (tA : Tok) (c : Nat) : Obj := { cls := .type "list", dict := none, data := .seq #[.int t tA] c, slots := #[] }
theorem sum_loop {a S : Addr} {g : Nat} {s4 : Shared} {H2 : Hp} {x : Str} {cenv : Env} {fp : List Addr} {go : Obj} {W : Nat → Nat → Hp → Prop} {Qe : Hp → Prop} {Rr : Result → Shared → Prop} {k : Nat}
    (hr : Room k X.A) (hgo : ∀ h : Heap, h.get? a = some go → h.IsGen a g) (haS : a ≠ S) (hSy : s4.heap.objs.size < S)
    (hT : ∀ H' s' t tk, GInv (gcx X s4 H2 x cenv fp [(a, go)]) [S] (σ ++ [none]) H' s' → Qe H' → Rr (.ok (.ret (.int t tk))) s') :
    ∀ (n : Nat) (s : Shared) (t : Int) (tA : Tok) (c : Nat) (st : Int), (st = 0 ∨ st = 2) → s.heap.get? S = some (sumObj t tA c) → AllBare s.gens → ReadyG X [S] a g (RG (gcx X s4 H2 x cenv fp [(a, go)]) [S] σ Qe) (YG (gcx X s4 H2 x cenv fp [(a, go)]) [S] σ W (zSum W)) n s →
      codeAny (model X.prog X.w) X.A (.builtin "sum.loop" ⟨[.ref a, .ref S, rawInt st, rawInt 0], []⟩) Rr s := by
  intro n
  induction n using Nat.strongRecOn with
  | ind n ih =>
    intro s t tA c st hst2 hS hb G
    refine codeAny_builtin F.entry_sum_loop ?_
    rw [Around.under_plainId F.plain_sum_loop _]
    show wpAny _ X.A.in1 (seqItems? (.ref S) >>= _) _ _ s
    refine wpAny_bind (wpAny_seqItems hS rfl ?_)
    show wpAny _ X.A.in1 (tryCatch (pyNext (.ref a)) _ >>= _) _ _ s
    refine wpAny_bind (wpAny_tryCatch (gen_next hr (by simpa using haS) (fun b hb => by rw [List.mem_singleton.mp hb]; exact hSy) hgo hb (fun b hb => ⟨sumObj t tA c, by rw [List.mem_singleton.mp hb]; exact hS, fun v e => by cases e⟩) G (fun i m v y H' s' ry GI same z again => ?_) fun H' s' GI same qe => ?_))
    · obtain ⟨j, rfl, m', hm', w'⟩ := z
      obtain ⟨tj, rfl⟩ := ry
      obtain ⟨n', rfl, more⟩ := again m' hm' w'
      have hS' : s'.heap.get? S = some (sumObj t tA c) := (same S (List.mem_singleton.mpr rfl)).trans hS
      have keepS : ∀ (f : Obj → Obj) (b : Addr) (o : Obj), b ∉ [S] → s'.heap.get? b = some o → (s'.heap.update S f).get? b = some o := fun f b o hb e => (Heap.get?_update_other _ _ (fun h : S = b => hb (List.mem_singleton.mpr h.symm))).trans e
      rcases hst2 with rfl | rfl
      · show wpAny _ X.A.in1 (if (_ : Bool) = true then (mkInt (t + j) >>= _) else _) _ _ _
        split
        · refine wpAny_bind (wpAny_mkInt ?_)
          show wpAny _ X.A.in1 (updateSeq S (fun _ => #[.int (t + j) s'.toks]) >>= _) _ _ _
          refine wpAny_bind ?_
          refine wpAny_updateSeq hS' rfl (wpAny_pure ⟨plainId_quiet F.plain_sum_loop _, ih n' (Nat.lt_succ_self _) _ (t + j) s'.toks _ 0 (.inl rfl) (Heap.get?_update_self _ hS' rfl) GI.1.bare (more _ rfl rfl fun b o hb e => keepS _ b o hb e)⟩)
        · refine wpAny_bind (wpAny_rule ?_)
          refine wpAny_bind (wpAny_attempt (wpAny_holding (wpAny_add_int ?_)))
          show wpAny _ X.A.in1 (updateSeq S (fun _ => #[.int (t + j) s'.toks]) >>= _) _ _ _
          refine wpAny_bind (wpAny_updateSeq hS' rfl ?_)
          have hS₂ := Heap.get?_update_self (Obj.mapSeq fun _ => #[Value.int (t + j) s'.toks]) hS' rfl
          refine wpAny_bind (wpAny_letGo ?_)
          refine wpAny_bind (wpAny_updateSeq hS₂ rfl (wpAny_pure ⟨plainId_quiet F.plain_sum_loop _, ih n' (Nat.lt_succ_self _) _ (t + j) s'.toks _ 2 (.inr rfl) (Heap.get?_update_self _ hS₂ rfl) GI.1.bare (more _ rfl rfl fun b o hb e => ?_)⟩))
          exact (Heap.get?_update_other _ _ (fun h : S = b => hb (List.mem_singleton.mpr h.symm))).trans (keepS _ b o hb e)
      · show wpAny _ X.A.in1 ((holding [Value.int j tj] (binaryOp .Add (.int t tA) (.int j tj))).attempt >>= _) _ _ _
        refine wpAny_bind (wpAny_attempt (wpAny_holding (wpAny_add_int ?_)))
        show wpAny _ X.A.in1 (updateSeq S (fun _ => #[.int (t + j) s'.toks]) >>= _) _ _ _
        refine wpAny_bind (wpAny_updateSeq hS' rfl ?_)
        have hS₂ := Heap.get?_update_self (Obj.mapSeq fun _ => #[Value.int (t + j) s'.toks]) hS' rfl
        refine wpAny_bind (wpAny_letGo ?_)
        refine wpAny_bind (wpAny_updateSeq hS₂ rfl (wpAny_pure ⟨plainId_quiet F.plain_sum_loop _, ih n' (Nat.lt_succ_self _) _ (t + j) s'.toks _ 2 (.inr rfl) (Heap.get?_update_self _ hS₂ rfl) GI.1.bare (more _ rfl rfl fun b o hb e => ?_)⟩))
        exact (Heap.get?_update_other _ _ (fun h : S = b => hb (List.mem_singleton.mpr h.symm))).trans (keepS _ b o hb e)
    · exact wpAny_pure (hT H' s' t tA GI qe)
end
section
variable {X : Cx}
theorem pe_sumG {c P : Addr} {elt iter : Expr} {x : Str} {px p pos gpos : Pos} {scope : Scope} {wi : TI} {te : TE} {k : Nat}
    (hr : Room k X.A) (hc : X.calm = true) (hg : Gl X "sum") (hm : X.mg "sum" = none) (TB : TabB X.base X.mg c P) (hcode : X.env.code = .ref c) (S : GSc X.N X.env.scope scope x) (hi : PI X (.Name x px) iter wi)
    (hel : ∀ (s : Shared) (H : Hp) (C : Addr) (cl : List (Str × Addr)) (code : Value) (fp : List Addr) (pn : List (Addr × Obj)), PE (gcx X s H x (genEnv scope cl C code builtinsNs X.env) fp pn) elt te)
    (hb : bootBuiltins "sum" = some (.builtin "sum") := by decide +kernel)
    (hs : ∀ v, genFold iter X.env v = pure v := by intro _; rfl)
    (he : starEach [.GeneratorExp elt [⟨.Name x px, iter, [], 0⟩] scope gpos] X.env = (false, eval (.GeneratorExp elt [⟨.Name x px, iter, [], 0⟩] scope gpos) X.env) :: starEach [] X.env := by rfl) :
    PE X (.Call (.Name "sum" p) [.GeneratorExp elt [⟨.Name x px, iter, [], 0⟩] scope gpos] [] pos) (tSumG P wi te) := by
  refine ⟨fun pins s σ H Q I h => ?_⟩
  refine wpAny_Call_Name_kw (ld_blt I hg hm hb ?_)
  refine PyProof.Rows.callWith_builtin1 ?_ he (by rfl)
  rw [he]
  show wpAny _ _ (spliced ((false, eval (.GeneratorExp elt [⟨.Name x px, iter, [], 0⟩] scope gpos) X.env) :: backTo pos (starEach [] X.env))) _ _ s
  refine Calls.spliced_cons (gen_make hr TB hcode S hi hs I h fun J H2 s4 it fp tn code a go g s5 I4 T st hfp ⟨W, ⟨m0, w0⟩, turn⟩ M => ?_)
  refine Calls.spliced_nil ?_
  refine call_function_tree F.kind_sum F.plain_sum F.entry_sum (F.args_sum1 _) ?_
  unfold Builtin.«sum»
  simp only [List.length_cons, List.length_nil]
  rw [if_neg (by decide)]
  refine wpAny_bind (wpAny_of_eq (show Builtin.Builtins.bindParams "sum" ["start"] 0 { } = pure [none] from rfl) ?_)
  refine wpAny_bind (wpAny_pyIter_gen (M.isGen M.at_) ?_)
  refine wpAny_bind (wpAny_mkInt ?_)
  refine wpAny_bind (wpAny_pure ?_)
  simp only [List.forIn_cons, List.forIn_nil]
  refine wpAny_bind (wpAny_bind (wpAny_bind (wpAny_isInstance (T := "int") (b := false) (typeIs_int _ _ _) PySem.sub_int_str ?_)))
  simp only [Bool.false_eq_true, if_false]
  refine wpAny_pure (wpAny_bind (wpAny_bind (wpAny_isInstance (T := "int") (b := false) (typeIs_int _ _ _) PySem.sub_int_bytes ?_)))
  simp only [Bool.false_eq_true, if_false]
  refine wpAny_pure (wpAny_bind (wpAny_bind (wpAny_isInstance (T := "int") (b := false) (typeIs_int _ _ _) PySem.sub_int_bytearray ?_)))
  simp only [Bool.false_eq_true, if_false]
  refine wpAny_pure (wpAny_pure ?_)
  refine wpAny_bind (wpAny_newObj_type ?_)
  have hS : s5.heap.objs.size = a + 1 := M.sz
  have G := gen_ready (L := [s5.heap.objs.size]) (Z := zSum W) (Qe := fun H' => ∀ t : Int, Q (.int t) H') (s6 := { s5 with heap := s5.heap.push { cls := .type "list", data := .seq #[Value.int 0 s5.toks] }, toks := s5.toks + 1 }) hc S I4 T st hfp M (hel s4 H2 _ _ code fp _) turn w0 rfl rfl (fun _ _ e => Heap.get?_push_of_some _ e) (fun b hb => by rw [List.mem_singleton.mp hb, hS]; exact Nat.lt_succ_self _)
  exact wpAny_pure ⟨plainId_quiet F.plain_sum_loop _, sum_loop hr (fun _ e => M.isGen e) (by rw [hS]; exact Nat.ne_of_lt (Nat.lt_succ_self _)) (by rw [hS]; exact Nat.lt_succ_of_lt M.lt) (fun H' s' t tk GI q => ⟨.int t, H', gen_back I4 hfp GI, ⟨tk, rfl⟩, q t⟩) m0 _ 0 s5.toks _ 0 (.inl rfl) (Heap.get?_push_size _ rfl) M.bare G⟩
end
end GX


set_option Elab.async false
set_option linter.all false
set_option maxRecDepth 100000
set_option maxHeartbeats 2000000
/-! the text by places; what is kept; the mirror -/
namespace K15
open PySem PySem.Spec PyProof.Rows L2 GxR
def top (i : Nat) : Stmt := PySem.Challenge.pw_twoways_k15_whole_meaning_of_sentences.main.body.getD i (.Pass ⟨0, 0, 0, 0⟩)
abbrev sParts : Stmt := top 1
abbrev sSize : Stmt := top 2
abbrev sAll : Stmt := top 3
abbrev sInit : Stmt := inClass (top 4) 0
abbrev sAt : Stmt := inClass (top 4) 1
abbrev sSo : Stmt := inClass (top 4) 2
abbrev sHolds : Stmt := top 5
abbrev sDraws : Stmt := top 7
abbrev sBox : Stmt := top 8
abbrev sNext : Stmt := top 9
abbrev sPlace : Stmt := top 10
abbrev sText : Stmt := top 11
abbrev sSent : Stmt := top 12
abbrev sLAt : Stmt := top 13
abbrev sSub : Stmt := top 14
abbrev sLHolds : Stmt := top 15
abbrev sPair : Stmt := top 16
abbrev sLaw : Stmt := top 17

/-- a def whose code object is known -/
theorem okT {P : Program} {w : World} {K : PySem.W.Frag} {mg : Str → Option Value} {base : Heap} {x qual : Str} {st : Stmt} {f c : Addr} {fd : FuncData} {N ps : List Str} {k : Nat} {sp : Sp} (F : Fun K x qual st f fd) (hc : fd.code = .ref c) (S : FnScope N ps (defScope st)) (len : ∀ vs H Q E, sp vs H Q E → vs.length = ps.length)
    (hbody : ∀ (A : Around) (outer : List Env) (s : Shared) (H : Hp) (vs : List V) (Q : VK) (E : XK), Room k (A.deeper (envOfC qual (defScope st) s.heap.objs.size f (.ref c))) → sp vs H Q E →
      ∃ t, PSs (cxOf CX0 P w K mg base N qual (defScope st) f (.ref c) A outer s H E).nox (defBody st) t ∧ t { nx := fun _ H' => Q .non H', rt := Q } (start N vs) H) : FnOk P w K mg base CX0 (k + 1) f fd ps sp := by
  obtain ⟨oc, od, kV, doc, pm, an, cdv, ct, osl, rfl, lk, hcd⟩ := F.ex
  have hc' : cdv = .ref c := hc
  subst hc'
  refine fn_of lk hcd S len fun A outer s H vs Q E hr hsp => ?_
  obtain ⟨t, h, q⟩ := hbody A outer s H vs Q E hr hsp
  exact ⟨t, h.nox, q⟩

/-! ### what is kept -/
def Tbs (T : List Addr) (H : Hp) : Prop := ∀ P ∈ T, TabG H P
def nT : HO → Bool
  | .tbl _ => false
  | _ => true
def nD : HO → Bool
  | .tbl _ => false
  | .dK _ => false
  | _ => true
theorem nT_of : ∀ {o : HO}, nD o = true → nT o = true := fun {o} h => by cases o <;> first | rfl | exact h
/-- all but the objects at X is kept; the tables at T stay tables; nothing is freed -/
structure Ext (T X : List Addr) (H H' : Hp) : Prop where
  keep : ∀ b o, b ∉ X → H b = some o → nT o = true → H' b = some o
  tbs : Tbs T H → Tbs T H'
  free : ∀ b, H' b = none → H b = none
section
variable {T X : List Addr} {H H1 H2 : Hp}
theorem Ext.refl (H : Hp) : Ext T X H H := ⟨fun _ _ _ e _ => e, fun h => h, fun _ h => h⟩
theorem Ext.trans (a : Ext T X H H1) (b : Ext T X H1 H2) : Ext T X H H2 :=
  ⟨fun c o hx e n => b.keep c o hx (a.keep c o hx e n) n, fun h => b.tbs (a.tbs h), fun c h => a.free c (b.free c h)⟩
theorem Ext.mono {X' : List Addr} (a : Ext T X H H1) (h : ∀ b ∈ X, b ∈ X') : Ext T X' H H1 := ⟨fun c o hx e n => a.keep c o (fun z => hx (h c z)) e n, a.tbs, a.free⟩
theorem Ext.nil (a : Ext T [] H H1) : Ext T X H H1 := a.mono fun _ h => absurd h (by simp)
theorem tabG_same {P : Addr} (e : Same H H1) (h : TabG H P) : TabG H1 P := let ⟨ps, a, b⟩ := h; ⟨ps, e _ _ a, b⟩
theorem Ext.of (e : Same H H1) : Ext T X H H1 := ⟨fun c o _ h _ => e c o h, fun h P hP => tabG_same e (h P hP), fun c h => e.free h⟩
theorem same_new {p : Addr} (h : H p = none) (o : HO) : Same H (upd H p o) := fun b u q => by rw [upd_ne (ne_of_none q h)]; exact q
theorem Ext.new {p : Addr} (h : H p = none) (o : HO) : Ext T X H (upd H p o) := .of (same_new h o)
/-- an object that was not there at H is written (again) -/
theorem Ext.put {l : Addr} (a : Ext T X H H1) (h0 : H l = none) (o : HO) : Ext T X H (upd H1 l o) :=
  ⟨fun c u hx e n => by rw [upd_ne (ne_of_none e h0)]; exact a.keep c u hx e n, fun h P hP => by
    obtain ⟨ps, e, t⟩ := a.tbs h P hP
    obtain ⟨ps0, e0, _⟩ := h P hP
    exact ⟨ps, by rw [upd_ne (ne_of_none e0 h0)]; exact e, t⟩, fun c h => by
    by_cases hc : c = l
    · rw [hc]; exact h0
    · rw [upd_ne hc] at h; exact a.free c h⟩
/-- the object at an excepted address is written -/
theorem Ext.wr {l : Addr} (a : Ext T X H H1) (hl : l ∈ X) {u : HO} (hu : H1 l = some u) (hn : nT u = true) (o : HO) : Ext T X H (upd H1 l o) :=
  ⟨fun c v hx e n => by
    have ne : c ≠ l := fun z => hx (by rw [z]; exact hl)
    rw [upd_ne ne]; exact a.keep c v hx e n, fun h P hP => by
    obtain ⟨ps, e, t⟩ := a.tbs h P hP
    have ne : P ≠ l := fun z => by rw [z, hu] at e; cases e; cases hn
    exact ⟨ps, by rw [upd_ne ne]; exact e, t⟩, fun c h => by
    by_cases hc : c = l
    · rw [hc, upd_same] at h; cases h
    · rw [upd_ne hc] at h; exact a.free c h⟩
theorem Ext.tab {P : Addr} (h0 : TabG H P) (h : Tabbed P H H1) : Ext T X H H1 := by
  obtain ⟨⟨ps, e, t⟩, k⟩ := h
  obtain ⟨ps0, e0, _⟩ := h0
  refine ⟨fun c o _ ho n => ?_, fun hT Q hQ => ?_, fun c hc => ?_⟩
  · by_cases hb : c = P
    · rw [hb, e0] at ho
      cases ho
      cases n
    · rw [k c hb]; exact ho
  · by_cases hb : Q = P
    · rw [hb]; exact ⟨ps, e, t⟩
    · obtain ⟨ps', e', t'⟩ := hT Q hQ
      exact ⟨ps', by rw [k Q hb]; exact e', t'⟩
  · by_cases hb : c = P
    · rw [hb, e] at hc; cases hc
    · rw [← k c hb]; exact hc
theorem Ext.k (e : Ext T [] H H1) {b : Addr} {o : HO} (h : H b = some o) (n : nT o = true := by rfl) : H1 b = some o := e.keep b o (by simp) h n
theorem Ext.sqL {K : PySem.W.Frag} {a : Addr} {xs : List V} (e : Ext T [] H H1) (h : SqL K H a xs) : SqL K H1 a xs := by
  rcases h with (h | ⟨o, h⟩) | h
  · exact .inl (.inl (e.k h))
  · exact .inl (.inr ⟨o, e.k h⟩)
  · exact .inr h
theorem Ext.sqT {K : PySem.W.Frag} {a : Addr} {xs : List V} (e : Ext T [] H H1) (h : SqT K H a xs) : SqT K H1 a xs := by
  rcases h with (h | ⟨o, h⟩) | h
  · exact .inl (.inl (e.k h))
  · exact .inl (.inr ⟨o, e.k h⟩)
  · exact .inr h
/-- but for a dict at bx -/
theorem Ext.kB {bx : Addr} (e : Ext T [bx] H H1) (B : ∃ kvs, H bx = some (.dK kvs)) {b : Addr} {o : HO} (h : H b = some o) (n : nD o = true := by rfl) : H1 b = some o := by
  refine e.keep b o (fun z => ?_) h (nT_of n)
  obtain ⟨kvs, q⟩ := B
  rw [List.mem_singleton.mp z, q] at h
  cases h
  cases n
theorem Ext.sqLB {K : PySem.W.Frag} {bx a : Addr} {xs : List V} (e : Ext T [bx] H H1) (B : ∃ kvs, H bx = some (.dK kvs)) (h : SqL K H a xs) : SqL K H1 a xs := by
  rcases h with (h | ⟨o, h⟩) | h
  · exact .inl (.inl (e.kB B h))
  · exact .inl (.inr ⟨o, e.kB B h⟩)
  · exact .inr h
end

/-! ### sentences, sets: the mirror -/
abbrev Ln := Str × List Int
def lnV (l : Ln) : List V := .str l.1 :: l.2.map V.int
def isP (x : Str) : Bool := decide (x = "set") || decide (x = "letter") || decide (x = "not") || decide (x = "and")
def isPl (ls : List Ln) (c : Nat) : Prop := ∃ l, ls[c]? = some l ∧ isP l.1 = true
def isTx (ls : List Ln) (c : Nat) : Prop := ∃ l, ls[c]? = some l ∧ isP l.1 = false
inductive PLine (ls : List Ln) (n : Nat) : Ln → Prop
  | set (i : Nat) : PLine ls n ("set", [(i : Int)])
  | letter (a : Int) : PLine ls n ("letter", [a])
  | not (c : Nat) (h : c < n) (p : isPl ls c) : PLine ls n ("not", [(c : Int)])
  | and (c d : Nat) (h : c < n) (p : isPl ls c) (h' : d < n) (p' : isPl ls d) : PLine ls n ("and", [(c : Int), (d : Int)])
inductive TLine (ls : List Ln) (n : Nat) : Ln → Prop
  | all (c : Nat) (h : c < n) (p : isPl ls c) : TLine ls n ("all", [(c : Int)])
  | next (c d : Nat) (h : c < n) (p : isPl ls c) (h' : d < n) (p' : isPl ls d) : TLine ls n ("next", [(c : Int), (d : Int)])
  | first (c : Nat) (h : c < n) (p : isPl ls c) : TLine ls n ("first", [(c : Int)])
  | last (c : Nat) (h : c < n) (p : isPl ls c) : TLine ls n ("last", [(c : Int)])
  | nothing : TLine ls n ("nothing", [])
  | one (i : Nat) : TLine ls n ("one", [(i : Int)])
  | denied (f : Nat) (h : f < n) (p : isTx ls f) : TLine ls n ("denied", [(f : Int)])
  | both (f g : Nat) (h : f < n) (p : isTx ls f) (h' : g < n) (p' : isTx ls g) : TLine ls n ("both", [(f : Int), (g : Int)])
  | there (f : Nat) (h : f < n) (p : isTx ls f) : TLine ls n ("there", [(f : Int)])
/-- each line is of its kind and names lines ahead of it -/
def Valid (ls : List Ln) : Prop := ∀ n l, ls[n]? = some l → (isP l.1 = true ∧ PLine ls n l) ∨ (isP l.1 = false ∧ TLine ls n l)
theorem Valid.pl {ls : List Ln} (v : Valid ls) {c : Nat} (h : isPl ls c) : ∃ l, ls[c]? = some l ∧ PLine ls c l := by
  obtain ⟨l, e, p⟩ := h
  rcases v c l e with ⟨_, q⟩ | ⟨q, _⟩
  · exact ⟨l, e, q⟩
  · rw [p] at q; cases q
theorem Valid.tx {ls : List Ln} (v : Valid ls) {c : Nat} (h : isTx ls c) : ∃ l, ls[c]? = some l ∧ TLine ls c l := by
  obtain ⟨l, e, p⟩ := h
  rcases v c l e with ⟨q, _⟩ | ⟨_, q⟩
  · rw [p] at q; cases q
  · exact ⟨l, e, q⟩
theorem get_app {α : Type} {xs ys : List α} {i : Nat} {x : α} (h : xs[i]? = some x) : (xs ++ ys)[i]? = some x := by
  rw [List.getElem?_append_left (List.getElem?_eq_some_iff.mp h).1]; exact h
theorem isPl.app {ls ms : List Ln} {c : Nat} (h : isPl ls c) : isPl (ls ++ ms) c := let ⟨l, e, p⟩ := h; ⟨l, get_app e, p⟩
theorem isTx.app {ls ms : List Ln} {c : Nat} (h : isTx ls c) : isTx (ls ++ ms) c := let ⟨l, e, p⟩ := h; ⟨l, get_app e, p⟩
theorem isPl.lt {ls : List Ln} {c : Nat} (h : isPl ls c) : c < ls.length := let ⟨_, e, _⟩ := h; (List.getElem?_eq_some_iff.mp e).1
theorem isTx.lt {ls : List Ln} {c : Nat} (h : isTx ls c) : c < ls.length := let ⟨_, e, _⟩ := h; (List.getElem?_eq_some_iff.mp e).1
theorem PLine.app {ls ms : List Ln} {n : Nat} {l : Ln} (h : PLine ls n l) : PLine (ls ++ ms) n l := by
  cases h with
  | set i => exact .set i
  | letter a => exact .letter a
  | not c h p => exact .not c h p.app
  | and c d h p h' p' => exact .and c d h p.app h' p'.app
theorem TLine.app {ls ms : List Ln} {n : Nat} {l : Ln} (h : TLine ls n l) : TLine (ls ++ ms) n l := by
  cases h with
  | all c h p => exact .all c h p.app
  | next c d h p h' p' => exact .next c d h p.app h' p'.app
  | first c h p => exact .first c h p.app
  | last c h p => exact .last c h p.app
  | nothing => exact .nothing
  | one i => exact .one i
  | denied f h p => exact .denied f h p.app
  | both f g h p h' p' => exact .both f g h p.app h' p'.app
  | there f h p => exact .there f h p.app
theorem PLine.isP {ls : List Ln} {n : Nat} {l : Ln} (h : PLine ls n l) : K15.isP l.1 = true := by
  cases h <;> (dsimp only; decide +kernel)
theorem TLine.isP {ls : List Ln} {n : Nat} {l : Ln} (h : TLine ls n l) : K15.isP l.1 = false := by
  cases h <;> (dsimp only; decide +kernel)
theorem Valid.nil : Valid [] := fun n l h => by simp at h
theorem Valid.snoc {ls : List Ln} {l : Ln} (v : Valid ls) (h : PLine ls ls.length l ∨ TLine ls ls.length l) : Valid (ls ++ [l]) := fun n x e => by
  by_cases hn : n < ls.length
  · rw [List.getElem?_append_left hn] at e
    rcases v n x e with ⟨a, b⟩ | ⟨a, b⟩
    · exact .inl ⟨a, b.app⟩
    · exact .inr ⟨a, b.app⟩
  · have hn' : n = ls.length := by
      have := (List.getElem?_eq_some_iff.mp e).1
      rw [List.length_append, List.length_singleton] at this
      omega
    subst hn'
    rw [List.getElem?_append_right (Nat.le_refl _), Nat.sub_self] at e
    have e' : l = x := by simpa using e
    subst e'
    rcases h with h | h
    · exact .inl ⟨h.isP, h.app⟩
    · exact .inr ⟨h.isP, h.app⟩

def atM (ls : List Ln) (row : List Int) (ss : List (List Int)) (p : Nat) (n : Nat) : Bool :=
  match ls[n]? with
  | none => false
  | some (x, as) =>
    if x = "set" then decide (as.getD 0 0 < (ss.length : Int)) && decide ((p : Int) ∈ ss.getD (as.getD 0 0).toNat [])
    else if x = "letter" then decide (row.getD p 0 = as.getD 0 0)
    else if x = "not" then !(if h : (as.getD 0 0).toNat < n then atM ls row ss p (as.getD 0 0).toNat else false)
    else (if h : (as.getD 0 0).toNat < n then atM ls row ss p (as.getD 0 0).toNat else false) && (if h : (as.getD 1 0).toNat < n then atM ls row ss p (as.getD 1 0).toNat else false)
termination_by n
/-- the set of the places whose bit stands in the code -/
def subs (code n : Nat) : List Int := ((List.range n).filter fun p => decide ((code / 2 ^ p) % 2 = 1)).map fun (p : Nat) => (p : Int)
def soM (ls : List Ln) (row : List Int) (n : Nat) (ss : List (List Int)) : Bool :=
  match ls[n]? with
  | none => false
  | some (x, as) =>
    if x = "all" then (List.range row.length).all fun p => atM ls row ss p (as.getD 0 0).toNat
    else if x = "next" then (List.range (row.length - 1)).all fun p => !(atM ls row ss p (as.getD 0 0).toNat) || atM ls row ss (p + 1) (as.getD 1 0).toNat
    else if x = "first" then decide (row.length = 0) || atM ls row ss 0 (as.getD 0 0).toNat
    else if x = "last" then decide (row.length = 0) || atM ls row ss (row.length - 1) (as.getD 0 0).toNat
    else if x = "nothing" then decide (row.length = 0)
    else if x = "one" then decide (as.getD 0 0 < (ss.length : Int)) && decide ((ss.getD (as.getD 0 0).toNat []).length = 1)
    else if x = "denied" then !(if h : (as.getD 0 0).toNat < n then soM ls row (as.getD 0 0).toNat ss else false)
    else if x = "both" then (if h : (as.getD 0 0).toNat < n then soM ls row (as.getD 0 0).toNat ss else false) && (if h : (as.getD 1 0).toNat < n then soM ls row (as.getD 1 0).toNat ss else false)
    else (List.range (2 ^ row.length)).any fun c => if h : (as.getD 0 0).toNat < n then soM ls row (as.getD 0 0).toNat (ss ++ [subs c row.length]) else false
termination_by n
section
variable {ls : List Ln} {row : List Int} {ss : List (List Int)} {p n : Nat}
theorem at_set {i : Nat} (h : ls[n]? = some (("set" : Str), [(i : Int)])) : atM ls row ss p n = (decide ((i : Int) < (ss.length : Int)) && decide ((p : Int) ∈ ss.getD i [])) := by
  rw [atM, h]
  simp
theorem at_letter {a : Int} (h : ls[n]? = some (("letter" : Str), [a])) : atM ls row ss p n = decide (row.getD p 0 = a) := by
  rw [atM, h]
  have e : ¬ (("letter" : Str) = "set") := by decide +kernel
  simp [e]
theorem at_not {c : Nat} (h : ls[n]? = some (("not" : Str), [(c : Int)])) (hc : c < n) : atM ls row ss p n = !atM ls row ss p c := by
  rw [atM, h]
  have e : ¬ (("not" : Str) = "set") := by decide +kernel
  have e2 : ¬ (("not" : Str) = "letter") := by decide +kernel
  simp [e, e2, hc]
theorem at_and {c d : Nat} (h : ls[n]? = some (("and" : Str), [(c : Int), (d : Int)])) (hc : c < n) (hd : d < n) : atM ls row ss p n = (atM ls row ss p c && atM ls row ss p d) := by
  rw [atM, h]
  have e : ¬ (("and" : Str) = "set") := by decide +kernel
  have e2 : ¬ (("and" : Str) = "letter") := by decide +kernel
  have e3 : ¬ (("and" : Str) = "not") := by decide +kernel
  simp [e, e2, e3, hc, hd]
theorem so_all {c : Nat} (h : ls[n]? = some (("all" : Str), [(c : Int)])) : soM ls row n ss = (List.range row.length).all fun p => atM ls row ss p c := by
  rw [soM, h]
  simp
theorem so_next {c d : Nat} (h : ls[n]? = some (("next" : Str), [(c : Int), (d : Int)])) : soM ls row n ss = (List.range (row.length - 1)).all fun p => !(atM ls row ss p c) || atM ls row ss (p + 1) d := by
  rw [soM, h]
  have e : ¬ (("next" : Str) = "all") := by decide +kernel
  simp only [e, if_false, if_true]
  simp
theorem so_first {c : Nat} (h : ls[n]? = some (("first" : Str), [(c : Int)])) : soM ls row n ss = (decide (row.length = 0) || atM ls row ss 0 c) := by
  rw [soM, h]
  have e : ¬ (("first" : Str) = "all") := by decide +kernel
  have e2 : ¬ (("first" : Str) = "next") := by decide +kernel
  simp only [e, e2, if_false, if_true]
  simp
theorem so_last {c : Nat} (h : ls[n]? = some (("last" : Str), [(c : Int)])) : soM ls row n ss = (decide (row.length = 0) || atM ls row ss (row.length - 1) c) := by
  rw [soM, h]
  have e : ¬ (("last" : Str) = "all") := by decide +kernel
  have e2 : ¬ (("last" : Str) = "next") := by decide +kernel
  have e3 : ¬ (("last" : Str) = "first") := by decide +kernel
  simp only [e, e2, e3, if_false, if_true]
  simp
theorem so_nothing (h : ls[n]? = some (("nothing" : Str), [])) : soM ls row n ss = decide (row.length = 0) := by
  rw [soM, h]
  have e : ¬ (("nothing" : Str) = "all") := by decide +kernel
  have e2 : ¬ (("nothing" : Str) = "next") := by decide +kernel
  have e3 : ¬ (("nothing" : Str) = "first") := by decide +kernel
  have e4 : ¬ (("nothing" : Str) = "last") := by decide +kernel
  simp only [e, e2, e3, e4, if_false, if_true]
theorem so_one {i : Nat} (h : ls[n]? = some (("one" : Str), [(i : Int)])) : soM ls row n ss = (decide ((i : Int) < (ss.length : Int)) && decide ((ss.getD i []).length = 1)) := by
  rw [soM, h]
  have e : ¬ (("one" : Str) = "all") := by decide +kernel
  have e2 : ¬ (("one" : Str) = "next") := by decide +kernel
  have e3 : ¬ (("one" : Str) = "first") := by decide +kernel
  have e4 : ¬ (("one" : Str) = "last") := by decide +kernel
  have e5 : ¬ (("one" : Str) = "nothing") := by decide +kernel
  simp only [e, e2, e3, e4, e5, if_false, if_true]
  simp
theorem so_denied {f : Nat} (h : ls[n]? = some (("denied" : Str), [(f : Int)])) (hf : f < n) : soM ls row n ss = !soM ls row f ss := by
  rw [soM, h]
  have e : ¬ (("denied" : Str) = "all") := by decide +kernel
  have e2 : ¬ (("denied" : Str) = "next") := by decide +kernel
  have e3 : ¬ (("denied" : Str) = "first") := by decide +kernel
  have e4 : ¬ (("denied" : Str) = "last") := by decide +kernel
  have e5 : ¬ (("denied" : Str) = "nothing") := by decide +kernel
  have e6 : ¬ (("denied" : Str) = "one") := by decide +kernel
  simp only [e, e2, e3, e4, e5, e6, if_false, if_true]
  simp [hf]
theorem so_both {f g : Nat} (h : ls[n]? = some (("both" : Str), [(f : Int), (g : Int)])) (hf : f < n) (hg : g < n) : soM ls row n ss = (soM ls row f ss && soM ls row g ss) := by
  rw [soM, h]
  have e : ¬ (("both" : Str) = "all") := by decide +kernel
  have e2 : ¬ (("both" : Str) = "next") := by decide +kernel
  have e3 : ¬ (("both" : Str) = "first") := by decide +kernel
  have e4 : ¬ (("both" : Str) = "last") := by decide +kernel
  have e5 : ¬ (("both" : Str) = "nothing") := by decide +kernel
  have e6 : ¬ (("both" : Str) = "one") := by decide +kernel
  have e7 : ¬ (("both" : Str) = "denied") := by decide +kernel
  simp only [e, e2, e3, e4, e5, e6, e7, if_false, if_true]
  simp [hf, hg]
theorem so_there {f : Nat} (h : ls[n]? = some (("there" : Str), [(f : Int)])) (hf : f < n) : soM ls row n ss = (List.range (2 ^ row.length)).any fun c => soM ls row f (ss ++ [subs c row.length]) := by
  rw [soM, h]
  have e : ¬ (("there" : Str) = "all") := by decide +kernel
  have e2 : ¬ (("there" : Str) = "next") := by decide +kernel
  have e3 : ¬ (("there" : Str) = "first") := by decide +kernel
  have e4 : ¬ (("there" : Str) = "last") := by decide +kernel
  have e5 : ¬ (("there" : Str) = "nothing") := by decide +kernel
  have e6 : ¬ (("there" : Str) = "one") := by decide +kernel
  have e7 : ¬ (("there" : Str) = "denied") := by decide +kernel
  have e8 : ¬ (("there" : Str) = "both") := by decide +kernel
  simp only [e, e2, e3, e4, e5, e6, e7, e8, if_false]
  simp [hf]
end
/-! ### all the sets, in their order -/
theorem subs_low {c p : Nat} (h : c < 2 ^ p) : subs c (p + 1) = subs c p := by
  unfold subs
  rw [List.range_succ, List.filter_append]
  have e : c / 2 ^ p = 0 := Nat.div_eq_of_lt h
  simp [e]
theorem subs_high {c p : Nat} (h : c < 2 ^ p) : subs (2 ^ p + c) (p + 1) = subs c p ++ [(p : Int)] := by
  unfold subs
  rw [List.range_succ, List.filter_append]
  have e : (2 ^ p + c) / 2 ^ p = 1 := by
    rw [Nat.add_div_left _ (Nat.pos_of_ne_zero (by simp)), Nat.div_eq_of_lt h]
  have e1 : ([p].filter fun q => decide ((2 ^ p + c) / 2 ^ q % 2 = 1)) = [p] := by simp [e]
  rw [e1, List.map_append]
  congr 2
  refine List.filter_congr fun q hq => ?_
  have hq' : q < p := List.mem_range.mp hq
  have e2 : 2 ^ p = 2 ^ q * (2 * 2 ^ (p - q - 1)) := by
    rw [← Nat.pow_succ', ← Nat.pow_add]
    congr 1
    omega
  have e3 : (2 ^ p + c) / 2 ^ q = 2 * 2 ^ (p - q - 1) + c / 2 ^ q := by
    rw [e2, Nat.mul_add_div (Nat.pos_of_ne_zero (by simp))]
  rw [e3, Nat.mul_add_mod]
def setsM (n : Nat) : List (List Int) := (List.range (2 ^ n)).map fun c => subs c n
theorem setsM_zero : setsM 0 = [[]] := rfl
theorem setsM_succ (p : Nat) : setsM (p + 1) = setsM p ++ (setsM p).map fun s => s ++ [(p : Int)] := by
  unfold setsM
  have e : 2 ^ (p + 1) = 2 ^ p + 2 ^ p := by rw [Nat.pow_succ]; omega
  rw [e, List.range_add, List.map_append, List.map_map, List.map_map]
  congr 1
  · exact List.map_congr_left fun c hc => subs_low (List.mem_range.mp hc)
  · exact List.map_congr_left fun c hc => subs_high (List.mem_range.mp hc)
theorem setsM_length (n : Nat) : (setsM n).length = 2 ^ n := by unfold setsM; simp
/-! ### in the heap -/
def Lns (H : Hp) (ps : List Addr) (ls : List Ln) : Prop := ps.length = ls.length ∧ ∀ (i : Nat) (p : Addr) (l : Ln), ps[i]? = some p → ls[i]? = some l → H p = some (.tup (lnV l))
def Ints (H : Hp) (ps : List Addr) (ss : List (List Int)) : Prop := ps.length = ss.length ∧ ∀ (i : Nat) (p : Addr) (s : List Int), ps[i]? = some p → ss[i]? = some s → H p = some (.lst (s.map V.int))
section
variable {T X : List Addr} {H H1 : Hp}
theorem Lns.ext {ps : List Addr} {ls : List Ln} (h : Lns H ps ls) (e : Ext T [] H H1) : Lns H1 ps ls := ⟨h.1, fun i p l a b => e.k (h.2 i p l a b)⟩
theorem Lns.extB {ps : List Addr} {ls : List Ln} {bx : Addr} (h : Lns H ps ls) (e : Ext T [bx] H H1) (B : ∃ kvs, H bx = some (.dK kvs)) : Lns H1 ps ls := ⟨h.1, fun i p l a b => e.kB B (h.2 i p l a b)⟩
theorem Ints.ext {ps : List Addr} {ss : List (List Int)} (h : Ints H ps ss) (e : Ext T [] H H1) : Ints H1 ps ss := ⟨h.1, fun i p l a b => e.k (h.2 i p l a b)⟩
theorem Ints.extB {ps : List Addr} {ss : List (List Int)} {bx : Addr} (h : Ints H ps ss) (e : Ext T [bx] H H1) (B : ∃ kvs, H bx = some (.dK kvs)) : Ints H1 ps ss := ⟨h.1, fun i p l a b => e.kB B (h.2 i p l a b)⟩
theorem pair_get {α β : Type} {xs : List α} {ys : List β} (h : xs.length = ys.length) {i : Nat} {y : β} (e : ys[i]? = some y) : ∃ x, xs[i]? = some x := by
  have hi := (List.getElem?_eq_some_iff.mp e).1
  exact ⟨xs[i]'(by omega), List.getElem?_eq_getElem _⟩
theorem Lns.at {ps : List Addr} {ls : List Ln} (h : Lns H ps ls) {i : Nat} {l : Ln} (e : ls[i]? = some l) : ∃ p, (ps.map V.ref)[i]? = some (.ref p) ∧ H p = some (.tup (lnV l)) := by
  obtain ⟨p, hp⟩ := pair_get h.1 e
  exact ⟨p, by rw [List.getElem?_map, hp]; rfl, h.2 i p l hp e⟩
theorem Ints.at {ps : List Addr} {ss : List (List Int)} (h : Ints H ps ss) {i : Nat} {s : List Int} (e : ss[i]? = some s) : ∃ p, (ps.map V.ref)[i]? = some (.ref p) ∧ H p = some (.lst (s.map V.int)) := by
  obtain ⟨p, hp⟩ := pair_get h.1 e
  exact ⟨p, by rw [List.getElem?_map, hp]; rfl, h.2 i p s hp e⟩
theorem Lns.snoc {ps : List Addr} {ls : List Ln} {p : Addr} {l : Ln} (h : Lns H ps ls) (e : H p = some (.tup (lnV l))) : Lns H (ps ++ [p]) (ls ++ [l]) := by
  refine ⟨by rw [List.length_append, List.length_append, h.1]; rfl, fun i q m a b => ?_⟩
  by_cases hi : i < ps.length
  · rw [List.getElem?_append_left hi] at a
    rw [List.getElem?_append_left (by have := h.1; omega)] at b
    exact h.2 i q m a b
  · rw [List.getElem?_append_right (by omega)] at a
    rw [List.getElem?_append_right (by have := h.1; omega), ← h.1] at b
    have ha := (List.getElem?_eq_some_iff.mp a).1
    have hz : i - ps.length = 0 := by simp at ha; omega
    rw [hz] at a b
    have a' : p = q := by simpa using a
    have b' : l = m := by simpa using b
    rw [← a', ← b']
    exact e
theorem Ints.snoc {ps : List Addr} {ss : List (List Int)} {p : Addr} {s : List Int} (h : Ints H ps ss) (e : H p = some (.lst (s.map V.int))) : Ints H (ps ++ [p]) (ss ++ [s]) := by
  refine ⟨by rw [List.length_append, List.length_append, h.1]; rfl, fun i q m a b => ?_⟩
  by_cases hi : i < ps.length
  · rw [List.getElem?_append_left hi] at a
    rw [List.getElem?_append_left (by have := h.1; omega)] at b
    exact h.2 i q m a b
  · rw [List.getElem?_append_right (by omega)] at a
    rw [List.getElem?_append_right (by have := h.1; omega), ← h.1] at b
    have ha := (List.getElem?_eq_some_iff.mp a).1
    have hz : i - ps.length = 0 := by simp at ha; omega
    rw [hz] at a b
    have a' : p = q := by simpa using a
    have b' : s = m := by simpa using b
    rw [← a', ← b']
    exact e
theorem Lns.nil : Lns H [] [] := ⟨rfl, fun i p l a _ => by simp at a⟩
theorem Ints.nil : Ints H [] [] := ⟨rfl, fun i p l a _ => by simp at a⟩
end
theorem inV_int (p : Int) : ∀ s : List Int, inV (.int p) (s.map V.int) = decide (p ∈ s)
  | [] => rfl
  | a :: r => by
    have ih := inV_int p r
    unfold inV at ih ⊢
    rw [List.map_cons, List.any_cons, ih]
    show ((a == p) || decide (p ∈ r)) = _
    by_cases h : a = p
    · subst h; simp
    · have h2 : (a == p) = false := by simpa using h
      have h3 : ¬ p = a := fun z => h z.symm
      simp [h2, h3]
theorem flat_ints (s : List Int) : (s.map V.int).all flatV = true := by
  rw [List.all_eq_true]
  intro x hx
  obtain ⟨i, _, rfl⟩ := List.mem_map.mp hx
  rfl
end K15


set_option Elab.async false
set_option linter.all false
set_option maxRecDepth 100000
set_option maxHeartbeats 2000000
/-! parts_of, size_of, all_sets -/
namespace K15
open PySem PySem.Spec PyProof.Rows L2 GxR GX
theorem small {n : Nat} (h : n ≤ 1000) : n ≤ sizeLine := Nat.le_of_lt (small1000 h)
theorem atI_neg1 {xs : List V} (h : xs ≠ []) : ∃ v ∈ xs, atI xs (-1) = some v := by
  refine ⟨xs.getLast h, List.getLast_mem h, ?_⟩
  have e := List.dropLast_concat_getLast h
  have q := atI_last xs.dropLast (xs.getLast h)
  rw [e] at q
  exact q
theorem cut1 (x : V) (r : List V) : cutV (x :: r) (some 1) none = r := by
  unfold cutV
  have e : HT.sIx (x :: r).length 0 (some 1) = 1 := by
    have q := HT.sIx_nat (x :: r).length 0 1
    rw [show ((1 : Nat) : Int) = (1 : Int) from rfl] at q
    rw [q]
    simp
  rw [e, HT.sIx_none]
  simp
theorem whole1 (x : V) (r : List V) : ¬ (HT.sIx (x :: r).length 0 (some 1) = 0 ∧ HT.sIx (x :: r).length (x :: r).length none = (x :: r).length) := by
  intro ⟨h, _⟩
  have q := HT.sIx_nat (x :: r).length 0 1
  rw [show ((1 : Nat) : Int) = (1 : Int) from rfl] at q
  rw [q] at h
  simp at h
/-! ### parts_of -/
def partsM (l : Ln) : List Int := if inV (.str l.1) [.str "set", .str "one", .str "letter"] = true then [] else l.2
def spParts : Sp := fun vs H Q _ => ∃ (p : Addr) (l : Ln), vs = [.ref p] ∧ H p = some (.tup (lnV l)) ∧ ∀ (r : Addr) (H' : Hp), Same H H' → H' r = some (.tup ((partsM l).map V.int)) → Q (.ref r) H'
section
variable {P : Program} {w : World} {K : PySem.W.Frag} {mg : Str → Option Value} {base : Heap}
theorem scParts : FnScope ["line"] ["line"] (defScope sParts) := ⟨rfl, rfl, rfl, by decide +kernel, rfl, by decide +kernel, by decide +kernel⟩
theorem ok_parts {f : Addr} {fd : FuncData} (F : Fun K "parts_of" "parts_of" sParts f fd) : FnOk P w K mg base CX0 1 f fd ["line"] spParts := by
  refine F.ok scParts (fun vs H Q E h => ?_) (fun cdv A outer s H vs Q E hr h => ?_)
  · obtain ⟨p, l, rfl, _⟩ := h
    rfl
  obtain ⟨p, l, rfl, hp, q⟩ := h
  refine ⟨_, pss_cons (ps_if (pt_cmpR op_in_seq (pe_ix ix_tup (pv 0) pe_int (fun _ _ => rfl)) (pe_tup (pa_cons pe_str (pa_cons pe_str (pa_cons pe_str pa_nil)))) (by rfl)) (pss_one (ps_ret (pe_tup pa_nil))) pss_nil)
    (pss_one (ps_ret (pe_slice sl_tup (pv 0) (po_some pe_int) po_none))), ?_⟩
  refine ⟨_, rfl, p, _, 0, _, rfl, rfl, SqT.of hp, atI_nat (j := 0) rfl, (by show 3 ≤ sizeLine; decide), fun t ht => ?_⟩
  have e1 : Same H (upd H t (.tup [.str "set", .str "one", .str "letter"])) := same_new ht _
  refine ⟨t, _, rfl, .inr (SqT.of upd_same), rfl, rfl, _, rfl, ?_⟩
  refine ite2 (fun c => ?_) (fun c => ?_)
  · have c' : inV (.str l.1) [.str "set", .str "one", .str "letter"] = true := c
    refine ⟨(by show 0 ≤ sizeLine; decide), fun r hr' => ?_⟩
    refine q r _ (e1.trans (same_new hr' _)) ?_
    rw [upd_same]
    unfold partsM
    rw [if_pos c']
    rfl
  · have c' : ¬ inV (.str l.1) [.str "set", .str "one", .str "letter"] = true := c
    refine ⟨_, rfl, _, rfl, p, _, rfl, SqT.of (e1 _ _ hp), whole1 _ _, fun r hr' => ?_⟩
    refine q r _ (e1.trans (same_new hr' _)) ?_
    rw [upd_same, lnV, cut1]
    unfold partsM
    rw [if_neg c']
/-! ### size_of -/
def spSize (K : PySem.W.Frag) (T : List Addr) : Sp := fun vs H Q _ => ∃ (a : Addr) (ps : List Addr) (ls : List Ln), vs = [.ref a] ∧ SqT K H a (ps.map V.ref) ∧ Lns H ps ls ∧ Valid ls ∧ ls ≠ [] ∧ ls.length ≤ 1000 ∧ Tbs T H ∧ ∀ (t : Int) (H' : Hp), Ext T [] H H' → Q (.int t) H'
theorem parts_lt {ls : List Ln} (v : Valid ls) {n : Nat} {l : Ln} (e : ls[n]? = some l) : ∀ z ∈ partsM l, ∃ k : Nat, z = (k : Int) ∧ k < n := by
  intro z hz
  rcases v n l e with ⟨_, h⟩ | ⟨_, h⟩
  · cases h with
    | set i =>
      have : partsM (("set" : Str), [(i : Int)]) = [] := if_pos (show inV (.str "set") [.str "set", .str "one", .str "letter"] = true by decide +kernel)
      rw [this] at hz; cases hz
    | letter a =>
      have : partsM (("letter" : Str), [a]) = [] := if_pos (show inV (.str "letter") [.str "set", .str "one", .str "letter"] = true by decide +kernel)
      rw [this] at hz; cases hz
    | not c h p =>
      have : partsM (("not" : Str), [(c : Int)]) = [(c : Int)] := if_neg (show ¬ inV (.str "not") [.str "set", .str "one", .str "letter"] = true by decide +kernel)
      rw [this] at hz
      exact ⟨c, List.mem_singleton.mp hz, h⟩
    | and c d h p h' p' =>
      have : partsM (("and" : Str), [(c : Int), (d : Int)]) = [(c : Int), (d : Int)] := if_neg (show ¬ inV (.str "and") [.str "set", .str "one", .str "letter"] = true by decide +kernel)
      rw [this] at hz
      rcases List.mem_cons.mp hz with z1 | z1
      · exact ⟨c, z1, h⟩
      · exact ⟨d, List.mem_singleton.mp z1, h'⟩
  · cases h with
    | all c h p =>
      have : partsM (("all" : Str), [(c : Int)]) = [(c : Int)] := if_neg (show ¬ inV (.str "all") [.str "set", .str "one", .str "letter"] = true by decide +kernel)
      rw [this] at hz
      exact ⟨c, List.mem_singleton.mp hz, h⟩
    | next c d h p h' p' =>
      have : partsM (("next" : Str), [(c : Int), (d : Int)]) = [(c : Int), (d : Int)] := if_neg (show ¬ inV (.str "next") [.str "set", .str "one", .str "letter"] = true by decide +kernel)
      rw [this] at hz
      rcases List.mem_cons.mp hz with z1 | z1
      · exact ⟨c, z1, h⟩
      · exact ⟨d, List.mem_singleton.mp z1, h'⟩
    | first c h p =>
      have : partsM (("first" : Str), [(c : Int)]) = [(c : Int)] := if_neg (show ¬ inV (.str "first") [.str "set", .str "one", .str "letter"] = true by decide +kernel)
      rw [this] at hz
      exact ⟨c, List.mem_singleton.mp hz, h⟩
    | last c h p =>
      have : partsM (("last" : Str), [(c : Int)]) = [(c : Int)] := if_neg (show ¬ inV (.str "last") [.str "set", .str "one", .str "letter"] = true by decide +kernel)
      rw [this] at hz
      exact ⟨c, List.mem_singleton.mp hz, h⟩
    | nothing =>
      have : partsM (("nothing" : Str), []) = [] := if_neg (show ¬ inV (.str "nothing") [.str "set", .str "one", .str "letter"] = true by decide +kernel)
      rw [this] at hz; cases hz
    | one i =>
      have : partsM (("one" : Str), [(i : Int)]) = [] := if_pos (show inV (.str "one") [.str "set", .str "one", .str "letter"] = true by decide +kernel)
      rw [this] at hz; cases hz
    | denied f h p =>
      have : partsM (("denied" : Str), [(f : Int)]) = [(f : Int)] := if_neg (show ¬ inV (.str "denied") [.str "set", .str "one", .str "letter"] = true by decide +kernel)
      rw [this] at hz
      exact ⟨f, List.mem_singleton.mp hz, h⟩
    | both f g h p h' p' =>
      have : partsM (("both" : Str), [(f : Int), (g : Int)]) = [(f : Int), (g : Int)] := if_neg (show ¬ inV (.str "both") [.str "set", .str "one", .str "letter"] = true by decide +kernel)
      rw [this] at hz
      rcases List.mem_cons.mp hz with z1 | z1
      · exact ⟨f, z1, h⟩
      · exact ⟨g, List.mem_singleton.mp z1, h'⟩
    | there f h p =>
      have : partsM (("there" : Str), [(f : Int)]) = [(f : Int)] := if_neg (show ¬ inV (.str "there") [.str "set", .str "one", .str "letter"] = true by decide +kernel)
      rw [this] at hz
      exact ⟨f, List.mem_singleton.mp hz, h⟩
theorem scSize : FnScope ["sentence", "sizes", "line"] ["sentence"] (defScope sSize) := ⟨rfl, rfl, rfl, by decide +kernel, rfl, by decide +kernel, by decide +kernel⟩
theorem ok_size {f c P1 fp : Addr} {fd fdp : FuncData} {T : List Addr} (F : Fun K "size_of" "size_of" sSize f fd) (hc : fd.code = .ref c) (TB : TabB base mg c P1) (hT : P1 ∈ T) (FP : Fun K "parts_of" "parts_of" sParts fp fdp) (bP : Binds K fdp ["line"] []) (mP : mg "parts_of" = some (.ref fp)) (ms : mg "sum" = none) :
    FnOk P w K mg base CX0 2 f fd ["sentence"] (spSize K T) := by
  have GP : FnOk P w K mg base CX0 1 fp fdp ["line"] spParts := ok_parts FP
  refine okT F hc scSize (fun vs H Q E h => ?_) (fun A outer s H vs Q E hr h => ?_)
  · obtain ⟨a, ps, ls, rfl, _⟩ := h
    rfl
  obtain ⟨a, ps, ls, rfl, hS, hL, hV, hne, hlen, hTb, q⟩ := h
  refine ⟨_, pss_cons (ps_set (i := 1) scSize.nd rfl (Or.inr rfl) (pe_lst pa_nil)) (pss_cons (ps_for PassesOwn.never rfl (pi_tup (pv 0)) (pg_name (i := 2) scSize.nd rfl (Or.inl rfl))
      (pss_one (ps_expr (pe_bm PySem.F.plainAttrs_list PySem.F.slot_list_append PySem.F.type_list_append mt_append (pv 1) (pa_cons (pe_op op_add pe_int
        (pe_sumG hr rfl rfl ms TB rfl (gsc_by (N := ["sentence", "sizes", "line"]) (sc := defScope sSize) (by decide +kernel)) (pi_tup (pe_call GP hr rfl mP FP.kp bP .nil pass0 (pa_cons (pv 2) pa_nil)))
          (fun _ _ _ _ _ _ _ => pe_ix (r := rIxL K) ix_list (pv 1) (pv 3) (fun _ _ => rfl)))) pa_nil)))))
    (pss_one (ps_ret (pe_ix ix_list (pv 1) (pe_un un_neg pe_int) (fun _ _ => rfl))))), ?_⟩
  have nlS : ∀ l : Addr, H l = none → True := fun _ _ => trivial
  refine ⟨Nat.zero_le _, fun l hl => ?_⟩
  refine ⟨_, rfl, a, rfl, ⟨_, (Ext.new (T := T) (X := []) hl (.lst [])).sqT hS⟩, for_tup (K := K) (a := a) (xs := ps.map V.ref)
    (fun i σ H' => ∃ (zs : List Int) (v : Option V), σ = [some (.ref a), some (.ref l), v] ∧ Ext T [] H H' ∧ H' l = some (.lst (zs.map V.int)) ∧ zs.length = i)
    ⟨[], none, rfl, Ext.new hl _, upd_same, rfl⟩ (fun i σ H' _ ⟨_, _, _, e, _⟩ => e.sqT hS) ?_ ?_⟩
  · rintro i x σ H1 hx ⟨zs, v, rfl, e1, h1, hz⟩
    obtain ⟨p, ln, hp, hln, rfl, hpt⟩ : ∃ p ln, ps[i]? = some p ∧ ls[i]? = some ln ∧ x = V.ref p ∧ H p = some (.tup (lnV ln)) := by
      rw [List.getElem?_map] at hx
      cases e : ps[i]? with
      | none => rw [e] at hx; cases hx
      | some p =>
        rw [e] at hx
        obtain ⟨ln, hln⟩ := pair_get hL.1.symm e
        exact ⟨p, ln, rfl, hln, (Option.some.inj hx).symm, hL.2 i p ln e hln⟩
    have hp1 := e1.k hpt
    refine ⟨_, rfl, .inl ⟨rfl, _, SqL.of h1⟩, ?_⟩
    refine ⟨_, rfl, p, ln, rfl, hp1, fun r H2 s2 hr2 => ?_⟩
    have hTb1 : Tbs T H2 := (e1.trans (.of s2)).tbs hTb
    refine ⟨r, rfl, ⟨_, SqT.of hr2⟩, hTb1 P1 hT, fun H3 tab3 => ?_⟩
    have e3 : Ext T [] H1 H3 := (Ext.of s2).trans (Ext.tab (hTb1 P1 hT) tab3)
    refine ⟨fun j m H4 => H4 = H3 ∧ j + m = (partsM ln).length, ⟨_, rfl, Nat.zero_add _⟩, ?_⟩
    rintro j m H4 ⟨rfl, hjm⟩
    have hr3 : SqT K H4 r ((partsM ln).map V.int) := (Ext.tab (T := T) (X := []) (hTb1 P1 hT) tab3).sqT (SqT.of hr2)
    by_cases hj : j < (partsM ln).length
    · refine .inr ⟨⟨_, .int ((partsM ln)[j]), hr3, by rw [List.getElem?_map, List.getElem?_eq_getElem hj]; rfl⟩, fun v' H5 hy => ?_⟩
      obtain ⟨rfl, hy⟩ := hy
      have hv := hy _ hr3
      rw [List.getElem?_map, List.getElem?_eq_getElem hj] at hv
      have hv' : V.int ((partsM ln)[j]) = v' := by simpa using hv
      subst hv'
      obtain ⟨k, ek, hk⟩ := parts_lt hV hln _ (List.getElem_mem hj)
      have hk2 : k < zs.length := by omega
      refine ⟨_, rfl, _, rfl, l, _, k, .int (zs[k]), rfl, congrArg V.int ek, SqL.of (e3.k h1), atI_nat (by rw [List.getElem?_map, List.getElem?_eq_getElem hk2]; rfl), _, rfl, m - 1, by omega, rfl, by omega⟩
    · refine .inl ⟨⟨_, hr3, by rw [List.length_map]; omega⟩, fun t => ?_⟩
      refine ⟨_, _, rfl, rfl, l, _, _, rfl, rfl, e3.k h1, ?_, ?_⟩
      · rw [List.length_map]
        have := (List.getElem?_eq_some_iff.mp hln).1
        exact small1000 (by omega)
      · refine ⟨zs ++ [1 + t], _, rfl, (e1.trans e3).put hl _, ?_, by rw [List.length_append, hz]; rfl⟩
        rw [upd_same, List.map_append]
        rfl
  · rintro σ H1 ⟨zs, v, rfl, e1, h1, hz⟩
    have hne2 : zs.map V.int ≠ [] := by
      intro z
      have z2 := congrArg List.length z
      rw [List.length_map, hz, List.length_map, hL.1] at z2
      exact hne (List.eq_nil_of_length_eq_zero z2)
    obtain ⟨y, hy, hat⟩ := atI_neg1 hne2
    obtain ⟨t, _, rfl⟩ := List.mem_map.mp hy
    refine ⟨_, rfl, _, rfl, l, _, _, _, rfl, rfl, SqL.of h1, hat, q t H1 e1⟩
end
end K15


set_option Elab.async false
set_option linter.all false
set_option maxRecDepth 100000
set_option maxHeartbeats 2000000
/-! all_sets -/
namespace K15
open PySem PySem.Spec PyProof.Rows L2 GxR GX
section
variable {P : Program} {w : World} {K : PySem.W.Frag} {mg : Str → Option Value} {base : Heap}
def spAll (T : List Addr) : Sp := fun vs H Q _ => ∃ n : Nat, vs = [.int n] ∧ n ≤ 8 ∧ ∀ (r : Addr) (qs : List Addr) (H' : Hp), Ext T [] H H' → H' r = some (.lst (qs.map V.ref)) → Ints H' qs (setsM n) → Q (.ref r) H'
theorem scAll : FnScope ["size", "found", "place", "chosen"] ["size"] (defScope sAll) := ⟨rfl, rfl, rfl, by decide +kernel, rfl, by decide +kernel, by decide +kernel⟩
theorem yes_ {σ : L2.St} {H : Hp} {A B : Bool → Hp → Prop} (h : A true H) : tYes σ H fun b H3 => if b = true then A b H3 else B b H3 := by
  show if true = true then A true H else B true H
  rw [if_pos rfl]
  exact h
theorem pow_le8 {n : Nat} (h : n ≤ 8) : 2 ^ n ≤ 256 := by
  have := Nat.pow_le_pow_right (n := 2) (by decide) h
  exact this
theorem Ints.app {H : Hp} {ps qs : List Addr} {ss ts : List (List Int)} (a : Ints H ps ss) (b : Ints H qs ts) : Ints H (ps ++ qs) (ss ++ ts) := by
  refine ⟨by rw [List.length_append, List.length_append, a.1, b.1], fun i p s e1 e2 => ?_⟩
  by_cases hi : i < ps.length
  · rw [List.getElem?_append_left hi] at e1
    rw [List.getElem?_append_left (by have := a.1; omega)] at e2
    exact a.2 i p s e1 e2
  · rw [List.getElem?_append_right (by omega)] at e1
    rw [List.getElem?_append_right (by have := a.1; omega), ← a.1] at e2
    exact b.2 _ p s e1 e2
theorem ok_all {f : Addr} {fd : FuncData} {T : List Addr} (F : Fun K "all_sets" "all_sets" sAll f fd) (mr : mg "range" = none) : FnOk P w K mg base CX0 1 f fd ["size"] (spAll T) := by
  refine F.ok scAll (fun vs H Q E h => ?_) (fun cdv A outer s H vs Q E hr h => ?_)
  · obtain ⟨n, rfl, _⟩ := h
    rfl
  obtain ⟨n, rfl, hn, q⟩ := h
  refine ⟨_, pss_cons (ps_set (i := 1) scAll.nd rfl (Or.inl rfl) (pe_lst (pa_cons (pe_lst pa_nil) pa_nil)))
    (pss_cons (ps_for PassesOwn.never rfl (pi_range1 (by rfl) mr (pa_cons (pv 0) pa_nil)) (pg_name (i := 2) scAll.nd rfl (Or.inr rfl))
      (pss_one (ps_set (i := 1) scAll.nd rfl (Or.inl rfl) (pe_op op_cat (pv 1)
        (pe_lc (own := [("chosen", 3)]) (g := gName 3) (tt := tYes) rfl scAll.nd (pi_list (pv 1)) (blkOk_by (own := [("chosen", 3)]) (N := ["size", "found", "place", "chosen"]) (sc := defScope sAll) (by decide +kernel))
          (fun _ _ _ _ _ => pg_name (i := 3) scAll.nd rfl (Or.inl rfl)) (fun _ _ _ _ _ => pts_nil)
          (fun _ _ _ _ _ => pe_op op_cat (pv 3) (pe_lst (pa_cons (pv 2) pa_nil))))))))
    (pss_one (ps_ret (pv 1)))), ?_⟩
  refine ⟨Nat.zero_le _, fun z hz => ⟨(by show 1 ≤ sizeLine; decide), fun f0 hf0 => ?_⟩⟩
  have hn2 : (n : Int) < 2 ^ 62 := by
    have : (n : Int) ≤ 8 := by omega
    exact Int.lt_of_le_of_lt this (by decide)
  refine ⟨_, rfl, n, rfl, by omega, hn2, for_range (lo := 0) (n := (n : Int).toNat)
    (fun i σ H' => ∃ (g : Addr) (qs : List Addr) (v v2 : Option V), σ = [some (.int n), some (.ref g), v, v2] ∧ Ext T [] H H' ∧ H' g = some (.lst (qs.map V.ref)) ∧ Ints H' qs (setsM i))
    ⟨f0, [z], none, none, rfl, (Ext.new hz _).trans (Ext.new hf0 _), upd_same, ?_⟩ ?_ ?_⟩
  · have nz : z ≠ f0 := fun e => by
      rw [← e, upd_same] at hf0
      cases hf0
    refine Ints.snoc (ps := []) (ss := []) Ints.nil ?_
    rw [upd_ne nz, upd_same]
    rfl
  · rintro i σ H1 hi ⟨g, qs, v, v2, rfl, e1, hg, hq⟩
    have hi8 : i < n := by omega
    have hlen : qs.length = 2 ^ i := by rw [hq.1, setsM_length]
    have hp8 : 2 ^ i ≤ 256 := pow_le8 (by omega)
    refine ⟨_, rfl, _, rfl, g, rfl, ⟨_, SqL.of hg⟩, fun D hD => ?_⟩
    refine lc_list (K := K) (a := g) (xs := qs.map V.ref) (fun j H' => ∃ rs : List Addr, Ext T [] H1 H' ∧ H' D = some (.lst (rs.map V.ref)) ∧ Ints H' rs (((setsM i).take j).map fun s => s ++ [(i : Int)]))
      ⟨[], Ext.new hD _, upd_same, Ints.nil⟩ (fun j H' _ ⟨_, e, _⟩ => e.sqL (SqL.of hg)) ?_ ?_
    · rintro j x H2 hx ⟨rs, e2, hD2, hr2⟩
      have hjl : j < qs.length := by
        have := (List.getElem?_eq_some_iff.mp hx).1
        simpa using this
      obtain ⟨s, hs⟩ : ∃ s, (setsM i)[j]? = some s := ⟨_, List.getElem?_eq_getElem (by rw [← hq.1]; exact hjl)⟩
      obtain ⟨p, hp, hps⟩ := hq.at hs
      rw [hp] at hx
      cases hx
      have hps2 := e2.k hps
      refine ⟨rfl, yes_ ?_⟩
      refine ⟨_, rfl, _, rfl, (by show 1 ≤ sizeLine; decide), fun t ht => ?_⟩
      have e3 : Ext T [] H2 (upd H2 t (.lst [.int (0 + (i : Int))])) := Ext.new ht _
      have hslen : s.length ≤ 8 := by
        obtain ⟨c, hc, rfl⟩ := List.mem_map.mp (show s ∈ setsM i from List.mem_of_getElem? hs)
        unfold subs
        rw [List.length_map]
        refine Nat.le_trans (List.length_filter_le _ _) ?_
        rw [List.length_range]
        omega
      refine ⟨p, t, _, _, rfl, rfl, e3.k hps2, upd_same, ?_, fun r hr' => ?_⟩
      · rw [List.length_map, List.length_singleton]
        exact small (by omega)
      have e4 : Ext T [] H2 (upd (upd H2 t (.lst [.int (0 + (i : Int))])) r (.lst (s.map V.int ++ [.int (0 + (i : Int))]))) := e3.trans (Ext.new hr' _)
      have ntake : (setsM i).take (j + 1) = (setsM i).take j ++ [s] := by
        rw [List.take_succ, hs]
        rfl
      have rlen : rs.length = j := by
        rw [hr2.1, List.length_map, List.length_take, ← hq.1]
        omega
      refine ⟨_, e4.k hD2, ?_, rs ++ [r], ?_, ?_, ?_⟩
      · rw [List.length_map, rlen]
        exact small1000 (by omega)
      · exact (e2.trans e4).put hD _
      · rw [upd_same, List.map_append]
        rfl
      · rw [ntake, List.map_append]
        have nD : r ≠ D := fun z => by
          rw [z] at hr'
          have := e3.k hD2
          rw [hr'] at this
          cases this
        refine Ints.snoc ?_ ?_
        · have h5 : Ints _ rs _ := hr2.ext e4
          refine ⟨h5.1, fun a b c x y => ?_⟩
          have h6 := h5.2 a b c x y
          have nb : b ≠ D := fun z => by
            have h7 := e4.k hD2
            rw [z, h7] at h6
            injection h6 with h8
            injection h8 with h9
            have hc : c ∈ ((setsM i).take j).map fun s => s ++ [(i : Int)] := List.mem_of_getElem? y
            obtain ⟨s', _, rfl⟩ := List.mem_map.mp hc
            rw [List.map_append] at h9
            have : V.int (i : Int) ∈ rs.map V.ref := by rw [h9]; simp
            obtain ⟨_, _, e⟩ := List.mem_map.mp this
            cases e
          rw [upd_ne nb]
          exact h6
        · rw [upd_ne nD, upd_same, List.map_append, Int.zero_add]
          rfl
    · rintro H2 ⟨rs, e2, hD2, hr2⟩
      have hr3 : Ints H2 rs ((setsM i).map fun s => s ++ [(i : Int)]) := by
        have : (setsM i).take (qs.map V.ref).length = setsM i := by
          rw [List.length_map, hq.1, List.take_length]
        rw [this] at hr2
        exact hr2
      have rl : rs.length = 2 ^ i := by rw [hr3.1, List.length_map, setsM_length]
      refine ⟨g, D, _, _, rfl, rfl, e2.k hg, hD2, ?_, fun r hr' => ?_⟩
      · rw [List.length_map, List.length_map]
        exact small (by omega)
      have e3 : Ext T [] H2 (upd H2 r (.lst (qs.map V.ref ++ rs.map V.ref))) := Ext.new hr' _
      refine ⟨r, qs ++ rs, _, _, rfl, e1.trans (e2.trans e3), ?_, ?_⟩
      · rw [upd_same, List.map_append]
      · rw [setsM_succ]
        exact ((hq.ext e2).ext e3).app (hr3.ext e3)
  · rintro σ H1 ⟨g, qs, v, v2, rfl, e1, hg, hq⟩
    have en : (n : Int).toNat = n := by omega
    rw [en] at hq
    exact ⟨_, rfl, q g qs H1 e1 hg hq⟩
end
end K15


set_option Elab.async false
set_option linter.all false
set_option maxRecDepth 100000
set_option maxHeartbeats 2000000
/-! Reading.__init__, Reading.at -/
namespace K15
open PySem PySem.Spec PyProof.Rows L2 GxR GX
theorem rs_ : ¬ (("row" : Str) = "sentence") := by decide +kernel
theorem sr_ : ¬ (("sentence" : Str) = "row") := by decide +kernel
def pf (sa ra : Addr) : List (Str × V) := putF "row" (.ref ra) (putF "sentence" (.ref sa) [])
theorem pf_row (sa ra : Addr) : (pf sa ra).lookup ("row" : Str) = some (.ref ra) := by
  unfold pf
  rw [lookup_putF, if_pos rfl]
theorem pf_sent (sa ra : Addr) : (pf sa ra).lookup ("sentence" : Str) = some (.ref sa) := by
  unfold pf
  rw [lookup_putF, if_neg sr_, lookup_putF, if_pos rfl]
theorem pf_no (sa ra : Addr) {m : Str} (h1 : ¬ m = "row") (h2 : ¬ m = "sentence") : (pf sa ra).lookup m = none := by
  unfold pf
  rw [lookup_putF, if_neg h1, lookup_putF, if_neg h2]
  all_goals rfl
/-- what stands of the class -/
structure TxC (K : PySem.W.Frag) (C : Addr) : Prop where
  cl : Cls K C
  nS : NoAttr K C "sentence"
  nR : NoAttr K C "row"
def spInit (C : Addr) : Sp := fun vs H Q _ => ∃ (p dx sa ra : Addr), vs = [.ref p, .ref sa, .ref ra] ∧ H p = some (.ins C dx []) ∧ Q .non (upd H p (.ins C dx (pf sa ra)))
/-- a Reading stands at self -/
structure RdAt (K : PySem.W.Frag) (C : Addr) (H : Hp) (sf : Addr) (ls : List Ln) (row : List Int) : Prop where
  ex : ∃ (dx sa ra : Addr) (ps : List Addr), H sf = some (.ins C dx (pf sa ra)) ∧ SqT K H sa (ps.map V.ref) ∧ Lns H ps ls ∧ SqL K H ra (row.map V.int)
def SsAt (H : Hp) (qa : Addr) (ss : List (List Int)) : Prop := ∃ qs : List Addr, H qa = some (.lst (qs.map V.ref)) ∧ Ints H qs ss
theorem RdAt.ext {T : List Addr} {K : PySem.W.Frag} {C : Addr} {H H1 : Hp} {self : Addr} {ls : List Ln} {row : List Int} (R : RdAt K C H self ls row) (e : Ext T [] H H1) : RdAt K C H1 self ls row := by
  obtain ⟨dx, sa, ra, ps, h1, h2, h3, h4⟩ := R.ex
  exact ⟨dx, sa, ra, ps, e.k h1, e.sqT h2, h3.ext e, e.sqL h4⟩
theorem SsAt.ext {T : List Addr} {H H1 : Hp} {qa : Addr} {ss : List (List Int)} (R : SsAt H qa ss) (e : Ext T [] H H1) : SsAt H1 qa ss := by
  obtain ⟨qs, h1, h2⟩ := R
  exact ⟨qs, e.k h1, h2.ext e⟩
def spAt (K : PySem.W.Frag) (C : Addr) (k : Nat) : Sp := fun vs H Q _ => ∃ (self qa : Addr) (n p : Nat) (ls : List Ln) (row : List Int) (ss : List (List Int)), vs = [.ref self, .int n, .int p, .ref qa] ∧
  RdAt K C H self ls row ∧ SsAt H qa ss ∧ Valid ls ∧ isPl ls n ∧ n < k ∧ p < row.length ∧ Q (.bl (atM ls row ss p n)) H
theorem dT (x : Str) : decide (V.str x = V.str x) = true := decide_eq_true rfl
theorem dF (x y : Str) (h : ¬ x = y) : decide (V.str x = V.str y) = false := decide_eq_false fun e => h (V.str.inj e)
theorem dstr {x y : Str} {b : Bool} (h : decide (x = y) = b) : decide (V.str x = V.str y) = b := by
  rw [← h, Bool.eq_iff_iff]
  simp
section
variable {P : Program} {w : World} {K : PySem.W.Frag} {mg : Str → Option Value} {base : Heap}
theorem scInit : FnScope ["self", "sentence", "row"] ["self", "sentence", "row"] (defScope sInit) := ⟨rfl, rfl, rfl, by decide +kernel, rfl, by decide +kernel, by decide +kernel⟩
theorem ok_init {f C : Addr} {fd : FuncData} (F : Fun K "__init__" "Reading.__init__" sInit f fd) (T : TxC K C) : FnOk P w K mg base CX0 1 f fd ["self", "sentence", "row"] (spInit C) := by
  refine F.ok scInit (fun vs H Q E h => ?_) (fun cdv A outer s H vs Q E hr h => ?_)
  · obtain ⟨p, dx, sa, ra, rfl, _⟩ := h
    rfl
  obtain ⟨p, dx, sa, ra, rfl, hp, q⟩ := h
  refine ⟨_, pss_cons (ps_fld (pv 0) (pv 1) rfl) (pss_one (ps_fld (pv 0) (pv 2) rfl)), ?_⟩
  refine ⟨_, rfl, _, rfl, p, C, dx, [], rfl, hp, T.cl, T.nS, (by show 0 < 1000; decide), _, rfl, _, rfl, p, C, dx, _, rfl, upd_same, T.cl, T.nR, (by show 1 < 1000; decide), ?_⟩
  rw [upd_upd]
  exact q
theorem scAt : FnScope ["self", "number", "place", "sets", "line"] ["self", "number", "place", "sets"] (defScope sAt) := ⟨rfl, rfl, rfl, by decide +kernel, rfl, by decide +kernel, by decide +kernel⟩
theorem none_at {f C : Addr} {fd : FuncData} : FnOk P w K mg base CX0 0 f fd ["self", "number", "place", "sets"] (spAt K C 0) := by
  have no : ∀ vs H Q E, ¬ spAt K C 0 vs H Q E := fun vs H Q E h => by
    obtain ⟨_, _, n, _, _, _, _, _, _, _, _, _, h, _⟩ := h
    exact absurd h (Nat.not_lt_zero n)
  exact ⟨fun vs H Q E h => absurd h (no vs H Q E), fun A outer s H args us vs Q E _ _ _ _ h => absurd h (no vs H Q E)⟩
theorem ok_at1 {f C : Addr} {fd : FuncData} {k : Nat} (F : Fun K "at" "Reading.at" sAt f fd) (T : TxC K C) (mAt : Meth K C "at" f) (b : Binds K fd ["self", "number", "place", "sets"] []) (ml : mg "len" = none)
    (G : FnOk P w K mg base CX0 k f fd ["self", "number", "place", "sets"] (spAt K C k)) : FnOk P w K mg base CX0 (k + 1) f fd ["self", "number", "place", "sets"] (spAt K C (k + 1)) := by
  refine F.ok scAt (fun vs H Q E h => ?_) (fun cdv A outer s H vs Q E hr h => ?_)
  · obtain ⟨self, qa, n, p, ls, row, ss, rfl, _⟩ := h
    rfl
  obtain ⟨self, qa, n, p, ls, row, ss, rfl, R, S, hV, hP, hnk, hp, q⟩ := h
  refine ⟨_, pss_cons (ps_set (i := 4) scAt.nd rfl (Or.inl rfl) (pe_ix ix_tup (pe_fld (pv 0) rfl) (pv 1) (fun _ _ => rfl)))
    (pss_cons (ps_if (pt_cmpR op_eq (pe_ix ix_tup (pv 4) pe_int (fun _ _ => rfl)) pe_str (nomark _))
      (pss_one (ps_ret (pe_and (pe_cmpR op_lt (pe_ix ix_tup (pv 4) pe_int (fun _ _ => rfl)) (pe_callB call_len_seq (by rfl) ml PySem.boot_len (pa_cons (pv 3) pa_nil)) (nomark _))
        (pe_one (pe_cmpR op_in_seq (pv 2) (pe_ix ix_list (pv 3) (pe_ix ix_tup (pv 4) pe_int (fun _ _ => rfl)) (fun _ _ => rfl)) (by rfl)))))) pss_nil)
    (pss_cons (ps_if (pt_cmpR op_eq (pe_ix ix_tup (pv 4) pe_int (fun _ _ => rfl)) pe_str (nomark _))
      (pss_one (ps_ret (pe_cmpR op_eq (pe_ix ix_list (pe_fld (pv 0) rfl) (pv 2) (fun _ _ => rfl)) (pe_ix ix_tup (pv 4) pe_int (fun _ _ => rfl)) (nomark _)))) pss_nil)
    (pss_cons (ps_if (pt_cmpR op_eq (pe_ix ix_tup (pv 4) pe_int (fun _ _ => rfl)) pe_str (nomark _))
      (pss_one (ps_ret (pe_not (pe_meth (pv 0) T.cl mAt G hr b .nil pass0 (pa_cons (pe_ix ix_tup (pv 4) pe_int (fun _ _ => rfl)) (pa_cons (pv 2) (pa_cons (pv 3) pa_nil))))))) pss_nil)
    (pss_one (ps_ret (pe_and (pe_meth (pv 0) T.cl mAt G hr b .nil pass0 (pa_cons (pe_ix ix_tup (pv 4) pe_int (fun _ _ => rfl)) (pa_cons (pv 2) (pa_cons (pv 3) pa_nil))))
      (pe_one (pe_meth (pv 0) T.cl mAt G hr b .nil pass0 (pa_cons (pe_ix ix_tup (pv 4) pe_int (fun _ _ => rfl)) (pa_cons (pv 2) (pa_cons (pv 3) pa_nil)))))))))))
    , ?_⟩
  obtain ⟨dx, sa, ra, ps, hself, hsent, hlns, hrow⟩ := R.ex
  obtain ⟨qs, hqa, hqs⟩ := id S
  obtain ⟨l, hl, hpl⟩ := hV.pl hP
  obtain ⟨pl, hpl1, hpl2⟩ := hlns.at hl
  have noA : (pf sa ra).lookup ("at" : Str) = none := pf_no _ _ (by decide +kernel) (by decide +kernel)
  refine ⟨_, rfl, self, C, dx, _, _, rfl, hself, T.cl, T.nS, pf_sent _ _, _, rfl, sa, _, _, _, rfl, rfl, hsent, atI_nat hpl1, ?_⟩
  refine ⟨_, rfl, pl, _, 0, _, rfl, rfl, SqT.of hpl2, atI_nat (j := 0) rfl, rfl, _, rfl, ?_⟩
  cases hpl with
  | set i =>
    rw [dT "set"]
    refine iteT ?_
    refine ⟨_, rfl, pl, _, 1, _, rfl, rfl, SqT.of hpl2, atI_nat (j := 1) rfl, _, rfl, qa, _, rfl, .inl (SqL.of hqa), _, _, rfl, rfl, _, rfl, ?_⟩
    rw [at_set hl] at q
    rw [List.length_map, hqs.1]
    by_cases hi : (i : Int) < (ss.length : Int)
    · rw [decide_eq_true hi] at q ⊢
      refine iteT ?_
      have hi2 : i < ss.length := by omega
      obtain ⟨pq, hpq1, hpq2⟩ := hqs.at (List.getElem?_eq_getElem hi2)
      refine ⟨_, rfl, _, rfl, _, rfl, pl, _, 1, _, rfl, rfl, SqT.of hpl2, atI_nat (j := 1) rfl, qa, _, _, _, rfl, rfl, SqL.of hqa, atI_nat hpq1, pq, _, rfl, .inl (SqL.of hpq2), rfl, flat_ints _, ?_⟩
      show Q (.bl (inV (.int p) ((ss[i]).map V.int))) H
      rw [inV_int]
      have e : ss.getD i [] = ss[i] := by simp [List.getD, List.getElem?_eq_getElem hi2]
      rw [e, Bool.true_and] at q
      exact q
    · rw [decide_eq_false hi] at q ⊢
      exact iteF q
  | letter a =>
    rw [dF "letter" "set" (by decide +kernel)]
    refine iteF ?_
    refine ⟨_, rfl, pl, _, 0, _, rfl, rfl, SqT.of hpl2, atI_nat (j := 0) rfl, rfl, _, rfl, ?_⟩
    rw [dT "letter"]
    refine iteT ?_
    refine ⟨_, rfl, self, C, dx, _, _, rfl, hself, T.cl, T.nR, pf_row _ _, _, rfl, ra, _, _, _, rfl, rfl, hrow, atI_nat (j := p) (v := .int (row[p])) (by rw [List.getElem?_map, List.getElem?_eq_getElem hp]; rfl), ?_⟩
    refine ⟨_, rfl, pl, _, 1, _, rfl, rfl, SqT.of hpl2, atI_nat (j := 1) rfl, rfl, ?_⟩
    rw [at_letter hl] at q
    have e : row.getD p 0 = row[p] := by simp [List.getD, List.getElem?_eq_getElem hp]
    rw [e] at q
    have e2 : decide (V.int row[p] = V.int a) = decide (row[p] = a) := by rw [Bool.eq_iff_iff]; simp
    show Q (.bl (decide (V.int row[p] = V.int a))) H
    rw [e2]
    exact q
  | not c hc pc =>
    rw [dF "not" "set" (by decide +kernel)]
    refine iteF ?_
    refine ⟨_, rfl, pl, _, 0, _, rfl, rfl, SqT.of hpl2, atI_nat (j := 0) rfl, rfl, _, rfl, ?_⟩
    rw [dF "not" "letter" (by decide +kernel)]
    refine iteF ?_
    refine ⟨_, rfl, pl, _, 0, _, rfl, rfl, SqT.of hpl2, atI_nat (j := 0) rfl, rfl, _, rfl, ?_⟩
    rw [dT "not"]
    refine iteT ?_
    refine ⟨_, rfl, self, dx, _, rfl, hself, noA, _, rfl, pl, _, 1, _, rfl, rfl, SqT.of hpl2, atI_nat (j := 1) rfl, _, rfl, _, rfl, ?_⟩
    refine ⟨self, qa, c, p, ls, row, ss, rfl, R, S, hV, pc, by omega, hp, _, rfl, ?_⟩
    rw [at_not hl hc] at q
    exact q
  | and c d hc pc hd pd =>
    rw [dF "and" "set" (by decide +kernel)]
    refine iteF ?_
    refine ⟨_, rfl, pl, _, 0, _, rfl, rfl, SqT.of hpl2, atI_nat (j := 0) rfl, rfl, _, rfl, ?_⟩
    rw [dF "and" "letter" (by decide +kernel)]
    refine iteF ?_
    refine ⟨_, rfl, pl, _, 0, _, rfl, rfl, SqT.of hpl2, atI_nat (j := 0) rfl, rfl, _, rfl, ?_⟩
    rw [dF "and" "not" (by decide +kernel)]
    refine iteF ?_
    rw [at_and hl hc hd] at q
    refine ⟨_, rfl, self, dx, _, rfl, hself, noA, _, rfl, pl, _, 1, _, rfl, rfl, SqT.of hpl2, atI_nat (j := 1) rfl, _, rfl, _, rfl, ?_⟩
    refine ⟨self, qa, c, p, ls, row, ss, rfl, R, S, hV, pc, by omega, hp, _, rfl, ?_⟩
    refine ite2 (fun h => ?_) (fun h => ?_)
    · refine ⟨_, rfl, self, dx, _, rfl, hself, noA, _, rfl, pl, _, 2, _, rfl, rfl, SqT.of hpl2, atI_nat (j := 2) rfl, _, rfl, _, rfl, ?_⟩
      refine ⟨self, qa, d, p, ls, row, ss, rfl, R, S, hV, pd, by omega, hp, ?_⟩
      rw [h, Bool.true_and] at q
      exact q
    · rw [Bool.not_eq_true] at h
      rw [h, Bool.false_and] at q
      exact q
theorem ok_at {f C : Addr} {fd : FuncData} (F : Fun K "at" "Reading.at" sAt f fd) (T : TxC K C) (mAt : Meth K C "at" f) (b : Binds K fd ["self", "number", "place", "sets"] []) (ml : mg "len" = none) :
    ∀ k : Nat, FnOk P w K mg base CX0 k f fd ["self", "number", "place", "sets"] (spAt K C k)
  | 0 => none_at
  | k + 1 => ok_at1 F T mAt b ml (ok_at F T mAt b ml k)
end
end K15


set_option Elab.async false
set_option linter.all false
set_option maxRecDepth 100000
set_option maxHeartbeats 2000000
/-! Reading.so -/
namespace K15
open PySem PySem.Spec PyProof.Rows L2 GxR GX
def spSo (K : PySem.W.Frag) (C : Addr) (T : List Addr) (k : Nat) : Sp := fun vs H Q _ => ∃ (self qa : Addr) (n : Nat) (ls : List Ln) (row : List Int) (ss : List (List Int)), vs = [.ref self, .int n, .ref qa] ∧
  RdAt K C H self ls row ∧ SsAt H qa ss ∧ Valid ls ∧ isTx ls n ∧ n < k ∧ row.length ≤ 8 ∧ ls.length ≤ 64 ∧ ss.length + k ≤ 200 ∧ Tbs T H ∧ ∀ H', Ext T [] H H' → Q (.bl (soM ls row n ss)) H'
theorem all_yes {f : Nat → Bool} {n : Nat} (h : ∀ q, q < n → f q = true) : (List.range n).all f = true := by
  rw [List.all_eq_true]
  exact fun q hq => h q (List.mem_range.mp hq)
theorem all_no {f : Nat → Bool} {n i : Nat} (hi : i < n) (h : f i = false) : (List.range n).all f = false := by
  rw [Bool.eq_false_iff]
  intro z
  rw [List.all_eq_true] at z
  rw [z i (List.mem_range.mpr hi)] at h
  cases h
theorem any_no {f : Nat → Bool} {n : Nat} (h : ∀ q, q < n → f q = false) : (List.range n).any f = false := by
  rw [Bool.eq_false_iff]
  intro z
  rw [List.any_eq_true] at z
  obtain ⟨q, hq, e⟩ := z
  rw [h q (List.mem_range.mp hq)] at e
  cases e
theorem any_yes {f : Nat → Bool} {n i : Nat} (hi : i < n) (h : f i = true) : (List.range n).any f = true := by
  rw [List.any_eq_true]
  exact ⟨i, List.mem_range.mpr hi, h⟩
section
variable {P : Program} {w : World} {K : PySem.W.Frag} {mg : Str → Option Value} {base : Heap}
theorem scSo : FnScope ["self", "number", "sets", "line", "size"] ["self", "number", "sets"] (defScope sSo) := ⟨rfl, rfl, rfl, by decide +kernel, rfl, by decide +kernel, by decide +kernel⟩
theorem none_so {f C : Addr} {fd : FuncData} {T : List Addr} : FnOk P w K mg base CX0 66 f fd ["self", "number", "sets"] (spSo K C T 0) := by
  have no : ∀ vs H Q E, ¬ spSo K C T 0 vs H Q E := fun vs H Q E h => by
    obtain ⟨_, _, n, _, _, _, _, _, _, _, _, h, _⟩ := h
    exact absurd h (Nat.not_lt_zero n)
  exact ⟨fun vs H Q E h => absurd h (no vs H Q E), fun A outer s H args us vs Q E _ _ _ _ h => absurd h (no vs H Q E)⟩
structure MgS (mg : Str → Option Value) : Prop where
  len : mg "len" = none
  all : mg "all" = none
  any : mg "any" = none
  range : mg "range" = none
theorem ok_so1 {f fa fl c P2 C : Addr} {fd fda fdl : FuncData} {k : Nat} {T : List Addr} (F : Fun K "so" "Reading.so" sSo f fd) (hc : fd.code = .ref c) (TB : TabB base mg c P2) (hT : P2 ∈ T) (X : TxC K C) (M : MgS mg)
    (mAt : Meth K C "at" fa) (bAt : Binds K fda ["self", "number", "place", "sets"] []) (GA : FnOk P w K mg base CX0 64 fa fda ["self", "number", "place", "sets"] (spAt K C 64))
    (mSo : Meth K C "so" f) (b : Binds K fd ["self", "number", "sets"] [])
    (mAll : mg "all_sets" = some (.ref fl)) (kl : PySem.W.keepIn K (.ref fl) = true) (bl : Binds K fdl ["size"] []) (GL : FnOk P w K mg base CX0 1 fl fdl ["size"] (spAll T))
    (G : FnOk P w K mg base CX0 (66 + 2 * k) f fd ["self", "number", "sets"] (spSo K C T k)) : FnOk P w K mg base CX0 (66 + 2 * k + 1 + 1) f fd ["self", "number", "sets"] (spSo K C T (k + 1)) := by
  refine okT F hc scSo (fun vs H Q E h => ?_) (fun A outer s H vs Q E hr h => ?_)
  · obtain ⟨self, qa, n, ls, row, ss, rfl, _⟩ := h
    rfl
  obtain ⟨self, qa, n, ls, row, ss, rfl, R, S, hV, hP, hnk, hrow8, hls, hss, hTb, q⟩ := h
  have hr1 : Room 1 _ := hr.mono (show 1 ≤ 66 + 2 * k + 1 by omega)
  have hr0 : Room (66 + 2 * k) _ := hr.mono (show 66 + 2 * k ≤ 66 + 2 * k + 1 by omega)
  have hr64 : Room 64 _ := hr.mono (show 64 ≤ 66 + 2 * k + 1 by omega)
  have hr65 : Room (64 + 1) _ := hr.mono (show 64 + 1 ≤ 66 + 2 * k + 1 by omega)
  refine ⟨_, pss_cons (ps_set (i := 3) scSo.nd rfl (Or.inr rfl) (pe_ix ix_tup (pe_fld (pv 0) rfl) (pv 1) (fun _ _ => rfl)))
    (pss_cons (ps_set (i := 4) scSo.nd rfl (Or.inl rfl) (pe_callB call_len_seq (by rfl) M.len PySem.boot_len (pa_cons (pe_fld (pv 0) rfl) pa_nil)))
    (pss_cons (ps_if (pt_cmpR op_eq (pe_ix ix_tup (pv 3) pe_int (fun _ _ => rfl)) pe_str (nomark _))
      (pss_one (ps_ret (pe_allG hr rfl rfl M.all TB rfl (gsc_by (N := ["self", "number", "sets", "line", "size"]) (sc := defScope sSo) (by decide +kernel)) (pi_range1 (by rfl) M.range (pa_cons (pv 4) pa_nil))
        (fun _ _ _ _ _ _ _ => pe_meth (sp := spAt K C 64) (pv 0) X.cl mAt GA (room_g hr65 _) bAt .nil pass0 (pa_cons (pe_ix (r := rIxT K) ix_tup (pv 3) pe_int (fun _ _ => rfl)) (pa_cons (pv 5) (pa_cons (pv 2) pa_nil))))))) pss_nil)
    (pss_cons (ps_if (pt_cmpR op_eq (pe_ix ix_tup (pv 3) pe_int (fun _ _ => rfl)) pe_str (nomark _))
      (pss_one (ps_ret (pe_allG hr rfl rfl M.all TB rfl (gsc_by (N := ["self", "number", "sets", "line", "size"]) (sc := defScope sSo) (by decide +kernel)) (pi_range1 (by rfl) M.range (pa_cons (pe_op op_sub (pv 4) pe_int) pa_nil))
        (fun _ _ _ _ _ _ _ => pe_or (pe_not (pe_meth (sp := spAt K C 64) (pv 0) X.cl mAt GA (room_g hr65 _) bAt .nil pass0 (pa_cons (pe_ix (r := rIxT K) ix_tup (pv 3) pe_int (fun _ _ => rfl)) (pa_cons (pv 5) (pa_cons (pv 2) pa_nil)))))
          (pe_one (pe_meth (sp := spAt K C 64) (pv 0) X.cl mAt GA (room_g hr65 _) bAt .nil pass0 (pa_cons (pe_ix (r := rIxT K) ix_tup (pv 3) pe_int (fun _ _ => rfl)) (pa_cons (pe_op op_add (pv 5) pe_int) (pa_cons (pv 2) pa_nil))))))))) pss_nil)
    (pss_cons (ps_if (pt_cmpR op_in_seq (pe_ix ix_tup (pv 3) pe_int (fun _ _ => rfl)) (pe_tup (pa_cons pe_str (pa_cons pe_str pa_nil))) (by rfl))
      (pss_one (ps_ret (pe_or (pe_cmpR op_eq (pv 4) pe_int (nomark _)) (pe_one (pe_meth (pv 0) X.cl mAt GA hr64 bAt .nil pass0 (pa_cons (pe_ix ix_tup (pv 3) pe_int (fun _ _ => rfl))
        (pa_cons (pe_ifExp (pt_cmpR op_eq (pe_ix ix_tup (pv 3) pe_int (fun _ _ => rfl)) pe_str (nomark _)) pe_int (pe_op op_sub (pv 4) pe_int)) (pa_cons (pv 2) pa_nil)))))))) pss_nil)
    (pss_cons (ps_if (pt_cmpR op_eq (pe_ix ix_tup (pv 3) pe_int (fun _ _ => rfl)) pe_str (nomark _))
      (pss_one (ps_ret (pe_cmpR op_eq (pv 4) pe_int (nomark _)))) pss_nil)
    (pss_cons (ps_if (pt_cmpR op_eq (pe_ix ix_tup (pv 3) pe_int (fun _ _ => rfl)) pe_str (nomark _))
      (pss_one (ps_ret (pe_and (pe_cmpR op_lt (pe_ix ix_tup (pv 3) pe_int (fun _ _ => rfl)) (pe_callB call_len_seq (by rfl) M.len PySem.boot_len (pa_cons (pv 2) pa_nil)) (nomark _))
        (pe_one (pe_cmpR op_eq (pe_callB call_len_seq (by rfl) M.len PySem.boot_len (pa_cons (pe_ix ix_list (pv 2) (pe_ix ix_tup (pv 3) pe_int (fun _ _ => rfl)) (fun _ _ => rfl)) pa_nil)) pe_int (nomark _)))))) pss_nil)
    (pss_cons (ps_if (pt_cmpR op_eq (pe_ix ix_tup (pv 3) pe_int (fun _ _ => rfl)) pe_str (nomark _))
      (pss_one (ps_ret (pe_not (pe_meth (pv 0) X.cl mSo G hr0 b .nil pass0 (pa_cons (pe_ix ix_tup (pv 3) pe_int (fun _ _ => rfl)) (pa_cons (pv 2) pa_nil)))))) pss_nil)
    (pss_cons (ps_if (pt_cmpR op_eq (pe_ix ix_tup (pv 3) pe_int (fun _ _ => rfl)) pe_str (nomark _))
      (pss_one (ps_ret (pe_and (pe_meth (pv 0) X.cl mSo G hr0 b .nil pass0 (pa_cons (pe_ix ix_tup (pv 3) pe_int (fun _ _ => rfl)) (pa_cons (pv 2) pa_nil)))
        (pe_one (pe_meth (pv 0) X.cl mSo G hr0 b .nil pass0 (pa_cons (pe_ix ix_tup (pv 3) pe_int (fun _ _ => rfl)) (pa_cons (pv 2) pa_nil))))))) pss_nil)
    (pss_one (ps_ret (pe_anyG hr rfl rfl M.any TB rfl (gsc_by (N := ["self", "number", "sets", "line", "size"]) (sc := defScope sSo) (by decide +kernel)) (pi_list (pe_call GL hr1 (by rfl) mAll kl bl .nil pass0 (pa_cons (pv 4) pa_nil)))
        (fun _ _ _ _ _ _ _ => pe_meth (sp := spSo K C T k) (pv 0) X.cl mSo G (room_g hr _) b .nil pass0 (pa_cons (pe_ix (r := rIxT K) ix_tup (pv 3) pe_int (fun _ _ => rfl)) (pa_cons (pe_op op_cat (pv 2) (pe_lst (pa_cons (pv 5) pa_nil))) pa_nil))))))))))))))
    , ?_⟩
  -- GENERATED
  obtain ⟨dx, sa, ra, ps, hself, hsent, hlns, hrow⟩ := R.ex
  obtain ⟨qs, hqa, hqs⟩ := id S
  obtain ⟨l, hl, htl⟩ := hV.tx hP
  obtain ⟨pl, hpl1, hpl2⟩ := hlns.at hl
  have noAt : (pf sa ra).lookup ("at" : Str) = none := pf_no _ _ (by decide +kernel) (by decide +kernel)
  have noSo : (pf sa ra).lookup ("so" : Str) = none := pf_no _ _ (by decide +kernel) (by decide +kernel)
  have h64 : ∀ z, isPl ls z → z < 64 := fun z hz => Nat.lt_of_lt_of_le hz.lt hls
  have hb62 : (row.length : Int) < 2 ^ 62 := Int.lt_of_le_of_lt (show (row.length : Int) ≤ 8 by omega) (by decide)
  refine ⟨_, rfl, self, C, dx, _, _, rfl, hself, X.cl, X.nS, pf_sent _ _, _, rfl, sa, _, _, _, rfl, rfl, hsent, atI_nat hpl1, ?_⟩
  refine ⟨_, rfl, self, C, dx, _, _, rfl, hself, X.cl, X.nR, pf_row _ _, ra, _, rfl, .inl hrow, ?_⟩
  rw [List.length_map]
  refine ⟨_, rfl, pl, _, 0, _, rfl, rfl, SqT.of hpl2, atI_nat (j := 0) rfl, rfl, _, rfl, ?_⟩
  cases htl with
  | all c hc pc =>
    rw [dT "all"]
    refine iteT ?_
    refine ⟨_, rfl, (row.length : Int), rfl, by omega, hb62, hTb P2 hT, fun H2 t2 => ?_⟩
    have e2 : Ext T [] H H2 := Ext.tab (hTb P2 hT) t2
    refine ⟨fun i m H' => H' = H2 ∧ i + m = row.length ∧ ∀ z, z < i → atM ls row ss z c = true, ⟨row.length, rfl, by omega, fun z h => absurd h (Nat.not_lt_zero z)⟩, ?_⟩
    rintro i m H' ⟨rfl, him, hz⟩
    by_cases hi : i < row.length
    · refine .inr ⟨(by show i < ((row.length : Int)).toNat; omega), fun v H5 hy => ?_⟩
      obtain ⟨rfl, rfl⟩ := hy
      refine ⟨_, rfl, self, dx, _, rfl, e2.k hself, noAt, _, rfl, pl, _, 1, _, rfl, rfl, SqT.of (e2.k hpl2), atI_nat (j := 1) rfl, _, rfl, _, rfl, ?_⟩
      refine ⟨self, qa, c, i, ls, row, ss, by rw [Int.zero_add] <;> rfl, R.ext e2, S.ext e2, hV, pc, h64 _ pc, hi, _, rfl, ?_⟩
      refine ite2 (fun h => ⟨m - 1, by omega, rfl, by omega, fun z hz' => ?_⟩) (fun h => ?_)
      · by_cases e : z = i
        · rw [e]; exact h
        · exact hz z (by omega)
      · rw [Bool.not_eq_true] at h
        have fin := q _ e2
        rw [so_all hl, all_no hi h] at fin
        exact fin
    · refine .inl ⟨(by show ((row.length : Int)).toNat ≤ i; omega), ?_⟩
      have fin := q _ e2
      rw [so_all hl, all_yes (fun z h => hz z (by omega))] at fin
      exact fin
  | next c d hc pc hd pd =>
    rw [dF "next" "all" (by decide +kernel)]
    refine iteF ?_
    refine ⟨_, rfl, pl, _, 0, _, rfl, rfl, SqT.of hpl2, atI_nat (j := 0) rfl, rfl, _, rfl, ?_⟩
    rw [dT "next"]
    refine iteT ?_
    refine ⟨_, rfl, _, _, rfl, rfl, (row.length : Int) - 1, rfl, by omega, by omega, hTb P2 hT, fun H2 t2 => ?_⟩
    have e2 : Ext T [] H H2 := Ext.tab (hTb P2 hT) t2
    have en : ((row.length : Int) - 1).toNat = row.length - 1 := by omega
    refine ⟨fun i m H' => H' = H2 ∧ i + m = row.length - 1 ∧ ∀ z, z < i → (!(atM ls row ss z c) || atM ls row ss (z + 1) d) = true, ⟨row.length - 1, rfl, by omega, fun z h => absurd h (Nat.not_lt_zero z)⟩, ?_⟩
    rintro i m H' ⟨rfl, him, hz⟩
    by_cases hi : i < row.length - 1
    · refine .inr ⟨(by show i < ((row.length : Int) - 1).toNat; omega), fun v H5 hy => ?_⟩
      obtain ⟨rfl, rfl⟩ := hy
      refine ⟨_, rfl, self, dx, _, rfl, e2.k hself, noAt, _, rfl, pl, _, 1, _, rfl, rfl, SqT.of (e2.k hpl2), atI_nat (j := 1) rfl, _, rfl, _, rfl, ?_⟩
      refine ⟨self, qa, c, i, ls, row, ss, by rw [Int.zero_add] <;> rfl, R.ext e2, S.ext e2, hV, pc, h64 _ pc, by omega, _, rfl, _, rfl, ?_⟩
      have step : (!(atM ls row ss i c) || atM ls row ss (i + 1) d) = true → ∀ z, z < i + 1 → (!(atM ls row ss z c) || atM ls row ss (z + 1) d) = true := fun h z hz' => by
        by_cases e : z = i
        · rw [e]; exact h
        · exact hz z (by omega)
      refine ite2 (fun h => ⟨true, rfl, iteT ⟨m - 1, by omega, rfl, by omega, step (by rw [h] <;> rfl)⟩⟩) (fun h => ?_)
      rw [Bool.not_eq_true] at h
      refine ⟨_, rfl, self, dx, _, rfl, e2.k hself, noAt, _, rfl, pl, _, 2, _, rfl, rfl, SqT.of (e2.k hpl2), atI_nat (j := 2) rfl, _, rfl, _, _, rfl, rfl, _, rfl, ?_⟩
      refine ⟨self, qa, d, i + 1, ls, row, ss, by rw [Int.zero_add] <;> rfl, R.ext e2, S.ext e2, hV, pd, h64 _ pd, by omega, _, rfl, ?_⟩
      refine ite2 (fun h2 => ⟨m - 1, by omega, rfl, by omega, step (by rw [h, h2] <;> rfl)⟩) (fun h2 => ?_)
      rw [Bool.not_eq_true] at h2
      have fin := q _ e2
      rw [so_next hl, all_no hi (by rw [h, h2] <;> rfl)] at fin
      exact fin
    · refine .inl ⟨(by show ((row.length : Int) - 1).toNat ≤ i; omega), ?_⟩
      have fin := q _ e2
      rw [so_next hl, all_yes (fun z h => hz z (by omega))] at fin
      exact fin
  | first c hc pc =>
    rw [dF "first" "all" (by decide +kernel)]
    refine iteF ?_
    refine ⟨_, rfl, pl, _, 0, _, rfl, rfl, SqT.of hpl2, atI_nat (j := 0) rfl, rfl, _, rfl, ?_⟩
    rw [dF "first" "next" (by decide +kernel)]
    refine iteF ?_
    refine ⟨_, rfl, pl, _, 0, _, rfl, rfl, SqT.of hpl2, atI_nat (j := 0) rfl, (by show 2 ≤ sizeLine; decide), fun t ht => ?_⟩
    have e1 : Ext T [] H (upd H t (.tup [.str "first", .str "last"])) := Ext.new ht _
    refine ⟨t, _, rfl, .inr (SqT.of upd_same), rfl, rfl, _, rfl, ?_⟩
    have ein : inV (V.str "first") [.str "first", .str "last"] = true := by decide +kernel
    refine ite2 (fun _ => ?_) (fun h => absurd ein h)
    refine ⟨_, rfl, rfl, _, rfl, ?_⟩
    refine ite2 (fun h => ?_) (fun h => ?_)
    · have h0 : row.length = 0 := by
        have := V.int.inj (of_decide_eq_true h)
        omega
      have fin := q _ e1
      rw [so_first hl, decide_eq_true h0, Bool.true_or] at fin
      exact fin
    · have h0 : ¬ row.length = 0 := fun z => h (decide_eq_true (by rw [z] <;> rfl))
      refine ⟨_, rfl, self, dx, _, rfl, e1.k hself, noAt, _, rfl, pl, _, 1, _, rfl, rfl, SqT.of (e1.k hpl2), atI_nat (j := 1) rfl, ?_⟩
      refine ⟨_, rfl, pl, _, 0, _, rfl, rfl, SqT.of (e1.k hpl2), atI_nat (j := 0) rfl, rfl, _, rfl, ?_⟩
      rw [dT "first"]
      refine iteT ?_
      refine ⟨_, rfl, self, qa, c, 0, ls, row, ss, rfl, R.ext e1, S.ext e1, hV, pc, h64 _ pc, by omega, ?_⟩
      have fin := q _ e1
      rw [so_first hl, decide_eq_false h0, Bool.false_or] at fin
      exact fin
  | last c hc pc =>
    rw [dF "last" "all" (by decide +kernel)]
    refine iteF ?_
    refine ⟨_, rfl, pl, _, 0, _, rfl, rfl, SqT.of hpl2, atI_nat (j := 0) rfl, rfl, _, rfl, ?_⟩
    rw [dF "last" "next" (by decide +kernel)]
    refine iteF ?_
    refine ⟨_, rfl, pl, _, 0, _, rfl, rfl, SqT.of hpl2, atI_nat (j := 0) rfl, (by show 2 ≤ sizeLine; decide), fun t ht => ?_⟩
    have e1 : Ext T [] H (upd H t (.tup [.str "first", .str "last"])) := Ext.new ht _
    refine ⟨t, _, rfl, .inr (SqT.of upd_same), rfl, rfl, _, rfl, ?_⟩
    have ein : inV (V.str "last") [.str "first", .str "last"] = true := by decide +kernel
    refine ite2 (fun _ => ?_) (fun h => absurd ein h)
    refine ⟨_, rfl, rfl, _, rfl, ?_⟩
    refine ite2 (fun h => ?_) (fun h => ?_)
    · have h0 : row.length = 0 := by
        have := V.int.inj (of_decide_eq_true h)
        omega
      have fin := q _ e1
      rw [so_last hl, decide_eq_true h0, Bool.true_or] at fin
      exact fin
    · have h0 : ¬ row.length = 0 := fun z => h (decide_eq_true (by rw [z] <;> rfl))
      refine ⟨_, rfl, self, dx, _, rfl, e1.k hself, noAt, _, rfl, pl, _, 1, _, rfl, rfl, SqT.of (e1.k hpl2), atI_nat (j := 1) rfl, ?_⟩
      refine ⟨_, rfl, pl, _, 0, _, rfl, rfl, SqT.of (e1.k hpl2), atI_nat (j := 0) rfl, rfl, _, rfl, ?_⟩
      rw [dF "last" "first" (by decide +kernel)]
      refine iteF ?_
      have ek : ((row.length : Int) - 1) = ((row.length - 1 : Nat) : Int) := by omega
      refine ⟨_, rfl, _, _, rfl, rfl, _, rfl, self, qa, c, row.length - 1, ls, row, ss, by dsimp only; rw [ek] <;> rfl, R.ext e1, S.ext e1, hV, pc, h64 _ pc, by omega, ?_⟩
      have fin := q _ e1
      rw [so_last hl, decide_eq_false h0, Bool.false_or] at fin
      exact fin
  | nothing =>
    rw [dF "nothing" "all" (by decide +kernel)]
    refine iteF ?_
    refine ⟨_, rfl, pl, _, 0, _, rfl, rfl, SqT.of hpl2, atI_nat (j := 0) rfl, rfl, _, rfl, ?_⟩
    rw [dF "nothing" "next" (by decide +kernel)]
    refine iteF ?_
    refine ⟨_, rfl, pl, _, 0, _, rfl, rfl, SqT.of hpl2, atI_nat (j := 0) rfl, (by show 2 ≤ sizeLine; decide), fun t ht => ?_⟩
    have e1 : Ext T [] H (upd H t (.tup [.str "first", .str "last"])) := Ext.new ht _
    refine ⟨t, _, rfl, .inr (SqT.of upd_same), rfl, rfl, _, rfl, ?_⟩
    have ein : inV (V.str "nothing") [.str "first", .str "last"] = false := by decide +kernel
    refine ite2 (fun h => absurd (ein.symm.trans h) Bool.false_ne_true) (fun _ => ?_)
    refine ⟨_, rfl, pl, _, 0, _, rfl, rfl, SqT.of (e1.k hpl2), atI_nat (j := 0) rfl, rfl, _, rfl, ?_⟩
    rw [dT "nothing"]
    refine iteT ?_
    refine ⟨_, rfl, rfl, ?_⟩
    have fin := q _ e1
    have ed : decide (V.int (row.length : Int) = V.int 0) = decide (row.length = 0) := by
      rw [Bool.eq_iff_iff]
      simp
    rw [so_nothing hl] at fin
    rw [ed]
    exact fin
  | one i =>
    rw [dF "one" "all" (by decide +kernel)]
    refine iteF ?_
    refine ⟨_, rfl, pl, _, 0, _, rfl, rfl, SqT.of hpl2, atI_nat (j := 0) rfl, rfl, _, rfl, ?_⟩
    rw [dF "one" "next" (by decide +kernel)]
    refine iteF ?_
    refine ⟨_, rfl, pl, _, 0, _, rfl, rfl, SqT.of hpl2, atI_nat (j := 0) rfl, (by show 2 ≤ sizeLine; decide), fun t ht => ?_⟩
    have e1 : Ext T [] H (upd H t (.tup [.str "first", .str "last"])) := Ext.new ht _
    refine ⟨t, _, rfl, .inr (SqT.of upd_same), rfl, rfl, _, rfl, ?_⟩
    have ein : inV (V.str "one") [.str "first", .str "last"] = false := by decide +kernel
    refine ite2 (fun h => absurd (ein.symm.trans h) Bool.false_ne_true) (fun _ => ?_)
    refine ⟨_, rfl, pl, _, 0, _, rfl, rfl, SqT.of (e1.k hpl2), atI_nat (j := 0) rfl, rfl, _, rfl, ?_⟩
    rw [dF "one" "nothing" (by decide +kernel)]
    refine iteF ?_
    refine ⟨_, rfl, pl, _, 0, _, rfl, rfl, SqT.of (e1.k hpl2), atI_nat (j := 0) rfl, rfl, _, rfl, ?_⟩
    rw [dT "one"]
    refine iteT ?_
    refine ⟨_, rfl, pl, _, 1, _, rfl, rfl, SqT.of (e1.k hpl2), atI_nat (j := 1) rfl, _, rfl, qa, _, rfl, .inl (SqL.of (e1.k hqa)), _, _, rfl, rfl, _, rfl, ?_⟩
    have fin := q _ e1
    rw [so_one hl] at fin
    rw [List.length_map, hqs.1]
    by_cases hi : (i : Int) < (ss.length : Int)
    · rw [decide_eq_true hi] at fin ⊢
      refine iteT ?_
      have hi2 : i < ss.length := by omega
      obtain ⟨pq, hpq1, hpq2⟩ := hqs.at (List.getElem?_eq_getElem hi2)
      refine ⟨_, rfl, _, rfl, pl, _, 1, _, rfl, rfl, SqT.of (e1.k hpl2), atI_nat (j := 1) rfl, qa, _, _, _, rfl, rfl, SqL.of (e1.k hqa), atI_nat hpq1, pq, _, rfl, .inl (SqL.of (e1.k hpq2)), rfl, ?_⟩
      have e : ss.getD i [] = ss[i] := by simp [List.getD, List.getElem?_eq_getElem hi2]
      have ed : decide (V.int (((ss[i]).map V.int).length : Int) = V.int 1) = decide ((ss[i]).length = 1) := by
        rw [List.length_map, Bool.eq_iff_iff]
        simp
        omega
      rw [e, Bool.true_and] at fin
      rw [ed]
      exact fin
    · rw [decide_eq_false hi] at fin ⊢
      exact iteF fin
  | denied g hg pg =>
    rw [dF "denied" "all" (by decide +kernel)]
    refine iteF ?_
    refine ⟨_, rfl, pl, _, 0, _, rfl, rfl, SqT.of hpl2, atI_nat (j := 0) rfl, rfl, _, rfl, ?_⟩
    rw [dF "denied" "next" (by decide +kernel)]
    refine iteF ?_
    refine ⟨_, rfl, pl, _, 0, _, rfl, rfl, SqT.of hpl2, atI_nat (j := 0) rfl, (by show 2 ≤ sizeLine; decide), fun t ht => ?_⟩
    have e1 : Ext T [] H (upd H t (.tup [.str "first", .str "last"])) := Ext.new ht _
    refine ⟨t, _, rfl, .inr (SqT.of upd_same), rfl, rfl, _, rfl, ?_⟩
    have ein : inV (V.str "denied") [.str "first", .str "last"] = false := by decide +kernel
    refine ite2 (fun h => absurd (ein.symm.trans h) Bool.false_ne_true) (fun _ => ?_)
    refine ⟨_, rfl, pl, _, 0, _, rfl, rfl, SqT.of (e1.k hpl2), atI_nat (j := 0) rfl, rfl, _, rfl, ?_⟩
    rw [dF "denied" "nothing" (by decide +kernel)]
    refine iteF ?_
    refine ⟨_, rfl, pl, _, 0, _, rfl, rfl, SqT.of (e1.k hpl2), atI_nat (j := 0) rfl, rfl, _, rfl, ?_⟩
    rw [dF "denied" "one" (by decide +kernel)]
    refine iteF ?_
    refine ⟨_, rfl, pl, _, 0, _, rfl, rfl, SqT.of (e1.k hpl2), atI_nat (j := 0) rfl, rfl, _, rfl, ?_⟩
    rw [dT "denied"]
    refine iteT ?_
    refine ⟨_, rfl, self, dx, _, rfl, e1.k hself, noSo, _, rfl, pl, _, 1, _, rfl, rfl, SqT.of (e1.k hpl2), atI_nat (j := 1) rfl, _, rfl, ?_⟩
    refine ⟨self, qa, g, ls, row, ss, rfl, R.ext e1, S.ext e1, hV, pg, by omega, hrow8, hls, by omega, e1.tbs hTb, fun H2 e2 => ⟨_, rfl, ?_⟩⟩
    have fin := q _ (e1.trans e2)
    rw [so_denied hl hg] at fin
    exact fin
  | both g g2 hg pg hg2 pg2 =>
    rw [dF "both" "all" (by decide +kernel)]
    refine iteF ?_
    refine ⟨_, rfl, pl, _, 0, _, rfl, rfl, SqT.of hpl2, atI_nat (j := 0) rfl, rfl, _, rfl, ?_⟩
    rw [dF "both" "next" (by decide +kernel)]
    refine iteF ?_
    refine ⟨_, rfl, pl, _, 0, _, rfl, rfl, SqT.of hpl2, atI_nat (j := 0) rfl, (by show 2 ≤ sizeLine; decide), fun t ht => ?_⟩
    have e1 : Ext T [] H (upd H t (.tup [.str "first", .str "last"])) := Ext.new ht _
    refine ⟨t, _, rfl, .inr (SqT.of upd_same), rfl, rfl, _, rfl, ?_⟩
    have ein : inV (V.str "both") [.str "first", .str "last"] = false := by decide +kernel
    refine ite2 (fun h => absurd (ein.symm.trans h) Bool.false_ne_true) (fun _ => ?_)
    refine ⟨_, rfl, pl, _, 0, _, rfl, rfl, SqT.of (e1.k hpl2), atI_nat (j := 0) rfl, rfl, _, rfl, ?_⟩
    rw [dF "both" "nothing" (by decide +kernel)]
    refine iteF ?_
    refine ⟨_, rfl, pl, _, 0, _, rfl, rfl, SqT.of (e1.k hpl2), atI_nat (j := 0) rfl, rfl, _, rfl, ?_⟩
    rw [dF "both" "one" (by decide +kernel)]
    refine iteF ?_
    refine ⟨_, rfl, pl, _, 0, _, rfl, rfl, SqT.of (e1.k hpl2), atI_nat (j := 0) rfl, rfl, _, rfl, ?_⟩
    rw [dF "both" "denied" (by decide +kernel)]
    refine iteF ?_
    refine ⟨_, rfl, pl, _, 0, _, rfl, rfl, SqT.of (e1.k hpl2), atI_nat (j := 0) rfl, rfl, _, rfl, ?_⟩
    rw [dT "both"]
    refine iteT ?_
    refine ⟨_, rfl, self, dx, _, rfl, e1.k hself, noSo, _, rfl, pl, _, 1, _, rfl, rfl, SqT.of (e1.k hpl2), atI_nat (j := 1) rfl, _, rfl, ?_⟩
    refine ⟨self, qa, g, ls, row, ss, rfl, R.ext e1, S.ext e1, hV, pg, by omega, hrow8, hls, by omega, e1.tbs hTb, fun H2 e2 => ⟨_, rfl, ?_⟩⟩
    have e3 := e1.trans e2
    refine ite2 (fun h => ?_) (fun h => ?_)
    · refine ⟨_, rfl, self, dx, _, rfl, e3.k hself, noSo, _, rfl, pl, _, 2, _, rfl, rfl, SqT.of (e3.k hpl2), atI_nat (j := 2) rfl, _, rfl, ?_⟩
      refine ⟨self, qa, g2, ls, row, ss, rfl, R.ext e3, S.ext e3, hV, pg2, by omega, hrow8, hls, by omega, e3.tbs hTb, fun H4 e4 => ?_⟩
      have fin := q _ (e3.trans e4)
      rw [so_both hl hg hg2, h, Bool.true_and] at fin
      exact fin
    · rw [Bool.not_eq_true] at h
      have fin := q _ e3
      rw [so_both hl hg hg2, h, Bool.false_and] at fin
      exact fin
  | there g hg pg =>
    rw [dF "there" "all" (by decide +kernel)]
    refine iteF ?_
    refine ⟨_, rfl, pl, _, 0, _, rfl, rfl, SqT.of hpl2, atI_nat (j := 0) rfl, rfl, _, rfl, ?_⟩
    rw [dF "there" "next" (by decide +kernel)]
    refine iteF ?_
    refine ⟨_, rfl, pl, _, 0, _, rfl, rfl, SqT.of hpl2, atI_nat (j := 0) rfl, (by show 2 ≤ sizeLine; decide), fun t ht => ?_⟩
    have e1 : Ext T [] H (upd H t (.tup [.str "first", .str "last"])) := Ext.new ht _
    refine ⟨t, _, rfl, .inr (SqT.of upd_same), rfl, rfl, _, rfl, ?_⟩
    have ein : inV (V.str "there") [.str "first", .str "last"] = false := by decide +kernel
    refine ite2 (fun h => absurd (ein.symm.trans h) Bool.false_ne_true) (fun _ => ?_)
    refine ⟨_, rfl, pl, _, 0, _, rfl, rfl, SqT.of (e1.k hpl2), atI_nat (j := 0) rfl, rfl, _, rfl, ?_⟩
    rw [dF "there" "nothing" (by decide +kernel)]
    refine iteF ?_
    refine ⟨_, rfl, pl, _, 0, _, rfl, rfl, SqT.of (e1.k hpl2), atI_nat (j := 0) rfl, rfl, _, rfl, ?_⟩
    rw [dF "there" "one" (by decide +kernel)]
    refine iteF ?_
    refine ⟨_, rfl, pl, _, 0, _, rfl, rfl, SqT.of (e1.k hpl2), atI_nat (j := 0) rfl, rfl, _, rfl, ?_⟩
    rw [dF "there" "denied" (by decide +kernel)]
    refine iteF ?_
    refine ⟨_, rfl, pl, _, 0, _, rfl, rfl, SqT.of (e1.k hpl2), atI_nat (j := 0) rfl, rfl, _, rfl, ?_⟩
    rw [dF "there" "both" (by decide +kernel)]
    refine iteF ?_
    refine ⟨_, rfl, row.length, rfl, hrow8, fun r qs' H2 e2 hr2 hi2 => ?_⟩
    have e3 := e1.trans e2
    have hTb3 := e3.tbs hTb
    refine ⟨r, rfl, ⟨_, SqL.of hr2⟩, hTb3 P2 hT, fun H4 t4 => ?_⟩
    have e4 : Ext T [] H2 H4 := Ext.tab (hTb3 P2 hT) t4
    have eW : Ext T [] H H4 := e3.trans e4
    refine ⟨fun i m H' => Ext T [] H4 H' ∧ i + m = 2 ^ row.length ∧ ∀ z, z < i → soM ls row g (ss ++ [subs z row.length]) = false, ⟨2 ^ row.length, Ext.refl _, by omega, fun z h => absurd h (Nat.not_lt_zero z)⟩, ?_⟩
    rintro i m H5 ⟨e5, him, hz⟩
    have e6 : Ext T [] H H5 := eW.trans e5
    have hr5 : H5 r = some (.lst (qs'.map V.ref)) := (e4.trans e5).k hr2
    have ql : qs'.length = 2 ^ row.length := by rw [hi2.1, setsM_length]
    by_cases hi : i < 2 ^ row.length
    · have hsi : (setsM row.length)[i]? = some (subs i row.length) := by
        unfold setsM
        rw [List.getElem?_map, List.getElem?_range hi]
        rfl
      obtain ⟨pq, hpq1, hpq2⟩ := hi2.at hsi
      have hpq5 := (e4.trans e5).k hpq2
      refine .inr ⟨⟨_, _, SqL.of hr5, hpq1⟩, fun v H6 hy => ?_⟩
      obtain ⟨rfl, hy⟩ := hy
      have hv := hy _ (SqL.of hr5)
      rw [hpq1] at hv
      cases hv
      refine ⟨_, rfl, self, dx, _, rfl, e6.k hself, noSo, _, rfl, pl, _, 1, _, rfl, rfl, SqT.of (e6.k hpl2), atI_nat (j := 1) rfl, _, rfl, _, rfl, (by show 1 ≤ sizeLine; decide), fun t1 ht1 => ?_⟩
      have e7 : Ext T [] H6 (upd H6 t1 (.lst [.ref pq])) := Ext.new ht1 _
      refine ⟨qa, t1, _, _, rfl, rfl, e7.k (e6.k hqa), upd_same, ?_, fun t2 ht2 => ?_⟩
      · rw [List.length_map, List.length_singleton, hqs.1]
        exact small (by omega)
      have e8 : Ext T [] H6 (upd (upd H6 t1 (.lst [.ref pq])) t2 (.lst (qs.map V.ref ++ [.ref pq]))) := e7.trans (Ext.new ht2 _)
      have e9 := e6.trans e8
      refine ⟨self, t2, g, ls, row, ss ++ [subs i row.length], rfl, R.ext e9, ⟨qs ++ [pq], ?_, (hqs.ext e9).snoc (e8.k hpq5)⟩, hV, pg, by omega, hrow8, hls, ?_, e9.tbs hTb, fun H10 e10 => ⟨_, rfl, ?_⟩⟩
      · rw [upd_same, List.map_append]
        rfl
      · rw [List.length_append, List.length_singleton]
        omega
      · refine ite2 (fun h => ?_) (fun h => ⟨m - 1, by omega, e5.trans (e8.trans e10), by omega, fun z hz' => ?_⟩)
        · have fin := q _ (e9.trans e10)
          rw [so_there hl hg, any_yes hi h] at fin
          exact fin
        · by_cases e : z = i
          · rw [e]
            exact Bool.eq_false_iff.mpr h
          · exact hz z (by omega)
    · refine .inl ⟨⟨_, SqL.of hr5, by rw [List.length_map, ql]; omega⟩, ?_⟩
      have fin := q _ e6
      rw [so_there hl hg, any_no (fun z h => hz z (by omega))] at fin
      exact fin
theorem ok_so {f fa fl c P2 C : Addr} {fd fda fdl : FuncData} {T : List Addr} (F : Fun K "so" "Reading.so" sSo f fd) (hc : fd.code = .ref c) (TB : TabB base mg c P2) (hT : P2 ∈ T) (X : TxC K C) (M : MgS mg)
    (mAt : Meth K C "at" fa) (bAt : Binds K fda ["self", "number", "place", "sets"] []) (GA : FnOk P w K mg base CX0 64 fa fda ["self", "number", "place", "sets"] (spAt K C 64))
    (mSo : Meth K C "so" f) (b : Binds K fd ["self", "number", "sets"] [])
    (mAll : mg "all_sets" = some (.ref fl)) (kl : PySem.W.keepIn K (.ref fl) = true) (bl : Binds K fdl ["size"] []) (GL : FnOk P w K mg base CX0 1 fl fdl ["size"] (spAll T)) :
    ∀ k : Nat, FnOk P w K mg base CX0 (66 + 2 * k) f fd ["self", "number", "sets"] (spSo K C T k)
  | 0 => none_so
  | k + 1 => ok_so1 F hc TB hT X M mAt bAt GA mSo b mAll kl bl GL (ok_so F hc TB hT X M mAt bAt GA mSo b mAll kl bl GL k)
end
end K15


set_option Elab.async false
set_option linter.all false
set_option maxRecDepth 100000
set_option maxHeartbeats 2000000
/-! holds -/
namespace K15
open PySem PySem.Spec PyProof.Rows L2 GxR GX
def rList (K : PySem.W.Frag) : List V → Hp → VK → Prop := fun xs H Q => ∃ p ys, xs = [.ref p] ∧ (SqL K H p ys ∨ SqT K H p ys) ∧ ∀ l, H l = none → Q (.ref l) (upd H l (.lst ys))
theorem call_listK {X : Cx} : CallR X (.type "list") (rList X.K) := call_list_of
def rLen (K : PySem.W.Frag) : List V → Hp → VK → Prop := fun xs H Q => ∃ p ys, xs = [.ref p] ∧ (SqL K H p ys ∨ SqT K H p ys) ∧ Q (.int ys.length) H
theorem call_lenK {X : Cx} : CallR X (.builtin "len") (rLen X.K) := call_len_seq
def spHolds (K : PySem.W.Frag) (T : List Addr) : Sp := fun vs H Q _ => ∃ (sa ra qa : Addr) (ps : List Addr) (ls : List Ln) (row : List Int) (ss : List (List Int)), vs = [.ref sa, .ref ra, .ref qa] ∧
  SqT K H sa (ps.map V.ref) ∧ Lns H ps ls ∧ SqL K H ra (row.map V.int) ∧ SsAt H qa ss ∧ Valid ls ∧ isTx ls (ls.length - 1) ∧ row.length ≤ 8 ∧ ls.length ≤ 40 ∧ ss.length ≤ 8 ∧ Tbs T H ∧
  ∀ H', Ext T [] H H' → Q (.bl (soM ls row (ls.length - 1) ss)) H'
section
variable {P : Program} {w : World} {K : PySem.W.Frag} {mg : Str → Option Value} {base : Heap}
theorem scHolds : FnScope ["sentence", "row", "sets", "chosen"] ["sentence", "row", "sets"] (defScope sHolds) := ⟨rfl, rfl, rfl, by decide +kernel, rfl, by decide +kernel, by decide +kernel⟩
theorem ok_holds {f fi fs C : Addr} {fd fdi fds : FuncData} {T : List Addr} (F : Fun K "holds" "holds" sHolds f fd) (X : TxC K C) (mC : mg "Reading" = some (.ref C)) (ml : mg "len" = none) (mli : mg "list" = none)
    (M : Mk K C fi) (FI : FnOk P w K mg base CX0 1 fi fdi ["self", "sentence", "row"] (spInit C)) (bI : Binds K fdi ["self", "sentence", "row"] [])
    (mSo : Meth K C "so" fs) (b : Binds K fds ["self", "number", "sets"] []) (G : FnOk P w K mg base CX0 146 fs fds ["self", "number", "sets"] (spSo K C T 40)) :
    FnOk P w K mg base CX0 147 f fd ["sentence", "row", "sets"] (spHolds K T) := by
  refine F.ok scHolds (fun vs H Q E h => ?_) (fun cdv A outer s H vs Q E hr h => ?_)
  · obtain ⟨sa, ra, qa, ps, ls, row, ss, rfl, _⟩ := h
    rfl
  obtain ⟨sa, ra, qa, ps, ls, row, ss, rfl, hsent, hlns, hrow, S, hV, hP, hrow8, hls, hss, hTb, q⟩ := h
  refine ⟨_, pss_one (ps_ret (pe_meth (pe_make M FI (hr.mono (by decide)) (by rfl) mC bI .nil pass0 (pa_cons (pv 0) (pa_cons (pv 1) pa_nil))) X.cl mSo G hr b .nil pass0
    (pa_cons (pe_op op_sub (pe_callB call_len_seq (by rfl) ml PySem.boot_len (pa_cons (pv 0) pa_nil)) pe_int)
      (pa_cons (pe_lc (own := [("chosen", 3)]) (g := gName 3) (tt := tYes) rfl scHolds.nd (pi_list (pv 2)) (blkOk_by (own := [("chosen", 3)]) (N := ["sentence", "row", "sets", "chosen"]) (sc := defScope sHolds) (by decide +kernel))
          (fun _ _ _ _ _ => pg_name (i := 3) scHolds.nd rfl (Or.inl rfl)) (fun _ _ _ _ _ => pts_nil)
          (fun _ _ _ _ _ => pe_callTy (T := "list") (r := rList K) call_listK (by rfl) mli (by decide +kernel) (pa_cons (pv 3) pa_nil))) pa_nil)))), ?_⟩
  obtain ⟨qs, hqa, hqs⟩ := id S
  have noSo : (pf sa ra).lookup ("so" : Str) = none := pf_no _ _ (by decide +kernel) (by decide +kernel)
  refine ⟨_, rfl, _, rfl, fun x dx hx hdx hne => ?_⟩
  have e0 : Ext T [] H (upd (upd H dx (.own x)) x (.ins C dx [])) := ((Ext.refl H).put hdx _).put hx _
  refine ⟨x, dx, sa, ra, rfl, upd_same, rfl, ?_⟩
  rw [upd_upd]
  have e1 : Ext T [] H (upd (upd H dx (.own x)) x (.ins C dx (pf sa ra))) := ((Ext.refl H).put hdx _).put hx _
  generalize hH1 : upd (upd H dx (.own x)) x (.ins C dx (pf sa ra)) = H1 at e1 ⊢
  have hx1 : H1 x = some (.ins C dx (pf sa ra)) := by rw [← hH1, upd_same]
  have hne0 : ls.length ≠ 0 := by have := hP.lt; omega
  refine ⟨x, dx, _, rfl, hx1, noSo, ?_⟩
  refine ⟨_, rfl, sa, _, rfl, .inr (e1.sqT hsent), _, _, rfl, rfl, _, rfl, qa, rfl, ⟨_, SqL.of (e1.k hqa)⟩, fun D hD => ?_⟩
  refine lc_list (K := K) (a := qa) (xs := qs.map V.ref) (fun j H' => ∃ rs : List Addr, Ext T [] H1 H' ∧ H' D = some (.lst (rs.map V.ref)) ∧ Ints H' rs (ss.take j))
    ⟨[], Ext.new hD _, upd_same, Ints.nil⟩ (fun j H' _ ⟨_, e, _⟩ => SqL.of (e.k (e1.k hqa))) ?_ ?_
  · rintro j y H2 hy ⟨rs, e2, hD2, hr2⟩
    have hjl : j < qs.length := by
      have := (List.getElem?_eq_some_iff.mp hy).1
      simpa using this
    obtain ⟨s1, hs1⟩ : ∃ s1, ss[j]? = some s1 := ⟨_, List.getElem?_eq_getElem (by rw [← hqs.1]; exact hjl)⟩
    obtain ⟨p, hp, hps⟩ := hqs.at hs1
    rw [hp] at hy
    cases hy
    have hps2 := e2.k (e1.k hps)
    refine ⟨rfl, yes_ ?_⟩
    refine ⟨_, rfl, p, _, rfl, .inl (SqL.of hps2), fun t ht => ?_⟩
    have e3 : Ext T [] H2 (upd H2 t (.lst (s1.map V.int))) := Ext.new ht _
    have nt : t ≠ D := fun z => by rw [z, hD2] at ht; cases ht
    have ntake : ss.take (j + 1) = ss.take j ++ [s1] := by
      rw [List.take_succ, hs1]
      rfl
    have rlen : rs.length = j := by
      rw [hr2.1, List.length_take, ← hqs.1]
      omega
    refine ⟨_, e3.k hD2, ?_, rs ++ [t], (e2.trans e3).put hD _, ?_, ?_⟩
    · rw [List.length_map, rlen]
      have := hqs.1
      exact small1000 (by omega)
    · rw [upd_same, List.map_append]
      rfl
    · rw [ntake]
      refine Ints.snoc ?_ (by rw [upd_ne nt, upd_same])
      have h5 : Ints _ rs _ := hr2.ext e3
      refine ⟨h5.1, fun a b c u v => ?_⟩
      have h6 := h5.2 a b c u v
      have nb : b ≠ D := fun z => by
        have h7 := e3.k hD2
        rw [z, h7] at h6
        injection h6 with h8
        injection h8 with h9
        have hm : V.ref D ∈ rs.map V.ref := List.mem_map.mpr ⟨b, List.mem_of_getElem? u, by rw [z]⟩
        rw [h9] at hm
        obtain ⟨_, _, e⟩ := List.mem_map.mp hm
        cases e
      rw [upd_ne nb]
      exact h6
  · rintro H2 ⟨rs, e2, hD2, hr2⟩
    have e3 := e1.trans e2
    have hr3 : Ints H2 rs ss := by
      have : ss.take (qs.map V.ref).length = ss := by
        rw [List.length_map, hqs.1, List.take_length]
      rw [this] at hr2
      exact hr2
    have el : (((ps.map V.ref).length : Int) - 1) = ((ls.length - 1 : Nat) : Int) := by
      rw [List.length_map, hlns.1]
      omega
    refine ⟨x, D, ls.length - 1, ls, row, ss, by dsimp only; rw [el] <;> rfl, ⟨dx, sa, ra, ps, e2.k hx1, e3.sqT hsent, hlns.ext e3, e3.sqL hrow⟩, ⟨rs, hD2, hr3⟩, hV, hP, by omega, hrow8, by omega, by omega, e3.tbs hTb, fun H3 e4 => ?_⟩
    exact q _ (e3.trans e4)
end
end K15


set_option Elab.async false
set_option linter.all false
set_option maxRecDepth 100000
set_option maxHeartbeats 2000000
/-! the draws -/
namespace K15
open PySem PySem.Spec PyProof.Rows L2 GxR GX
section
variable {P : Program} {w : World} {K : PySem.W.Frag} {mg : Str → Option Value} {base : Heap}
def spDraws (T : List Addr) : Sp := fun vs H Q _ => ∃ (c m : Int) (n : Nat), vs = [.int c, .int m, .int n] ∧ 0 < m ∧ m < 1073741824 ∧ n ≤ 6 ∧
  ∀ (r : Addr) (ns : List Int) (H' : Hp), Ext T [] H H' → H' r = some (.lst (ns.map V.int)) → ns.length = n → Q (.ref r) H'
theorem scDraws : FnScope ["_law_cell", "_law_modulus", "_law_count", "_law_number", "_law_row", "_law_k", "_law_mixed"] ["_law_cell", "_law_modulus", "_law_count"] (defScope sDraws) := ⟨rfl, rfl, rfl, by decide +kernel, rfl, by decide +kernel, by decide +kernel⟩
theorem ok_draws {f : Addr} {fd : FuncData} {T : List Addr} (F : Fun K "_law_draws" "_law_draws" sDraws f fd) (mr : mg "range" = none) (mi : mg "int" = none) : FnOk P w K mg base CX0 1 f fd ["_law_cell", "_law_modulus", "_law_count"] (spDraws T) := by
  refine F.ok scDraws (fun vs H Q E h => ?_) (fun cdv A outer s H vs Q E hr h => ?_)
  · obtain ⟨c, m, n, rfl, _⟩ := h
    rfl
  obtain ⟨c, m, n, rfl, hm0, hm1, hn, q⟩ := h
  refine ⟨_, pss_cons (ps_set (i := 3) scDraws.nd rfl (Or.inl rfl) (pv 0))
    (pss_cons (ps_if (pt_cmpR op_lt (pv 3) pe_int (nomark _)) (pss_one (ps_set (i := 3) scDraws.nd rfl (Or.inl rfl) (pe_op op_sub pe_int (pv 3)))) pss_nil)
    (pss_cons (ps_set (i := 4) scDraws.nd rfl (Or.inl rfl) (pe_lst pa_nil))
    (pss_cons (ps_if (pt_cmpR op_ge (pv 3) (pe_op op_pow pe_int pe_int) (nomark _))
      (pss_cons (ps_for PassesOwn.never rfl (pi_range1 (by rfl) mr (pa_cons (pv 2) pa_nil)) (pg_name (i := 5) scDraws.nd rfl (Or.inl rfl))
        (pss_cons (ps_expr (pe_bm PySem.F.plainAttrs_list PySem.F.slot_list_append PySem.F.type_list_append mt_append (pv 4) (pa_cons (pe_op op_mod (pe_callTy call_int1 (by rfl) mi (by decide +kernel) (pa_cons (pv 3) pa_nil)) (pv 1)) pa_nil)))
          (pss_one (ps_set (i := 3) scDraws.nd rfl (Or.inl rfl) (pe_op op_fdiv (pv 3) (pv 1))))))
        (pss_one (ps_ret (pv 4)))) pss_nil)
    (pss_cons (ps_for PassesOwn.never rfl (pi_range1 (by rfl) mr (pa_cons (pv 2) pa_nil)) (pg_name (i := 5) scDraws.nd rfl (Or.inl rfl))
      (pss_cons (ps_set (i := 6) scDraws.nd rfl (Or.inl rfl) (pe_op op_mod (pe_callTy call_int1 (by rfl) mi (by decide +kernel) (pa_cons (pe_op op_mul (pe_op op_add (pe_op op_add (pv 3) (pe_op op_mul pe_int (pv 5))) pe_int) pe_int) pa_nil)) pe_int))
      (pss_cons (ps_set (i := 6) scDraws.nd rfl (Or.inl rfl) (pe_op op_mod (pe_callTy call_int1 (by rfl) mi (by decide +kernel) (pa_cons (pe_op op_add (pe_op op_mul (pv 6) pe_int) (pe_op op_mul pe_int (pv 5))) pa_nil)) pe_int))
      (pss_one (ps_expr (pe_bm PySem.F.plainAttrs_list PySem.F.slot_list_append PySem.F.type_list_append mt_append (pv 4) (pa_cons (pe_op op_mod (pe_callTy call_int1 (by rfl) mi (by decide +kernel) (pa_cons (pe_op op_fdiv (pv 6) pe_int) pa_nil)) (pv 1)) pa_nil)))))))
    (pss_one (ps_ret (pv 4))))))), ?_⟩
  have hn2 : (n : Int) < 2 ^ 62 := Int.lt_of_le_of_lt (show (n : Int) ≤ 6 by omega) (by decide)
  have en : (n : Int).toNat = n := by omega
  refine ⟨_, rfl, _, rfl, _, _, rfl, rfl, _, rfl, ?_⟩
  refine ite2 (fun _ => ⟨_, rfl, _, _, rfl, rfl, ?_⟩) (fun _ => ?_)
  all_goals (
    refine ⟨Nat.zero_le _, fun l hl => ?_⟩
    refine ⟨_, rfl, _, _, rfl, rfl, ⟨by decide, by decide, by decide⟩, _, _, rfl, rfl, _, rfl, ?_⟩
    refine ite2 (fun _ => ?_) (fun _ => ?_)
    · refine ⟨_, rfl, n, rfl, by omega, hn2, for_range (lo := 0) (n := (n : Int).toNat)
        (fun i σ H' => ∃ (z : Int) (ns : List Int) (v1 v2 : Option V), σ = [some (.int c), some (.int m), some (.int n), some (.int z), some (.ref l), v1, v2] ∧ Ext T [] H H' ∧ H' l = some (.lst (ns.map V.int)) ∧ ns.length = i)
        ⟨_, [], none, none, rfl, Ext.new hl _, upd_same, rfl⟩ ?_ ?_⟩
      · rintro i σ H1 hi ⟨z, ns, v1, v2, rfl, e1, h1, hz⟩
        refine ⟨_, rfl, .inl ⟨rfl, _, SqL.of h1⟩, ?_⟩
        refine ⟨_, rfl, .inl ⟨_, rfl, _, rfl, _, _, rfl, rfl, hm0, ?_⟩⟩
        refine ⟨l, _, _, rfl, rfl, h1, by rw [List.length_map]; exact small1000 (by omega), ?_⟩
        refine ⟨_, rfl, _, rfl, _, _, rfl, rfl, ⟨hm0, hm1⟩, _, ns ++ [z % m], _, _, rfl, e1.put hl _, by rw [upd_same, List.map_append]; rfl, by rw [List.length_append, hz]; rfl⟩
      · rintro σ H1 ⟨z, ns, v1, v2, rfl, e1, h1, hz⟩
        exact ⟨_, rfl, q l ns H1 e1 h1 (by omega)⟩
    · refine ⟨_, rfl, n, rfl, by omega, hn2, for_range (lo := 0) (n := (n : Int).toNat)
        (fun i σ H' => ∃ (z : Int) (ns : List Int) (v1 v2 : Option V), σ = [some (.int c), some (.int m), some (.int n), some (.int z), some (.ref l), v1, v2] ∧ Ext T [] H H' ∧ H' l = some (.lst (ns.map V.int)) ∧ ns.length = i)
        ⟨_, [], none, none, rfl, Ext.new hl _, upd_same, rfl⟩ ?_ ?_⟩
      · rintro i σ H1 hi ⟨z, ns, v1, v2, rfl, e1, h1, hz⟩
        refine ⟨_, rfl, _, rfl, _, _, rfl, rfl, .inl ⟨by decide, by decide⟩, _, _, rfl, rfl, _, _, rfl, rfl, _, _, rfl, rfl, .inr ⟨by decide, by decide⟩, .inl ⟨_, rfl, _, _, rfl, rfl, (by show (0 : Int) < 2147483647; decide), ?_⟩⟩
        refine ⟨_, rfl, _, _, rfl, rfl, .inr ⟨by decide, by decide⟩, _, rfl, _, _, rfl, rfl, .inl ⟨by decide, by decide⟩, _, _, rfl, rfl, .inl ⟨_, rfl, _, _, rfl, rfl, (by show (0 : Int) < 2147483629; decide), ?_⟩⟩
        refine ⟨_, rfl, .inl ⟨rfl, _, SqL.of h1⟩, ?_⟩
        refine ⟨_, rfl, _, _, rfl, rfl, ⟨by decide, by decide⟩, .inl ⟨_, rfl, _, rfl, _, _, rfl, rfl, hm0, ?_⟩⟩
        refine ⟨l, _, _, rfl, rfl, h1, by rw [List.length_map]; exact small1000 (by omega), ?_⟩
        refine ⟨_, ns ++ [_], _, _, rfl, e1.put hl _, by rw [upd_same, List.map_append]; rfl, by rw [List.length_append, hz]; rfl⟩
      · rintro σ H1 ⟨z, ns, v1, v2, rfl, e1, h1, hz⟩
        exact ⟨_, rfl, q l ns H1 e1 h1 (by omega)⟩)
/-! ### the box -/
def boxK (ra : Addr) (z : Int) : List (Key × V) := [(.inr "row", .ref ra), (.inr "at", .int z)]
theorem srat : ¬ (("row" : Str) = "at") := by decide +kernel
theorem kra : ¬ (Sum.inr ("row" : Str) : Key) = Sum.inr ("at" : Str) := by
  intro h
  have h2 : ("row" : Str) = "at" := Sum.inr.inj h
  exact absurd h2 (by decide +kernel)
theorem kar : ¬ (Sum.inr ("at" : Str) : Key) = Sum.inr ("row" : Str) := fun h => kra h.symm
theorem merge_box (ra : Addr) (z : Int) : mergeK [] (boxK ra z) = boxK ra z := by
  show putK (putK [] (Sum.inr ("row" : Str)) (V.ref ra)) (Sum.inr ("at" : Str)) (V.int z) = boxK ra z
  unfold putK boxK
  simp [kra, srat]
theorem val_row (ra : Addr) (z : Int) : valV (boxK ra z) (Sum.inr ("row" : Str)) = some (.ref ra) := by
  unfold valV boxK
  simp
theorem val_at (ra : Addr) (z : Int) : valV (boxK ra z) (Sum.inr ("at" : Str)) = some (.int z) := by
  unfold valV boxK
  simp [kra, srat]
theorem put_at (ra : Addr) (z y : Int) : putK (boxK ra z) (Sum.inr ("at" : Str)) (.int y) = boxK ra y := by
  unfold putK boxK
  simp [kra, srat]
def Box (H : Hp) (bx ra : Addr) : Prop := ∃ (z : Int) (rw : List Int), H bx = some (.dK (boxK ra z)) ∧ H ra = some (.lst (rw.map V.int)) ∧ rw ≠ [] ∧ rw.length ≤ 1000
theorem Box.d {H : Hp} {bx ra : Addr} (B : Box H bx ra) : ∃ kvs, H bx = some (.dK kvs) := let ⟨_, _, h, _⟩ := B; ⟨_, h⟩
theorem Box.r {H : Hp} {bx ra : Addr} (B : Box H bx ra) : ∃ rw : List Int, H ra = some (.lst (rw.map V.int)) := let ⟨_, r, _, h, _⟩ := B; ⟨r, h⟩
theorem box_at {H : Hp} {bx ra : Addr} {z : Int} (h : H bx = some (.dK (boxK ra z))) : DGet H bx (.str "at") (some (.int z)) := by
  have q := DGet.k (k := Sum.inr ("at" : Str)) h
  rw [val_at] at q
  exact q
theorem box_row {H : Hp} {bx ra : Addr} {z : Int} (h : H bx = some (.dK (boxK ra z))) : DGet H bx (.str "row") (some (.ref ra)) := by
  have q := DGet.k (k := Sum.inr ("row" : Str)) h
  rw [val_row] at q
  exact q
theorem box_put {H : Hp} {bx ra : Addr} {z y : Int} (h : H bx = some (.dK (boxK ra z))) : DPut H bx (.str "at") (.int y) (upd H bx (.dK (boxK ra y))) := by
  have q := DPut.k (k := Sum.inr ("at" : Str)) (v := .int y) h (by show 2 < sizeLine; decide)
  rw [put_at] at q
  exact q
def spBox (K : PySem.W.Frag) (T : List Addr) : Sp := fun vs H Q _ => ∃ (a : Addr) (ns : List Int), vs = [.ref a] ∧ SqL K H a (ns.map V.int) ∧ ns.length ≤ 63 ∧ ∀ (bx ra : Addr) (H' : Hp), Ext T [] H H' → Box H' bx ra → H bx = none → H ra = none → Q (.ref bx) H'
theorem scBox : FnScope ["_law_script", "_law_row", "_law_cell"] ["_law_script"] (defScope sBox) := ⟨rfl, rfl, rfl, by decide +kernel, rfl, by decide +kernel, by decide +kernel⟩
theorem ok_box {f g : Addr} {fd gd : FuncData} {T : List Addr} (F : Fun K "_law_box" "_law_box" sBox f fd) (G : FnOk P w K mg base CX0 1 g gd ["_law_cell", "_law_modulus", "_law_count"] (spDraws T)) (mG : mg "_law_draws" = some (.ref g)) (kG : PySem.W.keepIn K (.ref g) = true) (bG : Binds K gd ["_law_cell", "_law_modulus", "_law_count"] []) (ml : mg "len" = none) :
    FnOk P w K mg base CX0 2 f fd ["_law_script"] (spBox K T) := by
  refine F.ok scBox (fun vs H Q E h => ?_) (fun cdv A outer s H vs Q E hr h => ?_)
  · obtain ⟨a, ns, rfl, _⟩ := h
    rfl
  obtain ⟨a, ns, rfl, hS, hlen, q⟩ := h
  refine ⟨_, pss_cons (ps_set (i := 1) scBox.nd rfl (Or.inl rfl) (pe_lst pa_nil))
    (pss_cons (ps_for PassesOwn.never rfl (pi_list (pv 0)) (pg_name (i := 2) scBox.nd rfl (Or.inl rfl))
      (pss_one (ps_set (i := 1) scBox.nd rfl (Or.inl rfl) (pe_op op_cat (pv 1) (pe_call G hr (by rfl) mG kG bG .nil pass0 (pa_cons (pv 2) (pa_cons pe_int (pa_cons pe_int pa_nil))))))))
    (pss_cons (ps_if (pt_cmpR op_eq (pe_callB call_len_seq (by rfl) ml PySem.boot_len (pa_cons (pv 1) pa_nil)) pe_int (nomark _))
      (pss_one (ps_set (i := 1) scBox.nd rfl (Or.inl rfl) (pe_lst (pa_cons pe_int (pa_cons pe_int (pa_cons pe_int (pa_cons pe_int (pa_cons pe_int (pa_cons pe_int (pa_cons pe_int pa_nil)))))))))) pss_nil)
    (pss_one (ps_ret (pe_disp (pps_cons pe_str (pv 1) (pps_cons pe_str pe_int pps_nil)) (by rfl) (by rfl) (fun z => by cases z) (by decide)))))), ?_⟩
  refine ⟨Nat.zero_le _, fun l hl => ?_⟩
  refine ⟨_, rfl, a, rfl, ⟨_, (Ext.new (T := T) (X := []) hl (.lst [])).sqL hS⟩, for_list (K := K) (a := a) (xs := ns.map V.int)
    (fun i σ H' => ∃ (g : Addr) (rs : List Int) (v : Option V), σ = [some (.ref a), some (.ref g), v] ∧ Ext T [] H H' ∧ H' g = some (.lst (rs.map V.int)) ∧ H g = none ∧ rs.length = 6 * i)
    ⟨l, [], none, rfl, Ext.new hl _, upd_same, hl, rfl⟩ (fun i σ H' _ ⟨_, _, _, _, e, _⟩ => e.sqL hS) ?_ ?_⟩
  · rintro i x σ H1 hx ⟨g1, rs, v, rfl, e1, h1, hg0, hz⟩
    have hi : i < ns.length := by
      have := (List.getElem?_eq_some_iff.mp hx).1
      simpa using this
    obtain ⟨u, rfl⟩ : ∃ u, x = V.int u := by
      rw [List.getElem?_map, List.getElem?_eq_getElem hi] at hx
      exact ⟨_, (Option.some.inj hx).symm⟩
    refine ⟨_, rfl, _, rfl, u, 1000003, 6, rfl, by decide, by decide, by decide, fun r ms H2 e2 hr2 hms => ?_⟩
    refine ⟨g1, r, _, _, rfl, rfl, e2.k h1, hr2, ?_, fun t ht => ?_⟩
    · rw [List.length_map, List.length_map]
      exact small (by omega)
    refine ⟨t, rs ++ ms, _, rfl, e1.trans (e2.trans (Ext.new ht _)), by rw [upd_same, List.map_append], (e1.trans e2).free t ht, by rw [List.length_append]; omega⟩
  · rintro σ H1 ⟨g1, rs, v, rfl, e1, h1, hg0, hz⟩
    rw [List.length_map] at hz
    have fin : ∀ (g2 : Addr) (rs2 : List Int) (H2 : Hp), Ext T [] H H2 → H2 g2 = some (.lst (rs2.map V.int)) → H g2 = none → rs2 ≠ [] → rs2.length ≤ 1000 →
        tRet (tDisp [(tC (.str "row"), tVar 1), (tC (.str "at"), tC (.int 0))]) { nx := fun _ H' => Q .non H', rt := Q } [some (.ref a), some (.ref g2), v] H2 := by
      intro g2 rs2 H2 e2 h2 hg2 hne hle
      refine fun p hp => ⟨_, rfl, upd_same, boxK g2 0, rfl, (by show 2 ≤ 15; decide), ?_⟩
      rw [upd_upd, merge_box]
      have hp0 : H p = none := e2.free p hp
      have np : g2 ≠ p := fun z => by rw [z, hp] at h2; cases h2
      exact q p g2 _ (e2.put hp0 _) ⟨0, rs2, upd_same, by rw [upd_ne np]; exact h2, hne, hle⟩ hp0 hg2
    refine ⟨_, rfl, g1, _, rfl, .inl (SqL.of h1), rfl, _, rfl, ?_⟩
    refine ite2 (fun h => ?_) (fun h => ?_)
    · refine ⟨(by show 7 ≤ sizeLine; decide), fun t ht => ?_⟩
      exact fin t [11, 5, 2, 7, 31, 101, 997] _ (e1.trans (Ext.new ht _)) upd_same (e1.free t ht) (by decide) (by decide)
    · refine fin g1 rs H1 e1 h1 hg0 (fun z => h ?_) (by omega)
      rw [z]
      exact decide_eq_true rfl
def spNext (T : List Addr) : Sp := fun vs H Q _ => ∃ (bx ra : Addr) (m : Int), vs = [.ref bx, .int m] ∧ Box H bx ra ∧ 0 < m ∧ ∀ (r : Int) (H' : Hp), 0 ≤ r → r < m → Ext T [bx] H H' → Box H' bx ra → Q (.int r) H'
theorem scNext : FnScope ["_law_box_here", "_law_modulus", "_law_at_here", "_law_number"] ["_law_box_here", "_law_modulus"] (defScope sNext) := ⟨rfl, rfl, rfl, by decide +kernel, rfl, by decide +kernel, by decide +kernel⟩
theorem ok_next {f : Addr} {fd : FuncData} {T : List Addr} (F : Fun K "_law_next" "_law_next" sNext f fd) (ml : mg "len" = none) (mi : mg "int" = none) : FnOk P w K mg base CX0 1 f fd ["_law_box_here", "_law_modulus"] (spNext T) := by
  refine F.ok scNext (fun vs H Q E h => ?_) (fun cdv A outer s H vs Q E hr h => ?_)
  · obtain ⟨bx, ra, m, rfl, _⟩ := h
    rfl
  obtain ⟨bx, ra, m, rfl, ⟨z, rw, hbx, hra, hne, hle⟩, hm0, q⟩ := h
  have hu := hu_of hr
  refine ⟨_, pss_cons (ps_set (i := 2) scNext.nd rfl (Or.inl rfl) (pe_dget hu (pv 0) pe_str (fun _ _ => rfl)))
    (pss_cons (ps_dput hu (pv 0) pe_str (pe_op op_add (pv 2) pe_int) rfl)
    (pss_cons (ps_set (i := 3) scNext.nd rfl (Or.inl rfl) (pe_ix ix_list (pe_dget hu (pv 0) pe_str (fun _ _ => rfl)) (pe_op op_mod (pv 2) (pe_callB call_len_seq (by rfl) ml PySem.boot_len (pa_cons (pe_dget hu (pv 0) pe_str (fun _ _ => rfl)) pa_nil))) (fun _ _ => rfl)))
    (pss_one (ps_ret (pe_op op_mod (pe_callTy call_int1 (by rfl) mi (by decide +kernel) (pa_cons (pe_op op_add (pv 3) (pe_op op_mul pe_int (pe_op op_fdiv (pv 2) (pe_callB call_len_seq (by rfl) ml PySem.boot_len (pa_cons (pe_dget hu (pv 0) pe_str (fun _ _ => rfl)) pa_nil))))) pa_nil)) (pv 1)))))), ?_⟩
  have hl0 : (0 : Int) < ((rw.map V.int).length : Int) := by
    rw [List.length_map]
    have : rw.length ≠ 0 := fun e => hne (List.eq_nil_of_length_eq_zero e)
    omega
  have hl1 : ((rw.map V.int).length : Int) < 1073741824 := by
    rw [List.length_map]
    omega
  have nrb : ra ≠ bx := ne_of hra hbx (by intro e; cases e)
  have hbx1 : upd H bx (.dK (boxK ra (z + 1))) bx = some (.dK (boxK ra (z + 1))) := upd_same
  have hra1 : upd H bx (.dK (boxK ra (z + 1))) ra = some (.lst (rw.map V.int)) := by rw [upd_ne nrb]; exact hra
  obtain ⟨j, hj, hjv⟩ : ∃ j : Nat, z % ((rw.map V.int).length : Int) = (j : Int) ∧ j < rw.length := by
    have h1 := Int.emod_nonneg z (Int.ne_of_gt hl0)
    have h2 := Int.emod_lt_of_pos z hl0
    rw [List.length_map] at h2 ⊢
    rw [List.length_map] at h1
    exact ⟨(z % (rw.length : Int)).toNat, by omega, by omega⟩
  refine ⟨_, rfl, bx, _, rfl, box_at hbx, ?_⟩
  refine ⟨_, rfl, _, _, rfl, rfl, _, rfl, bx, _, rfl, box_put hbx, ?_⟩
  refine ⟨_, rfl, bx, _, rfl, box_row hbx1, _, rfl, _, rfl, bx, _, rfl, box_row hbx1, ra, _, rfl, .inl (SqL.of hra1), _, _, rfl, rfl, hl0, ra, _, _, .int (rw[j]), rfl, rfl, SqL.of hra1, ?_, ?_⟩
  · show atI (rw.map V.int) (z % ((rw.map V.int).length : Int)) = _
    rw [hj]
    exact atI_nat (by rw [List.getElem?_map, List.getElem?_eq_getElem hjv]; rfl)
  refine ⟨_, rfl, _, rfl, _, rfl, bx, _, rfl, box_row hbx1, ra, _, rfl, .inl (SqL.of hra1), _, _, rfl, rfl, ⟨hl0, hl1⟩, _, _, rfl, rfl, .inl ⟨by decide, by decide⟩, _, _, rfl, rfl, .inl ⟨_, rfl, _, rfl, _, _, rfl, rfl, hm0, ?_⟩⟩
  exact q _ _ (Int.emod_nonneg _ (Int.ne_of_gt hm0)) (Int.emod_lt_of_pos _ hm0) ((Ext.refl H).wr (List.mem_singleton.mpr rfl) hbx rfl _) ⟨z + 1, rw, hbx1, hra1, hne, hle⟩
end
end K15


set_option Elab.async false
set_option linter.all false
set_option maxRecDepth 100000
set_option maxHeartbeats 4000000
/-! a place line, a text line -/
namespace K15
open PySem PySem.Spec PyProof.Rows L2 GxR GX
theorem Box.ext {T : List Addr} {H H1 : Hp} {bx ra : Addr} (B : Box H bx ra) (e : Ext T [] H H1) : Box H1 bx ra := by
  obtain ⟨z, r, h1, h2, h3, h4⟩ := B
  exact ⟨z, r, e.k h1, e.k h2, h3, h4⟩
theorem inP (x : Str) : inV (.str x) [.str "set", .str "letter", .str "not", .str "and"] = isP x := by
  unfold isP
  show ((("set" : Str) == x) || ((("letter" : Str) == x) || ((("not" : Str) == x) || ((("and" : Str) == x) || false)))) = _
  rw [Bool.eq_iff_iff]
  simp only [Bool.or_eq_true, beq_iff_eq, decide_eq_true_eq, Bool.or_false]
  constructor
  · rintro (h | h | h | h)
    · exact .inl (.inl (.inl h.symm))
    · exact .inl (.inl (.inr h.symm))
    · exact .inl (.inr h.symm)
    · exact .inr h.symm
  · rintro (((h | h) | h) | h)
    · exact .inl h.symm
    · exact .inr (.inl h.symm)
    · exact .inr (.inr (.inl h.symm))
    · exact .inr (.inr (.inr h.symm))
/-- the list of the numbers of the place lines -/
def Ready (H : Hp) (D : Addr) (ls : List Ln) (rs : List Nat) : Prop := H D = some (.lst (rs.map fun (k : Nat) => V.int (k : Int))) ∧ (∀ k ∈ rs, isPl ls k) ∧ (∀ k, isPl ls k → k ∈ rs) ∧ rs.length ≤ ls.length
theorem ready_at {rs : List Nat} {r : Int} (h0 : 0 ≤ r) (h1 : r < ((rs.map fun (k : Nat) => V.int (k : Int)).length : Int)) : ∃ k : Nat, k ∈ rs ∧ atI (rs.map fun (k : Nat) => V.int (k : Int)) r = some (.int (k : Int)) := by
  rw [List.length_map] at h1
  have hr : r.toNat < rs.length := by omega
  have e : r = ((r.toNat : Nat) : Int) := by omega
  refine ⟨rs[r.toNat], List.getElem_mem hr, ?_⟩
  have q : atI (rs.map fun (k : Nat) => V.int (k : Int)) ((r.toNat : Nat) : Int) = some (.int ((rs[r.toNat] : Nat) : Int)) := atI_nat (by rw [List.getElem?_map, List.getElem?_eq_getElem hr]; rfl)
  rw [← e] at q
  exact q
section
variable {P : Program} {w : World} {K : PySem.W.Frag} {mg : Str → Option Value} {base : Heap}
structure MgD (K : PySem.W.Frag) (mg : Str → Option Value) (g : Addr) (gd : FuncData) : Prop where
  len : mg "len" = none
  range : mg "range" = none
  mN : mg "_law_next" = some (.ref g)
  kN : PySem.W.keepIn K (.ref g) = true
  bN : Binds K gd ["_law_box_here", "_law_modulus"] []

def spPlace (T : List Addr) : Sp := fun vs H Q _ => ∃ (bx ra la : Addr) (labels sets : Int) (ps : List Addr) (ls : List Ln), vs = [.ref bx, .int labels, .ref la, .int sets] ∧ Box H bx ra ∧ 0 < labels ∧ H la = some (.lst (ps.map V.ref)) ∧ Lns H ps ls ∧ ls.length ≤ 100 ∧
  ∀ (r : Addr) (l : Ln) (H' : Hp), Ext T [bx] H H' → Box H' bx ra → H' r = some (.tup (lnV l)) → PLine ls ls.length l → Q (.ref r) H'
theorem scPlace : FnScope ["_law_box_here", "_law_labels", "_law_lines", "_law_sets", "_law_choice", "_law_ready", "_law_k"] ["_law_box_here", "_law_labels", "_law_lines", "_law_sets"] (defScope sPlace) := ⟨rfl, rfl, rfl, by decide +kernel, rfl, by decide +kernel, by decide +kernel⟩
theorem ok_place {f g : Addr} {fd gd : FuncData} {T : List Addr} (F : Fun K "_law_place_line" "_law_place_line" sPlace f fd) (M : MgD K mg g gd) (GN : FnOk P w K mg base CX0 1 g gd ["_law_box_here", "_law_modulus"] (spNext T)) : FnOk P w K mg base CX0 2 f fd ["_law_box_here", "_law_labels", "_law_lines", "_law_sets"] (spPlace T) := by
  refine F.ok scPlace (fun vs H Q E h => ?_) (fun cdv A outer s H vs Q E hr h => ?_)
  · obtain ⟨bx, ra, la, labels, sets, ps, ls, rfl, _⟩ := h
    rfl
  obtain ⟨bx, ra, la, labels, sets, ps, ls, rfl, B, hlab, hla, hlns, hle, q⟩ := h
  refine ⟨_, pss_cons (ps_set (i := 4) scPlace.nd rfl (Or.inl rfl) (pe_call GN (hr.mono (by decide)) (by rfl) M.mN M.kN M.bN .nil pass0 (pa_cons (pv 0) (pa_cons pe_int pa_nil))))
    (pss_cons (ps_setLc (i := 5) (own := [("_law_k", 6)]) (g := gName 6) rfl scPlace.nd rfl rfl (sw_true rfl rfl rfl (by decide +kernel)) (pi_range1 (by rfl) M.range (pa_cons (pe_callB call_len_seq (by rfl) M.len PySem.boot_len (pa_cons (pv 2) pa_nil)) pa_nil))
      (blkOk_by (own := [("_law_k", 6)]) (N := ["_law_box_here", "_law_labels", "_law_lines", "_law_sets", "_law_choice", "_law_ready", "_law_k"]) (sc := defScope sPlace) (by decide +kernel)) (fun _ _ _ _ _ => pg_name (i := 6) scPlace.nd rfl (Or.inl rfl))
      (fun _ _ _ _ _ => pts_one (pt_cmpR (r := rIn K false) op_in_seq (pe_ix (r := rIxT K) ix_tup (pe_ix (r := rIxL K) ix_list (pv 2) (pv 6) (fun _ _ => rfl)) pe_int (fun _ _ => rfl)) (pe_lst (pa_cons pe_str (pa_cons pe_str (pa_cons pe_str (pa_cons pe_str pa_nil))))) (by rfl)))
      (fun _ _ _ _ _ => pv 6))
    (pss_cons (ps_if (PW.pt (pw_and (pt_cmpR op_eq (pv 4) pe_int (nomark _)) (pw_and1 (pt_cmpR op_gt (pe_callB call_len_seq (by rfl) M.len PySem.boot_len (pa_cons (pv 5) pa_nil)) pe_int (nomark _)))))
      (pss_one (ps_ret (pe_tup (pa_cons pe_str (pa_cons (pe_ix ix_list (pv 5) (pe_call GN (hr.mono (by decide)) (by rfl) M.mN M.kN M.bN .nil pass0 (pa_cons (pv 0) (pa_cons (pe_callB call_len_seq (by rfl) M.len PySem.boot_len (pa_cons (pv 5) pa_nil)) pa_nil))) (fun _ _ => rfl)) pa_nil))))) pss_nil)
    (pss_cons (ps_if (PW.pt (pw_and (pt_cmpR op_eq (pv 4) pe_int (nomark _)) (pw_and1 (pt_cmpR op_gt (pe_callB call_len_seq (by rfl) M.len PySem.boot_len (pa_cons (pv 5) pa_nil)) pe_int (nomark _)))))
      (pss_one (ps_ret (pe_tup (pa_cons pe_str (pa_cons (pe_ix ix_list (pv 5) (pe_call GN (hr.mono (by decide)) (by rfl) M.mN M.kN M.bN .nil pass0 (pa_cons (pv 0) (pa_cons (pe_callB call_len_seq (by rfl) M.len PySem.boot_len (pa_cons (pv 5) pa_nil)) pa_nil))) (fun _ _ => rfl)) (pa_cons (pe_ix ix_list (pv 5) (pe_call GN (hr.mono (by decide)) (by rfl) M.mN M.kN M.bN .nil pass0 (pa_cons (pv 0) (pa_cons (pe_callB call_len_seq (by rfl) M.len PySem.boot_len (pa_cons (pv 5) pa_nil)) pa_nil))) (fun _ _ => rfl)) pa_nil)))))) pss_nil)
    (pss_cons (ps_if (PW.pt (pw_and (pt_cmpR op_lt (pv 4) pe_int (nomark _)) (pw_and1 (pt_cmpR op_gt (pv 3) pe_int (nomark _)))))
      (pss_one (ps_ret (pe_tup (pa_cons pe_str (pa_cons (pe_call GN (hr.mono (by decide)) (by rfl) M.mN M.kN M.bN .nil pass0 (pa_cons (pv 0) (pa_cons (pv 3) pa_nil))) pa_nil))))) pss_nil)
    (pss_one (ps_ret (pe_tup (pa_cons pe_str (pa_cons (pe_call GN (hr.mono (by decide)) (by rfl) M.mN M.kN M.bN .nil pass0 (pa_cons (pv 0) (pa_cons (pv 1) pa_nil))) pa_nil))))))))), ?_⟩
  refine ⟨_, rfl, bx, ra, 6, rfl, B, by decide, fun ch H1 hc0 hc1 e1 B1 => ?_⟩
  have hla1 := e1.kB B.d hla
  have hlns1 := hlns.extB e1 B.d

  refine ⟨_, rfl, la, _, rfl, .inl (SqL.of hla1), (((ps.map V.ref).length : Nat) : Int), rfl, by omega, Int.lt_of_le_of_lt (show (((ps.map V.ref).length : Nat) : Int) ≤ 100 by rw [List.length_map, hlns1.1]; omega) (by decide), fun D hD => ?_⟩
  have epl : (((ps.map V.ref).length : Nat) : Int).toNat = ls.length := by rw [List.length_map, hlns1.1]; omega
  refine lc_range (lo := 0) (n := (((ps.map V.ref).length : Nat) : Int).toNat) (fun j H' => ∃ rs : List Nat, Ext T [] H1 H' ∧ H' D = some (.lst (rs.map fun (k : Nat) => V.int (k : Int))) ∧ (∀ k ∈ rs, isPl ls k) ∧ (∀ k, k < j → isPl ls k → k ∈ rs) ∧ rs.length ≤ j)
    ⟨[], Ext.new hD _, upd_same, fun k h => absurd h (by simp), fun k h => absurd h (Nat.not_lt_zero k), Nat.le_refl _⟩ ?_ ?_
  · rintro j H2 hj ⟨rs, e2, hD2, h1, h2, h3⟩
    have hjl : j < ls.length := by omega
    obtain ⟨p, hp, hpt⟩ := hlns1.at (List.getElem?_eq_getElem hjl)
    refine ⟨rfl, ?_⟩
    refine ⟨_, rfl, _, rfl, la, _, _, _, rfl, rfl, SqL.of (e2.k hla1), (by rw [Int.zero_add]; exact atI_nat hp), p, _, 0, _, rfl, rfl, SqT.of (e2.k hpt), atI_nat (j := 0) rfl, (by show 4 ≤ sizeLine; decide), fun t ht => ?_⟩
    have e3 : Ext T [] H2 (upd H2 t (.lst [.str "set", .str "letter", .str "not", .str "and"])) := Ext.new ht _
    have nt : t ≠ D := fun z => by rw [z, hD2] at ht; cases ht
    refine ⟨t, _, rfl, .inl (SqL.of upd_same), rfl, rfl, _, rfl, ?_⟩
    refine ite2 (fun h => ?_) (fun h => ?_)
    · have hpl : isP (ls[j]).1 = true := (inP _).symm.trans h
      refine ⟨_, rfl, _, e3.k hD2, by rw [List.length_map]; exact small1000 (by omega), rs ++ [j], (e2.trans e3).put hD _, ?_, ?_, ?_, ?_⟩
      · rw [upd_same, List.map_append, Int.zero_add]
        rfl
      · intro k hk
        rcases List.mem_append.mp hk with hk | hk
        · exact h1 k hk
        · rw [List.mem_singleton.mp hk]
          exact ⟨_, List.getElem?_eq_getElem hjl, hpl⟩
      · intro k hk hp2
        by_cases e : k = j
        · rw [e]; simp
        · exact List.mem_append_left _ (h2 k (by omega) hp2)
      · rw [List.length_append, List.length_singleton]
        omega
    · refine ⟨rs, e2.trans e3, e3.k hD2, h1, fun k hk hp2 => ?_, by omega⟩
      by_cases e : k = j
      · rw [e] at hp2
        obtain ⟨l2, e2', p2⟩ := hp2
        rw [List.getElem?_eq_getElem hjl] at e2'
        cases e2'
        exact absurd ((inP _).trans p2) h
      · exact h2 k (by omega) hp2
  rintro H9 ⟨rs, e9, hD9, h1, h2, h3⟩
  have hR : Ready H9 D ls rs := ⟨hD9, h1, fun k hk => h2 k (by have := hk.lt; omega) hk, by omega⟩

  have e10 : Ext T [bx] H H9 := e1.trans e9.nil
  have B9 := B1.ext e9
  have hlen0 : ∀ {n : Int}, decide (((rs.map fun (k : Nat) => V.int (k : Int)).length : Int) > 0) = true → 0 < ((rs.map fun (k : Nat) => V.int (k : Int)).length : Int) := fun {n} h => of_decide_eq_true h
  have fin : ∀ (l : Ln) (H2 : Hp) (t : Addr), Ext T [bx] H H2 → Box H2 bx ra → H2 t = none → PLine ls ls.length l → Q (.ref t) (upd H2 t (.tup (lnV l))) := fun l H2 t e2 B2 ht hp =>
    q t l _ (e2.trans (Ext.new ht _)) (B2.ext (T := T) (Ext.new ht _)) upd_same hp
  have last3 : ∀ H2, Ext T [bx] H H2 → Box H2 bx ra → True := fun _ _ _ => trivial
  -- the choice
  have tail : tSeq (tIfS (tAnd (tTest (tOp (rI0 fun i j => .bl (decide (i < j))) (tVar 4) (tC (.int 4)))) (tTest (tOp (rI0 fun i j => .bl (decide (j < i))) (tVar 3) (tC (.int 0))))) (tRet (tTup (tCons (tC (.str "set")) (tCons (tCall (spNext T) [] E0 (tCons (tVar 0) (tCons (tVar 3) tNil))) tNil)))) tNext)
      (tRet (tTup (tCons (tC (.str "letter")) (tCons (tCall (spNext T) [] E0 (tCons (tVar 0) (tCons (tVar 1) tNil))) tNil)))) { nx := fun _ H' => Q .non H', rt := Q } [some (.ref bx), some (.int labels), some (.ref la), some (.int sets), some (.int ch), some (.ref D), none] H9 := by
    have lett : tRet (tTup (tCons (tC (.str "letter")) (tCons (tCall (spNext T) [] E0 (tCons (tVar 0) (tCons (tVar 1) tNil))) tNil))) { nx := fun _ H' => Q .non H', rt := Q } [some (.ref bx), some (.int labels), some (.ref la), some (.int sets), some (.int ch), some (.ref D), none] H9 := by
      refine ⟨_, rfl, _, rfl, bx, ra, labels, rfl, B9, hlab, fun r H2 h0 h1 e2 B2 => ⟨(by show 2 ≤ sizeLine; decide), fun t ht => ?_⟩⟩
      exact fin ("letter", [r]) H2 t (e10.trans e2) B2 ht (.letter r)
    refine ⟨_, rfl, _, _, rfl, rfl, _, rfl, ?_⟩
    refine ite2 (fun _ => ?_) (fun _ => lett)
    refine ⟨_, rfl, _, _, rfl, rfl, _, rfl, ?_⟩
    refine ite2 (fun h => ?_) (fun _ => lett)
    have hs0 : 0 < sets := of_decide_eq_true h
    refine ⟨_, rfl, _, rfl, bx, ra, sets, rfl, B9, hs0, fun r H2 h0 h1 e2 B2 => ⟨(by show 2 ≤ sizeLine; decide), fun t ht => ?_⟩⟩
    have er : r = ((r.toNat : Nat) : Int) := by omega
    have := fin ("set", [((r.toNat : Nat) : Int)]) H2 t (e10.trans e2) B2 ht (.set _)
    rw [← er] at this
    exact this
  have and2 : tSeq (tIfS (tAnd (tTest (tOp rEq (tVar 4) (tC (.int 1)))) (tTest (tOp (rI0 fun i j => .bl (decide (j < i))) (tCB (rLen K) (tCons (tVar 5) tNil)) (tC (.int 0))))) (tRet (tTup (tCons (tC (.str "and")) (tCons (tOp (rIxL K) (tVar 5) (tCall (spNext T) [] E0 (tCons (tVar 0) (tCons (tCB (rLen K) (tCons (tVar 5) tNil)) tNil)))) (tCons (tOp (rIxL K) (tVar 5) (tCall (spNext T) [] E0 (tCons (tVar 0) (tCons (tCB (rLen K) (tCons (tVar 5) tNil)) tNil)))) tNil))))) tNext)
      (tSeq (tIfS (tAnd (tTest (tOp (rI0 fun i j => .bl (decide (i < j))) (tVar 4) (tC (.int 4)))) (tTest (tOp (rI0 fun i j => .bl (decide (j < i))) (tVar 3) (tC (.int 0))))) (tRet (tTup (tCons (tC (.str "set")) (tCons (tCall (spNext T) [] E0 (tCons (tVar 0) (tCons (tVar 3) tNil))) tNil)))) tNext)
      (tRet (tTup (tCons (tC (.str "letter")) (tCons (tCall (spNext T) [] E0 (tCons (tVar 0) (tCons (tVar 1) tNil))) tNil))))) { nx := fun _ H' => Q .non H', rt := Q } [some (.ref bx), some (.int labels), some (.ref la), some (.int sets), some (.int ch), some (.ref D), none] H9 := by
    refine ⟨_, rfl, rfl, _, rfl, ?_⟩
    refine ite2 (fun _ => ?_) (fun _ => tail)
    refine ⟨_, rfl, D, _, rfl, .inl (SqL.of hR.1), _, _, rfl, rfl, _, rfl, ?_⟩
    refine ite2 (fun h => ?_) (fun _ => tail)
    have hp0 : 0 < ((rs.map fun (k : Nat) => V.int (k : Int)).length : Int) := of_decide_eq_true h
    refine ⟨_, rfl, _, rfl, _, rfl, D, _, rfl, .inl (SqL.of hR.1), bx, ra, _, rfl, B9, hp0, fun r H2 h0 h1 e2 B2 => ?_⟩
    obtain ⟨k, hk, hat⟩ := ready_at h0 h1
    have hD2 := e2.kB B9.d hR.1
    refine ⟨D, _, _, _, rfl, rfl, SqL.of hD2, hat, ?_⟩
    refine ⟨_, rfl, _, rfl, _, rfl, D, _, rfl, .inl (SqL.of hD2), bx, ra, _, rfl, B2, hp0, fun r3 H3 h03 h13 e3 B3 => ?_⟩
    obtain ⟨k3, hk3, hat3⟩ := ready_at h03 h13
    have hD3 := e3.kB B2.d hD2
    refine ⟨D, _, _, _, rfl, rfl, SqL.of hD3, hat3, (by show 3 ≤ sizeLine; decide), fun t ht => ?_⟩
    exact fin ("and", [(k : Int), (k3 : Int)]) H3 t (e10.trans (e2.trans e3)) B3 ht (.and k k3 (hR.2.1 k hk).lt (hR.2.1 k hk) (hR.2.1 k3 hk3).lt (hR.2.1 k3 hk3))
  refine ⟨_, rfl, rfl, _, rfl, ?_⟩
  refine ite2 (fun _ => ?_) (fun _ => and2)
  refine ⟨_, rfl, D, _, rfl, .inl (SqL.of hR.1), _, _, rfl, rfl, _, rfl, ?_⟩
  refine ite2 (fun h => ?_) (fun _ => and2)
  have hp0 : 0 < ((rs.map fun (k : Nat) => V.int (k : Int)).length : Int) := of_decide_eq_true h
  refine ⟨_, rfl, _, rfl, _, rfl, D, _, rfl, .inl (SqL.of hR.1), bx, ra, _, rfl, B9, hp0, fun r H2 h0 h1 e2 B2 => ?_⟩
  obtain ⟨k, hk, hat⟩ := ready_at h0 h1
  have hD2 := e2.kB B9.d hR.1
  refine ⟨D, _, _, _, rfl, rfl, SqL.of hD2, hat, (by show 2 ≤ sizeLine; decide), fun t ht => ?_⟩
  exact fin ("not", [(k : Int)]) H2 t (e10.trans e2) B2 ht (.not k (hR.2.1 k hk).lt (hR.2.1 k hk))

end
end K15


set_option Elab.async false
set_option linter.all false
set_option maxRecDepth 100000
set_option maxHeartbeats 4000000
/-! a text line -/
namespace K15
open PySem PySem.Spec PyProof.Rows L2 GxR GX
theorem iT {x : V} {A B : Prop} (h : A) : if decide (x = x) = true then A else B := by
  rw [if_pos (decide_eq_true rfl)]
  exact h
theorem iF {i j : Int} (hij : i ≠ j) {A B : Prop} (h : B) : if decide (V.int i = V.int j) = true then A else B := by
  rw [if_neg]
  · exact h
  · intro e
    exact hij (V.int.inj (of_decide_eq_true e))
section
variable {P : Program} {w : World} {K : PySem.W.Frag} {mg : Str → Option Value} {base : Heap}

def spText (T : List Addr) : Sp := fun vs H Q _ => ∃ (bx ra la : Addr) (ps : List Addr) (ls : List Ln), vs = [.ref bx, .ref la] ∧ Box H bx ra ∧ H la = some (.lst (ps.map V.ref)) ∧ Lns H ps ls ∧ ls.length ≤ 100 ∧ (∃ c, isPl ls c) ∧
  ∀ (r : Addr) (l : Ln) (H' : Hp), Ext T [bx] H H' → Box H' bx ra → H' r = some (.tup (lnV l)) → TLine ls ls.length l → Q (.ref r) H'
theorem scText : FnScope ["_law_box_here", "_law_lines", "_law_ready", "_law_one", "_law_two", "_law_choice", "_law_k"] ["_law_box_here", "_law_lines"] (defScope sText) := ⟨rfl, rfl, rfl, by decide +kernel, rfl, by decide +kernel, by decide +kernel⟩
theorem ok_text {f g : Addr} {fd gd : FuncData} {T : List Addr} (F : Fun K "_law_text_line" "_law_text_line" sText f fd) (M : MgD K mg g gd) (GN : FnOk P w K mg base CX0 1 g gd ["_law_box_here", "_law_modulus"] (spNext T)) : FnOk P w K mg base CX0 2 f fd ["_law_box_here", "_law_lines"] (spText T) := by
  refine F.ok scText (fun vs H Q E h => ?_) (fun cdv A outer s H vs Q E hr h => ?_)
  · obtain ⟨bx, ra, la, ps, ls, rfl, _⟩ := h
    rfl
  obtain ⟨bx, ra, la, ps, ls, rfl, B, hla, hlns, hle, ⟨c0, hc0⟩, q⟩ := h
  refine ⟨_, pss_cons (ps_setLc (i := 2) (own := [("_law_k", 6)]) (g := gName 6) rfl scText.nd rfl rfl (sw_true rfl rfl rfl (by decide +kernel)) (pi_range1 (by rfl) M.range (pa_cons (pe_callB call_len_seq (by rfl) M.len PySem.boot_len (pa_cons (pv 1) pa_nil)) pa_nil))
      (blkOk_by (own := [("_law_k", 6)]) (N := ["_law_box_here", "_law_lines", "_law_ready", "_law_one", "_law_two", "_law_choice", "_law_k"]) (sc := defScope sText) (by decide +kernel)) (fun _ _ _ _ _ => pg_name (i := 6) scText.nd rfl (Or.inl rfl))
      (fun _ _ _ _ _ => pts_one (pt_cmpR (r := rIn K false) op_in_seq (pe_ix (r := rIxT K) ix_tup (pe_ix (r := rIxL K) ix_list (pv 1) (pv 6) (fun _ _ => rfl)) pe_int (fun _ _ => rfl)) (pe_lst (pa_cons pe_str (pa_cons pe_str (pa_cons pe_str (pa_cons pe_str pa_nil))))) (by rfl)))
      (fun _ _ _ _ _ => pv 6))
    (pss_cons (ps_set (i := 3) scText.nd rfl (Or.inl rfl) (pe_ix ix_list (pv 2) (pe_call GN (hr.mono (by decide)) (by rfl) M.mN M.kN M.bN .nil pass0 (pa_cons (pv 0) (pa_cons (pe_callB call_len_seq (by rfl) M.len PySem.boot_len (pa_cons (pv 2) pa_nil)) pa_nil))) (fun _ _ => rfl)))
    (pss_cons (ps_set (i := 4) scText.nd rfl (Or.inl rfl) (pe_ix ix_list (pv 2) (pe_call GN (hr.mono (by decide)) (by rfl) M.mN M.kN M.bN .nil pass0 (pa_cons (pv 0) (pa_cons (pe_callB call_len_seq (by rfl) M.len PySem.boot_len (pa_cons (pv 2) pa_nil)) pa_nil))) (fun _ _ => rfl)))
    (pss_cons (ps_set (i := 5) scText.nd rfl (Or.inl rfl) (pe_call GN (hr.mono (by decide)) (by rfl) M.mN M.kN M.bN .nil pass0 (pa_cons (pv 0) (pa_cons pe_int pa_nil))))
    (pss_cons (ps_if (pt_cmpR op_eq (pv 5) pe_int (nomark _)) (pss_one (ps_ret (pe_tup (pa_cons pe_str (pa_cons (pv 3) pa_nil))))) pss_nil)
    (pss_cons (ps_if (pt_cmpR op_eq (pv 5) pe_int (nomark _)) (pss_one (ps_ret (pe_tup (pa_cons pe_str (pa_cons (pv 3) (pa_cons (pv 4) pa_nil)))))) pss_nil)
    (pss_cons (ps_if (pt_cmpR op_eq (pv 5) pe_int (nomark _)) (pss_one (ps_ret (pe_tup (pa_cons pe_str (pa_cons (pe_call GN (hr.mono (by decide)) (by rfl) M.mN M.kN M.bN .nil pass0 (pa_cons (pv 0) (pa_cons pe_int pa_nil))) pa_nil))))) pss_nil)
    (pss_cons (ps_if (PW.pt (pw_or (pt_cmpR op_eq (pv 5) pe_int (nomark _)) (pw_or1 (pt_cmpR op_eq (pv 5) pe_int (nomark _)))))
      (pss_one (ps_ret (pe_tup (pa_cons (pe_ix ix_list (pe_lst (pa_cons pe_str (pa_cons pe_str pa_nil))) (pe_op op_sub (pv 5) pe_int) (fun _ _ => rfl)) (pa_cons (pv 3) pa_nil))))) pss_nil)
    (pss_one (ps_ret (pe_tup (pa_cons pe_str pa_nil))))))))))), ?_⟩

  refine ⟨_, rfl, la, _, rfl, .inl (SqL.of hla), (((ps.map V.ref).length : Nat) : Int), rfl, by omega, Int.lt_of_le_of_lt (show (((ps.map V.ref).length : Nat) : Int) ≤ 100 by rw [List.length_map, hlns.1]; omega) (by decide), fun D hD => ?_⟩
  have epl : (((ps.map V.ref).length : Nat) : Int).toNat = ls.length := by rw [List.length_map, hlns.1]; omega
  refine lc_range (lo := 0) (n := (((ps.map V.ref).length : Nat) : Int).toNat) (fun j H' => ∃ rs : List Nat, Ext T [] H H' ∧ H' D = some (.lst (rs.map fun (k : Nat) => V.int (k : Int))) ∧ (∀ k ∈ rs, isPl ls k) ∧ (∀ k, k < j → isPl ls k → k ∈ rs) ∧ rs.length ≤ j)
    ⟨[], Ext.new hD _, upd_same, fun k h => absurd h (by simp), fun k h => absurd h (Nat.not_lt_zero k), Nat.le_refl _⟩ ?_ ?_
  · rintro j H2 hj ⟨rs, e2, hD2, h1, h2, h3⟩
    have hjl : j < ls.length := by omega
    obtain ⟨p, hp, hpt⟩ := hlns.at (List.getElem?_eq_getElem hjl)
    refine ⟨rfl, ?_⟩
    refine ⟨_, rfl, _, rfl, la, _, _, _, rfl, rfl, SqL.of (e2.k hla), (by rw [Int.zero_add]; exact atI_nat hp), p, _, 0, _, rfl, rfl, SqT.of (e2.k hpt), atI_nat (j := 0) rfl, (by show 4 ≤ sizeLine; decide), fun t ht => ?_⟩
    have e3 : Ext T [] H2 (upd H2 t (.lst [.str "set", .str "letter", .str "not", .str "and"])) := Ext.new ht _
    have nt : t ≠ D := fun z => by rw [z, hD2] at ht; cases ht
    refine ⟨t, _, rfl, .inl (SqL.of upd_same), rfl, rfl, _, rfl, ?_⟩
    refine ite2 (fun h => ?_) (fun h => ?_)
    · have hpl : isP (ls[j]).1 = true := (inP _).symm.trans h
      refine ⟨_, rfl, _, e3.k hD2, by rw [List.length_map]; exact small1000 (by omega), rs ++ [j], (e2.trans e3).put hD _, ?_, ?_, ?_, ?_⟩
      · rw [upd_same, List.map_append, Int.zero_add]
        rfl
      · intro k hk
        rcases List.mem_append.mp hk with hk | hk
        · exact h1 k hk
        · rw [List.mem_singleton.mp hk]
          exact ⟨_, List.getElem?_eq_getElem hjl, hpl⟩
      · intro k hk hp2
        by_cases e : k = j
        · rw [e]; simp
        · exact List.mem_append_left _ (h2 k (by omega) hp2)
      · rw [List.length_append, List.length_singleton]
        omega
    · refine ⟨rs, e2.trans e3, e3.k hD2, h1, fun k hk hp2 => ?_, by omega⟩
      by_cases e : k = j
      · rw [e] at hp2
        obtain ⟨l2, e2', p2⟩ := hp2
        rw [List.getElem?_eq_getElem hjl] at e2'
        cases e2'
        exact absurd ((inP _).trans p2) h
      · exact h2 k (by omega) hp2
  rintro H9 ⟨rs, e9, hD9, h1, h2, h3⟩
  have hR : Ready H9 D ls rs := ⟨hD9, h1, fun k hk => h2 k (by have := hk.lt; omega) hk, by omega⟩

  have e10 : Ext T [bx] H H9 := e9.nil
  have B9 := B.ext e9
  have hp0 : 0 < ((rs.map fun (k : Nat) => V.int (k : Int)).length : Int) := by
    rw [List.length_map]
    have := List.length_pos_of_mem (hR.2.2.1 c0 hc0)
    omega
  refine ⟨_, rfl, _, rfl, _, rfl, D, _, rfl, .inl (SqL.of hR.1), bx, ra, _, rfl, B9, hp0, fun r2 H2 h02 h12 e2 B2 => ?_⟩
  obtain ⟨k2, hk2, hat2⟩ := ready_at h02 h12
  have hD2 := e2.kB B9.d hR.1
  refine ⟨D, _, _, _, rfl, rfl, SqL.of hD2, hat2, ?_⟩
  refine ⟨_, rfl, _, rfl, _, rfl, D, _, rfl, .inl (SqL.of hD2), bx, ra, _, rfl, B2, hp0, fun r3 H3 h03 h13 e3 B3 => ?_⟩
  obtain ⟨k3, hk3, hat3⟩ := ready_at h03 h13
  have hD3 := e3.kB B2.d hD2
  refine ⟨D, _, _, _, rfl, rfl, SqL.of hD3, hat3, ?_⟩
  refine ⟨_, rfl, bx, ra, 6, rfl, B3, by decide, fun ch H4 hc0 hc1 e4 B4 => ?_⟩
  have e14 : Ext T [bx] H H4 := e10.trans (e2.trans (e3.trans e4))
  have fin : ∀ (l : Ln) (H2 : Hp) (t : Addr), Ext T [bx] H H2 → Box H2 bx ra → H2 t = none → TLine ls ls.length l → Q (.ref t) (upd H2 t (.tup (lnV l))) := fun l H2 t e2 B2 ht hp =>
    q t l _ (e2.trans (Ext.new ht _)) (B2.ext (T := T) (Ext.new ht _)) upd_same hp
  have p2 := hR.2.1 k2 hk2
  have p3 := hR.2.1 k3 hk3
  have h6 : ch = 0 ∨ ch = 1 ∨ ch = 2 ∨ ch = 3 ∨ ch = 4 ∨ ch = 5 := by omega
  rcases h6 with rfl | rfl | rfl | rfl | rfl | rfl
  · refine ⟨_, rfl, rfl, _, rfl, iT ?_⟩
    exact ⟨_, rfl, (by show 2 ≤ sizeLine; decide), fun t ht => fin ("all", [(k2 : Int)]) H4 t e14 B4 ht (.all k2 p2.lt p2)⟩
  · refine ⟨_, rfl, rfl, _, rfl, iF (by decide) ?_⟩
    refine ⟨_, rfl, rfl, _, rfl, iT ?_⟩
    exact ⟨_, rfl, _, rfl, (by show 3 ≤ sizeLine; decide), fun t ht => fin ("next", [(k2 : Int), (k3 : Int)]) H4 t e14 B4 ht (.next k2 k3 p2.lt p2 p3.lt p3)⟩
  · refine ⟨_, rfl, rfl, _, rfl, iF (by decide) ?_⟩
    refine ⟨_, rfl, rfl, _, rfl, iF (by decide) ?_⟩
    refine ⟨_, rfl, rfl, _, rfl, iT ?_⟩
    refine ⟨_, rfl, bx, ra, 4, rfl, B4, by decide, fun r H5 h05 h15 e5 B5 => ⟨(by show 2 ≤ sizeLine; decide), fun t ht => ?_⟩⟩
    have er : r = ((r.toNat : Nat) : Int) := by omega
    have fz := fin ("one", [((r.toNat : Nat) : Int)]) H5 t (e14.trans e5) B5 ht (.one _)
    rw [← er] at fz
    exact fz
  · refine ⟨_, rfl, rfl, _, rfl, iF (by decide) ?_⟩
    refine ⟨_, rfl, rfl, _, rfl, iF (by decide) ?_⟩
    refine ⟨_, rfl, rfl, _, rfl, iF (by decide) ?_⟩
    refine ⟨_, rfl, rfl, _, rfl, iT ?_⟩
    refine ⟨(by show 2 ≤ sizeLine; decide), fun t ht => ⟨_, rfl, _, _, rfl, rfl, t, _, _, _, rfl, rfl, SqL.of upd_same, atI_nat (j := 0) rfl, _, rfl, (by show 2 ≤ sizeLine; decide), fun t2 ht2 => ?_⟩⟩
    exact fin ("first", [(k2 : Int)]) _ t2 (e14.trans (Ext.new ht _)) (B4.ext (T := T) (Ext.new ht _)) ht2 (.first k2 p2.lt p2)
  · refine ⟨_, rfl, rfl, _, rfl, iF (by decide) ?_⟩
    refine ⟨_, rfl, rfl, _, rfl, iF (by decide) ?_⟩
    refine ⟨_, rfl, rfl, _, rfl, iF (by decide) ?_⟩
    refine ⟨_, rfl, rfl, _, rfl, iF (by decide) ?_⟩
    refine ⟨_, rfl, rfl, _, rfl, iT ?_⟩
    refine ⟨(by show 2 ≤ sizeLine; decide), fun t ht => ⟨_, rfl, _, _, rfl, rfl, t, _, _, _, rfl, rfl, SqL.of upd_same, atI_nat (j := 1) rfl, _, rfl, (by show 2 ≤ sizeLine; decide), fun t2 ht2 => ?_⟩⟩
    exact fin ("last", [(k2 : Int)]) _ t2 (e14.trans (Ext.new ht _)) (B4.ext (T := T) (Ext.new ht _)) ht2 (.last k2 p2.lt p2)
  · refine ⟨_, rfl, rfl, _, rfl, iF (by decide) ?_⟩
    refine ⟨_, rfl, rfl, _, rfl, iF (by decide) ?_⟩
    refine ⟨_, rfl, rfl, _, rfl, iF (by decide) ?_⟩
    refine ⟨_, rfl, rfl, _, rfl, iF (by decide) ?_⟩
    refine ⟨_, rfl, rfl, _, rfl, iF (by decide) ?_⟩
    exact ⟨(by show 1 ≤ sizeLine; decide), fun t ht => fin ("nothing", []) H4 t e14 B4 ht .nothing⟩
end
end K15


set_option Elab.async false
set_option linter.all false
set_option maxRecDepth 100000
set_option maxHeartbeats 4000000
/-! a sentence -/
namespace K15
open PySem PySem.Spec PyProof.Rows L2 GxR GX
def natV (ts : List Nat) : List V := ts.map fun (k : Nat) => V.int (k : Int)
theorem natV_len (ts : List Nat) : (natV ts).length = ts.length := List.length_map _
theorem natV_at {ts : List Nat} {r : Int} (h0 : 0 ≤ r) (h1 : r < ((natV ts).length : Int)) : ∃ k : Nat, k ∈ ts ∧ atI (natV ts) r = some (.int (k : Int)) := ready_at h0 h1
theorem Lns.upd {H : Hp} {ps : List Addr} {ls : List Ln} {l : Addr} {xs : List V} (h : Lns H ps ls) (hl : H l = some (.lst xs)) (o : HO) : Lns (upd H l o) ps ls := ⟨h.1, fun i p m a b => by
  have q := h.2 i p m a b
  have ne : p ≠ l := fun z => by rw [z, hl] at q; cases q
  rw [upd_ne ne]
  exact q⟩
/-- the lines so far -/
structure LInv (T : List Addr) (bx ra : Addr) (H : Hp) (l : Addr) (ps : List Addr) (ls : List Ln) (H' : Hp) : Prop where
  e : Ext T [bx] H H'
  B : Box H' bx ra
  l0 : H l = none
  hl : H' l = some (.lst (ps.map V.ref))
  ln : Lns H' ps ls
  va : Valid ls
  lr : l ≠ ra
theorem LInv.next {T : List Addr} {bx ra : Addr} {H : Hp} {l : Addr} {ps : List Addr} {ls : List Ln} {H1 H2 : Hp} (S : LInv T bx ra H l ps ls H1) (e : Ext T [bx] H1 H2) (B : Box H2 bx ra) : LInv T bx ra H l ps ls H2 :=
  ⟨S.e.trans e, B, S.l0, e.kB S.B.d S.hl, S.ln.extB e S.B.d, S.va, S.lr⟩
theorem LInv.new {T : List Addr} {bx ra : Addr} {H : Hp} {l : Addr} {ps : List Addr} {ls : List Ln} {H1 : Hp} (S : LInv T bx ra H l ps ls H1) {t : Addr} (ht : H1 t = none) (o : HO) : LInv T bx ra H l ps ls (upd H1 t o) :=
  S.next (Ext.new ht o) (S.B.ext (T := T) (Ext.new ht o))
theorem Box.upd {H : Hp} {bx ra l : Addr} {xs : List V} (B : Box H bx ra) (hl : H l = some (.lst xs)) (lr : l ≠ ra) (o : HO) : Box (upd H l o) bx ra := by
  obtain ⟨z, r, h1, h2, h3, h4⟩ := B
  have n1 : bx ≠ l := fun e => by rw [e, hl] at h1; cases h1
  exact ⟨z, r, by rw [upd_ne n1]; exact h1, by rw [upd_ne lr.symm]; exact h2, h3, h4⟩
/-- a line more -/
theorem LInv.push {T : List Addr} {bx ra : Addr} {H : Hp} {l : Addr} {ps : List Addr} {ls : List Ln} {H1 : Hp} (S : LInv T bx ra H l ps ls H1) {r : Addr} {ln : Ln} (hr : H1 r = some (.tup (lnV ln))) (h : PLine ls ls.length ln ∨ TLine ls ls.length ln) :
    LInv T bx ra H l (ps ++ [r]) (ls ++ [ln]) (upd H1 l (.lst (ps.map V.ref ++ [.ref r]))) := by
  have nr : r ≠ l := fun z => by rw [z, S.hl] at hr; cases hr
  refine ⟨S.e.put S.l0 _, S.B.upd S.hl S.lr _, S.l0, by rw [upd_same, List.map_append]; rfl, (S.ln.upd S.hl _).snoc (by rw [upd_ne nr]; exact hr), S.va.snoc h, S.lr⟩
/-- another list of ours is written -/
theorem LInv.other {T : List Addr} {bx ra : Addr} {H : Hp} {l t : Addr} {ps : List Addr} {ls : List Ln} {H1 : Hp} {xs : List V} (S : LInv T bx ra H l ps ls H1) (ht : H1 t = some (.lst xs)) (t0 : H t = none) (nl : l ≠ t) (nr : t ≠ ra) (o : HO) : LInv T bx ra H l ps ls (upd H1 t o) :=
  ⟨S.e.put t0 _, S.B.upd ht nr _, S.l0, by rw [upd_ne nl]; exact S.hl, S.ln.upd ht _, S.va, S.lr⟩
theorem isTx_last {ls : List Ln} {n : Nat} {ln : Ln} (h : TLine ls n ln) : isTx (ls ++ [ln]) ls.length := ⟨ln, by rw [List.getElem?_append_right (Nat.le_refl _), Nat.sub_self]; rfl, h.isP⟩
section
variable {P : Program} {w : World} {K : PySem.W.Frag} {mg : Str → Option Value} {base : Heap}
structure MgE (K : PySem.W.Frag) (mg : Str → Option Value) (g : Addr) (gd : FuncData) : Prop extends MgD K mg g gd where
  tup : mg "tuple" = none
def spSent (T : List Addr) : Sp := fun vs H Q _ => ∃ (bx ra : Addr) (labels sets : Int) (deep size : Nat), vs = [.ref bx, .int labels, .int sets, .int deep, .int size] ∧ Box H bx ra ∧ 0 < labels ∧ deep ≤ 2 ∧ 1 ≤ size ∧ size ≤ 4 ∧
  ∀ (r : Addr) (ps : List Addr) (ls : List Ln) (H' : Hp), Ext T [bx] H H' → Box H' bx ra → H' r = some (.tup (ps.map V.ref)) → Lns H' ps ls → Valid ls → isTx ls (ls.length - 1) → ls.length ≤ 14 → Q (.ref r) H'

theorem scSent : FnScope ["_law_box_here", "_law_labels", "_law_sets", "_law_deep", "_law_size", "_law_lines", "_law_k", "_law_texts", "_law_one"] ["_law_box_here", "_law_labels", "_law_sets", "_law_deep", "_law_size"] (defScope sSent) := ⟨rfl, rfl, rfl, by decide +kernel, rfl, by decide +kernel, by decide +kernel⟩
theorem ok_sent {f g fp ft : Addr} {fd gd fdp fdt : FuncData} {T : List Addr} (F : Fun K "_law_sentence" "_law_sentence" sSent f fd) (M : MgE K mg g gd) (GN : FnOk P w K mg base CX0 1 g gd ["_law_box_here", "_law_modulus"] (spNext T))
    (GPl : FnOk P w K mg base CX0 2 fp fdp ["_law_box_here", "_law_labels", "_law_lines", "_law_sets"] (spPlace T)) (mPl : mg "_law_place_line" = some (.ref fp)) (kPl : PySem.W.keepIn K (.ref fp) = true) (bPl : Binds K fdp ["_law_box_here", "_law_labels", "_law_lines", "_law_sets"] [])
    (GTx : FnOk P w K mg base CX0 2 ft fdt ["_law_box_here", "_law_lines"] (spText T)) (mTx : mg "_law_text_line" = some (.ref ft)) (kTx : PySem.W.keepIn K (.ref ft) = true) (bTx : Binds K fdt ["_law_box_here", "_law_lines"] []) :
    FnOk P w K mg base CX0 3 f fd ["_law_box_here", "_law_labels", "_law_sets", "_law_deep", "_law_size"] (spSent T) := by
  refine F.ok scSent (fun vs H Q E h => ?_) (fun cdv A outer s H vs Q E hr h => ?_)
  · obtain ⟨bx, ra, labels, sets, deep, size, rfl, _⟩ := h
    rfl
  obtain ⟨bx, ra, labels, sets, deep, size, rfl, B, hlab, hdeep, hsz1, hsz4, q⟩ := h
  refine ⟨_, (pss_cons (ps_set (i := 5) scSent.nd rfl (Or.inl rfl) (pe_lst pa_nil)) (pss_cons (ps_for PassesOwn.never rfl (pi_range1 (by rfl) M.range (pa_cons (pv 4) pa_nil)) (pg_name (i := 6) scSent.nd rfl (Or.inl rfl)) (pss_one (ps_expr (pe_bm PySem.F.plainAttrs_list PySem.F.slot_list_append PySem.F.type_list_append mt_append (pv 5) (pa_cons (pe_call GPl hr (by rfl) mPl kPl bPl .nil pass0 (pa_cons (pv 0) (pa_cons (pv 1) (pa_cons (pv 5) (pa_cons (pe_op op_add (pv 2) (pv 3)) pa_nil))))) pa_nil))))) (pss_cons (ps_set (i := 7) scSent.nd rfl (Or.inl rfl) (pe_lst pa_nil)) (pss_cons (ps_for PassesOwn.never rfl (pi_range1 (by rfl) M.range (pa_cons (pe_op op_add pe_int (pe_call GN (hr.mono (by decide)) (by rfl) M.mN M.kN M.bN .nil pass0 (pa_cons (pv 0) (pa_cons pe_int pa_nil)))) pa_nil)) (pg_name (i := 6) scSent.nd rfl (Or.inl rfl)) (pss_cons (ps_expr (pe_bm PySem.F.plainAttrs_list PySem.F.slot_list_append PySem.F.type_list_append mt_append (pv 5) (pa_cons (pe_call GTx hr (by rfl) mTx kTx bTx .nil pass0 (pa_cons (pv 0) (pa_cons (pv 5) pa_nil))) pa_nil))) (pss_one (ps_expr (pe_bm PySem.F.plainAttrs_list PySem.F.slot_list_append PySem.F.type_list_append mt_append (pv 7) (pa_cons (pe_op op_sub (pe_callB call_len_seq (by rfl) M.len PySem.boot_len (pa_cons (pv 5) pa_nil)) pe_int) pa_nil)))))) (pss_cons (ps_for PassesOwn.never rfl (pi_range1 (by rfl) M.range (pa_cons (pe_call GN (hr.mono (by decide)) (by rfl) M.mN M.kN M.bN .nil pass0 (pa_cons (pv 0) (pa_cons pe_int pa_nil))) pa_nil)) (pg_name (i := 6) scSent.nd rfl (Or.inl rfl)) (pss_cons (ps_set (i := 8) scSent.nd rfl (Or.inl rfl) (pe_ix ix_list (pv 7) (pe_call GN (hr.mono (by decide)) (by rfl) M.mN M.kN M.bN .nil pass0 (pa_cons (pv 0) (pa_cons (pe_callB call_len_seq (by rfl) M.len PySem.boot_len (pa_cons (pv 7) pa_nil)) pa_nil))) (fun _ _ => rfl))) (pss_cons (ps_if (pt_cmpR op_eq (pe_call GN (hr.mono (by decide)) (by rfl) M.mN M.kN M.bN .nil pass0 (pa_cons (pv 0) (pa_cons pe_int pa_nil))) pe_int (nomark _)) (pss_one (ps_expr (pe_bm PySem.F.plainAttrs_list PySem.F.slot_list_append PySem.F.type_list_append mt_append (pv 5) (pa_cons (pe_tup (pa_cons pe_str (pa_cons (pv 8) pa_nil))) pa_nil)))) (pss_one (ps_expr (pe_bm PySem.F.plainAttrs_list PySem.F.slot_list_append PySem.F.type_list_append mt_append (pv 5) (pa_cons (pe_tup (pa_cons pe_str (pa_cons (pv 8) (pa_cons (pe_ix ix_list (pv 7) (pe_call GN (hr.mono (by decide)) (by rfl) M.mN M.kN M.bN .nil pass0 (pa_cons (pv 0) (pa_cons (pe_callB call_len_seq (by rfl) M.len PySem.boot_len (pa_cons (pv 7) pa_nil)) pa_nil))) (fun _ _ => rfl)) pa_nil)))) pa_nil))))) (pss_one (ps_expr (pe_bm PySem.F.plainAttrs_list PySem.F.slot_list_append PySem.F.type_list_append mt_append (pv 7) (pa_cons (pe_op op_sub (pe_callB call_len_seq (by rfl) M.len PySem.boot_len (pa_cons (pv 5) pa_nil)) pe_int) pa_nil))))))) (pss_cons (ps_for PassesOwn.never rfl (pi_range1 (by rfl) M.range (pa_cons (pv 3) pa_nil)) (pg_name (i := 6) scSent.nd rfl (Or.inl rfl)) (pss_cons (ps_expr (pe_bm PySem.F.plainAttrs_list PySem.F.slot_list_append PySem.F.type_list_append mt_append (pv 5) (pa_cons (pe_tup (pa_cons pe_str (pa_cons (pe_op op_sub (pe_callB call_len_seq (by rfl) M.len PySem.boot_len (pa_cons (pv 5) pa_nil)) pe_int) pa_nil))) pa_nil))) (pss_one (ps_if (pt_cmpR op_eq (pe_call GN (hr.mono (by decide)) (by rfl) M.mN M.kN M.bN .nil pass0 (pa_cons (pv 0) (pa_cons pe_int pa_nil))) pe_int (nomark _)) (pss_one (ps_expr (pe_bm PySem.F.plainAttrs_list PySem.F.slot_list_append PySem.F.type_list_append mt_append (pv 5) (pa_cons (pe_tup (pa_cons pe_str (pa_cons (pe_op op_sub (pe_callB call_len_seq (by rfl) M.len PySem.boot_len (pa_cons (pv 5) pa_nil)) pe_int) pa_nil))) pa_nil)))) (pss_one (ps_if (pt_cmpR op_eq (pe_call GN (hr.mono (by decide)) (by rfl) M.mN M.kN M.bN .nil pass0 (pa_cons (pv 0) (pa_cons pe_int pa_nil))) pe_int (nomark _)) (pss_one (ps_expr (pe_bm PySem.F.plainAttrs_list PySem.F.slot_list_append PySem.F.type_list_append mt_append (pv 5) (pa_cons (pe_tup (pa_cons pe_str (pa_cons (pe_op op_sub (pe_callB call_len_seq (by rfl) M.len PySem.boot_len (pa_cons (pv 5) pa_nil)) pe_int) (pa_cons (pe_ix ix_list (pv 7) (pe_call GN (hr.mono (by decide)) (by rfl) M.mN M.kN M.bN .nil pass0 (pa_cons (pv 0) (pa_cons (pe_callB call_len_seq (by rfl) M.len PySem.boot_len (pa_cons (pv 7) pa_nil)) pa_nil))) (fun _ _ => rfl)) pa_nil)))) pa_nil)))) pss_nil)))))) (pss_one (ps_ret (pe_callTy call_tuple_of (by rfl) M.tup (by decide +kernel) (pa_cons (pv 5) pa_nil)))))))))), ?_⟩
  have big : ∀ n : Nat, n ≤ 100 → (n : Int) < 2 ^ 62 := fun n h => Int.lt_of_le_of_lt (show (n : Int) ≤ 100 by omega) (by decide)
  have lenE : ∀ (ps : List Addr) (ls : List Ln) (H' : Hp), Lns H' ps ls → 0 < ls.length → (((ps.map V.ref).length : Int) - 1) = ((ls.length - 1 : Nat) : Int) := fun ps ls H' h h0 => by
    rw [List.length_map, h.1]
    omega
  refine ⟨Nat.zero_le _, fun l hl => ?_⟩
  have S0 : LInv T bx ra H l [] [] (upd H l (.lst [])) := by
    have lr : l ≠ ra := fun z => by
      obtain ⟨r, h⟩ := B.r
      rw [z, h] at hl
      cases hl
    exact ⟨Ext.new hl _, B.ext (T := T) (Ext.new hl _), hl, upd_same, Lns.nil, Valid.nil, lr⟩
  -- the place lines
  refine ⟨_, rfl, (size : Int), rfl, by omega, big _ (by omega), for_range (lo := 0) (n := (size : Int).toNat)
    (fun i σ H' => ∃ (ps : List Addr) (ls : List Ln) (v : Option V), σ = [some (.ref bx), some (.int labels), some (.int sets), some (.int deep), some (.int size), some (.ref l), v, none, none] ∧ LInv T bx ra H l ps ls H' ∧ ls.length = i ∧ (∀ c, c < i → isPl ls c))
    ⟨[], [], none, rfl, S0, rfl, fun c h => absurd h (Nat.not_lt_zero c)⟩ ?_ ?_⟩
  · rintro i σ H1 hi ⟨ps, ls, v, rfl, S, hlen, hpl⟩
    refine ⟨_, rfl, .inl ⟨rfl, _, SqL.of S.hl⟩, ?_⟩
    refine ⟨_, rfl, _, rfl, _, rfl, _, rfl, _, rfl, _, _, rfl, rfl, bx, ra, l, labels, sets + deep, ps, ls, rfl, S.B, hlab, S.hl, S.ln, by omega, fun r ln H2 e2 B2 hr2 hp2 => ?_⟩
    have S2 := S.next e2 B2
    refine ⟨l, _, _, rfl, rfl, S2.hl, by rw [List.length_map, S2.ln.1]; exact small1000 (by omega), ?_⟩
    refine ⟨ps ++ [r], ls ++ [ln], _, rfl, S2.push hr2 (.inl hp2), by rw [List.length_append, hlen]; rfl, fun c hc => ?_⟩
    by_cases e : c < i
    · exact (hpl c e).app
    · have ec : c = ls.length := by omega
      rw [ec]
      exact ⟨ln, by rw [List.getElem?_append_right (Nat.le_refl _), Nat.sub_self]; rfl, hp2.isP⟩
  rintro σ H1 ⟨ps1, ls1, v1, rfl, S1, hlen1, hpl1⟩
  have hlen1' : ls1.length = size := by omega
  have hc0 : isPl ls1 0 := hpl1 0 (by omega)
  refine ⟨Nat.zero_le _, fun t ht => ?_⟩
  have t0 : H t = none := S1.e.free t ht
  have nlt : l ≠ t := fun z => by
    have := S1.hl
    rw [z, ht] at this
    cases this
  have ntr : t ≠ ra := fun z => by
    obtain ⟨r, h⟩ := S1.B.r
    rw [z, h] at ht
    cases ht
  -- the text lines
  refine ⟨_, rfl, bx, ra, 3, rfl, (S1.new ht _).B, by decide, fun r0 H2 h00 h01 e2 B2 => ?_⟩
  have S2 := (S1.new ht (.lst [])).next e2 B2
  have ht2 : H2 t = some (.lst (natV [])) := e2.kB (S1.new ht (.lst [])).B.d upd_same
  refine ⟨_, _, rfl, rfl, 1 + r0, rfl, by omega, Int.lt_of_le_of_lt (show 1 + r0 ≤ 100 by omega) (by decide), for_range (lo := 0) (n := (1 + r0).toNat)
    (fun i σ H' => ∃ (ps : List Addr) (ls : List Ln) (ts : List Nat) (v : Option V), σ = [some (.ref bx), some (.int labels), some (.int sets), some (.int deep), some (.int size), some (.ref l), v, some (.ref t), none] ∧ LInv T bx ra H l ps ls H' ∧ H' t = some (.lst (natV ts)) ∧ (∀ k ∈ ts, isTx ls k) ∧ ls.length = size + i ∧ ts.length = i ∧ isPl ls 0 ∧ (0 < i → isTx ls (ls.length - 1)))
    ⟨ps1, ls1, [], v1, rfl, S2, ht2, fun k h => absurd h (by simp), by omega, rfl, hc0, fun h => absurd h (Nat.lt_irrefl 0)⟩ ?_ ?_⟩
  · rintro i σ H3 hi ⟨ps, ls, ts, v, rfl, S, hT, hts, hlen, htl, hp0, _⟩
    refine ⟨_, rfl, .inl ⟨rfl, _, SqL.of S.hl⟩, ?_⟩
    refine ⟨_, rfl, _, rfl, bx, ra, l, ps, ls, rfl, S.B, S.hl, S.ln, by omega, ⟨0, hp0⟩, fun r ln H4 e4 B4 hr4 hp4 => ?_⟩
    have S4 := S.next e4 B4
    have hT4 := e4.kB S.B.d hT
    refine ⟨l, _, _, rfl, rfl, S4.hl, by rw [List.length_map, S4.ln.1]; exact small1000 (by omega), ?_⟩
    have S5 := S4.push hr4 (.inr hp4)
    have hT5 : upd H4 l (.lst (ps.map V.ref ++ [.ref r])) t = some (.lst (natV ts)) := by rw [upd_ne nlt.symm]; exact hT4
    refine ⟨_, rfl, .inl ⟨rfl, _, SqL.of hT5⟩, ?_⟩
    refine ⟨_, rfl, l, _, rfl, .inl (SqL.of S5.hl), _, _, rfl, rfl, ?_⟩
    refine ⟨t, _, _, rfl, rfl, hT5, by rw [natV_len]; exact small1000 (by omega), ?_⟩
    have el := lenE (ps ++ [r]) (ls ++ [ln]) _ S5.ln (by simp)
    have ek : (ls ++ [ln]).length - 1 = ls.length := by simp
    refine ⟨ps ++ [r], ls ++ [ln], ts ++ [ls.length], _, rfl, S5.other hT5 t0 nlt ntr _, ?_, ?_, by rw [List.length_append, hlen]; rfl, by rw [List.length_append, htl]; rfl, hp0.app, fun _ => by rw [ek]; exact isTx_last hp4⟩
    · rw [upd_same]
      dsimp only
      rw [el, ek]
      unfold natV
      rw [List.map_append]
      rfl
    · intro k hk
      rcases List.mem_append.mp hk with hk | hk
      · exact (hts k hk).app
      · rw [List.mem_singleton.mp hk]
        exact isTx_last hp4
  rintro σ H3 ⟨ps3, ls3, ts3, v3, rfl, S3, hT3, hts3, hlen3, htl3, hp3, hlast3⟩
  have hn3 : ls3.length ≤ 7 := by omega
  have htp3 : 0 < ts3.length := by omega
  have hlast3' : isTx ls3 (ls3.length - 1) := hlast3 (by omega)
  -- denied, both
  refine ⟨_, rfl, bx, ra, 3, rfl, S3.B, by decide, fun r1 H4 h10 h11 e4 B4 => ?_⟩
  have S4 := S3.next e4 B4
  have hT4 := e4.kB S3.B.d hT3
  refine ⟨r1, rfl, by omega, Int.lt_of_le_of_lt (show r1 ≤ 100 by omega) (by decide), for_range (lo := 0) (n := r1.toNat)
    (fun i σ H' => ∃ (ps : List Addr) (ls : List Ln) (ts : List Nat) (v v2 : Option V), σ = [some (.ref bx), some (.int labels), some (.int sets), some (.int deep), some (.int size), some (.ref l), v, some (.ref t), v2] ∧ LInv T bx ra H l ps ls H' ∧ H' t = some (.lst (natV ts)) ∧ (∀ k ∈ ts, isTx ls k) ∧ ls.length ≤ 7 + i ∧ 0 < ts.length ∧ ts.length ≤ 3 + i ∧ isTx ls (ls.length - 1))
    ⟨ps3, ls3, ts3, v3, none, rfl, S4, hT4, hts3, by omega, htp3, by omega, hlast3'⟩ ?_ ?_⟩
  · rintro i σ H5 hi ⟨ps, ls, ts, v, v2, rfl, S, hT, hts, hlen, htp, htl, hlast⟩
    have hti : (0 : Int) < ((natV ts).length : Int) := by rw [natV_len]; omega
    refine ⟨_, rfl, _, rfl, _, rfl, t, _, rfl, .inl (SqL.of hT), bx, ra, _, rfl, S.B, hti, fun r6 H6 h60 h61 e6 B6 => ?_⟩
    obtain ⟨k, hk, hat⟩ := natV_at h60 h61
    have S6 := S.next e6 B6
    have hT6 := e6.kB S.B.d hT
    refine ⟨t, _, _, _, rfl, rfl, SqL.of hT6, hat, ?_⟩
    have hkx := hts k hk
    refine ⟨_, rfl, bx, ra, 2, rfl, S6.B, by decide, fun r7 H7 h70 h71 e7 B7 => ?_⟩
    have S7 := S6.next e7 B7
    have hT7 := e7.kB S6.B.d hT6
    -- what stands behind the line
    have behind : ∀ (H8 : Hp) (r : Addr) (ln : Ln), LInv T bx ra H l ps ls H8 → H8 t = some (.lst (natV ts)) → H8 r = some (.tup (lnV ln)) → TLine ls ls.length ln → ∀ (H9 : Hp), H9 = upd H8 l (.lst (ps.map V.ref ++ [.ref r])) → LInv T bx ra H l (ps ++ [r]) (ls ++ [ln]) H9 ∧ H9 t = some (.lst (natV ts)) := fun H8 r ln S8 hT8 hr8 hp8 H9 e => by
      subst e
      exact ⟨S8.push hr8 (.inr hp8), by rw [upd_ne nlt.symm]; exact hT8⟩
    have tail : ∀ (H9 : Hp) (r : Addr) (ln : Ln) (vk : Option V), LInv T bx ra H l (ps ++ [r]) (ls ++ [ln]) H9 → H9 t = some (.lst (natV ts)) → TLine ls ls.length ln →
        ∃ (ps' : List Addr) (ls' : List Ln) (ts' : List Nat) (v v2 : Option V), [some (.ref bx), some (.int labels), some (.int sets), some (.int (deep : Int)), some (.int (size : Int)), some (.ref l), vk, some (.ref t), some (.int (k : Int))] = [some (.ref bx), some (.int labels), some (.int sets), some (.int deep), some (.int size), some (.ref l), v, some (.ref t), v2] ∧
          LInv T bx ra H l ps' ls' (upd H9 t (.lst (natV ts ++ [.int ((((ps ++ [r]).map V.ref).length : Int) - 1)]))) ∧ upd H9 t (.lst (natV ts ++ [.int ((((ps ++ [r]).map V.ref).length : Int) - 1)])) t = some (.lst (natV ts')) ∧ (∀ k ∈ ts', isTx ls' k) ∧ ls'.length ≤ 7 + (i + 1) ∧ 0 < ts'.length ∧ ts'.length ≤ 3 + (i + 1) ∧ isTx ls' (ls'.length - 1) := fun H9 r ln vk S9 hT9 hp9 => by
      have el := lenE (ps ++ [r]) (ls ++ [ln]) _ S9.ln (by simp)
      have ek : (ls ++ [ln]).length - 1 = ls.length := by simp
      refine ⟨ps ++ [r], ls ++ [ln], ts ++ [ls.length], vk, _, rfl, S9.other hT9 t0 nlt ntr _, ?_, ?_, by rw [List.length_append]; simp; omega, by rw [List.length_append]; omega, by rw [List.length_append]; simp; omega, by rw [ek]; exact isTx_last hp9⟩
      · rw [upd_same, el, ek]
        unfold natV
        rw [List.map_append]
        rfl
      · intro k hk
        rcases List.mem_append.mp hk with hk | hk
        · exact (hts k hk).app
        · rw [List.mem_singleton.mp hk]
          exact isTx_last hp9
    refine ⟨rfl, _, rfl, ?_⟩
    refine ite2 (fun _ => ?_) (fun _ => ?_)
    · refine ⟨_, rfl, .inl ⟨rfl, _, SqL.of S7.hl⟩, ?_⟩
      refine ⟨_, rfl, (by show 2 ≤ sizeLine; decide), fun r hr => ?_⟩
      have S8 := S7.new hr (.tup (lnV ("denied", [(k : Int)])))
      have hT8 : upd H7 r (.tup (lnV ("denied", [(k : Int)]))) t = some (.lst (natV ts)) := (Ext.new (T := T) (X := []) hr _).k hT7
      refine ⟨l, _, _, rfl, rfl, S8.hl, by rw [List.length_map, S8.ln.1]; exact small1000 (by omega), ?_⟩
      have hp8 : TLine ls ls.length ("denied", [(k : Int)]) := .denied k hkx.lt hkx
      obtain ⟨S9, hT9⟩ := behind _ r ("denied", [(k : Int)]) S8 hT8 upd_same hp8 _ rfl
      refine ⟨_, rfl, .inl ⟨rfl, _, SqL.of hT9⟩, ?_⟩
      refine ⟨_, rfl, l, _, rfl, .inl (SqL.of S9.hl), _, _, rfl, rfl, ?_⟩
      refine ⟨t, _, _, rfl, rfl, hT9, by rw [natV_len]; exact small1000 (by omega), ?_⟩
      exact tail _ r _ _ S9 hT9 hp8
    · refine ⟨_, rfl, .inl ⟨rfl, _, SqL.of S7.hl⟩, ?_⟩
      refine ⟨_, rfl, _, rfl, _, rfl, _, rfl, t, _, rfl, .inl (SqL.of hT7), bx, ra, _, rfl, S7.B, hti, fun r8 H8 h80 h81 e8 B8 => ?_⟩
      obtain ⟨k8, hk8, hat8⟩ := natV_at h80 h81
      have S8 := S7.next e8 B8
      have hT8 := e8.kB S7.B.d hT7
      have hkx8 := hts k8 hk8
      refine ⟨t, _, _, _, rfl, rfl, SqL.of hT8, hat8, (by show 3 ≤ sizeLine; decide), fun r hr => ?_⟩
      have S9 := S8.new hr (.tup (lnV ("both", [(k : Int), (k8 : Int)])))
      have hT9 : upd H8 r (.tup (lnV ("both", [(k : Int), (k8 : Int)]))) t = some (.lst (natV ts)) := (Ext.new (T := T) (X := []) hr _).k hT8
      refine ⟨l, _, _, rfl, rfl, S9.hl, by rw [List.length_map, S9.ln.1]; exact small1000 (by omega), ?_⟩
      have hp9 : TLine ls ls.length ("both", [(k : Int), (k8 : Int)]) := .both k k8 hkx.lt hkx hkx8.lt hkx8
      obtain ⟨S10, hT10⟩ := behind _ r ("both", [(k : Int), (k8 : Int)]) S9 hT9 upd_same hp9 _ rfl
      refine ⟨_, rfl, .inl ⟨rfl, _, SqL.of hT10⟩, ?_⟩
      refine ⟨_, rfl, l, _, rfl, .inl (SqL.of S10.hl), _, _, rfl, rfl, ?_⟩
      refine ⟨t, _, _, rfl, rfl, hT10, by rw [natV_len]; exact small1000 (by omega), ?_⟩
      exact tail _ r _ _ S10 hT10 hp9
  rintro σ H5 ⟨ps5, ls5, ts5, v5, v25, rfl, S5, hT5, hts5, hlen5, htp5, htl5, hlast5⟩
  have hn5 : ls5.length ≤ 9 := by omega
  -- there
  refine ⟨_, rfl, (deep : Int), rfl, by omega, big _ (by omega), for_range (lo := 0) (n := (deep : Int).toNat)
    (fun i σ H' => ∃ (ps : List Addr) (ls : List Ln) (ts : List Nat) (v v2 : Option V), σ = [some (.ref bx), some (.int labels), some (.int sets), some (.int deep), some (.int size), some (.ref l), v, some (.ref t), v2] ∧ LInv T bx ra H l ps ls H' ∧ H' t = some (.lst (natV ts)) ∧ (∀ k ∈ ts, isTx ls k) ∧ ls.length ≤ 9 + 2 * i ∧ 0 < ts.length ∧ isTx ls (ls.length - 1))
    ⟨ps5, ls5, ts5, v5, v25, rfl, S5, hT5, hts5, by omega, htp5, hlast5⟩ ?_ ?_⟩
  · rintro i σ H6 hi ⟨ps, ls, ts, v, v2, rfl, S, hT, hts, hlen, htp, hlast⟩
    have hti : (0 : Int) < ((natV ts).length : Int) := by rw [natV_len]; omega
    have hl0 : 0 < ls.length := by have := hlast.lt; omega
    have el := lenE ps ls _ S.ln hl0
    refine ⟨_, rfl, .inl ⟨rfl, _, SqL.of S.hl⟩, ?_⟩
    refine ⟨_, rfl, l, _, rfl, .inl (SqL.of S.hl), _, _, rfl, rfl, (by show 2 ≤ sizeLine; decide), fun r hr => ?_⟩
    have S7 := S.new hr (.tup [.str "there", .int (((ps.map V.ref).length : Int) - 1)])
    have hT7 : upd H6 r (.tup [.str "there", .int (((ps.map V.ref).length : Int) - 1)]) t = some (.lst (natV ts)) := (Ext.new (T := T) (X := []) hr _).k hT
    refine ⟨l, _, _, rfl, rfl, S7.hl, by rw [List.length_map, S7.ln.1]; exact small1000 (by omega), ?_⟩
    have hp7 : TLine ls ls.length ((("there", [((ls.length - 1 : Nat) : Int)])) : Ln) := .there _ (by omega) hlast
    have S8 := S7.push (r := r) (ln := ((("there", [((ls.length - 1 : Nat) : Int)])) : Ln)) (by rw [upd_same, el]; rfl) (.inr hp7)
    have hT8 : upd (upd H6 r (.tup [.str "there", .int (((ps.map V.ref).length : Int) - 1)])) l (.lst (ps.map V.ref ++ [.ref r])) t = some (.lst (natV ts)) := by rw [upd_ne nlt.symm]; exact hT7
    generalize hH8 : upd (upd H6 r (.tup [.str "there", .int (((ps.map V.ref).length : Int) - 1)])) l (.lst (ps.map V.ref ++ [.ref r])) = H8 at S8 hT8 ⊢
    have hts8 : ∀ k ∈ ts, isTx (ls ++ [((("there", [((ls.length - 1 : Nat) : Int)])) : Ln)]) k := fun k hk => (hts k hk).app
    have hlast8 : isTx (ls ++ [((("there", [((ls.length - 1 : Nat) : Int)])) : Ln)]) ((ls ++ [((("there", [((ls.length - 1 : Nat) : Int)])) : Ln)] : List Ln).length - 1) := by
      have ek : (ls ++ [((("there", [((ls.length - 1 : Nat) : Int)])) : Ln)] : List Ln).length - 1 = ls.length := by simp
      rw [ek]
      exact isTx_last hp7
    have hlen8 : (ls ++ [((("there", [((ls.length - 1 : Nat) : Int)])) : Ln)] : List Ln).length ≤ 9 + 2 * i + 1 := by simp; omega
    have hl08 : 0 < (ls ++ [((("there", [((ls.length - 1 : Nat) : Int)])) : Ln)] : List Ln).length := by simp
    generalize (ls ++ [((("there", [((ls.length - 1 : Nat) : Int)])) : Ln)] : List Ln) = ls8 at S8 hts8 hlast8 hlen8 hl08
    generalize ps ++ [r] = ps8 at S8
    -- a line more, or none
    have fin : ∀ (H9 : Hp) (ps9 : List Addr) (ls9 : List Ln) (vk v2 : Option V), LInv T bx ra H l ps9 ls9 H9 → H9 t = some (.lst (natV ts)) → (∀ k ∈ ts, isTx ls9 k) → ls9.length ≤ 9 + 2 * i + 2 → isTx ls9 (ls9.length - 1) →
        ∃ (ps' : List Addr) (ls' : List Ln) (ts' : List Nat) (v v2' : Option V), [some (.ref bx), some (.int labels), some (.int sets), some (.int (deep : Int)), some (.int (size : Int)), some (.ref l), vk, some (.ref t), v2] = [some (.ref bx), some (.int labels), some (.int sets), some (.int deep), some (.int size), some (.ref l), v, some (.ref t), v2'] ∧
          LInv T bx ra H l ps' ls' H9 ∧ H9 t = some (.lst (natV ts')) ∧ (∀ k ∈ ts', isTx ls' k) ∧ ls'.length ≤ 9 + 2 * (i + 1) ∧ 0 < ts'.length ∧ isTx ls' (ls'.length - 1) := fun H9 ps9 ls9 vk v2 S9 hT9 hts9 hlen9 hlast9 =>
      ⟨ps9, ls9, ts, vk, v2, rfl, S9, hT9, hts9, by omega, htp, hlast9⟩
    refine ⟨_, rfl, bx, ra, 3, rfl, S8.B, by decide, fun r9 H9 h90 h91 e9 B9 => ?_⟩
    have S9 := S8.next e9 B9
    have hT9 := e9.kB S8.B.d hT8
    have el9 := lenE ps8 ls8 _ S9.ln hl08
    refine ⟨rfl, _, rfl, ?_⟩
    refine ite2 (fun _ => ?_) (fun _ => ?_)
    · refine ⟨_, rfl, .inl ⟨rfl, _, SqL.of S9.hl⟩, ?_⟩
      refine ⟨_, rfl, l, _, rfl, .inl (SqL.of S9.hl), _, _, rfl, rfl, (by show 2 ≤ sizeLine; decide), fun r2 hr2 => ?_⟩
      have S10 := S9.new hr2 (.tup [.str "denied", .int (((ps8.map V.ref).length : Int) - 1)])
      refine ⟨l, _, _, rfl, rfl, S10.hl, by rw [List.length_map, S10.ln.1]; exact small1000 (by omega), ?_⟩
      have hp10 : TLine ls8 ls8.length ((("denied", [((ls8.length - 1 : Nat) : Int)])) : Ln) := .denied _ (by omega) hlast8
      refine fin _ (ps8 ++ [r2]) (ls8 ++ [((("denied", [((ls8.length - 1 : Nat) : Int)])) : Ln)]) _ _ (S10.push (by rw [upd_same, el9]; rfl) (.inr hp10)) ?_ (fun k hk => (hts8 k hk).app) (by simp; omega) ?_
      · rw [upd_ne nlt.symm]
        exact (Ext.new (T := T) (X := []) hr2 _).k hT9
      · have ek : (ls8 ++ [((("denied", [((ls8.length - 1 : Nat) : Int)])) : Ln)] : List Ln).length - 1 = ls8.length := by simp
        rw [ek]
        exact isTx_last hp10
    · refine ⟨_, rfl, bx, ra, 3, rfl, S9.B, by decide, fun r10 H10 h100 h101 e10 B10 => ?_⟩
      have S10 := S9.next e10 B10
      have hT10 := e10.kB S9.B.d hT9
      refine ⟨rfl, _, rfl, ?_⟩
      refine ite2 (fun _ => ?_) (fun _ => ?_)
      · refine ⟨_, rfl, .inl ⟨rfl, _, SqL.of S10.hl⟩, ?_⟩
        refine ⟨_, rfl, l, _, rfl, .inl (SqL.of S10.hl), _, _, rfl, rfl, ?_⟩
        refine ⟨_, rfl, _, rfl, _, rfl, t, _, rfl, .inl (SqL.of hT10), bx, ra, _, rfl, S10.B, hti, fun r11 H11 h110 h111 e11 B11 => ?_⟩
        obtain ⟨k11, hk11, hat11⟩ := natV_at h110 h111
        have S11 := S10.next e11 B11
        have hT11 := e11.kB S10.B.d hT10
        have hkx := hts8 k11 hk11
        refine ⟨t, _, _, _, rfl, rfl, SqL.of hT11, hat11, (by show 3 ≤ sizeLine; decide), fun r2 hr2 => ?_⟩
        have S12 := S11.new hr2 (.tup [.str "both", .int (((ps8.map V.ref).length : Int) - 1), .int (k11 : Int)])
        refine ⟨l, _, _, rfl, rfl, S12.hl, by rw [List.length_map, S12.ln.1]; exact small1000 (by omega), ?_⟩
        have hp12 : TLine ls8 ls8.length ((("both", [((ls8.length - 1 : Nat) : Int), (k11 : Int)])) : Ln) := .both _ _ (by omega) hlast8 hkx.lt hkx
        refine fin _ (ps8 ++ [r2]) (ls8 ++ [((("both", [((ls8.length - 1 : Nat) : Int), (k11 : Int)])) : Ln)]) _ _ (S12.push (by rw [upd_same, el9]; rfl) (.inr hp12)) ?_ (fun k hk => (hts8 k hk).app) (by simp; omega) ?_
        · rw [upd_ne nlt.symm]
          exact (Ext.new (T := T) (X := []) hr2 _).k hT11
        · have ek : (ls8 ++ [((("both", [((ls8.length - 1 : Nat) : Int), (k11 : Int)])) : Ln)] : List Ln).length - 1 = ls8.length := by simp
          rw [ek]
          exact isTx_last hp12
      · exact fin _ ps8 ls8 _ _ S10 hT10 hts8 (by omega) hlast8
  rintro σ H6 ⟨ps6, ls6, ts6, v6, v26, rfl, S6, hT6, hts6, hlen6, htp6, hlast6⟩
  refine ⟨_, rfl, l, _, rfl, .inl ⟨SqL.of S6.hl, fun r hr => ?_⟩⟩
  have S7 := S6.new hr (.tup (ps6.map V.ref))
  exact q r ps6 ls6 _ S7.e S7.B upd_same S7.ln S7.va hlast6 (by omega)
end
end K15


set_option Elab.async false
set_option linter.all false
set_option maxRecDepth 100000
set_option maxHeartbeats 4000000
/-! the law's own reading: _law_at, _law_subset -/
namespace K15
open PySem PySem.Spec PyProof.Rows L2 GxR GX
section
variable {P : Program} {w : World} {K : PySem.W.Frag} {mg : Str → Option Value} {base : Heap}
def spLAt (K : PySem.W.Frag) (k : Nat) : Sp := fun vs H Q _ => ∃ (sa ra qa : Addr) (n p : Nat) (ps : List Addr) (ls : List Ln) (row : List Int) (ss : List (List Int)), vs = [.ref sa, .int n, .ref ra, .int p, .ref qa] ∧
  SqT K H sa (ps.map V.ref) ∧ Lns H ps ls ∧ SqL K H ra (row.map V.int) ∧ SsAt H qa ss ∧ Valid ls ∧ isPl ls n ∧ n < k ∧ p < row.length ∧ Q (.bl (atM ls row ss p n)) H
theorem scLAt : FnScope ["_law_lines", "_law_number", "_law_row", "_law_place", "_law_sets", "_law_line"] ["_law_lines", "_law_number", "_law_row", "_law_place", "_law_sets"] (defScope sLAt) := ⟨rfl, rfl, rfl, by decide +kernel, rfl, by decide +kernel, by decide +kernel⟩
theorem none_lat {f : Addr} {fd : FuncData} : FnOk P w K mg base CX0 0 f fd ["_law_lines", "_law_number", "_law_row", "_law_place", "_law_sets"] (spLAt K 0) := by
  have no : ∀ vs H Q E, ¬ spLAt K 0 vs H Q E := fun vs H Q E h => by
    obtain ⟨_, _, _, n, _, _, _, _, _, _, _, _, _, _, _, _, h, _⟩ := h
    exact absurd h (Nat.not_lt_zero n)
  exact ⟨fun vs H Q E h => absurd h (no vs H Q E), fun A outer s H args us vs Q E _ _ _ _ h => absurd h (no vs H Q E)⟩
theorem ok_lat1 {f : Addr} {fd : FuncData} {k : Nat} (F : Fun K "_law_at" "_law_at" sLAt f fd) (mA : mg "_law_at" = some (.ref f)) (b : Binds K fd ["_law_lines", "_law_number", "_law_row", "_law_place", "_law_sets"] []) (ml : mg "len" = none)
    (G : FnOk P w K mg base CX0 k f fd ["_law_lines", "_law_number", "_law_row", "_law_place", "_law_sets"] (spLAt K k)) : FnOk P w K mg base CX0 (k + 1) f fd ["_law_lines", "_law_number", "_law_row", "_law_place", "_law_sets"] (spLAt K (k + 1)) := by
  refine F.ok scLAt (fun vs H Q E h => ?_) (fun cdv A outer s H vs Q E hr h => ?_)
  · obtain ⟨sa, ra, qa, n, p, ps, ls, row, ss, rfl, _⟩ := h
    rfl
  obtain ⟨sa, ra, qa, n, p, ps, ls, row, ss, rfl, hsent, hlns, hrow, S, hV, hP, hnk, hp, q⟩ := h
  refine ⟨_, pss_cons (ps_set (i := 5) scLAt.nd rfl (Or.inl rfl) (pe_ix ix_tup (pv 0) (pv 1) (fun _ _ => rfl)))
    (pss_cons (ps_if (pt_cmpR op_eq (pe_ix ix_tup (pv 5) pe_int (fun _ _ => rfl)) pe_str (nomark _))
      (pss_one (ps_ret (pe_and (pe_cmpR op_lt (pe_ix ix_tup (pv 5) pe_int (fun _ _ => rfl)) (pe_callB call_len_seq (by rfl) ml PySem.boot_len (pa_cons (pv 4) pa_nil)) (nomark _))
        (pe_one (pe_cmpR op_in_seq (pv 3) (pe_ix ix_list (pv 4) (pe_ix ix_tup (pv 5) pe_int (fun _ _ => rfl)) (fun _ _ => rfl)) (by rfl)))))) pss_nil)
    (pss_cons (ps_if (pt_cmpR op_eq (pe_ix ix_tup (pv 5) pe_int (fun _ _ => rfl)) pe_str (nomark _))
      (pss_one (ps_ret (pe_cmpR op_eq (pe_ix ix_list (pv 2) (pv 3) (fun _ _ => rfl)) (pe_ix ix_tup (pv 5) pe_int (fun _ _ => rfl)) (nomark _)))) pss_nil)
    (pss_cons (ps_if (pt_cmpR op_eq (pe_ix ix_tup (pv 5) pe_int (fun _ _ => rfl)) pe_str (nomark _))
      (pss_one (ps_ret (pe_not (pe_call G hr (by rfl) mA F.kp b .nil pass0 (pa_cons (pv 0) (pa_cons (pe_ix ix_tup (pv 5) pe_int (fun _ _ => rfl)) (pa_cons (pv 2) (pa_cons (pv 3) (pa_cons (pv 4) pa_nil))))))))) pss_nil)
    (pss_one (ps_ret (pe_and (pe_call G hr (by rfl) mA F.kp b .nil pass0 (pa_cons (pv 0) (pa_cons (pe_ix ix_tup (pv 5) pe_int (fun _ _ => rfl)) (pa_cons (pv 2) (pa_cons (pv 3) (pa_cons (pv 4) pa_nil)))))) (pe_one (pe_call G hr (by rfl) mA F.kp b .nil pass0 (pa_cons (pv 0) (pa_cons (pe_ix ix_tup (pv 5) pe_int (fun _ _ => rfl)) (pa_cons (pv 2) (pa_cons (pv 3) (pa_cons (pv 4) pa_nil))))))))))))), ?_⟩
  obtain ⟨qs, hqa, hqs⟩ := id S
  obtain ⟨l, hl, hpl⟩ := hV.pl hP
  obtain ⟨pl, hpl1, hpl2⟩ := hlns.at hl
  refine ⟨_, rfl, _, rfl, sa, _, _, _, rfl, rfl, hsent, atI_nat hpl1, ?_⟩
  refine ⟨_, rfl, pl, _, 0, _, rfl, rfl, SqT.of hpl2, atI_nat (j := 0) rfl, rfl, _, rfl, ?_⟩
  cases hpl with
  | set i =>
    rw [dT "set"]
    refine iteT ?_
    refine ⟨_, rfl, pl, _, 1, _, rfl, rfl, SqT.of hpl2, atI_nat (j := 1) rfl, _, rfl, qa, _, rfl, .inl (SqL.of hqa), _, _, rfl, rfl, _, rfl, ?_⟩
    rw [at_set hl] at q
    rw [List.length_map, hqs.1]
    by_cases hi : (i : Int) < (ss.length : Int)
    · rw [decide_eq_true hi] at q ⊢
      refine iteT ?_
      have hi2 : i < ss.length := by omega
      obtain ⟨pq, hpq1, hpq2⟩ := hqs.at (List.getElem?_eq_getElem hi2)
      refine ⟨_, rfl, _, rfl, _, rfl, pl, _, 1, _, rfl, rfl, SqT.of hpl2, atI_nat (j := 1) rfl, qa, _, _, _, rfl, rfl, SqL.of hqa, atI_nat hpq1, pq, _, rfl, .inl (SqL.of hpq2), rfl, flat_ints _, ?_⟩
      show Q (.bl (inV (.int p) ((ss[i]).map V.int))) H
      rw [inV_int]
      have e : ss.getD i [] = ss[i] := by simp [List.getD, List.getElem?_eq_getElem hi2]
      rw [e, Bool.true_and] at q
      exact q
    · rw [decide_eq_false hi] at q ⊢
      exact iteF q
  | letter a =>
    rw [dF "letter" "set" (by decide +kernel)]
    refine iteF ?_
    refine ⟨_, rfl, pl, _, 0, _, rfl, rfl, SqT.of hpl2, atI_nat (j := 0) rfl, rfl, _, rfl, ?_⟩
    rw [dT "letter"]
    refine iteT ?_
    refine ⟨_, rfl, _, rfl, ra, _, _, _, rfl, rfl, hrow, atI_nat (j := p) (v := .int (row[p])) (by rw [List.getElem?_map, List.getElem?_eq_getElem hp]; rfl), ?_⟩
    refine ⟨_, rfl, pl, _, 1, _, rfl, rfl, SqT.of hpl2, atI_nat (j := 1) rfl, rfl, ?_⟩
    rw [at_letter hl] at q
    have e : row.getD p 0 = row[p] := by simp [List.getD, List.getElem?_eq_getElem hp]
    rw [e] at q
    have e2 : decide (V.int row[p] = V.int a) = decide (row[p] = a) := by rw [Bool.eq_iff_iff]; simp
    show Q (.bl (decide (V.int row[p] = V.int a))) H
    rw [e2]
    exact q
  | not c hc pc =>
    rw [dF "not" "set" (by decide +kernel)]
    refine iteF ?_
    refine ⟨_, rfl, pl, _, 0, _, rfl, rfl, SqT.of hpl2, atI_nat (j := 0) rfl, rfl, _, rfl, ?_⟩
    rw [dF "not" "letter" (by decide +kernel)]
    refine iteF ?_
    refine ⟨_, rfl, pl, _, 0, _, rfl, rfl, SqT.of hpl2, atI_nat (j := 0) rfl, rfl, _, rfl, ?_⟩
    rw [dT "not"]
    refine iteT ?_
    refine ⟨_, rfl, _, rfl, pl, _, 1, _, rfl, rfl, SqT.of hpl2, atI_nat (j := 1) rfl, _, rfl, _, rfl, _, rfl, ?_⟩
    refine ⟨sa, ra, qa, c, p, ps, ls, row, ss, rfl, hsent, hlns, hrow, S, hV, pc, by omega, hp, ?_⟩
    refine ⟨_, rfl, ?_⟩
    rw [at_not hl hc] at q
    exact q
  | and c d hc pc hd pd =>
    rw [dF "and" "set" (by decide +kernel)]
    refine iteF ?_
    refine ⟨_, rfl, pl, _, 0, _, rfl, rfl, SqT.of hpl2, atI_nat (j := 0) rfl, rfl, _, rfl, ?_⟩
    rw [dF "and" "letter" (by decide +kernel)]
    refine iteF ?_
    refine ⟨_, rfl, pl, _, 0, _, rfl, rfl, SqT.of hpl2, atI_nat (j := 0) rfl, rfl, _, rfl, ?_⟩
    rw [dF "and" "not" (by decide +kernel)]
    refine iteF ?_
    rw [at_and hl hc hd] at q
    refine ⟨_, rfl, _, rfl, pl, _, 1, _, rfl, rfl, SqT.of hpl2, atI_nat (j := 1) rfl, _, rfl, _, rfl, _, rfl, ?_⟩
    refine ⟨sa, ra, qa, c, p, ps, ls, row, ss, rfl, hsent, hlns, hrow, S, hV, pc, by omega, hp, ?_⟩
    refine ⟨_, rfl, ?_⟩
    refine ite2 (fun h => ?_) (fun h => ?_)
    · refine ⟨_, rfl, _, rfl, pl, _, 2, _, rfl, rfl, SqT.of hpl2, atI_nat (j := 2) rfl, _, rfl, _, rfl, _, rfl, ?_⟩
      refine ⟨sa, ra, qa, d, p, ps, ls, row, ss, rfl, hsent, hlns, hrow, S, hV, pd, by omega, hp, ?_⟩
      rw [h, Bool.true_and] at q
      exact q
    · rw [Bool.not_eq_true] at h
      rw [h, Bool.false_and] at q
      exact q
theorem ok_lat {f : Addr} {fd : FuncData} (F : Fun K "_law_at" "_law_at" sLAt f fd) (mA : mg "_law_at" = some (.ref f)) (b : Binds K fd ["_law_lines", "_law_number", "_law_row", "_law_place", "_law_sets"] []) (ml : mg "len" = none) :
    ∀ k : Nat, FnOk P w K mg base CX0 k f fd ["_law_lines", "_law_number", "_law_row", "_law_place", "_law_sets"] (spLAt K k)
  | 0 => none_lat
  | k + 1 => ok_lat1 F mA b ml (ok_lat F mA b ml k)
/-! ### _law_subset -/
theorem subs_succ (c i : Nat) : subs c (i + 1) = subs c i ++ (if (c / 2 ^ i) % 2 = 1 then [(i : Int)] else []) := by
  unfold subs
  rw [List.range_succ, List.filter_append, List.map_append]
  congr 1
  by_cases h : (c / 2 ^ i) % 2 = 1
  · simp [h]
  · simp [h]
theorem subs_len (c n : Nat) : (subs c n).length ≤ n := by
  unfold subs
  rw [List.length_map]
  refine Nat.le_trans (List.length_filter_le _ _) ?_
  rw [List.length_range]
  exact Nat.le_refl _
def spSub (T : List Addr) : Sp := fun vs H Q _ => ∃ (c n : Nat), vs = [.int c, .int n] ∧ n ≤ 8 ∧ ∀ (r : Addr) (H' : Hp), Ext T [] H H' → H' r = some (.lst ((subs c n).map V.int)) → Q (.ref r) H'
theorem scSub : FnScope ["_law_code", "_law_size", "_law_chosen", "_law_place"] ["_law_code", "_law_size"] (defScope sSub) := ⟨rfl, rfl, rfl, by decide +kernel, rfl, by decide +kernel, by decide +kernel⟩
theorem ok_sub {f : Addr} {fd : FuncData} {T : List Addr} (F : Fun K "_law_subset" "_law_subset" sSub f fd) (mr : mg "range" = none) : FnOk P w K mg base CX0 1 f fd ["_law_code", "_law_size"] (spSub T) := by
  refine F.ok scSub (fun vs H Q E h => ?_) (fun cdv A outer s H vs Q E hr h => ?_)
  · obtain ⟨c, n, rfl, _⟩ := h
    rfl
  obtain ⟨c, n, rfl, hn, q⟩ := h
  refine ⟨_, pss_cons (ps_set (i := 2) scSub.nd rfl (Or.inl rfl) (pe_lst pa_nil))
    (pss_cons (ps_for PassesOwn.never rfl (pi_range1 (by rfl) mr (pa_cons (pv 1) pa_nil)) (pg_name (i := 3) scSub.nd rfl (Or.inl rfl))
      (pss_cons (ps_if (pt_cmpR op_eq (pe_op op_mod (pv 0) pe_int) pe_int (nomark _))
        (pss_one (ps_expr (pe_bm PySem.F.plainAttrs_list PySem.F.slot_list_append PySem.F.type_list_append mt_append (pv 2) (pa_cons (pv 3) pa_nil)))) pss_nil)
      (pss_one (ps_set (i := 0) scSub.nd rfl (Or.inl rfl) (pe_op op_fdiv (pv 0) pe_int)))))
    (pss_one (ps_ret (pv 2)))), ?_⟩
  refine ⟨Nat.zero_le _, fun l hl => ?_⟩
  have en : (n : Int).toNat = n := by omega
  refine ⟨_, rfl, (n : Int), rfl, by omega, Int.lt_of_le_of_lt (show (n : Int) ≤ 8 by omega) (by decide), for_range (lo := 0) (n := (n : Int).toNat)
    (fun i σ H' => ∃ (v : Option V), σ = [some (.int ((c / 2 ^ i : Nat) : Int)), some (.int n), some (.ref l), v] ∧ Ext T [] H H' ∧ H' l = some (.lst ((subs c i).map V.int)))
    ⟨none, by rw [Nat.pow_zero, Nat.div_one] <;> rfl, Ext.new hl _, upd_same⟩ ?_ ?_⟩
  · rintro i σ H1 hi ⟨v, rfl, e1, h1⟩
    have step : (((c / 2 ^ i : Nat) : Int)) / 2 = ((c / 2 ^ (i + 1) : Nat) : Int) := by
      rw [Nat.pow_succ, ← Nat.div_div_eq_div_mul]
      omega
    refine ⟨_, rfl, _, _, rfl, rfl, (by show (0 : Int) < 2; decide), rfl, _, rfl, ?_⟩
    refine ite2 (fun h => ?_) (fun h => ?_)
    · have hm : (c / 2 ^ i) % 2 = 1 := by
        have := V.int.inj (of_decide_eq_true h)
        omega
      refine ⟨_, rfl, .inl ⟨rfl, _, SqL.of h1⟩, ?_⟩
      have := subs_len c i
      refine ⟨_, rfl, l, _, _, rfl, rfl, h1, by rw [List.length_map]; exact small1000 (by omega), ?_⟩
      refine ⟨_, rfl, _, _, rfl, rfl, ⟨by decide, by decide⟩, some _, by dsimp only [List.set]; rw [step] <;> rfl, e1.put hl _, ?_⟩
      rw [upd_same, subs_succ, if_pos hm, List.map_append, Int.zero_add]
      rfl
    · have hm : ¬ (c / 2 ^ i) % 2 = 1 := fun e => h (decide_eq_true (by
        have : (((c / 2 ^ i : Nat) : Int)) % 2 = 1 := by omega
        dsimp only
        rw [this]))
      refine ⟨_, rfl, _, _, rfl, rfl, ⟨by decide, by decide⟩, some _, by dsimp only [List.set]; rw [step] <;> rfl, e1, ?_⟩
      rw [h1, subs_succ, if_neg hm, List.append_nil]
  · rintro σ H1 ⟨v, rfl, e1, h1⟩
    rw [en] at h1
    exact ⟨_, rfl, q l H1 e1 h1⟩
end
end K15


set_option Elab.async false
set_option linter.all false
set_option maxRecDepth 100000
set_option maxHeartbeats 4000000
/-! _law_holds -/
namespace K15
open PySem PySem.Spec PyProof.Rows L2 GxR GX
theorem notin_bl : ∀ bs : List Bool, (!inV (.bl false) (bs.map V.bl)) = bs.all id
  | [] => rfl
  | a :: r => by
    have ih := notin_bl r
    unfold inV at ih ⊢
    rw [List.map_cons, List.any_cons, List.all_cons, ← ih]
    show (!((a == false) || _)) = _
    cases a <;> simp
theorem flat_bls (bs : List Bool) : (bs.map V.bl).all flatV = true := by
  rw [List.all_eq_true]
  intro x hx
  obtain ⟨i, _, rfl⟩ := List.mem_map.mp hx
  rfl
/-- what the two lists of truth values hold -/
def bls (f : Nat → Bool) (n : Nat) : List V := ((List.range n).map f).map V.bl
theorem bls_len (f : Nat → Bool) (n : Nat) : (bls f n).length = n := by unfold bls; simp
theorem bls_at (f : Nat → Bool) {n i : Nat} (h : i < n) : atI (bls f n) (i : Int) = some (.bl (f i)) := by
  refine atI_nat ?_
  unfold bls
  rw [List.getElem?_map, List.getElem?_map, List.getElem?_range h]
  rfl
theorem bls_succ (f : Nat → Bool) (n : Nat) : bls f (n + 1) = bls f n ++ [.bl (f n)] := by
  unfold bls
  rw [List.range_succ, List.map_append, List.map_append]
  rfl
theorem bls_last (f : Nat → Bool) (n : Nat) : atI (bls f (n + 1)) (-1) = some (.bl (f n)) := by
  rw [bls_succ]
  exact atI_last _ _
section
variable {P : Program} {w : World} {K : PySem.W.Frag} {mg : Str → Option Value} {base : Heap}
structure MgL (mg : Str → Option Value) : Prop where
  len : mg "len" = none
  range : mg "range" = none
def spLH (K : PySem.W.Frag) (T : List Addr) (k : Nat) : Sp := fun vs H Q _ => ∃ (sa ra qa : Addr) (n : Nat) (ps : List Addr) (ls : List Ln) (row : List Int) (ss : List (List Int)), vs = [.ref sa, .int n, .ref ra, .ref qa] ∧
  SqT K H sa (ps.map V.ref) ∧ Lns H ps ls ∧ SqL K H ra (row.map V.int) ∧ SsAt H qa ss ∧ Valid ls ∧ isTx ls n ∧ n < k ∧ row.length ≤ 8 ∧ ls.length ≤ 64 ∧ ss.length + k ≤ 200 ∧ ∀ H', Ext T [] H H' → Q (.bl (soM ls row n ss)) H'
theorem scLH : FnScope ["_law_lines", "_law_number", "_law_row", "_law_sets", "_law_line", "_law_one", "_law_many", "_law_place", "_law_code", "_law_two"] ["_law_lines", "_law_number", "_law_row", "_law_sets"] (defScope sLHolds) := ⟨rfl, rfl, rfl, by decide +kernel, rfl, by decide +kernel, by decide +kernel⟩
theorem none_lh {f : Addr} {fd : FuncData} {T : List Addr} : FnOk P w K mg base CX0 65 f fd ["_law_lines", "_law_number", "_law_row", "_law_sets"] (spLH K T 0) := by
  have no : ∀ vs H Q E, ¬ spLH K T 0 vs H Q E := fun vs H Q E h => by
    obtain ⟨_, _, _, n, _, _, _, _, _, _, _, _, _, _, _, h, _⟩ := h
    exact absurd h (Nat.not_lt_zero n)
  exact ⟨fun vs H Q E h => absurd h (no vs H Q E), fun A outer s H args us vs Q E _ _ _ _ h => absurd h (no vs H Q E)⟩
theorem ok_lh1 {f fa fs : Addr} {fd fda fds : FuncData} {k : Nat} {T : List Addr} (F : Fun K "_law_holds" "_law_holds" sLHolds f fd) (M : MgL mg)
    (mA : mg "_law_at" = some (.ref fa)) (kA : PySem.W.keepIn K (.ref fa) = true) (bA : Binds K fda ["_law_lines", "_law_number", "_law_row", "_law_place", "_law_sets"] []) (GA : FnOk P w K mg base CX0 64 fa fda ["_law_lines", "_law_number", "_law_row", "_law_place", "_law_sets"] (spLAt K 64))
    (mS : mg "_law_subset" = some (.ref fs)) (kS : PySem.W.keepIn K (.ref fs) = true) (bS : Binds K fds ["_law_code", "_law_size"] []) (GS : FnOk P w K mg base CX0 1 fs fds ["_law_code", "_law_size"] (spSub T))
    (mH : mg "_law_holds" = some (.ref f)) (b : Binds K fd ["_law_lines", "_law_number", "_law_row", "_law_sets"] []) (G : FnOk P w K mg base CX0 (65 + k) f fd ["_law_lines", "_law_number", "_law_row", "_law_sets"] (spLH K T k)) : FnOk P w K mg base CX0 (65 + k + 1) f fd ["_law_lines", "_law_number", "_law_row", "_law_sets"] (spLH K T (k + 1)) := by
  refine F.ok scLH (fun vs H Q E h => ?_) (fun cdv A outer s H vs Q E hr h => ?_)
  · obtain ⟨sa, ra, qa, n, ps, ls, row, ss, rfl, _⟩ := h
    rfl
  obtain ⟨sa, ra, qa, n, ps, ls, row, ss, rfl, hsent, hlns, hrow, S, hV, hP, hnk, hrow8, hls, hss, q⟩ := h
  have hr1 : Room 1 _ := hr.mono (show 1 ≤ 65 + k by omega)
  have hr64 : Room 64 _ := hr.mono (show 64 ≤ 65 + k by omega)
  have hr0 : Room (65 + k) _ := hr
  refine ⟨_, (pss_cons (ps_set (i := 4) scLH.nd rfl (Or.inr rfl) (pe_ix ix_tup (pv 0) (pv 1) (fun _ _ => rfl)))
    (pss_cons (ps_if (pt_cmpR op_eq (pe_ix ix_tup (pv 4) pe_int (fun _ _ => rfl)) pe_str (nomark _)) (pss_one (ps_ret (pe_cmpR op_eq (pe_callB call_len_seq (by rfl) M.len PySem.boot_len (pa_cons (pv 2) pa_nil)) pe_int (nomark _)))) pss_nil)
    (pss_cons (ps_if (pt_cmpR op_eq (pe_ix ix_tup (pv 4) pe_int (fun _ _ => rfl)) pe_str (nomark _)) (pss_one (ps_ret (pe_and (pe_cmpR op_lt (pe_ix ix_tup (pv 4) pe_int (fun _ _ => rfl)) (pe_callB call_len_seq (by rfl) M.len PySem.boot_len (pa_cons (pv 3) pa_nil)) (nomark _)) (pe_one (pe_cmpR op_eq (pe_callB call_len_seq (by rfl) M.len PySem.boot_len (pa_cons (pe_ix ix_list (pv 3) (pe_ix ix_tup (pv 4) pe_int (fun _ _ => rfl)) (fun _ _ => rfl)) pa_nil)) pe_int (nomark _)))))) pss_nil)
    (pss_cons (ps_if (pt_cmpR op_eq (pe_ix ix_tup (pv 4) pe_int (fun _ _ => rfl)) pe_str (nomark _)) (pss_one (ps_ret (pe_not (pe_call G hr0 (by rfl) mH F.kp b .nil pass0 (pa_cons (pv 0) (pa_cons (pe_ix ix_tup (pv 4) pe_int (fun _ _ => rfl)) (pa_cons (pv 2) (pa_cons (pv 3) pa_nil)))))))) pss_nil)
    (pss_cons (ps_if (pt_cmpR op_eq (pe_ix ix_tup (pv 4) pe_int (fun _ _ => rfl)) pe_str (nomark _)) (pss_cons (ps_set (i := 5) scLH.nd rfl (Or.inl rfl) (pe_call G hr0 (by rfl) mH F.kp b .nil pass0 (pa_cons (pv 0) (pa_cons (pe_ix ix_tup (pv 4) pe_int (fun _ _ => rfl)) (pa_cons (pv 2) (pa_cons (pv 3) pa_nil))))))
    (pss_one (ps_ret (pe_and (pe_call G hr0 (by rfl) mH F.kp b .nil pass0 (pa_cons (pv 0) (pa_cons (pe_ix ix_tup (pv 4) pe_int (fun _ _ => rfl)) (pa_cons (pv 2) (pa_cons (pv 3) pa_nil))))) (pe_one (pv 5)))))) pss_nil)
    (pss_cons (ps_if (pt_cmpR op_eq (pe_ix ix_tup (pv 4) pe_int (fun _ _ => rfl)) pe_str (nomark _)) (pss_cons (ps_set (i := 6) scLH.nd rfl (Or.inl rfl) pe_int)
    (pss_cons (ps_for PassesOwn.never rfl (pi_list (pv 2)) (pg_name (i := 7) scLH.nd rfl (Or.inl rfl)) (pss_one (ps_set (i := 6) scLH.nd rfl (Or.inl rfl) (pe_op op_mul pe_int (pv 6)))))
    (pss_cons (ps_for PassesOwn.never rfl (pi_range1 (by rfl) M.range (pa_cons (pv 6) pa_nil)) (pg_name (i := 8) scLH.nd rfl (Or.inl rfl)) (pss_one (ps_if (pt_val (pe_call G hr0 (by rfl) mH F.kp b .nil pass0 (pa_cons (pv 0) (pa_cons (pe_ix ix_tup (pv 4) pe_int (fun _ _ => rfl)) (pa_cons (pv 2) (pa_cons (pe_op op_cat (pv 3) (pe_lst (pa_cons (pe_call GS hr1 (by rfl) mS kS bS .nil pass0 (pa_cons (pv 8) (pa_cons (pe_callB call_len_seq (by rfl) M.len PySem.boot_len (pa_cons (pv 2) pa_nil)) pa_nil))) pa_nil))) pa_nil)))))) (pss_one (ps_ret pe_bl)) pss_nil)))
    (pss_one (ps_ret pe_bl))))) pss_nil)
    (pss_cons (ps_setLc (i := 5) (own := [("_law_place", 7)]) (g := gName 7) (tt := tYes) rfl scLH.nd rfl rfl (sw_true rfl rfl rfl (by decide +kernel)) (pi_range1 (by rfl) M.range (pa_cons (pe_callB call_len_seq (by rfl) M.len PySem.boot_len (pa_cons (pv 2) pa_nil)) pa_nil))
      (blkOk_by (own := [("_law_place", 7)]) (N := ["_law_lines", "_law_number", "_law_row", "_law_sets", "_law_line", "_law_one", "_law_many", "_law_place", "_law_code", "_law_two"]) (sc := defScope sLHolds) (by decide +kernel)) (fun _ _ _ _ _ => pg_name (i := 7) scLH.nd rfl (Or.inl rfl)) (fun _ _ _ _ _ => pts_nil)
      (fun _ _ _ _ _ => pe_call (sp := spLAt K 64) GA hr64 (by rfl) mA kA bA .nil pass0 (pa_cons (pv 0) (pa_cons (pe_ix (r := rIxT K) ix_tup (pv 4) pe_int (fun _ _ => rfl)) (pa_cons (pv 2) (pa_cons (pv 7) (pa_cons (pv 3) pa_nil)))))))
    (pss_cons (ps_if (pt_cmpR op_eq (pe_ix ix_tup (pv 4) pe_int (fun _ _ => rfl)) pe_str (nomark _)) (pss_one (ps_ret (pe_cmpR op_notIn_seq pe_bl (pv 5) (by rfl)))) pss_nil)
    (pss_cons (ps_if (pt_cmpR op_eq (pe_ix ix_tup (pv 4) pe_int (fun _ _ => rfl)) pe_str (nomark _)) (pss_one (ps_ret (pe_or (pe_cmpR op_eq (pe_callB call_len_seq (by rfl) M.len PySem.boot_len (pa_cons (pv 5) pa_nil)) pe_int (nomark _)) (pe_one (pe_ix ix_list (pv 5) pe_int (fun _ _ => rfl)))))) pss_nil)
    (pss_cons (ps_if (pt_cmpR op_eq (pe_ix ix_tup (pv 4) pe_int (fun _ _ => rfl)) pe_str (nomark _)) (pss_one (ps_ret (pe_or (pe_cmpR op_eq (pe_callB call_len_seq (by rfl) M.len PySem.boot_len (pa_cons (pv 5) pa_nil)) pe_int (nomark _)) (pe_one (pe_ix ix_list (pv 5) (pe_un un_neg pe_int) (fun _ _ => rfl)))))) pss_nil)
    (pss_cons (ps_setLc (i := 9) (own := [("_law_place", 7)]) (g := gName 7) (tt := tYes) rfl scLH.nd rfl rfl (sw_true rfl rfl rfl (by decide +kernel)) (pi_range1 (by rfl) M.range (pa_cons (pe_callB call_len_seq (by rfl) M.len PySem.boot_len (pa_cons (pv 2) pa_nil)) pa_nil))
      (blkOk_by (own := [("_law_place", 7)]) (N := ["_law_lines", "_law_number", "_law_row", "_law_sets", "_law_line", "_law_one", "_law_many", "_law_place", "_law_code", "_law_two"]) (sc := defScope sLHolds) (by decide +kernel)) (fun _ _ _ _ _ => pg_name (i := 7) scLH.nd rfl (Or.inl rfl)) (fun _ _ _ _ _ => pts_nil)
      (fun _ _ _ _ _ => pe_call (sp := spLAt K 64) GA hr64 (by rfl) mA kA bA .nil pass0 (pa_cons (pv 0) (pa_cons (pe_ix (r := rIxT K) ix_tup (pv 4) pe_int (fun _ _ => rfl)) (pa_cons (pv 2) (pa_cons (pv 7) (pa_cons (pv 3) pa_nil)))))))
    (pss_cons (ps_for PassesOwn.never rfl (pi_range1 (by rfl) M.range (pa_cons (pe_op op_sub (pe_callB call_len_seq (by rfl) M.len PySem.boot_len (pa_cons (pv 2) pa_nil)) pe_int) pa_nil)) (pg_name (i := 7) scLH.nd rfl (Or.inl rfl)) (pss_one (ps_if (PW.pt (pw_and (pt_val (pe_ix ix_list (pv 5) (pv 7) (fun _ _ => rfl))) (pw_and1 (pt_not (pt_val (pe_ix ix_list (pv 9) (pe_op op_add (pv 7) pe_int) (fun _ _ => rfl))))))) (pss_one (ps_ret pe_bl)) pss_nil)))
    (pss_one (ps_ret pe_bl)))))))))))))), ?_⟩
  obtain ⟨qs, hqa, hqs⟩ := id S
  obtain ⟨l, hl, htl⟩ := hV.tx hP
  obtain ⟨pl, hpl1, hpl2⟩ := hlns.at hl
  have h64 : ∀ z, isPl ls z → z < 64 := fun z hz => Nat.lt_of_lt_of_le hz.lt hls
  have hb62 : (row.length : Int) < 2 ^ 62 := Int.lt_of_le_of_lt (show (row.length : Int) ≤ 8 by omega) (by decide)
  refine ⟨_, rfl, _, rfl, sa, _, _, _, rfl, rfl, hsent, atI_nat hpl1, ?_⟩
  refine ⟨_, rfl, pl, _, 0, _, rfl, rfl, SqT.of hpl2, atI_nat (j := 0) rfl, rfl, _, rfl, ?_⟩
  cases htl with
  | nothing =>
    rw [dT "nothing"]
    refine iteT ?_
    refine ⟨_, rfl, ra, _, rfl, .inl hrow, rfl, ?_⟩
    have fin := q _ (Ext.refl H)
    have ed : decide (V.int ((row.map V.int).length : Int) = V.int 0) = decide (row.length = 0) := by
      rw [Bool.eq_iff_iff]
      simp
    rw [so_nothing hl] at fin
    show Q (.bl (decide (V.int ((row.map V.int).length : Int) = V.int 0))) H
    rw [ed]
    exact fin
  | one i =>
    rw [dF "one" "nothing" (by decide +kernel)]
    refine iteF ?_
    refine ⟨_, rfl, pl, _, 0, _, rfl, rfl, SqT.of hpl2, atI_nat (j := 0) rfl, rfl, _, rfl, ?_⟩
    rw [dT "one"]
    refine iteT ?_
    refine ⟨_, rfl, pl, _, 1, _, rfl, rfl, SqT.of hpl2, atI_nat (j := 1) rfl, _, rfl, qa, _, rfl, .inl (SqL.of hqa), _, _, rfl, rfl, _, rfl, ?_⟩
    have fin := q _ (Ext.refl H)
    rw [so_one hl] at fin
    rw [List.length_map, hqs.1]
    by_cases hi : (i : Int) < (ss.length : Int)
    · rw [decide_eq_true hi] at fin ⊢
      refine iteT ?_
      have hi2 : i < ss.length := by omega
      obtain ⟨pq, hpq1, hpq2⟩ := hqs.at (List.getElem?_eq_getElem hi2)
      refine ⟨_, rfl, _, rfl, pl, _, 1, _, rfl, rfl, SqT.of hpl2, atI_nat (j := 1) rfl, qa, _, _, _, rfl, rfl, SqL.of hqa, atI_nat hpq1, pq, _, rfl, .inl (SqL.of hpq2), rfl, ?_⟩
      have e : ss.getD i [] = ss[i] := by simp [List.getD, List.getElem?_eq_getElem hi2]
      have ed : decide (V.int (((ss[i]).map V.int).length : Int) = V.int 1) = decide ((ss[i]).length = 1) := by
        rw [List.length_map, Bool.eq_iff_iff]
        simp
        omega
      rw [e, Bool.true_and] at fin
      rw [ed]
      exact fin
    · rw [decide_eq_false hi] at fin ⊢
      exact iteF fin
  | denied g hg pg =>
    rw [dF "denied" "nothing" (by decide +kernel)]
    refine iteF ?_
    refine ⟨_, rfl, pl, _, 0, _, rfl, rfl, SqT.of hpl2, atI_nat (j := 0) rfl, rfl, _, rfl, ?_⟩
    rw [dF "denied" "one" (by decide +kernel)]
    refine iteF ?_
    refine ⟨_, rfl, pl, _, 0, _, rfl, rfl, SqT.of hpl2, atI_nat (j := 0) rfl, rfl, _, rfl, ?_⟩
    rw [dT "denied"]
    refine iteT ?_
    refine ⟨_, rfl, _, rfl, pl, _, 1, _, rfl, rfl, SqT.of (hpl2), atI_nat (j := 1) rfl, _, rfl, _, rfl, ?_⟩
    refine ⟨sa, ra, qa, g, ps, ls, row, ss, rfl, hsent, hlns, hrow, S, hV, pg, by omega, hrow8, hls, by omega, fun H2 e2 => ?_⟩
    refine ⟨_, rfl, ?_⟩
    have fin := q _ e2
    rw [so_denied hl hg] at fin
    exact fin
  | both g g2 hg pg hg2 pg2 =>
    rw [dF "both" "nothing" (by decide +kernel)]
    refine iteF ?_
    refine ⟨_, rfl, pl, _, 0, _, rfl, rfl, SqT.of hpl2, atI_nat (j := 0) rfl, rfl, _, rfl, ?_⟩
    rw [dF "both" "one" (by decide +kernel)]
    refine iteF ?_
    refine ⟨_, rfl, pl, _, 0, _, rfl, rfl, SqT.of hpl2, atI_nat (j := 0) rfl, rfl, _, rfl, ?_⟩
    rw [dF "both" "denied" (by decide +kernel)]
    refine iteF ?_
    refine ⟨_, rfl, pl, _, 0, _, rfl, rfl, SqT.of hpl2, atI_nat (j := 0) rfl, rfl, _, rfl, ?_⟩
    rw [dT "both"]
    refine iteT ?_
    refine ⟨_, rfl, _, rfl, pl, _, 1, _, rfl, rfl, SqT.of (hpl2), atI_nat (j := 1) rfl, _, rfl, _, rfl, ?_⟩
    refine ⟨sa, ra, qa, g, ps, ls, row, ss, rfl, hsent, hlns, hrow, S, hV, pg, by omega, hrow8, hls, by omega, fun H2 e2 => ?_⟩
    refine ⟨_, rfl, _, rfl, pl, _, 2, _, rfl, rfl, SqT.of (e2.k hpl2), atI_nat (j := 2) rfl, _, rfl, _, rfl, ?_⟩
    refine ⟨sa, ra, qa, g2, ps, ls, row, ss, rfl, e2.sqT hsent, hlns.ext e2, e2.sqL hrow, S.ext e2, hV, pg2, by omega, hrow8, hls, by omega, fun H3 e3 => ?_⟩
    have fin := q _ (e2.trans e3)
    rw [so_both hl hg hg2] at fin
    refine ⟨_, rfl, ?_⟩
    refine ite2 (fun h => ⟨_, rfl, ?_⟩) (fun h => ?_)
    · rw [h, Bool.and_true] at fin
      exact fin
    · rw [Bool.not_eq_true] at h
      rw [h, Bool.and_false] at fin
      exact fin
  | there g hg pg =>
    rw [dF "there" "nothing" (by decide +kernel)]
    refine iteF ?_
    refine ⟨_, rfl, pl, _, 0, _, rfl, rfl, SqT.of hpl2, atI_nat (j := 0) rfl, rfl, _, rfl, ?_⟩
    rw [dF "there" "one" (by decide +kernel)]
    refine iteF ?_
    refine ⟨_, rfl, pl, _, 0, _, rfl, rfl, SqT.of hpl2, atI_nat (j := 0) rfl, rfl, _, rfl, ?_⟩
    rw [dF "there" "denied" (by decide +kernel)]
    refine iteF ?_
    refine ⟨_, rfl, pl, _, 0, _, rfl, rfl, SqT.of hpl2, atI_nat (j := 0) rfl, rfl, _, rfl, ?_⟩
    rw [dF "there" "both" (by decide +kernel)]
    refine iteF ?_
    refine ⟨_, rfl, pl, _, 0, _, rfl, rfl, SqT.of hpl2, atI_nat (j := 0) rfl, rfl, _, rfl, ?_⟩
    rw [dT "there"]
    refine iteT ?_
    refine ⟨_, rfl, ra, rfl, ⟨_, hrow⟩, for_list (K := K) (a := ra) (xs := row.map V.int)
      (fun i σ H' => ∃ v : Option V, σ = [some (.ref sa), some (.int n), some (.ref ra), some (.ref qa), some (.ref pl), none, some (.int ((2 ^ i : Nat) : Int)), v, none, none] ∧ H' = H)
      ⟨none, rfl, rfl⟩ (fun i σ H' _ ⟨_, _, e⟩ => by rw [e]; exact hrow) ?_ ?_⟩
    · rintro i x σ H1 hx ⟨v, rfl, rfl⟩
      refine ⟨_, rfl, _, _, rfl, rfl, .inl ⟨by decide, by decide⟩, some x, ?_, rfl⟩
      dsimp only [List.set]
      have e2 : (2 : Int) * ((2 ^ i : Nat) : Int) = ((2 ^ (i + 1) : Nat) : Int) := by
        rw [Nat.pow_succ]
        omega
      rw [e2] <;> rfl
    rintro σ H1 ⟨v, rfl, rfl⟩
    rw [List.length_map]
    have hp8 : 2 ^ row.length ≤ 256 := pow_le8 hrow8
    have en : (((2 ^ row.length : Nat) : Int)).toNat = 2 ^ row.length := Int.toNat_natCast _
    refine ⟨_, rfl, ((2 ^ row.length : Nat) : Int), rfl, Int.le_trans (by decide) (Int.natCast_nonneg _), Int.lt_of_le_of_lt (show ((2 ^ row.length : Nat) : Int) ≤ ((256 : Nat) : Int) from Int.ofNat_le.mpr hp8) (by decide), for_range (lo := 0) (n := (((2 ^ row.length : Nat) : Int)).toNat)
      (fun i σ H' => ∃ v2 : Option V, σ = [some (.ref sa), some (.int n), some (.ref ra), some (.ref qa), some (.ref pl), none, some (.int ((2 ^ row.length : Nat) : Int)), v, v2, none] ∧ Ext T [] H1 H' ∧ ∀ z, z < i → soM ls row g (ss ++ [subs z row.length]) = false)
      ⟨none, rfl, Ext.refl _, fun z h => absurd h (Nat.not_lt_zero z)⟩ ?_ ?_⟩
    · rintro i σ H2 hi ⟨v2, rfl, e2, hz⟩
      have hi2 : i < 2 ^ row.length := by rw [en] at hi; exact hi
      refine ⟨_, rfl, _, rfl, pl, _, 1, _, rfl, rfl, SqT.of (e2.k hpl2), atI_nat (j := 1) rfl, _, rfl, _, rfl, _, rfl, _, rfl, ra, _, rfl, .inl (e2.sqL hrow), i, row.length, by rw [Int.zero_add, List.length_map] <;> rfl, hrow8, fun r H3 e3 hr3 => ?_⟩
      have e13 := e2.trans e3
      refine ⟨(by show 1 ≤ sizeLine; decide), fun t ht => ?_⟩
      have e4 : Ext T [] H3 (upd H3 t (.lst [.ref r])) := Ext.new ht _
      refine ⟨qa, t, _, _, rfl, rfl, e4.k (e13.k hqa), upd_same, ?_, fun t2 ht2 => ?_⟩
      · rw [List.length_map, List.length_singleton, hqs.1]
        exact small (by omega)
      have e5 : Ext T [] H3 (upd (upd H3 t (.lst [.ref r])) t2 (.lst (qs.map V.ref ++ [.ref r]))) := e4.trans (Ext.new ht2 _)
      have e9 := e13.trans e5
      refine ⟨sa, ra, t2, g, ps, ls, row, ss ++ [subs i row.length], rfl, e9.sqT hsent, hlns.ext e9, e9.sqL hrow, ⟨qs ++ [r], ?_, (hqs.ext e9).snoc (e5.k hr3)⟩, hV, pg, by omega, hrow8, hls, ?_, fun H6 e6 => ⟨_, rfl, ?_⟩⟩
      · rw [upd_same, List.map_append]
        rfl
      · rw [List.length_append, List.length_singleton]
        omega
      · refine ite2 (fun h => ?_) (fun h => ?_)
        · have fin := q _ (e9.trans e6)
          rw [so_there hl hg, any_yes hi2 h] at fin
          exact fin
        · refine ⟨some _, rfl, e9.trans e6, fun z hz' => ?_⟩
          by_cases e : z = i
          · rw [e]
            exact Bool.eq_false_iff.mpr h
          · exact hz z (by omega)
    · rintro σ H2 ⟨v2, rfl, e2, hz⟩
      rw [en] at hz
      have fin := q _ e2
      rw [so_there hl hg, any_no (fun z h => hz z h)] at fin
      exact fin
  | all c hc pc =>
    rw [dF "all" "nothing" (by decide +kernel)]
    refine iteF ?_
    refine ⟨_, rfl, pl, _, 0, _, rfl, rfl, SqT.of hpl2, atI_nat (j := 0) rfl, rfl, _, rfl, ?_⟩
    rw [dF "all" "one" (by decide +kernel)]
    refine iteF ?_
    refine ⟨_, rfl, pl, _, 0, _, rfl, rfl, SqT.of hpl2, atI_nat (j := 0) rfl, rfl, _, rfl, ?_⟩
    rw [dF "all" "denied" (by decide +kernel)]
    refine iteF ?_
    refine ⟨_, rfl, pl, _, 0, _, rfl, rfl, SqT.of hpl2, atI_nat (j := 0) rfl, rfl, _, rfl, ?_⟩
    rw [dF "all" "both" (by decide +kernel)]
    refine iteF ?_
    refine ⟨_, rfl, pl, _, 0, _, rfl, rfl, SqT.of hpl2, atI_nat (j := 0) rfl, rfl, _, rfl, ?_⟩
    rw [dF "all" "there" (by decide +kernel)]
    refine iteF ?_
    have e0 : Ext T [] H H := Ext.refl H
    refine ⟨_, rfl, ra, _, rfl, .inl (e0.sqL hrow), (((row.map V.int).length : Nat) : Int), rfl, by omega, by rw [List.length_map]; exact hb62, fun D hD => ?_⟩
    refine lc_range (lo := 0) (n := (((row.map V.int).length : Nat) : Int).toNat) (fun j H' => Ext T [] H H' ∧ H' D = some (.lst (bls (fun z => atM ls row ss z c) j))) ⟨Ext.new hD _, upd_same⟩ ?_ ?_
    · rintro j H2 hj ⟨e2, hDj⟩
      have hjl : j < row.length := by rw [List.length_map] at hj; omega
      have e12 := e0.trans e2
      refine ⟨rfl, yes_ ?_⟩
      refine ⟨_, rfl, _, rfl, pl, _, 1, _, rfl, rfl, SqT.of (e12.k hpl2), atI_nat (j := 1) rfl, _, rfl, _, rfl, _, rfl, ?_⟩
      refine ⟨sa, ra, qa, c, j, ps, ls, row, ss, by rw [Int.zero_add] <;> rfl, e12.sqT hsent, hlns.ext e12, e12.sqL hrow, S.ext e12, hV, pc, h64 _ pc, hjl, ?_⟩
      exact ⟨_, hDj, by rw [bls_len]; exact small1000 (by omega), e2.put hD _, by rw [upd_same, bls_succ]⟩
    rintro H1 ⟨e1, hD1⟩
    have enD : (((row.map V.int).length : Nat) : Int).toNat = row.length := by rw [List.length_map]; omega
    rw [enD] at hD1
    refine ⟨_, rfl, pl, _, 0, _, rfl, rfl, SqT.of (e1.k hpl2), atI_nat (j := 0) rfl, rfl, _, rfl, ?_⟩
    rw [dT "all"]
    refine iteT ?_
    refine ⟨_, rfl, D, _, rfl, .inl (SqL.of hD1), rfl, flat_bls _, ?_⟩
    have fin := q _ e1
    rw [so_all hl] at fin
    have ed : (!inV (.bl false) (bls (fun z => atM ls row ss z c) row.length)) = (List.range row.length).all fun z => atM ls row ss z c := by
      unfold bls
      rw [notin_bl, List.all_map]
      rfl
    show Q (.bl (!inV (.bl false) (bls (fun z => atM ls row ss z c) row.length))) H1
    rw [ed]
    exact fin
  | first c hc pc =>
    rw [dF "first" "nothing" (by decide +kernel)]
    refine iteF ?_
    refine ⟨_, rfl, pl, _, 0, _, rfl, rfl, SqT.of hpl2, atI_nat (j := 0) rfl, rfl, _, rfl, ?_⟩
    rw [dF "first" "one" (by decide +kernel)]
    refine iteF ?_
    refine ⟨_, rfl, pl, _, 0, _, rfl, rfl, SqT.of hpl2, atI_nat (j := 0) rfl, rfl, _, rfl, ?_⟩
    rw [dF "first" "denied" (by decide +kernel)]
    refine iteF ?_
    refine ⟨_, rfl, pl, _, 0, _, rfl, rfl, SqT.of hpl2, atI_nat (j := 0) rfl, rfl, _, rfl, ?_⟩
    rw [dF "first" "both" (by decide +kernel)]
    refine iteF ?_
    refine ⟨_, rfl, pl, _, 0, _, rfl, rfl, SqT.of hpl2, atI_nat (j := 0) rfl, rfl, _, rfl, ?_⟩
    rw [dF "first" "there" (by decide +kernel)]
    refine iteF ?_
    have e0 : Ext T [] H H := Ext.refl H
    refine ⟨_, rfl, ra, _, rfl, .inl (e0.sqL hrow), (((row.map V.int).length : Nat) : Int), rfl, by omega, by rw [List.length_map]; exact hb62, fun D hD => ?_⟩
    refine lc_range (lo := 0) (n := (((row.map V.int).length : Nat) : Int).toNat) (fun j H' => Ext T [] H H' ∧ H' D = some (.lst (bls (fun z => atM ls row ss z c) j))) ⟨Ext.new hD _, upd_same⟩ ?_ ?_
    · rintro j H2 hj ⟨e2, hDj⟩
      have hjl : j < row.length := by rw [List.length_map] at hj; omega
      have e12 := e0.trans e2
      refine ⟨rfl, yes_ ?_⟩
      refine ⟨_, rfl, _, rfl, pl, _, 1, _, rfl, rfl, SqT.of (e12.k hpl2), atI_nat (j := 1) rfl, _, rfl, _, rfl, _, rfl, ?_⟩
      refine ⟨sa, ra, qa, c, j, ps, ls, row, ss, by rw [Int.zero_add] <;> rfl, e12.sqT hsent, hlns.ext e12, e12.sqL hrow, S.ext e12, hV, pc, h64 _ pc, hjl, ?_⟩
      exact ⟨_, hDj, by rw [bls_len]; exact small1000 (by omega), e2.put hD _, by rw [upd_same, bls_succ]⟩
    rintro H1 ⟨e1, hD1⟩
    have enD : (((row.map V.int).length : Nat) : Int).toNat = row.length := by rw [List.length_map]; omega
    rw [enD] at hD1
    refine ⟨_, rfl, pl, _, 0, _, rfl, rfl, SqT.of (e1.k hpl2), atI_nat (j := 0) rfl, rfl, _, rfl, ?_⟩
    rw [dF "first" "all" (by decide +kernel)]
    refine iteF ?_
    refine ⟨_, rfl, pl, _, 0, _, rfl, rfl, SqT.of (e1.k hpl2), atI_nat (j := 0) rfl, rfl, _, rfl, ?_⟩
    rw [dT "first"]
    refine iteT ?_
    refine ⟨_, rfl, D, _, rfl, .inl (SqL.of hD1), rfl, _, rfl, ?_⟩
    rw [bls_len]
    have fin := q _ e1
    rw [so_first hl] at fin
    refine ite2 (fun h => ?_) (fun h => ?_)
    · have h0 : row.length = 0 := by
        have := V.int.inj (of_decide_eq_true h)
        omega
      rw [decide_eq_true h0, Bool.true_or] at fin
      exact fin
    · have h0 : ¬ row.length = 0 := fun z => h (decide_eq_true (by rw [z] <;> rfl))
      rw [decide_eq_false h0, Bool.false_or] at fin
      refine ⟨_, rfl, D, _, 0, _, rfl, rfl, SqL.of hD1, bls_at _ (i := 0) (by omega), fin⟩
  | last c hc pc =>
    rw [dF "last" "nothing" (by decide +kernel)]
    refine iteF ?_
    refine ⟨_, rfl, pl, _, 0, _, rfl, rfl, SqT.of hpl2, atI_nat (j := 0) rfl, rfl, _, rfl, ?_⟩
    rw [dF "last" "one" (by decide +kernel)]
    refine iteF ?_
    refine ⟨_, rfl, pl, _, 0, _, rfl, rfl, SqT.of hpl2, atI_nat (j := 0) rfl, rfl, _, rfl, ?_⟩
    rw [dF "last" "denied" (by decide +kernel)]
    refine iteF ?_
    refine ⟨_, rfl, pl, _, 0, _, rfl, rfl, SqT.of hpl2, atI_nat (j := 0) rfl, rfl, _, rfl, ?_⟩
    rw [dF "last" "both" (by decide +kernel)]
    refine iteF ?_
    refine ⟨_, rfl, pl, _, 0, _, rfl, rfl, SqT.of hpl2, atI_nat (j := 0) rfl, rfl, _, rfl, ?_⟩
    rw [dF "last" "there" (by decide +kernel)]
    refine iteF ?_
    have e0 : Ext T [] H H := Ext.refl H
    refine ⟨_, rfl, ra, _, rfl, .inl (e0.sqL hrow), (((row.map V.int).length : Nat) : Int), rfl, by omega, by rw [List.length_map]; exact hb62, fun D hD => ?_⟩
    refine lc_range (lo := 0) (n := (((row.map V.int).length : Nat) : Int).toNat) (fun j H' => Ext T [] H H' ∧ H' D = some (.lst (bls (fun z => atM ls row ss z c) j))) ⟨Ext.new hD _, upd_same⟩ ?_ ?_
    · rintro j H2 hj ⟨e2, hDj⟩
      have hjl : j < row.length := by rw [List.length_map] at hj; omega
      have e12 := e0.trans e2
      refine ⟨rfl, yes_ ?_⟩
      refine ⟨_, rfl, _, rfl, pl, _, 1, _, rfl, rfl, SqT.of (e12.k hpl2), atI_nat (j := 1) rfl, _, rfl, _, rfl, _, rfl, ?_⟩
      refine ⟨sa, ra, qa, c, j, ps, ls, row, ss, by rw [Int.zero_add] <;> rfl, e12.sqT hsent, hlns.ext e12, e12.sqL hrow, S.ext e12, hV, pc, h64 _ pc, hjl, ?_⟩
      exact ⟨_, hDj, by rw [bls_len]; exact small1000 (by omega), e2.put hD _, by rw [upd_same, bls_succ]⟩
    rintro H1 ⟨e1, hD1⟩
    have enD : (((row.map V.int).length : Nat) : Int).toNat = row.length := by rw [List.length_map]; omega
    rw [enD] at hD1
    refine ⟨_, rfl, pl, _, 0, _, rfl, rfl, SqT.of (e1.k hpl2), atI_nat (j := 0) rfl, rfl, _, rfl, ?_⟩
    rw [dF "last" "all" (by decide +kernel)]
    refine iteF ?_
    refine ⟨_, rfl, pl, _, 0, _, rfl, rfl, SqT.of (e1.k hpl2), atI_nat (j := 0) rfl, rfl, _, rfl, ?_⟩
    rw [dF "last" "first" (by decide +kernel)]
    refine iteF ?_
    refine ⟨_, rfl, pl, _, 0, _, rfl, rfl, SqT.of (e1.k hpl2), atI_nat (j := 0) rfl, rfl, _, rfl, ?_⟩
    rw [dT "last"]
    refine iteT ?_
    refine ⟨_, rfl, D, _, rfl, .inl (SqL.of hD1), rfl, _, rfl, ?_⟩
    rw [bls_len]
    have fin := q _ e1
    rw [so_last hl] at fin
    refine ite2 (fun h => ?_) (fun h => ?_)
    · have h0 : row.length = 0 := by
        have := V.int.inj (of_decide_eq_true h)
        omega
      rw [decide_eq_true h0, Bool.true_or] at fin
      exact fin
    · have h0 : ¬ row.length = 0 := fun z => h (decide_eq_true (by rw [z] <;> rfl))
      rw [decide_eq_false h0, Bool.false_or] at fin
      have en1 : row.length = (row.length - 1) + 1 := by omega
      have hat := bls_last (fun z => atM ls row ss z c) (row.length - 1)
      rw [← en1] at hat
      refine ⟨_, rfl, _, rfl, D, _, _, _, rfl, rfl, SqL.of hD1, hat, fin⟩
  | next c d hc pc hd pd =>
    rw [dF "next" "nothing" (by decide +kernel)]
    refine iteF ?_
    refine ⟨_, rfl, pl, _, 0, _, rfl, rfl, SqT.of hpl2, atI_nat (j := 0) rfl, rfl, _, rfl, ?_⟩
    rw [dF "next" "one" (by decide +kernel)]
    refine iteF ?_
    refine ⟨_, rfl, pl, _, 0, _, rfl, rfl, SqT.of hpl2, atI_nat (j := 0) rfl, rfl, _, rfl, ?_⟩
    rw [dF "next" "denied" (by decide +kernel)]
    refine iteF ?_
    refine ⟨_, rfl, pl, _, 0, _, rfl, rfl, SqT.of hpl2, atI_nat (j := 0) rfl, rfl, _, rfl, ?_⟩
    rw [dF "next" "both" (by decide +kernel)]
    refine iteF ?_
    refine ⟨_, rfl, pl, _, 0, _, rfl, rfl, SqT.of hpl2, atI_nat (j := 0) rfl, rfl, _, rfl, ?_⟩
    rw [dF "next" "there" (by decide +kernel)]
    refine iteF ?_
    have e0 : Ext T [] H H := Ext.refl H
    refine ⟨_, rfl, ra, _, rfl, .inl (e0.sqL hrow), (((row.map V.int).length : Nat) : Int), rfl, by omega, by rw [List.length_map]; exact hb62, fun D hD => ?_⟩
    refine lc_range (lo := 0) (n := (((row.map V.int).length : Nat) : Int).toNat) (fun j H' => Ext T [] H H' ∧ H' D = some (.lst (bls (fun z => atM ls row ss z c) j))) ⟨Ext.new hD _, upd_same⟩ ?_ ?_
    · rintro j H2 hj ⟨e2, hDj⟩
      have hjl : j < row.length := by rw [List.length_map] at hj; omega
      have e12 := e0.trans e2
      refine ⟨rfl, yes_ ?_⟩
      refine ⟨_, rfl, _, rfl, pl, _, 1, _, rfl, rfl, SqT.of (e12.k hpl2), atI_nat (j := 1) rfl, _, rfl, _, rfl, _, rfl, ?_⟩
      refine ⟨sa, ra, qa, c, j, ps, ls, row, ss, by rw [Int.zero_add] <;> rfl, e12.sqT hsent, hlns.ext e12, e12.sqL hrow, S.ext e12, hV, pc, h64 _ pc, hjl, ?_⟩
      exact ⟨_, hDj, by rw [bls_len]; exact small1000 (by omega), e2.put hD _, by rw [upd_same, bls_succ]⟩
    rintro H1 ⟨e1, hD1⟩
    have enD : (((row.map V.int).length : Nat) : Int).toNat = row.length := by rw [List.length_map]; omega
    rw [enD] at hD1
    refine ⟨_, rfl, pl, _, 0, _, rfl, rfl, SqT.of (e1.k hpl2), atI_nat (j := 0) rfl, rfl, _, rfl, ?_⟩
    rw [dF "next" "all" (by decide +kernel)]
    refine iteF ?_
    refine ⟨_, rfl, pl, _, 0, _, rfl, rfl, SqT.of (e1.k hpl2), atI_nat (j := 0) rfl, rfl, _, rfl, ?_⟩
    rw [dF "next" "first" (by decide +kernel)]
    refine iteF ?_
    refine ⟨_, rfl, pl, _, 0, _, rfl, rfl, SqT.of (e1.k hpl2), atI_nat (j := 0) rfl, rfl, _, rfl, ?_⟩
    rw [dF "next" "last" (by decide +kernel)]
    refine iteF ?_
    refine ⟨_, rfl, ra, _, rfl, .inl (e1.sqL hrow), (((row.map V.int).length : Nat) : Int), rfl, by omega, by rw [List.length_map]; exact hb62, fun D2 hD2 => ?_⟩
    refine lc_range (lo := 0) (n := (((row.map V.int).length : Nat) : Int).toNat) (fun j H' => Ext T [] H1 H' ∧ H' D2 = some (.lst (bls (fun z => atM ls row ss z d) j))) ⟨Ext.new hD2 _, upd_same⟩ ?_ ?_
    · rintro j H2 hj ⟨e2, hDj⟩
      have hjl : j < row.length := by rw [List.length_map] at hj; omega
      have e12 := e1.trans e2
      refine ⟨rfl, yes_ ?_⟩
      refine ⟨_, rfl, _, rfl, pl, _, 2, _, rfl, rfl, SqT.of (e12.k hpl2), atI_nat (j := 2) rfl, _, rfl, _, rfl, _, rfl, ?_⟩
      refine ⟨sa, ra, qa, d, j, ps, ls, row, ss, by rw [Int.zero_add] <;> rfl, e12.sqT hsent, hlns.ext e12, e12.sqL hrow, S.ext e12, hV, pd, h64 _ pd, hjl, ?_⟩
      exact ⟨_, hDj, by rw [bls_len]; exact small1000 (by omega), e2.put hD2 _, by rw [upd_same, bls_succ]⟩
    rintro H3 ⟨e3, hD3⟩
    have enD2 : (((row.map V.int).length : Nat) : Int).toNat = row.length := by rw [List.length_map]; omega
    rw [enD2] at hD3
    have eF := e1.trans e3
    have hDF := e3.k hD1
    have ej : (((row.map V.int).length : Int) - 1).toNat = row.length - 1 := by rw [List.length_map]; omega
    refine ⟨_, rfl, ra, _, rfl, .inl (eF.sqL hrow), _, _, rfl, rfl, ((row.map V.int).length : Int) - 1, rfl, by omega, by rw [List.length_map]; omega, for_range (lo := 0) (n := (((row.map V.int).length : Int) - 1).toNat)
      (fun i σ H' => ∃ v : Option V, σ = [some (.ref sa), some (.int n), some (.ref ra), some (.ref qa), some (.ref pl), some (.ref D), none, v, none, some (.ref D2)] ∧ H' = H3 ∧ ∀ z, z < i → (!(atM ls row ss z c) || atM ls row ss (z + 1) d) = true)
      ⟨none, rfl, rfl, fun z h => absurd h (Nat.not_lt_zero z)⟩ ?_ ?_⟩
    · rintro i σ H4 hi ⟨v, rfl, rfl, hz⟩
      have hi2 : i < row.length - 1 := by omega
      have step : (!(atM ls row ss i c) || atM ls row ss (i + 1) d) = true → ∀ z, z < i + 1 → (!(atM ls row ss z c) || atM ls row ss (z + 1) d) = true := fun h z hz' => by
        by_cases e : z = i
        · rw [e]; exact h
        · exact hz z (by omega)
      refine ⟨_, rfl, _, rfl, D, _, _, _, rfl, rfl, SqL.of hDF, (by rw [Int.zero_add]; exact bls_at _ (i := i) (by omega)), _, rfl, ?_⟩
      refine ite2 (fun h => ?_) (fun h => iteF ⟨some _, rfl, rfl, step (by rw [Bool.not_eq_true] at h; rw [h] <;> rfl)⟩)
      refine ⟨_, rfl, _, rfl, _, _, rfl, rfl, D2, _, _, _, rfl, rfl, SqL.of hD3, (by rw [Int.zero_add]; exact bls_at _ (i := i + 1) (by omega)), _, rfl, ?_⟩
      refine ite2 (fun h2 => ?_) (fun h2 => ⟨some _, rfl, rfl, step ?_⟩)
      · have h3 : atM ls row ss (i + 1) d = false := by
          cases e : atM ls row ss (i + 1) d with
          | false => rfl
          | true => rw [e] at h2; cases h2
        have fin := q _ eF
        rw [so_next hl, all_no hi2 (by rw [h, h3] <;> rfl)] at fin
        exact fin
      · have h3 : atM ls row ss (i + 1) d = true := by
          cases e : atM ls row ss (i + 1) d with
          | true => rfl
          | false => rw [e] at h2; exact absurd rfl h2
        rw [h3, Bool.or_true]
    · rintro σ H4 ⟨v, rfl, rfl, hz⟩
      rw [ej] at hz
      have fin := q _ eF
      rw [so_next hl, all_yes hz] at fin
      exact fin
theorem ok_lh {f fa fs : Addr} {fd fda fds : FuncData} {T : List Addr} (F : Fun K "_law_holds" "_law_holds" sLHolds f fd) (M : MgL mg)
    (mA : mg "_law_at" = some (.ref fa)) (kA : PySem.W.keepIn K (.ref fa) = true) (bA : Binds K fda ["_law_lines", "_law_number", "_law_row", "_law_place", "_law_sets"] []) (GA : FnOk P w K mg base CX0 64 fa fda ["_law_lines", "_law_number", "_law_row", "_law_place", "_law_sets"] (spLAt K 64))
    (mS : mg "_law_subset" = some (.ref fs)) (kS : PySem.W.keepIn K (.ref fs) = true) (bS : Binds K fds ["_law_code", "_law_size"] []) (GS : FnOk P w K mg base CX0 1 fs fds ["_law_code", "_law_size"] (spSub T))
    (mH : mg "_law_holds" = some (.ref f)) (b : Binds K fd ["_law_lines", "_law_number", "_law_row", "_law_sets"] []) : ∀ k : Nat, FnOk P w K mg base CX0 (65 + k) f fd ["_law_lines", "_law_number", "_law_row", "_law_sets"] (spLH K T k)
  | 0 => none_lh
  | k + 1 => ok_lh1 F M mA kA bA GA mS kS bS GS mH b (ok_lh F M mA kA bA GA mS kS bS GS mH b k)
end
end K15


set_option Elab.async false
set_option linter.all false
set_option maxRecDepth 100000
set_option maxHeartbeats 4000000
/-! _law_pair -/
namespace K15
open PySem PySem.Spec PyProof.Rows L2 GxR GX
def simp4 (x : Str) : Bool := inV (.str x) [.str "set", .str "letter", .str "one", .str "nothing"]
/-- a line of the second sentence, behind k lines -/
def shL (k : Nat) (l : Ln) : Ln := if simp4 l.1 = true then l else (l.1, l.2.map fun z => z + (k : Int))
theorem shL_1 (k : Nat) (l : Ln) : (shL k l).1 = l.1 := by
  unfold shL
  split <;> rfl
theorem isPl_sh {l1 l2 : List Ln} {c : Nat} (h : isPl l2 c) : isPl (l1 ++ l2.map (shL l1.length)) (l1.length + c) := by
  obtain ⟨l, e, p⟩ := h
  refine ⟨shL l1.length l, ?_, by rw [shL_1]; exact p⟩
  rw [List.getElem?_append_right (by omega), List.getElem?_map]
  have : l1.length + c - l1.length = c := by omega
  rw [this, e]
  rfl
theorem isTx_sh {l1 l2 : List Ln} {c : Nat} (h : isTx l2 c) : isTx (l1 ++ l2.map (shL l1.length)) (l1.length + c) := by
  obtain ⟨l, e, p⟩ := h
  refine ⟨shL l1.length l, ?_, by rw [shL_1]; exact p⟩
  rw [List.getElem?_append_right (by omega), List.getElem?_map]
  have : l1.length + c - l1.length = c := by omega
  rw [this, e]
  rfl
theorem sh_T (k : Nat) (x : Str) (as : List Int) (h : simp4 x = true) : shL k (x, as) = (x, as) := if_pos h
theorem sh_F (k : Nat) (x : Str) (as : List Int) (h : simp4 x = false) : shL k (x, as) = (x, as.map fun z => z + (k : Int)) := if_neg (by rw [h]; decide)
theorem ad (c k : Nat) : ((c : Int) + (k : Int)) = ((k + c : Nat) : Int) := by omega
theorem PLine_sh {l1 l2 : List Ln} {n : Nat} {l : Ln} (h : PLine l2 n l) : PLine (l1 ++ l2.map (shL l1.length)) (l1.length + n) (shL l1.length l) := by
  cases h with
  | set i => rw [sh_T _ "set" _ (by decide +kernel)]; exact .set i
  | letter a => rw [sh_T _ "letter" _ (by decide +kernel)]; exact .letter a
  | not c h p =>
    rw [sh_F _ "not" _ (by decide +kernel), List.map_cons, List.map_nil, ad]
    exact .not _ (by omega) (isPl_sh p)
  | and c d h p h' p' =>
    rw [sh_F _ "and" _ (by decide +kernel), List.map_cons, List.map_cons, List.map_nil, ad, ad]
    exact .and _ _ (by omega) (isPl_sh p) (by omega) (isPl_sh p')
theorem TLine_sh {l1 l2 : List Ln} {n : Nat} {l : Ln} (h : TLine l2 n l) : TLine (l1 ++ l2.map (shL l1.length)) (l1.length + n) (shL l1.length l) := by
  cases h with
  | all c h p =>
    rw [sh_F _ "all" _ (by decide +kernel), List.map_cons, List.map_nil, ad]
    exact .all _ (by omega) (isPl_sh p)
  | next c d h p h' p' =>
    rw [sh_F _ "next" _ (by decide +kernel), List.map_cons, List.map_cons, List.map_nil, ad, ad]
    exact .next _ _ (by omega) (isPl_sh p) (by omega) (isPl_sh p')
  | first c h p =>
    rw [sh_F _ "first" _ (by decide +kernel), List.map_cons, List.map_nil, ad]
    exact .first _ (by omega) (isPl_sh p)
  | last c h p =>
    rw [sh_F _ "last" _ (by decide +kernel), List.map_cons, List.map_nil, ad]
    exact .last _ (by omega) (isPl_sh p)
  | nothing => rw [sh_T _ "nothing" _ (by decide +kernel)]; exact .nothing
  | one i => rw [sh_T _ "one" _ (by decide +kernel)]; exact .one i
  | denied f h p =>
    rw [sh_F _ "denied" _ (by decide +kernel), List.map_cons, List.map_nil, ad]
    exact .denied _ (by omega) (isTx_sh p)
  | both f g h p h' p' =>
    rw [sh_F _ "both" _ (by decide +kernel), List.map_cons, List.map_cons, List.map_nil, ad, ad]
    exact .both _ _ (by omega) (isTx_sh p) (by omega) (isTx_sh p')
  | there f h p =>
    rw [sh_F _ "there" _ (by decide +kernel), List.map_cons, List.map_nil, ad]
    exact .there _ (by omega) (isTx_sh p)
theorem Valid_sh {l1 l2 : List Ln} (v1 : Valid l1) (v2 : Valid l2) : Valid (l1 ++ l2.map (shL l1.length)) := fun n l e => by
  by_cases hn : n < l1.length
  · rw [List.getElem?_append_left hn] at e
    rcases v1 n l e with ⟨a, b⟩ | ⟨a, b⟩
    · exact .inl ⟨a, b.app⟩
    · exact .inr ⟨a, b.app⟩
  · rw [List.getElem?_append_right (by omega), List.getElem?_map] at e
    cases h2 : l2[n - l1.length]? with
    | none => rw [h2] at e; cases e
    | some l' =>
      rw [h2] at e
      have e' : shL l1.length l' = l := Option.some.inj e
      have en : l1.length + (n - l1.length) = n := by omega
      rw [← e']
      rcases v2 _ _ h2 with ⟨a, b⟩ | ⟨a, b⟩
      · have := PLine_sh (l1 := l1) b
        rw [en] at this
        exact .inl ⟨by rw [shL_1]; exact a, this⟩
      · have := TLine_sh (l1 := l1) b
        rw [en] at this
        exact .inr ⟨by rw [shL_1]; exact a, this⟩
theorem args_ne {ls : List Ln} {n : Nat} {l : Ln} (h : PLine ls n l ∨ TLine ls n l) (hs : ¬ simp4 l.1 = true) : l.2 ≠ [] ∧ l.2.length ≤ 2 := by
  rcases h with h | h
  · cases h <;> exact ⟨by simp, by simp⟩
  · cases h with
    | nothing => exact absurd (show simp4 ("nothing" : Str) = true by decide +kernel) hs
    | _ => exact ⟨by simp, by simp⟩
section
variable {P : Program} {w : World} {K : PySem.W.Frag} {mg : Str → Option Value} {base : Heap}
structure MgP (mg : Str → Option Value) : Prop where
  len : mg "len" = none
  list : mg "list" = none
  tup : mg "tuple" = none
def SentAt (H : Hp) (a : Addr) (ps : List Addr) (ls : List Ln) : Prop := H a = some (.tup (ps.map V.ref)) ∧ Lns H ps ls ∧ Valid ls ∧ isTx ls (ls.length - 1)
def spPair (T : List Addr) : Sp := fun vs H Q _ => ∃ (a b : Addr) (p1 p2 : List Addr) (l1 l2 : List Ln), vs = [.ref a, .ref b] ∧ SentAt H a p1 l1 ∧ SentAt H b p2 l2 ∧ l1.length ≤ 14 ∧ l2.length ≤ 14 ∧
  ∀ (r : Addr) (ps : List Addr) (ls : List Ln) (H' : Hp), Ext T [] H H' → SentAt H' r ps ls → ls.length ≤ 29 → Q (.ref r) H'
theorem scPair : FnScope ["_law_one", "_law_two", "_law_lines", "_law_line", "_law_part"] ["_law_one", "_law_two"] (defScope sPair) := ⟨rfl, rfl, rfl, by decide +kernel, rfl, by decide +kernel, by decide +kernel⟩
theorem ok_pair {f : Addr} {fd : FuncData} {T : List Addr} (F : Fun K "_law_pair" "_law_pair" sPair f fd) (M : MgP mg) : FnOk P w K mg base CX0 1 f fd ["_law_one", "_law_two"] (spPair T) := by
  refine F.ok scPair (fun vs H Q E h => ?_) (fun cdv A outer s H vs Q E hr h => ?_)
  · obtain ⟨a, b, p1, p2, l1, l2, rfl, _⟩ := h
    rfl
  obtain ⟨a, b, p1, p2, l1, l2, rfl, ⟨ha, hl1, v1, x1⟩, ⟨hb, hl2, v2, x2⟩, n1, n2, q⟩ := h
  refine ⟨_, pss_cons (ps_set (i := 2) scPair.nd rfl (Or.inl rfl) (pe_callTy call_list_of (by rfl) M.list (by decide +kernel) (pa_cons (pv 0) pa_nil)))
    (pss_cons (ps_for PassesOwn.never rfl (pi_tup (pv 1)) (pg_name (i := 3) scPair.nd rfl (Or.inl rfl))
      (pss_one (ps_if (pt_cmpR op_in_seq (pe_ix ix_tup (pv 3) pe_int (fun _ _ => rfl)) (pe_lst (pa_cons pe_str (pa_cons pe_str (pa_cons pe_str (pa_cons pe_str pa_nil))))) (by rfl))
        (pss_one (ps_expr (pe_bm PySem.F.plainAttrs_list PySem.F.slot_list_append PySem.F.type_list_append mt_append (pv 2) (pa_cons (pv 3) pa_nil))))
        (pss_one (ps_expr (pe_bm PySem.F.plainAttrs_list PySem.F.slot_list_append PySem.F.type_list_append mt_append (pv 2) (pa_cons (pe_op op_catT (pe_tup (pa_cons (pe_ix ix_tup (pv 3) pe_int (fun _ _ => rfl)) pa_nil))
          (pe_callTy call_tuple_of (by rfl) M.tup (by decide +kernel) (pa_cons
            (pe_lc (own := [("_law_part", 4)]) (g := gName 4) (tt := tYes) rfl scPair.nd (pi_tup (pe_slice sl_tup (pv 3) (po_some pe_int) po_none)) (blkOk_by (own := [("_law_part", 4)]) (N := ["_law_one", "_law_two", "_law_lines", "_law_line", "_law_part"]) (sc := defScope sPair) (by decide +kernel))
              (fun _ _ _ _ _ => pg_name (i := 4) scPair.nd rfl (Or.inl rfl)) (fun _ _ _ _ _ => pts_nil)
              (fun _ _ _ _ _ => pe_op op_add (pv 4) (pe_callB (id := "len") (r := rLen K) call_lenK (by rfl) M.len PySem.boot_len (pa_cons (pv 0) pa_nil)))) pa_nil))) pa_nil)))))))
    (pss_one (ps_ret (pe_op op_catT (pe_callTy call_tuple_of (by rfl) M.tup (by decide +kernel) (pa_cons (pv 2) pa_nil))
      (pe_tup (pa_cons (pe_tup (pa_cons pe_str (pa_cons (pe_op op_sub (pe_callB call_len_seq (by rfl) M.len PySem.boot_len (pa_cons (pv 0) pa_nil)) pe_int) (pa_cons (pe_op op_sub (pe_callB call_len_seq (by rfl) M.len PySem.boot_len (pa_cons (pv 2) pa_nil)) pe_int) pa_nil)))) pa_nil)))))), ?_⟩
  have hn1 : 0 < l1.length := by have := x1.lt; omega
  have hn2 : 0 < l2.length := by have := x2.lt; omega
  refine ⟨_, rfl, a, _, rfl, .inr (SqT.of ha), fun l hl => ?_⟩
  have eL : Ext T [] H (upd H l (.lst (p1.map V.ref))) := Ext.new hl _
  refine ⟨_, rfl, b, rfl, ⟨_, SqT.of (eL.k hb)⟩, for_tup (K := K) (a := b) (xs := p2.map V.ref)
    (fun i σ H' => ∃ (ps : List Addr) (v : Option V), σ = [some (.ref a), some (.ref b), some (.ref l), v, none] ∧ Ext T [] H H' ∧ H' l = some (.lst (ps.map V.ref)) ∧ Lns H' ps (l1 ++ (l2.take i).map (shL l1.length)))
    ⟨p1, none, rfl, eL, upd_same, by rw [List.take_zero, List.map_nil, List.append_nil]; exact hl1.ext eL⟩ (fun i σ H' _ ⟨_, _, _, e, _⟩ => SqT.of (e.k hb)) ?_ ?_⟩
  · rintro i x σ H1 hx ⟨ps, v, rfl, e1, h1, hL⟩
    have hi : i < l2.length := by
      have := (List.getElem?_eq_some_iff.mp hx).1
      rw [List.length_map, hl2.1] at this
      exact this
    obtain ⟨p, hp, hpt⟩ := hl2.at (List.getElem?_eq_getElem hi)
    rw [hp] at hx
    cases hx
    have htake : l2.take (i + 1) = l2.take i ++ [l2[i]] := by
      rw [List.take_succ, List.getElem?_eq_getElem hi]
      rfl
    have hlen : ps.length = l1.length + i := by
      rw [hL.1, List.length_append, List.length_map, List.length_take]
      omega
    have fin : ∀ (H2 : Hp) (r : Addr), Ext T [] H1 H2 → H2 r = some (.tup (lnV (shL l1.length l2[i]))) →
        ∃ (ps' : List Addr) (v' : Option V), [some (.ref a), some (.ref b), some (.ref l), some (.ref p), none] = [some (.ref a), some (.ref b), some (.ref l), v', none] ∧ Ext T [] H (upd H2 l (.lst (ps.map V.ref ++ [.ref r]))) ∧ upd H2 l (.lst (ps.map V.ref ++ [.ref r])) l = some (.lst (ps'.map V.ref)) ∧ Lns (upd H2 l (.lst (ps.map V.ref ++ [.ref r]))) ps' (l1 ++ (l2.take (i + 1)).map (shL l1.length)) := fun H2 r e2 hr => by
      have h2 := e2.k h1
      have nr : r ≠ l := fun z => by rw [z, h2] at hr; cases hr
      refine ⟨ps ++ [r], _, rfl, (e1.trans e2).put hl _, by rw [upd_same, List.map_append]; rfl, ?_⟩
      rw [htake, List.map_append, ← List.append_assoc]
      exact ((hL.ext e2).upd h2 _).snoc (by rw [upd_ne nr]; exact hr)
    have hpt1 := e1.k hpt
    refine ⟨_, rfl, p, _, 0, _, rfl, rfl, SqT.of hpt1, atI_nat (j := 0) rfl, (by show 4 ≤ sizeLine; decide), fun t ht => ?_⟩
    have e3 : Ext T [] H1 (upd H1 t (.lst [.str "set", .str "letter", .str "one", .str "nothing"])) := Ext.new ht _
    refine ⟨t, _, rfl, .inl (SqL.of upd_same), rfl, rfl, _, rfl, ?_⟩
    refine ite2 (fun h => ?_) (fun h => ?_)
    · have hs : simp4 (l2[i]).1 = true := h
      refine ⟨_, rfl, .inl ⟨rfl, _, SqL.of (e3.k h1)⟩, _, rfl, l, _, _, rfl, rfl, e3.k h1, by rw [List.length_map]; exact small1000 (by omega), ?_⟩
      refine fin _ p e3 ?_
      have : shL l1.length l2[i] = l2[i] := if_pos hs
      rw [this]
      exact e3.k hpt1
    · have hs : ¬ simp4 (l2[i]).1 = true := h
      obtain ⟨hne, hle⟩ := args_ne (ls := l2) (n := i) (by rcases v2 i _ (List.getElem?_eq_getElem hi) with ⟨_, h⟩ | ⟨_, h⟩; exact .inl h; exact .inr h) hs
      refine ⟨_, rfl, .inl ⟨rfl, _, SqL.of (e3.k h1)⟩, _, rfl, p, _, 0, _, rfl, rfl, SqT.of (e3.k hpt1), atI_nat (j := 0) rfl, (by show 1 ≤ sizeLine; decide), fun t1 ht1 => ?_⟩
      have e4 := e3.trans (Ext.new (T := T) (X := []) ht1 (.tup [.str (l2[i]).1]))
      have ht1' : upd (upd H1 t (.lst [.str "set", .str "letter", .str "one", .str "nothing"])) t1 (.tup [.str (l2[i]).1]) t1 = some (.tup [.str (l2[i]).1]) := upd_same
      generalize upd (upd H1 t (.lst [.str "set", .str "letter", .str "one", .str "nothing"])) t1 (.tup [.str (l2[i]).1]) = H4 at e4 ht1' ⊢
      refine ⟨_, rfl, _, rfl, p, _, rfl, SqT.of (e4.k hpt1), whole1 _ _, fun t2 ht2 => ?_⟩
      have e5 : Ext T [] H4 (upd H4 t2 (.tup (cutV (lnV l2[i]) (some 1) none))) := Ext.new ht2 _
      have hcut : cutV (lnV l2[i]) (some 1) none = (l2[i]).2.map V.int := cut1 _ _
      rw [hcut] at e5 ⊢
      have ht2' : upd H4 t2 (.tup ((l2[i]).2.map V.int)) t2 = some (.tup ((l2[i]).2.map V.int)) := upd_same
      generalize upd H4 t2 (.tup ((l2[i]).2.map V.int)) = H5 at e5 ht2' ⊢
      refine ⟨t2, rfl, ⟨_, SqT.of ht2'⟩, fun D hD => ?_⟩
      refine lc_tup (K := K) (a := t2) (xs := (l2[i]).2.map V.int) (fun j H' => Ext T [] H5 H' ∧ H' D = some (.lst ((((l2[i]).2.take j).map fun z => z + (l1.length : Int)).map V.int))) ⟨Ext.new hD _, upd_same⟩ (fun j H' _ ⟨e, _⟩ => SqT.of (e.k ht2')) ?_ ?_
      · rintro j y H6 hy ⟨e6, hD6⟩
        have hj : j < (l2[i]).2.length := by
          have := (List.getElem?_eq_some_iff.mp hy).1
          simpa using this
        rw [List.getElem?_map, List.getElem?_eq_getElem hj] at hy
        have hy' : V.int ((l2[i]).2[j]) = y := Option.some.inj hy
        subst hy'
        refine ⟨rfl, yes_ ?_⟩
        refine ⟨_, rfl, _, rfl, a, _, rfl, .inr (SqT.of (e6.k (e5.k (e4.k (e1.k ha))))), _, _, rfl, rfl, _, hD6, ?_, e6.put hD _, ?_⟩
        · rw [List.length_map, List.length_map, List.length_take]
          exact small1000 (by omega)
        · rw [upd_same, List.take_succ, List.getElem?_eq_getElem hj, List.map_append, List.map_append, List.length_map, hl1.1]
          rfl
      · rintro H6 ⟨e6, hD6⟩
        rw [List.length_map, List.take_length] at hD6
        refine ⟨D, _, rfl, .inl ⟨SqL.of hD6, fun t3 ht3 => ?_⟩⟩
        have e7 : Ext T [] H6 (upd H6 t3 (.tup ((((l2[i]).2).map fun z => z + (l1.length : Int)).map V.int))) := Ext.new ht3 _
        refine ⟨t1, t3, _, _, rfl, rfl, SqT.of (e7.k (e6.k (e5.k ht1'))), SqT.of upd_same, (by simp), ?_, fun hz => ?_, fun _ t4 ht4 => ?_⟩
        · rw [List.length_map, List.length_map]
          exact small (by simp; omega)
        · exact absurd (List.map_eq_nil_iff.mp (List.map_eq_nil_iff.mp hz)) hne
        have e8 := ((e4.trans e5).trans e6).trans (e7.trans (Ext.new (T := T) (X := []) ht4 (.tup ([.str (l2[i]).1] ++ ((((l2[i]).2).map fun z => z + (l1.length : Int)).map V.int)))))
        refine ⟨l, _, _, rfl, rfl, e8.k h1, by rw [List.length_map]; exact small1000 (by omega), ?_⟩
        refine fin _ t4 e8 ?_
        rw [upd_same]
        have : shL l1.length l2[i] = ((l2[i]).1, (l2[i]).2.map fun z => z + (l1.length : Int)) := if_neg hs
        rw [this]
        rfl
  · rintro σ H1 ⟨ps, v, rfl, e1, h1, hL⟩
    have htk : l2.take (p2.map V.ref).length = l2 := by rw [List.length_map, hl2.1, List.take_length]
    rw [htk] at hL
    have hplen : ps.length = l1.length + l2.length := by rw [hL.1, List.length_append, List.length_map]
    refine ⟨_, rfl, l, _, rfl, .inl ⟨SqL.of h1, fun t1 ht1 => ?_⟩⟩
    have e2 : Ext T [] H1 (upd H1 t1 (.tup (ps.map V.ref))) := Ext.new ht1 _
    refine ⟨_, rfl, a, _, rfl, .inr (SqT.of (e2.k (e1.k ha))), _, _, rfl, rfl, _, rfl, l, _, rfl, .inl (SqL.of (e2.k h1)), _, _, rfl, rfl, (by show 3 ≤ sizeLine; decide), fun t2 ht2 => ⟨(by show 1 ≤ sizeLine; decide), fun t3 ht3 => ?_⟩⟩
    have ea : (((p1.map V.ref).length : Int) - 1) = ((l1.length - 1 : Nat) : Int) := by
      rw [List.length_map, hl1.1]
      omega
    have eb : (((ps.map V.ref).length : Int) - 1) = ((l1.length + l2.length - 1 : Nat) : Int) := by
      rw [List.length_map, hplen]
      omega
    dsimp only at ht3 ⊢
    rw [ea, eb] at ht3 ⊢
    have e3 := e2.trans ((Ext.new (T := T) (X := []) ht2 (.tup [.str "both", .int ((l1.length - 1 : Nat) : Int), .int ((l1.length + l2.length - 1 : Nat) : Int)])).trans (Ext.new (T := T) (X := []) ht3 (.tup [.ref t2])))
    have ht2' : upd (upd (upd H1 t1 (.tup (ps.map V.ref))) t2 (.tup [.str "both", .int ((l1.length - 1 : Nat) : Int), .int ((l1.length + l2.length - 1 : Nat) : Int)])) t3 (.tup [.ref t2]) t2 = some (.tup [.str "both", .int ((l1.length - 1 : Nat) : Int), .int ((l1.length + l2.length - 1 : Nat) : Int)]) :=
      (Ext.new (T := T) (X := []) ht3 _).k upd_same
    have ht1' : upd (upd (upd H1 t1 (.tup (ps.map V.ref))) t2 (.tup [.str "both", .int ((l1.length - 1 : Nat) : Int), .int ((l1.length + l2.length - 1 : Nat) : Int)])) t3 (.tup [.ref t2]) t1 = some (.tup (ps.map V.ref)) :=
      ((Ext.new (T := T) (X := []) ht2 _).trans (Ext.new (T := T) (X := []) ht3 _)).k upd_same
    refine ⟨t1, t3, _, _, rfl, rfl, SqT.of ht1', SqT.of upd_same, ?_, ?_, fun hz => ?_, fun _ t4 ht4 => ?_⟩
    · intro hz
      have h0 := congrArg List.length hz
      rw [List.length_map, hplen] at h0
      have h1 : l1.length + l2.length = 0 := h0
      clear h0 hz ea eb
      omega
    · rw [List.length_map, hplen]
      exact small (by simp; omega)
    · cases hz
    have e4 := e3.trans (Ext.new (T := T) (X := []) ht4 (.tup (ps.map V.ref ++ [.ref t2])))
    have hV := Valid_sh (l1 := l1) v1 v2
    have hlenL : (l1 ++ l2.map (shL l1.length)).length = l1.length + l2.length := by rw [List.length_append, List.length_map]
    have hx2 := isTx_sh (l1 := l1) x2
    have hlast : l1.length + (l2.length - 1) = l1.length + l2.length - 1 := by omega
    rw [hlast] at hx2
    have hb' : TLine (l1 ++ l2.map (shL l1.length)) (l1 ++ l2.map (shL l1.length)).length ((("both" : Str), [((l1.length - 1 : Nat) : Int), ((l1.length + l2.length - 1 : Nat) : Int)]) : Ln) := .both _ _ (by rw [hlenL]; omega) x1.app (by rw [hlenL]; omega) hx2
    refine q t4 (ps ++ [t2]) ((l1 ++ l2.map (shL l1.length)) ++ [((("both" : Str), [((l1.length - 1 : Nat) : Int), ((l1.length + l2.length - 1 : Nat) : Int)]) : Ln)]) _ (e1.trans e4) ⟨?_, ?_, hV.snoc (.inr hb'), ?_⟩ ?_
    · rw [upd_same, List.map_append]
      rfl
    · refine (hL.ext e4).snoc ?_
      exact (Ext.new (T := T) (X := []) ht4 _).k ht2'
    · have : ((l1 ++ l2.map (shL l1.length)) ++ [((("both" : Str), [((l1.length - 1 : Nat) : Int), ((l1.length + l2.length - 1 : Nat) : Int)]) : Ln)]).length - 1 = (l1 ++ l2.map (shL l1.length)).length := by
        rw [List.length_append]
        simp
      rw [this]
      exact isTx_last hb'
    · rw [List.length_append, hlenL, List.length_singleton]
      omega
end
end K15


set_option Elab.async false
set_option linter.all false
set_option maxRecDepth 100000
set_option maxHeartbeats 4000000
/-! law -/
namespace K15
open PySem PySem.Spec PyProof.Rows L2 GxR GX
/-! what is compared -/
def dInts (s : List Int) : PyData := .list (s.map PyData.int)
theorem dp_ints {K : PySem.W.Frag} {H : Hp} : ∀ s : List Int, DpAll K H (s.map V.int) (s.map PyData.int)
  | [] => .nil
  | i :: r => .cons (.int i) (dp_ints r)
theorem dp_sets {K : PySem.W.Frag} {H : Hp} : ∀ (qs : List Addr) (ss : List (List Int)), Ints H qs ss → DpAll K H (qs.map V.ref) (ss.map dInts)
  | [], [], _ => .nil
  | q :: qs, s :: ss, h => .cons (.lst (SqL.of (h.2 0 q s rfl rfl)) (dp_ints s)) (dp_sets qs ss ⟨Nat.succ.inj h.1, fun i p l a b => h.2 (i + 1) p l a b⟩)
  | [], _ :: _, h => by cases h.1
  | _ :: _, [], h => by cases h.1
theorem lay_sets : ∀ ss : List (List Int), PyData.canLayAll0 (ss.map dInts) = true
  | [] => rfl
  | s :: ss => by
    show (PyData.canLayAll0 (s.map PyData.int) && PyData.canLayAll0 (ss.map dInts)) = true
    rw [PySem.W.ke_canLayAll0, lay_sets ss]
    rfl
theorem deep_sets : ∀ ss : List (List Int), PyData.depthAll (ss.map dInts) ≤ 1
  | [] => Nat.zero_le _
  | s :: ss => by
    show max (PyData.depthAll (s.map PyData.int) + 1) (PyData.depthAll (ss.map dInts)) ≤ 1
    rw [PySem.W.ke_depthAll]
    have := deep_sets ss
    omega
def dBoth (row : List Int) (ss : List (List Int)) : PyData := .list [dInts row, .list (ss.map dInts)]
theorem lay_both (row : List Int) (ss : List (List Int)) : (dBoth row ss).canLay0 = true := by
  show (PyData.canLayAll0 (row.map PyData.int) && (PyData.canLayAll0 (ss.map dInts) && true)) = true
  rw [PySem.W.ke_canLayAll0, lay_sets]
  rfl
theorem shaped_both (row : List Int) (ss : List (List Int)) : SeqAt.shaped (dBoth row ss) = true := by
  unfold SeqAt.shaped
  rw [lay_both, Bool.true_and]
  refine decide_eq_true ?_
  show max (PyData.depthAll (row.map PyData.int) + 1) (max (PyData.depthAll (ss.map dInts) + 1) 0) + 1 ≤ 64
  rw [PySem.W.ke_depthAll]
  have := deep_sets ss
  omega
theorem dp_both {K : PySem.W.Frag} {H : Hp} {a r q : Addr} {row : List Int} {qs : List Addr} {ss : List (List Int)} (ha : H a = some (.lst [.ref r, .ref q])) (hr : H r = some (.lst (row.map V.int))) (hq : H q = some (.lst (qs.map V.ref))) (h : Ints H qs ss) : Dp K H (.ref a) (dBoth row ss) :=
  .lst (SqL.of ha) (.cons (.lst (SqL.of hr) (dp_ints row)) (.cons (.lst (SqL.of hq) (dp_sets qs ss h)) .nil))
theorem Ints.updS {H : Hp} {qs : List Addr} {ss : List (List Int)} {D : Addr} (h : Ints H qs ss) (hD : H D = some (.lst (qs.map V.ref))) (o : HO) : Ints (upd H D o) qs ss := ⟨h.1, fun i p s a b => by
  have e := h.2 i p s a b
  have n : p ≠ D := fun z => by
    rw [z, hD] at e
    have e2 : qs.map V.ref = s.map V.int := HO.lst.inj (Option.some.inj e)
    have e3 : (qs.map V.ref)[i]? = some (.ref p) := by rw [List.getElem?_map, a]; rfl
    rw [e2, List.getElem?_map] at e3
    cases hs : s[i]? with
    | none => rw [hs] at e3; cases e3
    | some y => rw [hs] at e3; cases e3
  rw [upd_ne n]
  exact e⟩
theorem nine (d : Nat) (h : d ≤ 2) : ∃ m : Int, atI [V.int 9, V.int 8, V.int 5] (d : Int) = some (.int m) ∧ 0 < m ∧ m ≤ 9 := by
  match d, h with
  | 0, _ => exact ⟨9, rfl, by decide, by decide⟩
  | 1, _ => exact ⟨8, rfl, by decide, by decide⟩
  | 2, _ => exact ⟨5, rfl, by decide, by decide⟩
section
variable {K : PySem.W.Frag} {T : List Addr}
def tRowL (K : PySem.W.Frag) (T : List Addr) : TE := tLc (iRng1 (tCons (tCall (spNext T) [] E0 (tCons (tVar 1) (tCons (tOp (rIxL K) (tLst (tCons (tC (.int 9)) (tCons (tC (.int 8)) (tCons (tC (.int 5)) tNil)))) (tVar 3)) tNil))) tNil)) (gName 13) tYes (tCall (spNext T) [] E0 (tCons (tVar 1) (tCons (tVar 2) tNil))) [13]
def tSetsL (K : PySem.W.Frag) (T : List Addr) : TE := tLc (iRng1 (tCons (tVar 4) tNil)) (gName 13) tYes (tLc (iRng1 (tCons (tCB (rLen K) (tCons (tVar 8) tNil)) tNil)) (gName 14) (tTest (tOp rEq (tCall (spNext T) [] E0 (tCons (tVar 1) (tCons (tC (.int 2)) tNil))) (tC (.int 1)))) (tVar 14) [14]) [13]
def tDueL (K : PySem.W.Frag) (T : List Addr) : TE := tCall (spLH K T 40) [] E0 (tCons (tVar 5) (tCons (tOp (rI0 fun i j => .int (i - j)) (tCB (rLen K) (tCons (tVar 5) tNil)) (tC (.int 1))) (tCons (tVar 8) (tCons (tVar 9) tNil))))
def tPassL (K : PySem.W.Frag) : TE := tLst (tCons (tCB (rList K) (tCons (tVar 8) tNil)) (tCons (tLc (iList K (tVar 9)) (gName 15) tYes (tCB (rList K) (tCons (tVar 15) tNil)) [15]) tNil))
def tActL (K : PySem.W.Frag) (T : List Addr) : TE := tCall (spHolds K T) [] E0 (tCons (tVar 5) (tCons (tOp (rIxL K) (tVar 11) (tC (.int 0))) (tCons (tOp (rIxL K) (tVar 11) (tC (.int 1))) tNil)))
def tCmpL (K : PySem.W.Frag) : TS := tIfS (tOr (tNot (tB (tCB (rIsi K) (tCons (tVar 12) (tCons (tC (.ty "bool")) tNil))))) (tOr (tTest (tOp rNe (tVar 12) (tVar 10))) (tTest (tOp (rNeD K) (tVar 11) (tLst (tCons (tVar 8) (tCons (tVar 9) tNil))))))) (tRet (tC (.bl false))) tNext
def tTurn (K : PySem.W.Frag) (T : List Addr) : TS := tSeq (tAsg (tRowL K T) (gName 8)) (tSeq (tAsg (tSetsL K T) (gName 9)) (tSeq (tAsg (tDueL K T) (gName 10)) (tSeq (tAsg (tPassL K) (gName 11)) (tSeq (tAsg (tActL K T) (gName 12)) (tCmpL K)))))
def tRest (K : PySem.W.Frag) (T : List Addr) : TS := tSeq (tIfS (tTest (tOp (rI0 fun i j => .bl (decide (j < i))) (tCall (spSize K T) [] E0 (tCons (tVar 5) tNil)) (tC (.int 300)))) (tRet (tC (.bl true))) tNext)
  (tSeq (tFor (iRng1 (tCons (tC (.int 2)) tNil)) (gName 7) (tTurn K T)) (tRet (tC (.bl true))))
theorem rest_law {a bx ra sa : Addr} {c : Int} {dp gv : Nat} {ps : List Addr} {ls : List Ln} {v6 : Option V} {H6 : Hp} {Q : VK} (hc : 0 < c) (hdp : dp ≤ 2) (hgv : gv ≤ 4) (B6 : Box H6 bx ra) (S6 : SentAt H6 sa ps ls) (hlen : ls.length ≤ 29) (hT6 : Tbs T H6) (q : ∀ H', Q (.bl true) H') :
    tRest K T { nx := fun _ H' => Q .non H', rt := Q } [some (.ref a), some (.ref bx), some (.int c), some (.int (dp : Int)), some (.int (gv : Int)), some (.ref sa), v6, none, none, none, none, none, none, none, none, none] H6 := by
  obtain ⟨hsa, hlns, hV, hX⟩ := id S6
  have hpos : 0 < ls.length := by have := hX.lt; omega
  refine ⟨_, rfl, sa, ps, ls, rfl, SqT.of hsa, hlns, hV, fun z => by rw [z] at hpos; exact Nat.lt_irrefl _ hpos, by omega, hT6, fun t H7 e7 => ?_⟩
  refine ⟨_, _, rfl, rfl, _, rfl, ?_⟩
  refine ite2 (fun _ => q _) (fun _ => ?_)
  refine ⟨2, rfl, by decide, by decide, for_range (lo := 0) (n := (2 : Int).toNat)
    (fun i σ H' => ∃ v7 v8 v9 v10 v11 v12, σ = [some (.ref a), some (.ref bx), some (.int c), some (.int (dp : Int)), some (.int (gv : Int)), some (.ref sa), v6, v7, v8, v9, v10, v11, v12, none, none, none] ∧ Box H' bx ra ∧ SentAt H' sa ps ls ∧ Tbs T H')
    ⟨_, _, _, _, _, _, rfl, B6.ext e7, ⟨e7.k hsa, hlns.ext e7, hV, hX⟩, e7.tbs hT6⟩ ?_ (fun σ H' _ => q _)⟩
  rintro i σ H0 hi ⟨v7, v8, v9, v10, v11, v12, rfl, B0, ⟨hsa, hlns, hV, hX⟩, hT0⟩
  -- the row
  obtain ⟨m, hm, hm0, hm9⟩ := nine dp hdp
  refine ⟨_, rfl, (by show 3 ≤ sizeLine; decide), fun t ht => ?_⟩
  refine ⟨_, rfl, t, _, _, _, rfl, rfl, SqL.of upd_same, hm, ?_⟩
  have e1 : Ext T [] H0 (upd H0 t (.lst [.int 9, .int 8, .int 5])) := Ext.new ht _
  refine ⟨bx, ra, m, rfl, B0.ext e1, hm0, fun r5 H1 h5a h5b e2 B1 => ?_⟩
  have f1 : Ext T [bx] H0 H1 := e1.nil.trans e2
  refine ⟨r5, rfl, Int.le_trans (by decide) h5a, Int.lt_of_le_of_lt (show r5 ≤ 100 by omega) (by decide), fun D hD => ?_⟩
  refine lc_range (lo := 0) (n := r5.toNat) (fun j H' => ∃ row : List Int, Ext T [bx] H1 H' ∧ Box H' bx ra ∧ H' D = some (.lst (row.map V.int)) ∧ row.length = j)
    ⟨[], Ext.new hD _, B1.ext (T := T) (Ext.new hD _), upd_same, rfl⟩ ?_ ?_
  · rintro j H2 hj ⟨row, e3, B2, hD2, hl⟩
    refine ⟨rfl, yes_ ?_⟩
    refine ⟨_, rfl, _, rfl, bx, ra, c, rfl, B2, hc, fun r6 H3 _ _ e4 B3 => ?_⟩
    have hD3 := e4.kB B2.d hD2
    have nD : D ≠ ra := fun z => by
      obtain ⟨rw_, h⟩ := B1.r
      rw [← z, hD] at h
      cases h
    refine ⟨_, hD3, by rw [List.length_map]; exact small1000 (by omega), row ++ [r6], (e3.trans e4).put hD _, B3.upd hD3 nD _, by rw [upd_same, List.map_append]; rfl, by rw [List.length_append, hl]; rfl⟩
  rintro H2 ⟨row, e3, B2, hrow, hrl⟩
  have hrow8 : row.length ≤ 8 := by omega
  have f2 : Ext T [bx] H0 H2 := f1.trans e3
  -- the sets
  refine ⟨_, rfl, (gv : Int), rfl, by omega, Int.lt_of_le_of_lt (show (gv : Int) ≤ 100 by omega) (by decide), fun D2 hD2 => ?_⟩
  refine lc_range (lo := 0) (n := (gv : Int).toNat) (fun j H' => ∃ (qs : List Addr) (ss : List (List Int)), Ext T [bx] H2 H' ∧ Box H' bx ra ∧ H' D2 = some (.lst (qs.map V.ref)) ∧ Ints H' qs ss ∧ ss.length = j)
    ⟨[], [], Ext.new hD2 _, B2.ext (T := T) (Ext.new hD2 _), upd_same, Ints.nil, rfl⟩ ?_ ?_
  · rintro j H3 hj ⟨qs, ss, e4, B3, hD3, hI, hl⟩
    refine ⟨rfl, yes_ ?_⟩
    have hrow3 := e4.kB B2.d hrow
    refine ⟨_, rfl, D, _, rfl, .inl (SqL.of hrow3), _, rfl, by omega, ?_, fun D5 hD5 => ?_⟩
    · rw [List.length_map]
      exact Int.lt_of_le_of_lt (show (row.length : Int) ≤ 100 by omega) (by decide)
    refine lc_range (lo := 0) (n := ((row.map V.int).length : Int).toNat) (fun i H' => ∃ xs : List Int, Ext T [bx] H3 H' ∧ Box H' bx ra ∧ H' D5 = some (.lst (xs.map V.int)) ∧ xs.length ≤ i)
      ⟨[], Ext.new hD5 _, B3.ext (T := T) (Ext.new hD5 _), upd_same, Nat.le_refl _⟩ ?_ ?_
    · rintro i H4 hi2 ⟨xs, e5, B4, hx, hxl⟩
      rw [List.length_map] at hi2
      refine ⟨rfl, ?_⟩
      refine ⟨_, rfl, bx, ra, 2, rfl, B4, by decide, fun r H5 _ _ e6 B5 => ?_⟩
      refine ⟨rfl, _, rfl, ?_⟩
      have hx5 := e6.kB B4.d hx
      have nD : D5 ≠ ra := fun z => by
        obtain ⟨rw_, h⟩ := B3.r
        rw [← z, hD5] at h
        cases h
      refine ite2 (fun _ => ?_) (fun _ => ?_)
      · refine ⟨_, rfl, _, hx5, by rw [List.length_map]; exact small1000 (by omega), xs ++ [0 + (i : Int)], (e5.trans e6).put hD5 _, B5.upd hx5 nD _, by rw [upd_same, List.map_append]; rfl, by rw [List.length_append, List.length_singleton]; omega⟩
      · exact ⟨xs, e5.trans e6, B5, hx5, by omega⟩
    · rintro H4 ⟨xs, e5, B4, hx, hxl⟩
      have hD4 := e5.kB B3.d hD3
      have nD : D2 ≠ ra := fun z => by
        obtain ⟨rw_, h⟩ := B2.r
        rw [← z, hD2] at h
        cases h
      have n5 : D5 ≠ D2 := fun z => by
        rw [z, hD3] at hD5
        cases hD5
      refine ⟨_, hD4, ?_, qs ++ [D5], ss ++ [xs], (e4.trans e5).put hD2 _, B4.upd hD4 nD _, by rw [upd_same, List.map_append]; rfl, ?_, by rw [List.length_append, hl]; rfl⟩
      · rw [List.length_map, hI.1]
        exact small1000 (by omega)
      · refine ((hI.extB e5 B3.d).updS hD4 _).snoc ?_
        rw [upd_ne n5]
        exact hx
  rintro H3 ⟨qs, ss, e4, B3, hqs, hI, hsl⟩
  have hss : ss.length ≤ 4 := by omega
  have f3 : Ext T [bx] H0 H3 := f2.trans e4
  have hrow3 := e4.kB B2.d hrow
  have hsa3 := f3.kB B0.d hsa
  have hl3 := hlns.extB f3 B0.d
  have ea : (((ps.map V.ref).length : Int) - 1) = ((ls.length - 1 : Nat) : Int) := by
    rw [List.length_map, hlns.1]
    omega
  -- due
  refine ⟨_, rfl, _, rfl, sa, _, rfl, .inr (SqT.of hsa3), _, _, rfl, rfl, _, rfl, _, rfl, ?_⟩
  dsimp only
  rw [ea]
  refine ⟨sa, D, D2, ls.length - 1, ps, ls, row, ss, rfl, SqT.of hsa3, hl3, SqL.of hrow3, ⟨qs, hqs, hI⟩, hV, hX, by omega, hrow8, by omega, by omega, fun H4 e5 => ?_⟩
  -- passed
  have hrow4 := e5.k hrow3
  refine ⟨_, rfl, D, _, rfl, .inl (SqL.of hrow4), fun p1 hp1 => ?_⟩
  have e6 : Ext T [] H4 (upd H4 p1 (.lst (row.map V.int))) := Ext.new hp1 _
  have hp1' : upd H4 p1 (.lst (row.map V.int)) p1 = some (.lst (row.map V.int)) := upd_same
  generalize upd H4 p1 (.lst (row.map V.int)) = H5 at e6 hp1' ⊢
  have g5 : Ext T [] H3 H5 := e5.trans e6
  have hqs5 := g5.k hqs
  have hI5 := hI.ext g5
  refine ⟨_, rfl, D2, rfl, ⟨_, SqL.of hqs5⟩, fun D4 hD4 => ?_⟩
  refine lc_list (K := K) (a := D2) (xs := qs.map V.ref) (fun j H' => ∃ rs : List Addr, Ext T [] H5 H' ∧ H' D4 = some (.lst (rs.map V.ref)) ∧ Ints H' rs (ss.take j))
    ⟨[], Ext.new hD4 _, upd_same, Ints.nil⟩ (fun j H' _ ⟨_, e, _⟩ => e.sqL (SqL.of hqs5)) ?_ ?_
  · rintro j x H6 hx ⟨rs, e7, hD6, hI6⟩
    have hj : j < ss.length := by
      have := (List.getElem?_eq_some_iff.mp hx).1
      rw [List.length_map, hI.1] at this
      exact this
    obtain ⟨p, hp, hpt⟩ := hI5.at (List.getElem?_eq_getElem hj)
    rw [hp] at hx
    cases hx
    have hrl2 : rs.length ≤ 4 := by
      rw [hI6.1, List.length_take]
      omega
    refine ⟨rfl, yes_ ?_⟩
    refine ⟨_, rfl, p, _, rfl, .inl (SqL.of (e7.k hpt)), fun r hr => ?_⟩
    have e8 : Ext T [] H6 (upd H6 r (.lst ((ss[j]).map V.int))) := Ext.new hr _
    have nr : r ≠ D4 := fun z => by rw [z, hD6] at hr; cases hr
    refine ⟨_, e8.k hD6, by rw [List.length_map]; exact small1000 (by omega), rs ++ [r], (e7.trans e8).put hD4 _, by rw [upd_same, List.map_append]; rfl, ?_⟩
    rw [List.take_succ, List.getElem?_eq_getElem hj]
    refine ((hI6.ext e8).updS (e8.k hD6) _).snoc ?_
    rw [upd_ne nr]
    exact upd_same
  rintro H6 ⟨rs, e7, hD6, hI6⟩
  have htk : ss.take (qs.map V.ref).length = ss := by rw [List.length_map, hI.1, List.take_length]
  rw [htk] at hI6
  refine ⟨(by show 2 ≤ sizeLine; decide), fun t2 ht2 => ?_⟩
  have e8 : Ext T [] H6 (upd H6 t2 (.lst [.ref p1, .ref D4])) := Ext.new ht2 _
  have ht2' : upd H6 t2 (.lst [.ref p1, .ref D4]) t2 = some (.lst [.ref p1, .ref D4]) := upd_same
  generalize upd H6 t2 (.lst [.ref p1, .ref D4]) = H7 at e8 ht2' ⊢
  have g7 : Ext T [] H3 H7 := g5.trans (e7.trans e8)
  have hp17 := e8.k (e7.k hp1')
  have hD47 := e8.k hD6
  have hI7 := hI6.ext e8
  have hT7 : Tbs T H7 := g7.tbs (f3.tbs hT0)
  -- the answer
  refine ⟨_, rfl, _, rfl, t2, _, 0, _, rfl, rfl, SqL.of ht2', rfl, _, rfl, t2, _, 1, _, rfl, rfl, SqL.of ht2', rfl, ?_⟩
  refine ⟨sa, p1, D4, ps, ls, row, ss, rfl, SqT.of (g7.k hsa3), hl3.ext g7, SqL.of hp17, ⟨rs, hD47, hI7⟩, hV, hX, hrow8, by omega, by omega, hT7, fun H8 e9 => ?_⟩
  -- compared
  refine ⟨_, rfl, _, _, _, _, true, rfl, .ty "bool", .base (.bl _), kit_ty (by decide +kernel), _, rfl, ?_⟩
  refine iteF ?_
  refine ⟨_, rfl, _, rfl, rfl, _, rfl, ?_⟩
  rw [decide_eq_true rfl]
  refine iteF ?_
  have g8 : Ext T [] H3 H8 := g7.trans e9
  refine ⟨_, rfl, _, rfl, _, rfl, (by show 2 ≤ sizeLine; decide), fun t3 ht3 => ?_⟩
  have e10 : Ext T [] H8 (upd H8 t3 (.lst [.ref D, .ref D2])) := Ext.new ht3 _
  have ht3' : upd H8 t3 (.lst [.ref D, .ref D2]) t3 = some (.lst [.ref D, .ref D2]) := upd_same
  generalize upd H8 t3 (.lst [.ref D, .ref D2]) = H9 at e10 ht3' ⊢
  have g9 := g8.trans e10
  have e79 := e9.trans e10
  refine ⟨dBoth row ss, dBoth row ss, dp_both (e79.k ht2') (e79.k hp17) (e79.k hD47) (hI7.ext e79), dp_both ht3' (g9.k hrow3) (g9.k hqs) (hI.ext g9), shaped_both row ss, shaped_both row ss, _, rfl, ?_⟩
  rw [SeqAt.eqv_refl _ (lay_both row ss)]
  refine iteF ?_
  exact ⟨_, _, _, _, _, _, rfl, B3.ext g9, ⟨g9.k hsa3, hl3.ext g9, hV, hX⟩, g9.tbs (f3.tbs hT0)⟩
end
section
variable {P : Program} {w : World} {K : PySem.W.Frag} {mg : Str → Option Value} {base : Heap}
structure MgW (mg : Str → Option Value) : Prop where
  len : mg "len" = none
  range : mg "range" = none
  list : mg "list" = none
  min : mg "min" = none
  isi : mg "isinstance" = none
  bool : mg "bool" = none
structure Cal (P : Program) (w : World) (K : PySem.W.Frag) (mg : Str → Option Value) (base : Heap) (k : Nat) (x : Str) (f : Addr) (fd : FuncData) (ps : List Str) (sp : Sp) : Prop where
  G : FnOk P w K mg base CX0 k f fd ps sp
  m : mg x = some (.ref f)
  k : PySem.W.keepIn K (.ref f) = true
  b : Binds K fd ps []
def spLaw (K : PySem.W.Frag) (T : List Addr) : Sp := fun vs H Q _ => ∃ (a : Addr) (ns : List Int), vs = [.ref a] ∧ SqL K H a (ns.map V.int) ∧ ns.length ≤ 63 ∧ Tbs T H ∧ ∀ H' : Hp, Q (.bl true) H'
abbrev NL : List Str := ["_law_script", "_law_box_here", "_law_count", "_law_deep", "_law_given", "_law_sentence_here", "_law_other", "_law_k", "_law_row", "_law_sets", "_law_due", "_law_passed", "_law_actual", "_law_j", "_law_place", "_law_one"]
theorem scLaw : FnScope NL ["_law_script"] (defScope sLaw) := ⟨rfl, rfl, rfl, by decide +kernel, rfl, by decide +kernel, by decide +kernel⟩
theorem ok_law {f fbx fnx fse fpa fsi flh fho : Addr} {fd dbx dnx dse dpa dsi dlh dho : FuncData} {T : List Addr} (F : Fun K "law" "law" sLaw f fd) (M : MgW mg)
    (Bx : Cal P w K mg base 2 "_law_box" fbx dbx ["_law_script"] (spBox K T))
    (Nx : Cal P w K mg base 1 "_law_next" fnx dnx ["_law_box_here", "_law_modulus"] (spNext T))
    (Se : Cal P w K mg base 3 "_law_sentence" fse dse ["_law_box_here", "_law_labels", "_law_sets", "_law_deep", "_law_size"] (spSent T))
    (Pa : Cal P w K mg base 1 "_law_pair" fpa dpa ["_law_one", "_law_two"] (spPair T))
    (Si : Cal P w K mg base 2 "size_of" fsi dsi ["sentence"] (spSize K T))
    (Lh : Cal P w K mg base 105 "_law_holds" flh dlh ["_law_lines", "_law_number", "_law_row", "_law_sets"] (spLH K T 40))
    (Ho : Cal P w K mg base 147 "holds" fho dho ["sentence", "row", "sets"] (spHolds K T)) : FnOk P w K mg base CX0 148 f fd ["_law_script"] (spLaw K T) := by
  refine F.ok scLaw (fun vs H Q E h => ?_) (fun cdv A outer s H vs Q E hr h => ?_)
  · obtain ⟨a, ns, rfl, _⟩ := h
    rfl
  obtain ⟨a, ns, rfl, hS, hns, hT, q⟩ := h
  have hr1 : Room 1 _ := hr.mono (by decide)
  have hr2 : Room 2 _ := hr.mono (by decide)
  have hr3 : Room 3 _ := hr.mono (by decide)
  have hr105 : Room 105 _ := hr.mono (by decide)
  have hr147 : Room 147 _ := hr
  refine ⟨_, pss_cons (ps_set (i := 1) scLaw.nd rfl (Or.inr rfl) (pe_call Bx.G hr2 (by rfl) Bx.m Bx.k Bx.b .nil pass0 (pa_cons (pv 0) pa_nil)))
    (pss_cons (ps_set (i := 2) scLaw.nd rfl (Or.inr rfl) (pe_op op_add pe_int (pe_call Nx.G hr1 (by rfl) Nx.m Nx.k Nx.b .nil pass0 (pa_cons (pv 1) (pa_cons pe_int pa_nil)))))
    (pss_cons (ps_set (i := 3) scLaw.nd rfl (Or.inl rfl) (pe_call Nx.G hr1 (by rfl) Nx.m Nx.k Nx.b .nil pass0 (pa_cons (pv 1) (pa_cons pe_int pa_nil))))
    (pss_cons (ps_set (i := 4) scLaw.nd rfl (Or.inl rfl) (pe_call Nx.G hr1 (by rfl) Nx.m Nx.k Nx.b .nil pass0 (pa_cons (pv 1) (pa_cons pe_int pa_nil))))
    (pss_cons (ps_set (i := 5) scLaw.nd rfl (Or.inl rfl) (pe_call Se.G hr3 (by rfl) Se.m Se.k Se.b .nil pass0 (pa_cons (pv 1) (pa_cons (pv 2) (pa_cons (pe_callB (call_min2 rfl) (by rfl) M.min boot_min (pa_cons (pv 4) (pa_cons (pe_op op_sub pe_int (pv 3)) pa_nil)))
      (pa_cons (pv 3) (pa_cons (pe_op op_add pe_int (pe_call Nx.G hr1 (by rfl) Nx.m Nx.k Nx.b .nil pass0 (pa_cons (pv 1) (pa_cons pe_int pa_nil)))) pa_nil)))))))
    (pss_cons (ps_if (PW.pt (pw_and (pt_cmpR op_eq (pv 3) pe_int (nomark _)) (pw_and1 (pt_cmpR op_eq (pe_call Nx.G hr1 (by rfl) Nx.m Nx.k Nx.b .nil pass0 (pa_cons (pv 1) (pa_cons pe_int pa_nil))) pe_int (nomark _)))))
      (pss_cons (ps_set (i := 6) scLaw.nd rfl (Or.inl rfl) (pe_call Se.G hr3 (by rfl) Se.m Se.k Se.b .nil pass0 (pa_cons (pv 1) (pa_cons (pv 2) (pa_cons (pe_callB (call_min2 rfl) (by rfl) M.min boot_min (pa_cons (pv 4) (pa_cons pe_int pa_nil)))
        (pa_cons pe_int (pa_cons (pe_op op_add pe_int (pe_call Nx.G hr1 (by rfl) Nx.m Nx.k Nx.b .nil pass0 (pa_cons (pv 1) (pa_cons pe_int pa_nil)))) pa_nil)))))))
      (pss_one (ps_set (i := 5) scLaw.nd rfl (Or.inl rfl) (pe_call Pa.G hr1 (by rfl) Pa.m Pa.k Pa.b .nil pass0 (pa_cons (pv 5) (pa_cons (pv 6) pa_nil)))))) pss_nil)
    (pss_cons (ps_if (pt_cmpR op_gt (pe_call Si.G hr2 (by rfl) Si.m Si.k Si.b .nil pass0 (pa_cons (pv 5) pa_nil)) pe_int (nomark _)) (pss_one (ps_ret pe_bl)) pss_nil)
    (pss_cons (ps_for PassesOwn.never rfl (pi_range1 (by rfl) M.range (pa_cons pe_int pa_nil)) (pg_name (i := 7) scLaw.nd rfl (Or.inl rfl))
      (pss_cons (ps_set (i := 8) scLaw.nd rfl (Or.inr rfl) (pe_lc (own := [("_law_j", 13)]) (g := gName 13) (tt := tYes) rfl scLaw.nd
          (pi_range1 (by rfl) M.range (pa_cons (pe_call Nx.G hr1 (by rfl) Nx.m Nx.k Nx.b .nil pass0 (pa_cons (pv 1) (pa_cons (pe_ix ix_list (pe_lst (pa_cons pe_int (pa_cons pe_int (pa_cons pe_int pa_nil)))) (pv 3) (fun _ _ => rfl)) pa_nil))) pa_nil))
          (blkOk_by (own := [("_law_j", 13)]) (N := NL) (sc := defScope sLaw) (by decide +kernel)) (fun _ _ _ _ _ => pg_name (i := 13) scLaw.nd rfl (Or.inl rfl)) (fun _ _ _ _ _ => pts_nil)
          (fun _ _ _ _ _ => pe_call (sp := spNext T) Nx.G hr1 (by rfl) Nx.m Nx.k Nx.b .nil pass0 (pa_cons (pv 1) (pa_cons (pv 2) pa_nil)))))
      (pss_cons (ps_setLc (i := 9) (own := [("_law_j", 13)]) (g := gName 13) (tt := tYes) rfl scLaw.nd rfl rfl (sw_true rfl rfl rfl (by decide +kernel))
          (pi_range1 (by rfl) M.range (pa_cons (pv 4) pa_nil))
          (blkOk_by (own := [("_law_j", 13)]) (N := NL) (sc := defScope sLaw) (by decide +kernel)) (fun _ _ _ _ _ => pg_name (i := 13) scLaw.nd rfl (Or.inl rfl)) (fun _ _ _ _ _ => pts_nil)
          (fun _ _ _ _ _ => pe_lc (own := [("_law_place", 14)]) (g := gName 14) rfl scLaw.nd
            (pi_range1 (by rfl) M.range (pa_cons (pe_callB (id := "len") (r := rLen K) call_lenK (by rfl) M.len PySem.boot_len (pa_cons (pv 8) pa_nil)) pa_nil))
            (blkOk_by (own := [("_law_place", 14)]) (N := NL) (sc := relS ⟨.function, [(".0", .local), ("_law_j", .local), ("range", .globalImplicit), ("len", .globalImplicit), ("_law_box_here", .free), ("_law_row", .free)], false, false, []⟩ (defScope sLaw)) (by decide +kernel)) (fun _ _ _ _ _ => pg_name (i := 14) scLaw.nd rfl (Or.inl rfl))
            (fun _ _ _ _ _ => pts_one (pt_cmpR op_eq (pe_call (sp := spNext T) Nx.G hr1 (by rfl) Nx.m Nx.k Nx.b .nil pass0 (pa_cons (pv 1) (pa_cons pe_int pa_nil))) pe_int (nomark _)))
            (fun _ _ _ _ _ => pv 14)))
      (pss_cons (ps_set (i := 10) scLaw.nd rfl (Or.inl rfl) (pe_call Lh.G hr105 (by rfl) Lh.m Lh.k Lh.b .nil pass0 (pa_cons (pv 5) (pa_cons (pe_op op_sub (pe_callB call_len_seq (by rfl) M.len PySem.boot_len (pa_cons (pv 5) pa_nil)) pe_int) (pa_cons (pv 8) (pa_cons (pv 9) pa_nil))))))
      (pss_cons (ps_set (i := 11) scLaw.nd rfl (Or.inl rfl) (pe_lst (pa_cons (pe_callTy call_list_of (by rfl) M.list (by decide +kernel) (pa_cons (pv 8) pa_nil)) (pa_cons
          (pe_lc (own := [("_law_one", 15)]) (g := gName 15) (tt := tYes) rfl scLaw.nd (pi_list (pv 9))
            (blkOk_by (own := [("_law_one", 15)]) (N := NL) (sc := defScope sLaw) (by decide +kernel)) (fun _ _ _ _ _ => pg_name (i := 15) scLaw.nd rfl (Or.inl rfl)) (fun _ _ _ _ _ => pts_nil)
            (fun _ _ _ _ _ => pe_callTy (r := rList K) call_listK (by rfl) M.list (by decide +kernel) (pa_cons (pv 15) pa_nil))) pa_nil))))
      (pss_cons (ps_set (i := 12) scLaw.nd rfl (Or.inl rfl) (pe_call Ho.G hr147 (by rfl) Ho.m Ho.k Ho.b .nil pass0 (pa_cons (pv 5) (pa_cons (pe_ix ix_list (pv 11) pe_int (fun _ _ => rfl)) (pa_cons (pe_ix ix_list (pv 11) pe_int (fun _ _ => rfl)) pa_nil)))))
      (pss_one (ps_if (PW.pt (pw_or (pt_not (pt_val (pe_callB call_isi (by rfl) M.isi boot_isinstance (pa_cons (pv 12) (pa_cons (pe_bltn (v := .ty "bool") (by rfl) M.bool boot_bool rfl) pa_nil)))))
        (pw_or (pt_cmpR op_ne (pv 12) (pv 10) (nomark _)) (pw_or1 (pt_cmpR (op_neD hr.units) (pv 11) (pe_lst (pa_cons (pv 8) (pa_cons (pv 9) pa_nil))) (nomark _))))))
        (pss_one (ps_ret pe_bl)) pss_nil))))))))
    (pss_one (ps_ret pe_bl))))))))), ?_⟩
  --PLAIN
  refine ⟨_, rfl, a, ns, rfl, hS, hns, fun bx ra H1 e1 B1 _ _ => ?_⟩
  -- how many letters, how deep, how many sets
  refine ⟨_, rfl, bx, ra, 5, rfl, B1, by decide, fun r1 H2 h1a h1b e2 B2 => ?_⟩
  refine ⟨_, _, rfl, rfl, ?_⟩
  refine ⟨_, rfl, bx, ra, 3, rfl, B2, by decide, fun r2 H3 h2a h2b e3 B3 => ?_⟩
  obtain ⟨dp, rfl⟩ := Int.eq_ofNat_of_zero_le h2a
  refine ⟨_, rfl, bx, ra, 5, rfl, B3, by decide, fun r3 H4 h3a h3b e4 B4 => ?_⟩
  obtain ⟨gv, rfl⟩ := Int.eq_ofNat_of_zero_le h3a
  -- the sentence
  refine ⟨_, rfl, _, rfl, _, rfl, _, rfl, _, _, rfl, rfl, _, _, rfl, _, rfl, _, rfl, bx, ra, 4, rfl, B4, by decide, fun r4 H5 h4a h4b e5 B5 => ?_⟩
  obtain ⟨sz, rfl⟩ := Int.eq_ofNat_of_zero_le h4a
  refine ⟨_, _, rfl, rfl, ?_⟩
  refine ⟨bx, ra, _, _, dp, 1 + sz, rfl, B5, by omega, by omega, by omega, by omega, fun sa ps ls H6 e6 B6 hsa hlns hV hX hlen => ?_⟩
  have hT6 : Tbs T H6 := e6.tbs (e5.tbs (e4.tbs (e3.tbs (e2.tbs (e1.tbs hT)))))
  have S6 : SentAt H6 sa ps ls := ⟨hsa, hlns, hV, hX⟩
  -- from the sentence on
  have rest : ∀ (v6 : Option V) (sa : Addr) (ps : List Addr) (ls : List Ln) (H6 : Hp), Box H6 bx ra → SentAt H6 sa ps ls → ls.length ≤ 29 → Tbs T H6 →
      tRest K T { nx := fun _ H' => Q .non H', rt := Q } [some (.ref a), some (.ref bx), some (.int (1 + r1)), some (.int (dp : Int)), some (.int (gv : Int)), some (.ref sa), v6, none, none, none, none, none, none, none, none, none] H6 := by
    intro v6 sa ps ls H6 B6 S6 hlen hT6
    exact rest_law (by omega) (by omega) (by omega) B6 S6 hlen hT6 q
  refine ⟨_, rfl, rfl, _, rfl, ?_⟩
  refine ite2 (fun _ => ?_) (fun _ => ?_)
  · refine ⟨_, rfl, bx, ra, 2, rfl, B6, by decide, fun r7 H7 _ _ e7 B7 => ?_⟩
    refine ⟨rfl, _, rfl, ?_⟩
    refine ite2 (fun _ => ?_) (fun _ => ?_)
    · refine ⟨_, rfl, _, rfl, _, rfl, _, _, rfl, _, rfl, bx, ra, 3, rfl, B7, by decide, fun r8 H8 h8a h8b e8 B8 => ?_⟩
      obtain ⟨sz2, rfl⟩ := Int.eq_ofNat_of_zero_le h8a
      refine ⟨_, _, rfl, rfl, ?_⟩
      refine ⟨bx, ra, _, _, 1, 1 + sz2, rfl, B8, by omega, by decide, by omega, by omega, fun sb ps2 ls2 H9 e9 B9 hsb hlns2 hV2 hX2 hlen2 => ?_⟩
      have e69 := (e7.trans e8).trans e9
      refine ⟨_, rfl, _, rfl, sa, sb, ps, ps2, ls, ls2, rfl, ⟨e69.kB B6.d hsa, hlns.extB e69 B6.d, hV, hX⟩, ⟨hsb, hlns2, hV2, hX2⟩, hlen, hlen2, fun sc ps3 ls3 H10 e10 S10 hlen3 => ?_⟩
      exact rest _ sc ps3 ls3 H10 (B9.ext e10) S10 hlen3 (e10.tbs (e69.tbs hT6))
    · exact rest _ sa ps ls H7 B7 ⟨e7.kB B6.d hsa, hlns.extB e7 B6.d, hV, hX⟩ (by omega) (e7.tbs hT6)
  · exact rest _ sa ps ls H6 B6 S6 (by omega) hT6
end
end K15


set_option Elab.async false
set_option linter.all false
set_option maxRecDepth 100000
set_option maxHeartbeats 4000000
/-! the head, the end -/
namespace K15
open PySem PySem.Spec PyProof.Rows L2 GxR GX
def dG (x : Str) (st : Stmt) : He.DefD := ⟨(x, none), x, x, defArgs st, defBody st, defScope st, [], []⟩
def dR (m q : Str) (st : Stmt) : He.DefD := ⟨("Reading", some m), m, q, defArgs st, defBody st, defScope st, [], []⟩
def fnL : List He.DefD := [dG "parts_of" sParts, dG "size_of" sSize, dG "all_sets" sAll, dR "__init__" "Reading.__init__" sInit, dR "at" "Reading.at" sAt, dR "so" "Reading.so" sSo, dG "holds" sHolds, dG "_law_draws" sDraws, dG "_law_box" sBox, dG "_law_next" sNext, dG "_law_place_line" sPlace, dG "_law_text_line" sText, dG "_law_sentence" sSent, dG "_law_at" sLAt, dG "_law_subset" sSub, dG "_law_holds" sLHolds, dG "_law_pair" sPair, dG "law" sLaw]
def faL : List He.Fa := [.glo "parts_of", .glo "size_of", .glo "all_sets", .glo "Reading", .glo "holds", .glo "_law_draws", .glo "_law_box", .glo "_law_next", .glo "_law_place_line", .glo "_law_text_line", .glo "_law_sentence", .glo "_law_at", .glo "_law_subset", .glo "_law_holds", .glo "_law_pair", .glo "law", .cls "Reading", .noat "Reading" "sentence", .noat "Reading" "row", .meth "Reading" "at", .meth "Reading" "so", .mkr "Reading", .free "len", .free "range", .free "sum", .free "all", .free "any", .free "list", .free "int", .free "tuple", .free "min", .free "isinstance", .free "bool"]
def tfL : List He.Defn := [("size_of", none), ("Reading", some "so")]
theorem code_of {K : PySem.W.Frag} {x qual : Str} {st : Stmt} {p : He.Defn} {fd : FuncData} (F : Fun K x qual st (He.fAd K p) fd) : fd.code = .ref (He.cT K p).1 := by
  obtain ⟨oc, od, kV, doc, pm, an, cdv, ct, osl, rfl, lk, hcd⟩ := F.ex
  obtain ⟨c, rfl⟩ := He.codeIn_ref hcd
  have e : He.codeOf K p = c := He.codeOf_eq lk rfl
  show Value.ref c = .ref (He.codeOf K p)
  rw [e]
theorem facts {l : PySem.W.OpenLaw} {w : World} {K : PySem.W.Frag} {h : Heap} {mg : Str → Option Value} {f : Addr} (X : K.In h) (G : h.Ns mainGlobals mg) (hf : mg ("law" : Str) = some (.ref f)) (c : He.SaysX faL fnL [] tfL (fun _ => true) w h K) :
    LamX.LawAtS l w K CX0 148 63 "_law_script" mg f h := by
  have d := c.t.d
  obtain ⟨fdP, FDP⟩ := d.def_ 0 (d := dG "parts_of" sParts) rfl
  have FP : Fun K "parts_of" "parts_of" sParts (He.fAd K ("parts_of", none)) fdP := He5.fun_of FDP
  have bP : Binds K fdP ["line"] [] := FP.binds fun _ _ _ _ _ _ us hl => match us, hl with | [_], _ => rfl
  obtain ⟨fdZ, FDZ⟩ := d.def_ 1 (d := dG "size_of" sSize) rfl
  have FZ : Fun K "size_of" "size_of" sSize (He.fAd K ("size_of", none)) fdZ := He5.fun_of FDZ
  have bZ : Binds K fdZ ["sentence"] [] := FZ.binds fun _ _ _ _ _ _ us hl => match us, hl with | [_], _ => rfl
  obtain ⟨fdA, FDA⟩ := d.def_ 2 (d := dG "all_sets" sAll) rfl
  have FA : Fun K "all_sets" "all_sets" sAll (He.fAd K ("all_sets", none)) fdA := He5.fun_of FDA
  have bA : Binds K fdA ["size"] [] := FA.binds fun _ _ _ _ _ _ us hl => match us, hl with | [_], _ => rfl
  obtain ⟨fdI, FDI⟩ := d.def_ 3 (d := dR "__init__" "Reading.__init__" sInit) rfl
  have FI : Fun K "__init__" "Reading.__init__" sInit (He.fAd K ("Reading", some "__init__")) fdI := He5.fun_of FDI
  have bI : Binds K fdI ["self", "sentence", "row"] [] := FI.binds fun _ _ _ _ _ _ us hl => match us, hl with | [_, _, _], _ => rfl
  obtain ⟨fdT, FDT⟩ := d.def_ 4 (d := dR "at" "Reading.at" sAt) rfl
  have FT : Fun K "at" "Reading.at" sAt (He.fAd K ("Reading", some "at")) fdT := He5.fun_of FDT
  have bT : Binds K fdT ["self", "number", "place", "sets"] [] := FT.binds fun _ _ _ _ _ _ us hl => match us, hl with | [_, _, _, _], _ => rfl
  obtain ⟨fdS, FDS⟩ := d.def_ 5 (d := dR "so" "Reading.so" sSo) rfl
  have FS : Fun K "so" "Reading.so" sSo (He.fAd K ("Reading", some "so")) fdS := He5.fun_of FDS
  have bS : Binds K fdS ["self", "number", "sets"] [] := FS.binds fun _ _ _ _ _ _ us hl => match us, hl with | [_, _, _], _ => rfl
  obtain ⟨fdH, FDH⟩ := d.def_ 6 (d := dG "holds" sHolds) rfl
  have FH : Fun K "holds" "holds" sHolds (He.fAd K ("holds", none)) fdH := He5.fun_of FDH
  have bH : Binds K fdH ["sentence", "row", "sets"] [] := FH.binds fun _ _ _ _ _ _ us hl => match us, hl with | [_, _, _], _ => rfl
  obtain ⟨fdD, FDD⟩ := d.def_ 7 (d := dG "_law_draws" sDraws) rfl
  have FD : Fun K "_law_draws" "_law_draws" sDraws (He.fAd K ("_law_draws", none)) fdD := He5.fun_of FDD
  have bD : Binds K fdD ["_law_cell", "_law_modulus", "_law_count"] [] := FD.binds fun _ _ _ _ _ _ us hl => match us, hl with | [_, _, _], _ => rfl
  obtain ⟨fdB, FDB⟩ := d.def_ 8 (d := dG "_law_box" sBox) rfl
  have FB : Fun K "_law_box" "_law_box" sBox (He.fAd K ("_law_box", none)) fdB := He5.fun_of FDB
  have bB : Binds K fdB ["_law_script"] [] := FB.binds fun _ _ _ _ _ _ us hl => match us, hl with | [_], _ => rfl
  obtain ⟨fdN, FDN⟩ := d.def_ 9 (d := dG "_law_next" sNext) rfl
  have FN : Fun K "_law_next" "_law_next" sNext (He.fAd K ("_law_next", none)) fdN := He5.fun_of FDN
  have bN : Binds K fdN ["_law_box_here", "_law_modulus"] [] := FN.binds fun _ _ _ _ _ _ us hl => match us, hl with | [_, _], _ => rfl
  obtain ⟨fdPl, FDPl⟩ := d.def_ 10 (d := dG "_law_place_line" sPlace) rfl
  have FPl : Fun K "_law_place_line" "_law_place_line" sPlace (He.fAd K ("_law_place_line", none)) fdPl := He5.fun_of FDPl
  have bPl : Binds K fdPl ["_law_box_here", "_law_labels", "_law_lines", "_law_sets"] [] := FPl.binds fun _ _ _ _ _ _ us hl => match us, hl with | [_, _, _, _], _ => rfl
  obtain ⟨fdTx, FDTx⟩ := d.def_ 11 (d := dG "_law_text_line" sText) rfl
  have FTx : Fun K "_law_text_line" "_law_text_line" sText (He.fAd K ("_law_text_line", none)) fdTx := He5.fun_of FDTx
  have bTx : Binds K fdTx ["_law_box_here", "_law_lines"] [] := FTx.binds fun _ _ _ _ _ _ us hl => match us, hl with | [_, _], _ => rfl
  obtain ⟨fdSe, FDSe⟩ := d.def_ 12 (d := dG "_law_sentence" sSent) rfl
  have FSe : Fun K "_law_sentence" "_law_sentence" sSent (He.fAd K ("_law_sentence", none)) fdSe := He5.fun_of FDSe
  have bSe : Binds K fdSe ["_law_box_here", "_law_labels", "_law_sets", "_law_deep", "_law_size"] [] := FSe.binds fun _ _ _ _ _ _ us hl => match us, hl with | [_, _, _, _, _], _ => rfl
  obtain ⟨fdLa, FDLa⟩ := d.def_ 13 (d := dG "_law_at" sLAt) rfl
  have FLa : Fun K "_law_at" "_law_at" sLAt (He.fAd K ("_law_at", none)) fdLa := He5.fun_of FDLa
  have bLa : Binds K fdLa ["_law_lines", "_law_number", "_law_row", "_law_place", "_law_sets"] [] := FLa.binds fun _ _ _ _ _ _ us hl => match us, hl with | [_, _, _, _, _], _ => rfl
  obtain ⟨fdSu, FDSu⟩ := d.def_ 14 (d := dG "_law_subset" sSub) rfl
  have FSu : Fun K "_law_subset" "_law_subset" sSub (He.fAd K ("_law_subset", none)) fdSu := He5.fun_of FDSu
  have bSu : Binds K fdSu ["_law_code", "_law_size"] [] := FSu.binds fun _ _ _ _ _ _ us hl => match us, hl with | [_, _], _ => rfl
  obtain ⟨fdLh, FDLh⟩ := d.def_ 15 (d := dG "_law_holds" sLHolds) rfl
  have FLh : Fun K "_law_holds" "_law_holds" sLHolds (He.fAd K ("_law_holds", none)) fdLh := He5.fun_of FDLh
  have bLh : Binds K fdLh ["_law_lines", "_law_number", "_law_row", "_law_sets"] [] := FLh.binds fun _ _ _ _ _ _ us hl => match us, hl with | [_, _, _, _], _ => rfl
  obtain ⟨fdPa, FDPa⟩ := d.def_ 16 (d := dG "_law_pair" sPair) rfl
  have FPa : Fun K "_law_pair" "_law_pair" sPair (He.fAd K ("_law_pair", none)) fdPa := He5.fun_of FDPa
  have bPa : Binds K fdPa ["_law_one", "_law_two"] [] := FPa.binds fun _ _ _ _ _ _ us hl => match us, hl with | [_, _], _ => rfl
  obtain ⟨fdL, FDL⟩ := d.def_ 17 (d := dG "law" sLaw) rfl
  have FL : Fun K "law" "law" sLaw (He.fAd K ("law", none)) fdL := He5.fun_of FDL
  have mP : mg ("parts_of" : Str) = some (.ref (He.ga K "parts_of")) := He.glo_ok X G (d.fact 0 (f := .glo "parts_of") rfl)
  have mZ : mg ("size_of" : Str) = some (.ref (He.ga K "size_of")) := He.glo_ok X G (d.fact 1 (f := .glo "size_of") rfl)
  have mA : mg ("all_sets" : Str) = some (.ref (He.ga K "all_sets")) := He.glo_ok X G (d.fact 2 (f := .glo "all_sets") rfl)
  have mC : mg ("Reading" : Str) = some (.ref (He.ga K "Reading")) := He.glo_ok X G (d.fact 3 (f := .glo "Reading") rfl)
  have mH : mg ("holds" : Str) = some (.ref (He.ga K "holds")) := He.glo_ok X G (d.fact 4 (f := .glo "holds") rfl)
  have mD : mg ("_law_draws" : Str) = some (.ref (He.ga K "_law_draws")) := He.glo_ok X G (d.fact 5 (f := .glo "_law_draws") rfl)
  have mB : mg ("_law_box" : Str) = some (.ref (He.ga K "_law_box")) := He.glo_ok X G (d.fact 6 (f := .glo "_law_box") rfl)
  have mN : mg ("_law_next" : Str) = some (.ref (He.ga K "_law_next")) := He.glo_ok X G (d.fact 7 (f := .glo "_law_next") rfl)
  have mPl : mg ("_law_place_line" : Str) = some (.ref (He.ga K "_law_place_line")) := He.glo_ok X G (d.fact 8 (f := .glo "_law_place_line") rfl)
  have mTx : mg ("_law_text_line" : Str) = some (.ref (He.ga K "_law_text_line")) := He.glo_ok X G (d.fact 9 (f := .glo "_law_text_line") rfl)
  have mSe : mg ("_law_sentence" : Str) = some (.ref (He.ga K "_law_sentence")) := He.glo_ok X G (d.fact 10 (f := .glo "_law_sentence") rfl)
  have mLa : mg ("_law_at" : Str) = some (.ref (He.ga K "_law_at")) := He.glo_ok X G (d.fact 11 (f := .glo "_law_at") rfl)
  have mSu : mg ("_law_subset" : Str) = some (.ref (He.ga K "_law_subset")) := He.glo_ok X G (d.fact 12 (f := .glo "_law_subset") rfl)
  have mLh : mg ("_law_holds" : Str) = some (.ref (He.ga K "_law_holds")) := He.glo_ok X G (d.fact 13 (f := .glo "_law_holds") rfl)
  have mPa : mg ("_law_pair" : Str) = some (.ref (He.ga K "_law_pair")) := He.glo_ok X G (d.fact 14 (f := .glo "_law_pair") rfl)
  have mL : mg ("law" : Str) = some (.ref (He.ga K "law")) := He.glo_ok X G (d.fact 15 (f := .glo "law") rfl)
  have n_len : mg ("len" : Str) = none := He.free_ok X G (d.fact 22 (f := .free "len") rfl)
  have n_range : mg ("range" : Str) = none := He.free_ok X G (d.fact 23 (f := .free "range") rfl)
  have n_sum : mg ("sum" : Str) = none := He.free_ok X G (d.fact 24 (f := .free "sum") rfl)
  have n_all : mg ("all" : Str) = none := He.free_ok X G (d.fact 25 (f := .free "all") rfl)
  have n_any : mg ("any" : Str) = none := He.free_ok X G (d.fact 26 (f := .free "any") rfl)
  have n_list : mg ("list" : Str) = none := He.free_ok X G (d.fact 27 (f := .free "list") rfl)
  have n_int : mg ("int" : Str) = none := He.free_ok X G (d.fact 28 (f := .free "int") rfl)
  have n_tuple : mg ("tuple" : Str) = none := He.free_ok X G (d.fact 29 (f := .free "tuple") rfl)
  have n_min : mg ("min" : Str) = none := He.free_ok X G (d.fact 30 (f := .free "min") rfl)
  have n_isinstance : mg ("isinstance" : Str) = none := He.free_ok X G (d.fact 31 (f := .free "isinstance") rfl)
  have n_bool : mg ("bool" : Str) = none := He.free_ok X G (d.fact 32 (f := .free "bool") rfl)
  have xC : TxC K (He.ga K "Reading") := ⟨He.cls_ok (d.fact 16 (f := .cls "Reading") rfl), He.noat_ok (d.fact 17 (f := .noat "Reading" "sentence") rfl), He.noat_ok (d.fact 18 (f := .noat "Reading" "row") rfl)⟩
  have mtAt : Meth K (He.ga K "Reading") "at" (He.fAd K ("Reading", some "at")) := He.meth_ok (d.fact 19 (f := .meth "Reading" "at") rfl)
  have mtSo : Meth K (He.ga K "Reading") "so" (He.fAd K ("Reading", some "so")) := He.meth_ok (d.fact 20 (f := .meth "Reading" "so") rfl)
  have mk : Mk K (He.ga K "Reading") (He.fAd K ("Reading", some "__init__")) := He.mkr_ok (d.fact 21 (f := .mkr "Reading") rfl)
  have e := hf.symm.trans mL
  cases e
  have bl := FunD.bindsA (ps := ["_law_script"]) FDL fun _ _ _ _ _ _ us hl => match us, hl with | [_], _ => rfl
  refine ⟨fdL, tfL.map (He.cT K), spLaw K ((tfL.map (He.cT K)).map (·.2)), fun p hp => ?_, fun p hp => ?_, fun p hp => ?_, fun s v => bl s [v] rfl, fun H a ns hn _ hH hS => ?_, fun base _ _ hB => ?_⟩
  · obtain ⟨q, hq, rfl⟩ := List.mem_map.mp hp
    exact c.empty q hq
  · obtain ⟨q, hq, rfl⟩ := List.mem_map.mp hp
    exact c.out q hq
  · obtain ⟨q, hq, rfl⟩ := List.mem_map.mp hp
    exact PySem.W.codeHd_of_K X (c.hd q hq)
  · refine ⟨a, ns, rfl, hS, hn, fun Pt hP => ?_, fun _ => rfl⟩
    obtain ⟨q, hq, rfl⟩ := List.mem_map.mp hP
    exact ⟨#[], hH q hq, trivial⟩
  have hZ : GxR.TabB base mg (He.cT K ("size_of", none)).1 (He.cT K ("size_of", none)).2 := let t := hB (He.cT K ("size_of", none)) (List.mem_cons_self ..); ⟨t.code, t.bm, t.gP⟩
  have hSo : GxR.TabB base mg (He.cT K ("Reading", some "so")).1 (He.cT K ("Reading", some "so")).2 := let t := hB (He.cT K ("Reading", some "so")) (List.mem_cons_of_mem _ (List.mem_cons_self ..)); ⟨t.code, t.bm, t.gP⟩
  generalize hT : (tfL.map (He.cT K)).map (·.2) = T
  have tZ : (He.cT K ("size_of", none)).2 ∈ T := by rw [← hT]; exact List.mem_cons_self ..
  have tS : (He.cT K ("Reading", some "so")).2 ∈ T := by rw [← hT]; exact List.mem_cons_of_mem _ (List.mem_cons_self ..)
  have GZ := ok_size (P := l.prog) (w := w) (mg := mg) (base := base) (T := T) FZ (code_of FZ) hZ tZ FP bP mP n_sum
  have GA := ok_all (P := l.prog) (w := w) (mg := mg) (base := base) (T := T) FA n_range
  have GI := ok_init (P := l.prog) (w := w) (mg := mg) (base := base) FI xC
  have GT := ok_at (P := l.prog) (w := w) (mg := mg) (base := base) FT xC mtAt bT n_len 64
  have GS := ok_so (P := l.prog) (w := w) (mg := mg) (base := base) (T := T) FS (code_of FS) hSo tS xC ⟨n_len, n_all, n_any, n_range⟩ mtAt bT GT mtSo bS mA FA.kp bA GA 40
  have GH := ok_holds (P := l.prog) (w := w) (mg := mg) (base := base) (T := T) FH xC mC n_len n_list mk GI bI mtSo bS GS
  have GD := ok_draws (P := l.prog) (w := w) (mg := mg) (base := base) (T := T) FD n_range n_int
  have GB := ok_box (P := l.prog) (w := w) (mg := mg) (base := base) (T := T) FB GD mD FD.kp bD n_len
  have GN := ok_next (P := l.prog) (w := w) (mg := mg) (base := base) (T := T) FN n_len n_int
  have GPl := ok_place (P := l.prog) (w := w) (mg := mg) (base := base) (T := T) FPl ⟨n_len, n_range, mN, FN.kp, bN⟩ GN
  have GTx := ok_text (P := l.prog) (w := w) (mg := mg) (base := base) (T := T) FTx ⟨n_len, n_range, mN, FN.kp, bN⟩ GN
  have GSe := ok_sent (P := l.prog) (w := w) (mg := mg) (base := base) (T := T) FSe ⟨⟨n_len, n_range, mN, FN.kp, bN⟩, n_tuple⟩ GN GPl mPl FPl.kp bPl GTx mTx FTx.kp bTx
  have GLa := ok_lat (P := l.prog) (w := w) (mg := mg) (base := base) FLa mLa bLa n_len 64
  have GSu := ok_sub (P := l.prog) (w := w) (mg := mg) (base := base) (T := T) FSu n_range
  have GLh := ok_lh (P := l.prog) (w := w) (mg := mg) (base := base) (T := T) FLh ⟨n_len, n_range⟩ mLa FLa.kp bLa GLa mSu FSu.kp bSu GSu mLh bLh 40
  have GPa := ok_pair (P := l.prog) (w := w) (mg := mg) (base := base) (T := T) FPa ⟨n_len, n_list, n_tuple⟩
  exact ok_law FL ⟨n_len, n_range, n_list, n_min, n_isinstance, n_bool⟩ ⟨GB, mB, FB.kp, bB⟩ ⟨GN, mN, FN.kp, bN⟩ ⟨GSe, mSe, FSe.kp, bSe⟩ ⟨GPa, mPa, FPa.kp, bPa⟩ ⟨GZ, mZ, FZ.kp, bZ⟩ ⟨GLh, mLh, FLh.kp, bLh⟩ ⟨GH, mH, FH.kp, bH⟩
end K15


set_option Elab.async false
set_option linter.all false
set_option maxRecDepth 100000
set_option maxHeartbeats 0
/-! the head's run, the law -/
namespace K15
open PySem PySem.Spec PyProof.Rows L2
abbrev R : PySem.W.OpenRow := PySem.W.OpenLaw.row PySem.Challenge.rw_twoways_k15_whole_meaning_of_sentences
abbrev hk : PySem.W.Hook := He.hookX 5 faL fnL [] tfL (fun _ => true)
def ob (s : PySem.W.SharedT) : He.AlX := He.obsX 5 faL fnL [] tfL (fun _ => true) (HandSHeadRun.getT s)
theorem ob_eq (s : PySem.W.SharedT) : ob s = hk.obs s.abs := He.obsX_eq (HandSHeadRun.getT_eq s)
def loose : List Str := ["parts_of", "size_of", "all_sets", "Reading", "holds", "_law_draws", "_law_box", "_law_next", "_law_place_line", "_law_text_line", "_law_sentence", "_law_at", "_law_subset", "_law_holds", "_law_pair"]
theorem run (w : World) : HandSHeadRun.RunEq R (PySem.W.view R.prog [17]) hk ob 2000 loose w := by
  intro os
  kernel_rfl
end K15


set_option Elab.async false
set_option linter.all false
set_option maxRecDepth 100000
set_option maxHeartbeats 0
open PySem PySem.W PySem.Calls PyProof.Rows
theorem PySem.Challenge.cw_twoways_k15_whole_meaning_of_sentences_holds : PySem.Challenge.rw_twoways_k15_whole_meaning_of_sentences.Holds := by
  w_on; o_law
  refine HandSHeadRun.head_any (r := OpenLaw.row PySem.Challenge.rw_twoways_k15_whole_meaning_of_sentences) (q := view (OpenLaw.row PySem.Challenge.rw_twoways_k15_whole_meaning_of_sentences).prog [17]) (H := K15.hk) (ob := K15.ob) (M := 2000) (loose := K15.loose) (d := HandSHeadRun.topDef (OpenLaw.row PySem.Challenge.rw_twoways_k15_whole_meaning_of_sentences).prog 17) (kwd := []) K15.ob_eq
    (by kernel_rfl) (fun s => by kernel_rfl) K15.run (by kernel_rfl) (by kernel_rfl) (by kernel_rfl) (by rfl) (by first | assumption | decide +kernel) (by decide +kernel) ⟨rfl, rfl, rfl, rfl, rfl, by decide +kernel⟩ ?hw ?hc
  case hw => w_witness2
  case hc =>
    refine LamX.walk_ofTsE (l := PySem.Challenge.rw_twoways_k15_whole_meaning_of_sentences) (n := 63) (k := 148) (x := "_law_script") (CX := fun _ => L2.CX0) rfl (by decide) (by kernel_rfl) ⟨rfl, by decide, by decide⟩ ?F (fun _ _ _ _ _ z => z)
    intro w mg fa h Y G hmg0
    obtain ⟨K, KX, c⟩ := Y
    have hmg : mg ("law" : PySem.Str) = some (.ref fa) := by
      have e : (HandSHeadRun.topDef (OpenLaw.row PySem.Challenge.rw_twoways_k15_whole_meaning_of_sentences).prog 17).name = ("law" : PySem.Str) := by kernel_rfl
      rw [← e]
      exact hmg0
    exact ⟨K, KX, K15.facts KX G hmg c⟩
