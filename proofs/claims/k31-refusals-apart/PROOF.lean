import PyProof.Rows.All
import Wide.All
import OpenK.AllK
import Wide.FinOn
import PyProof.EqAt
import PyProof.EqKinds
import PyProof.TupleCall
import KE.KNest
import HandS.ForMost
import HandS.AnyAll
import HandS.GenBody
import KE.KLam
import HandS.ForExc
import HandS.Codes
import HandS.Lambda
import KE.KExcSuper
import KE.KExcIs
import HandS.ExcInit
import HandS.SuiteRaise
import HandS.Walk
import HandS.CallRecv
import HandS.Defaults
import HandS.HeadNt
import HandS.ExcCtx
import HandS.HotCalls
import HandS.HeadHook4
import KE.GoesMore
import KE.GoesEnum
import HandS.DictComp
import HandS.Zip
import HandS.Deep
import HandS.TupAny
import KE.KIsAll
import HandS.ExcIs
import KE.KStateDown
import Lean
import HandS.EndTab
import HandS.Head0
import HandS.Head1
import HandS.Head2
import HandS.HeadEnd
import HandS.HeadHook1
import HandS.HeadHook2
import HandS.HeadHook3
import HandS.HeadWalk
import PySem.Challenge.RW_fixturehall_k31_refusals_apart
set_option Elab.async false
set_option linter.all false
set_option maxRecDepth 100000
set_option maxHeartbeats 4000000
/-! any, all of a generator expression over anything that is walked, its element of any kind that raises nothing -/
namespace Fh
open PySem PySem.Spec PyProof.Rows L2

/-- the context of a generator expression's own frame -/
abbrev gcx (X : Cx) (s : Shared) (H : Hp) (cenv : Env) (A' : Around) (fp : List Addr) : Cx :=
  { X with A := A', s_0 := s, H_0 := H, env := cenv, outer := X.stack, stack := cenv :: X.stack, ex := fp, fn := fun _ => false, calm := true, pn := [], xe := fun _ _ => False }

section
variable {X : Cx} {pins : List (Addr × Obj)} {σ : L2.St} {H : Hp} {s : Shared}
theorem inv_more {h' : Heap} {g' : Array GenState} {d' : Drawn} {t' : Nat} (I : Inv X pins σ H s) (k : ∀ b o, s.heap.get? b = some o → h'.get? b = some o) (hg : AllBare g') :
    Inv X pins σ H { s with heap := h', gens := g', drawn := d', toks := t' } := by
  refine I.step (ch := []) (fun _ z => nomatch z) (fun b o _ _ _ e _ => k b o e) (fun b o _ _ _ e _ => ⟨o.slots, k b o e⟩) (fun _ _ _ _ n => n) (fun b o _ e => ⟨o, k b o e⟩) (fun _ _ e => e) (fun _ _ _ e => e) (fun b ps e => ⟨#[], by rw [e]; simp⟩) (fun m hm => ?_) (I.hok.kept k) hg
  obtain ⟨ob, es, ep, ho, r⟩ := hm
  exact ⟨ob, es, ep, k _ ob ho, r⟩

/-- the generator's frame has come to be -/
theorem gen_start {scope : Scope} {own : List (Str × Nat)} {fp : List Addr} {code : Value} {A' : Around} {h' : Heap} {G' : Array GenState} {tk : Nat} {it : Value} (I : Inv X pins σ H s) (ok : BlkOk X.N X.env.scope scope own) (hcell : ∀ y ∈ scope.names, y.2 ≠ .cell) (hN : X.N.Nodup)
    (hfp : ∀ b ∈ fp, FpOk X pins H b ∧ b < s.heap.objs.size) (hA : A'.handled = none) (hfr : A'.frames = some (genEnv scope (cloFrom X.env.cells scope.names []) s.heap.objs.size code builtinsNs X.env :: X.stack))
    (kp : ∀ b o, s.heap.get? b = some o → h'.get? b = some o) (hns : h'.Ns s.heap.objs.size (fun y => if y = ".0" then some it else none)) (hG : AllBare G') :
    Inv (gcx X s H (genEnv scope (cloFrom X.env.cells scope.names []) s.heap.objs.size code builtinsNs X.env) A' fp) [] (wipe σ (own.map (·.2))) H { s with heap := h', gens := G', toks := tk } := by
  have hfree : ∀ y ∈ scope.names, y.2 = .free → ∃ c, X.env.cells.lookup y.1 = some c := fun y hy e => by
    rcases ok.free y hy e with k | k
    · exact I.ok.has _ (.inl k)
    · exact I.ok.has _ (.inr k)
  have cm : ∀ {y c}, (cloFrom X.env.cells scope.names []).lookup y = some c → X.env.cells.lookup y = some c := fun {y c} e => by
    rcases cloFrom_mem (PySem.mem_of_lookup e) with hm | ⟨h1, h2⟩
    · cases hm
    · obtain ⟨c1, hc⟩ := hfree _ h1 rfl
      have hc : X.env.cells.lookup y = some c1 := hc
      have e2 : c = c1 := by
        rw [h2, hc] <;> rfl
      rw [e2]
      exact hc
  have look : ∀ {y}, scope.names.lookup y = some .free → ∃ c, (cloFrom X.env.cells scope.names []).lookup y = some c := fun {y} hl => by
    have hy : (y, NameKind.free) ∈ scope.names := PySem.mem_of_lookup hl
    exact mem_lookup (cloFrom_has (cells := X.env.cells) (acc := []) hy)
  have clt : ∀ {y c}, X.env.cells.lookup y = some c → c < s.heap.objs.size := fun {y c} e => by
    obtain ⟨w', z⟩ := I.cell _ _ e
    exact z.lt
  refine ⟨⟨I.ok.mod, ok.kind, I.ok.glob, rfl, Nat.le_refl _, fun y z c e1 e2 => I.ok.inj y z c (cm e1) (cm e2), fun y hy => ?_, fun y c z _ => ?_, fun _ => hA, hfr, .inr ⟨rfl, rfl⟩, fun b hb => ⟨Nat.ne_of_lt (hfp b hb).2, fun y c e => (hfp b hb).1.2.2.2.2.1 y c (cm e)⟩, I.bs, Nat.le_trans I.ok.bsz I.sz,
      fun b o e hb => ?_, fun b hb z => ?_, I.stack, I.stkFree⟩,
    rfl, hG, Un.kept kp, ⟨_, hns, fun i y av e1 e2 e3 => ?_⟩, fun y c e => ?_, I.hok.fresh (Nat.le_refl _), fun y c e => I.freeC y c (cm e), fun p hp => absurd (show p ∈ ([] : List (Addr × Obj)) ++ [] from hp) (by simp), I.hok.kept kp, by rw [wipe_length]; exact I.len⟩
  · have hy : scope.names.lookup y = some .cell ∨ scope.names.lookup y = some .free := hy
    rcases hy with hy | hy
    · exact absurd rfl (hcell _ (PySem.mem_of_lookup hy))
    · exact look hy
  · have z : false = true := z
    cases z
  · rcases (hfp b hb).1.2.2.2.1 with z | z
    · exact I.ok.noex b o e z
    · exact absurd (Nat.lt_of_lt_of_le (Heap.lt_size e) (Nat.le_trans I.ok.bsz z)) (Nat.lt_irrefl _)
  · rcases List.mem_cons.mp (I.stkSub b z) with z | z
    · exact (hfp b hb).1.2.1 z
    · exact (hfp b hb).1.2.2.1 z
  · obtain ⟨e2, hne⟩ := wipe_some e2
    have e3 : Vis scope y := e3
    have hfr : scope.names.lookup y = some .free := by
      have no : ∀ k, scope.names.lookup y = some k → (k = .local ∨ k = .cell) → False := fun k e hh => by
        rcases ok.own _ (PySem.mem_of_lookup e) hh with e' | e'
        · obtain ⟨p, hp, hpy⟩ := List.mem_map.mp e'
          have e3 := ok.ix p hp
          have : p.1 = y := hpy
          rw [this] at e3
          exact hne (List.mem_map.mpr ⟨p, hp, nodup_ix hN e3 e1⟩)
        · exact e' (List.mem_of_getElem? e1)
      rcases e3 with e3 | e3 | e3
      · exact (no _ e3 (.inl rfl)).elim
      · exact (no _ e3 (.inr rfl)).elim
      · exact e3
    obtain ⟨m, hn, hl⟩ := I.loc
    have hvis : Vis X.env.scope y := (ok.free _ (PySem.mem_of_lookup hfr) rfl).elim (fun k => .inr (.inl k)) (fun k => .inr (.inr k))
    obtain ⟨w', r, q⟩ := hl i y av e1 e2 hvis
    obtain ⟨c2, h2⟩ := look hfr
    refine ⟨w', r, .inr ⟨.inr hfr, c2, h2, ?_⟩⟩
    have c1 := cm h2
    rcases q with ⟨k', _⟩ | ⟨_, c3, e', z⟩
    · have k' : X.env.scope.names.lookup y = some .local := k'
      rcases ok.free _ (PySem.mem_of_lookup hfr) rfl with k2 | k2 <;> rw [show X.env.scope.names.lookup y = _ from k2] at k' <;> cases k'
    · rw [c1] at e'
      cases e'
      exact z.keeps kp
  · obtain ⟨w', z⟩ := I.cell y c (cm e)
    exact ⟨w', z.keeps kp⟩
end

/-- while the generator sleeps: all is kept -/
structure Slp (s s' : Shared) : Prop where
  os : s'.os = s.os
  bare : AllBare s'.gens
  keep : ∀ b o, s.heap.get? b = some o → s'.heap.get? b = some o
theorem bare_setGen {s : Shared} {g : Nat} {x : GenState} (h : AllBare s.gens) (hx : x.bare = true) : AllBare (s.setGen g x).gens := fun y hy => by
  obtain ⟨i, hi, rfl⟩ := Array.mem_iff_getElem.mp hy
  have hi' : i < s.gens.size := by simpa [Shared.setGen] using hi
  by_cases e : g = i
  · subst e
    simp [Shared.setGen, hx]
  · have q : (s.setGen g x).gens[i]? = s.gens[i]? := by simp [Shared.setGen, Array.getElem?_setIfInBounds, e]
    rw [Array.getElem?_eq_getElem hi, Array.getElem?_eq_getElem hi'] at q
    rw [Option.some.inj q]
    exact h _ (Array.getElem_mem hi')
theorem inv_slp {X : Cx} {pins : List (Addr × Obj)} {σ : L2.St} {H : Hp} {s s' : Shared} (I : Inv X pins σ H s) (z : Slp s s') : Inv X pins σ H s' := by
  obtain ⟨z1, z2, z3⟩ := z
  obtain ⟨hh, g, d, t, o⟩ := s'
  have ho : o = s.os := z1
  subst ho
  exact inv_more I z3 z2

/-! ### the generator's turns -/
abbrev gLoop (elt tg iter : Expr) (ifs : List Expr) (scope : Scope) (pos : Pos) (it : Addr) (cenv : Env) : Code := .compLoop (.GeneratorExp elt [⟨tg, iter, ifs, 0⟩] scope pos) 0 (.ref it) .none cenv
abbrev gStart (elt tg iter : Expr) (ifs : List Expr) (scope : Scope) (pos : Pos) (it : Addr) (cenv : Env) : Code := .compStart (.GeneratorExp elt [⟨tg, iter, ifs, 0⟩] scope pos) 0 (.ref it) .none cenv
/-- what is handed out: y, at H; C: what its taker makes of it and of what comes behind -/
def GYp (G : Cx) (ip : List (Addr × Obj)) (C : V → Hp → Prop → Prop) : Protocol := fun _ _ v s kap => ∃ (y : V) (H : Hp) (σ : L2.St) (Pr : Prop), Inv G ip σ H s ∧ RelV y v ∧ C y H Pr ∧ (Pr → ∀ s', Slp s s' → kap (.send .none) s')
def GPe (G : Cx) (ip : List (Addr × Obj)) (σg : L2.St) (Qe : Hp → Prop) : Nat → Shared → Shared → Prop := fun _ _ s => ∃ H, Inv G ip σg H s ∧ Qe H
/-- one turn -/
def GTurn (J : It) (g : TG) (tt : TT) (te : TE) (vs : List Nat) (σg : L2.St) (C : V → Hp → Prop → Prop) (Qe : Hp → Prop) (W : Nat → Nat → Hp → Prop) : Prop := ∀ i m H, W i m H →
  (J.stop i H ∧ Qe H) ∨ (J.go i H ∧ ∃ Nx : Hp → Prop, (∀ H', Nx H' → ∃ m', m' < m ∧ W (i + 1) m' H') ∧ ∀ x H', J.yld i H x H' → g x σg H' fun σ2 H2 => wipe σ2 vs = σg ∧ tt σ2 H2 fun b H3 =>
    if b = true then te σ2 H3 fun y H4 => C y H4 (Nx H4) else Nx H3)
section
variable {X : Cx} {s4 : Shared} {H4 : Hp} {cenv : Env} {fp : List Addr} {A2 A' : Around} {tg iter elt : Expr} {ifs : List Expr} {scope : Scope} {pos : Pos} {it : Addr} {ip : List (Addr × Obj)} {J : It} {tn : Nat → Heap → Prop} {σg : L2.St} {vs : List Nat} {g : TG} {tt : TT} {te : TE}
  {C : V → Hp → Prop → Prop} {Qe : Hp → Prop} {W : Nat → Nat → Hp → Prop}
theorem gen_loop (hA : A2.over (gLoop elt tg iter ifs scope pos it cenv) [] = A') (hpg : PG (gcx X s4 H4 cenv A' fp) tg g) (hpt : PTs (gcx X s4 H4 cenv A' fp) ifs tt) (hpe : PE (gcx X s4 H4 cenv A' fp) elt te) (T : Turn X.prog X.w X.K tg J fp it tn)
    (hco : cenv.scope.isCoroutine = false) (hip : ∀ p ∈ ip, ∀ b ∈ fp, p.1 ≠ b) (turn : GTurn J g tt te vs σg C Qe W) :
    ∀ (m i n : Nat) (s₀ s : Shared) (H : Hp), m < n → W i m H → Inv (gcx X s4 H4 cenv A' fp) ip σg H s → tn i s.heap → (∀ b ∈ fp, H b = none) →
      Seg (model X.prog X.w) A2 (fun n s₀ r s₁ => r = .ok .next ∧ GPe (gcx X s4 H4 cenv A' fp) ip σg Qe n s₀ s₁) (GYp (gcx X s4 H4 cenv A' fp) ip C) n s₀ (gLoop elt tg iter ifs scope pos it cenv) ((model X.prog X.w).den (gLoop elt tg iter ifs scope pos it cenv)) [] s := by
  have stat : ∀ {σ' : L2.St} {H' : Hp} {s' : Shared}, Inv (gcx X s4 H4 cenv A' fp) ip σ' H' s' → (∀ b ∈ fp, H' b = none) → ∀ b ∈ fp, FpOk (gcx X s4 H4 cenv A' fp) ip H' b := fun {σ' H' s'} I' hn b hb =>
    ⟨hn b hb, (I'.ok.exf b hb).1, I'.ok.exfs b hb, .inl hb, fun x c e => (I'.ok.exf b hb).2 x c e, fun p hp => hip p (by simpa using hp) b hb⟩
  intro m
  induction m using Nat.strongRecOn with
  | ind m ih =>
    intro i n s₀ s H hn w I st nf
    show Seg _ A2 _ _ n s₀ _ ((compTurn (.GeneratorExp elt [⟨tg, iter, ifs, 0⟩] scope pos) 0 (.ref it) .none cenv).onRaise (leaving cenv)) [] s
    rw [compTurn_gen, Sem.onRaise_eq_wrap]
    refine seg_bind_wrap (wpAny_standAt ?_)
    rcases turn i m H w with ⟨stop, q⟩ | ⟨go, Nx, hNx, step⟩
    · refine seg_bind_wrap ?_
      rw [hA]
      refine wpAny_mono (T.done (gcx X s4 H4 cenv A' fp) rfl rfl rfl rfl i ip s σg H (fun _ _ => False) I (stat I nf) st stop) (fun r s6 hr => ?_) fun _ _ z => z.elim
      obtain ⟨hr, I6⟩ := hr
      subst hr
      exact seg_end (.ok .next) ⟨rfl, H, I6, q⟩
    · refine seg_bind_wrap ?_
      rw [hA]
      refine wpAny_mono (T.item (gcx X s4 H4 cenv A' fp) rfl rfl rfl rfl i ip s σg H (fun _ _ => False) I (stat I nf) st go) (fun r s6 h6 => ?_) fun _ _ z => z.elim
      obtain ⟨u, hr, h6⟩ := h6
      subst hr
      refine seg_bind_wrap ?_
      rw [hA]
      refine wpAny_mono h6 (fun _ s7 h7 => ?_) fun _ _ z => z.elim
      obtain ⟨x, H7, I7, r7, y7, st7, n7⟩ := h7
      have I7' := I7.pinned (stat I7 n7) (T.obj _ _ st7)
      refine seg_bind_wrap ?_
      rw [hA]
      refine wpAny_mono (hpg.run _ s7 _ H7 x u _ I7' r7 (step x H7 y7)) (fun _ s8 h8 => ?_) fun _ _ z => z.elim
      obtain ⟨σ8, H8, I8, hw8, q8⟩ := h8
      refine seg_bind_wrap ?_
      rw [hA]
      refine wpAny_mono (hpt.run _ s8 σ8 H8 _ I8 q8) (fun b s9 h9 => ?_) fun _ _ z => z.elim
      obtain ⟨H9, I9, q9⟩ := h9
      have pin' : ∀ {s' : Shared} {H' : Hp}, Inv (gcx X s4 H4 cenv A' fp) (ip ++ pinsAt fp s7.heap) σ8 H' s' → ∀ b ∈ fp, ∀ o, s7.heap.get? b = some o → s'.heap.get? b = some o ∧ H' b = none := fun {s' H'} I' b hb o e =>
        let z := I'.pin (b, o) (List.mem_append_right _ (List.mem_append_right _ (mem_pinsAt hb e)))
        ⟨z.1, z.2.1⟩
      have back : ∀ {s' : Shared} {H' : Hp}, Inv (gcx X s4 H4 cenv A' fp) (ip ++ pinsAt fp s7.heap) σ8 H' s' → Inv (gcx X s4 H4 cenv A' fp) ip σg H' s' ∧ tn (i + 1) s'.heap ∧ ∀ b ∈ fp, H' b = none := fun {s' H'} I' => by
        have hl : σg.length = σ8.length := by rw [← hw8, wipe_length]
        refine ⟨(I'.unpinned (pins := ip)).weak hl (fun j v e => ?_), T.keep _ _ _ st7 fun b hb o e => (pin' I' b hb o e).1, fun b hb => ?_⟩
        · rw [← hw8] at e
          exact (wipe_some e).1
        · obtain ⟨o, e, _⟩ := T.obj _ _ st7 b hb
          exact (pin' I' b hb o e).2
      cases b with
      | false =>
        simp only [Bool.false_eq_true, if_false] at q9 ⊢
        obtain ⟨m', hm, w'⟩ := hNx _ q9
        obtain ⟨J1, J2, J3⟩ := back I9
        exact seg_again rfl (ih m' hm (i + 1) n s₀ s9 H9 (by omega) w' J1 J2 J3)
      | true =>
        simp only [if_true] at q9 ⊢
        cases n with
        | zero => omega
        | succ n' =>
          have hy : ∀ v, yieldOut cenv v = yieldValue v := fun v => by simp only [yieldOut, hco, Bool.false_eq_true, if_false]
          simp only [hy]
          rw [Sem.bind_eq_wrap', Sem.bind_eq_wrap', Sem.wrap_wrap, Sem.wrap_wrap]
          refine seg_wrap ?_
          rw [hA]
          refine wpAny_mono (hpe.run _ s9 σ8 H9 _ I9 q9) (fun yv s10 h10 => ?_) fun _ _ z => z.elim
          obtain ⟨y, H10, I10, r10, qC⟩ := h10
          obtain ⟨J1, J2, J3⟩ := back I10
          refine seg_at (seg_yield rfl rfl rfl ⟨y, H10, σg, Nx H10, J1, r10, qC, fun nx s' z => ?_⟩)
          obtain ⟨m', hm, w'⟩ := hNx _ nx
          exact seg_again rfl (ih m' hm (i + 1) n' s' s' H10 (by omega) w' (inv_slp J1 z) (T.keep _ _ _ J2 fun b _ o e => z.keep b o e) J3)
theorem gen_begin (T : Turn X.prog X.w X.K tg J fp it tn) {n : Nat} {s₀ s : Shared} {H : Hp} {R : GenEnd} {Y : Protocol} (st : tn 0 s.heap)
    (loop : Seg (model X.prog X.w) A2 R Y n s₀ (gLoop elt tg iter ifs scope pos it cenv) ((model X.prog X.w).den (gLoop elt tg iter ifs scope pos it cenv)) [] s) :
    Seg (model X.prog X.w) A2 R Y n s₀ (gStart elt tg iter ifs scope pos it cenv) ((model X.prog X.w).den (gStart elt tg iter ifs scope pos it cenv)) [] s := by
  show Seg _ A2 _ _ _ s₀ _ ((compStart (.GeneratorExp elt [⟨tg, iter, ifs, 0⟩] scope pos) 0 (.ref it) .none cenv).onRaise (leaving cenv)) [] s
  unfold compStart
  rw [Sem.onRaise_eq_wrap]
  show Seg _ A2 _ _ _ s₀ _ ((ask >>= _).wrap _ _ _ _) [] s
  refine seg_bind_wrap (wpAny_askSetting ?_)
  split
  · exact seg_again rfl loop
  · refine seg_bind_wrap (wpAny_rule ?_)
    show Seg _ A2 _ _ _ s₀ _ ((standAt iter.pos >>= _).wrap _ _ _ _) [] s
    exact seg_bind_wrap (wpAny_standAt (seg_bind_wrap (T.self _ 0 s _ _ st (seg_again rfl loop))))
end

theorem Slp.refl {s : Shared} (h : AllBare s.gens) : Slp s s := ⟨rfl, h, fun _ _ e => e⟩
/-! ### who takes what is handed out -/
section
variable {prog : Program} {w : World} {A : Around} {R : Result → Shared → Prop} {a : Addr} {GSt : Nat → Shared → Prop}
theorem any_loop (turn : ∀ n s, GSt n s → wpAny (model prog w) A.in1 (pyNext (.ref a)) (fun r s' => match r with
      | none => R (.ok (.ret (.bool false))) s'
      | some v => ∃ k, v = .bool k ∧ (if k = true then R (.ok (.ret (.bool true))) s' else ∃ m, m < n ∧ GSt m s')) (fun e s' => R (.error e) s') s) :
    ∀ n s, GSt n s → codeAny (model prog w) A (.builtin "any.loop" ⟨[.ref a], []⟩) R s := by
  intro n
  induction n using Nat.strongRecOn with
  | ind n ih =>
    intro s h
    refine codeAny_builtin F.entry_any_loop ?_
    rw [Around.under_plainId F.plain_any_loop _]
    show wpAny _ A.in1 (pyNext (.ref a) >>= _) _ _ s
    refine wpAny_bind (wpAny_mono (turn n s h) (fun r s' hr => ?_) fun _ _ e => e)
    cases r with
    | none => exact wpAny_bind (wpAny_rule (wpAny_pure hr))
    | some v =>
      obtain ⟨k, rfl, hr⟩ := hr
      refine wpAny_bind (wpAny_holding (wpAny_truthy_bool ?_))
      refine wpAny_bind (wpAny_letGo ?_)
      cases k with
      | false =>
        simp only [Bool.false_eq_true, if_false] at hr ⊢
        obtain ⟨m, hm, hg⟩ := hr
        exact wpAny_pure ⟨plainId_quiet F.plain_any_loop _, ih m hm s' hg⟩
      | true =>
        simp only [if_true] at hr ⊢
        exact wpAny_bind (wpAny_rule (wpAny_pure hr))
theorem all_loop (turn : ∀ n s, GSt n s → wpAny (model prog w) A.in1 (pyNext (.ref a)) (fun r s' => match r with
      | none => R (.ok (.ret (.bool true))) s'
      | some v => ∃ k, v = .bool k ∧ (if k = true then ∃ m, m < n ∧ GSt m s' else R (.ok (.ret (.bool false))) s')) (fun e s' => R (.error e) s') s) :
    ∀ n s, GSt n s → codeAny (model prog w) A (.builtin "all.loop" ⟨[.ref a], []⟩) R s := by
  intro n
  induction n using Nat.strongRecOn with
  | ind n ih =>
    intro s h
    refine codeAny_builtin F.entry_all_loop ?_
    rw [Around.under_plainId F.plain_all_loop _]
    show wpAny _ A.in1 (pyNext (.ref a) >>= _) _ _ s
    refine wpAny_bind (wpAny_mono (turn n s h) (fun r s' hr => ?_) fun _ _ e => e)
    cases r with
    | none => exact wpAny_bind (wpAny_rule (wpAny_pure hr))
    | some v =>
      obtain ⟨k, rfl, hr⟩ := hr
      refine wpAny_bind (wpAny_holding (wpAny_truthy_bool ?_))
      refine wpAny_bind (wpAny_letGo ?_)
      cases k with
      | false =>
        simp only [Bool.false_eq_true, if_false] at hr ⊢
        exact wpAny_bind (wpAny_rule (wpAny_pure hr))
      | true =>
        simp only [if_true] at hr ⊢
        obtain ⟨m, hm, hg⟩ := hr
        exact wpAny_pure ⟨plainId_quiet F.plain_all_loop _, ih m hm s' hg⟩
end
/-- the generator g, at a, sleeps in the state s -/
structure GSt (X G : Cx) (a : Addr) (g : Nat) (go : Obj) (σg : L2.St) (C : V → Hp → Prop → Prop) (Qe : Hp → Prop) (n : Nat) (s : Shared) : Prop where
  gs : ∃ gs, s.gens[g]? = some gs ∧ ∀ s'', Slp s s'' → gs.Goes (model X.prog X.w) X.A.in1.in1 (fun n s₀ r s₁ => r = .ok .next ∧ GPe G [(a, go)] σg Qe n s₀ s₁) (GYp G [(a, go)] C) n (.send .none) s''
  inv : ∃ σ H, Inv G [(a, go)] σ H s
section
variable {X G : Cx} {a : Addr} {g : Nat} {go : Obj} {σg : L2.St} {C : V → Hp → Prop → Prop} {Qe : Hp → Prop} {n : Nat} {s : Shared}
theorem gen_next {nm qn : Value} {Qp : Option Value → Shared → Prop} {E : Value → Shared → Prop} (hh : X.A.handled = none) (hroom : X.A.depth < recursionLimit) (h1 : go.cls = .type "generator") (h2 : go.data = .fields #[.int g 0, nm, qn]) (h3 : go.slots = #[]) (st : GSt X G a g go σg C Qe n s)
    (hQ1 : ∀ v s₁ y H σ Pr, Inv G [(a, go)] σ H s₁ → RelV y v → C y H Pr → (Pr → ∃ m, m < n ∧ GSt X G a g go σg C Qe m s₁) → Qp (some v) s₁) (hQ2 : ∀ s₁ H, Inv G [(a, go)] σg H s₁ → Qe H → Qp none s₁) :
    wpAny (model X.prog X.w) X.A.in1 (pyNext (.ref a)) Qp E s := by
  obtain ⟨⟨gs, hgs, hgo⟩, σ, H, I⟩ := st
  have ha : s.heap.get? a = some go := (I.pin (a, go) (List.mem_append_right _ List.mem_cons_self)).1
  have hgen : s.heap.IsGen a g := ⟨go, nm, qn, ha, h1, h2, h3⟩
  have hlt : g < s.gens.size := by
    rcases Nat.lt_or_ge g s.gens.size with h' | h'
    · exact h'
    · rw [Array.getElem?_eq_none h'] at hgs; cases hgs
  refine GenW.wpAny_gsz (n := g + 1) hlt ?_
  have slp : Slp s (s.setGen g .running) := ⟨rfl, bare_setGen I.bare rfl, fun _ _ e => e⟩
  refine wpAny_pyNext_genexpQ (A := X.A.in1) (P := GPe G [(a, go)] σg Qe) hh I.nolimit hroom hgen hgs (hgo _ slp) (fun v s₁ gs' hb hv => ?_) (fun s₁ hp h' hk => ?_)
  · obtain ⟨y, H1, σ1, Pr, I1, r1, c1, k1⟩ := hv
    intro hsz
    have z : Slp s₁ (s₁.setGen g gs') := ⟨rfl, bare_setGen I1.bare hb, fun _ _ e => e⟩
    refine hQ1 v _ y H1 σ1 Pr (inv_slp I1 z) r1 c1 fun pr => ?_
    have k2 := k1 pr
    cases n with
    | zero => exact (k2 s₁ (Slp.refl I1.bare)).elim
    | succ m =>
      refine ⟨m, Nat.lt_succ_self _, ⟨gs', ?_, fun s'' z2 => k2 s'' ⟨z2.os, z2.bare, z2.keep⟩⟩, σ1, H1, inv_slp I1 z⟩
      have hl : g < s₁.gens.size := by
        have e : (s₁.setGen g gs').gens.size = s₁.gens.size := by simp [Shared.setGen]
        rw [e] at hsz
        exact hsz
      simp [Shared.setGen, hl]
  · obtain ⟨H1, I1, q1⟩ := hp
    intro _
    exact hQ2 _ H1 (inv_slp I1 ⟨rfl, bare_setGen I1.bare rfl, hk⟩) q1
end

/-- what a walk over a generator expression asks, the taker C, the end Qe -/
def tGx (P : Addr) (wi : TI) (g : TG) (tt : TT) (te : TE) (vs : List Nat) (σ : L2.St) (H : Hp) (C : V → Hp → Prop → Prop) (Qe : Hp → Prop) : Prop := wi σ H fun J H1 => GxR.TabG H1 P ∧ ∀ H2, GxR.Tabbed P H1 H2 → ∃ W : Nat → Nat → Hp → Prop, (∃ m, W 0 m H2) ∧ GTurn J g tt te vs (wipe σ vs) C Qe W
section
variable {X : Cx} {pins : List (Addr × Obj)} {σ : L2.St} {H : Hp} {s : Shared} {c P : Addr} {k : Nat} {tg iter elt : Expr} {ifs : List Expr} {scope : Scope} {own : List (Str × Nat)} {gpos : Pos} {wi : TI} {g : TG} {tt : TT} {te : TE} {C : V → Hp → Prop → Prop} {Qe : Hp → Prop}
theorem room_gen {A : Around} {elt tg iter : Expr} {ifs : List Expr} {scope : Scope} {pos : Pos} {it : Addr} {cenv : Env} (hr : Room (k + 1) A) : Room k (A.in1.in1.over (gLoop elt tg iter ifs scope pos it cenv) []) := by
  have e1 : (A.in1.in1.over (gLoop elt tg iter ifs scope pos it cenv) []).depth = A.depth + 1 := by
    first | rfl | simp [Around.over, frameCount, Code.weight, Code.isCreation, Code.isGuard, Code.isCaller, Code.frames, Code.isFrame, guardIds]
  have e2 : (A.in1.in1.over (gLoop elt tg iter ifs scope pos it cenv) []).units = A.units + 5 := by
    first | rfl | (simp [Around.over, unitsOf, Code.cUnits, Code.frames, Code.isFrame]; done)
  exact ⟨hr.hd, by have := hr.dp; rw [e1]; omega, by have := hr.un; rw [e2]; omega⟩
theorem frames_gen {A : Around} {elt tg iter : Expr} {ifs : List Expr} {scope : Scope} {pos : Pos} {it : Addr} {cenv : Env} {l : List Env} (h : A.frames = some l) : (A.in1.in1.over (gLoop elt tg iter ifs scope pos it cenv) []).frames = some (cenv :: l) := by
  have e : (A.in1.in1.over (gLoop elt tg iter ifs scope pos it cenv) []).frames = pushEnvs [cenv] (pushEnvs [] A.frames) := by
    first | rfl | (simp [Around.over, envsOf, Code.envs, Code.isFrame, Code.env?]; done)
  rw [e, h]
  rfl
/-- the generator is made; its taker has the word -/
theorem gen_made {Q' : Value → Shared → Prop} (hr : Room (k + 1) X.A) (TB : GxR.TabB X.base X.mg c P) (hcode : X.env.code = .ref c) (ok : BlkOk X.N X.env.scope scope own) (hcell : ∀ y ∈ scope.names, y.2 ≠ .cell) (hdot : scope.names.lookup (".0" : Str) = some NameKind.local) (hco : scope.isCoroutine = false)
    (hN : X.N.Nodup) (hi : PI X tg iter wi) (hpg : ∀ (s : Shared) (H : Hp) (L : Addr) (cl : List (Str × Addr)) (code : Value) (A' : Around) (fp : List Addr), Room k A' → PG (gcx X s H (genEnv scope cl L code builtinsNs X.env) A' fp) tg g)
    (hpt : ∀ (s : Shared) (H : Hp) (L : Addr) (cl : List (Str × Addr)) (code : Value) (A' : Around) (fp : List Addr), Room k A' → PTs (gcx X s H (genEnv scope cl L code builtinsNs X.env) A' fp) ifs tt)
    (hpe : ∀ (s : Shared) (H : Hp) (L : Addr) (cl : List (Str × Addr)) (code : Value) (A' : Around) (fp : List Addr), Room k A' → PE (gcx X s H (genEnv scope cl L code builtinsNs X.env) A' fp) elt te)
    (hs : ∀ v, genFold iter X.env v = pure v) (I : Inv X pins σ H s) (h : tGx P wi g tt te (own.map (·.2)) σ H C Qe)
    (hQ : ∀ (G : Cx) (a : Addr) (gn : Nat) (go : Obj) (nm qn : Value) (s5 : Shared) (n : Nat), go.cls = .type "generator" → go.data = .fields #[.int gn 0, nm, qn] → go.slots = #[] → s5.heap.IsGen a gn → GSt X G a gn go (wipe σ (own.map (·.2))) C Qe n s5 →
      (∀ σ' H' s', Inv G [(a, go)] σ' H' s' → Inv X pins σ H' s') → Q' (.ref a) s5) :
    wpAny (model X.prog X.w) X.A (eval (.GeneratorExp elt [⟨tg, iter, ifs, 0⟩] scope gpos) X.env) Q' X.xe s := by
  have hfree : ∀ y ∈ scope.names, y.2 = .free → ∃ c, X.env.cells.lookup y.1 = some c := fun y hy e => by
    rcases ok.free y hy e with k | k
    · exact I.ok.has _ (.inl k)
    · exact I.ok.has _ (.inr k)
  refine wpAny_GeneratorExp_make hco (closure_ok hfree) hcell hdot ok.kind hr.depth ?_ hs
  refine thn (hi.run pins s σ H _ I h) fun xv s1 h1 => thn h1 fun itv s2 h2 => ?_
  obtain ⟨it, fp, tn, J, H2, rfl, I2, T, st2, f2, ⟨ps, hP, htr⟩, q⟩ := h2
  refine ⟨I2.nolimit, ?_⟩
  have hPs : s2.heap.get? P = some { cls := .none, data := .fields ps } := I2.hok P _ hP
  have hPlt : P < s2.heap.objs.size := Heap.lt_size hPs
  have cd : PySem.W.CodeHd s2.heap c P := TB.code.keeps I2.bk
  have fplt : ∀ b ∈ fp, b < s2.heap.objs.size := fun b hb => by
    obtain ⟨o, e, _⟩ := T.obj _ _ st2 b hb
    exact Heap.lt_size e
  have cont : ∀ (code : Value) (h3 : Heap) (tk : Nat) (ps' : Array Value), Heap.ExtBut P s2.heap h3 → s2.heap.objs.size ≤ h3.objs.size → h3.get? P = some { cls := .none, data := .fields ps' } → (∃ more, ps' = ps ++ more) → TriplesOk ps'.toList →
      wpAny (model X.prog X.w) X.A (builtinsFor X.env.globals X.env.builtins) (fun bi s₄ => ∀ h', h'.Ns s₄.heap.objs.size (fun y => if y = ".0" then some (.ref it) else none) → Heap.SameBut s₄.heap.objs.size (s₄.heap.push { cls := .type "frame", data := .dict #[] }) h' →
          Q' (.ref h'.objs.size) { s₄ with
            gens := s₄.gens.push (.fresh (.compStart (.GeneratorExp elt [⟨tg, iter, ifs, 0⟩] scope gpos) 0 (.ref it) .none (genEnv scope (cloFrom X.env.cells scope.names []) s₄.heap.objs.size code bi X.env))),
            toks := s₄.toks + 1 + 1 + 1,
            heap := h'.push { cls := .type "generator", data := .fields #[.int s₄.gens.size 0, .str "<genexpr>" (s₄.toks + 1), .str (X.env.qual ++ "<genexpr>") (s₄.toks + 1 + 1)] } }) X.xe { s2 with heap := h3, toks := tk } := by
    intro code h3 tk ps' hx hsz hP3 hmore ht3
    obtain ⟨more, em⟩ := hmore
    obtain ⟨bm, ob, e1, e2, e3, e4, e5, e6, e7, e8⟩ := TB.bm
    have keep3 : ∀ b u, b ≠ P → s2.heap.get? b = some u → h3.get? b = some u := fun b u hb e => hx b u hb e
    refine wpAny_builtinsFor (m := X.mg) (by rw [I2.ok.glob]; exact (I2.mod.glob.keeps I2.bk).extBut hx TB.gP) e1 e2 (keep3 _ _ e4 (I2.bk _ _ e5)) e6 e7 e8 ?_
    intro h' hn' hs'
    have I4 : Inv X pins σ (upd H2 P (.tbl (ps ++ more))) { s2 with heap := h3, toks := tk } := GxR.inv_tab (more := more) (g' := s2.gens) (d' := s2.drawn) (t' := tk) I2 hP keep3 (by rw [← em]; exact hP3) I2.bare
    have tab : GxR.Tabbed P H2 (upd H2 P (.tbl (ps ++ more))) := ⟨⟨ps ++ more, upd_same, by rw [← em]; exact ht3⟩, fun b hb => upd_ne hb⟩
    obtain ⟨W, ⟨m0, w0⟩, turn⟩ := q _ tab
    have nP : ∀ b ∈ fp, b ≠ P := fun b hb z => by
      have z2 := (f2 b hb).1
      rw [z, hP] at z2
      cases z2
    have f4 : ∀ b ∈ fp, FpOk X pins (upd H2 P (.tbl (ps ++ more))) b ∧ b < ({ s2 with heap := h3, toks := tk } : Shared).heap.objs.size := fun b hb => by
      refine ⟨⟨?_, (f2 b hb).2⟩, Nat.lt_of_lt_of_le (fplt b hb) hsz⟩
      rw [upd_ne (nP b hb)]
      exact (f2 b hb).1
    generalize hH4 : upd H2 P (.tbl (ps ++ more)) = H4 at *
    generalize hs4 : ({ s2 with heap := h3, toks := tk } : Shared) = s4 at *
    have hh3 : s4.heap = h3 := by rw [← hs4]
    have sz1 : h'.objs.size = s4.heap.objs.size + 1 := by rw [hs'.1, Heap.size_push]
    have keep' : ∀ b o, s4.heap.get? b = some o → h'.get? b = some o := fun b o e => hs'.extBut b o (Nat.ne_of_lt (Heap.lt_size e)) (Heap.get?_push_of_some _ e)
    generalize hcenv : genEnv scope (cloFrom X.env.cells scope.names []) s4.heap.objs.size code builtinsNs X.env = cenv
    generalize hgo : ({ cls := .type "generator", data := .fields #[.int s4.gens.size 0, .str "<genexpr>" (s4.toks + 1), .str (X.env.qual ++ "<genexpr>") (s4.toks + 1 + 1)] } : Obj) = go
    have hA' := room_gen (elt := elt) (tg := tg) (iter := iter) (ifs := ifs) (scope := scope) (pos := gpos) (it := it) (cenv := cenv) hr
    have hfr := frames_gen (elt := elt) (tg := tg) (iter := iter) (ifs := ifs) (scope := scope) (pos := gpos) (it := it) (cenv := cenv) I4.ok.frames
    generalize hAA : X.A.in1.in1.over (gLoop elt tg iter ifs scope gpos it cenv) [] = A' at hA' hfr
    have pg := hpg s4 H4 s4.heap.objs.size (cloFrom X.env.cells scope.names []) code A' fp hA'
    have pt := hpt s4 H4 s4.heap.objs.size (cloFrom X.env.cells scope.names []) code A' fp hA'
    have pe := hpe s4 H4 s4.heap.objs.size (cloFrom X.env.cells scope.names []) code A' fp hA'
    have keep5 : ∀ b o, s4.heap.get? b = some o → (h'.push go).get? b = some o := fun b o e => Heap.get?_push_of_some _ (keep' b o e)
    have IG := gen_start (code := code) (A' := A') (h' := h'.push go) (G' := s4.gens.push (.fresh (gStart elt tg iter ifs scope gpos it cenv))) (tk := s4.toks + 1 + 1 + 1) (it := .ref it) I4 ok hcell hN f4 hA'.hd (by rw [hcenv]; exact hfr) keep5 (hn'.push _) (I4.bare.push rfl)
    rw [hcenv] at pg pt pe IG
    have cL : cenv.locals = s4.heap.objs.size := by rw [← hcenv]; rfl
    have hgoget : (h'.push go).get? h'.objs.size = some go := Heap.get?_push_size _ (by rw [← hgo]; rfl)
    have nA : H4 h'.objs.size = none := I4.hok.fresh (by rw [sz1]; exact Nat.le_succ _)
    have IG2 : Inv (gcx X s4 H4 cenv A' fp) [(h'.objs.size, go)] (wipe σ (own.map (·.2))) H4 { s4 with heap := h'.push go, gens := s4.gens.push (.fresh (gStart elt tg iter ifs scope gpos it cenv)), toks := s4.toks + 1 + 1 + 1 } := by
      refine IG.pins_of fun p hp => ?_
      have ep : p = (h'.objs.size, go) := by simpa using hp
      subst ep
      refine ⟨hgoget, nA, ?_, ?_, fun v z => ?_⟩
      · show h'.objs.size ≠ cenv.locals
        rw [cL, sz1]
        exact Nat.succ_ne_self _
      · intro z
        obtain ⟨_, o, ho, _⟩ := I4.stack.mem z
        have := Heap.lt_size ho
        have : h'.objs.size < s4.heap.objs.size := this
        omega
      · have z : go.data = .cell v := z
        rw [← hgo] at z
        cases z
    have st4 : tn 0 s4.heap := T.keep _ _ _ st2 fun b hb o e => by rw [hh3]; exact keep3 b o (nP b hb) e
    have hip : ∀ p ∈ [(h'.objs.size, go)], ∀ b ∈ fp, p.1 ≠ b := fun p hp b hb z => by
      have ep : p = (h'.objs.size, go) := by simpa using hp
      subst ep
      have q1 : b < s4.heap.objs.size := (f4 b hb).2
      have z : h'.objs.size = b := z
      have q2 : h'.objs.size = s4.heap.objs.size + 1 := sz1
      rw [z] at q2
      exact Nat.lt_irrefl _ (Nat.lt_trans q1 (by rw [q2]; exact Nat.lt_succ_self _))
    have hcoE : cenv.scope.isCoroutine = false := by rw [← hcenv]; exact hco
    have hGs : GSt X (gcx X s4 H4 cenv A' fp) h'.objs.size s4.gens.size go (wipe σ (own.map (·.2))) C Qe (m0 + 1) { s4 with heap := h'.push go, gens := s4.gens.push (.fresh (gStart elt tg iter ifs scope gpos it cenv)), toks := s4.toks + 1 + 1 + 1 } := by
      refine ⟨⟨.fresh (gStart elt tg iter ifs scope gpos it cenv), Array.getElem?_push_size .., fun s'' z => ⟨rfl, ?_⟩⟩, _, _, IG2⟩
      have st5 : tn 0 s''.heap := T.keep _ _ _ st4 fun b hb o e => z.keep b o (keep5 b o e)
      refine gen_begin (tg := tg) (iter := iter) (ifs := ifs) (scope := scope) (pos := gpos) (H := H4) T st5 ?_
      exact gen_loop hAA pg pt pe T hcoE hip turn m0 0 (m0 + 1) s'' s'' H4 (Nat.lt_succ_self _) w0 (inv_slp IG2 z) st5 fun b hb => (f4 b hb).1.1
    subst hcenv
    refine hQ _ _ _ _ (.str "<genexpr>" (s4.toks + 1)) (.str (X.env.qual ++ "<genexpr>") (s4.toks + 1 + 1)) _ (m0 + 1) (by rw [← hgo]) (by rw [← hgo]) (by rw [← hgo]) ⟨go, _, _, hgoget, by rw [← hgo], by rw [← hgo], by rw [← hgo]⟩ hGs fun σ' H' s' I' => ?_
    exact I4.call' (ch := fp) I'.os I'.base I'.hok I'.bare fun b hb => ⟨(f4 b hb).1.2.2.2.1, (f4 b hb).1.2.1, (f4 b hb).1.2.2.2.2.1, (f4 b hb).1.2.2.2.2.2⟩
  cases hf : codeAmong gpos ps.toList with
  | none =>
    refine wpAny_genexprCodeX hcode (cd.code hPs htr) (cd.tab hPs) hf fun c' h' tk hx hge hlt hco' _ htab' _ => ?_
    obtain ⟨o1, vs, f1, tf, fl, tg, inF, tx, tt, op, _, _, _, _, _, _, _, _, _, htr2, _⟩ := hco'
    exact cont _ h' tk _ hx (Nat.le_trans hge (Nat.le_of_lt hlt)) htab'.2 ⟨_, rfl⟩ htr2
  | some cv =>
    refine wpAny_genexprCode_hit hcode (cd.code hPs htr) hf ?_
    exact cont cv s2.heap s2.toks ps (Heap.ExtBut.refl _ _) (Nat.le_refl _) hPs ⟨#[], by simp⟩ htr
end

/-- any(elt for tg in iter if ..) -/
def tAnyG (P : Addr) (wi : TI) (g : TG) (tt : TT) (te : TE) (vs : List Nat) : TE := fun σ H Q => tGx P wi g tt te vs σ H (fun y H pr => ∃ k, y = .bl k ∧ (if k = true then Q (.bl true) H else pr)) (fun H => Q (.bl false) H)
section
variable {X : Cx} {c P : Addr} {k : Nat} {tg iter elt : Expr} {ifs : List Expr} {scope : Scope} {own : List (Str × Nat)} {gpos pos p : Pos} {wi : TI} {g : TG} {tt : TT} {te : TE}
theorem pe_anyG (hr : Room (k + 1) X.A) (hg : Gl X "any") (hm : X.mg "any" = none) (TB : GxR.TabB X.base X.mg c P) (hcode : X.env.code = .ref c) (hN : X.N.Nodup) (ok : BlkOk X.N X.env.scope scope own) (hcell : ∀ y ∈ scope.names, y.2 ≠ .cell) (hdot : scope.names.lookup (".0" : Str) = some NameKind.local) (hco : scope.isCoroutine = false)
    (hi : PI X tg iter wi) (hpg : ∀ (s : Shared) (H : Hp) (L : Addr) (cl : List (Str × Addr)) (code : Value) (A' : Around) (fp : List Addr), Room k A' → PG (gcx X s H (genEnv scope cl L code builtinsNs X.env) A' fp) tg g)
    (hpt : ∀ (s : Shared) (H : Hp) (L : Addr) (cl : List (Str × Addr)) (code : Value) (A' : Around) (fp : List Addr), Room k A' → PTs (gcx X s H (genEnv scope cl L code builtinsNs X.env) A' fp) ifs tt)
    (hpe : ∀ (s : Shared) (H : Hp) (L : Addr) (cl : List (Str × Addr)) (code : Value) (A' : Around) (fp : List Addr), Room k A' → PE (gcx X s H (genEnv scope cl L code builtinsNs X.env) A' fp) elt te)
    (hs : ∀ v, genFold iter X.env v = pure v := by intro _; rfl)
    (he : starEach [.GeneratorExp elt [⟨tg, iter, ifs, 0⟩] scope gpos] X.env = (false, eval (.GeneratorExp elt [⟨tg, iter, ifs, 0⟩] scope gpos) X.env) :: starEach [] X.env := by rfl) :
    PE X (.Call (.Name "any" p) [.GeneratorExp elt [⟨tg, iter, ifs, 0⟩] scope gpos] [] pos) (tAnyG P wi g tt te (own.map (·.2))) := by
  refine ⟨fun pins s σ H Q I h => ?_⟩
  refine wpAny_Call_Name_kw (ld_blt I hg hm boot_any ?_)
  refine PyProof.Rows.callWith_builtin1 ?_ he (by rfl)
  rw [he]
  show wpAny _ _ (spliced ((false, eval (.GeneratorExp elt [⟨tg, iter, ifs, 0⟩] scope gpos) X.env) :: backTo pos (starEach [] X.env))) _ _ s
  refine Calls.spliced_cons (gen_made hr TB hcode ok hcell hdot hco hN hi hpg hpt hpe hs I h fun G a gn go nm qn s5 n h1 h2 h3 hgen st back => ?_)
  refine Calls.spliced_nil ?_
  refine call_function_tree F.kind_any F.plain_any F.entry_any (F.args_any1 _) ?_
  unfold Builtin.«any»
  refine wpAny_bind (m := oneArg "any" _) (wpAny_pure ?_)
  refine wpAny_bind (wpAny_pyIter_gen hgen ?_)
  refine wpAny_pure ⟨plainId_quiet F.plain_any_loop _, any_loop (GSt := GSt X G a gn go (wipe σ (own.map (·.2))) (fun y H pr => ∃ k, y = .bl k ∧ (if k = true then Q (.bl true) H else pr)) (fun H => Q (.bl false) H)) (fun n s st => ?_) n s5 st⟩
  refine gen_next hr.hd hr.depth h1 h2 h3 st (fun v s₁ y H1 σ1 Pr I1 r1 c1 k1 => ?_) (fun s₁ H1 I1 q1 => ?_)
  · obtain ⟨kb, rfl, c1⟩ := c1
    obtain rfl : v = Value.bool kb := r1
    refine ⟨kb, rfl, ?_⟩
    cases kb with
    | false =>
      simp only [Bool.false_eq_true, if_false] at c1 ⊢
      exact k1 c1
    | true =>
      simp only [if_true] at c1 ⊢
      exact ⟨.bl true, H1, back _ _ _ I1, rfl, c1⟩
  · exact ⟨.bl false, H1, back _ _ _ I1, rfl, q1⟩
end

/-- all(elt for tg in iter if ..) -/
def tAllG (P : Addr) (wi : TI) (g : TG) (tt : TT) (te : TE) (vs : List Nat) : TE := fun σ H Q => tGx P wi g tt te vs σ H (fun y H pr => ∃ k, y = .bl k ∧ (if k = true then pr else Q (.bl false) H)) (fun H => Q (.bl true) H)
section
variable {X : Cx} {c P : Addr} {k : Nat} {tg iter elt : Expr} {ifs : List Expr} {scope : Scope} {own : List (Str × Nat)} {gpos pos p : Pos} {wi : TI} {g : TG} {tt : TT} {te : TE}
theorem pe_allG (hr : Room (k + 1) X.A) (hg : Gl X "all") (hm : X.mg "all" = none) (TB : GxR.TabB X.base X.mg c P) (hcode : X.env.code = .ref c) (hN : X.N.Nodup) (ok : BlkOk X.N X.env.scope scope own) (hcell : ∀ y ∈ scope.names, y.2 ≠ .cell) (hdot : scope.names.lookup (".0" : Str) = some NameKind.local) (hco : scope.isCoroutine = false)
    (hi : PI X tg iter wi) (hpg : ∀ (s : Shared) (H : Hp) (L : Addr) (cl : List (Str × Addr)) (code : Value) (A' : Around) (fp : List Addr), Room k A' → PG (gcx X s H (genEnv scope cl L code builtinsNs X.env) A' fp) tg g)
    (hpt : ∀ (s : Shared) (H : Hp) (L : Addr) (cl : List (Str × Addr)) (code : Value) (A' : Around) (fp : List Addr), Room k A' → PTs (gcx X s H (genEnv scope cl L code builtinsNs X.env) A' fp) ifs tt)
    (hpe : ∀ (s : Shared) (H : Hp) (L : Addr) (cl : List (Str × Addr)) (code : Value) (A' : Around) (fp : List Addr), Room k A' → PE (gcx X s H (genEnv scope cl L code builtinsNs X.env) A' fp) elt te)
    (hs : ∀ v, genFold iter X.env v = pure v := by intro _; rfl)
    (he : starEach [.GeneratorExp elt [⟨tg, iter, ifs, 0⟩] scope gpos] X.env = (false, eval (.GeneratorExp elt [⟨tg, iter, ifs, 0⟩] scope gpos) X.env) :: starEach [] X.env := by rfl) :
    PE X (.Call (.Name "all" p) [.GeneratorExp elt [⟨tg, iter, ifs, 0⟩] scope gpos] [] pos) (tAllG P wi g tt te (own.map (·.2))) := by
  refine ⟨fun pins s σ H Q I h => ?_⟩
  refine wpAny_Call_Name_kw (ld_blt I hg hm boot_all ?_)
  refine PyProof.Rows.callWith_builtin1 ?_ he (by rfl)
  rw [he]
  show wpAny _ _ (spliced ((false, eval (.GeneratorExp elt [⟨tg, iter, ifs, 0⟩] scope gpos) X.env) :: backTo pos (starEach [] X.env))) _ _ s
  refine Calls.spliced_cons (gen_made hr TB hcode ok hcell hdot hco hN hi hpg hpt hpe hs I h fun G a gn go nm qn s5 n h1 h2 h3 hgen st back => ?_)
  refine Calls.spliced_nil ?_
  refine call_function_tree F.kind_all F.plain_all F.entry_all (F.args_all1 _) ?_
  unfold Builtin.«all»
  refine wpAny_bind (m := oneArg "all" _) (wpAny_pure ?_)
  refine wpAny_bind (wpAny_pyIter_gen hgen ?_)
  refine wpAny_pure ⟨plainId_quiet F.plain_all_loop _, all_loop (GSt := GSt X G a gn go (wipe σ (own.map (·.2))) (fun y H pr => ∃ k, y = .bl k ∧ (if k = true then pr else Q (.bl false) H)) (fun H => Q (.bl true) H)) (fun n s st => ?_) n s5 st⟩
  refine gen_next hr.hd hr.depth h1 h2 h3 st (fun v s₁ y H1 σ1 Pr I1 r1 c1 k1 => ?_) (fun s₁ H1 I1 q1 => ?_)
  · obtain ⟨kb, rfl, c1⟩ := c1
    obtain rfl : v = Value.bool kb := r1
    refine ⟨kb, rfl, ?_⟩
    cases kb with
    | false =>
      simp only [Bool.false_eq_true, if_false] at c1 ⊢
      exact ⟨.bl false, H1, back _ _ _ I1, rfl, c1⟩
    | true =>
      simp only [if_true] at c1 ⊢
      exact k1 c1
  · exact ⟨.bl true, H1, back _ _ _ I1, rfl, q1⟩
end
end Fh
set_option Elab.async false
set_option linter.all false
set_option maxRecDepth 100000
set_option maxHeartbeats 4000000
/-! lambdas without parameters that are kept (in a list), and a def that calls the one it is handed -/
namespace Fh
open PySem PySem.Spec PyProof.Rows L2 LamX

/-- at f: a lambda of the name q, its code at c' -/
def LamO (f : Addr) (q : Str) (params : Arguments) (body : Expr) (scope : Scope) (cl : List (Str × Addr)) (c' : Addr) : HO :=
  .ext fun h => ∃ pm ctv, h.get? f = some (PySem.W.kla_obj "<lambda>" q params body scope cl pm c' ctv)
theorem lamO_ok {P : Program} {w : World} {H : Hp} {h : Heap} {f c' : Addr} {q : Str} {params : Arguments} {body : Expr} {scope : Scope} {cl : List (Str × Addr)} {pm ctv : Value} (e : h.get? f = some (PySem.W.kla_obj "<lambda>" q params body scope cl pm c' ctv)) :
    ObjOk P w H h f (LamO f q params body scope cl c') := ⟨⟨pm, ctv, e⟩, ⟨_, e⟩, fun _ _ ⟨a, b, z⟩ k => ⟨a, b, k _ z⟩⟩
theorem lamO_at {P : Program} {w : World} {H : Hp} {h : Heap} {f c' : Addr} {q : Str} {params : Arguments} {body : Expr} {scope : Scope} {cl : List (Str × Addr)} (hok : HOk P w H h) (e : H f = some (LamO f q params body scope cl c')) :
    ∃ pm ctv, h.get? f = some (PySem.W.kla_obj "<lambda>" q params body scope cl pm c' ctv) := by
  have x := hok f _ e
  unfold LamO at x
  exact x.1
theorem codeO_at {P : Program} {w : World} {H : Hp} {h : Heap} {c' : Addr} {q : Str} (hok : HOk P w H h) (e : H c' = some (CodeO c' q)) : ∃ (oc : Obj) (vs : Array Value) (t : Tok), h.get? c' = some oc ∧ oc.data = .fields vs ∧ vs[1]? = some (.str q t) := by
  have x := hok c' _ e
  unfold CodeO at x
  exact x.1
/-- all but the table at P stays -/
def ButT (P : Addr) (H H' : Hp) : Prop := ∀ b o, b ≠ P → H b = some o → H' b = some o
theorem ButT.refl (P : Addr) (H : Hp) : ButT P H H := fun _ _ _ e => e
theorem ButT.trans {P : Addr} {H H1 H2 : Hp} (a : ButT P H H1) (b : ButT P H1 H2) : ButT P H H2 := fun c o n e => b c o n (a c o n e)
section
variable {X : Cx} {pins : List (Addr × Obj)} {σ : L2.St} {H : Hp} {s : Shared}
theorem lam_new {c P : Addr} {params : Arguments} {body : Expr} {scope : Scope} {pos : Pos} {E : Value → Shared → Prop} {Q : Value → Shared → Prop} (I : Inv X pins σ H s) (TB : LamX.TabB X.base X.mg c P) (hcode : X.env.code = .ref c) (hT : TabS H P (X.env.qual ++ "<lambda>"))
    (hdef : defaultsOf params X.env = ([], [])) (hfree : ∀ y ∈ scope.names, y.2 = .free → ∃ c, X.env.cells.lookup y.1 = some c)
    (h : ∀ (f c' : Addr) (H1 : Hp) (s' : Shared), Inv X pins σ (upd H1 f (LamO f (X.env.qual ++ "<lambda>") params body scope (cloFrom X.env.cells scope.names []) c')) s' → H1 f = none → ButT P H H1 → TabS H1 P (X.env.qual ++ "<lambda>") → H1 c' = some (CodeO c' (X.env.qual ++ "<lambda>")) → Q (.ref f) s') :
    wpAny (model X.prog X.w) X.A (eval (.Lambda params body scope pos) X.env) Q E s := by
  generalize hqq : X.env.qual ++ "<lambda>" = q at *
  obtain ⟨ps, hP, htr, hcodes⟩ := id hT
  have hPs : s.heap.get? P = some { cls := .none, data := .fields ps } := I.hok P _ hP
  have bP : s.heap.BuiltinsAt X.mg P := TB.bm.keeps I.bk
  refine PySem.W.kla_eval hdef ?_
  rw [hqq]
  cases hf : codeAmong pos ps.toList with
  | none =>
    refine PySem.W.kla_makeFunction (mg := X.mg) (c := c) (P := P) (ps := ps) (closure_ok hfree) I.ok.glob (I.mod.glob.keeps I.bk) hcode (TB.code.keeps I.bk) hPs htr hf TB.gP bP fun c' ctv h' tk hx hge hlt hrec htb => ?_
    obtain ⟨c2, oc, vs, t, ec, hoc, hd, hv⟩ := hrec
    cases ec
    have nC : H c' = none := I.hok.fresh hge
    have nPc : P ≠ c' := ne_of_none hP nC
    have J := inv_table (t' := tk) (more := #[rawInt pos.line, rawInt pos.col, .ref c']) (h' := h') I hP hx htb hge ⟨oc, vs, t, hoc, hd, hv⟩
    have J2 := J.laid (t' := tk) (a := h'.objs.size) (o := LamO h'.objs.size q params body scope (cloFrom X.env.cells scope.names []) c') (h' := h'.push (PySem.W.kla_obj "<lambda>" q params body scope (cloFrom X.env.cells scope.names []) ((X.mg "__name__").getD .none) c' ctv))
      (fun b o e => Heap.get?_push_of_some _ e) (Nat.le_refl _) (lamO_ok (Heap.get?_push_size _ rfl))
    have but : ButT P H (upd (upd H P (.tbl (ps ++ #[rawInt pos.line, rawInt pos.col, .ref c']))) c' (CodeO c' q)) := fun b o hb e => by rw [upd_ne (ne_of_none e nC), upd_ne hb]; exact e
    have eL : (ps ++ #[rawInt pos.line, rawInt pos.col, Value.ref c']).toList = ps.toList ++ [rawInt pos.line, rawInt pos.col, .ref c'] := by simp
    refine h _ c' _ _ J2 (J.hok.fresh (Nat.le_refl _)) but ⟨_, by rw [upd_ne nPc, upd_same], by rw [eL]; exact PySem.TriplesOk_snoc _ _ _ _ htr, fun p' cv hcv => ?_⟩ upd_same
    rw [eL] at hcv
    rcases among_app _ htr hcv with z | z
    · obtain ⟨c0, e1, e2⟩ := hcodes p' cv z
      refine ⟨c0, e1, ?_⟩
      rw [upd_ne (ne_of_none e2 nC), upd_ne (fun y => by rw [y, hP] at e2; exact codeO_ne ps (Option.some.inj e2).symm)]
      exact e2
    · exact ⟨c', z, upd_same⟩
  | some cv =>
    obtain ⟨c', ec, hco⟩ := hcodes pos cv hf
    subst ec
    refine PySem.W.kla_makeFunctionHit (mg := X.mg) (c := c) (P := P) (ps := ps) (closure_ok hfree) I.ok.glob (I.mod.glob.keeps I.bk) hcode (TB.code.keeps I.bk) hPs htr hf bP fun ctv h' tk hx hsz => ?_
    have J : Inv X pins σ H { s with heap := h', toks := tk } := I.kept hx
    have J2 := J.laid (t' := tk) (a := h'.objs.size) (o := LamO h'.objs.size q params body scope (cloFrom X.env.cells scope.names []) c') (h' := h'.push (PySem.W.kla_obj "<lambda>" q params body scope (cloFrom X.env.cells scope.names []) ((X.mg "__name__").getD .none) c' ctv))
      (fun b o e => Heap.get?_push_of_some _ e) (Nat.le_refl _) (lamO_ok (Heap.get?_push_size _ rfl))
    exact h _ c' H _ J2 (J.hok.fresh (Nat.le_refl _)) (ButT.refl P H) hT hco
end
/-- lambda: body, kept -/
def tLamV (P : Addr) (q : Str) (params : Arguments) (body : Expr) (scope : Scope) (cl : List (Str × Addr)) : TE := fun _ H Q => TabS H P q ∧ ∀ (f c' : Addr) (H1 : Hp), ButT P H H1 → TabS H1 P q → H1 c' = some (CodeO c' q) → H1 f = none → Q (.ref f) (upd H1 f (LamO f q params body scope cl c'))
theorem pe_lam {X : Cx} {c P : Addr} {params : Arguments} {body : Expr} {scope : Scope} {pos : Pos} (TB : LamX.TabB X.base X.mg c P) (hcode : X.env.code = .ref c) (L : LamS X.env.scope scope) (hdef : defaultsOf params X.env = ([], []) := by rfl) :
    PE X (.Lambda params body scope pos) (tLamV P (X.env.qual ++ "<lambda>") params body scope (cloFrom X.env.cells scope.names [])) := by
  refine ⟨fun pins s σ H Q I h => ?_⟩
  obtain ⟨hT, h⟩ := h
  exact lam_new I TB hcode hT hdef (L.has I.ok) fun f c' H1 s' J n b t cc => ⟨.ref f, _, J, rfl, h f c' H1 b t cc n⟩
section
variable {X : Cx} {pins : List (Addr × Obj)} {σ : L2.St} {H : Hp} {s : Shared}
/-- a(), in the def that was handed the lambda at f -/
theorem pe_act2 {CXg : CXT} {Eg : XK} {Ng : List Str} {qg : Str} {sg : Scope} {g f c' : Addr} {cdg : Value} {params : Arguments} {body : Expr} {scope : Scope} {k i : Nat} {a : Str} {pn : List (Addr × Obj)} {xe : Value → Shared → Prop} {W : WX} {E : XK} {tb : TE} {p1 p2 : Pos}
    (I : Inv X pins σ H s) (L : LamS X.env.scope scope) (hbind : ∀ pm cv ctv, bindArgs (PySem.W.kla_fn "<lambda>" (X.env.qual ++ "<lambda>") params body scope (cloFrom X.env.cells scope.names []) pm cv ctv) ⟨[], []⟩ = pure [])
    (tk : Takes ((cxOf CXg X.prog X.w X.K X.mg X.base Ng qg sg g cdg X.A X.stack s H Eg).tr pn xe) W) (hW : ∀ cls d σ' H', E cls d H' → W cls d σ' H') (hr : Room (k + 1) (X.A.deeper (envOfC qg sg s.heap.objs.size g cdg)))
    (hbody : ∀ (A : Around) (outer : List Env) (s : Shared) (H : Hp), Room k (A.deeper (lamEnv X scope s.heap.objs.size f c')) → PE (lamCx X A outer s H E scope f c') body tb)
    (hN : Ng[i]? = some a) (hv : Vis sg a) (hd : (a == ("__debug__" : Str)) = false := by decide) (hcd : (a == ("__classdict__" : Str)) = false := by decide) :
    PE ((cxOf CXg X.prog X.w X.K X.mg X.base Ng qg sg g cdg X.A X.stack s H Eg).tr pn xe) (.Call (.Name a p1) [] [] p2)
      (fun σZ HZ Q => σZ[i]? = some (some (.ref f)) ∧ HZ f = some (LamO f (X.env.qual ++ "<lambda>") params body scope (cloFrom X.env.cells scope.names []) c') ∧ HZ c' = some (CodeO c' (X.env.qual ++ "<lambda>")) ∧ tb σ HZ Q) := by
  refine ⟨fun pinsZ sZ σZ HZ Q IZ h => ?_⟩
  obtain ⟨hs, hlo, hc, ht⟩ := h
  refine wpAny_Call_Name_kw (thn ((pe_var (pos := p1) (i := i) hN hv hd hcd).run pinsZ sZ σZ HZ (fun v H1 => v = .ref f ∧ H1 = HZ) IZ ⟨.ref f, hs, rfl, rfl⟩) fun u s1 ⟨v, H1, I1, r1, q1⟩ => ?_)
  obtain ⟨ev, eH⟩ := q1
  subst ev eH
  obtain rfl : u = Value.ref f := r1
  obtain ⟨pm, ctv, of1⟩ := lamO_at I1.hok hlo
  obtain ⟨oc, vs, t, hoc, hdc, hvc⟩ := codeO_at I1.hok hc
  refine PySem.W.callWith_F0 ⟨_, _, _, _, of1⟩ ?_
  have un : Un (frs X.stack) [] H H1 s.heap s1.heap := I1.base
  have rc : codeAny (model X.prog X.w) (X.A.deeper (envOfC qg sg s.heap.objs.size g cdg)) (.call (.ref f) ⟨[], []⟩) (CR (L2.CX X.prog X.w) (envOfC qg sg s.heap.objs.size g cdg :: X.stack) X.prog X.w H1 s1 Q E) s1 := by
    refine PySem.W.kla_callFunE hr.depth of1 rfl L.co L.gen rfl ⟨c', oc, vs, t, rfl, hoc, hdc, hvc⟩ ?_
    rw [hbind]
    refine wpAny_pure (wpAny_newFunctionEnv (fun y hy => (L.own y hy).2) (fun y hy => absurd hy (by simp)) (fun h₁ hns hsb => ⟨I1.nolimit.fresh _ hsb, ?_⟩) L.kind)
    have kp : ∀ b o, s1.heap.get? b = some o → h₁.get? b = some o := fun b o e => hsb.extBut b o (Nat.ne_of_lt (Heap.lt_size e)) (Heap.get?_push_of_some _ e)
    have J : Inv (lamCx X (X.A.deeper (envOfC qg sg s.heap.objs.size g cdg)) (envOfC qg sg s.heap.objs.size g cdg :: X.stack) s1 H1 E scope f c') [] σ H1 { s1 with heap := h₁, toks := s1.toks + ([] : List (Str × Value)).length } :=
      lam_start2 I L I1.env0 hr.hd un hns kp
    refine PySem.W.kla_codeExpr (wpAny_mono ((hbody _ _ s1 H1 (hr.deeper _)).run [] _ _ H1 Q J ht) (fun v s' hq => ?_) fun e s' hq => hq)
    obtain ⟨w', H', J', rv, q⟩ := hq
    exact ⟨w', H', J'.os, J'.bare, J'.base, J'.hok, rv, q⟩
  refine wpAny_call (codeAny_mono rc fun r s' hq => ?_)
  cases r with
  | error e => exact passes_call tk hW pinsZ σZ H1 s1 e s' I1 hq
  | ok fl =>
    cases fl with
    | ret u => exact I1.after hq
    | next => exact hq.elim
    | brk => exact hq.elim
    | cont => exact hq.elim
/-- the same, what it raises wished for at the slots of that def -/
theorem pe_act3 {CXg : CXT} {Eg : XK} {Ng : List Str} {qg : Str} {sg : Scope} {g f c' : Addr} {cdg : Value} {params : Arguments} {body : Expr} {scope : Scope} {k i : Nat} {a : Str} {pn : List (Addr × Obj)} {xe : Value → Shared → Prop} {W : WX} {tb : XK → TE} {p1 p2 : Pos}
    (I : Inv X pins σ H s) (L : LamS X.env.scope scope) (hbind : ∀ pm cv ctv, bindArgs (PySem.W.kla_fn "<lambda>" (X.env.qual ++ "<lambda>") params body scope (cloFrom X.env.cells scope.names []) pm cv ctv) ⟨[], []⟩ = pure [])
    (tk : Takes ((cxOf CXg X.prog X.w X.K X.mg X.base Ng qg sg g cdg X.A X.stack s H Eg).tr pn xe) W) (hr : Room (k + 1) (X.A.deeper (envOfC qg sg s.heap.objs.size g cdg)))
    (hbody : ∀ (A : Around) (outer : List Env) (s : Shared) (H : Hp) (E : XK), Room k (A.deeper (lamEnv X scope s.heap.objs.size f c')) → PE (lamCx X A outer s H E scope f c') body (tb E))
    (hN : Ng[i]? = some a) (hv : Vis sg a) (hd : (a == ("__debug__" : Str)) = false := by decide) (hcd : (a == ("__classdict__" : Str)) = false := by decide) :
    PE ((cxOf CXg X.prog X.w X.K X.mg X.base Ng qg sg g cdg X.A X.stack s H Eg).tr pn xe) (.Call (.Name a p1) [] [] p2)
      (fun σZ HZ Q => σZ[i]? = some (some (.ref f)) ∧ HZ f = some (LamO f (X.env.qual ++ "<lambda>") params body scope (cloFrom X.env.cells scope.names []) c') ∧ HZ c' = some (CodeO c' (X.env.qual ++ "<lambda>")) ∧ tb (WE W σZ) σ HZ Q) := by
  refine ⟨fun pinsZ sZ σZ HZ Q IZ h => ?_⟩
  obtain ⟨hs, hlo, hc, ht⟩ := h
  refine wpAny_Call_Name_kw (thn ((pe_var (pos := p1) (i := i) hN hv hd hcd).run pinsZ sZ σZ HZ (fun v H1 => v = .ref f ∧ H1 = HZ) IZ ⟨.ref f, hs, rfl, rfl⟩) fun u s1 ⟨v, H1, I1, r1, q1⟩ => ?_)
  obtain ⟨ev, eH⟩ := q1
  subst ev eH
  obtain rfl : u = Value.ref f := r1
  obtain ⟨pm, ctv, of1⟩ := lamO_at I1.hok hlo
  obtain ⟨oc, vs, t, hoc, hdc, hvc⟩ := codeO_at I1.hok hc
  refine PySem.W.callWith_F0 ⟨_, _, _, _, of1⟩ ?_
  have un : Un (frs X.stack) [] H H1 s.heap s1.heap := I1.base
  have rc : codeAny (model X.prog X.w) (X.A.deeper (envOfC qg sg s.heap.objs.size g cdg)) (.call (.ref f) ⟨[], []⟩) (CR (L2.CX X.prog X.w) (envOfC qg sg s.heap.objs.size g cdg :: X.stack) X.prog X.w H1 s1 Q (WE W σZ)) s1 := by
    refine PySem.W.kla_callFunE hr.depth of1 rfl L.co L.gen rfl ⟨c', oc, vs, t, rfl, hoc, hdc, hvc⟩ ?_
    rw [hbind]
    refine wpAny_pure (wpAny_newFunctionEnv (fun y hy => (L.own y hy).2) (fun y hy => absurd hy (by simp)) (fun h₁ hns hsb => ⟨I1.nolimit.fresh _ hsb, ?_⟩) L.kind)
    have kp : ∀ b o, s1.heap.get? b = some o → h₁.get? b = some o := fun b o e => hsb.extBut b o (Nat.ne_of_lt (Heap.lt_size e)) (Heap.get?_push_of_some _ e)
    have J : Inv (lamCx X (X.A.deeper (envOfC qg sg s.heap.objs.size g cdg)) (envOfC qg sg s.heap.objs.size g cdg :: X.stack) s1 H1 (WE W σZ) scope f c') [] σ H1 { s1 with heap := h₁, toks := s1.toks + ([] : List (Str × Value)).length } :=
      lam_start2 I L I1.env0 hr.hd un hns kp
    refine PySem.W.kla_codeExpr (wpAny_mono ((hbody _ _ s1 H1 (WE W σZ) (hr.deeper _)).run [] _ _ H1 Q J ht) (fun v s' hq => ?_) fun e s' hq => hq)
    obtain ⟨w', H', J', rv, q⟩ := hq
    exact ⟨w', H', J'.os, J'.bare, J'.base, J'.hok, rv, q⟩
  refine wpAny_call (codeAny_mono rc fun r s' hq => ?_)
  cases r with
  | error e => exact passAt tk σZ pinsZ H1 s1 e s' I1 hq
  | ok fl =>
    cases fl with
    | ret u => exact I1.after hq
    | next => exact hq.elim
    | brk => exact hq.elim
    | cont => exact hq.elim
end
end Fh
set_option Elab.async false
set_option linter.all false
set_option maxRecDepth 100000
set_option maxHeartbeats 4000000
/-! an own error over ValueError (at some depth) whose __init__ says super().__init__('..') and keeps its one argument as a field -/
namespace Fh
open PySem PySem.Spec PySem.W PySem.Calls PyProof.Rows PySem.HandSPX
/-- the text of such an __init__ -/
def supA (f : Str) (p1 p2 : Pos) : Arguments := { posonlyargs := [], args := [{ arg := "self", annotation := none, pos := p1 }, { arg := f, annotation := none, pos := p2 }], vararg := none, kwonlyargs := [], kw_defaults := [], kwarg := none, defaults := [] }
def supBody (f msg : Str) (q0 q1 q2 q3 q4 q5 r1 r2 r3 r4 : Pos) : List Stmt :=
  [.Expr (.Call (.Attribute (.Call (.Name "super" q0) [] [] q1) "__init__" q2) [.Constant (.str msg) 0 q3] [] q4) q5, .Assign [.Attribute (.Name "self" r1) f r2] (.Name f r3) r4]
def supS (f : Str) : Scope := { kind := .function, names := [(PySem.Str.ofString "self", .local), (f, .local), (PySem.Str.ofString "__class__", .free), (PySem.Str.ofString "super", .globalImplicit)], isGenerator := false, isCoroutine := false, more := [] }
/-- what the written part says of the class at C and its __init__ at fI -/
structure SupTxt (prog : Program) (K : Frag) (mg : Str → Option Value) (x f : Str) (C fI : Addr) : Prop where
  gC : mg x = some (.ref C)
  cls : ∃ nm q N bs bm sn sub ab col dd k0 k1 k2 k3 k5, K.lookup C = some (excClassObj nm q C N bs bm true sn sub ab col dd k0 k1 k2 k3 k5 "ValueError.__new__") ∧ refsVE bm = true ∧ alongIn K "__init__" bm = some (some (.builtin "ValueError.__init__"))
  sa : findIn K (.ref C) "__setattr__" = some (some (.builtin "object.__setattr__"))
  noN : findIn K (.ref C) f = some none
  iC : findIn K (.ref C) "__init__" = some (some (.ref fI))
  tI : typeIn K (.ref fI) = some (.type "function")
  kC : keepIn K (.ref C) = true
  exC : subIn K (.ref C) (.type "BaseException") = some true
  tyC : typeIn K (.ref C) = some (.type "type")
  veC : subIn K (.ref C) (.type "ValueError") = some true
  mC : mroIn K C (.ref C) = some true
  op : nsIn K cStatics "thirdparty.any" = some none
  gS : mg "super" = none
  fn : ∃ (oc : Value) (od : Option Addr) (dV kV doc pm : Value) (an : Option Addr) (cda cc : Addr) (ct : Value) (osl : Array (Option Value)) (qual msg : Str) (p1 p2 q0 q1 q2 q3 q4 q5 r1 r2 r3 r4 : Pos) (ccl cl : Value) (cdd cld : Option Addr) (vs : Array Value) (ccs csl : Array (Option Value)) (file : Str) (tf : Tok),
    K.lookup fI = some ⟨oc, od, .func (ksFn "__init__" qual (supA f p1 p2) (supBody f msg q0 q1 q2 q3 q4 q5 r1 r2 r3 r4) (supS f) dV kV doc pm an (.ref cda) ct cc), osl⟩ ∧ codeIn K (.ref cda) qual = true ∧
    K.lookup cda = some ⟨ccl, cdd, .fields vs, ccs⟩ ∧ vs[2]? = some (.str file tf) ∧ ((prog.main.file : Str) == file) = true ∧ K.lookup cc = some ⟨cl, cld, .cell (some (.ref C)), csl⟩ ∧
    (∀ a b : Value, bindArgs (ksFn "__init__" qual (supA f p1 p2) (supBody f msg q0 q1 q2 q3 q4 q5 r1 r2 r3 r4) (supS f) dV kV doc pm an (.ref cda) ct cc) ⟨[a, b], []⟩ = pure [(("self" : Str), a), (f, b)]) ∧
    (∃ pl : Env → Sem Bool, ∀ env : Env, eval (.Call (.Attribute (.Call (.Name "super" q0) [] [] q1) "__init__" q2) [.Constant (.str msg) 0 q3] [] q4) env = (do
      let ov ← attributeBase (.Call (.Name "super" q0) [] [] q1) "__init__" env (eval (.Call (.Name "super" q0) [] [] q1) env)
      standAt q2.atName
      let (f, first) ← holding [ov] (getMethod ov "__init__" (pl env))
      callWith q4 f first (backTo q4 (starEach [.Constant (.str msg) 0 q3] env)) [])) ∧
    (∀ env : Env, swapsWith (.Call (.Attribute (.Call (.Name "super" q0) [] [] q1) "__init__" q2) [.Constant (.str msg) 0 q3] [] q4) none q5.line env = pure false) ∧
    (∀ env : Env, swapsWith (.Name f r3) (some (.Attribute (.Name "self" r1) f r2)) r4.line env = pure false)
  top : (prog.main.scope.names.lookup ("super" : Str)).isSome = false
  nf : f ≠ "self" ∧ f ≠ "__class__" ∧ f ≠ "super" ∧ (f == ("__debug__" : Str)) = false
/-- what __init__ leaves of a fresh error at x -/
structure SupEnd (h h' : Heap) (x C dx : Addr) (f : Str) (v : Value) : Prop where
  keep : ∀ b o, b ≠ x → h.get? b = some o → h'.get? b = some o
  obj : ∃ t1 : Addr, h'.get? x = some { cls := .ref C, dict := some dx, data := .fields #[.ref t1, .none, .none, .none, .bool false, .none] }
  dbig : h.objs.size ≤ dx
  dne : dx ≠ x
  ns : h'.Ns1 dx (fun y => if y = f then some v else none)
section
variable {prog : Program} {w : World} {A : Around} {E : Value → Shared → Prop} {R : Result → Shared → Prop} {s : Shared} {K : Frag} {mg mb : Str → Option Value} {C fI : Addr} {x f : Str}
/-- the built-in __init__ bound to the object, called -/
theorem call_mw {u e t0 : Addr} {rest : List Value} {Q : Value → Shared → Prop} {nm q : Str} {N : Addr} {bs bm : List Value} {hdct : Bool} {sn : List Str} {sub : List Value} {ab : Bool} {col : Option Bool} {dd : Option Addr} {k0 k1 k2 k3 k5 : Option Value}
    (hC : s.heap.get? C = some (excClassObj nm q C N bs bm hdct sn sub ab col dd k0 k1 k2 k3 k5 "ValueError.__new__")) (he : s.heap.get? e = some (excO C t0)) (hu : s.heap.get? u = some (kxs_mw "ValueError.__init__" e)) (hz : rest.length ≤ sizeLine)
    (hq : ∀ h' t1, (∀ b o, b ≠ e → s.heap.get? b = some o → h'.get? b = some o) → h'.get? e = some (excO C t1) → Q .none { s with heap := h' }) :
    wpAny (model prog w) A (call (.ref u) rest) Q E s := by
  obtain ⟨hh, g, d, tk, os⟩ := s
  refine wpAny_call (codeAny_of_tree ?_)
  show wpAny _ A.in1 (callAny (.ref u) ⟨rest, []⟩) _ _ _
  simp only [callAny]
  refine wpAny_bind (wpAny_load hu ?_)
  refine KFB.if_so (by rfl) ?_
  refine wpAny_bind (check_bound_init F.excBase_ValueError.toExcCallFacts hC he rfl ?_)
  refine wpAny_bind (wpAny_pure (wpAny_pure ?_))
  refine ⟨plainId_quiet F.excBase_ValueError.init.plain _, codeAny_builtin F.excBase_ValueError.initEntry ?_⟩
  exact exc_init_tree (cls := .ref C) (t0 := t0) (dv := none) (c2 := .none) (c3 := .none) (b4 := .bool false) he hz fun h' k e' _ => hq h' _ k e'
theorem sup_init (T : SupTxt prog K mg x f C fI) {e t0 : Addr} {v : Value} (X : K.In s.heap) (hg : s.heap.Ns mainGlobals mg) (hb : s.heap.Ns builtinsNs mb) (hbs : mb "super" = some (.type "super")) (hlim : s.heap.NoLimit) (hx : s.heap.get? e = some (excO C t0)) (hnx : K.lookup e = none) (hroom : A.depth < recursionLimit)
    (hq : ∀ h' tk dx, SupEnd s.heap h' e C dx f v → R (.ok (.ret .none)) { s with heap := h', toks := tk }) :
    codeAny (model prog w) A (.call (.ref fI) ⟨[.ref e, v], []⟩) R s := by
  obtain ⟨oc, od, dV, kV, doc, pm, an, cda, cc, ct, osl, qual, msg, p1, p2, q0, q1, q2, q3, q4, q5, r1, r2, r3, r4, ccl, cl, cdd, cld, vs, ccs, csl, file, tf, ho, hcd, hcode, hvs, hfile, hcell, hbind, ⟨pl, hev⟩, hsw1, hsw2⟩ := T.fn
  obtain ⟨nm, q, N, bs, bm, sn, sub, ab, col, dd, k0, k1, k2, k3, k5, hC, hbm, hal⟩ := T.cls
  obtain ⟨nf1, nf2, nf3, nf4⟩ := T.nf
  have hcl : clsIn K C = some { name := nm, bases := bs, mro := .ref C :: bm, ns := N, qualname := q, hasDict := true, slotNames := sn, subclasses := sub, abstract := ab, collection := col, hasDel := false } := by unfold clsIn; rw [hC] <;> rfl
  have lkf : (supS f).names.lookup f = some .local := by
    have e1 : (f == (PySem.Str.ofString "self")) = false := by simpa using nf1
    simp [supS, List.lookup, e1]
  have lkc : (supS f).names.lookup ("__class__" : Str) = some .free := by
    have e1 : (("__class__" : Str) == (PySem.Str.ofString "self")) = false := by decide
    have e2 : (("__class__" : Str) == f) = false := by simpa using Ne.symm nf2
    have e3 : (("__class__" : Str) == (PySem.Str.ofString "__class__")) = true := by decide
    simp [supS, List.lookup, e1, e2, e3]
  have lks : (supS f).names.lookup ("super" : Str) = some .globalImplicit := by
    have e1 : (("super" : Str) == (PySem.Str.ofString "self")) = false := by decide
    have e2 : (("super" : Str) == f) = false := by simpa using Ne.symm nf3
    have e3 : (("super" : Str) == (PySem.Str.ofString "__class__")) = false := by decide
    have e4 : (("super" : Str) == (PySem.Str.ofString "super")) = true := by decide
    simp [supS, List.lookup, e1, e2, e3, e4]
  have lkself : (supS f).names.lookup ("self" : Str) = some .local := by
    have e1 : (("self" : Str) == (PySem.Str.ofString "self")) = true := by decide
    simp [supS, List.lookup, e1]
  have bself : ([(("self" : Str), Value.ref e), (f, v)].reverse.lookup ("self" : Str)) = some (.ref e) := by
    have e2 : (("self" : Str) == f) = false := by simpa using Ne.symm nf1
    simp [List.lookup, e2]
  have bf : ([(("self" : Str), Value.ref e), (f, v)].reverse.lookup f) = some v := by
    simp [List.lookup]
  have hsz : e < s.heap.objs.size := Heap.lt_size hx
  refine ks_codeAny_call_defAt (fd := ksFn "__init__" qual (supA f p1 p2) (supBody f msg q0 q1 q2 q3 q4 q5 r1 r2 r3 r4) (supS f) dV kV doc pm an (.ref cda) ct cc) (body := supBody f msg q0 q1 q2 q3 q4 q5 r1 r2 r3 r4) (binds := [("self", .ref e), (f, v)]) hroom (X _ _ ho) rfl hlim (codeRec_of X hcd) rfl ?_ ?_ ?_ (fun h₀ hns kp => ?_)
  · exact BindsTo.of_eq (hbind _ _)
  · intro y hy
    rcases List.mem_cons.mp hy with rfl | hy
    · decide
    rcases List.mem_cons.mp hy with rfl | hy
    · show NameKind.local ≠ .cell
      decide
    rcases List.mem_cons.mp hy with rfl | hy
    · decide
    rcases List.mem_cons.mp hy with rfl | hy
    · decide
    · cases hy
  · intro y hy
    rcases List.mem_cons.mp hy with rfl | hy
    · exact lkself
    rcases List.mem_cons.mp hy with rfl | hy
    · exact lkf
    · cases hy
  · generalize hL : s.heap.objs.size = L at *
    show _root_.PySem.wpAt _ (A.deeper (ksEnv qual (supS f) L fI (.ref cda) cc)) (.func (supBody f msg q0 q1 q2 q3 q4 q5 r1 r2 r3 r4) (ksEnv qual (supS f) L fI (.ref cda) cc)) (execs (supBody f msg q0 q1 q2 q3 q4 q5 r1 r2 r3 r4) (ksEnv qual (supS f) L fI (.ref cda) cc)) _ _ _
    have X₀ : K.In h₀ := X.keeps kp
    have hx₀ := kp _ _ hx
    have I₀ : InstAt h₀ e (excO C t0) C none := ⟨hx₀, rfl, rfl, trivial⟩
    have hCo := X₀ _ _ hC
    refine ks_wpAt_execs_cons (ks_wpAt_Expr_any (ks_wpAt_MethodCall (ks_wpAt_super_base (env := ksEnv qual (supS f) L fI (.ref cda) cc) (ar := { arg := "self", annotation := none, pos := p1 }) lks lkc (by decide) rfl (X₀ _ _ ho) rfl rfl rfl (X₀ _ _ hcode) rfl hvs hfile T.top ?_) (hev _)) rfl (hsw1 _))
    refine ks_loadName_global rfl lks (loadGlobal_builtin (env := ksEnv qual (supS f) L fI (.ref cda) cc) (hg.keeps kp) T.gS (hb.keeps kp) hbs ⟨rfl, ?_⟩)
    refine wpAny_loadName_free rfl lkc rfl ⟨_, X₀ _ _ hcell, rfl⟩ ?_
    refine wpAny_loadName_local rfl lkself hns bself ?_
    refine ks_wpAny_isType_cls hCo rfl ⟨rfl, ?_⟩
    refine ks_wpAny_call_super hCo rfl hx₀ rfl (fun c z => by cases z) (looks_mroIn X₀ T.mC) (fun h₁ hso k₁ => ?_)
    have X₁ : K.In h₁ := X₀.keeps k₁
    have hx₁ := k₁ _ _ hx₀
    have I₁ : InstAt h₁ e (excO C t0) C none := ⟨hx₁, rfl, rfl, trivial⟩
    refine kxs_getMethod kxs_ValueError hso (looks_opaque X₁ T.op) (l₀ := .ref C :: bm) (l := bm) (fun A Q E s k q => wpAny_bind ((looks_clsIn X₁ hcl) A _ E s k (wpAny_pure q))) (by simp [List.dropWhile_cons]) X₁ hal (I₁.type.andThen (looks_subIn X₁ T.veC)) (ks_ne X₁ I₁ hcl) (by decide) ?_
    have hmw : (h₁.push (kxs_mw "ValueError.__init__" e)).get? h₁.objs.size = some (kxs_mw "ValueError.__init__" e) := Heap.get?_push_size _ rfl
    refine kxs_callWith (i := "ValueError.__init__") (x := e) rfl (evalArgs_plain (spliced_cons (Constant_str (pos := q3) (k := 0) (spliced_nil ⟨hmw, ?_⟩))))
    have k₂ : ∀ b o, h₁.get? b = some o → (h₁.push (kxs_mw "ValueError.__init__" e)).get? b = some o := fun b o z => Heap.get?_push_of_some _ z
    refine call_mw (C := C) (e := e) (t0 := t0) (k₂ _ _ (k₁ _ _ hCo)) (k₂ _ _ hx₁) hmw (by show 1 ≤ sizeLine; decide) fun h₃ t1 k₃ hx₃ => ?_
    have up : ∀ b o, b ≠ e → s.heap.get? b = some o → h₃.get? b = some o := fun b o hb z => k₃ b o hb (k₂ _ _ (k₁ _ _ (kp b o z)))
    have hLe : L ≠ e := fun z => Nat.lt_irrefl _ (show (e : Nat) < e from Nat.lt_of_lt_of_eq hsz z)
    have upn : ∀ b o, b ≠ e → h₀.get? b = some o → h₃.get? b = some o := fun b o hb z => k₃ b o hb (k₂ _ _ (k₁ _ _ z))
    have hns₃ : h₃.Ns L (fun y => [(("self" : Str), Value.ref e), (f, v)].reverse.lookup y) := hns.at' fun o z => upn _ o hLe z
    have X₃ : K.In h₃ := fun b o z => upn b o (fun y => by rw [y, hnx] at z; cases z) (X₀ b o z)
    refine ks_wpAt_execs_cons (ks_wpAt_Assign_Attr (wpAt_of_wpAny ?_) (hsw2 _))
    refine wpAny_Name (wpAny_loadName_local rfl lkf hns₃ bf ?_) nf4
    refine wpAny_Name (wpAny_loadName_local rfl lkself hns₃ bself ?_)
    refine set_plain X₃ (ox := excO C t1) (od := none) ⟨hx₃, rfl, rfl, trivial⟩ T.sa ?_
    refine exc_osa X₃ hx₃ hcl (show refsVE (.ref C :: bm) = true from hbm) rfl T.noN (fun h₄ tk₄ dx k₄ dn dne hx₄ hn₄ => ?_)
    have sz3 : L ≤ h₃.objs.size := Nat.le_of_lt hns₃.lt
    refine wpAt_of_wpAny (wpAny_execs_nil (hq h₄ tk₄ dx ⟨fun b o hb z => k₄ b o hb (up b o hb z), ⟨t1, hx₄⟩, ?_, dne, hn₄⟩))
    rw [hL]
    exact Nat.le_trans sz3 dn
end
end Fh
set_option Elab.async false
set_option linter.all false
set_option maxRecDepth 100000
set_option maxHeartbeats 4000000
/-! words for the bodies: what is never reached, loops turned out, calls of defs that may raise, what a call leaves as it was -/
namespace Fh
open PySem PySem.Spec PyProof.Rows L2
/-! ### never reached -/
def tNo : TE := fun _ _ _ => False
def tNoT : TT := fun _ _ _ => False
def tNoA : TA := fun _ _ _ => False
def iNo : TI := fun _ _ _ => False
def sNo : TS := fun _ _ _ => False
section
variable {X : Cx} {e tg : Expr} {es : List Expr} {ss : List Stmt} {st : Stmt}
theorem pe_no : PE X e tNo := ⟨fun _ _ _ _ _ _ h => h.elim⟩
theorem pt_no : PT X e tNoT := ⟨fun _ _ _ _ _ _ h => h.elim⟩
theorem pw_no : PW X e tNoT := ⟨fun _ _ _ _ _ _ _ h => h.elim⟩
theorem pa_no : PA X es tNoA := ⟨fun _ _ _ _ _ _ _ h => h.elim⟩
theorem pi_no : PI X tg e iNo := ⟨fun _ _ _ _ _ _ h => h.elim⟩
theorem ps_no : PS X st sNo := ⟨fun _ _ _ _ _ _ h => h.elim⟩
theorem pss_no : PSs X ss sNo := ⟨fun _ _ _ _ _ _ h => h.elim⟩
end
/-! ### loops turned out -/
section
variable (J : It) (g : TG) (tb : TS) (D : Ends)
/-- just m more turns, the next one is turn i -/
def UnF : Nat → Nat → L2.St → Hp → Prop
  | 0, i, σ, H => J.stop i H ∧ D.nx σ H
  | m + 1, i, σ, H => J.go i H ∧ ∀ x H', J.yld i H x H' → g x σ H' fun σ2 H2 => tb { D with nx := UnF m (i + 1), ct := UnF m (i + 1), bk := D.nx } σ2 H2
theorem unF (m : Nat) {σ : L2.St} {H : Hp} (h : UnF J g tb D m 0 σ H) : ∃ W : Nat → Nat → L2.St → Hp → Prop, (∃ m, W 0 m σ H) ∧ ∀ i m σ H, W i m σ H →
    (J.stop i H ∧ D.nx σ H) ∨ (J.go i H ∧ ∃ N : L2.St → Hp → Prop, (∀ σ' H', N σ' H' → ∃ m', m' < m ∧ W (i + 1) m' σ' H') ∧ ∀ x H', J.yld i H x H' → g x σ H' fun σ2 H2 => tb { D with nx := N, ct := N, bk := D.nx } σ2 H2) := by
  refine ⟨fun i m => UnF J g tb D m i, ⟨m, h⟩, fun i m σ H w => ?_⟩
  cases m with
  | zero => exact .inl w
  | succ m => exact .inr ⟨w.1, UnF J g tb D m (i + 1), fun σ' H' n => ⟨m, Nat.lt_succ_self m, n⟩, w.2⟩
end
section
variable (c : TT) (tb : TS) (D : Ends)
/-- at most m more turns -/
def UnW (m : Nat) (σ : L2.St) (H : Hp) : Prop := c σ H fun b H1 => if b = true then ∃ N : L2.St → Hp → Prop, (∀ σ' H', N σ' H' → ∃ m', ∃ _ : m' < m, UnW m' σ' H') ∧ tb { D with nx := N, ct := N, bk := D.nx } σ H1 else D.nx σ H1
termination_by m
theorem UnW_eq {m : Nat} {σ : L2.St} {H : Hp} : UnW c tb D m σ H = c σ H fun b H1 => if b = true then ∃ N : L2.St → Hp → Prop, (∀ σ' H', N σ' H' → ∃ m', m' < m ∧ UnW c tb D m' σ' H') ∧ tb { D with nx := N, ct := N, bk := D.nx } σ H1 else D.nx σ H1 := by
  rw [UnW]
  simp only [exists_prop]
theorem unW (m : Nat) {σ : L2.St} {H : Hp} (h : UnW c tb D m σ H) : tWhile c tb D σ H := ⟨UnW c tb D, ⟨m, h⟩, fun m σ H w => (UnW_eq c tb D (m := m) (σ := σ) (H := H)).mp w⟩
variable {c tb D}
theorem unW_of {m : Nat} {σ : L2.St} {H : Hp} (h : c σ H fun b H1 => if b = true then ∃ N : L2.St → Hp → Prop, (∀ σ' H', N σ' H' → ∃ m', m' < m ∧ UnW c tb D m' σ' H') ∧ tb { D with nx := N, ct := N, bk := D.nx } σ H1 else D.nx σ H1) : UnW c tb D m σ H := by
  rw [UnW_eq]
  exact h
/-- one more turn, then again -/
theorem unW_turn {m : Nat} {σ : L2.St} {H : Hp} (h : tb { D with nx := UnW c tb D m, ct := UnW c tb D m, bk := D.nx } σ H) :
    ∃ N : L2.St → Hp → Prop, (∀ σ' H', N σ' H' → ∃ m', m' < m + 1 ∧ UnW c tb D m' σ' H') ∧ tb { D with nx := N, ct := N, bk := D.nx } σ H := ⟨UnW c tb D m, fun _ _ z => ⟨m, Nat.lt_succ_self m, z⟩, h⟩
/-- the last turn: it does not come back -/
theorem unW_last {m : Nat} {σ : L2.St} {H : Hp} (h : tb { D with nx := fun _ _ => False, ct := fun _ _ => False, bk := D.nx } σ H) :
    ∃ N : L2.St → Hp → Prop, (∀ σ' H', N σ' H' → ∃ m', m' < m ∧ UnW c tb D m' σ' H') ∧ tb { D with nx := N, ct := N, bk := D.nx } σ H := ⟨fun _ _ => False, fun _ _ z => z.elim, h⟩
end
section
variable (J : It) (g : TG) (tt : TT) (te : TE) (vs : List Nat) (σ : L2.St) (D : Addr) (Qd : Hp → Prop)
/-- a comprehension, just m more turns -/
def UnL : Nat → Nat → Hp → Prop
  | 0, i, H => J.stop i H ∧ Qd H
  | m + 1, i, H => J.go i H ∧ ∀ x H', J.yld i H x H' → g x (wipe σ vs) H' fun σ2 H2 => wipe σ2 vs = wipe σ vs ∧ tt σ2 H2 fun b H3 =>
    if b = true then te σ2 H3 fun y H4 => ∃ acc, H4 D = some (.lst acc) ∧ acc.length < sizeLine ∧ UnL m (i + 1) (upd H4 D (.lst (acc ++ [y]))) else UnL m (i + 1) H3
theorem unL (m : Nat) {H1 : Hp} (h : UnL J g tt te vs σ D Qd m 0 (upd H1 D (.lst []))) : ∃ W : Nat → Nat → Hp → Prop, (∃ m, W 0 m (upd H1 D (.lst []))) ∧ ∀ i m H, W i m H →
    (J.stop i H ∧ Qd H) ∨ (J.go i H ∧ ∃ Nx : Hp → Prop, (∀ H', Nx H' → ∃ m', m' < m ∧ W (i + 1) m' H') ∧ ∀ x H', J.yld i H x H' → g x (wipe σ vs) H' fun σ2 H2 => wipe σ2 vs = wipe σ vs ∧ tt σ2 H2 fun b H3 =>
      if b = true then te σ2 H3 fun y H4 => ∃ acc, H4 D = some (.lst acc) ∧ acc.length < sizeLine ∧ Nx (upd H4 D (.lst (acc ++ [y]))) else Nx H3) := by
  refine ⟨fun i m => UnL J g tt te vs σ D Qd m i, ⟨m, h⟩, fun i m H w => ?_⟩
  cases m with
  | zero => exact .inl w
  | succ m => exact .inr ⟨w.1, UnL J g tt te vs σ D Qd m (i + 1), fun H' n => ⟨m, Nat.lt_succ_self m, n⟩, w.2⟩
end
section
variable (J : It) (g : TG) (tt : TT) (te : TE) (vs : List Nat) (σg : L2.St) (C : V → Hp → Prop → Prop) (Qe : Hp → Prop)
/-- a generator expression, just m more turns (fewer if it is left) -/
def UnG : Nat → Nat → Hp → Prop
  | 0, i, H => J.stop i H ∧ Qe H
  | m + 1, i, H => J.go i H ∧ ∀ x H', J.yld i H x H' → g x σg H' fun σ2 H2 => wipe σ2 vs = σg ∧ tt σ2 H2 fun b H3 => if b = true then te σ2 H3 fun y H4 => C y H4 (UnG m (i + 1) H4) else UnG m (i + 1) H3
theorem unG (m : Nat) {H : Hp} (h : UnG J g tt te vs σg C Qe m 0 H) : ∃ W : Nat → Nat → Hp → Prop, (∃ m, W 0 m H) ∧ GTurn J g tt te vs σg C Qe W := by
  refine ⟨fun i m => UnG J g tt te vs σg C Qe m i, ⟨m, h⟩, fun i m H w => ?_⟩
  cases m with
  | zero => exact .inl w
  | succ m => exact .inr ⟨w.1, UnG J g tt te vs σg C Qe m (i + 1), fun H' n => ⟨m, Nat.lt_succ_self m, n⟩, w.2⟩
end
/-! ### what a call leaves as it was: all but the tables of code objects, and the table at P0 too -/
structure Kp (P0 : Addr) (H H' : Hp) : Prop where
  obj : ∀ b o, H b = some o → (∀ ps, o ≠ .tbl ps) → H' b = some o
  tab : ∀ b ps, H b = some (.tbl ps) → ∃ ps', H' b = some (.tbl ps') ∧ (TriplesOk ps.toList → TriplesOk ps'.toList)
  own : ∀ o, H P0 = some o → H' P0 = some o
section
variable {P0 : Addr} {H H1 H2 : Hp}
theorem Kp.refl (P0 : Addr) (H : Hp) : Kp P0 H H := ⟨fun _ _ e _ => e, fun _ ps e => ⟨ps, e, id⟩, fun _ e => e⟩
theorem Kp.trans (a : Kp P0 H H1) (b : Kp P0 H1 H2) : Kp P0 H H2 := ⟨fun c o e n => b.obj c o (a.obj c o e n) n, fun c ps e => by
  obtain ⟨p1, e1, t1⟩ := a.tab c ps e
  obtain ⟨p2, e2, t2⟩ := b.tab c p1 e1
  exact ⟨p2, e2, fun t => t2 (t1 t)⟩, fun o e => b.own o (a.own o e)⟩
theorem Kp.free (a : Kp P0 H H1) {p : Addr} (h : H1 p = none) : H p = none := by
  cases e : H p with
  | none => rfl
  | some o =>
    by_cases q : ∃ ps, o = .tbl ps
    · obtain ⟨ps, rfl⟩ := q
      obtain ⟨p1, e1, _⟩ := a.tab p ps e
      rw [h] at e1
      cases e1
    · have e1 := a.obj p o e fun ps z => q ⟨ps, z⟩
      rw [h] at e1
      cases e1
/-- a new object laid, or one laid before stored to -/
theorem Kp.set (a : Kp P0 H H1) {p : Addr} (h : H p = none) (o : HO) : Kp P0 H (upd H1 p o) :=
  ⟨fun b u e n => by rw [upd_ne (ne_of_none e h)]; exact a.obj b u e n, fun b ps e => by rw [upd_ne (ne_of_none e h)]; exact a.tab b ps e, fun u e => by rw [upd_ne (ne_of_none e h)]; exact a.own u e⟩
/-- what H had is as it was in H1 -/
theorem Kp.chg (a : Kp P0 H H1) (f : ∀ b, H b ≠ none → H2 b = H1 b) : Kp P0 H H2 :=
  ⟨fun b u e n => by rw [f b (by rw [e]; exact fun z => by cases z)]; exact a.obj b u e n, fun b ps e => by rw [f b (by rw [e]; exact fun z => by cases z)]; exact a.tab b ps e, fun u e => by rw [f P0 (by rw [e]; exact fun z => by cases z)]; exact a.own u e⟩
theorem Kp.new (a : Kp P0 H H1) {p : Addr} (h : H1 p = none) (o : HO) : Kp P0 H (upd H1 p o) := a.set (a.free h) o
theorem Kp.tabG (a : Kp P0 H H1) {P : Addr} (t : GxR.TabG H P) : GxR.TabG H1 P := by
  obtain ⟨ps, e, k⟩ := t
  obtain ⟨p1, e1, k1⟩ := a.tab P ps e
  exact ⟨p1, e1, k1 k⟩
/-- a generator expression made -/
theorem Kp.tabbed (a : Kp P0 H H1) {P : Addr} (t : GxR.TabG H1 P) (b : GxR.Tabbed P H1 H2) (n : P0 ≠ P) : Kp P0 H H2 := by
  obtain ⟨ps, e, k⟩ := t
  obtain ⟨⟨p2, e2, k2⟩, r⟩ := b
  refine a.trans ⟨fun c o z q => ?_, fun c qs z => ?_, fun o z => by rw [r P0 n]; exact z⟩
  · by_cases h : c = P
    · subst h
      rw [e] at z
      exact absurd (Option.some.inj z).symm (q ps)
    · rw [r c h]
      exact z
  · by_cases h : c = P
    · subst h
      exact ⟨p2, e2, fun _ => k2⟩
    · rw [r c h]
      exact ⟨qs, z, id⟩
/-- the same while the object at d is locked -/
theorem Kp.locked {P d : Addr} {u f : HO} (hd : H d = some u) (hu : ∀ ps, u ≠ .tbl ps) (t : GxR.TabG H P) (b : GxR.Tabbed P (upd H d f) H2) (n : P0 ≠ P) : Kp P0 H (upd H2 d u) ∧ H2 d = some f ∧ ∀ c o, c ≠ d → (∀ ps, o ≠ .tbl ps) → H c = some o → H2 c = some o := by
  obtain ⟨ps, e, k⟩ := t
  obtain ⟨⟨p2, e2, k2⟩, r⟩ := b
  have nd : d ≠ P := fun z => by
    rw [z, e] at hd
    exact hu ps (Option.some.inj hd).symm
  have hd2 : H2 d = some f := by
    rw [r d nd]
    exact upd_same
  refine ⟨⟨fun c o z q => ?_, fun c qs z => ?_, fun o z => ?_⟩, hd2, fun c o nc q z => ?_⟩
  · by_cases h : c = d
    · subst h
      rw [upd_same, ← hd, z]
    · rw [upd_ne h]
      have hP : c ≠ P := fun y => by
        rw [y, e] at z
        exact q ps (Option.some.inj z).symm
      rw [r c hP, upd_ne h]
      exact z
  · have h : c ≠ d := fun y => by
      rw [y, hd] at z
      exact hu qs (Option.some.inj z)
    rw [upd_ne h]
    by_cases hP : c = P
    · subst hP
      exact ⟨p2, e2, fun _ => k2⟩
    · rw [r c hP, upd_ne h]
      exact ⟨qs, z, id⟩
  · by_cases h : P0 = d
    · subst h
      rw [upd_same, ← hd, z]
    · rw [upd_ne h, r P0 n, upd_ne h]
      exact z
  · have hP : c ≠ P := fun y => by
      rw [y, e] at z
      exact q ps (Option.some.inj z).symm
    rw [r c hP, upd_ne nc]
    exact z
theorem tabG_upd {P d : Addr} {u f : HO} (hd : H d = some u) (hu : ∀ ps, u ≠ .tbl ps) (t : GxR.TabG H P) : GxR.TabG (upd H d f) P := by
  obtain ⟨ps, e, k⟩ := t
  refine ⟨ps, ?_, k⟩
  rw [upd_ne (fun z => by rw [z, hd] at e; exact hu ps (Option.some.inj e))]
  exact e
theorem Kp.sqL {K : PySem.W.Frag} (a : Kp P0 H H1) {p : Addr} {xs : List V} (h : SqL K H p xs) : SqL K H1 p xs := by
  rcases h with (h | ⟨o, h⟩) | h
  · exact .inl (.inl (a.obj _ _ h (fun _ z => by cases z)))
  · exact .inl (.inr ⟨o, a.obj _ _ h (fun _ z => by cases z)⟩)
  · exact .inr h
theorem Kp.lst (a : Kp P0 H H1) {p : Addr} {xs : List V} (h : H p = some (.lst xs)) : H1 p = some (.lst xs) := a.obj _ _ h fun _ z => by cases z
theorem Kp.tup (a : Kp P0 H H1) {p : Addr} {xs : List V} (h : H p = some (.tup xs)) : H1 p = some (.tup xs) := a.obj _ _ h fun _ z => by cases z
theorem Kp.ins (a : Kp P0 H H1) {p C dx : Addr} {fs : List (Str × V)} (h : H p = some (.ins C dx fs)) : H1 p = some (.ins C dx fs) := a.obj _ _ h fun _ z => by cases z
theorem Kp.dK (a : Kp P0 H H1) {p : Addr} {kvs : List (Key × V)} (h : H p = some (.dK kvs)) : H1 p = some (.dK kvs) := a.obj _ _ h fun _ z => by cases z
end
/-! ### two kinds of exceptions in the air: of any context (air), with none (airN) -/
structure Air where
  CX : Program → World → CXT
  T : Cx → WX → Prop
  cx : ∀ {P : Program} {w : World} {K : PySem.W.Frag} {mg : Str → Option Value} {base : Heap} {N : List Str} {qual : Str} {sc : Scope} {f : Addr} {cd : Value} {A : Around} {outer : List Env} {s : Shared} {H : Hp} {E : XK},
    T (cxOf (CX P w) P w K mg base N qual sc f cd A outer s H E) (fun cls d _ H => E cls d H)
  at_ : ∀ {X : Cx} {W : WX}, T X W → ∀ σ, PassesAt (CX X.prog X.w) X σ (WE W σ)
  raise : ∀ {X : Cx} {W : WX} {e : Expr} {t : L2.St → Hp → XK → Prop} {pos : Pos}, X.calm = true → T X W → L2N.PMk X e t → PS X (.Raise (some e) none pos) (fun _ σ H => t σ H fun cls d H' => W cls d σ H')
  zero : ∀ {X : Cx}, T X (fun _ _ _ _ => False)
theorem pmk_any {X : Cx} {e : Expr} {t : L2.St → Hp → XK → Prop} (h : L2N.PMk X e t) : L2.PMk X e t := fun pins s σ H Q I q => thn (h pins s σ H Q I q) fun u s' z => by
  obtain ⟨a, oe, vs, sI, H', cls, d, e1, e2, e3, e4, e5, hz, r⟩ := z
  exact ⟨a, oe, vs, sI, H', cls, d, e1, e2, e3, e4, e5, hz.zc, r⟩
def air : Air := ⟨L2.CX, L2.Takes, L2.takes_of rfl rfl rfl rfl, L2.passAt, fun hc tk h => L2.ps_raise hc tk (pmk_any h), L2.takes0⟩
theorem takes0N {X : Cx} : L2N.Takes X (fun _ _ _ _ => False) := fun _ _ x => by
  obtain ⟨_, _, _, _, _, _, _, _, _, _, _, _, _, _, _, _, z⟩ := x
  exact z.elim
def airN : Air := ⟨L2N.CX, L2N.Takes, L2N.takes_of rfl rfl rfl rfl, L2N.passAt, fun hc tk h => L2N.ps_raise hc tk h, takes0N⟩
theorem takesN {X : Cx} {W : WX} (h : L2N.Takes X W) : airN.T X W := h
theorem takesL {X : Cx} {W : WX} (h : L2.Takes X W) : air.T X W := h
section
variable {CX : CXT} {P : Program} {w : World} {K : PySem.W.Frag} {mg : Str → Option Value} {base : Heap} {N : List Str} {qual : Str} {sc : Scope} {f : Addr} {cd : Value} {A : Around} {outer : List Env} {s : Shared} {H : Hp} {E : XK}
theorem owB : PassesOwn (model (cxOf CX P w K mg base N qual sc f cd A outer s H E).prog (cxOf CX P w K mg base N qual sc f cd A outer s H E).w) (cxOf CX P w K mg base N qual sc f cd A outer s H E).A (cxOf CX P w K mg base N qual sc f cd A outer s H E).env (cxOf CX P w K mg base N qual sc f cd A outer s H E).xe := passes_of rfl
end
/-! ### tests whose answer is known -/
theorem itT {c : Bool} {A B : Prop} (hc : c = true) (h : A) : if c = true then A else B := by
  rw [if_pos hc]
  exact h
theorem itF {c : Bool} {A B : Prop} (hc : c = false) (h : B) : if c = true then A else B := by
  rw [hc]
  exact iteF h
end Fh
set_option Elab.async false
set_option linter.all false
set_option maxRecDepth 100000
set_option maxHeartbeats 4000000
/-! calls of defs, methods, classes that may raise; own errors made -/
namespace Fh
open PySem PySem.Spec PyProof.Rows L2
/-- what a def of the module promises -/
structure CalX (ar : Air) (P : Program) (w : World) (K : PySem.W.Frag) (mg : Str → Option Value) (base : Heap) (k : Nat) (x : Str) (sp : Sp) : Prop where
  ex : ∃ f fd ps, mg x = some (.ref f) ∧ PySem.W.keepIn K (.ref f) = true ∧ Binds K fd ps [] ∧ FnOk P w K mg base (ar.CX P w) k f fd ps sp
/-- .. a method of the class at C -/
structure MetX (ar : Air) (P : Program) (w : World) (K : PySem.W.Frag) (mg : Str → Option Value) (base : Heap) (k : Nat) (C : Addr) (m : Str) (sp : Sp) : Prop where
  ex : ∃ f fd ps, Cls K C ∧ Meth K C m f ∧ Binds K fd ps [] ∧ FnOk P w K mg base (ar.CX P w) k f fd ps sp
/-- .. the __init__ of the class x at C -/
structure MakX (ar : Air) (P : Program) (w : World) (K : PySem.W.Frag) (mg : Str → Option Value) (base : Heap) (k : Nat) (x : Str) (C : Addr) (sp : Sp) : Prop where
  ex : ∃ f fd ps, mg x = some (.ref C) ∧ Mk K C f ∧ Binds K fd ps [] ∧ FnOk P w K mg base (ar.CX P w) k f fd ps sp
/-- o.m(..); C(..): what is raised is wished for at the slots -/
def tMethS (C : Addr) (m : Str) (sp : Sp) (E : L2.St → XK) (ta : TE) (t : TA) : TE := fun σ H Q => ta σ H fun x H1 => ∃ a dx fs, x = .ref a ∧ H1 a = some (.ins C dx fs) ∧ fs.lookup m = none ∧
  t σ H1 fun vs H2 => sp (x :: vs) H2 Q (E σ)
def tMakeS (C : Addr) (sp : Sp) (E : L2.St → XK) (t : TA) : TE := fun σ H Q => t σ H fun vs H1 => ∀ x dx, H1 x = none → H1 dx = none → dx ≠ x →
  sp (.ref x :: vs) (upd (upd H1 dx (.own x)) x (.ins C dx [])) (fun v H2 => v = .non ∧ Q (.ref x) H2) (E σ)
section
variable {ar : Air} {X : Cx} {W : WX} {k j : Nat} {C : Addr} {sp : Sp} {x m : Str} {p pos apos : Pos} {e o : Expr} {es : List Expr} {ta : TE} {t : TA}
theorem pe_cx (c : CalX ar X.prog X.w X.K X.mg X.base k x sp) (hr : Room j X.A) (hk : k ≤ j) (tk : ar.T X W) (ha : PA X (e :: es) t) (hg : Gl X x := by rfl) (hdb : (x == ("__debug__" : Str)) = false := by decide)
    (he : starEach (e :: es) X.env = (false, eval e X.env) :: starEach es X.env := by rfl) (hpl : (backTo pos (starEach es X.env)).any (·.1) = false := by rfl) : PE X (.Call (.Name x p) (e :: es) [] pos) (tCallS sp (WE W) t) := by
  obtain ⟨f, fd, ps, hm, kp, b, F⟩ := c.ex
  exact pe_callS F (hr.mono hk) hg hm kp b (ar.at_ tk) ha hdb he hpl
/-- the method, once its receiver is there -/
theorem run_mx {pins : List (Addr × Obj)} {σ : L2.St} {H : Hp} {s : Shared} {Q : VK} {a dx : Addr} {fs : List (Str × V)} {fpos : Pos} {pl : Sem Bool} (c : MetX ar X.prog X.w X.K X.mg X.base k C m sp) (hr : Room j X.A) (hk : k ≤ j) (tk : ar.T X W) (I : Inv X pins σ H s) (ea : H a = some (.ins C dx fs)) (hl : fs.lookup m = none)
    (ha : PA X (e :: es) t) (h : t σ H fun vs H2 => sp (.ref a :: vs) H2 Q (WE W σ)) (he : starEach (e :: es) X.env = (false, eval e X.env) :: starEach es X.env) (hpl : (backTo fpos (starEach es X.env)).any (·.1) = false) :
    wpAny (model X.prog X.w) X.A (getMethod (.ref a) m pl) (fun q s1 => wpAny (model X.prog X.w) X.A (callWith fpos q.1 q.2 (backTo fpos (starEach (e :: es) X.env)) (backToKw fpos (keywordEach [] X.env))) (EP X pins σ Q) X.xe s1) X.xe s := by
  obtain ⟨f, fd, ps, cl, me, b, F⟩ := c.ex
  refine getmeth_ok I ea cl me hl ?_
  refine PySem.W.callWith_K (first := [.ref a]) (h₀ := X.base) I.ok.mod.kin me.kp ?_ he hpl
  refine thn (ha.run fpos pins s σ H _ I h) fun us s2 hh => ?_
  obtain ⟨vs, H2, I2, r, q2⟩ := hh
  refine ⟨I2.kIn, ?_⟩
  exact run_fnS (us := .ref a :: us) (vs := .ref a :: vs) F (hr.mono hk) b (ar.at_ tk σ) I2 (.cons rfl r) q2
theorem run_mx0 {pins : List (Addr × Obj)} {σ : L2.St} {H : Hp} {s : Shared} {Q : VK} {a dx : Addr} {fs : List (Str × V)} {fpos : Pos} {pl : Sem Bool} (c : MetX ar X.prog X.w X.K X.mg X.base k C m sp) (hr : Room j X.A) (hk : k ≤ j) (tk : ar.T X W) (I : Inv X pins σ H s) (ea : H a = some (.ins C dx fs)) (hl : fs.lookup m = none)
    (h : sp [.ref a] H Q (WE W σ)) : wpAny (model X.prog X.w) X.A (getMethod (.ref a) m pl) (fun q s1 => wpAny (model X.prog X.w) X.A (callWith fpos q.1 q.2 (backTo fpos (starEach [] X.env)) (backToKw fpos (keywordEach [] X.env))) (EP X pins σ Q) X.xe s1) X.xe s := by
  obtain ⟨f, fd, ps, cl, me, b, F⟩ := c.ex
  refine getmeth_ok I ea cl me hl ?_
  exact PySem.W.callWith_K0 (first := [.ref a]) I.kIn me.kp (run_fnS (us := [.ref a]) (vs := [.ref a]) F (hr.mono hk) b (ar.at_ tk σ) I (.cons rfl .nil) h)
/-- o.m(e, ..) -/
theorem pe_mx {pl : Sem Bool} (c : MetX ar X.prog X.w X.K X.mg X.base k C m sp) (hr : Room j X.A) (hk : k ≤ j) (tk : ar.T X W) (ho : PE X o ta) (ha : PA X (e :: es) t)
    (ht : eval (.Call (.Attribute o m apos) (e :: es) [] pos) X.env = (do
      let ov ← eval o X.env
      standAt apos.atName
      let (f, first) ← holding [ov] (getMethod ov m pl)
      callWith pos f first (backTo pos (starEach (e :: es) X.env)) (backToKw pos (keywordEach [] X.env))) := by rfl)
    (he : starEach (e :: es) X.env = (false, eval e X.env) :: starEach es X.env := by rfl) (hpl : (backTo pos (starEach es X.env)).any (·.1) = false := by rfl) : PE X (.Call (.Attribute o m apos) (e :: es) [] pos) (tMethS C m sp (WE W) ta t) := by
  constructor
  intro pins s σ H Q I h
  refine PySem.W.methodCall_KW (pl := pl) (thn (ho.run pins s σ H _ I h) fun u s1 hh => ?_) ht
  obtain ⟨y, H1, I1, ry, a, dx, fs, ey, ea, hl, q⟩ := hh
  subst ey
  obtain rfl : u = Value.ref a := ry
  exact run_mx c hr hk tk I1 ea hl ha q he hpl
/-- o.m() -/
theorem pe_mx0 {pl : Sem Bool} (c : MetX ar X.prog X.w X.K X.mg X.base k C m sp) (hr : Room j X.A) (hk : k ≤ j) (tk : ar.T X W) (ho : PE X o ta)
    (ht : eval (.Call (.Attribute o m apos) [] [] pos) X.env = (do
      let ov ← eval o X.env
      standAt apos.atName
      let (f, first) ← holding [ov] (getMethod ov m pl)
      callWith pos f first (backTo pos (starEach [] X.env)) (backToKw pos (keywordEach [] X.env))) := by rfl) : PE X (.Call (.Attribute o m apos) [] [] pos) (tMethS C m sp (WE W) ta tNil) := by
  constructor
  intro pins s σ H Q I h
  refine PySem.W.methodCall_KW (pl := pl) (thn (ho.run pins s σ H _ I h) fun u s1 hh => ?_) ht
  obtain ⟨y, H1, I1, ry, a, dx, fs, ey, ea, hl, q⟩ := hh
  subst ey
  obtain rfl : u = Value.ref a := ry
  exact run_mx0 c hr hk tk I1 ea hl q
/-- the class is called -/
theorem run_mkx {pins : List (Addr × Obj)} {σ : L2.St} {H : Hp} {s : Shared} {Q : VK} {us : List Value} {vs : List V} (c : MakX ar X.prog X.w X.K X.mg X.base k x C sp) (hr : Room j X.A) (hk : k + 1 ≤ j) (tk : ar.T X W) (I : Inv X pins σ H s) (r : Vals vs us)
    (h : ∀ x dx, H x = none → H dx = none → dx ≠ x → sp (.ref x :: vs) (upd (upd H dx (.own x)) x (.ins C dx [])) (fun v H2 => v = .non ∧ Q (.ref x) H2) (WE W σ)) : wpAny (model X.prog X.w) X.A (call (.ref C) us) (EP X pins σ Q) X.xe s := by
  obtain ⟨f, fd, ps, _, M, b, F⟩ := c.ex
  generalize hn : s.heap.objs.size = n
  have n1 : H (n + 1) = none := I.hok.fresh (by rw [hn]; exact Nat.le_succ _)
  have n0 : H n = none := I.hok.fresh (by rw [hn]; exact Nat.le_refl _)
  have hq := h (n + 1) n n1 n0 (Nat.ne_of_lt (Nat.lt_succ_self _))
  have I2 := Inv.made (C := C) I
  rw [hn] at I2
  have r2 : Vals (V.ref (n + 1) :: vs) (Value.ref (n + 1) :: us) := .cons rfl r
  have hl : (Value.ref (n + 1) :: us).length = ps.length := by
    rw [← r2.length]
    exact F.len _ _ _ _ hq
  have hb := b _ (Value.ref (n + 1) :: us) I2.kIn (by rw [List.append_nil]; exact hl)
  rw [List.append_nil] at hb
  have run := F.run _ X.stack _ _ ⟨Value.ref (n + 1) :: us, []⟩ (Value.ref (n + 1) :: us) _ _ (WE W σ) ((hr.mono hk).make C us []) (I2.env0.make C us []) hb r2 hq
  refine wpAny_call (make_map (f := f) I.kIn M.makes M.init (beq_iff_eq.mp M.fn) ?_)
  rw [hn]
  refine codeAny_mono run fun r s' hq' => ?_
  cases r with
  | error e => exact ar.at_ tk σ pins _ _ e s' I2 hq'
  | ok fl =>
    cases fl with
    | ret u =>
      obtain ⟨v, H', I3, rv, ev, q3⟩ := I2.after hq'
      subst ev
      exact ⟨rv, ⟨.ref (n + 1), H', I3, rfl, q3⟩⟩
    | next => exact False.elim hq'
    | brk => exact False.elim hq'
    | cont => exact False.elim hq'
/-- x(e, ..), x an own class -/
theorem pe_mkx (c : MakX ar X.prog X.w X.K X.mg X.base k x C sp) (hr : Room j X.A) (hk : k + 1 ≤ j) (tk : ar.T X W) (ha : PA X (e :: es) t) (hg : Gl X x := by rfl) (hdb : (x == ("__debug__" : Str)) = false := by decide)
    (he : starEach (e :: es) X.env = (false, eval e X.env) :: starEach es X.env := by rfl) (hpl : (backTo pos (starEach es X.env)).any (·.1) = false := by rfl) : PE X (.Call (.Name x p) (e :: es) [] pos) (tMakeS C sp (WE W) t) := by
  obtain ⟨f, fd, ps, hm, M, b, F⟩ := id c.ex
  constructor
  intro pins s σ H Q I h
  refine wpAny_Call_Name_kw (ld_glob I hg hm ?_ hdb)
  refine PySem.W.callWith_K (h₀ := X.base) I.ok.mod.kin M.kp ?_ he hpl
  refine thn (ha.run pos pins s σ H _ I h) fun us s1 hh => ?_
  obtain ⟨vs, H1, I1, r, q⟩ := hh
  exact ⟨I1.kIn, run_mkx c hr hk tk I1 r q⟩
theorem pe_mkx0 (c : MakX ar X.prog X.w X.K X.mg X.base k x C sp) (hr : Room j X.A) (hk : k + 1 ≤ j) (tk : ar.T X W) (hg : Gl X x := by rfl) (hdb : (x == ("__debug__" : Str)) = false := by decide) : PE X (.Call (.Name x p) [] [] pos) (tMakeS C sp (WE W) tNil) := by
  obtain ⟨f, fd, ps, hm, M, b, F⟩ := id c.ex
  constructor
  intro pins s σ H Q I h
  refine wpAny_Call_Name_kw (ld_glob I hg hm ?_ hdb)
  exact PySem.W.callWith_K0 I.kIn M.kp (run_mkx (us := []) c hr hk tk I .nil h)
end
/-! ### own errors -/
/-- an own error without __init__, as the head tells it -/
structure ExcT (K : PySem.W.Frag) (mg : Str → Option Value) (x : Str) (C : Addr) : Prop where
  g : mg x = some (.ref C)
  exc : PySem.W.excIn K C He.veBase "ValueError.__new__" = true
  kp : PySem.W.keepIn K (.ref C) = true
  sub : PySem.W.subIn K (.ref C) (.type "BaseException") = some true
  ty : PySem.W.typeIn K (.ref C) = some (.type "type")
section
variable {ar : Air} {X : Cx} {W : WX} {C fI : Addr} {x f : Str}
/-- raise x('..') -/
theorem ps_rx {m : Str} {j : Nat} {p p2 pos pos2 : Pos} (T : ExcT X.K X.mg x C) (tk : ar.T X W) (hc : X.calm = true := by rfl) (hg : Gl X x := by rfl) (hdb : (x == ("__debug__" : Str)) = false := by decide) :
    PS X (.Raise (some (.Call (.Name x p) [.Constant (.str m) j p2] [] pos)) none pos2) (fun _ σ H => W (.ref C) none σ H) :=
  ar.raise hc tk (L2N.pmk_own (bmB := He.veBase) PySem.F.excBase_ValueError T.exc T.g T.kp (raises_own T.sub T.ty) hg hdb)
end
/-! ### a made error with a field -/
structure SupMade (h h' : Heap) (e C d : Addr) (f : Str) (v : Value) : Prop where
  keep : ∀ b o, h.get? b = some o → h'.get? b = some o
  new : h.objs.size ≤ e
  obj : ∃ oe vs, h'.get? e = some oe ∧ oe.cls = .ref C ∧ oe.dict = some d ∧ oe.data = .fields vs ∧ vs[1]? = some .none ∧ vs[2]? = some .none
  dbig : h.objs.size ≤ d
  dne : d ≠ e
  ns : h'.Ns1 d (fun y => if y = f then some v else none)
open PySem.W PySem.Calls PySem.HandSPX in
theorem sup_made {prog : Program} {w : World} {A : Around} {R : Result → Shared → Prop} {s : Shared} {K : Frag} {mg mb : Str → Option Value} {C fI : Addr} {x f : Str} (T : SupTxt prog K mg x f C fI) {v : Value} (X : K.In s.heap) (hg : s.heap.Ns mainGlobals mg) (hb : s.heap.Ns builtinsNs mb) (hbs : mb "super" = some (.type "super")) (hlim : s.heap.NoLimit)
    (hroom : A.depth + 1 < recursionLimit) (hq : ∀ h' tk e d, SupMade s.heap h' e C d f v → R (.ok (.ret (.ref e))) { s with heap := h', toks := tk }) : codeAny (model prog w) A (.call (.ref C) ⟨[v], []⟩) R s := by
  obtain ⟨nm, q, N, bs, bm, sn, sub, ab, col, dd, k0, k1, k2, k3, k5, hC, hbm, hal⟩ := T.cls
  obtain ⟨hp, g, dr, tk, os⟩ := s
  generalize hn : hp.objs.size = n at *
  have k : ∀ b o, hp.get? b = some o → ((hp.push (kdv_tup [v])).push (excO C n)).get? b = some o := fun b o e => Heap.get?_push_of_some _ (Heap.get?_push_of_some _ e)
  have hget : ((hp.push (kdv_tup [v])).push (excO C n)).get? (n + 1) = some (excO C n) := by
    subst hn
    heap_get
  have hnx : K.lookup (n + 1) = none := by
    cases e : K.lookup (n + 1) with
    | none => rfl
    | some o =>
      have z : hp.get? (n + 1) = some o := X _ _ e
      have z2 : n + 1 < n := by
        have := Heap.lt_size z
        rw [hn] at this
        exact this
      exact absurd (Nat.lt_of_succ_lt z2) (Nat.lt_irrefl _)
  refine call_own F.excBase_ValueError (fun X => refsVE_contains X bm hbm) (X _ _ hC) (looks_findIn X T.iC) (fun self => bind_fn X self T.tI) (by show 1 ≤ sizeLine; rw [sizeLine_eq]; decide) ?_
  rw [hn]
  refine sup_init (s := ⟨(hp.push (kdv_tup [v])).push (excO C n), g, dr, tk, os⟩) T (X.keeps k) (hg.keeps k) (hb.keeps k) hbs (hlim.keeps k) hget hnx hroom fun h' tk' dx z => ?_
  obtain ⟨k', ⟨t1, hx⟩, dn, dne, hns⟩ := z
  have old : ∀ b o, hp.get? b = some o → h'.get? b = some o := fun b o e => k' b o (fun z => by
    have z3 := Heap.lt_size e
    rw [hn, z] at z3
    exact absurd (Nat.lt_of_succ_lt z3) (Nat.lt_irrefl _)) (k b o e)
  have z : n + 1 + 1 ≤ dx := by
    have q := dn
    rw [Heap.size_push, Heap.size_push, hn] at q
    exact q
  exact ⟨rfl, hq h' tk' (n + 1) dx ⟨old, by rw [hn]; exact Nat.le_succ _, ⟨_, _, hx, rfl, rfl, rfl, rfl, rfl⟩, by rw [hn]; omega, dne, hns⟩⟩
theorem rel_sup {v : V} {v' : Value} {f : Str} (r : RelV v v') (y : Str) : RelO (List.lookup y [(f, v)]) (if y = f then some v' else none) := by
  by_cases hw : y = f
  · subst hw
    have q : List.lookup y [(y, v)] = some v := by simp [List.lookup]
    rw [if_pos rfl, q]
    exact r
  · have qw : (y == f) = false := by simpa using hw
    have q2 : List.lookup y [(f, v)] = none := by simp [List.lookup, qw]
    rw [if_neg hw, q2]
    trivial
section
variable {ar : Air} {X : Cx} {W : WX} {C fI : Addr} {x f : Str}
/-- x(e), x an own error that keeps e as its field f -/
def tMkS (C : Addr) (f : Str) (ta : TA) : L2.St → Hp → XK → Prop := fun σ H Q => ta σ H fun vs H1 => ∃ v, vs = [v] ∧ ∀ d, H1 d = none → Q (.ref C) (some d) (upd H1 d (.xd [(f, v)]))
theorem pmk_sup {a : Expr} {ta : TA} {p pos : Pos} {k : Nat} (T : SupTxt X.prog X.K X.mg x f C fI) (hr : Room k X.A) (ha : PA X [a] ta) (hg : Gl X x := by rfl) (hdb : (x == ("__debug__" : Str)) = false := by decide)
    (he : starEach (a :: []) X.env = (false, eval a X.env) :: starEach [] X.env := by rfl) (hpl : (backTo pos (starEach [] X.env)).any (·.1) = false := by rfl) : L2N.PMk X (.Call (.Name x p) [a] [] pos) (tMkS C f ta) := by
  intro pins s σ H Q I h
  refine wpAny_Call_Name_kw (ld_glob I hg T.gC ?_ hdb)
  refine PySem.W.callWith_K (h₀ := X.base) I.ok.mod.kin T.kC ?_ he hpl
  refine thn (ha.run pos pins s σ H _ I h) fun us s1 hh => ?_
  obtain ⟨vs, H1, I1, r1, v, ev, q1⟩ := hh
  subst ev
  refine ⟨I1.kIn, ?_⟩
  obtain ⟨v', rfl, rv⟩ := vals1 r1
  show wpAny _ _ (call (.ref C) [v']) _ _ _
  have hlim := I1.nolimit
  obtain ⟨mb, hb, hbb⟩ := I1.ok.mod.blt
  have hbs : mb "super" = some (.type "super") := by
    rw [hbb _ (by decide)]
    decide +kernel
  have X1 := I1.kIn
  have hgl := I1.ok.mod.glob.keeps I1.bk
  have hbl := hb.keeps I1.bk
  obtain ⟨hp, g, dr, tk, os⟩ := s1
  refine wpAny_call (sup_made T X1 hgl hbl hbs hlim (by have := hr.dp; omega) fun h' tk' e d M => ?_)
  show L2N.MkP X pins σ Q (.ref e) ⟨h', g, dr, tk', os⟩
  obtain ⟨oe, fv, hoe, hc, hd, hdat, h1, h2⟩ := M.obj
  have hctx : PXN.CtxN oe := fun vs e => by
    rw [hdat] at e
    cases e
    exact h2
  have hns := M.ns
  obtain ⟨G', g1, g2⟩ := restrict h' fun b => decide (b ≠ e)
  have gk : ∀ b, b ≠ e → G'.get? b = h'.get? b := fun b hb => g1 b (decide_eq_true hb)
  have ge : G'.get? e = none := g2 e (by simp)
  have old : ∀ b o, hp.get? b = some o → G'.get? b = some o := fun b o q => by
    have ne : b ≠ e := Nat.ne_of_lt (Nat.lt_of_lt_of_le (Heap.lt_size q) M.new)
    rw [gk b ne]
    exact M.keep b o q
  have ob : ObjOk X.prog X.w (upd H1 d (.xd [(f, v)])) G' d (.xd [(f, v)]) := ⟨_, hns.at (fun o q => (gk d M.dne).trans q), fun y => rel_sup rv y⟩
  have J : Inv X pins σ (upd H1 d (.xd [(f, v)])) ⟨G', g, dr, tk', os⟩ := I1.laid (t' := tk') old M.dbig ob
  refine ⟨e, oe, fv, ⟨G', g, dr, tk', os⟩, _, .ref C, some d, rfl, J, fun b o q => ?_, ge, hoe, ⟨hc, hd, hctx⟩, hdat, h1, ?_, rfl, I1.bare, raises_own T.exC T.tyC, q1 d (I1.hok.fresh M.dbig)⟩
  · have ne : b ≠ e := fun z => by
      have q' : G'.get? b = some o := q
      rw [z, ge] at q'
      cases q'
    rw [← gk b ne]
    exact q
  · rw [upd_ne (Ne.symm M.dne)]
    exact I1.hok.fresh M.new
/-- raise x(e) -/
theorem ps_rsup {a : Expr} {ta : TA} {p pos pos2 : Pos} {k : Nat} (T : SupTxt X.prog X.K X.mg x f C fI) (hr : Room k X.A) (tk : ar.T X W) (ha : PA X [a] ta) (hc : X.calm = true := by rfl) (hg : Gl X x := by rfl) (hdb : (x == ("__debug__" : Str)) = false := by decide)
    (he : starEach (a :: []) X.env = (false, eval a X.env) :: starEach [] X.env := by rfl) (hpl : (backTo pos (starEach [] X.env)).any (·.1) = false := by rfl) :
    PS X (.Raise (some (.Call (.Name x p) [a] [] pos)) none pos2) (fun _ σ H => tMkS C f ta σ H fun cls d H' => W cls d σ H') := ar.raise hc tk (pmk_sup T hr ha hg hdb he hpl)
end
/-! ### defs of the text -/
section
variable {ar : Air} {P : Program} {w : World} {K : PySem.W.Frag} {mg : Str → Option Value} {base : Heap} {x qual : Str} {st : Stmt} {N ps : List Str} {k : Nat} {sp : Sp} {p : He.Defn}
/-- the body's walk, its code object known -/
abbrev BodyOk (ar : Air) (P : Program) (w : World) (K : PySem.W.Frag) (mg : Str → Option Value) (base : Heap) (N : List Str) (qual : Str) (st : Stmt) (p : He.Defn) (k : Nat) (sp : Sp) : Prop :=
  ∀ (A : Around) (outer : List Env) (s : Shared) (H : Hp) (vs : List V) (Q : VK) (E : XK), Room k (A.deeper (envOfC qual (defScope st) s.heap.objs.size (He.fAd K p) (.ref (He.codeOf K p)))) → sp vs H Q E →
    ∃ t, PSs (cxOf (ar.CX P w) P w K mg base N qual (defScope st) (He.fAd K p) (.ref (He.codeOf K p)) A outer s H E) (defBody st) t ∧ t { nx := fun _ H' => Q .non H', rt := Q } (start N vs) H
abbrev BindOk (x qual : Str) (st : Stmt) (ps : List Str) : Prop := ∀ (kV doc pm : Value) (an : Option Addr) (cdv ct : Value) (us : List Value), us.length = ps.length →
  bindArgs (PySem.W.fnOf x qual (defArgs st) (defBody st) (defScope st) .none kV doc pm an cdv ct) ⟨us, []⟩ = pure (ps.zip us)
theorem fn_body (hf : ∃ fd, FunD K x qual (defArgs st) (defBody st) (defScope st) [] [] (He.fAd K p) fd) (S : FnScope N ps (defScope st)) (hb : BindOk x qual st ps) (len : ∀ vs H Q E, sp vs H Q E → vs.length = ps.length)
    (body : BodyOk ar P w K mg base N qual st p k sp) : ∃ fd, PySem.W.keepIn K (.ref (He.fAd K p)) = true ∧ Binds K fd ps [] ∧ FnOk P w K mg base (ar.CX P w) (k + 1) (He.fAd K p) fd ps sp := by
  obtain ⟨fd, F⟩ := hf
  have G := He5.fun_of F
  refine ⟨fd, G.kp, G.binds hb, ?_⟩
  obtain ⟨oc, od, kV, doc, pm, an, cdv, ct, osl, rfl, lk, hcd⟩ := G.ex
  obtain ⟨c, rfl⟩ := He.codeIn_ref hcd
  have ec : He.codeOf K p = c := He.codeOf_eq lk rfl
  subst ec
  exact fn_of lk hcd S len body
theorem calX (hg : mg x = some (.ref (He.fAd K p))) (hf : ∃ fd, FunD K x qual (defArgs st) (defBody st) (defScope st) [] [] (He.fAd K p) fd) (S : FnScope N ps (defScope st)) (hb : BindOk x qual st ps) (len : ∀ vs H Q E, sp vs H Q E → vs.length = ps.length)
    (body : BodyOk ar P w K mg base N qual st p k sp) : CalX ar P w K mg base (k + 1) x sp := by
  obtain ⟨fd, kp, b, F⟩ := fn_body hf S hb len body
  exact ⟨_, fd, ps, hg, kp, b, F⟩
theorem metX {C : Addr} {m : Str} (hc : Cls K C) (hm : Meth K C m (He.fAd K p)) (hf : ∃ fd, FunD K x qual (defArgs st) (defBody st) (defScope st) [] [] (He.fAd K p) fd) (S : FnScope N ps (defScope st)) (hb : BindOk x qual st ps) (len : ∀ vs H Q E, sp vs H Q E → vs.length = ps.length)
    (body : BodyOk ar P w K mg base N qual st p k sp) : MetX ar P w K mg base (k + 1) C m sp := by
  obtain ⟨fd, kp, b, F⟩ := fn_body hf S hb len body
  exact ⟨_, fd, ps, hc, hm, b, F⟩
theorem makX {C : Addr} {y : Str} (hg : mg y = some (.ref C)) (hm : Mk K C (He.fAd K p)) (hf : ∃ fd, FunD K x qual (defArgs st) (defBody st) (defScope st) [] [] (He.fAd K p) fd) (S : FnScope N ps (defScope st)) (hb : BindOk x qual st ps) (len : ∀ vs H Q E, sp vs H Q E → vs.length = ps.length)
    (body : BodyOk ar P w K mg base N qual st p k sp) : MakX ar P w K mg base (k + 1) y C sp := by
  obtain ⟨fd, kp, b, F⟩ := fn_body hf S hb len body
  exact ⟨_, fd, ps, hg, hm, b, F⟩
end
end Fh
set_option Elab.async false
set_option linter.all false
set_option maxRecDepth 100000
set_option maxHeartbeats 4000000
/-! enumerate over a tuple; sorted of a tuple of texts; an empty dict that will hold tuples; dict comprehensions turned out -/
namespace Fh
open PySem PySem.Spec PyProof.Rows L2
/-! ### enumerate(tuple) -/
theorem meets_enum1 {v : Value} {o : Obj} {H : Heap → Prop} (B : Begins v o H) : Meets (Builtin.«enumerate.__new__» ⟨[.type "enumerate", v], []⟩) (fun _ R s => H s.heap ∧
    R (.ok (.ret (.ref (s.heap.push o).objs.size))) { s with heap := (s.heap.push o).push { cls := .type "enumerate", data := .fields #[.none, .bool false, .ref s.heap.objs.size, rawInt 0, .none, .none] } }) := by
  refine .of_wp fun prog w A R s h => ?_
  obtain ⟨hp, g, d, tk, os⟩ := s
  obtain ⟨h1, h⟩ := h
  have hsub := sub_enumerate
  have q1 : ∀ {A' : Around} {E : Value → Shared → Prop} {Q : Value → Shared → Prop}, Q (.ref hp.objs.size) ⟨hp.push o, g, d, tk, os⟩ → wpAny (model prog w) A' (pyIter v) Q E ⟨hp, g, d, tk, os⟩ := fun q => B.iter prog w _ _ ⟨hp, g, d, tk, os⟩ _ h1 q
  wp_walk using q1
  refine wpAny_stack_any (fun st => wpAny_pure ?_)
  split
  · rename_i c _ _ _ _ _
    cases (c == Value.type "enumerate") <;> (wp_walk using q1; exact ⟨_, rfl, h⟩)
  · wp_walk using q1
    exact ⟨_, rfl, h⟩
section
variable {prog : Program} {w : World} {A : Around} {E : Value → Shared → Prop} {s : Shared}
/-- enumerate(v): its two new objects -/
theorem enum1_begins {v : Value} {o : Obj} {H : Heap → Prop} {Q : Value → Shared → Prop} (B : Begins v o H) (h1 : H s.heap)
    (h : ∀ h', IsEnum h' (s.heap.objs.size + 1) s.heap.objs.size 0 .none → h'.get? s.heap.objs.size = some o → (∀ b o, s.heap.get? b = some o → h'.get? b = some o) → Q (.ref (s.heap.objs.size + 1)) { s with heap := h' }) :
    wpAny (model prog w) A (call (.type "enumerate") [v]) Q E s := by
  refine callType_new F.called_enumerate (by decide) (F.typeCall_enumerate_1 _) (F.newCall_enumerate_1 _) (fun obj => F.args_object_init_2 obj _) F.entry_enumerate_new (meets_enum1 B) ⟨h1, ?_⟩
  have hz : (s.heap.push o).objs.size = s.heap.objs.size + 1 := Heap.size_push ..
  show _ ∧ _
  rw [hz]
  have he : IsEnum ((s.heap.push o).push { cls := .type "enumerate", data := .fields #[.none, .bool false, .ref s.heap.objs.size, rawInt 0, .none, .none] }) (s.heap.objs.size + 1) s.heap.objs.size 0 .none := by
    have := Heap.get?_push_size (s.heap.push o) (o := { cls := .type "enumerate", data := .fields #[.none, .bool false, .ref s.heap.objs.size, rawInt 0, .none, .none] }) rfl
    rw [hz] at this
    exact this
  exact ⟨⟨_, he, rfl⟩, h _ he (Heap.get?_push_of_some _ (Heap.get?_push_size _ B.free)) fun b o x => Heap.get?_push_of_some _ (Heap.get?_push_of_some _ x)⟩
end
/-- the tuple at a, each item in a new pair -/
def IteT (K : PySem.W.Frag) (a : Addr) : It :=
  ⟨fun i H => ∃ (xs : List V) (x : V), SqT K H a xs ∧ xs[i]? = some x, fun i H v H' => ∃ T x, v = .ref T ∧ H T = none ∧ H' = upd H T (.tup [.int (i : Nat), x]) ∧ ∀ xs, SqT K H a xs → xs[i]? = some x, fun i H => ∃ xs : List V, SqT K H a xs ∧ xs.length ≤ i⟩
theorem tup_iter_ne {h : Heap} {a it : Addr} {items : Array Value} {i : Nat} (p : IsTup h a items) (q : h.IsTupleIter it a i) : a ≠ it := fun z => by
  obtain ⟨o, e, c, n, d⟩ := p
  obtain ⟨o', e', c', d'⟩ := q
  rw [← z, e] at e'
  cases e'
  rw [d] at d'
  cases d'
theorem turn_enumT {P : Program} {w : World} {K : PySem.W.Frag} {elts : List Expr} {kk : Nat} {tpos : Pos} (a e it : Addr) (ae : a ≠ e) :
    Turn P w K (.Tuple elts kk tpos) (IteT K a) [e, it] e (fun i h => (∃ old, IsEnum h e it ((i : Nat) : Int) old) ∧ h.IsTupleIter it a i ∧ e ≠ it) where
  mem := by simp
  obj := fun i h st b hb => by
    obtain ⟨⟨old, he⟩, ⟨o, ho, hc, hd⟩, _⟩ := st
    rcases (by simpa using hb : b = e ∨ b = it) with z | z
    · rw [z]
      exact ⟨_, he, fun v q => nomatch q⟩
    · rw [z]
      exact ⟨o, ho, fun v q => by rw [hd] at q; cases q⟩
  keep := fun i h h' st k => by
    obtain ⟨⟨old, he⟩, hi, hne⟩ := st
    exact ⟨⟨old, k e (by simp) _ he⟩, hi.at fun o q => k it (by simp) o q, hne⟩
  item := by
    intro X hP hw hK hc i pins s σ H E I hf st hg
    subst hP hw hK
    obtain ⟨⟨old, he⟩, hit, hne⟩ := st
    obtain ⟨xs, x, hq, hx⟩ := hg
    obtain ⟨its, rv, p, hz⟩ := I.tuple hq
    obtain ⟨u, hu, ru⟩ := rv.get hx
    have hel : e < s.heap.objs.size := Heap.lt_size he
    have hil : it < s.heap.objs.size := by
      obtain ⟨_, q, _⟩ := hit
      exact Heap.lt_size q
    have ne := tup_iter_ne p hit
    have hh : X.A.in1.handled = none := I.ok.hd hc
    have D := Draws.tuple (prog := X.prog) (w := X.w) hh it a ne its.toArray
    have hlt : i < its.toArray.size := by
      have := (List.getElem?_eq_some_iff.mp hu).1
      simpa using this
    refine wpAny_pyNext_enum_itemD D he ⟨hit, p⟩ hlt hne (by simp [hne, Ne.symm ae]) fun y h' tk hP ho hst hT hsz hk => ?_
    have ey : y = u := by
      have h1 : its.toArray[i]? = some y := hP
      rw [List.getElem?_toArray, hu] at h1
      exact (Option.some.inj h1).symm
    subst ey
    refine ⟨_, rfl, wpAny_letOwnedTupleGo_enum (s := { s with heap := h', toks := tk + 1 }) ho fun h'' he' sb => ?_⟩
    have hT2 : h''.get? s.heap.objs.size = some { cls := .type "tuple", data := .seq #[.int i tk, y] } := (sb.2 _ (Nat.ne_of_gt hel)).trans hT
    have new : ObjOk X.prog X.w (upd H s.heap.objs.size (.tup [.int (i : Nat), x])) h'' s.heap.objs.size (.tup [.int (i : Nat), x]) := ⟨by show 2 ≤ sizeLine; decide, [.int i tk, y], .cons ⟨_, rfl⟩ (.cons ru .nil), ⟨_, hT2, rfl, _, rfl⟩⟩
    have I1 : Inv X pins σ (upd H s.heap.objs.size (.tup [.int (i : Nat), x])) { s with heap := h'', toks := tk + 1 } :=
      I.turnedNew (ch := [e, it]) (fun b ob hb q => (sb.2 b (fun z => hb (by simp [z]))).trans (hk b ob (fun z => hb (by simp [z])) (fun z => hb (by simp [z])) q)) hf (Nat.le_refl _) new
    have ehit : h''.IsTupleIter it a (i + 1) := hst.1.at fun o q => (sb.2 it (Ne.symm hne)).trans q
    have eEn : IsEnum h'' e it ((i + 1 : Nat) : Int) y := by
      have e1 : ((i + 1 : Nat) : Int) = (i : Int) + 1 := by omega
      rw [e1]
      exact he'
    refine ⟨.ref s.heap.objs.size, _, I1, rfl, ⟨_, x, rfl, I.hok.fresh (Nat.le_refl _), rfl, fun ys hy => by rw [I.tuple_inj hy hq]; exact hx⟩, ⟨⟨y, eEn⟩, ehit, hne⟩, fun b hb => ?_⟩
    have hb' : b < s.heap.objs.size := by
      rcases (by simpa using hb : b = e ∨ b = it) with z | z
      · rw [z]
        exact hel
      · rw [z]
        exact hil
    rw [upd_ne (Nat.ne_of_lt hb')]
    exact (hf b hb).1
  done := by
    intro X hP hw hK hc i pins s σ H E I hf st hg
    subst hP hw hK
    obtain ⟨⟨old, he⟩, hit, hne⟩ := st
    obtain ⟨xs, hq, hx⟩ := hg
    obtain ⟨its, rv, p, hz⟩ := I.tuple hq
    obtain ⟨f0, f1, f2, f3, f4, f5⟩ := hf it (by simp)
    have hl := rv.length
    have ne := tup_iter_ne p hit
    have hh : X.A.in1.handled = none := I.ok.hd hc
    have hT : s.TypeIs (.ref e) "enumerate" := ⟨_, he, rfl⟩
    unfold pyNext
    refine wpAny_bind (wpAny_attempt (wpAny_callSpecial?_slot (name := Str.ofString "__next__") hT F.slot_enumerate_next (wpAny_call_entry F.slot_enumerate_next hT F.entry_enumerate_next ?_ (F.args_enumerate_next_1 _))))
    show wpAny _ _ (field (.ref e) 2 >>= _) _ _ _
    refine wpAny_bind (wpAny_field he rfl (x := .ref it) rfl ?_)
    refine wpAny_bind (wpAny_nextOf_tuple_end hh hit p (by simp; omega) fun h' x he' hx' => ?_)
    obtain ⟨o, ho, hc⟩ := hx'
    refine wpAny_bind (wpAny_isInstance (T := "StopIteration") (b := true) ⟨o, ho, hc⟩ isSubtype_stop ?_)
    exact wpAny_pure ⟨rfl, I.turned (t' := s.toks) (fun b o hb q => he' b o hb q) f0 f1 f3 f4 f5⟩
  self := fun A i s Q E st h => by
    obtain ⟨⟨_, he⟩, _⟩ := st
    exact wpAny_pyIter_enum he h
def iEnumT (K : PySem.W.Frag) (ta : TA) : TI := fun σ H R => ta σ H fun vs H1 => ∃ a xs, vs = [.ref a] ∧ SqT K H1 a xs ∧ R (IteT K a) H1
theorem pi_enumT {X : Cx} {e : Expr} {ta : TA} {p pos tpos : Pos} {elts : List Expr} {kk : Nat} (hg : Gl X "enumerate") (hm : X.mg "enumerate" = none) (ha : PA X [e] ta) (hs : starEach [e] X.env = [(false, eval e X.env)] := by rfl) :
    PI X (.Tuple elts kk tpos) (.Call (.Name "enumerate" p) [e] [] pos) (iEnumT X.K ta) := by
  constructor
  intro pins s σ H R I h
  refine Call_ (ld_blt I hg hm boot_enumerate (PyProof.Rows.callWith_type1 (thn (ha.run pos pins s σ H _ I h) fun us s1 hh => ?_) hs rfl))
  obtain ⟨vs, H1, I1, r1, a, xs, ex, hq, q⟩ := hh
  subst ex
  obtain ⟨u, rfl, ru⟩ := vals1 r1
  cases ru
  obtain ⟨its, rv, p', hz⟩ := I1.tuple hq
  have al : a < s1.heap.objs.size := by
    obtain ⟨o, e, _⟩ := p'
    exact Heap.lt_size e
  refine enum1_begins (begins_tuple a its.toArray) p' fun h' he hit hk => wpAny_pyIter_enum he ?_
  have I2 : Inv X pins σ H1 { s1 with heap := h' } := I1.kept (t' := s1.toks) hk
  refine ⟨s1.heap.objs.size + 1, [s1.heap.objs.size + 1, s1.heap.objs.size], _, _, H1, rfl, I2, turn_enumT a (s1.heap.objs.size + 1) s1.heap.objs.size (Nat.ne_of_lt (Nat.lt_succ_of_lt al)), ⟨⟨.none, he⟩, ⟨_, hit, rfl, rfl⟩, Nat.succ_ne_self _⟩, fun b hb => ?_, q⟩
  have hle : s1.heap.objs.size ≤ b := by
    rcases (by simpa using hb : b = s1.heap.objs.size + 1 ∨ b = s1.heap.objs.size) with z | z
    · rw [z]
      exact Nat.le_add_right _ _
    · rw [z]
      exact Nat.le_refl _
  exact I1.fpOk hle (I1.hok.fresh hle)
/-! ### sorted(a tuple of texts) -/
section
open Builtin
variable {prog : Program} {w : World} {A : Around} {E : Value → Shared → Prop} {s : Shared}
theorem collect_tup {l : Addr} {vs : List Value} {Q : List Value → Shared → Prop} (hl : IsTup s.heap l vs.toArray) (hsz : vs.length ≤ sizeLine)
    (h : Q vs { s with heap := (s.heap.push (seqObj "list" #[] 0)).update s.heap.objs.size (Obj.mapSeq (· ++ vs.toArray)) }) : wpAny (model prog w) A (collect (.ref l)) Q E s := by
  obtain ⟨o, ho, hc, n, hd⟩ := id hl
  generalize hN : s.heap.objs.size = N at *
  have hnew : (s.heap.push (seqObj "list" #[] 0)).get? N = some (seqObj "list" #[] 0) := by
    rw [← hN]
    exact Heap.get?_push_size _ rfl
  have ho' : (s.heap.push (seqObj "list" #[] 0)).get? l = some o := Heap.get?_push_of_some _ ho
  unfold collect
  refine wpAny_bind (wpAny_runValue (codeAny_builtin entry_proto_collect' ?_))
  show wpAny _ _ (do again (.builtin "list.__iadd__" ⟨[← newList [], .ref l], []⟩)) _ _ s
  refine wpAny_bind (wpAny_newList ?_)
  rw [hN]
  refine wpAny_pure ⟨Code.quiet_builtin _ (by decide +kernel), codeAny_builtin entry_list_iadd' ?_⟩
  show wpAny _ _ (Builtin.List.listExtendWith (.ref N) (.ref l) (.ref N)) _ _ { s with heap := s.heap.push (seqObj "list" #[] 0) }
  unfold Builtin.List.listExtendWith
  refine wpAny_bind (wpAny_typeOf (T := "tuple") ⟨o, ho', hc⟩ ?_)
  have tt : (Value.type "tuple" == Value.type "tuple") = true := rfl
  rw [if_pos (by rw [tt, Bool.or_true])]
  refine wpAny_bind (listItems_at ho' hd (wpAny_bind (listItems_at (xs := #[]) (n := 0) hnew rfl ?_)))
  rw [if_neg (by simp)]
  refine wpAny_bind (listUpdate_at (xs := #[]) (n := 0) hnew rfl ?_ (Nat.zero_le _) (by show (#[] ++ vs.toArray).size ≤ sizeLine + 1; simp only [Array.size_append, List.size_toArray, List.length_nil]; omega))
  refine wpAny_pure ?_
  show wpAny (model prog w) A (load N >>= fun o => match o.data with
    | .seq xs _ => pure xs.toList
    | _ => unsupported "internal:collect") Q E { s with heap := (s.heap.push (seqObj "list" #[] 0)).update N (Obj.mapSeq (· ++ vs.toArray)) }
  refine wpAny_bind (wpAny_load (get?_update_seq hnew _) ?_)
  show wpAny _ _ (pure ((#[] : Array Value) ++ vs.toArray).toList) Q E _
  have e : ((#[] : Array Value) ++ vs.toArray).toList = vs := by simp
  rw [e]
  exact wpAny_pure h
theorem sorted_tup {l : Addr} {vs : List Value} {ss : List Str} {Q : Value → Shared → Prop} (hl : IsTup s.heap l vs.toArray) (hS : StrsAre vs ss) (h64 : vs.length < 64)
    (h : ∀ (out : Array Value) (ss' : List Str), StrsAre out.toList ss' → ss'.Perm ss → sortedS ss' = true → Q (.ref (s.heap.objs.size + 1)) { s with heap := sortedAll s.heap vs out }) : wpAny (model prog w) A (call (.builtin "sorted") [.ref l]) Q E s := by
  refine Calls.call_function_entry kind_sorted plain_sorted entry_sorted (args_sorted1 _) ?_
  unfold Builtin.«sorted»
  refine wpAny_bind (m := checkCount "sorted" 1 1 _) (wpAny_pure ?_)
  refine wpAny_bind (collect_tup hl (small64 h64) (wpAny_bind (wpAny_newList ?_)))
  have hsz : ((s.heap.push (seqObj "list" #[] 0)).update s.heap.objs.size (Obj.mapSeq (· ++ vs.toArray))).objs.size = s.heap.objs.size + 1 := by rw [Heap.size_update, size_push']
  have hoL : (((s.heap.push (seqObj "list" #[] 0)).update s.heap.objs.size (Obj.mapSeq (· ++ vs.toArray))).push (seqObj "list" vs.toArray 0)).get? (s.heap.objs.size + 1) = some (seqObj "list" vs.toArray 0) := by
    rw [← hsz]
    exact Heap.get?_push_size _ rfl
  show wpAny _ _ _ _ _ { s with heap := ((s.heap.push (seqObj "list" #[] 0)).update s.heap.objs.size (Obj.mapSeq (· ++ vs.toArray))).push (seqObj "list" vs.toArray 0) }
  rw [hsz]
  refine wpAny_bind (wpAny_holding (wpAny_call_entry slot_list_sort ⟨_, hoL, rfl⟩ entry_list_sort (list_sort_treeK strKind_oneLt hoL hS.keysOf (fun v₁ v₂ rest e => keyKind_strs (by rw [← e]; exact hS)) h64 fun st' a1 a2 => ⟨_, rfl, ?_⟩) (args_list_sort _)))
  obtain ⟨ss', h1, h2, h3⟩ := sorted_out_str hS a1 a2
  exact wpAny_pure ⟨_, rfl, h _ ss' h1 h2 h3⟩
end
def rSortedTS (K : PySem.W.Frag) : List V → Hp → VK → Prop := fun vs H Q => ∃ (a : Addr) (xs : List Str), vs = [V.ref a] ∧ SqT K H a (xs.map V.str) ∧ xs.length < 64 ∧ ∀ (ys : List Str) (p : Addr), ys.Perm xs → sortedS ys = true → H p = none → Q (.ref p) (upd H p (.lst (ys.map V.str)))
theorem cr_sortedTS {X : Cx} : CallR X (.builtin "sorted") (rSortedTS X.K) := by
  intro pins s σ H vs us Q I r h
  obtain ⟨a, xs, rfl, hs, h64, q⟩ := h
  obtain ⟨its, rv, hl, _⟩ := I.tuple hs
  rw [Vals.ref1 r]
  have hlen0 := rv.length
  rw [List.length_map] at hlen0
  refine sorted_tup hl rv.strs (by rw [← hlen0]; exact h64) fun out ys h1 h2 h3 => ?_
  obtain ⟨ep, he'⟩ := PyProof.Rows.sortedAll_at s.heap its out
  have hlen : (ys.map V.str).length ≤ sizeLine := by
    rw [List.length_map, h2.length_eq]
    exact small64 h64
  have fresh : H (s.heap.objs.size + 1) = none := I.hok.fresh (Nat.le_succ _)
  refine ⟨.ref _, upd H (s.heap.objs.size + 1) (.lst (ys.map V.str)), I.laid (t' := s.toks) (fun _ _ => PyProof.Rows.sortedAll_old) (Nat.le_succ _) ⟨hlen, out.toList, ep, vals_of_strs h1, he'⟩, rfl, ?_⟩
  exact q ys _ h2 h3 fresh
/-! ### an empty dict that will hold tuples -/
theorem inv_reD {X : Cx} {pins : List (Addr × Obj)} {σ : L2.St} {H : Hp} {s : Shared} {a : Addr} (I : Inv X pins σ H s) (h : H a = some (.dK [])) : Inv X pins σ (upd H a (.dT [])) s := by
  obtain ⟨hz, hm, vs, kv, o, es, ep, ho, hx, hd, _, hpr, hnd⟩ := I.hok a _ h
  cases kv
  have hes : es.toList = [] := by
    cases hE : es.toList with
    | nil => rfl
    | cons e r =>
      rw [hE] at hpr
      cases hpr
  have new : ObjOk X.prog X.w (upd H a (.dT [])) s.heap a (.dT []) := ⟨hz, hm, [], .nil, o, es, ep, ho, hx, hd, hes, List.nodup_nil⟩
  exact I.write (x := a) (e := a) (t' := s.toks) (h' := s.heap) (by rw [h]; trivial) (.inl rfl) (fun b v _ q => q) ⟨o, ho⟩ new
def tReD (te : TE) : TE := fun σ H Q => te σ H fun v H1 => ∃ a, v = .ref a ∧ H1 a = some (.dK []) ∧ Q v (upd H1 a (.dT []))
theorem pe_reD {X : Cx} {e : Expr} {te : TE} (h : PE X e te) : PE X e (tReD te) := by
  constructor
  intro pins s σ H Q I hw
  refine thn (h.run pins s σ H _ I hw) fun u s1 hh => ?_
  obtain ⟨v, H1, I1, r1, a, ev, ha, q⟩ := hh
  exact ⟨v, _, inv_reD I1 ha, r1, q⟩
section
variable (J : It) (g : TG) (tt : TT) (tk tv : TE) (vs : List Nat) (σ : L2.St) (D : Addr) (Qd : Hp → Prop)
/-- a dict comprehension, just m more turns -/
def UnD : Nat → Nat → Hp → Prop
  | 0, i, H => J.stop i H ∧ Qd H
  | m + 1, i, H => J.go i H ∧ ∀ x H', J.yld i H x H' → g x (wipe σ vs) H' fun σ2 H2 => wipe σ2 vs = wipe σ vs ∧ tt σ2 H2 fun b H3 =>
    if b = true then tk σ2 H3 fun y H4 => tv σ2 H4 fun z H5 => ∃ kvs k, y = kV k ∧ H5 D = some (.dK kvs) ∧ kvs.length < sizeLine ∧ UnD m (i + 1) (upd H5 D (.dK (putK kvs k z))) else UnD m (i + 1) H3
theorem unD (m : Nat) {H1 : Hp} (h : UnD J g tt tk tv vs σ D Qd m 0 (upd H1 D (.dK []))) : ∃ W : Nat → Nat → Hp → Prop, (∃ m, W 0 m (upd H1 D (.dK []))) ∧ ∀ i m H, W i m H →
    (J.stop i H ∧ Qd H) ∨ (J.go i H ∧ ∃ Nx : Hp → Prop, (∀ H', Nx H' → ∃ m', m' < m ∧ W (i + 1) m' H') ∧ ∀ x H', J.yld i H x H' → g x (wipe σ vs) H' fun σ2 H2 => wipe σ2 vs = wipe σ vs ∧ tt σ2 H2 fun b H3 =>
      if b = true then tk σ2 H3 fun y H4 => tv σ2 H4 fun z H5 => ∃ kvs k, y = kV k ∧ H5 D = some (.dK kvs) ∧ kvs.length < sizeLine ∧ Nx (upd H5 D (.dK (putK kvs k z))) else Nx H3) := by
  refine ⟨fun i m => UnD J g tt tk tv vs σ D Qd m i, ⟨m, h⟩, fun i m H w => ?_⟩
  cases m with
  | zero => exact .inl w
  | succ m => exact .inr ⟨w.1, UnD J g tt tk tv vs σ D Qd m (i + 1), fun H' n => ⟨m, Nat.lt_succ_self m, n⟩, w.2⟩
end
end Fh
set_option Elab.async false
set_option linter.all false
set_option maxRecDepth 100000
set_option maxHeartbeats 4000000
namespace Fh
open PySem PySem.Spec PyProof.Rows L2
/-! x in, x not in a tuple of data of any depth -/
section
variable {X : Cx}
def rNotInT (K : PySem.W.Frag) : R2 := fun x y H Q => ∃ d ds, Dp K H x d ∧ Dp K H y (.tuple ds) ∧ SeqAt.shaped d = true ∧ SeqAt.shaped (.tuple ds) = true ∧ Q (.bl (!ds.any fun z => PyData.eqv z d)) H
def rInT (K : PySem.W.Frag) : R2 := fun x y H Q => ∃ d ds, Dp K H x d ∧ Dp K H y (.tuple ds) ∧ SeqAt.shaped d = true ∧ SeqAt.shaped (.tuple ds) = true ∧ Q (.bl (ds.any fun z => PyData.eqv z d)) H
theorem op_notInT (hu : X.A.units + 65 < cLine) : OpR X (compareOp .NotIn) (rNotInT X.K) := fun pins s σ H x y v u Q I rx ry h => by
  obtain ⟨d, ds, hd, he, sd, se, q⟩ := h
  obtain ⟨as, r1⟩ := Dp.reads I d x v hd rx
  obtain ⟨bs, r2⟩ := Dp.reads I (.tuple ds) y u he ry
  refine SeqAt.notIn_tuple_reads r2 r1 (SeqAt.canLay_of_shaped se) (SeqAt.canLay_of_shaped sd) (room_in_shaped sd hu) ?_
  exact ⟨.bl _, H, I, rfl, q⟩
theorem op_inT (hu : X.A.units + 65 < cLine) : OpR X (compareOp .In) (rInT X.K) := fun pins s σ H x y v u Q I rx ry h => by
  obtain ⟨d, ds, hd, he, sd, se, q⟩ := h
  obtain ⟨as, r1⟩ := Dp.reads I d x v hd rx
  obtain ⟨bs, r2⟩ := Dp.reads I (.tuple ds) y u he ry
  refine SeqAt.in_tuple_reads r2 r1 (SeqAt.canLay_of_shaped se) (SeqAt.canLay_of_shaped sd) (room_in_shaped sd hu) ?_
  exact ⟨.bl _, H, I, rfl, q⟩
end
/-! comprehensions of two clauses turned out -/
section
variable (J : It) (g : TG) (tt : TT) (te : TE) (vs : List Nat) (σ : L2.St) (D : Addr) (Qd : Hp → Prop)
theorem unLi (m : Nat) {H1 : Hp} (h : UnL J g tt te vs σ D Qd m 0 H1) : ∃ W : Nat → Nat → Hp → Prop, (∃ m, W 0 m H1) ∧ ∀ i m H, W i m H →
    (J.stop i H ∧ Qd H) ∨ (J.go i H ∧ ∃ Nx : Hp → Prop, (∀ H', Nx H' → ∃ m', m' < m ∧ W (i + 1) m' H') ∧ ∀ x H', J.yld i H x H' → g x (wipe σ vs) H' fun σ2 H2 => wipe σ2 vs = wipe σ vs ∧ tt σ2 H2 fun b H3 =>
      if b = true then te σ2 H3 fun y H4 => ∃ acc, H4 D = some (.lst acc) ∧ acc.length < sizeLine ∧ Nx (upd H4 D (.lst (acc ++ [y]))) else Nx H3) := by
  refine ⟨fun i m => UnL J g tt te vs σ D Qd m i, ⟨m, h⟩, fun i m H w => ?_⟩
  cases m with
  | zero => exact .inl w
  | succ m => exact .inr ⟨w.1, UnL J g tt te vs σ D Qd m (i + 1), fun H' n => ⟨m, Nat.lt_succ_self m, n⟩, w.2⟩
end
section
variable (J : It) (g : TG) (tt : TT) (wi1 : TI) (g1 : TG) (tt1 : TT) (te : TE) (vs vs1 : List Nat) (σ : L2.St) (D : Addr) (Qd : Hp → Prop)
def UnM : Nat → Nat → Hp → Prop
  | 0, i, H => J.stop i H ∧ Qd H
  | m + 1, i, H => J.go i H ∧ ∀ x H', J.yld i H x H' → g x (wipe σ vs) H' fun σ2 H2 => wipe σ2 vs = wipe σ vs ∧ tt σ2 H2 fun b H3 =>
    if b = true then wi1 σ2 H3 fun J1 H4 => ∃ W1 : Nat → Nat → Hp → Prop, (∃ m, W1 0 m H4) ∧ ∀ j k H, W1 j k H →
      (J1.stop j H ∧ UnM m (i + 1) H) ∨ (J1.go j H ∧ ∃ Nx1 : Hp → Prop, (∀ H', Nx1 H' → ∃ k', k' < k ∧ W1 (j + 1) k' H') ∧ ∀ x H', J1.yld j H x H' → g1 x (wipe σ2 vs1) H' fun σ3 H5 => wipe σ3 vs1 = wipe σ2 vs1 ∧ tt1 σ3 H5 fun b H6 =>
        if b = true then te σ3 H6 fun y H7 => ∃ acc, H7 D = some (.lst acc) ∧ acc.length < sizeLine ∧ Nx1 (upd H7 D (.lst (acc ++ [y]))) else Nx1 H6)
    else UnM m (i + 1) H3
theorem unM (m : Nat) {H1 : Hp} (h : UnM J g tt wi1 g1 tt1 te vs vs1 σ D Qd m 0 H1) : ∃ W : Nat → Nat → Hp → Prop, (∃ m, W 0 m H1) ∧ ∀ i m H, W i m H →
    (J.stop i H ∧ Qd H) ∨ (J.go i H ∧ ∃ Nx : Hp → Prop, (∀ H', Nx H' → ∃ m', m' < m ∧ W (i + 1) m' H') ∧ ∀ x H', J.yld i H x H' → g x (wipe σ vs) H' fun σ2 H2 => wipe σ2 vs = wipe σ vs ∧ tt σ2 H2 fun b H3 =>
    if b = true then wi1 σ2 H3 fun J1 H4 => ∃ W1 : Nat → Nat → Hp → Prop, (∃ m, W1 0 m H4) ∧ ∀ j k H, W1 j k H →
      (J1.stop j H ∧ Nx H) ∨ (J1.go j H ∧ ∃ Nx1 : Hp → Prop, (∀ H', Nx1 H' → ∃ k', k' < k ∧ W1 (j + 1) k' H') ∧ ∀ x H', J1.yld j H x H' → g1 x (wipe σ2 vs1) H' fun σ3 H5 => wipe σ3 vs1 = wipe σ2 vs1 ∧ tt1 σ3 H5 fun b H6 =>
        if b = true then te σ3 H6 fun y H7 => ∃ acc, H7 D = some (.lst acc) ∧ acc.length < sizeLine ∧ Nx1 (upd H7 D (.lst (acc ++ [y]))) else Nx1 H6)
    else Nx H3) := by
  refine ⟨fun i m => UnM J g tt wi1 g1 tt1 te vs vs1 σ D Qd m i, ⟨m, h⟩, fun i m H w => ?_⟩
  cases m with
  | zero => exact .inl w
  | succ m => exact .inr ⟨w.1, UnM J g tt wi1 g1 tt1 te vs vs1 σ D Qd m (i + 1), fun H' n => ⟨m, Nat.lt_succ_self m, n⟩, w.2⟩
end
/-! x *= e, whole numbers -/
def ipM : TIp := fun x y H Q => ∃ i j, x = .int i ∧ y = .int j ∧ IntMulOk i j ∧ Q (.int (i * j)) H
theorem ip_mul {X : Cx} : PIp X .Mult ipM := fun pins s σ H x y v u Q I r1 r2 h => by
  obtain ⟨i, j, rfl, rfl, hm, q⟩ := h
  obtain ⟨t, rfl⟩ := r1
  obtain ⟨t', rfl⟩ := r2
  exact PyProof.Rows.imul_int (show EP X pins σ Q _ _ from ⟨.int _, H, I.tok _, ⟨_, rfl⟩, q⟩) hm
/-! rules whose reading names the written part K, for the blocks of comprehensions -/
section
variable {X : Cx} {tg l : Expr} {tl : TE}
def rLenS (K : PySem.W.Frag) : List V → Hp → VK → Prop := fun xs H Q => ∃ p ys, xs = [.ref p] ∧ (SqL K H p ys ∨ SqT K H p ys) ∧ Q (.int ys.length) H
theorem lenK (K : PySem.W.Frag) (h : X.K = K := by rfl) : CallR X (.builtin "len") (rLenS K) := by
  subst h
  exact call_len_seq
theorem ixL (K : PySem.W.Frag) (h : X.K = K := by rfl) : IxR X (rIxL K) := by
  subst h
  exact ix_list
theorem ixT (K : PySem.W.Frag) (h : X.K = K := by rfl) : IxR X (rIxT K) := by
  subst h
  exact ix_tup
end
end Fh
set_option Elab.async false
set_option linter.all false
set_option maxRecDepth 100000
set_option maxHeartbeats 4000000
namespace Fh
open PySem PySem.Spec PyProof.Rows L2
/-! isinstance of the error that an except suite holds, of any own class, with a dict of its own or without -/
def rIsX (K : PySem.W.Frag) (a : Addr) (cls : Value) (d : Option Addr) : List V → Hp → VK → Prop := fun xs H Q => ∃ (D : Addr) (c : V) (cv : Value) (b : Bool), cls = .ref D ∧ ExcC K D ∧ xs = [.ref a, c] ∧ (∀ u, RelV c u → u = cv) ∧ PySem.W.kitOne K (.ref D) cv = some b ∧
  (∀ dd, d = some dd → ∃ fs, H dd = some (.xd fs)) ∧ Q (.bl b) H
theorem call_isX {X : Cx} {a : Addr} {oe : Obj} {cls : Value} {d : Option Addr} {pn : List (Addr × Obj)} (hz : Zc cls d oe) (hf : ∃ vs, oe.data = .fields vs) : CallR (X.suite a ((a, oe) :: pn)) (.builtin "isinstance") (rIsX X.K a cls d) := by
  intro pins s σ H xs us Q I r h
  obtain ⟨D, c, cv, b, rfl, C, rfl, hcv, e, hd, q⟩ := h
  cases r with
  | cons rx rr =>
    obtain ⟨u, rfl, rt⟩ := vals1 rr
    cases rx
    have ec := hcv _ rt
    subst ec
    obtain ⟨hget, _⟩ := I.pin (a, oe) (List.mem_append.mpr (.inl List.mem_cons_self))
    obtain ⟨vs, hv⟩ := hf
    have no : PySem.W.notCls oe = true := by
      unfold PySem.W.notCls
      rw [hv]
    have J : ∃ od, PySem.W.InstAt s.heap a oe D od := by
      cases d with
      | none => exact ⟨none, hget, hz.1, no, by rw [hz.2]; trivial⟩
      | some dd =>
        obtain ⟨fs, hdd⟩ := hd dd rfl
        obtain ⟨mA, hns, _⟩ := I.hok dd _ hdd
        obtain ⟨od, ho, _⟩ := lookIn_ns hns
        exact ⟨some od, hget, hz.1, no, by rw [hz.2]; exact ho⟩
    obtain ⟨od, J⟩ := J
    obtain ⟨cd, hc, _⟩ := PySem.W.any_some C.hd
    have hcl : (PySem.W.clsIn X.K D).isSome = true := by
      rw [hc]
      rfl
    exact PySem.W.kia_one (PySem.W.kitx_exc hcl C.hg C.hk C.hs C.ha C.hn C.ht C.hm) I.kIn J e (fun z => nomatch z) fun tk => ⟨.bl b, H, I.kept (t' := tk) fun _ _ z => z, rfl, q⟩
end Fh
set_option Elab.async false
set_option linter.all false
set_option maxRecDepth 100000
set_option maxHeartbeats 4000000
/-! the head's hook with the statics beside, and with the __init__s of own errors that say super() -/
namespace Fh
open PySem PySem.Spec PyProof.Rows L2 He
/-- such an __init__: where it stands, its text -/
structure DefC where
  at_ : Str × Option Str
  qual : Str
  params : Arguments
  body : List Stmt
  scope : Scope
abbrev FnC : Type := Option (Str × Str × Arguments × FuncBody × Scope × Addr × List Str × Addr)
def fnC (K : PySem.W.Frag) (p : Str × Option Str) : FnC := match K.lookup (fAd K p) with
  | some ⟨_, _, .func fd, _⟩ => some (fd.name, fd.qualname, fd.params, fd.body, fd.scope, fd.globals, fd.closure.map (·.1), fd.builtins)
  | _ => none
def DefC.val (d : DefC) : FnC := some ("__init__", d.qual, d.params, .stmts d.body, d.scope, mainGlobals, ["__class__"], builtinsNs)
def codeB (K : PySem.W.Frag) (file : Str) (C fI : Addr) (qual : Str) : Bool := match K.lookup fI with
  | some ⟨_, _, .func fd, _⟩ => (match fd.code, fd.closure, fd.defaults with
    | .ref cda, [(_, cc)], .none => PySem.W.codeIn K (.ref cda) qual && ((match K.lookup cda with
        | some ⟨_, _, .fields vs, _⟩ => (match vs[2]? with
          | some (Value.str fl _) => file == fl
          | _ => false)
        | _ => false) && (match K.lookup cc with
        | some ⟨_, _, .cell (some (.ref C')), _⟩ => decide (C' = C)
        | _ => false))
    | _, _, _ => false)
  | _ => false
theorem codeB_ok {K : PySem.W.Frag} {file : Str} {C : Addr} {d : DefC} (e : fnC K d.at_ = d.val) (h : codeB K file C (fAd K d.at_) d.qual = true) : ∃ (oc : Value) (od : Option Addr) (kV doc pm : Value) (an : Option Addr) (cda cc : Addr) (ct : Value) (osl : Array (Option Value)) (ccl cl : Value) (cdd cld : Option Addr) (vs : Array Value) (ccs csl : Array (Option Value)) (fl : Str) (tf : Tok),
    K.lookup (fAd K d.at_) = some ⟨oc, od, .func (PySem.W.ksFn "__init__" d.qual d.params d.body d.scope .none kV doc pm an (.ref cda) ct cc), osl⟩ ∧ PySem.W.codeIn K (.ref cda) d.qual = true ∧
    K.lookup cda = some ⟨ccl, cdd, .fields vs, ccs⟩ ∧ vs[2]? = some (.str fl tf) ∧ (file == fl) = true ∧ K.lookup cc = some ⟨cl, cld, .cell (some (.ref C)), csl⟩ := by
  unfold codeB at h
  unfold fnC at e
  cases q : K.lookup (fAd K d.at_) with
  | none =>
    rw [q] at h
    cases h
  | some o =>
    obtain ⟨oc, od, dt, osl⟩ := o
    rw [q] at h e
    cases dt with
    | func fd =>
      obtain ⟨n1, n2, n3, n4, n5, n6, n7, n8, n9, n10, n11, n12, n13, n14, n15⟩ := fd
      have e2 : (some (n1, n2, n3, n4, n5, n6, n7.map (·.1), n15) : FnC) = (some (("__init__" : Str), d.qual, d.params, FuncBody.stmts d.body, d.scope, mainGlobals, [("__class__" : Str)], builtinsNs) : FnC) := e
      simp only [Option.some.injEq, Prod.mk.injEq] at e2
      obtain ⟨h1, h2, h3, h4, h5, h6, h7, h8⟩ := e2
      subst h1 h2 h3 h4 h5 h6 h8
      cases n13 with
      | ref cda =>
        match n7, h7, n8, h with
        | [(y, cc)], h7, .none, h =>
          have hy : y = ("__class__" : Str) := by
            have z : [y] = [("__class__" : Str)] := h7
            injection z
          subst hy
          obtain ⟨k1, k2⟩ := ba (show (PySem.W.codeIn K (.ref cda) d.qual && ((match K.lookup cda with
            | some ⟨_, _, .fields vs, _⟩ => (match vs[2]? with
              | some (Value.str fl _) => file == fl
              | _ => false)
            | _ => false) && (match K.lookup cc with
            | some ⟨_, _, .cell (some (.ref C')), _⟩ => decide (C' = C)
            | _ => false))) = true from h)
          obtain ⟨k3, k4⟩ := ba k2
          cases q2 : K.lookup cda with
          | none =>
            rw [q2] at k3
            cases k3
          | some o2 =>
            obtain ⟨oc2, od2, dt2, osl2⟩ := o2
            rw [q2] at k3
            cases dt2 with
            | fields vs =>
              have k5 : (match vs[2]? with
                | some (Value.str fl _) => file == fl
                | _ => false) = true := k3
              cases q3 : vs[2]? with
              | none =>
                rw [q3] at k5
                cases k5
              | some v =>
                rw [q3] at k5
                cases v with
                | str fl tk =>
                  cases q4 : K.lookup cc with
                  | none =>
                    rw [q4] at k4
                    cases k4
                  | some o4 =>
                    obtain ⟨oc4, od4, dt4, osl4⟩ := o4
                    rw [q4] at k4
                    cases dt4 with
                    | cell cv =>
                      cases cv with
                      | none => cases k4
                      | some cv =>
                        cases cv with
                        | ref C' =>
                          have e4 : C' = C := of_decide_eq_true k4
                          subst e4
                          exact ⟨oc, od, n9, n10, n11, n12, cda, cc, n14, osl, oc2, oc4, od2, od4, vs, osl2, osl4, fl, tk, rfl, k1, q2, q3, k5, q4⟩
                        | _ => cases k4
                    | _ => cases k4
                | _ => cases k5
            | _ => cases k3
        | [], h7, _, h => cases h7
        | _ :: _ :: _, h7, _, h => exact absurd (congrArg List.length h7) (by simp)
      | _ => cases h
    | _ => cases h
/-- the class of such an error -/
def supClsB (K : PySem.W.Frag) (C : Addr) : Bool := match K.lookup C with
  | some ⟨.type t, _, .cls cd, sl⟩ => (match cd.mro, sl.toList with
    | .ref C' :: bm, [_, _, _, _, some (.builtin n), _] => decide (t = "type") && (decide (C' = C) && (decide (n = "ValueError.__new__") && (!cd.hasDel && (cd.hasDict && (HandSPX.refsVE bm && eqO (PySem.W.alongIn K "__init__" bm) (some (some (.builtin "ValueError.__init__"))))))))
    | _, _ => false)
  | _ => false
theorem supCls_ok {K : PySem.W.Frag} {C : Addr} (h : supClsB K C = true) : ∃ nm q N bs bm sn sub ab col dd k0 k1 k2 k3 k5, K.lookup C = some (excClassObj nm q C N bs bm true sn sub ab col dd k0 k1 k2 k3 k5 "ValueError.__new__") ∧ HandSPX.refsVE bm = true ∧ PySem.W.alongIn K "__init__" bm = some (some (.builtin "ValueError.__init__")) := by
  unfold supClsB at h
  split at h
  · rename_i t dd cd sl ho
    split at h
    · rename_i C' bm k0 k1 k2 k3 n k5 hm hs
      obtain ⟨h1, h⟩ := ba h
      obtain ⟨h2, h⟩ := ba h
      obtain ⟨h3, h⟩ := ba h
      obtain ⟨h4, h⟩ := ba h
      obtain ⟨h5, h⟩ := ba h
      obtain ⟨h6, h7⟩ := ba h
      obtain ⟨nm, bs, mro, ns, qn, hd, sn, sub, ab, col, del⟩ := cd
      have e1 := of_decide_eq_true h1
      have e2 := of_decide_eq_true h2
      have e3 := of_decide_eq_true h3
      dsimp only at hm h4 h5
      subst hm e1 e2 e3 h5
      have hdel : del = false := by
        cases del with
        | false => rfl
        | true => cases h4
      subst hdel
      have hsl : sl = #[k0, k1, k2, k3, some (.builtin "ValueError.__new__"), k5] := by
        obtain ⟨l⟩ := sl
        dsimp only at hs
        rw [hs]
      subst hsl
      exact ⟨nm, qn, ns, bs, bm, sn, sub, ab, col, dd, k0, k1, k2, k3, k5, ho, h6, eqO_ok h7⟩
    · cases h
  · cases h
/-- all that is asked of the class and its __init__ -/
def supB (K : PySem.W.Frag) (file x f : Str) : Bool := supClsB K (ga K x) && (eqO (PySem.W.nsIn K mainGlobals x) (some (some (.ref (ga K x)))) && (eqO (PySem.W.findIn K (.ref (ga K x)) "__setattr__") (some (some (.builtin "object.__setattr__"))) && (eqO (PySem.W.findIn K (.ref (ga K x)) f) (some none) &&
  (eqO (PySem.W.findIn K (.ref (ga K x)) "__init__") (some (some (.ref (ma K (ga K x) "__init__")))) && (decide (PySem.W.typeIn K (.ref (ma K (ga K x) "__init__")) = some (.type "function")) && (PySem.W.keepIn K (.ref (ga K x)) && (decide (PySem.W.subIn K (.ref (ga K x)) (.type "BaseException") = some true) &&
  (decide (PySem.W.typeIn K (.ref (ga K x)) = some (.type "type")) && (decide (PySem.W.subIn K (.ref (ga K x)) (.type "ValueError") = some true) && (decide (PySem.W.mroIn K (ga K x) (.ref (ga K x)) = some true) && (eqO (PySem.W.nsIn K cStatics "thirdparty.any") (some none) &&
  codeB K file (ga K x) (ma K (ga K x) "__init__") (x ++ ".__init__"))))))))))))
/-- facts of a caught error for isinstance -/
def isCB (K : PySem.W.Frag) (D : Addr) : Bool := eqO (PySem.W.findIn K (.ref D) "__getattribute__") (some (some (.builtin "BaseException.__getattribute__"))) && (eqO (PySem.W.findIn K (.ref D) "__getattr__") (some none) && (decide (PySem.W.subIn K (.ref D) (.type "BaseException") = some true) && (PySem.W.hasDictIn K D &&
  (eqO (PySem.W.findIn K (.ref D) "__class__") (some (some (.builtin "object.__class__"))) && (eqO (PySem.W.specialIn K (.builtin "object.__class__") "__get__") (some (some (.builtin "getset_descriptor.__get__"))) && (decide (PySem.W.takesIn K (.builtin "object.__class__") = some true) && decide (PySem.W.mroIn K D (.type "object") = some true)))))))
theorem isCB_ok {K : PySem.W.Frag} {D : Addr} (h : isCB K D = true) : ExcC K D := by
  obtain ⟨h1, h⟩ := ba h
  obtain ⟨h2, h⟩ := ba h
  obtain ⟨h3, h⟩ := ba h
  obtain ⟨h4, h⟩ := ba h
  obtain ⟨h5, h⟩ := ba h
  obtain ⟨h6, h⟩ := ba h
  obtain ⟨h7, h8⟩ := ba h
  exact ⟨eqO_ok h1, eqO_ok h2, of_decide_eq_true h3, h4, eqO_ok h5, eqO_ok h6, of_decide_eq_true h7, of_decide_eq_true h8⟩
/-! ### the hook -/
def asF (g : Addr → Option Obj) (n : Nat) : List Addr := asD g n ++ [cStatics]
abbrev AlF : Type := (AlD × Bool) × List FnC
def obsF (n : Nat) (fa : List Fa) (fn : List DefD) (cf : List DefC) (tf : List Defn) (ex : PySem.W.Frag → Bool) (g : Addr → Option Obj) : AlF := ((obsD fa fn (frT g (asF g n)), ex (frT g (asF g n)) && tabsB g tf (frT g (asF g n))), cf.map fun d => fnC (frT g (asF g n)) d.at_)
def valF (fn : List DefD) (cf : List DefC) : AlF := ((valD fn, true), cf.map DefC.val)
structure SaysF (fa : List Fa) (fn : List DefD) (cf : List DefC) (tf : List Defn) (ex : PySem.W.Frag → Bool) (h : Heap) (K : PySem.W.Frag) : Prop where
  d : SaysD fa fn K
  more : ex K = true
  c : ∀ d ∈ cf, fnC K d.at_ = d.val
  hd : ∀ p ∈ tf, PySem.W.codeHdIn K (cT K p).1 (cT K p).2 = true
  out : ∀ p ∈ tf, K.lookup (cT K p).2 = none
  empty : ∀ p ∈ tf, h.get? (cT K p).2 = some { cls := .none, data := .fields #[] }
theorem saysF_of {n : Nat} {fa : List Fa} {fn : List DefD} {cf : List DefC} {tf : List Defn} {ex : PySem.W.Frag → Bool} {h : Heap} (e : obsF n fa fn cf tf ex h.get? = valF fn cf) : SaysF fa fn cf tf ex h (frT h.get? (asF h.get? n)) := by
  generalize hK : frT h.get? (asF h.get? n) = K
  have e' : ((obsD fa fn K, ex K && tabsB h.get? tf K), cf.map fun d => fnC K d.at_) = ((valD fn, true), cf.map DefC.val) := by
    rw [← hK]
    exact e
  have e1 : obsD fa fn K = valD fn := congrArg (fun z : AlF => z.1.1) e'
  have e2 : (ex K && tabsB h.get? tf K) = true := congrArg (fun z : AlF => z.1.2) e'
  have e3 : (cf.map fun d => fnC K d.at_) = cf.map DefC.val := congrArg (fun z : AlF => z.2) e'
  obtain ⟨h1, h2⟩ := ba e2
  have key : ∀ p ∈ tf, PySem.W.codeHdIn K (cT K p).1 (cT K p).2 = true ∧ ∃ o, h.get? (cT K p).2 = some o ∧ emptyTab o = true := fun p hp => by
    obtain ⟨h3, h4⟩ := ba (List.all_eq_true.mp h2 p hp)
    refine ⟨h3, ?_⟩
    cases q : h.get? (cT K p).2 with
    | none =>
      rw [q] at h4
      cases h4
    | some o =>
      rw [q] at h4
      exact ⟨o, rfl, h4⟩
  refine ⟨e1, h1, fun d hd => List.map_inj_left.mp e3 d hd, fun p hp => (key p hp).1, fun p hp => ?_, fun p hp => ?_⟩
  · obtain ⟨_, o, q, z⟩ := key p hp
    rw [← hK]
    rw [← hK] at q
    exact frT_none q z
  · obtain ⟨_, o, q, z⟩ := key p hp
    rw [q, emptyTab_eq z]
def hookF (n : Nat) (fa : List Fa) (fn : List DefD) (cf : List DefC) (tf : List Defn) (ex : PySem.W.Frag → Bool) : PySem.W.Hook where
  α := AlF
  obs := fun s => obsF n fa fn cf tf ex s.heap.get?
  val := fun _ => valF fn cf
  says := fun _ h => ∃ K : PySem.W.Frag, K.In h ∧ SaysF fa fn cf tf ex h K
  of := fun _ _ e => ⟨_, frT_in, saysF_of e⟩
  keeps := fun _ _ _ ⟨K, hK, c⟩ k => ⟨K, PySem.W.Frag.In.keeps hK k, ⟨c.d, c.more, c.c, c.hd, c.out, fun p hp => k _ _ (c.empty p hp)⟩⟩
theorem obsF_eq {n : Nat} {fa : List Fa} {fn : List DefD} {cf : List DefC} {tf : List Defn} {ex : PySem.W.Frag → Bool} {g : Addr → Option Obj} {s : Shared} (h : ∀ a, g a = s.heap.get? a) : obsF n fa fn cf tf ex g = (hookF n fa fn cf tf ex).obs s := by
  have e : g = s.heap.get? := funext h
  rw [e]
  rfl
end Fh
set_option Elab.async false
set_option linter.all false
set_option maxRecDepth 100000
set_option maxHeartbeats 0
namespace K31
open PySem PySem.Spec PyProof.Rows L2
def top (i : Nat) : Stmt := PySem.Challenge.pw_fixturehall_k31_refusals_apart.main.body.getD i (.Pass ⟨0, 0, 0, 0⟩)
abbrev s_wall : Stmt := top 0
abbrev s_part : Stmt := top 13
abbrev s_seeds : Stmt := top 15
abbrev s_laid : Stmt := top 16
abbrev s_is_word : Stmt := top 21
abbrev s_is_count : Stmt := top 22
abbrev s_is_name : Stmt := top 23
abbrev s_read : Stmt := top 25
abbrev s_doubled : Stmt := top 26
abbrev s_read_game : Stmt := top 27
abbrev s_told : Stmt := top 28
abbrev s_check_teams : Stmt := top 30
abbrev s_circle : Stmt := top 31
abbrev s_look_rounds : Stmt := top 32
abbrev s_check_times : Stmt := top 38
abbrev s_least : Stmt := top 39
abbrev s_frames : Stmt := top 41
abbrev s_last_frame : Stmt := top 42
abbrev s_law_dice : Stmt := top 44
abbrev s_law_roll : Stmt := top 45
abbrev s_law_rounds : Stmt := top 46
abbrev s_law_told : Stmt := top 47
abbrev s_law : Stmt := top 48
abbrev s_BadText_d_initd_ : Stmt := inClass (top 8) 0
abbrev s_BadPaper_d_initd_ : Stmt := inClass (top 9) 0
abbrev s_Cup_d_initd_ : Stmt := inClass (top 17) 0
abbrev s_Cup_byes : Stmt := inClass (top 17) 1
abbrev s_Cup_due : Stmt := inClass (top 17) 2
abbrev s_Cup_win : Stmt := inClass (top 17) 3
abbrev s_Cup_champion : Stmt := inClass (top 17) 4
abbrev s_Cup_by_round : Stmt := inClass (top 17) 5
abbrev s_Season_d_initd_ : Stmt := inClass (top 24) 0
abbrev s_Season_lay : Stmt := inClass (top 24) 1
abbrev s_Season_table : Stmt := inClass (top 24) 2
abbrev s_Season_up_to : Stmt := inClass (top 24) 3
abbrev s_Season_unplayed : Stmt := inClass (top 24) 4
abbrev s_Season_put : Stmt := inClass (top 24) 5
abbrev s_Desk_d_initd_ : Stmt := inClass (top 34) 0
abbrev s_Desk_note : Stmt := inClass (top 34) 1
abbrev s_Desk_begin : Stmt := inClass (top 34) 2
abbrev s_Desk_put : Stmt := inClass (top 34) 3
abbrev s_Desk_table : Stmt := inClass (top 34) 4
abbrev s_Desk_undo : Stmt := inClass (top 34) 5
abbrev s_Desk_redo : Stmt := inClass (top 34) 6
abbrev s_Slots_d_initd_ : Stmt := inClass (top 36) 0
abbrev s_Slots_free : Stmt := inClass (top 36) 1
abbrev s_Slots_laid : Stmt := inClass (top 36) 2
abbrev s_Slots_tried : Stmt := inClass (top 36) 3
abbrev s_Slots_fits : Stmt := inClass (top 36) 4
abbrev s_Slots_look : Stmt := inClass (top 36) 5
abbrev s_Slots_length : Stmt := inClass (top 36) 6
/-! ### the head's data -/
def dd_wall : He.DefD := ⟨("_wall", none), "_wall", "_wall", defArgs s_wall, defBody s_wall, defScope s_wall, [], []⟩
def dd_part : He.DefD := ⟨("part", none), "part", "part", defArgs s_part, defBody s_part, defScope s_part, [], []⟩
def dd_seeds : He.DefD := ⟨("seeds", none), "seeds", "seeds", defArgs s_seeds, defBody s_seeds, defScope s_seeds, [], []⟩
def dd_laid : He.DefD := ⟨("laid", none), "laid", "laid", defArgs s_laid, defBody s_laid, defScope s_laid, [], []⟩
def dd_is_word : He.DefD := ⟨("is_word", none), "is_word", "is_word", defArgs s_is_word, defBody s_is_word, defScope s_is_word, [], []⟩
def dd_is_count : He.DefD := ⟨("is_count", none), "is_count", "is_count", defArgs s_is_count, defBody s_is_count, defScope s_is_count, [], []⟩
def dd_is_name : He.DefD := ⟨("is_name", none), "is_name", "is_name", defArgs s_is_name, defBody s_is_name, defScope s_is_name, [], []⟩
def dd_read : He.DefD := ⟨("read", none), "read", "read", defArgs s_read, defBody s_read, defScope s_read, [], []⟩
def dd_doubled : He.DefD := ⟨("doubled", none), "doubled", "doubled", defArgs s_doubled, defBody s_doubled, defScope s_doubled, [], []⟩
def dd_read_game : He.DefD := ⟨("read_game", none), "read_game", "read_game", defArgs s_read_game, defBody s_read_game, defScope s_read_game, [], []⟩
def dd_told : He.DefD := ⟨("told", none), "told", "told", defArgs s_told, defBody s_told, defScope s_told, [], []⟩
def dd_check_teams : He.DefD := ⟨("check_teams", none), "check_teams", "check_teams", defArgs s_check_teams, defBody s_check_teams, defScope s_check_teams, [], []⟩
def dd_circle : He.DefD := ⟨("circle", none), "circle", "circle", defArgs s_circle, defBody s_circle, defScope s_circle, [], []⟩
def dd_look_rounds : He.DefD := ⟨("look_rounds", none), "look_rounds", "look_rounds", defArgs s_look_rounds, defBody s_look_rounds, defScope s_look_rounds, [], []⟩
def dd_check_times : He.DefD := ⟨("check_times", none), "check_times", "check_times", defArgs s_check_times, defBody s_check_times, defScope s_check_times, [], []⟩
def dd_least : He.DefD := ⟨("least", none), "least", "least", defArgs s_least, defBody s_least, defScope s_least, [], []⟩
def dd_frames : He.DefD := ⟨("frames", none), "frames", "frames", defArgs s_frames, defBody s_frames, defScope s_frames, [], []⟩
def dd_last_frame : He.DefD := ⟨("last_frame", none), "last_frame", "last_frame", defArgs s_last_frame, defBody s_last_frame, defScope s_last_frame, [], []⟩
def dd_law_dice : He.DefD := ⟨("_law_dice", none), "_law_dice", "_law_dice", defArgs s_law_dice, defBody s_law_dice, defScope s_law_dice, [], []⟩
def dd_law_roll : He.DefD := ⟨("_law_roll", none), "_law_roll", "_law_roll", defArgs s_law_roll, defBody s_law_roll, defScope s_law_roll, [], []⟩
def dd_law_rounds : He.DefD := ⟨("_law_rounds", none), "_law_rounds", "_law_rounds", defArgs s_law_rounds, defBody s_law_rounds, defScope s_law_rounds, [], []⟩
def dd_law_told : He.DefD := ⟨("_law_told", none), "_law_told", "_law_told", defArgs s_law_told, defBody s_law_told, defScope s_law_told, [], []⟩
def dd_law : He.DefD := ⟨("law", none), "law", "law", defArgs s_law, defBody s_law, defScope s_law, [], []⟩
def dd_BadText_d_initd_ : He.DefD := ⟨("BadText", some "__init__"), "__init__", "BadText.__init__", defArgs s_BadText_d_initd_, defBody s_BadText_d_initd_, defScope s_BadText_d_initd_, [], []⟩
def dd_BadPaper_d_initd_ : He.DefD := ⟨("BadPaper", some "__init__"), "__init__", "BadPaper.__init__", defArgs s_BadPaper_d_initd_, defBody s_BadPaper_d_initd_, defScope s_BadPaper_d_initd_, [], []⟩
def dd_Cup_d_initd_ : He.DefD := ⟨("Cup", some "__init__"), "__init__", "Cup.__init__", defArgs s_Cup_d_initd_, defBody s_Cup_d_initd_, defScope s_Cup_d_initd_, [], []⟩
def dd_Cup_byes : He.DefD := ⟨("Cup", some "byes"), "byes", "Cup.byes", defArgs s_Cup_byes, defBody s_Cup_byes, defScope s_Cup_byes, [], []⟩
def dd_Cup_due : He.DefD := ⟨("Cup", some "due"), "due", "Cup.due", defArgs s_Cup_due, defBody s_Cup_due, defScope s_Cup_due, [], []⟩
def dd_Cup_win : He.DefD := ⟨("Cup", some "win"), "win", "Cup.win", defArgs s_Cup_win, defBody s_Cup_win, defScope s_Cup_win, [], []⟩
def dd_Cup_champion : He.DefD := ⟨("Cup", some "champion"), "champion", "Cup.champion", defArgs s_Cup_champion, defBody s_Cup_champion, defScope s_Cup_champion, [], []⟩
def dd_Cup_by_round : He.DefD := ⟨("Cup", some "by_round"), "by_round", "Cup.by_round", defArgs s_Cup_by_round, defBody s_Cup_by_round, defScope s_Cup_by_round, [], []⟩
def dd_Season_d_initd_ : He.DefD := ⟨("Season", some "__init__"), "__init__", "Season.__init__", defArgs s_Season_d_initd_, defBody s_Season_d_initd_, defScope s_Season_d_initd_, [], []⟩
def dd_Season_lay : He.DefD := ⟨("Season", some "lay"), "lay", "Season.lay", defArgs s_Season_lay, defBody s_Season_lay, defScope s_Season_lay, [], []⟩
def dd_Season_table : He.DefD := ⟨("Season", some "table"), "table", "Season.table", defArgs s_Season_table, defBody s_Season_table, defScope s_Season_table, [], []⟩
def dd_Season_up_to : He.DefD := ⟨("Season", some "up_to"), "up_to", "Season.up_to", defArgs s_Season_up_to, defBody s_Season_up_to, defScope s_Season_up_to, [], []⟩
def dd_Season_unplayed : He.DefD := ⟨("Season", some "unplayed"), "unplayed", "Season.unplayed", defArgs s_Season_unplayed, defBody s_Season_unplayed, defScope s_Season_unplayed, [], []⟩
def dd_Season_put : He.DefD := ⟨("Season", some "put"), "put", "Season.put", defArgs s_Season_put, defBody s_Season_put, defScope s_Season_put, [], []⟩
def dd_Desk_d_initd_ : He.DefD := ⟨("Desk", some "__init__"), "__init__", "Desk.__init__", defArgs s_Desk_d_initd_, defBody s_Desk_d_initd_, defScope s_Desk_d_initd_, [], []⟩
def dd_Desk_note : He.DefD := ⟨("Desk", some "note"), "note", "Desk.note", defArgs s_Desk_note, defBody s_Desk_note, defScope s_Desk_note, [], []⟩
def dd_Desk_begin : He.DefD := ⟨("Desk", some "begin"), "begin", "Desk.begin", defArgs s_Desk_begin, defBody s_Desk_begin, defScope s_Desk_begin, [], []⟩
def dd_Desk_put : He.DefD := ⟨("Desk", some "put"), "put", "Desk.put", defArgs s_Desk_put, defBody s_Desk_put, defScope s_Desk_put, [], []⟩
def dd_Desk_table : He.DefD := ⟨("Desk", some "table"), "table", "Desk.table", defArgs s_Desk_table, defBody s_Desk_table, defScope s_Desk_table, [], []⟩
def dd_Desk_undo : He.DefD := ⟨("Desk", some "undo"), "undo", "Desk.undo", defArgs s_Desk_undo, defBody s_Desk_undo, defScope s_Desk_undo, [], []⟩
def dd_Desk_redo : He.DefD := ⟨("Desk", some "redo"), "redo", "Desk.redo", defArgs s_Desk_redo, defBody s_Desk_redo, defScope s_Desk_redo, [], []⟩
def dd_Slots_d_initd_ : He.DefD := ⟨("Slots", some "__init__"), "__init__", "Slots.__init__", defArgs s_Slots_d_initd_, defBody s_Slots_d_initd_, defScope s_Slots_d_initd_, [], []⟩
def dd_Slots_free : He.DefD := ⟨("Slots", some "free"), "free", "Slots.free", defArgs s_Slots_free, defBody s_Slots_free, defScope s_Slots_free, [], []⟩
def dd_Slots_laid : He.DefD := ⟨("Slots", some "laid"), "laid", "Slots.laid", defArgs s_Slots_laid, defBody s_Slots_laid, defScope s_Slots_laid, [], []⟩
def dd_Slots_tried : He.DefD := ⟨("Slots", some "tried"), "tried", "Slots.tried", defArgs s_Slots_tried, defBody s_Slots_tried, defScope s_Slots_tried, [], []⟩
def dd_Slots_fits : He.DefD := ⟨("Slots", some "fits"), "fits", "Slots.fits", defArgs s_Slots_fits, defBody s_Slots_fits, defScope s_Slots_fits, [], []⟩
def dd_Slots_look : He.DefD := ⟨("Slots", some "look"), "look", "Slots.look", defArgs s_Slots_look, defBody s_Slots_look, defScope s_Slots_look, [], []⟩
def dd_Slots_length : He.DefD := ⟨("Slots", some "length"), "length", "Slots.length", defArgs s_Slots_length, defBody s_Slots_length, defScope s_Slots_length, [], []⟩
def fn : List He.DefD := [dd_wall, dd_part, dd_seeds, dd_laid, dd_is_word, dd_is_count, dd_is_name, dd_read, dd_doubled, dd_read_game, dd_told, dd_check_teams, dd_circle, dd_look_rounds, dd_check_times, dd_least, dd_frames, dd_last_frame, dd_law_dice, dd_law_roll, dd_law_rounds, dd_law_told, dd_law, dd_Cup_d_initd_, dd_Cup_byes, dd_Cup_due, dd_Cup_win, dd_Cup_champion, dd_Cup_by_round, dd_Season_d_initd_, dd_Season_lay, dd_Season_table, dd_Season_up_to, dd_Season_unplayed, dd_Season_put, dd_Desk_d_initd_, dd_Desk_note, dd_Desk_begin, dd_Desk_put, dd_Desk_table, dd_Desk_undo, dd_Desk_redo, dd_Slots_d_initd_, dd_Slots_free, dd_Slots_laid, dd_Slots_tried, dd_Slots_fits, dd_Slots_look, dd_Slots_length]
def fa0 : List He.Fa := [.glo "_wall", .glo "part", .glo "seeds", .glo "laid", .glo "is_word", .glo "is_count", .glo "is_name", .glo "read", .glo "doubled", .glo "read_game", .glo "told", .glo "check_teams", .glo "circle", .glo "look_rounds", .glo "check_times", .glo "least", .glo "frames", .glo "last_frame", .glo "_law_dice", .glo "_law_roll", .glo "_law_rounds", .glo "_law_told", .glo "law", .glo "FixtureFault", .glo "BadTeams", .glo "BadScore", .glo "BadRule", .glo "Played", .glo "NoPlan", .glo "BadText"]
def fa1 : List He.Fa := [.glo "BadPaper", .glo "TooLarge", .glo "BadDeed", .glo "Cup", .glo "Season", .glo "Desk", .glo "Slots", .free "ValueError", .free "abs", .free "all", .free "any", .free "enumerate", .free "int", .free "isinstance", .free "len", .free "list", .free "max", .free "min", .free "range", .free "sorted", .free "str", .free "super", .free "tuple", .free "zip", .exc "FixtureFault", .exc "BadTeams", .exc "BadScore", .exc "BadRule", .exc "Played"]
def fa2 : List He.Fa := [.exc "NoPlan", .exc "TooLarge", .exc "BadDeed", .cls "Cup", .mkr "Cup", .noat "Cup" "games", .noat "Cup" "rows", .meth "Cup" "__init__", .meth "Cup" "byes", .meth "Cup" "due", .meth "Cup" "win", .meth "Cup" "champion", .meth "Cup" "by_round", .cls "Season", .mkr "Season", .noat "Season" "rounds", .noat "Season" "rules", .noat "Season" "teams", .noat "Season" "worth", .meth "Season" "__init__", .meth "Season" "lay", .meth "Season" "table", .meth "Season" "up_to", .meth "Season" "unplayed", .meth "Season" "put", .cls "Desk", .mkr "Desk", .noat "Desk" "deeds", .noat "Desk" "shown", .noat "Desk" "undone"]
def fa3 : List He.Fa := [.meth "Desk" "__init__", .meth "Desk" "note", .meth "Desk" "begin", .meth "Desk" "put", .meth "Desk" "table", .meth "Desk" "undo", .meth "Desk" "redo", .cls "Slots", .mkr "Slots", .noat "Slots" "barred", .noat "Slots" "grounds", .noat "Slots" "many", .meth "Slots" "__init__", .meth "Slots" "free", .meth "Slots" "laid", .meth "Slots" "tried", .meth "Slots" "fits", .meth "Slots" "look", .meth "Slots" "length", .exm "FixtureFault" "FixtureFault" true, .exm "FixtureFault" "BadTeams" false, .exm "FixtureFault" "BadScore" false, .exm "FixtureFault" "BadRule" false, .exm "FixtureFault" "Played" false, .exm "FixtureFault" "NoPlan" false, .exm "FixtureFault" "BadText" false, .exm "FixtureFault" "BadPaper" false, .exm "FixtureFault" "TooLarge" false, .exm "FixtureFault" "BadDeed" false, .exm "BadTeams" "FixtureFault" true]
def fa4 : List He.Fa := [.exm "BadTeams" "BadTeams" true, .exm "BadTeams" "BadScore" false, .exm "BadTeams" "BadRule" false, .exm "BadTeams" "Played" false, .exm "BadTeams" "NoPlan" false, .exm "BadTeams" "BadText" false, .exm "BadTeams" "BadPaper" false, .exm "BadTeams" "TooLarge" false, .exm "BadTeams" "BadDeed" false, .exm "BadScore" "FixtureFault" true, .exm "BadScore" "BadTeams" false, .exm "BadScore" "BadScore" true, .exm "BadScore" "BadRule" false, .exm "BadScore" "Played" false, .exm "BadScore" "NoPlan" false, .exm "BadScore" "BadText" false, .exm "BadScore" "BadPaper" false, .exm "BadScore" "TooLarge" false, .exm "BadScore" "BadDeed" false, .exm "BadRule" "FixtureFault" true, .exm "BadRule" "BadTeams" false, .exm "BadRule" "BadScore" false, .exm "BadRule" "BadRule" true, .exm "BadRule" "Played" false, .exm "BadRule" "NoPlan" false, .exm "BadRule" "BadText" false, .exm "BadRule" "BadPaper" false, .exm "BadRule" "TooLarge" false, .exm "BadRule" "BadDeed" false, .exm "Played" "FixtureFault" true]
def fa5 : List He.Fa := [.exm "Played" "BadTeams" false, .exm "Played" "BadScore" false, .exm "Played" "BadRule" false, .exm "Played" "Played" true, .exm "Played" "NoPlan" false, .exm "Played" "BadText" false, .exm "Played" "BadPaper" false, .exm "Played" "TooLarge" false, .exm "Played" "BadDeed" false, .exm "NoPlan" "FixtureFault" true, .exm "NoPlan" "BadTeams" false, .exm "NoPlan" "BadScore" false, .exm "NoPlan" "BadRule" false, .exm "NoPlan" "Played" false, .exm "NoPlan" "NoPlan" true, .exm "NoPlan" "BadText" false, .exm "NoPlan" "BadPaper" false, .exm "NoPlan" "TooLarge" false, .exm "NoPlan" "BadDeed" false, .exm "BadText" "FixtureFault" true, .exm "BadText" "BadTeams" false, .exm "BadText" "BadScore" false, .exm "BadText" "BadRule" false, .exm "BadText" "Played" false, .exm "BadText" "NoPlan" false, .exm "BadText" "BadText" true, .exm "BadText" "BadPaper" false, .exm "BadText" "TooLarge" false, .exm "BadText" "BadDeed" false, .exm "BadPaper" "FixtureFault" true]
def fa6 : List He.Fa := [.exm "BadPaper" "BadTeams" false, .exm "BadPaper" "BadScore" false, .exm "BadPaper" "BadRule" false, .exm "BadPaper" "Played" false, .exm "BadPaper" "NoPlan" false, .exm "BadPaper" "BadText" false, .exm "BadPaper" "BadPaper" true, .exm "BadPaper" "TooLarge" false, .exm "BadPaper" "BadDeed" false, .exm "TooLarge" "FixtureFault" true, .exm "TooLarge" "BadTeams" false, .exm "TooLarge" "BadScore" false, .exm "TooLarge" "BadRule" false, .exm "TooLarge" "Played" false, .exm "TooLarge" "NoPlan" false, .exm "TooLarge" "BadText" false, .exm "TooLarge" "BadPaper" false, .exm "TooLarge" "TooLarge" true, .exm "TooLarge" "BadDeed" false, .exm "BadDeed" "FixtureFault" true, .exm "BadDeed" "BadTeams" false, .exm "BadDeed" "BadScore" false, .exm "BadDeed" "BadRule" false, .exm "BadDeed" "Played" false, .exm "BadDeed" "NoPlan" false, .exm "BadDeed" "BadText" false, .exm "BadDeed" "BadPaper" false, .exm "BadDeed" "TooLarge" false, .exm "BadDeed" "BadDeed" true]
def fa : List He.Fa := fa0 ++ fa1 ++ fa2 ++ fa3 ++ fa4 ++ fa5 ++ fa6
def tf : List He.Defn := [("is_word", none), ("is_count", none), ("read", none), ("read_game", none), ("check_times", none), ("frames", none), ("law", none), ("Slots", some "fits")]
def lo0 : List Str := ["_wall", "FixtureFault", "BadTeams", "BadScore", "BadRule", "Played", "NoPlan", "BadText", "BadPaper", "TooLarge", "BadDeed", "part", "seeds", "laid", "Cup", "RULES", "SAFE", "is_word", "is_count", "is_name", "Season", "read", "doubled", "read_game", "told", "check_teams", "circle", "look_rounds", "Desk", "Slots"]
def lo1 : List Str := ["check_times", "least", "frames", "last_frame", "_law_dice", "_law_roll", "_law_rounds", "_law_told"]
def loose : List Str := lo0 ++ lo1
def lawIx : Nat := 48
/-- the errors' names, in the law's order -/
def errs : List Str := ["BadTeams", "BadScore", "BadRule", "Played", "NoPlan", "BadText", "BadPaper", "TooLarge", "BadDeed"]
def cf : List Fh.DefC := [⟨("BadText", some "__init__"), "BadText.__init__", defArgs s_BadText_d_initd_, defBody s_BadText_d_initd_, defScope s_BadText_d_initd_⟩, ⟨("BadPaper", some "__init__"), "BadPaper.__init__", defArgs s_BadPaper_d_initd_, defBody s_BadPaper_d_initd_, defScope s_BadPaper_d_initd_⟩]
abbrev file : Str := PySem.Challenge.pw_fixturehall_k31_refusals_apart.main.file
def kitB (K : PySem.W.Frag) : Bool := (List.range 9).all fun i => (List.range 9).all fun j => decide (PySem.W.kitOne K (.ref (He.ga K (errs.getD i "BadTeams"))) (.ref (He.ga K (errs.getD j "BadTeams"))) = some (decide (i = j)))
def oneB (K : PySem.W.Frag) : Bool := errs.all fun x => decide (PySem.W.kitOne K (.ref (He.ga K x)) (.type "ValueError") = some true) && Fh.isCB K (He.ga K x)
def farB (K : PySem.W.Frag) : Bool := tf.all fun p => decide (p = (("law" : Str), (none : Option Str))) || decide ((He.cT K (("law" : Str), (none : Option Str))).2 ≠ (He.cT K p).2)
def ex (K : PySem.W.Frag) : Bool := kitB K && (oneB K && (farB K && (Fh.supB K file "BadText" "row" && Fh.supB K file "BadPaper" "part")))
abbrev R : PySem.W.OpenRow := PySem.W.OpenLaw.row PySem.Challenge.rw_fixturehall_k31_refusals_apart
abbrev hk : PySem.W.Hook := Fh.hookF 5 fa fn cf tf ex
def ob (s : PySem.W.SharedT) : Fh.AlF := Fh.obsF 5 fa fn cf tf ex (HandSHeadRun.getT s)
theorem ob_eq (s : PySem.W.SharedT) : ob s = hk.obs s.abs := Fh.obsF_eq (HandSHeadRun.getT_eq s)
theorem run (w : World) : HandSHeadRun.RunEq R (PySem.W.view R.prog [lawIx]) hk ob 12000 loose w := by
  intro os
  kernel_rfl
end K31
set_option Elab.async false
set_option linter.all false
set_option maxRecDepth 100000
set_option maxHeartbeats 4000000
namespace K31
open PySem PySem.Spec PyProof.Rows L2
/-- what the top has left -/
structure Txt (P : Program) (K : PySem.W.Frag) (mg : Str → Option Value) (base : Heap) : Prop where
  kin : K.In base
  glob : base.Ns mainGlobals mg
  d : He.SaysD fa fn K
  hd : ∀ p ∈ tf, PySem.W.codeHdIn K (He.cT K p).1 (He.cT K p).2 = true
  bm : ∀ p ∈ tf, base.BuiltinsAt mg (He.cT K p).2
  gp : ∀ p ∈ tf, mainGlobals ≠ (He.cT K p).2
  ne : ∀ p ∈ tf, p ≠ (("law" : Str), (none : Option Str)) → (He.cT K (("law" : Str), (none : Option Str))).2 ≠ (He.cT K p).2
  supT : ∃ fI, Fh.SupTxt P K mg "BadText" "row" (He.ga K "BadText") fI
  supP : ∃ fI, Fh.SupTxt P K mg "BadPaper" "part" (He.ga K "BadPaper") fI
  kit : ∀ (i j : Nat) (x y : Str), errs[i]? = some x → errs[j]? = some y → PySem.W.kitOne K (.ref (He.ga K x)) (.ref (He.ga K y)) = some (decide (i = j))
  kitV : ∀ x ∈ errs, PySem.W.kitOne K (.ref (He.ga K x)) (.type "ValueError") = some true
  isC : ∀ x ∈ errs, ExcC K (He.ga K x)
section
variable {P : Program} {K : PySem.W.Frag} {mg : Str → Option Value} {base : Heap}
theorem Txt.g_wall (T : Txt P K mg base) : mg "_wall" = some (.ref (He.ga K "_wall")) := He.glo_ok T.kin T.glob (T.d.fact 0)
theorem Txt.g_part (T : Txt P K mg base) : mg "part" = some (.ref (He.ga K "part")) := He.glo_ok T.kin T.glob (T.d.fact 1)
theorem Txt.g_seeds (T : Txt P K mg base) : mg "seeds" = some (.ref (He.ga K "seeds")) := He.glo_ok T.kin T.glob (T.d.fact 2)
theorem Txt.g_laid (T : Txt P K mg base) : mg "laid" = some (.ref (He.ga K "laid")) := He.glo_ok T.kin T.glob (T.d.fact 3)
theorem Txt.g_is_word (T : Txt P K mg base) : mg "is_word" = some (.ref (He.ga K "is_word")) := He.glo_ok T.kin T.glob (T.d.fact 4)
theorem Txt.g_is_count (T : Txt P K mg base) : mg "is_count" = some (.ref (He.ga K "is_count")) := He.glo_ok T.kin T.glob (T.d.fact 5)
theorem Txt.g_is_name (T : Txt P K mg base) : mg "is_name" = some (.ref (He.ga K "is_name")) := He.glo_ok T.kin T.glob (T.d.fact 6)
theorem Txt.g_read (T : Txt P K mg base) : mg "read" = some (.ref (He.ga K "read")) := He.glo_ok T.kin T.glob (T.d.fact 7)
theorem Txt.g_doubled (T : Txt P K mg base) : mg "doubled" = some (.ref (He.ga K "doubled")) := He.glo_ok T.kin T.glob (T.d.fact 8)
theorem Txt.g_read_game (T : Txt P K mg base) : mg "read_game" = some (.ref (He.ga K "read_game")) := He.glo_ok T.kin T.glob (T.d.fact 9)
theorem Txt.g_told (T : Txt P K mg base) : mg "told" = some (.ref (He.ga K "told")) := He.glo_ok T.kin T.glob (T.d.fact 10)
theorem Txt.g_check_teams (T : Txt P K mg base) : mg "check_teams" = some (.ref (He.ga K "check_teams")) := He.glo_ok T.kin T.glob (T.d.fact 11)
theorem Txt.g_circle (T : Txt P K mg base) : mg "circle" = some (.ref (He.ga K "circle")) := He.glo_ok T.kin T.glob (T.d.fact 12)
theorem Txt.g_look_rounds (T : Txt P K mg base) : mg "look_rounds" = some (.ref (He.ga K "look_rounds")) := He.glo_ok T.kin T.glob (T.d.fact 13)
theorem Txt.g_check_times (T : Txt P K mg base) : mg "check_times" = some (.ref (He.ga K "check_times")) := He.glo_ok T.kin T.glob (T.d.fact 14)
theorem Txt.g_least (T : Txt P K mg base) : mg "least" = some (.ref (He.ga K "least")) := He.glo_ok T.kin T.glob (T.d.fact 15)
theorem Txt.g_frames (T : Txt P K mg base) : mg "frames" = some (.ref (He.ga K "frames")) := He.glo_ok T.kin T.glob (T.d.fact 16)
theorem Txt.g_last_frame (T : Txt P K mg base) : mg "last_frame" = some (.ref (He.ga K "last_frame")) := He.glo_ok T.kin T.glob (T.d.fact 17)
theorem Txt.g_law_dice (T : Txt P K mg base) : mg "_law_dice" = some (.ref (He.ga K "_law_dice")) := He.glo_ok T.kin T.glob (T.d.fact 18)
theorem Txt.g_law_roll (T : Txt P K mg base) : mg "_law_roll" = some (.ref (He.ga K "_law_roll")) := He.glo_ok T.kin T.glob (T.d.fact 19)
theorem Txt.g_law_rounds (T : Txt P K mg base) : mg "_law_rounds" = some (.ref (He.ga K "_law_rounds")) := He.glo_ok T.kin T.glob (T.d.fact 20)
theorem Txt.g_law_told (T : Txt P K mg base) : mg "_law_told" = some (.ref (He.ga K "_law_told")) := He.glo_ok T.kin T.glob (T.d.fact 21)
theorem Txt.g_law (T : Txt P K mg base) : mg "law" = some (.ref (He.ga K "law")) := He.glo_ok T.kin T.glob (T.d.fact 22)
theorem Txt.g_FixtureFault (T : Txt P K mg base) : mg "FixtureFault" = some (.ref (He.ga K "FixtureFault")) := He.glo_ok T.kin T.glob (T.d.fact 23)
theorem Txt.g_BadTeams (T : Txt P K mg base) : mg "BadTeams" = some (.ref (He.ga K "BadTeams")) := He.glo_ok T.kin T.glob (T.d.fact 24)
theorem Txt.g_BadScore (T : Txt P K mg base) : mg "BadScore" = some (.ref (He.ga K "BadScore")) := He.glo_ok T.kin T.glob (T.d.fact 25)
theorem Txt.g_BadRule (T : Txt P K mg base) : mg "BadRule" = some (.ref (He.ga K "BadRule")) := He.glo_ok T.kin T.glob (T.d.fact 26)
theorem Txt.g_Played (T : Txt P K mg base) : mg "Played" = some (.ref (He.ga K "Played")) := He.glo_ok T.kin T.glob (T.d.fact 27)
theorem Txt.g_NoPlan (T : Txt P K mg base) : mg "NoPlan" = some (.ref (He.ga K "NoPlan")) := He.glo_ok T.kin T.glob (T.d.fact 28)
theorem Txt.g_BadText (T : Txt P K mg base) : mg "BadText" = some (.ref (He.ga K "BadText")) := He.glo_ok T.kin T.glob (T.d.fact 29)
theorem Txt.g_BadPaper (T : Txt P K mg base) : mg "BadPaper" = some (.ref (He.ga K "BadPaper")) := He.glo_ok T.kin T.glob (T.d.fact 30)
theorem Txt.g_TooLarge (T : Txt P K mg base) : mg "TooLarge" = some (.ref (He.ga K "TooLarge")) := He.glo_ok T.kin T.glob (T.d.fact 31)
theorem Txt.g_BadDeed (T : Txt P K mg base) : mg "BadDeed" = some (.ref (He.ga K "BadDeed")) := He.glo_ok T.kin T.glob (T.d.fact 32)
theorem Txt.g_Cup (T : Txt P K mg base) : mg "Cup" = some (.ref (He.ga K "Cup")) := He.glo_ok T.kin T.glob (T.d.fact 33)
theorem Txt.g_Season (T : Txt P K mg base) : mg "Season" = some (.ref (He.ga K "Season")) := He.glo_ok T.kin T.glob (T.d.fact 34)
theorem Txt.g_Desk (T : Txt P K mg base) : mg "Desk" = some (.ref (He.ga K "Desk")) := He.glo_ok T.kin T.glob (T.d.fact 35)
theorem Txt.g_Slots (T : Txt P K mg base) : mg "Slots" = some (.ref (He.ga K "Slots")) := He.glo_ok T.kin T.glob (T.d.fact 36)
theorem Txt.n_ValueError (T : Txt P K mg base) : mg "ValueError" = none := He.free_ok T.kin T.glob (T.d.fact 37)
theorem Txt.n_abs (T : Txt P K mg base) : mg "abs" = none := He.free_ok T.kin T.glob (T.d.fact 38)
theorem Txt.n_all (T : Txt P K mg base) : mg "all" = none := He.free_ok T.kin T.glob (T.d.fact 39)
theorem Txt.n_any (T : Txt P K mg base) : mg "any" = none := He.free_ok T.kin T.glob (T.d.fact 40)
theorem Txt.n_enumerate (T : Txt P K mg base) : mg "enumerate" = none := He.free_ok T.kin T.glob (T.d.fact 41)
theorem Txt.n_int (T : Txt P K mg base) : mg "int" = none := He.free_ok T.kin T.glob (T.d.fact 42)
theorem Txt.n_isinstance (T : Txt P K mg base) : mg "isinstance" = none := He.free_ok T.kin T.glob (T.d.fact 43)
theorem Txt.n_len (T : Txt P K mg base) : mg "len" = none := He.free_ok T.kin T.glob (T.d.fact 44)
theorem Txt.n_list (T : Txt P K mg base) : mg "list" = none := He.free_ok T.kin T.glob (T.d.fact 45)
theorem Txt.n_max (T : Txt P K mg base) : mg "max" = none := He.free_ok T.kin T.glob (T.d.fact 46)
theorem Txt.n_min (T : Txt P K mg base) : mg "min" = none := He.free_ok T.kin T.glob (T.d.fact 47)
theorem Txt.n_range (T : Txt P K mg base) : mg "range" = none := He.free_ok T.kin T.glob (T.d.fact 48)
theorem Txt.n_sorted (T : Txt P K mg base) : mg "sorted" = none := He.free_ok T.kin T.glob (T.d.fact 49)
theorem Txt.n_str (T : Txt P K mg base) : mg "str" = none := He.free_ok T.kin T.glob (T.d.fact 50)
theorem Txt.n_super (T : Txt P K mg base) : mg "super" = none := He.free_ok T.kin T.glob (T.d.fact 51)
theorem Txt.n_tuple (T : Txt P K mg base) : mg "tuple" = none := He.free_ok T.kin T.glob (T.d.fact 52)
theorem Txt.n_zip (T : Txt P K mg base) : mg "zip" = none := He.free_ok T.kin T.glob (T.d.fact 53)
theorem Txt.x_FixtureFault (T : Txt P K mg base) : Fh.ExcT K mg "FixtureFault" (He.ga K "FixtureFault") := have c := He.exc_ok (T.d.fact 54)
  ⟨T.g_FixtureFault, c.1, c.2.1, c.2.2.1, c.2.2.2⟩
theorem Txt.x_BadTeams (T : Txt P K mg base) : Fh.ExcT K mg "BadTeams" (He.ga K "BadTeams") := have c := He.exc_ok (T.d.fact 55)
  ⟨T.g_BadTeams, c.1, c.2.1, c.2.2.1, c.2.2.2⟩
theorem Txt.x_BadScore (T : Txt P K mg base) : Fh.ExcT K mg "BadScore" (He.ga K "BadScore") := have c := He.exc_ok (T.d.fact 56)
  ⟨T.g_BadScore, c.1, c.2.1, c.2.2.1, c.2.2.2⟩
theorem Txt.x_BadRule (T : Txt P K mg base) : Fh.ExcT K mg "BadRule" (He.ga K "BadRule") := have c := He.exc_ok (T.d.fact 57)
  ⟨T.g_BadRule, c.1, c.2.1, c.2.2.1, c.2.2.2⟩
theorem Txt.x_Played (T : Txt P K mg base) : Fh.ExcT K mg "Played" (He.ga K "Played") := have c := He.exc_ok (T.d.fact 58)
  ⟨T.g_Played, c.1, c.2.1, c.2.2.1, c.2.2.2⟩
theorem Txt.x_NoPlan (T : Txt P K mg base) : Fh.ExcT K mg "NoPlan" (He.ga K "NoPlan") := have c := He.exc_ok (T.d.fact 59)
  ⟨T.g_NoPlan, c.1, c.2.1, c.2.2.1, c.2.2.2⟩
theorem Txt.x_TooLarge (T : Txt P K mg base) : Fh.ExcT K mg "TooLarge" (He.ga K "TooLarge") := have c := He.exc_ok (T.d.fact 60)
  ⟨T.g_TooLarge, c.1, c.2.1, c.2.2.1, c.2.2.2⟩
theorem Txt.x_BadDeed (T : Txt P K mg base) : Fh.ExcT K mg "BadDeed" (He.ga K "BadDeed") := have c := He.exc_ok (T.d.fact 61)
  ⟨T.g_BadDeed, c.1, c.2.1, c.2.2.1, c.2.2.2⟩
theorem Txt.c_Cup (T : Txt P K mg base) : Cls K (He.ga K "Cup") := He.cls_ok (T.d.fact 62)
theorem Txt.k_Cup (T : Txt P K mg base) : Mk K (He.ga K "Cup") (He.ma K (He.ga K "Cup") "__init__") := He.mkr_ok (T.d.fact 63)
theorem Txt.a_Cup_games (T : Txt P K mg base) : NoAttr K (He.ga K "Cup") "games" := He.noat_ok (T.d.fact 64)
theorem Txt.a_Cup_rows (T : Txt P K mg base) : NoAttr K (He.ga K "Cup") "rows" := He.noat_ok (T.d.fact 65)
theorem Txt.m_Cup_d_initd_ (T : Txt P K mg base) : Meth K (He.ga K "Cup") "__init__" (He.ma K (He.ga K "Cup") "__init__") := He.meth_ok (T.d.fact 66)
theorem Txt.m_Cup_byes (T : Txt P K mg base) : Meth K (He.ga K "Cup") "byes" (He.ma K (He.ga K "Cup") "byes") := He.meth_ok (T.d.fact 67)
theorem Txt.m_Cup_due (T : Txt P K mg base) : Meth K (He.ga K "Cup") "due" (He.ma K (He.ga K "Cup") "due") := He.meth_ok (T.d.fact 68)
theorem Txt.m_Cup_win (T : Txt P K mg base) : Meth K (He.ga K "Cup") "win" (He.ma K (He.ga K "Cup") "win") := He.meth_ok (T.d.fact 69)
theorem Txt.m_Cup_champion (T : Txt P K mg base) : Meth K (He.ga K "Cup") "champion" (He.ma K (He.ga K "Cup") "champion") := He.meth_ok (T.d.fact 70)
theorem Txt.m_Cup_by_round (T : Txt P K mg base) : Meth K (He.ga K "Cup") "by_round" (He.ma K (He.ga K "Cup") "by_round") := He.meth_ok (T.d.fact 71)
theorem Txt.c_Season (T : Txt P K mg base) : Cls K (He.ga K "Season") := He.cls_ok (T.d.fact 72)
theorem Txt.k_Season (T : Txt P K mg base) : Mk K (He.ga K "Season") (He.ma K (He.ga K "Season") "__init__") := He.mkr_ok (T.d.fact 73)
theorem Txt.a_Season_rounds (T : Txt P K mg base) : NoAttr K (He.ga K "Season") "rounds" := He.noat_ok (T.d.fact 74)
theorem Txt.a_Season_rules (T : Txt P K mg base) : NoAttr K (He.ga K "Season") "rules" := He.noat_ok (T.d.fact 75)
theorem Txt.a_Season_teams (T : Txt P K mg base) : NoAttr K (He.ga K "Season") "teams" := He.noat_ok (T.d.fact 76)
theorem Txt.a_Season_worth (T : Txt P K mg base) : NoAttr K (He.ga K "Season") "worth" := He.noat_ok (T.d.fact 77)
theorem Txt.m_Season_d_initd_ (T : Txt P K mg base) : Meth K (He.ga K "Season") "__init__" (He.ma K (He.ga K "Season") "__init__") := He.meth_ok (T.d.fact 78)
theorem Txt.m_Season_lay (T : Txt P K mg base) : Meth K (He.ga K "Season") "lay" (He.ma K (He.ga K "Season") "lay") := He.meth_ok (T.d.fact 79)
theorem Txt.m_Season_table (T : Txt P K mg base) : Meth K (He.ga K "Season") "table" (He.ma K (He.ga K "Season") "table") := He.meth_ok (T.d.fact 80)
theorem Txt.m_Season_up_to (T : Txt P K mg base) : Meth K (He.ga K "Season") "up_to" (He.ma K (He.ga K "Season") "up_to") := He.meth_ok (T.d.fact 81)
theorem Txt.m_Season_unplayed (T : Txt P K mg base) : Meth K (He.ga K "Season") "unplayed" (He.ma K (He.ga K "Season") "unplayed") := He.meth_ok (T.d.fact 82)
theorem Txt.m_Season_put (T : Txt P K mg base) : Meth K (He.ga K "Season") "put" (He.ma K (He.ga K "Season") "put") := He.meth_ok (T.d.fact 83)
theorem Txt.c_Desk (T : Txt P K mg base) : Cls K (He.ga K "Desk") := He.cls_ok (T.d.fact 84)
theorem Txt.k_Desk (T : Txt P K mg base) : Mk K (He.ga K "Desk") (He.ma K (He.ga K "Desk") "__init__") := He.mkr_ok (T.d.fact 85)
theorem Txt.a_Desk_deeds (T : Txt P K mg base) : NoAttr K (He.ga K "Desk") "deeds" := He.noat_ok (T.d.fact 86)
theorem Txt.a_Desk_shown (T : Txt P K mg base) : NoAttr K (He.ga K "Desk") "shown" := He.noat_ok (T.d.fact 87)
theorem Txt.a_Desk_undone (T : Txt P K mg base) : NoAttr K (He.ga K "Desk") "undone" := He.noat_ok (T.d.fact 88)
theorem Txt.m_Desk_d_initd_ (T : Txt P K mg base) : Meth K (He.ga K "Desk") "__init__" (He.ma K (He.ga K "Desk") "__init__") := He.meth_ok (T.d.fact 89)
theorem Txt.m_Desk_note (T : Txt P K mg base) : Meth K (He.ga K "Desk") "note" (He.ma K (He.ga K "Desk") "note") := He.meth_ok (T.d.fact 90)
theorem Txt.m_Desk_begin (T : Txt P K mg base) : Meth K (He.ga K "Desk") "begin" (He.ma K (He.ga K "Desk") "begin") := He.meth_ok (T.d.fact 91)
theorem Txt.m_Desk_put (T : Txt P K mg base) : Meth K (He.ga K "Desk") "put" (He.ma K (He.ga K "Desk") "put") := He.meth_ok (T.d.fact 92)
theorem Txt.m_Desk_table (T : Txt P K mg base) : Meth K (He.ga K "Desk") "table" (He.ma K (He.ga K "Desk") "table") := He.meth_ok (T.d.fact 93)
theorem Txt.m_Desk_undo (T : Txt P K mg base) : Meth K (He.ga K "Desk") "undo" (He.ma K (He.ga K "Desk") "undo") := He.meth_ok (T.d.fact 94)
theorem Txt.m_Desk_redo (T : Txt P K mg base) : Meth K (He.ga K "Desk") "redo" (He.ma K (He.ga K "Desk") "redo") := He.meth_ok (T.d.fact 95)
theorem Txt.c_Slots (T : Txt P K mg base) : Cls K (He.ga K "Slots") := He.cls_ok (T.d.fact 96)
theorem Txt.k_Slots (T : Txt P K mg base) : Mk K (He.ga K "Slots") (He.ma K (He.ga K "Slots") "__init__") := He.mkr_ok (T.d.fact 97)
theorem Txt.a_Slots_barred (T : Txt P K mg base) : NoAttr K (He.ga K "Slots") "barred" := He.noat_ok (T.d.fact 98)
theorem Txt.a_Slots_grounds (T : Txt P K mg base) : NoAttr K (He.ga K "Slots") "grounds" := He.noat_ok (T.d.fact 99)
theorem Txt.a_Slots_many (T : Txt P K mg base) : NoAttr K (He.ga K "Slots") "many" := He.noat_ok (T.d.fact 100)
theorem Txt.m_Slots_d_initd_ (T : Txt P K mg base) : Meth K (He.ga K "Slots") "__init__" (He.ma K (He.ga K "Slots") "__init__") := He.meth_ok (T.d.fact 101)
theorem Txt.m_Slots_free (T : Txt P K mg base) : Meth K (He.ga K "Slots") "free" (He.ma K (He.ga K "Slots") "free") := He.meth_ok (T.d.fact 102)
theorem Txt.m_Slots_laid (T : Txt P K mg base) : Meth K (He.ga K "Slots") "laid" (He.ma K (He.ga K "Slots") "laid") := He.meth_ok (T.d.fact 103)
theorem Txt.m_Slots_tried (T : Txt P K mg base) : Meth K (He.ga K "Slots") "tried" (He.ma K (He.ga K "Slots") "tried") := He.meth_ok (T.d.fact 104)
theorem Txt.m_Slots_fits (T : Txt P K mg base) : Meth K (He.ga K "Slots") "fits" (He.ma K (He.ga K "Slots") "fits") := He.meth_ok (T.d.fact 105)
theorem Txt.m_Slots_look (T : Txt P K mg base) : Meth K (He.ga K "Slots") "look" (He.ma K (He.ga K "Slots") "look") := He.meth_ok (T.d.fact 106)
theorem Txt.m_Slots_length (T : Txt P K mg base) : Meth K (He.ga K "Slots") "length" (He.ma K (He.ga K "Slots") "length") := He.meth_ok (T.d.fact 107)
theorem Txt.e_FixtureFault_FixtureFault (T : Txt P K mg base) : PySem.W.exmOne K (.ref (He.ga K "FixtureFault")) (.ref (He.ga K "FixtureFault")) = some true := He.exm_ok (T.d.fact 108)
theorem Txt.e_FixtureFault_BadTeams (T : Txt P K mg base) : PySem.W.exmOne K (.ref (He.ga K "FixtureFault")) (.ref (He.ga K "BadTeams")) = some false := He.exm_ok (T.d.fact 109)
theorem Txt.e_FixtureFault_BadScore (T : Txt P K mg base) : PySem.W.exmOne K (.ref (He.ga K "FixtureFault")) (.ref (He.ga K "BadScore")) = some false := He.exm_ok (T.d.fact 110)
theorem Txt.e_FixtureFault_BadRule (T : Txt P K mg base) : PySem.W.exmOne K (.ref (He.ga K "FixtureFault")) (.ref (He.ga K "BadRule")) = some false := He.exm_ok (T.d.fact 111)
theorem Txt.e_FixtureFault_Played (T : Txt P K mg base) : PySem.W.exmOne K (.ref (He.ga K "FixtureFault")) (.ref (He.ga K "Played")) = some false := He.exm_ok (T.d.fact 112)
theorem Txt.e_FixtureFault_NoPlan (T : Txt P K mg base) : PySem.W.exmOne K (.ref (He.ga K "FixtureFault")) (.ref (He.ga K "NoPlan")) = some false := He.exm_ok (T.d.fact 113)
theorem Txt.e_FixtureFault_BadText (T : Txt P K mg base) : PySem.W.exmOne K (.ref (He.ga K "FixtureFault")) (.ref (He.ga K "BadText")) = some false := He.exm_ok (T.d.fact 114)
theorem Txt.e_FixtureFault_BadPaper (T : Txt P K mg base) : PySem.W.exmOne K (.ref (He.ga K "FixtureFault")) (.ref (He.ga K "BadPaper")) = some false := He.exm_ok (T.d.fact 115)
theorem Txt.e_FixtureFault_TooLarge (T : Txt P K mg base) : PySem.W.exmOne K (.ref (He.ga K "FixtureFault")) (.ref (He.ga K "TooLarge")) = some false := He.exm_ok (T.d.fact 116)
theorem Txt.e_FixtureFault_BadDeed (T : Txt P K mg base) : PySem.W.exmOne K (.ref (He.ga K "FixtureFault")) (.ref (He.ga K "BadDeed")) = some false := He.exm_ok (T.d.fact 117)
theorem Txt.e_BadTeams_FixtureFault (T : Txt P K mg base) : PySem.W.exmOne K (.ref (He.ga K "BadTeams")) (.ref (He.ga K "FixtureFault")) = some true := He.exm_ok (T.d.fact 118)
theorem Txt.e_BadTeams_BadTeams (T : Txt P K mg base) : PySem.W.exmOne K (.ref (He.ga K "BadTeams")) (.ref (He.ga K "BadTeams")) = some true := He.exm_ok (T.d.fact 119)
theorem Txt.e_BadTeams_BadScore (T : Txt P K mg base) : PySem.W.exmOne K (.ref (He.ga K "BadTeams")) (.ref (He.ga K "BadScore")) = some false := He.exm_ok (T.d.fact 120)
theorem Txt.e_BadTeams_BadRule (T : Txt P K mg base) : PySem.W.exmOne K (.ref (He.ga K "BadTeams")) (.ref (He.ga K "BadRule")) = some false := He.exm_ok (T.d.fact 121)
theorem Txt.e_BadTeams_Played (T : Txt P K mg base) : PySem.W.exmOne K (.ref (He.ga K "BadTeams")) (.ref (He.ga K "Played")) = some false := He.exm_ok (T.d.fact 122)
theorem Txt.e_BadTeams_NoPlan (T : Txt P K mg base) : PySem.W.exmOne K (.ref (He.ga K "BadTeams")) (.ref (He.ga K "NoPlan")) = some false := He.exm_ok (T.d.fact 123)
theorem Txt.e_BadTeams_BadText (T : Txt P K mg base) : PySem.W.exmOne K (.ref (He.ga K "BadTeams")) (.ref (He.ga K "BadText")) = some false := He.exm_ok (T.d.fact 124)
theorem Txt.e_BadTeams_BadPaper (T : Txt P K mg base) : PySem.W.exmOne K (.ref (He.ga K "BadTeams")) (.ref (He.ga K "BadPaper")) = some false := He.exm_ok (T.d.fact 125)
theorem Txt.e_BadTeams_TooLarge (T : Txt P K mg base) : PySem.W.exmOne K (.ref (He.ga K "BadTeams")) (.ref (He.ga K "TooLarge")) = some false := He.exm_ok (T.d.fact 126)
theorem Txt.e_BadTeams_BadDeed (T : Txt P K mg base) : PySem.W.exmOne K (.ref (He.ga K "BadTeams")) (.ref (He.ga K "BadDeed")) = some false := He.exm_ok (T.d.fact 127)
theorem Txt.e_BadScore_FixtureFault (T : Txt P K mg base) : PySem.W.exmOne K (.ref (He.ga K "BadScore")) (.ref (He.ga K "FixtureFault")) = some true := He.exm_ok (T.d.fact 128)
theorem Txt.e_BadScore_BadTeams (T : Txt P K mg base) : PySem.W.exmOne K (.ref (He.ga K "BadScore")) (.ref (He.ga K "BadTeams")) = some false := He.exm_ok (T.d.fact 129)
theorem Txt.e_BadScore_BadScore (T : Txt P K mg base) : PySem.W.exmOne K (.ref (He.ga K "BadScore")) (.ref (He.ga K "BadScore")) = some true := He.exm_ok (T.d.fact 130)
theorem Txt.e_BadScore_BadRule (T : Txt P K mg base) : PySem.W.exmOne K (.ref (He.ga K "BadScore")) (.ref (He.ga K "BadRule")) = some false := He.exm_ok (T.d.fact 131)
theorem Txt.e_BadScore_Played (T : Txt P K mg base) : PySem.W.exmOne K (.ref (He.ga K "BadScore")) (.ref (He.ga K "Played")) = some false := He.exm_ok (T.d.fact 132)
theorem Txt.e_BadScore_NoPlan (T : Txt P K mg base) : PySem.W.exmOne K (.ref (He.ga K "BadScore")) (.ref (He.ga K "NoPlan")) = some false := He.exm_ok (T.d.fact 133)
theorem Txt.e_BadScore_BadText (T : Txt P K mg base) : PySem.W.exmOne K (.ref (He.ga K "BadScore")) (.ref (He.ga K "BadText")) = some false := He.exm_ok (T.d.fact 134)
theorem Txt.e_BadScore_BadPaper (T : Txt P K mg base) : PySem.W.exmOne K (.ref (He.ga K "BadScore")) (.ref (He.ga K "BadPaper")) = some false := He.exm_ok (T.d.fact 135)
theorem Txt.e_BadScore_TooLarge (T : Txt P K mg base) : PySem.W.exmOne K (.ref (He.ga K "BadScore")) (.ref (He.ga K "TooLarge")) = some false := He.exm_ok (T.d.fact 136)
theorem Txt.e_BadScore_BadDeed (T : Txt P K mg base) : PySem.W.exmOne K (.ref (He.ga K "BadScore")) (.ref (He.ga K "BadDeed")) = some false := He.exm_ok (T.d.fact 137)
theorem Txt.e_BadRule_FixtureFault (T : Txt P K mg base) : PySem.W.exmOne K (.ref (He.ga K "BadRule")) (.ref (He.ga K "FixtureFault")) = some true := He.exm_ok (T.d.fact 138)
theorem Txt.e_BadRule_BadTeams (T : Txt P K mg base) : PySem.W.exmOne K (.ref (He.ga K "BadRule")) (.ref (He.ga K "BadTeams")) = some false := He.exm_ok (T.d.fact 139)
theorem Txt.e_BadRule_BadScore (T : Txt P K mg base) : PySem.W.exmOne K (.ref (He.ga K "BadRule")) (.ref (He.ga K "BadScore")) = some false := He.exm_ok (T.d.fact 140)
theorem Txt.e_BadRule_BadRule (T : Txt P K mg base) : PySem.W.exmOne K (.ref (He.ga K "BadRule")) (.ref (He.ga K "BadRule")) = some true := He.exm_ok (T.d.fact 141)
theorem Txt.e_BadRule_Played (T : Txt P K mg base) : PySem.W.exmOne K (.ref (He.ga K "BadRule")) (.ref (He.ga K "Played")) = some false := He.exm_ok (T.d.fact 142)
theorem Txt.e_BadRule_NoPlan (T : Txt P K mg base) : PySem.W.exmOne K (.ref (He.ga K "BadRule")) (.ref (He.ga K "NoPlan")) = some false := He.exm_ok (T.d.fact 143)
theorem Txt.e_BadRule_BadText (T : Txt P K mg base) : PySem.W.exmOne K (.ref (He.ga K "BadRule")) (.ref (He.ga K "BadText")) = some false := He.exm_ok (T.d.fact 144)
theorem Txt.e_BadRule_BadPaper (T : Txt P K mg base) : PySem.W.exmOne K (.ref (He.ga K "BadRule")) (.ref (He.ga K "BadPaper")) = some false := He.exm_ok (T.d.fact 145)
theorem Txt.e_BadRule_TooLarge (T : Txt P K mg base) : PySem.W.exmOne K (.ref (He.ga K "BadRule")) (.ref (He.ga K "TooLarge")) = some false := He.exm_ok (T.d.fact 146)
theorem Txt.e_BadRule_BadDeed (T : Txt P K mg base) : PySem.W.exmOne K (.ref (He.ga K "BadRule")) (.ref (He.ga K "BadDeed")) = some false := He.exm_ok (T.d.fact 147)
theorem Txt.e_Played_FixtureFault (T : Txt P K mg base) : PySem.W.exmOne K (.ref (He.ga K "Played")) (.ref (He.ga K "FixtureFault")) = some true := He.exm_ok (T.d.fact 148)
theorem Txt.e_Played_BadTeams (T : Txt P K mg base) : PySem.W.exmOne K (.ref (He.ga K "Played")) (.ref (He.ga K "BadTeams")) = some false := He.exm_ok (T.d.fact 149)
theorem Txt.e_Played_BadScore (T : Txt P K mg base) : PySem.W.exmOne K (.ref (He.ga K "Played")) (.ref (He.ga K "BadScore")) = some false := He.exm_ok (T.d.fact 150)
theorem Txt.e_Played_BadRule (T : Txt P K mg base) : PySem.W.exmOne K (.ref (He.ga K "Played")) (.ref (He.ga K "BadRule")) = some false := He.exm_ok (T.d.fact 151)
theorem Txt.e_Played_Played (T : Txt P K mg base) : PySem.W.exmOne K (.ref (He.ga K "Played")) (.ref (He.ga K "Played")) = some true := He.exm_ok (T.d.fact 152)
theorem Txt.e_Played_NoPlan (T : Txt P K mg base) : PySem.W.exmOne K (.ref (He.ga K "Played")) (.ref (He.ga K "NoPlan")) = some false := He.exm_ok (T.d.fact 153)
theorem Txt.e_Played_BadText (T : Txt P K mg base) : PySem.W.exmOne K (.ref (He.ga K "Played")) (.ref (He.ga K "BadText")) = some false := He.exm_ok (T.d.fact 154)
theorem Txt.e_Played_BadPaper (T : Txt P K mg base) : PySem.W.exmOne K (.ref (He.ga K "Played")) (.ref (He.ga K "BadPaper")) = some false := He.exm_ok (T.d.fact 155)
theorem Txt.e_Played_TooLarge (T : Txt P K mg base) : PySem.W.exmOne K (.ref (He.ga K "Played")) (.ref (He.ga K "TooLarge")) = some false := He.exm_ok (T.d.fact 156)
theorem Txt.e_Played_BadDeed (T : Txt P K mg base) : PySem.W.exmOne K (.ref (He.ga K "Played")) (.ref (He.ga K "BadDeed")) = some false := He.exm_ok (T.d.fact 157)
theorem Txt.e_NoPlan_FixtureFault (T : Txt P K mg base) : PySem.W.exmOne K (.ref (He.ga K "NoPlan")) (.ref (He.ga K "FixtureFault")) = some true := He.exm_ok (T.d.fact 158)
theorem Txt.e_NoPlan_BadTeams (T : Txt P K mg base) : PySem.W.exmOne K (.ref (He.ga K "NoPlan")) (.ref (He.ga K "BadTeams")) = some false := He.exm_ok (T.d.fact 159)
theorem Txt.e_NoPlan_BadScore (T : Txt P K mg base) : PySem.W.exmOne K (.ref (He.ga K "NoPlan")) (.ref (He.ga K "BadScore")) = some false := He.exm_ok (T.d.fact 160)
theorem Txt.e_NoPlan_BadRule (T : Txt P K mg base) : PySem.W.exmOne K (.ref (He.ga K "NoPlan")) (.ref (He.ga K "BadRule")) = some false := He.exm_ok (T.d.fact 161)
theorem Txt.e_NoPlan_Played (T : Txt P K mg base) : PySem.W.exmOne K (.ref (He.ga K "NoPlan")) (.ref (He.ga K "Played")) = some false := He.exm_ok (T.d.fact 162)
theorem Txt.e_NoPlan_NoPlan (T : Txt P K mg base) : PySem.W.exmOne K (.ref (He.ga K "NoPlan")) (.ref (He.ga K "NoPlan")) = some true := He.exm_ok (T.d.fact 163)
theorem Txt.e_NoPlan_BadText (T : Txt P K mg base) : PySem.W.exmOne K (.ref (He.ga K "NoPlan")) (.ref (He.ga K "BadText")) = some false := He.exm_ok (T.d.fact 164)
theorem Txt.e_NoPlan_BadPaper (T : Txt P K mg base) : PySem.W.exmOne K (.ref (He.ga K "NoPlan")) (.ref (He.ga K "BadPaper")) = some false := He.exm_ok (T.d.fact 165)
theorem Txt.e_NoPlan_TooLarge (T : Txt P K mg base) : PySem.W.exmOne K (.ref (He.ga K "NoPlan")) (.ref (He.ga K "TooLarge")) = some false := He.exm_ok (T.d.fact 166)
theorem Txt.e_NoPlan_BadDeed (T : Txt P K mg base) : PySem.W.exmOne K (.ref (He.ga K "NoPlan")) (.ref (He.ga K "BadDeed")) = some false := He.exm_ok (T.d.fact 167)
theorem Txt.e_BadText_FixtureFault (T : Txt P K mg base) : PySem.W.exmOne K (.ref (He.ga K "BadText")) (.ref (He.ga K "FixtureFault")) = some true := He.exm_ok (T.d.fact 168)
theorem Txt.e_BadText_BadTeams (T : Txt P K mg base) : PySem.W.exmOne K (.ref (He.ga K "BadText")) (.ref (He.ga K "BadTeams")) = some false := He.exm_ok (T.d.fact 169)
theorem Txt.e_BadText_BadScore (T : Txt P K mg base) : PySem.W.exmOne K (.ref (He.ga K "BadText")) (.ref (He.ga K "BadScore")) = some false := He.exm_ok (T.d.fact 170)
theorem Txt.e_BadText_BadRule (T : Txt P K mg base) : PySem.W.exmOne K (.ref (He.ga K "BadText")) (.ref (He.ga K "BadRule")) = some false := He.exm_ok (T.d.fact 171)
theorem Txt.e_BadText_Played (T : Txt P K mg base) : PySem.W.exmOne K (.ref (He.ga K "BadText")) (.ref (He.ga K "Played")) = some false := He.exm_ok (T.d.fact 172)
theorem Txt.e_BadText_NoPlan (T : Txt P K mg base) : PySem.W.exmOne K (.ref (He.ga K "BadText")) (.ref (He.ga K "NoPlan")) = some false := He.exm_ok (T.d.fact 173)
theorem Txt.e_BadText_BadText (T : Txt P K mg base) : PySem.W.exmOne K (.ref (He.ga K "BadText")) (.ref (He.ga K "BadText")) = some true := He.exm_ok (T.d.fact 174)
theorem Txt.e_BadText_BadPaper (T : Txt P K mg base) : PySem.W.exmOne K (.ref (He.ga K "BadText")) (.ref (He.ga K "BadPaper")) = some false := He.exm_ok (T.d.fact 175)
theorem Txt.e_BadText_TooLarge (T : Txt P K mg base) : PySem.W.exmOne K (.ref (He.ga K "BadText")) (.ref (He.ga K "TooLarge")) = some false := He.exm_ok (T.d.fact 176)
theorem Txt.e_BadText_BadDeed (T : Txt P K mg base) : PySem.W.exmOne K (.ref (He.ga K "BadText")) (.ref (He.ga K "BadDeed")) = some false := He.exm_ok (T.d.fact 177)
theorem Txt.e_BadPaper_FixtureFault (T : Txt P K mg base) : PySem.W.exmOne K (.ref (He.ga K "BadPaper")) (.ref (He.ga K "FixtureFault")) = some true := He.exm_ok (T.d.fact 178)
theorem Txt.e_BadPaper_BadTeams (T : Txt P K mg base) : PySem.W.exmOne K (.ref (He.ga K "BadPaper")) (.ref (He.ga K "BadTeams")) = some false := He.exm_ok (T.d.fact 179)
theorem Txt.e_BadPaper_BadScore (T : Txt P K mg base) : PySem.W.exmOne K (.ref (He.ga K "BadPaper")) (.ref (He.ga K "BadScore")) = some false := He.exm_ok (T.d.fact 180)
theorem Txt.e_BadPaper_BadRule (T : Txt P K mg base) : PySem.W.exmOne K (.ref (He.ga K "BadPaper")) (.ref (He.ga K "BadRule")) = some false := He.exm_ok (T.d.fact 181)
theorem Txt.e_BadPaper_Played (T : Txt P K mg base) : PySem.W.exmOne K (.ref (He.ga K "BadPaper")) (.ref (He.ga K "Played")) = some false := He.exm_ok (T.d.fact 182)
theorem Txt.e_BadPaper_NoPlan (T : Txt P K mg base) : PySem.W.exmOne K (.ref (He.ga K "BadPaper")) (.ref (He.ga K "NoPlan")) = some false := He.exm_ok (T.d.fact 183)
theorem Txt.e_BadPaper_BadText (T : Txt P K mg base) : PySem.W.exmOne K (.ref (He.ga K "BadPaper")) (.ref (He.ga K "BadText")) = some false := He.exm_ok (T.d.fact 184)
theorem Txt.e_BadPaper_BadPaper (T : Txt P K mg base) : PySem.W.exmOne K (.ref (He.ga K "BadPaper")) (.ref (He.ga K "BadPaper")) = some true := He.exm_ok (T.d.fact 185)
theorem Txt.e_BadPaper_TooLarge (T : Txt P K mg base) : PySem.W.exmOne K (.ref (He.ga K "BadPaper")) (.ref (He.ga K "TooLarge")) = some false := He.exm_ok (T.d.fact 186)
theorem Txt.e_BadPaper_BadDeed (T : Txt P K mg base) : PySem.W.exmOne K (.ref (He.ga K "BadPaper")) (.ref (He.ga K "BadDeed")) = some false := He.exm_ok (T.d.fact 187)
theorem Txt.e_TooLarge_FixtureFault (T : Txt P K mg base) : PySem.W.exmOne K (.ref (He.ga K "TooLarge")) (.ref (He.ga K "FixtureFault")) = some true := He.exm_ok (T.d.fact 188)
theorem Txt.e_TooLarge_BadTeams (T : Txt P K mg base) : PySem.W.exmOne K (.ref (He.ga K "TooLarge")) (.ref (He.ga K "BadTeams")) = some false := He.exm_ok (T.d.fact 189)
theorem Txt.e_TooLarge_BadScore (T : Txt P K mg base) : PySem.W.exmOne K (.ref (He.ga K "TooLarge")) (.ref (He.ga K "BadScore")) = some false := He.exm_ok (T.d.fact 190)
theorem Txt.e_TooLarge_BadRule (T : Txt P K mg base) : PySem.W.exmOne K (.ref (He.ga K "TooLarge")) (.ref (He.ga K "BadRule")) = some false := He.exm_ok (T.d.fact 191)
theorem Txt.e_TooLarge_Played (T : Txt P K mg base) : PySem.W.exmOne K (.ref (He.ga K "TooLarge")) (.ref (He.ga K "Played")) = some false := He.exm_ok (T.d.fact 192)
theorem Txt.e_TooLarge_NoPlan (T : Txt P K mg base) : PySem.W.exmOne K (.ref (He.ga K "TooLarge")) (.ref (He.ga K "NoPlan")) = some false := He.exm_ok (T.d.fact 193)
theorem Txt.e_TooLarge_BadText (T : Txt P K mg base) : PySem.W.exmOne K (.ref (He.ga K "TooLarge")) (.ref (He.ga K "BadText")) = some false := He.exm_ok (T.d.fact 194)
theorem Txt.e_TooLarge_BadPaper (T : Txt P K mg base) : PySem.W.exmOne K (.ref (He.ga K "TooLarge")) (.ref (He.ga K "BadPaper")) = some false := He.exm_ok (T.d.fact 195)
theorem Txt.e_TooLarge_TooLarge (T : Txt P K mg base) : PySem.W.exmOne K (.ref (He.ga K "TooLarge")) (.ref (He.ga K "TooLarge")) = some true := He.exm_ok (T.d.fact 196)
theorem Txt.e_TooLarge_BadDeed (T : Txt P K mg base) : PySem.W.exmOne K (.ref (He.ga K "TooLarge")) (.ref (He.ga K "BadDeed")) = some false := He.exm_ok (T.d.fact 197)
theorem Txt.e_BadDeed_FixtureFault (T : Txt P K mg base) : PySem.W.exmOne K (.ref (He.ga K "BadDeed")) (.ref (He.ga K "FixtureFault")) = some true := He.exm_ok (T.d.fact 198)
theorem Txt.e_BadDeed_BadTeams (T : Txt P K mg base) : PySem.W.exmOne K (.ref (He.ga K "BadDeed")) (.ref (He.ga K "BadTeams")) = some false := He.exm_ok (T.d.fact 199)
theorem Txt.e_BadDeed_BadScore (T : Txt P K mg base) : PySem.W.exmOne K (.ref (He.ga K "BadDeed")) (.ref (He.ga K "BadScore")) = some false := He.exm_ok (T.d.fact 200)
theorem Txt.e_BadDeed_BadRule (T : Txt P K mg base) : PySem.W.exmOne K (.ref (He.ga K "BadDeed")) (.ref (He.ga K "BadRule")) = some false := He.exm_ok (T.d.fact 201)
theorem Txt.e_BadDeed_Played (T : Txt P K mg base) : PySem.W.exmOne K (.ref (He.ga K "BadDeed")) (.ref (He.ga K "Played")) = some false := He.exm_ok (T.d.fact 202)
theorem Txt.e_BadDeed_NoPlan (T : Txt P K mg base) : PySem.W.exmOne K (.ref (He.ga K "BadDeed")) (.ref (He.ga K "NoPlan")) = some false := He.exm_ok (T.d.fact 203)
theorem Txt.e_BadDeed_BadText (T : Txt P K mg base) : PySem.W.exmOne K (.ref (He.ga K "BadDeed")) (.ref (He.ga K "BadText")) = some false := He.exm_ok (T.d.fact 204)
theorem Txt.e_BadDeed_BadPaper (T : Txt P K mg base) : PySem.W.exmOne K (.ref (He.ga K "BadDeed")) (.ref (He.ga K "BadPaper")) = some false := He.exm_ok (T.d.fact 205)
theorem Txt.e_BadDeed_TooLarge (T : Txt P K mg base) : PySem.W.exmOne K (.ref (He.ga K "BadDeed")) (.ref (He.ga K "TooLarge")) = some false := He.exm_ok (T.d.fact 206)
theorem Txt.e_BadDeed_BadDeed (T : Txt P K mg base) : PySem.W.exmOne K (.ref (He.ga K "BadDeed")) (.ref (He.ga K "BadDeed")) = some true := He.exm_ok (T.d.fact 207)
theorem Txt.f_wall (T : Txt P K mg base) : ∃ fd, FunD K "_wall" "_wall" (defArgs s_wall) (defBody s_wall) (defScope s_wall) [] [] (He.fAd K ("_wall", none)) fd := T.d.def_ 0
abbrev N_wall : List Str := ["k"]
abbrev ps_wall : List Str := ["k"]
theorem sc_wall : FnScope N_wall ps_wall (defScope s_wall) := C8.fnScope_by (by decide +kernel)
theorem b_wall (kV doc pm : Value) (an : Option Addr) (cdv ct : Value) (us : List Value) (hl : us.length = ps_wall.length) : bindArgs (PySem.W.fnOf "_wall" "_wall" (defArgs s_wall) (defBody s_wall) (defScope s_wall) .none kV doc pm an cdv ct) ⟨us, []⟩ = pure (ps_wall.zip us) := match us, hl with | [_], _ => rfl
theorem Txt.f_part (T : Txt P K mg base) : ∃ fd, FunD K "part" "part" (defArgs s_part) (defBody s_part) (defScope s_part) [] [] (He.fAd K ("part", none)) fd := T.d.def_ 1
abbrev N_part : List Str := ["top", "bottom", "a", "b", "sign"]
abbrev ps_part : List Str := ["top", "bottom"]
theorem sc_part : FnScope N_part ps_part (defScope s_part) := C8.fnScope_by (by decide +kernel)
theorem b_part (kV doc pm : Value) (an : Option Addr) (cdv ct : Value) (us : List Value) (hl : us.length = ps_part.length) : bindArgs (PySem.W.fnOf "part" "part" (defArgs s_part) (defBody s_part) (defScope s_part) .none kV doc pm an cdv ct) ⟨us, []⟩ = pure (ps_part.zip us) := match us, hl with | [_, _], _ => rfl
theorem Txt.f_seeds (T : Txt P K mg base) : ∃ fd, FunD K "seeds" "seeds" (defArgs s_seeds) (defBody s_seeds) (defScope s_seeds) [] [] (He.fAd K ("seeds", none)) fd := T.d.def_ 2
abbrev N_seeds : List Str := ["many", "row", "size", "seed", "one"]
abbrev ps_seeds : List Str := ["many"]
theorem sc_seeds : FnScope N_seeds ps_seeds (defScope s_seeds) := C8.fnScope_by (by decide +kernel)
theorem b_seeds (kV doc pm : Value) (an : Option Addr) (cdv ct : Value) (us : List Value) (hl : us.length = ps_seeds.length) : bindArgs (PySem.W.fnOf "seeds" "seeds" (defArgs s_seeds) (defBody s_seeds) (defScope s_seeds) .none kV doc pm an cdv ct) ⟨us, []⟩ = pure (ps_seeds.zip us) := match us, hl with | [_], _ => rfl
theorem Txt.f_laid (T : Txt P K mg base) : ∃ fd, FunD K "laid" "laid" (defArgs s_laid) (defBody s_laid) (defScope s_laid) [] [] (He.fAd K ("laid", none)) fd := T.d.def_ 3
abbrev N_laid : List Str := ["teams", "team", "size", "k"]
abbrev ps_laid : List Str := ["teams"]
theorem sc_laid : FnScope N_laid ps_laid (defScope s_laid) := C8.fnScope_by (by decide +kernel)
theorem b_laid (kV doc pm : Value) (an : Option Addr) (cdv ct : Value) (us : List Value) (hl : us.length = ps_laid.length) : bindArgs (PySem.W.fnOf "laid" "laid" (defArgs s_laid) (defBody s_laid) (defScope s_laid) .none kV doc pm an cdv ct) ⟨us, []⟩ = pure (ps_laid.zip us) := match us, hl with | [_], _ => rfl
theorem Txt.f_is_word (T : Txt P K mg base) : ∃ fd, FunD K "is_word" "is_word" (defArgs s_is_word) (defBody s_is_word) (defScope s_is_word) [] [] (He.fAd K ("is_word", none)) fd := T.d.def_ 4
abbrev N_is_word : List Str := ["text", "sign"]
abbrev ps_is_word : List Str := ["text"]
theorem sc_is_word : FnScope N_is_word ps_is_word (defScope s_is_word) := C8.fnScope_by (by decide +kernel)
theorem b_is_word (kV doc pm : Value) (an : Option Addr) (cdv ct : Value) (us : List Value) (hl : us.length = ps_is_word.length) : bindArgs (PySem.W.fnOf "is_word" "is_word" (defArgs s_is_word) (defBody s_is_word) (defScope s_is_word) .none kV doc pm an cdv ct) ⟨us, []⟩ = pure (ps_is_word.zip us) := match us, hl with | [_], _ => rfl
theorem Txt.f_is_count (T : Txt P K mg base) : ∃ fd, FunD K "is_count" "is_count" (defArgs s_is_count) (defBody s_is_count) (defScope s_is_count) [] [] (He.fAd K ("is_count", none)) fd := T.d.def_ 5
abbrev N_is_count : List Str := ["word", "sign"]
abbrev ps_is_count : List Str := ["word"]
theorem sc_is_count : FnScope N_is_count ps_is_count (defScope s_is_count) := C8.fnScope_by (by decide +kernel)
theorem b_is_count (kV doc pm : Value) (an : Option Addr) (cdv ct : Value) (us : List Value) (hl : us.length = ps_is_count.length) : bindArgs (PySem.W.fnOf "is_count" "is_count" (defArgs s_is_count) (defBody s_is_count) (defScope s_is_count) .none kV doc pm an cdv ct) ⟨us, []⟩ = pure (ps_is_count.zip us) := match us, hl with | [_], _ => rfl
theorem Txt.f_is_name (T : Txt P K mg base) : ∃ fd, FunD K "is_name" "is_name" (defArgs s_is_name) (defBody s_is_name) (defScope s_is_name) [] [] (He.fAd K ("is_name", none)) fd := T.d.def_ 6
abbrev N_is_name : List Str := ["word"]
abbrev ps_is_name : List Str := ["word"]
theorem sc_is_name : FnScope N_is_name ps_is_name (defScope s_is_name) := C8.fnScope_by (by decide +kernel)
theorem b_is_name (kV doc pm : Value) (an : Option Addr) (cdv ct : Value) (us : List Value) (hl : us.length = ps_is_name.length) : bindArgs (PySem.W.fnOf "is_name" "is_name" (defArgs s_is_name) (defBody s_is_name) (defScope s_is_name) .none kV doc pm an cdv ct) ⟨us, []⟩ = pure (ps_is_name.zip us) := match us, hl with | [_], _ => rfl
theorem Txt.f_read (T : Txt P K mg base) : ∃ fd, FunD K "read" "read" (defArgs s_read) (defBody s_read) (defScope s_read) [] [] (He.fAd K ("read", none)) fd := T.d.def_ 7
abbrev N_read : List Str := ["text", "rows", "season", "k", "row", "words", "names", "one"]
abbrev ps_read : List Str := ["text"]
theorem sc_read : FnScope N_read ps_read (defScope s_read) := C8.fnScope_by (by decide +kernel)
theorem b_read (kV doc pm : Value) (an : Option Addr) (cdv ct : Value) (us : List Value) (hl : us.length = ps_read.length) : bindArgs (PySem.W.fnOf "read" "read" (defArgs s_read) (defBody s_read) (defScope s_read) .none kV doc pm an cdv ct) ⟨us, []⟩ = pure (ps_read.zip us) := match us, hl with | [_], _ => rfl
theorem Txt.f_doubled (T : Txt P K mg base) : ∃ fd, FunD K "doubled" "doubled" (defArgs s_doubled) (defBody s_doubled) (defScope s_doubled) [] [] (He.fAd K ("doubled", none)) fd := T.d.def_ 8
abbrev N_doubled : List Str := ["names", "one"]
abbrev ps_doubled : List Str := ["names"]
theorem sc_doubled : FnScope N_doubled ps_doubled (defScope s_doubled) := C8.fnScope_by (by decide +kernel)
theorem b_doubled (kV doc pm : Value) (an : Option Addr) (cdv ct : Value) (us : List Value) (hl : us.length = ps_doubled.length) : bindArgs (PySem.W.fnOf "doubled" "doubled" (defArgs s_doubled) (defBody s_doubled) (defScope s_doubled) .none kV doc pm an cdv ct) ⟨us, []⟩ = pure (ps_doubled.zip us) := match us, hl with | [_], _ => rfl
theorem Txt.f_read_game (T : Txt P K mg base) : ∃ fd, FunD K "read_game" "read_game" (defArgs s_read_game) (defBody s_read_game) (defScope s_read_game) [] [] (He.fAd K ("read_game", none)) fd := T.d.def_ 9
abbrev N_read_game : List Str := ["season", "words", "row", "good", "one", "game", "goals"]
abbrev ps_read_game : List Str := ["season", "words", "row"]
theorem sc_read_game : FnScope N_read_game ps_read_game (defScope s_read_game) := C8.fnScope_by (by decide +kernel)
theorem b_read_game (kV doc pm : Value) (an : Option Addr) (cdv ct : Value) (us : List Value) (hl : us.length = ps_read_game.length) : bindArgs (PySem.W.fnOf "read_game" "read_game" (defArgs s_read_game) (defBody s_read_game) (defScope s_read_game) .none kV doc pm an cdv ct) ⟨us, []⟩ = pure (ps_read_game.zip us) := match us, hl with | [_, _, _], _ => rfl
theorem Txt.f_told (T : Txt P K mg base) : ∃ fd, FunD K "told" "told" (defArgs s_told) (defBody s_told) (defScope s_told) [] [] (He.fAd K ("told", none)) fd := T.d.def_ 10
abbrev N_told : List Str := ["season", "found", "one", "games", "home", "away", "other"]
abbrev ps_told : List Str := ["season"]
theorem sc_told : FnScope N_told ps_told (defScope s_told) := C8.fnScope_by (by decide +kernel)
theorem b_told (kV doc pm : Value) (an : Option Addr) (cdv ct : Value) (us : List Value) (hl : us.length = ps_told.length) : bindArgs (PySem.W.fnOf "told" "told" (defArgs s_told) (defBody s_told) (defScope s_told) .none kV doc pm an cdv ct) ⟨us, []⟩ = pure (ps_told.zip us) := match us, hl with | [_], _ => rfl
theorem Txt.f_check_teams (T : Txt P K mg base) : ∃ fd, FunD K "check_teams" "check_teams" (defArgs s_check_teams) (defBody s_check_teams) (defScope s_check_teams) [] [] (He.fAd K ("check_teams", none)) fd := T.d.def_ 11
abbrev N_check_teams : List Str := ["teams", "team"]
abbrev ps_check_teams : List Str := ["teams"]
theorem sc_check_teams : FnScope N_check_teams ps_check_teams (defScope s_check_teams) := C8.fnScope_by (by decide +kernel)
theorem b_check_teams (kV doc pm : Value) (an : Option Addr) (cdv ct : Value) (us : List Value) (hl : us.length = ps_check_teams.length) : bindArgs (PySem.W.fnOf "check_teams" "check_teams" (defArgs s_check_teams) (defBody s_check_teams) (defScope s_check_teams) .none kV doc pm an cdv ct) ⟨us, []⟩ = pure (ps_check_teams.zip us) := match us, hl with | [_], _ => rfl
theorem Txt.f_circle (T : Txt P K mg base) : ∃ fd, FunD K "circle" "circle" (defArgs s_circle) (defBody s_circle) (defScope s_circle) [] [] (He.fAd K ("circle", none)) fd := T.d.def_ 12
abbrev N_circle : List Str := ["teams", "row", "many", "found", "turn", "games", "k", "one", "other"]
abbrev ps_circle : List Str := ["teams"]
theorem sc_circle : FnScope N_circle ps_circle (defScope s_circle) := C8.fnScope_by (by decide +kernel)
theorem b_circle (kV doc pm : Value) (an : Option Addr) (cdv ct : Value) (us : List Value) (hl : us.length = ps_circle.length) : bindArgs (PySem.W.fnOf "circle" "circle" (defArgs s_circle) (defBody s_circle) (defScope s_circle) .none kV doc pm an cdv ct) ⟨us, []⟩ = pure (ps_circle.zip us) := match us, hl with | [_], _ => rfl
theorem Txt.f_look_rounds (T : Txt P K mg base) : ∃ fd, FunD K "look_rounds" "look_rounds" (defArgs s_look_rounds) (defBody s_look_rounds) (defScope s_look_rounds) [] [] (He.fAd K ("look_rounds", none)) fd := T.d.def_ 13
abbrev N_look_rounds : List Str := ["teams", "rounds", "each", "met", "k", "games", "seen", "home", "away", "one", "key", "other"]
abbrev ps_look_rounds : List Str := ["teams", "rounds", "each"]
theorem sc_look_rounds : FnScope N_look_rounds ps_look_rounds (defScope s_look_rounds) := C8.fnScope_by (by decide +kernel)
theorem b_look_rounds (kV doc pm : Value) (an : Option Addr) (cdv ct : Value) (us : List Value) (hl : us.length = ps_look_rounds.length) : bindArgs (PySem.W.fnOf "look_rounds" "look_rounds" (defArgs s_look_rounds) (defBody s_look_rounds) (defScope s_look_rounds) .none kV doc pm an cdv ct) ⟨us, []⟩ = pure (ps_look_rounds.zip us) := match us, hl with | [_, _, _], _ => rfl
theorem Txt.f_check_times (T : Txt P K mg base) : ∃ fd, FunD K "check_times" "check_times" (defArgs s_check_times) (defBody s_check_times) (defScope s_check_times) [] [] (He.fAd K ("check_times", none)) fd := T.d.def_ 14
abbrev N_check_times : List Str := ["times", "legs", "time"]
abbrev ps_check_times : List Str := ["times", "legs"]
theorem sc_check_times : FnScope N_check_times ps_check_times (defScope s_check_times) := C8.fnScope_by (by decide +kernel)
theorem b_check_times (kV doc pm : Value) (an : Option Addr) (cdv ct : Value) (us : List Value) (hl : us.length = ps_check_times.length) : bindArgs (PySem.W.fnOf "check_times" "check_times" (defArgs s_check_times) (defBody s_check_times) (defScope s_check_times) .none kV doc pm an cdv ct) ⟨us, []⟩ = pure (ps_check_times.zip us) := match us, hl with | [_, _], _ => rfl
theorem Txt.f_least (T : Txt P K mg base) : ∃ fd, FunD K "least" "least" (defArgs s_least) (defBody s_least) (defScope s_least) [] [] (He.fAd K ("least", none)) fd := T.d.def_ 15
abbrev N_least : List Str := ["times", "runners", "legs", "states", "leg", "fresh", "used", "time", "row", "one", "key", "state"]
abbrev ps_least : List Str := ["times", "runners", "legs"]
theorem sc_least : FnScope N_least ps_least (defScope s_least) := C8.fnScope_by (by decide +kernel)
theorem b_least (kV doc pm : Value) (an : Option Addr) (cdv ct : Value) (us : List Value) (hl : us.length = ps_least.length) : bindArgs (PySem.W.fnOf "least" "least" (defArgs s_least) (defBody s_least) (defScope s_least) .none kV doc pm an cdv ct) ⟨us, []⟩ = pure (ps_least.zip us) := match us, hl with | [_, _, _], _ => rfl
theorem Txt.f_frames (T : Txt P K mg base) : ∃ fd, FunD K "frames" "frames" (defArgs s_frames) (defBody s_frames) (defScope s_frames) [] [] (He.fAd K ("frames", none)) fd := T.d.def_ 16
abbrev N_frames : List Str := ["rolls", "found", "k", "one"]
abbrev ps_frames : List Str := ["rolls"]
theorem sc_frames : FnScope N_frames ps_frames (defScope s_frames) := C8.fnScope_by (by decide +kernel)
theorem b_frames (kV doc pm : Value) (an : Option Addr) (cdv ct : Value) (us : List Value) (hl : us.length = ps_frames.length) : bindArgs (PySem.W.fnOf "frames" "frames" (defArgs s_frames) (defBody s_frames) (defScope s_frames) .none kV doc pm an cdv ct) ⟨us, []⟩ = pure (ps_frames.zip us) := match us, hl with | [_], _ => rfl
theorem Txt.f_last_frame (T : Txt P K mg base) : ∃ fd, FunD K "last_frame" "last_frame" (defArgs s_last_frame) (defBody s_last_frame) (defScope s_last_frame) [] [] (He.fAd K ("last_frame", none)) fd := T.d.def_ 17
abbrev N_last_frame : List Str := ["rolls", "row"]
abbrev ps_last_frame : List Str := ["rolls"]
theorem sc_last_frame : FnScope N_last_frame ps_last_frame (defScope s_last_frame) := C8.fnScope_by (by decide +kernel)
theorem b_last_frame (kV doc pm : Value) (an : Option Addr) (cdv ct : Value) (us : List Value) (hl : us.length = ps_last_frame.length) : bindArgs (PySem.W.fnOf "last_frame" "last_frame" (defArgs s_last_frame) (defBody s_last_frame) (defScope s_last_frame) .none kV doc pm an cdv ct) ⟨us, []⟩ = pure (ps_last_frame.zip us) := match us, hl with | [_], _ => rfl
theorem Txt.f_law_dice (T : Txt P K mg base) : ∃ fd, FunD K "_law_dice" "_law_dice" (defArgs s_law_dice) (defBody s_law_dice) (defScope s_law_dice) [] [] (He.fAd K ("_law_dice", none)) fd := T.d.def_ 18
abbrev N_law_dice : List Str := ["cell"]
abbrev ps_law_dice : List Str := ["cell"]
theorem sc_law_dice : FnScope N_law_dice ps_law_dice (defScope s_law_dice) := C8.fnScope_by (by decide +kernel)
theorem b_law_dice (kV doc pm : Value) (an : Option Addr) (cdv ct : Value) (us : List Value) (hl : us.length = ps_law_dice.length) : bindArgs (PySem.W.fnOf "_law_dice" "_law_dice" (defArgs s_law_dice) (defBody s_law_dice) (defScope s_law_dice) .none kV doc pm an cdv ct) ⟨us, []⟩ = pure (ps_law_dice.zip us) := match us, hl with | [_], _ => rfl
theorem Txt.f_law_roll (T : Txt P K mg base) : ∃ fd, FunD K "_law_roll" "_law_roll" (defArgs s_law_roll) (defBody s_law_roll) (defScope s_law_roll) [] [] (He.fAd K ("_law_roll", none)) fd := T.d.def_ 19
abbrev N_law_roll : List Str := ["dice", "many", "found"]
abbrev ps_law_roll : List Str := ["dice", "many"]
theorem sc_law_roll : FnScope N_law_roll ps_law_roll (defScope s_law_roll) := C8.fnScope_by (by decide +kernel)
theorem b_law_roll (kV doc pm : Value) (an : Option Addr) (cdv ct : Value) (us : List Value) (hl : us.length = ps_law_roll.length) : bindArgs (PySem.W.fnOf "_law_roll" "_law_roll" (defArgs s_law_roll) (defBody s_law_roll) (defScope s_law_roll) .none kV doc pm an cdv ct) ⟨us, []⟩ = pure (ps_law_roll.zip us) := match us, hl with | [_, _], _ => rfl
theorem Txt.f_law_rounds (T : Txt P K mg base) : ∃ fd, FunD K "_law_rounds" "_law_rounds" (defArgs s_law_rounds) (defBody s_law_rounds) (defScope s_law_rounds) [] [] (He.fAd K ("_law_rounds", none)) fd := T.d.def_ 20
abbrev N_law_rounds : List Str := ["script", "most", "cells", "cell"]
abbrev ps_law_rounds : List Str := ["script", "most"]
theorem sc_law_rounds : FnScope N_law_rounds ps_law_rounds (defScope s_law_rounds) := C8.fnScope_by (by decide +kernel)
theorem b_law_rounds (kV doc pm : Value) (an : Option Addr) (cdv ct : Value) (us : List Value) (hl : us.length = ps_law_rounds.length) : bindArgs (PySem.W.fnOf "_law_rounds" "_law_rounds" (defArgs s_law_rounds) (defBody s_law_rounds) (defScope s_law_rounds) .none kV doc pm an cdv ct) ⟨us, []⟩ = pure (ps_law_rounds.zip us) := match us, hl with | [_, _], _ => rfl
theorem Txt.f_law_told (T : Txt P K mg base) : ∃ fd, FunD K "_law_told" "_law_told" (defArgs s_law_told) (defBody s_law_told) (defScope s_law_told) [] [] (He.fAd K ("_law_told", none)) fd := T.d.def_ 21
abbrev N_law_told : List Str := ["what", "e", "some"]
abbrev ps_law_told : List Str := ["what"]
theorem sc_law_told : FnScope N_law_told ps_law_told (defScope s_law_told) := C8.fnScope_by (by decide +kernel)
theorem b_law_told (kV doc pm : Value) (an : Option Addr) (cdv ct : Value) (us : List Value) (hl : us.length = ps_law_told.length) : bindArgs (PySem.W.fnOf "_law_told" "_law_told" (defArgs s_law_told) (defBody s_law_told) (defScope s_law_told) .none kV doc pm an cdv ct) ⟨us, []⟩ = pure (ps_law_told.zip us) := match us, hl with | [_], _ => rfl
theorem Txt.f_law (T : Txt P K mg base) : ∃ fd, FunD K "law" "law" (defArgs s_law) (defBody s_law) (defScope s_law) [] [] (He.fAd K ("law", none)) fd := T.d.def_ 22
abbrev N_law : List Str := ["script", "dice", "many", "desk", "whats", "k", "j"]
abbrev ps_law : List Str := ["script"]
theorem sc_law : FnScope N_law ps_law (defScope s_law) := C8.fnScope_by (by decide +kernel)
theorem b_law (kV doc pm : Value) (an : Option Addr) (cdv ct : Value) (us : List Value) (hl : us.length = ps_law.length) : bindArgs (PySem.W.fnOf "law" "law" (defArgs s_law) (defBody s_law) (defScope s_law) .none kV doc pm an cdv ct) ⟨us, []⟩ = pure (ps_law.zip us) := match us, hl with | [_], _ => rfl
theorem Txt.f_Cup_d_initd_ (T : Txt P K mg base) : ∃ fd, FunD K "__init__" "Cup.__init__" (defArgs s_Cup_d_initd_) (defBody s_Cup_d_initd_) (defScope s_Cup_d_initd_) [] [] (He.fAd K ("Cup", some "__init__")) fd := T.d.def_ 23
abbrev N_Cup_d_initd_ : List Str := ["self", "teams"]
abbrev ps_Cup_d_initd_ : List Str := ["self", "teams"]
theorem sc_Cup_d_initd_ : FnScope N_Cup_d_initd_ ps_Cup_d_initd_ (defScope s_Cup_d_initd_) := C8.fnScope_by (by decide +kernel)
theorem b_Cup_d_initd_ (kV doc pm : Value) (an : Option Addr) (cdv ct : Value) (us : List Value) (hl : us.length = ps_Cup_d_initd_.length) : bindArgs (PySem.W.fnOf "__init__" "Cup.__init__" (defArgs s_Cup_d_initd_) (defBody s_Cup_d_initd_) (defScope s_Cup_d_initd_) .none kV doc pm an cdv ct) ⟨us, []⟩ = pure (ps_Cup_d_initd_.zip us) := match us, hl with | [_, _], _ => rfl
theorem Txt.f_Cup_byes (T : Txt P K mg base) : ∃ fd, FunD K "byes" "Cup.byes" (defArgs s_Cup_byes) (defBody s_Cup_byes) (defScope s_Cup_byes) [] [] (He.fAd K ("Cup", some "byes")) fd := T.d.def_ 24
abbrev N_Cup_byes : List Str := ["self", "first", "k"]
abbrev ps_Cup_byes : List Str := ["self"]
theorem sc_Cup_byes : FnScope N_Cup_byes ps_Cup_byes (defScope s_Cup_byes) := C8.fnScope_by (by decide +kernel)
theorem b_Cup_byes (kV doc pm : Value) (an : Option Addr) (cdv ct : Value) (us : List Value) (hl : us.length = ps_Cup_byes.length) : bindArgs (PySem.W.fnOf "byes" "Cup.byes" (defArgs s_Cup_byes) (defBody s_Cup_byes) (defScope s_Cup_byes) .none kV doc pm an cdv ct) ⟨us, []⟩ = pure (ps_Cup_byes.zip us) := match us, hl with | [_], _ => rfl
theorem Txt.f_Cup_due (T : Txt P K mg base) : ∃ fd, FunD K "due" "Cup.due" (defArgs s_Cup_due) (defBody s_Cup_due) (defScope s_Cup_due) [] [] (He.fAd K ("Cup", some "due")) fd := T.d.def_ 25
abbrev N_Cup_due : List Str := ["self", "found", "k", "row", "j", "one", "other"]
abbrev ps_Cup_due : List Str := ["self"]
theorem sc_Cup_due : FnScope N_Cup_due ps_Cup_due (defScope s_Cup_due) := C8.fnScope_by (by decide +kernel)
theorem b_Cup_due (kV doc pm : Value) (an : Option Addr) (cdv ct : Value) (us : List Value) (hl : us.length = ps_Cup_due.length) : bindArgs (PySem.W.fnOf "due" "Cup.due" (defArgs s_Cup_due) (defBody s_Cup_due) (defScope s_Cup_due) .none kV doc pm an cdv ct) ⟨us, []⟩ = pure (ps_Cup_due.zip us) := match us, hl with | [_], _ => rfl
theorem Txt.f_Cup_win (T : Txt P K mg base) : ∃ fd, FunD K "win" "Cup.win" (defArgs s_Cup_win) (defBody s_Cup_win) (defScope s_Cup_win) [] [] (He.fAd K ("Cup", some "win")) fd := T.d.def_ 26
abbrev N_Cup_win : List Str := ["self", "winner", "loser", "k", "j", "one", "other"]
abbrev ps_Cup_win : List Str := ["self", "winner", "loser"]
theorem sc_Cup_win : FnScope N_Cup_win ps_Cup_win (defScope s_Cup_win) := C8.fnScope_by (by decide +kernel)
theorem b_Cup_win (kV doc pm : Value) (an : Option Addr) (cdv ct : Value) (us : List Value) (hl : us.length = ps_Cup_win.length) : bindArgs (PySem.W.fnOf "win" "Cup.win" (defArgs s_Cup_win) (defBody s_Cup_win) (defScope s_Cup_win) .none kV doc pm an cdv ct) ⟨us, []⟩ = pure (ps_Cup_win.zip us) := match us, hl with | [_, _, _], _ => rfl
theorem Txt.f_Cup_champion (T : Txt P K mg base) : ∃ fd, FunD K "champion" "Cup.champion" (defArgs s_Cup_champion) (defBody s_Cup_champion) (defScope s_Cup_champion) [] [] (He.fAd K ("Cup", some "champion")) fd := T.d.def_ 27
abbrev N_Cup_champion : List Str := ["self"]
abbrev ps_Cup_champion : List Str := ["self"]
theorem sc_Cup_champion : FnScope N_Cup_champion ps_Cup_champion (defScope s_Cup_champion) := C8.fnScope_by (by decide +kernel)
theorem b_Cup_champion (kV doc pm : Value) (an : Option Addr) (cdv ct : Value) (us : List Value) (hl : us.length = ps_Cup_champion.length) : bindArgs (PySem.W.fnOf "champion" "Cup.champion" (defArgs s_Cup_champion) (defBody s_Cup_champion) (defScope s_Cup_champion) .none kV doc pm an cdv ct) ⟨us, []⟩ = pure (ps_Cup_champion.zip us) := match us, hl with | [_], _ => rfl
theorem Txt.f_Cup_by_round (T : Txt P K mg base) : ∃ fd, FunD K "by_round" "Cup.by_round" (defArgs s_Cup_by_round) (defBody s_Cup_by_round) (defScope s_Cup_by_round) [] [] (He.fAd K ("Cup", some "by_round")) fd := T.d.def_ 28
abbrev N_Cup_by_round : List Str := ["self", "team"]
abbrev ps_Cup_by_round : List Str := ["self", "team"]
theorem sc_Cup_by_round : FnScope N_Cup_by_round ps_Cup_by_round (defScope s_Cup_by_round) := C8.fnScope_by (by decide +kernel)
theorem b_Cup_by_round (kV doc pm : Value) (an : Option Addr) (cdv ct : Value) (us : List Value) (hl : us.length = ps_Cup_by_round.length) : bindArgs (PySem.W.fnOf "by_round" "Cup.by_round" (defArgs s_Cup_by_round) (defBody s_Cup_by_round) (defScope s_Cup_by_round) .none kV doc pm an cdv ct) ⟨us, []⟩ = pure (ps_Cup_by_round.zip us) := match us, hl with | [_, _], _ => rfl
theorem Txt.f_Season_d_initd_ (T : Txt P K mg base) : ∃ fd, FunD K "__init__" "Season.__init__" (defArgs s_Season_d_initd_) (defBody s_Season_d_initd_) (defScope s_Season_d_initd_) [] [] (He.fAd K ("Season", some "__init__")) fd := T.d.def_ 29
abbrev N_Season_d_initd_ : List Str := ["self", "teams", "worth", "rules"]
abbrev ps_Season_d_initd_ : List Str := ["self", "teams", "worth", "rules"]
theorem sc_Season_d_initd_ : FnScope N_Season_d_initd_ ps_Season_d_initd_ (defScope s_Season_d_initd_) := C8.fnScope_by (by decide +kernel)
theorem b_Season_d_initd_ (kV doc pm : Value) (an : Option Addr) (cdv ct : Value) (us : List Value) (hl : us.length = ps_Season_d_initd_.length) : bindArgs (PySem.W.fnOf "__init__" "Season.__init__" (defArgs s_Season_d_initd_) (defBody s_Season_d_initd_) (defScope s_Season_d_initd_) .none kV doc pm an cdv ct) ⟨us, []⟩ = pure (ps_Season_d_initd_.zip us) := match us, hl with | [_, _, _, _], _ => rfl
theorem Txt.f_Season_lay (T : Txt P K mg base) : ∃ fd, FunD K "lay" "Season.lay" (defArgs s_Season_lay) (defBody s_Season_lay) (defScope s_Season_lay) [] [] (He.fAd K ("Season", some "lay")) fd := T.d.def_ 30
abbrev N_Season_lay : List Str := ["self", "rounds"]
abbrev ps_Season_lay : List Str := ["self", "rounds"]
theorem sc_Season_lay : FnScope N_Season_lay ps_Season_lay (defScope s_Season_lay) := C8.fnScope_by (by decide +kernel)
theorem b_Season_lay (kV doc pm : Value) (an : Option Addr) (cdv ct : Value) (us : List Value) (hl : us.length = ps_Season_lay.length) : bindArgs (PySem.W.fnOf "lay" "Season.lay" (defArgs s_Season_lay) (defBody s_Season_lay) (defScope s_Season_lay) .none kV doc pm an cdv ct) ⟨us, []⟩ = pure (ps_Season_lay.zip us) := match us, hl with | [_, _], _ => rfl
theorem Txt.f_Season_table (T : Txt P K mg base) : ∃ fd, FunD K "table" "Season.table" (defArgs s_Season_table) (defBody s_Season_table) (defScope s_Season_table) [] [] (He.fAd K ("Season", some "table")) fd := T.d.def_ 31
abbrev N_Season_table : List Str := ["self"]
abbrev ps_Season_table : List Str := ["self"]
theorem sc_Season_table : FnScope N_Season_table ps_Season_table (defScope s_Season_table) := C8.fnScope_by (by decide +kernel)
theorem b_Season_table (kV doc pm : Value) (an : Option Addr) (cdv ct : Value) (us : List Value) (hl : us.length = ps_Season_table.length) : bindArgs (PySem.W.fnOf "table" "Season.table" (defArgs s_Season_table) (defBody s_Season_table) (defScope s_Season_table) .none kV doc pm an cdv ct) ⟨us, []⟩ = pure (ps_Season_table.zip us) := match us, hl with | [_], _ => rfl
theorem Txt.f_Season_up_to (T : Txt P K mg base) : ∃ fd, FunD K "up_to" "Season.up_to" (defArgs s_Season_up_to) (defBody s_Season_up_to) (defScope s_Season_up_to) [] [] (He.fAd K ("Season", some "up_to")) fd := T.d.def_ 32
abbrev N_Season_up_to : List Str := ["self", "many"]
abbrev ps_Season_up_to : List Str := ["self", "many"]
theorem sc_Season_up_to : FnScope N_Season_up_to ps_Season_up_to (defScope s_Season_up_to) := C8.fnScope_by (by decide +kernel)
theorem b_Season_up_to (kV doc pm : Value) (an : Option Addr) (cdv ct : Value) (us : List Value) (hl : us.length = ps_Season_up_to.length) : bindArgs (PySem.W.fnOf "up_to" "Season.up_to" (defArgs s_Season_up_to) (defBody s_Season_up_to) (defScope s_Season_up_to) .none kV doc pm an cdv ct) ⟨us, []⟩ = pure (ps_Season_up_to.zip us) := match us, hl with | [_, _], _ => rfl
theorem Txt.f_Season_unplayed (T : Txt P K mg base) : ∃ fd, FunD K "unplayed" "Season.unplayed" (defArgs s_Season_unplayed) (defBody s_Season_unplayed) (defScope s_Season_unplayed) [] [] (He.fAd K ("Season", some "unplayed")) fd := T.d.def_ 33
abbrev N_Season_unplayed : List Str := ["self"]
abbrev ps_Season_unplayed : List Str := ["self"]
theorem sc_Season_unplayed : FnScope N_Season_unplayed ps_Season_unplayed (defScope s_Season_unplayed) := C8.fnScope_by (by decide +kernel)
theorem b_Season_unplayed (kV doc pm : Value) (an : Option Addr) (cdv ct : Value) (us : List Value) (hl : us.length = ps_Season_unplayed.length) : bindArgs (PySem.W.fnOf "unplayed" "Season.unplayed" (defArgs s_Season_unplayed) (defBody s_Season_unplayed) (defScope s_Season_unplayed) .none kV doc pm an cdv ct) ⟨us, []⟩ = pure (ps_Season_unplayed.zip us) := match us, hl with | [_], _ => rfl
theorem Txt.f_Season_put (T : Txt P K mg base) : ∃ fd, FunD K "put" "Season.put" (defArgs s_Season_put) (defBody s_Season_put) (defScope s_Season_put) [] [] (He.fAd K ("Season", some "put")) fd := T.d.def_ 34
abbrev N_Season_put : List Str := ["self", "k", "home", "away", "one", "other", "games", "j", "row"]
abbrev ps_Season_put : List Str := ["self", "k", "home", "away", "one", "other"]
theorem sc_Season_put : FnScope N_Season_put ps_Season_put (defScope s_Season_put) := C8.fnScope_by (by decide +kernel)
theorem b_Season_put (kV doc pm : Value) (an : Option Addr) (cdv ct : Value) (us : List Value) (hl : us.length = ps_Season_put.length) : bindArgs (PySem.W.fnOf "put" "Season.put" (defArgs s_Season_put) (defBody s_Season_put) (defScope s_Season_put) .none kV doc pm an cdv ct) ⟨us, []⟩ = pure (ps_Season_put.zip us) := match us, hl with | [_, _, _, _, _, _], _ => rfl
theorem Txt.f_Desk_d_initd_ (T : Txt P K mg base) : ∃ fd, FunD K "__init__" "Desk.__init__" (defArgs s_Desk_d_initd_) (defBody s_Desk_d_initd_) (defScope s_Desk_d_initd_) [] [] (He.fAd K ("Desk", some "__init__")) fd := T.d.def_ 35
abbrev N_Desk_d_initd_ : List Str := ["self"]
abbrev ps_Desk_d_initd_ : List Str := ["self"]
theorem sc_Desk_d_initd_ : FnScope N_Desk_d_initd_ ps_Desk_d_initd_ (defScope s_Desk_d_initd_) := C8.fnScope_by (by decide +kernel)
theorem b_Desk_d_initd_ (kV doc pm : Value) (an : Option Addr) (cdv ct : Value) (us : List Value) (hl : us.length = ps_Desk_d_initd_.length) : bindArgs (PySem.W.fnOf "__init__" "Desk.__init__" (defArgs s_Desk_d_initd_) (defBody s_Desk_d_initd_) (defScope s_Desk_d_initd_) .none kV doc pm an cdv ct) ⟨us, []⟩ = pure (ps_Desk_d_initd_.zip us) := match us, hl with | [_], _ => rfl
theorem Txt.f_Desk_note (T : Txt P K mg base) : ∃ fd, FunD K "note" "Desk.note" (defArgs s_Desk_note) (defBody s_Desk_note) (defScope s_Desk_note) [] [] (He.fAd K ("Desk", some "note")) fd := T.d.def_ 36
abbrev N_Desk_note : List Str := ["self", "shown"]
abbrev ps_Desk_note : List Str := ["self", "shown"]
theorem sc_Desk_note : FnScope N_Desk_note ps_Desk_note (defScope s_Desk_note) := C8.fnScope_by (by decide +kernel)
theorem b_Desk_note (kV doc pm : Value) (an : Option Addr) (cdv ct : Value) (us : List Value) (hl : us.length = ps_Desk_note.length) : bindArgs (PySem.W.fnOf "note" "Desk.note" (defArgs s_Desk_note) (defBody s_Desk_note) (defScope s_Desk_note) .none kV doc pm an cdv ct) ⟨us, []⟩ = pure (ps_Desk_note.zip us) := match us, hl with | [_, _], _ => rfl
theorem Txt.f_Desk_begin (T : Txt P K mg base) : ∃ fd, FunD K "begin" "Desk.begin" (defArgs s_Desk_begin) (defBody s_Desk_begin) (defScope s_Desk_begin) [] [] (He.fAd K ("Desk", some "begin")) fd := T.d.def_ 37
abbrev N_Desk_begin : List Str := ["self", "teams", "is_twice"]
abbrev ps_Desk_begin : List Str := ["self", "teams", "is_twice"]
theorem sc_Desk_begin : FnScope N_Desk_begin ps_Desk_begin (defScope s_Desk_begin) := C8.fnScope_by (by decide +kernel)
theorem b_Desk_begin (kV doc pm : Value) (an : Option Addr) (cdv ct : Value) (us : List Value) (hl : us.length = ps_Desk_begin.length) : bindArgs (PySem.W.fnOf "begin" "Desk.begin" (defArgs s_Desk_begin) (defBody s_Desk_begin) (defScope s_Desk_begin) .none kV doc pm an cdv ct) ⟨us, []⟩ = pure (ps_Desk_begin.zip us) := match us, hl with | [_, _, _], _ => rfl
theorem Txt.f_Desk_put (T : Txt P K mg base) : ∃ fd, FunD K "put" "Desk.put" (defArgs s_Desk_put) (defBody s_Desk_put) (defScope s_Desk_put) [] [] (He.fAd K ("Desk", some "put")) fd := T.d.def_ 38
abbrev N_Desk_put : List Str := ["self", "k", "home", "away", "one", "other", "season"]
abbrev ps_Desk_put : List Str := ["self", "k", "home", "away", "one", "other"]
theorem sc_Desk_put : FnScope N_Desk_put ps_Desk_put (defScope s_Desk_put) := C8.fnScope_by (by decide +kernel)
theorem b_Desk_put (kV doc pm : Value) (an : Option Addr) (cdv ct : Value) (us : List Value) (hl : us.length = ps_Desk_put.length) : bindArgs (PySem.W.fnOf "put" "Desk.put" (defArgs s_Desk_put) (defBody s_Desk_put) (defScope s_Desk_put) .none kV doc pm an cdv ct) ⟨us, []⟩ = pure (ps_Desk_put.zip us) := match us, hl with | [_, _, _, _, _, _], _ => rfl
theorem Txt.f_Desk_table (T : Txt P K mg base) : ∃ fd, FunD K "table" "Desk.table" (defArgs s_Desk_table) (defBody s_Desk_table) (defScope s_Desk_table) [] [] (He.fAd K ("Desk", some "table")) fd := T.d.def_ 39
abbrev N_Desk_table : List Str := ["self"]
abbrev ps_Desk_table : List Str := ["self"]
theorem sc_Desk_table : FnScope N_Desk_table ps_Desk_table (defScope s_Desk_table) := C8.fnScope_by (by decide +kernel)
theorem b_Desk_table (kV doc pm : Value) (an : Option Addr) (cdv ct : Value) (us : List Value) (hl : us.length = ps_Desk_table.length) : bindArgs (PySem.W.fnOf "table" "Desk.table" (defArgs s_Desk_table) (defBody s_Desk_table) (defScope s_Desk_table) .none kV doc pm an cdv ct) ⟨us, []⟩ = pure (ps_Desk_table.zip us) := match us, hl with | [_], _ => rfl
theorem Txt.f_Desk_undo (T : Txt P K mg base) : ∃ fd, FunD K "undo" "Desk.undo" (defArgs s_Desk_undo) (defBody s_Desk_undo) (defScope s_Desk_undo) [] [] (He.fAd K ("Desk", some "undo")) fd := T.d.def_ 40
abbrev N_Desk_undo : List Str := ["self"]
abbrev ps_Desk_undo : List Str := ["self"]
theorem sc_Desk_undo : FnScope N_Desk_undo ps_Desk_undo (defScope s_Desk_undo) := C8.fnScope_by (by decide +kernel)
theorem b_Desk_undo (kV doc pm : Value) (an : Option Addr) (cdv ct : Value) (us : List Value) (hl : us.length = ps_Desk_undo.length) : bindArgs (PySem.W.fnOf "undo" "Desk.undo" (defArgs s_Desk_undo) (defBody s_Desk_undo) (defScope s_Desk_undo) .none kV doc pm an cdv ct) ⟨us, []⟩ = pure (ps_Desk_undo.zip us) := match us, hl with | [_], _ => rfl
theorem Txt.f_Desk_redo (T : Txt P K mg base) : ∃ fd, FunD K "redo" "Desk.redo" (defArgs s_Desk_redo) (defBody s_Desk_redo) (defScope s_Desk_redo) [] [] (He.fAd K ("Desk", some "redo")) fd := T.d.def_ 41
abbrev N_Desk_redo : List Str := ["self"]
abbrev ps_Desk_redo : List Str := ["self"]
theorem sc_Desk_redo : FnScope N_Desk_redo ps_Desk_redo (defScope s_Desk_redo) := C8.fnScope_by (by decide +kernel)
theorem b_Desk_redo (kV doc pm : Value) (an : Option Addr) (cdv ct : Value) (us : List Value) (hl : us.length = ps_Desk_redo.length) : bindArgs (PySem.W.fnOf "redo" "Desk.redo" (defArgs s_Desk_redo) (defBody s_Desk_redo) (defScope s_Desk_redo) .none kV doc pm an cdv ct) ⟨us, []⟩ = pure (ps_Desk_redo.zip us) := match us, hl with | [_], _ => rfl
theorem Txt.f_Slots_d_initd_ (T : Txt P K mg base) : ∃ fd, FunD K "__init__" "Slots.__init__" (defArgs s_Slots_d_initd_) (defBody s_Slots_d_initd_) (defScope s_Slots_d_initd_) [] [] (He.fAd K ("Slots", some "__init__")) fd := T.d.def_ 42
abbrev N_Slots_d_initd_ : List Str := ["self", "grounds", "many", "barred", "pair"]
abbrev ps_Slots_d_initd_ : List Str := ["self", "grounds", "many", "barred"]
theorem sc_Slots_d_initd_ : FnScope N_Slots_d_initd_ ps_Slots_d_initd_ (defScope s_Slots_d_initd_) := C8.fnScope_by (by decide +kernel)
theorem b_Slots_d_initd_ (kV doc pm : Value) (an : Option Addr) (cdv ct : Value) (us : List Value) (hl : us.length = ps_Slots_d_initd_.length) : bindArgs (PySem.W.fnOf "__init__" "Slots.__init__" (defArgs s_Slots_d_initd_) (defBody s_Slots_d_initd_) (defScope s_Slots_d_initd_) .none kV doc pm an cdv ct) ⟨us, []⟩ = pure (ps_Slots_d_initd_.zip us) := match us, hl with | [_, _, _, _], _ => rfl
theorem Txt.f_Slots_free (T : Txt P K mg base) : ∃ fd, FunD K "free" "Slots.free" (defArgs s_Slots_free) (defBody s_Slots_free) (defScope s_Slots_free) [] [] (He.fAd K ("Slots", some "free")) fd := T.d.def_ 43
abbrev N_Slots_free : List Str := ["self", "team", "time"]
abbrev ps_Slots_free : List Str := ["self", "team", "time"]
theorem sc_Slots_free : FnScope N_Slots_free ps_Slots_free (defScope s_Slots_free) := C8.fnScope_by (by decide +kernel)
theorem b_Slots_free (kV doc pm : Value) (an : Option Addr) (cdv ct : Value) (us : List Value) (hl : us.length = ps_Slots_free.length) : bindArgs (PySem.W.fnOf "free" "Slots.free" (defArgs s_Slots_free) (defBody s_Slots_free) (defScope s_Slots_free) .none kV doc pm an cdv ct) ⟨us, []⟩ = pure (ps_Slots_free.zip us) := match us, hl with | [_, _, _], _ => rfl
theorem Txt.f_Slots_laid (T : Txt P K mg base) : ∃ fd, FunD K "laid" "Slots.laid" (defArgs s_Slots_laid) (defBody s_Slots_laid) (defScope s_Slots_laid) [] [] (He.fAd K ("Slots", some "laid")) fd := T.d.def_ 44
abbrev N_Slots_laid : List Str := ["self", "games", "rest", "found"]
abbrev ps_Slots_laid : List Str := ["self", "games", "rest"]
theorem sc_Slots_laid : FnScope N_Slots_laid ps_Slots_laid (defScope s_Slots_laid) := C8.fnScope_by (by decide +kernel)
theorem b_Slots_laid (kV doc pm : Value) (an : Option Addr) (cdv ct : Value) (us : List Value) (hl : us.length = ps_Slots_laid.length) : bindArgs (PySem.W.fnOf "laid" "Slots.laid" (defArgs s_Slots_laid) (defBody s_Slots_laid) (defScope s_Slots_laid) .none kV doc pm an cdv ct) ⟨us, []⟩ = pure (ps_Slots_laid.zip us) := match us, hl with | [_, _, _], _ => rfl
theorem Txt.f_Slots_tried (T : Txt P K mg base) : ∃ fd, FunD K "tried" "Slots.tried" (defArgs s_Slots_tried) (defBody s_Slots_tried) (defScope s_Slots_tried) [] [] (He.fAd K ("Slots", some "tried")) fd := T.d.def_ 45
abbrev N_Slots_tried : List Str := ["self", "games", "k", "row", "rest", "time", "ground", "found"]
abbrev ps_Slots_tried : List Str := ["self", "games", "k", "row", "rest"]
theorem sc_Slots_tried : FnScope N_Slots_tried ps_Slots_tried (defScope s_Slots_tried) := C8.fnScope_by (by decide +kernel)
theorem b_Slots_tried (kV doc pm : Value) (an : Option Addr) (cdv ct : Value) (us : List Value) (hl : us.length = ps_Slots_tried.length) : bindArgs (PySem.W.fnOf "tried" "Slots.tried" (defArgs s_Slots_tried) (defBody s_Slots_tried) (defScope s_Slots_tried) .none kV doc pm an cdv ct) ⟨us, []⟩ = pure (ps_Slots_tried.zip us) := match us, hl with | [_, _, _, _, _], _ => rfl
theorem Txt.f_Slots_fits (T : Txt P K mg base) : ∃ fd, FunD K "fits" "Slots.fits" (defArgs s_Slots_fits) (defBody s_Slots_fits) (defScope s_Slots_fits) [] [] (He.fAd K ("Slots", some "fits")) fd := T.d.def_ 46
abbrev N_Slots_fits : List Str := ["self", "games", "row", "k", "time", "rest", "team", "game", "ground", "then"]
abbrev ps_Slots_fits : List Str := ["self", "games", "row", "k", "time", "rest"]
theorem sc_Slots_fits : FnScope N_Slots_fits ps_Slots_fits (defScope s_Slots_fits) := C8.fnScope_by (by decide +kernel)
theorem b_Slots_fits (kV doc pm : Value) (an : Option Addr) (cdv ct : Value) (us : List Value) (hl : us.length = ps_Slots_fits.length) : bindArgs (PySem.W.fnOf "fits" "Slots.fits" (defArgs s_Slots_fits) (defBody s_Slots_fits) (defScope s_Slots_fits) .none kV doc pm an cdv ct) ⟨us, []⟩ = pure (ps_Slots_fits.zip us) := match us, hl with | [_, _, _, _, _, _], _ => rfl
theorem Txt.f_Slots_look (T : Txt P K mg base) : ∃ fd, FunD K "look" "Slots.look" (defArgs s_Slots_look) (defBody s_Slots_look) (defScope s_Slots_look) [] [] (He.fAd K ("Slots", some "look")) fd := T.d.def_ 47
abbrev N_Slots_look : List Str := ["self", "games", "rest", "row"]
abbrev ps_Slots_look : List Str := ["self", "games", "rest", "row"]
theorem sc_Slots_look : FnScope N_Slots_look ps_Slots_look (defScope s_Slots_look) := C8.fnScope_by (by decide +kernel)
theorem b_Slots_look (kV doc pm : Value) (an : Option Addr) (cdv ct : Value) (us : List Value) (hl : us.length = ps_Slots_look.length) : bindArgs (PySem.W.fnOf "look" "Slots.look" (defArgs s_Slots_look) (defBody s_Slots_look) (defScope s_Slots_look) .none kV doc pm an cdv ct) ⟨us, []⟩ = pure (ps_Slots_look.zip us) := match us, hl with | [_, _, _, _], _ => rfl
theorem Txt.f_Slots_length (T : Txt P K mg base) : ∃ fd, FunD K "length" "Slots.length" (defArgs s_Slots_length) (defBody s_Slots_length) (defScope s_Slots_length) [] [] (He.fAd K ("Slots", some "length")) fd := T.d.def_ 48
abbrev N_Slots_length : List Str := ["self", "row"]
abbrev ps_Slots_length : List Str := ["self", "row"]
theorem sc_Slots_length : FnScope N_Slots_length ps_Slots_length (defScope s_Slots_length) := C8.fnScope_by (by decide +kernel)
theorem b_Slots_length (kV doc pm : Value) (an : Option Addr) (cdv ct : Value) (us : List Value) (hl : us.length = ps_Slots_length.length) : bindArgs (PySem.W.fnOf "length" "Slots.length" (defArgs s_Slots_length) (defBody s_Slots_length) (defScope s_Slots_length) .none kV doc pm an cdv ct) ⟨us, []⟩ = pure (ps_Slots_length.zip us) := match us, hl with | [_, _], _ => rfl
theorem Txt.t_is_word (T : Txt P K mg base) : PySem.W.codeHdIn K (He.cT K ("is_word", none)).1 (He.cT K ("is_word", none)).2 = true := T.hd _ (List.mem_of_getElem? (i := 0) rfl)
theorem Txt.t_is_count (T : Txt P K mg base) : PySem.W.codeHdIn K (He.cT K ("is_count", none)).1 (He.cT K ("is_count", none)).2 = true := T.hd _ (List.mem_of_getElem? (i := 1) rfl)
theorem Txt.t_read (T : Txt P K mg base) : PySem.W.codeHdIn K (He.cT K ("read", none)).1 (He.cT K ("read", none)).2 = true := T.hd _ (List.mem_of_getElem? (i := 2) rfl)
theorem Txt.t_read_game (T : Txt P K mg base) : PySem.W.codeHdIn K (He.cT K ("read_game", none)).1 (He.cT K ("read_game", none)).2 = true := T.hd _ (List.mem_of_getElem? (i := 3) rfl)
theorem Txt.t_check_times (T : Txt P K mg base) : PySem.W.codeHdIn K (He.cT K ("check_times", none)).1 (He.cT K ("check_times", none)).2 = true := T.hd _ (List.mem_of_getElem? (i := 4) rfl)
theorem Txt.t_frames (T : Txt P K mg base) : PySem.W.codeHdIn K (He.cT K ("frames", none)).1 (He.cT K ("frames", none)).2 = true := T.hd _ (List.mem_of_getElem? (i := 5) rfl)
theorem Txt.t_law (T : Txt P K mg base) : PySem.W.codeHdIn K (He.cT K ("law", none)).1 (He.cT K ("law", none)).2 = true := T.hd _ (List.mem_of_getElem? (i := 6) rfl)
theorem Txt.t_Slots_fits (T : Txt P K mg base) : PySem.W.codeHdIn K (He.cT K ("Slots", some "fits")).1 (He.cT K ("Slots", some "fits")).2 = true := T.hd _ (List.mem_of_getElem? (i := 7) rfl)
end
end K31
set_option Elab.async false
set_option linter.all false
set_option maxRecDepth 100000
set_option maxHeartbeats 4000000
namespace K31
open PySem PySem.Spec PyProof.Rows L2 Fh
section
variable {ar : Air} {P : Program} {w : World} {K : PySem.W.Frag} {mg : Str → Option Value} {base : Heap}
/-- the law's own table of code objects -/
abbrev lawT (K : PySem.W.Frag) : Addr := (He.cT K (("law" : Str), (none : Option Str))).2
/-- part(n, 0): refused -/
def spPart (K : PySem.W.Frag) : Sp := fun vs H _ E => ∃ n : Int, vs = [.int n, .int 0] ∧ E (.ref (He.ga K "BadRule")) none H
theorem ok_part (T : Txt P K mg base) : CalX ar P w K mg base 1 "part" (spPart K) := by
  refine calX (p := ("part", none)) T.g_part T.f_part sc_part b_part (fun vs H Q E ⟨_, h, _⟩ => by rw [h]; rfl) fun A outer s H vs Q E hr ⟨n, ev, h⟩ => ?_
  subst ev
  refine ⟨_, pss_cons (ps_if (pt_cmpR op_eq (pv 1) pe_int (nomark _)) (pss_one (ps_rx T.x_BadRule ar.cx)) pss_nil) pss_no, ?_⟩
  exact ⟨_, rfl, rfl, _, rfl, iteT h⟩
/-- check_teams([t]): refused -/
def spCheck1 (K : PySem.W.Frag) : Sp := fun vs H _ E => ∃ (a : Addr) (v : V), vs = [.ref a] ∧ H a = some (.lst [v]) ∧ E (.ref (He.ga K "BadTeams")) none H
theorem ok_check1 (T : Txt P K mg base) : CalX ar P w K mg base 1 "check_teams" (spCheck1 K) := by
  refine calX (p := ("check_teams", none)) T.g_check_teams T.f_check_teams sc_check_teams b_check_teams (fun vs H Q E ⟨_, _, h, _⟩ => by rw [h]; rfl) fun A outer s H vs Q E hr ⟨a, v, ev, ha, h⟩ => ?_
  subst ev
  refine ⟨_, pss_one (ps_if (PW.pt (pw_or (pt_cmpR op_lt (pe_callB call_len_seq (by rfl) T.n_len PySem.boot_len (pa_cons (pv 0) pa_nil)) pe_int (nomark _)) (pw_or1 pt_no))) (pss_one (ps_rx T.x_BadTeams ar.cx)) pss_nil), ?_⟩
  exact ⟨_, rfl, a, _, rfl, .inl (SqL.of ha), _, _, rfl, rfl, _, rfl, iteT (iteT h)⟩
/-- circle([t]): refused -/
theorem ok_circle (T : Txt P K mg base) : CalX ar P w K mg base 2 "circle" (spCheck1 K) := by
  refine calX (p := ("circle", none)) T.g_circle T.f_circle sc_circle b_circle (fun vs H Q E ⟨_, _, h, _⟩ => by rw [h]; rfl) fun A outer s H vs Q E hr ⟨a, v, ev, ha, h⟩ => ?_
  subst ev
  refine ⟨_, pss_cons (ps_expr (pe_cx (ok_check1 T) hr (by decide) ar.cx (pa_cons (pv 0) pa_nil))) pss_no, ?_⟩
  exact ⟨_, rfl, a, v, rfl, ha, h⟩
end
end K31
set_option Elab.async false
set_option linter.all false
set_option maxRecDepth 100000
set_option maxHeartbeats 4000000
namespace K31
open PySem PySem.Spec PyProof.Rows L2 Fh
section
variable {ar : Air} {P : Program} {w : World} {K : PySem.W.Frag} {mg : Str → Option Value} {base : Heap}
theorem Txt.gx (T : Txt P K mg base) {p : He.Defn} (h : p ∈ tf) : GxR.TabB base mg (He.cT K p).1 (He.cT K p).2 := ⟨PySem.W.codeHd_of_K T.kin (T.hd p h), T.bm p h, T.gp p h⟩
abbrev pFrames : He.Defn := (("frames" : Str), (none : Option Str))
theorem tf_frames : pFrames ∈ tf := List.mem_of_getElem? (i := 5) rfl
/-- frames([n]), n over 10: refused -/
def spFrames (K : PySem.W.Frag) : Sp := fun vs H _ E => ∃ (a : Addr) (n : Int), vs = [.ref a] ∧ H a = some (.lst [.int n]) ∧ 10 < n ∧ GxR.TabG H (He.cT K pFrames).2 ∧ ∀ H', Kp (lawT K) H H' → E (.ref (He.ga K "BadScore")) none H'
theorem ok_frames (T : Txt P K mg base) : CalX ar P w K mg base 2 "frames" (spFrames K) := by
  refine calX (p := pFrames) T.g_frames T.f_frames sc_frames b_frames (fun vs H Q E ⟨_, _, h, _⟩ => by rw [h]; rfl) fun A outer s H vs Q E hr ⟨a, n, ev, ha, hn, ht, h⟩ => ?_
  subst ev
  have nd := sc_frames.nd
  refine ⟨_, pss_cons (ps_par (i := 1) (j := 2) (by rfl) nd rfl rfl (by decide) rfl rfl (pa_cons (pe_lst pa_nil) (pa_cons pe_int pa_nil)) (by rfl))
    (pss_cons (ps_while owB (pt_cmpR op_lt (pv 2) (pe_callB call_len_seq (by rfl) T.n_len PySem.boot_len (pa_cons (pv 0) pa_nil)) (nomark _))
      (pss_cons (ps_if (pt_val (pe_anyG (k := 0) (own := [("one", 3)]) (g := gName 3) (tt := tYes) hr (by rfl) T.n_any (T.gx tf_frames) rfl nd (blkOk_by (N := N_frames) (sc := defScope s_frames) (by decide +kernel)) (by decide +kernel) rfl rfl
          (pi_list (pe_slice sl_list (pv 0) (po_some (pv 2)) (po_some (pe_op op_add (pv 2) pe_int))))
          (fun _ _ _ _ _ _ _ _ => pg_name (i := 3) nd rfl (Or.inl rfl)) (fun _ _ _ _ _ _ _ _ => pts_nil) (fun _ _ _ _ _ _ _ _ => pe_not (pe_chain op_le op_le pe_int (pv 3) pe_int))))
        (pss_one (ps_rx T.x_BadScore ar.cx)) pss_nil) pss_no)) pss_no), ?_⟩
  refine ⟨by decide, fun l hl => ⟨_, _, rfl, unW _ _ _ 0 (unW_of ?_)⟩⟩
  have al : a ≠ l := ne_of_none ha hl
  have ha1 : upd H l (.lst []) a = some (.lst [.int n]) := by rw [upd_ne al]; exact ha
  refine ⟨_, rfl, _, rfl, a, _, rfl, .inl (SqL.of ha1), _, _, rfl, rfl, _, rfl, iteT (unW_last ?_)⟩
  -- rolls[0:3]
  refine ⟨_, rfl, _, rfl, _, rfl, _, rfl, _, _, rfl, rfl, _, rfl, a, _, rfl, SqL.of ha1, fun p hp => ⟨p, rfl, ⟨_, SqL.of upd_same⟩, ?_⟩⟩
  have k1 : Kp (lawT K) H (upd (upd H l (.lst [])) p (.lst [.int n])) := ((Kp.refl _ H).new hl _).new hp _
  refine ⟨k1.tabG ht, fun H2 tb => unG _ _ _ _ _ _ _ _ 1 ?_⟩
  have k2 := k1.tabbed (k1.tabG ht) tb (T.ne _ tf_frames (by decide))
  have k3 := (Kp.refl (lawT K) _).tabbed (k1.tabG ht) tb (T.ne _ tf_frames (by decide))
  have hp2 : H2 p = some (.lst [.int n]) := k3.lst upd_same
  refine ⟨⟨_, _, SqL.of hp2, rfl⟩, fun x H' y => ?_⟩
  obtain ⟨rfl, yx⟩ := y
  have ex := yx _ (SqL.of hp2)
  cases ex
  refine ⟨rfl, ⟨_, rfl, _, _, rfl, rfl, _, rfl, itT (decide_eq_true (by omega)) ⟨_, _, rfl, rfl, _, rfl, _, rfl, itT ?_ ⟨_, rfl, iteT (h _ k2)⟩⟩⟩⟩
  rw [decide_eq_false (by omega)]
  rfl
end
end K31
set_option Elab.async false
set_option linter.all false
set_option maxRecDepth 100000
set_option maxHeartbeats 4000000
namespace K31
open PySem PySem.Spec PyProof.Rows L2 Fh
section
variable {ar : Air} {P : Program} {w : World} {K : PySem.W.Frag} {mg : Str → Option Value} {base : Heap}
abbrev pTimes : He.Defn := (("check_times" : Str), (none : Option Str))
theorem tf_times : pTimes ∈ tf := List.mem_of_getElem? (i := 4) rfl
/-- check_times({}, [leg]): nothing -/
def spTimes (K : PySem.W.Frag) : Sp := fun vs H Q _ => ∃ (d l : Addr) (v : V), vs = [.ref d, .ref l] ∧ H d = some (.dK []) ∧ H l = some (.lst [v]) ∧ GxR.TabG H (He.cT K pTimes).2 ∧ ∀ H', Kp (lawT K) H H' → Q .non H'
theorem ok_times (T : Txt P K mg base) : CalX ar P w K mg base 2 "check_times" (spTimes K) := by
  refine calX (p := pTimes) T.g_check_times T.f_check_times sc_check_times b_check_times (fun vs H Q E ⟨_, _, _, h, _⟩ => by rw [h]; rfl) fun A outer s H vs Q E hr ⟨d, l, v, ev, hd, hl, ht, h⟩ => ?_
  subst ev
  have nd := sc_check_times.nd
  refine ⟨_, pss_one (ps_if (PW.pt (pw_or (pt_val (pe_lock (pe_anyG (k := 0) (own := [("time", 2)]) (g := gName 2) (tt := tYes) hr (by rfl) T.n_any (T.gx tf_times) rfl nd (blkOk_by (N := N_check_times) (sc := defScope s_check_times) (by decide +kernel)) (by decide +kernel) rfl rfl
          (pi_values (pv 0)) (fun _ _ _ _ _ _ _ _ => pg_name (i := 2) nd rfl (Or.inl rfl)) (fun _ _ _ _ _ _ _ _ => pts_nil) (fun _ _ _ _ _ _ _ _ => pe_no))))
      (pw_or1 (pt_cmpR op_eq (pe_callB call_len_seq (by rfl) T.n_len PySem.boot_len (pa_cons (pv 1) pa_nil)) pe_int (nomark _))))) pss_no pss_nil), ?_⟩
  refine ⟨d, _, hd, trivial, fun od => ⟨_, rfl, d, od, [], rfl, upd_same, tabG_upd hd (fun _ z => by cases z) ht, fun H2 tb => unG _ _ _ _ _ _ _ _ 0 ?_⟩⟩
  obtain ⟨k2, hd2, keep⟩ := Kp.locked hd (fun _ z => by cases z) ht tb (T.ne _ tf_times (by decide))
  have hl2 : upd H2 d (.dK []) l = some (.lst [v]) := k2.lst hl
  exact ⟨⟨hd2, Nat.le_refl _⟩, hd2, _, rfl, _, rfl, l, _, rfl, .inl (SqL.of hl2), rfl, _, rfl, h _ k2⟩
/-- least({}, more than twelve, [leg]): refused -/
def spLeast (K : PySem.W.Frag) : Sp := fun vs H _ E => ∃ (d r l : Addr) (xs : List V) (v : V), vs = [.ref d, .ref r, .ref l] ∧ H d = some (.dK []) ∧ H r = some (.lst xs) ∧ 12 < xs.length ∧ H l = some (.lst [v]) ∧ GxR.TabG H (He.cT K pTimes).2 ∧ ∀ H', Kp (lawT K) H H' → E (.ref (He.ga K "TooLarge")) none H'
theorem ok_least (T : Txt P K mg base) : CalX ar P w K mg base 3 "least" (spLeast K) := by
  refine calX (p := ("least", none)) T.g_least T.f_least sc_least b_least (fun vs H Q E ⟨_, _, _, _, _, h, _⟩ => by rw [h]; rfl) fun A outer s H vs Q E hr ⟨d, r, l, xs, v, ev, hd, hx, hn, hl, ht, h⟩ => ?_
  subst ev
  refine ⟨_, pss_cons (ps_expr (pe_cx (ok_times T) hr (by decide) ar.cx (pa_cons (pv 0) (pa_cons (pv 2) pa_nil))))
    (pss_cons (ps_if (pt_cmpR op_gt (pe_callB call_len_seq (by rfl) T.n_len PySem.boot_len (pa_cons (pv 1) pa_nil)) pe_int (nomark _)) (pss_one (ps_rx T.x_TooLarge ar.cx)) pss_nil) pss_no), ?_⟩
  refine ⟨_, rfl, _, rfl, d, l, v, rfl, hd, hl, ht, fun H' k => ⟨_, rfl, r, _, rfl, .inl (SqL.of (k.lst hx)), _, _, rfl, rfl, _, rfl, itT (decide_eq_true (by omega)) (h H' k)⟩⟩
end
end K31
set_option Elab.async false
set_option linter.all false
set_option maxRecDepth 100000
set_option maxHeartbeats 4000000
namespace K31
open PySem PySem.Spec PyProof.Rows L2 Fh
section
variable {ar : Air} {P : Program} {w : World} {K : PySem.W.Frag} {mg : Str → Option Value} {base : Heap}
abbrev seasonF (t wo ru l : Addr) : List (Str × V) := [("teams", .ref t), ("worth", .ref wo), ("rules", .ref ru), ("rounds", .ref l)]
/-- Season(t, wo, ru), three tuples, rules not empty -/
def spSeason (K : PySem.W.Frag) : Sp := fun vs H Q _ => ∃ (x dx t wo ru : Addr) (ts ws rs : List V) (r0 : V), vs = [.ref x, .ref t, .ref wo, .ref ru] ∧ H x = some (.ins (He.ga K "Season") dx []) ∧ H t = some (.tup ts) ∧ H wo = some (.tup ws) ∧ H ru = some (.tup (r0 :: rs)) ∧
  ∀ H' l, H l = none → H' x = some (.ins (He.ga K "Season") dx (seasonF t wo ru l)) → H' l = some (.lst []) → (∀ b, b ≠ x → b ≠ l → H' b = H b) → Q .non H'
theorem ok_season (T : Txt P K mg base) : MakX ar P w K mg base 1 "Season" (He.ga K "Season") (spSeason K) := by
  refine makX (p := ("Season", some "__init__")) T.g_Season T.k_Season T.f_Season_d_initd_ sc_Season_d_initd_ b_Season_d_initd_ (fun vs H Q E ⟨_, _, _, _, _, _, _, _, _, h, _⟩ => by rw [h]; rfl) fun A outer s H vs Q E hr ⟨x, dx, t, wo, ru, ts, ws, rs, r0, ev, hx, ht, hw, hu, h⟩ => ?_
  subst ev
  refine ⟨_, pss_cons (ps_if (pt_cmpR op_eq (pe_callB call_len_seq (by rfl) T.n_len PySem.boot_len (pa_cons (pv 3) pa_nil)) pe_int (nomark _)) pss_no pss_nil)
    (pss_cons (ps_fld (pv 0) (pe_callTy call_tuple_of (by rfl) T.n_tuple (by decide +kernel) (pa_cons (pv 1) pa_nil)) rfl)
    (pss_cons (ps_fld (pv 0) (pe_callTy call_tuple_of (by rfl) T.n_tuple (by decide +kernel) (pa_cons (pv 2) pa_nil)) rfl)
    (pss_cons (ps_fld (pv 0) (pe_callTy call_tuple_of (by rfl) T.n_tuple (by decide +kernel) (pa_cons (pv 3) pa_nil)) rfl)
    (pss_one (ps_fld (pv 0) (pe_lst pa_nil) rfl))))), ?_⟩
  have nt : t ≠ x := ne_of ht hx (by intro z; cases z)
  have nw : wo ≠ x := ne_of hw hx (by intro z; cases z)
  have nu : ru ≠ x := ne_of hu hx (by intro z; cases z)
  refine ⟨_, rfl, ru, _, rfl, .inr (SqT.of hu), rfl, _, rfl, itF ?_ ?_⟩
  · show decide (V.int ((rs.length + 1 : Nat) : Int) = V.int 0) = false
    exact decide_eq_false (fun z => by injection z with z; omega)
  refine ⟨_, rfl, t, _, rfl, .inr ⟨SqT.of ht, _, rfl, x, _, dx, [], rfl, hx, T.c_Season, T.a_Season_teams, by simp, ?_⟩⟩
  refine ⟨_, rfl, wo, _, rfl, .inr ⟨SqT.of ((upd_ne nw).trans hw), _, rfl, x, _, dx, [("teams", .ref t)], rfl, upd_same, T.c_Season, T.a_Season_worth, by simp, ?_⟩⟩
  refine ⟨_, rfl, ru, _, rfl, .inr ⟨SqT.of ((upd_ne nu).trans ((upd_ne nu).trans hu)), _, rfl, x, _, dx, [("teams", .ref t), ("worth", .ref wo)], rfl, upd_same, T.c_Season, T.a_Season_rules, by simp, ?_⟩⟩
  refine ⟨by decide, fun l hl => ?_⟩
  have nl : l ≠ x := fun z => by rw [z, upd_same] at hl; cases hl
  have hl0 : H l = none := by rw [upd_ne nl, upd_ne nl, upd_ne nl] at hl; exact hl
  refine ⟨_, rfl, x, _, dx, [("teams", .ref t), ("worth", .ref wo), ("rules", .ref ru)], rfl, (upd_ne nl.symm).trans upd_same, T.c_Season, T.a_Season_rounds, by simp, h _ l hl0 upd_same ((upd_ne nl).trans upd_same) fun b n1 n2 => ?_⟩
  rw [upd_ne n1, upd_ne n2, upd_ne n1, upd_ne n1, upd_ne n1]
end
end K31
set_option Elab.async false
set_option linter.all false
set_option maxRecDepth 100000
set_option maxHeartbeats 4000000
namespace K31
open PySem PySem.Spec PyProof.Rows L2 Fh
section
variable {ar : Air} {P : Program} {w : World} {K : PySem.W.Frag} {mg : Str → Option Value} {base : Heap}
/-- read_game(season, two words, row): refused -/
def spGame (K : PySem.W.Frag) : Sp := fun vs H _ E => ∃ (x wl : Addr) (a b v : V), vs = [.ref x, .ref wl, v] ∧ H wl = some (.lst [a, b]) ∧ ∀ d H' fs, Kp (lawT K) H H' → H' d = some (.xd fs) → E (.ref (He.ga K "BadText")) (some d) H'
theorem ok_game (T : Txt P K mg base) : CalX ar P w K mg base 1 "read_game" (spGame K) := by
  obtain ⟨fI, TS⟩ := T.supT
  refine calX (p := ("read_game", none)) T.g_read_game T.f_read_game sc_read_game b_read_game (fun vs H Q E ⟨_, _, _, _, _, h, _⟩ => by rw [h]; rfl) fun A outer s H vs Q E hr ⟨x, wl, a, b, v, ev, hw, h⟩ => ?_
  subst ev
  have nd := sc_read_game.nd
  refine ⟨_, pss_cons (ps_set (i := 3) nd rfl (Or.inl rfl) (pe_and (pe_cmpR op_in_seq (pe_callB call_len_seq (by rfl) T.n_len PySem.boot_len (pa_cons (pv 1) pa_nil)) (pe_tup (pa_cons pe_int (pa_cons pe_int pa_nil))) (by rfl)) pe_no))
    (pss_cons (ps_if (PW.pt (pw_or (pt_not (pt_val (pv 3))) pw_no)) (pss_one (ps_rsup TS hr ar.cx (pa_cons (pv 2) pa_nil))) pss_nil) pss_no), ?_⟩
  refine ⟨_, rfl, wl, _, rfl, .inl (SqL.of hw), by decide, fun p hp => ⟨p, _, rfl, .inr (SqT.of upd_same), rfl, rfl, _, rfl, ?_⟩⟩
  refine itF (show (inV (V.int ((2 : Nat) : Int)) [V.int 3, V.int 5]) = false by decide) ?_
  exact ⟨_, rfl, _, rfl, ⟨_, rfl, _, rfl, fun d hd => h d _ _ (((Kp.refl _ H).new hp _).new hd _) upd_same⟩⟩
end
end K31
set_option Elab.async false
set_option linter.all false
set_option maxRecDepth 100000
set_option maxHeartbeats 4000000
namespace K31
open PySem PySem.Spec PyProof.Rows L2 Fh
section
variable {ar : Air} {P : Program} {w : World} {K : PySem.W.Frag} {mg : Str → Option Value} {base : Heap}
/-- read(z), one row, of no word or of two: refused -/
def spRead (K : PySem.W.Frag) : Sp := fun vs H _ E => ∃ z : Str, vs = [.str z] ∧ z.length + 2 ≤ sizeLine ∧ Txt.split z "\n" = [z] ∧
  (Txt.words z = [] ∨ ∃ a b, Txt.words z = [a, b] ∧ a ≠ "teams" ∧ a ≠ "points" ∧ a ≠ "rules" ∧ PyData.strOk a = true ∧ PyData.strOk b = true) ∧ ∀ d H' fs, Kp (lawT K) H H' → H' d = some (.xd fs) → E (.ref (He.ga K "BadText")) (some d) H'
theorem ok_read (T : Txt P K mg base) : CalX ar P w K mg base 3 "read" (spRead K) := by
  obtain ⟨fI, TS⟩ := T.supT
  refine calX (p := ("read", none)) T.g_read T.f_read sc_read b_read (fun vs H Q E ⟨_, h, _⟩ => by rw [h]; rfl) fun A outer s H vs Q E hr ⟨z, ev, hz, hs, hw, h⟩ => ?_
  subst ev
  have nd := sc_read.nd
  refine ⟨_, pss_cons (ps_set (i := 1) nd rfl (Or.inl rfl) (pe_split (pv 0) pe_str))
    (pss_cons (ps_set (i := 2) nd rfl (Or.inl rfl) (pe_mkx (ok_season T) hr (by decide) ar.cx (pa_cons (pe_tup pa_nil) (pa_cons (pe_tup (pa_cons pe_int (pa_cons pe_int (pa_cons pe_int pa_nil)))) (pa_cons (pe_tup (pa_cons pe_str (pa_cons pe_str pa_nil))) pa_nil)))))
    (pss_cons (ps_for owB rfl (pi_enum (by rfl) T.n_enumerate (pa_cons (pv 1) pa_nil)) (pg_tup rfl (pgs_cons (pg_name (i := 3) nd rfl (.inl rfl)) (pgs_cons (pg_name (i := 4) nd rfl (.inl rfl)) pgs_nil)))
      (pss_cons (ps_set (i := 5) nd rfl (Or.inl rfl) (pe_words (pv 4)))
      (pss_cons (ps_if (pt_cmpR (op_eqD hr.units) (pv 5) (pe_lst pa_nil) (nomark _)) (pss_one ps_continue) pss_nil)
      (pss_one (ps_if (pt_cmpR op_eq (pe_ix ix_list (pv 5) pe_int (fun _ _ => rfl)) pe_str (nomark _)) pss_no
        (pss_one (ps_if (pt_cmpR op_eq (pe_ix ix_list (pv 5) pe_int (fun _ _ => rfl)) pe_str (nomark _)) pss_no
        (pss_one (ps_if (pt_cmpR op_eq (pe_ix ix_list (pv 5) pe_int (fun _ _ => rfl)) pe_str (nomark _)) pss_no
        (pss_one (ps_if (pt_cmpR (op_eqD hr.units) (pv 5) (pe_lst (pa_cons pe_str pa_nil)) (nomark _)) pss_no
        (pss_one (ps_expr (pe_cx (ok_game T) hr (by decide) ar.cx (pa_cons (pv 2) (pa_cons (pv 5) (pa_cons (pe_op op_add (pv 3) pe_int) pa_nil)))))))))))))))))
    (pss_cons (ps_if (pt_cmpR (op_eqD hr.units) (pe_fld (pv 2) rfl) (pe_tup pa_nil) (nomark _)) (pss_one (ps_rsup TS hr ar.cx (pa_cons (pe_callB call_len_seq (by rfl) T.n_len PySem.boot_len (pa_cons (pv 1) pa_nil)) pa_nil))) pss_nil) pss_no))), ?_⟩
  refine ⟨_, rfl, ⟨_, rfl⟩, z, _, rfl, rfl, rfl, hz, fun rl hrl => ?_⟩
  rw [hs, List.map_cons, List.map_nil]
  have k1 : Kp (lawT K) H (upd H rl (.lst [.str z])) := (Kp.refl _ H).new hrl _
  refine ⟨by decide, fun t ht => ⟨by decide, fun wo hwo => ⟨by decide, fun ru hru => fun x dx nx ndx nxx => ?_⟩⟩⟩
  have k2 := (Kp.refl (lawT K) (upd H rl (.lst [.str z]))).new ht (.tup [])
  have k3 := (Kp.refl (lawT K) (upd (upd H rl (.lst [.str z])) t (.tup []))).new hwo (.tup [.int 3, .int 1, .int 0])
  have k4 := (Kp.refl (lawT K) (upd (upd (upd H rl (.lst [.str z])) t (.tup [])) wo (.tup [.int 3, .int 1, .int 0]))).new hru (.tup [.str "points", .str "name"])
  have k14 := k2.trans (k3.trans k4)
  have ht4 := (k3.trans k4).tup (p := t) upd_same
  have hw4 := k4.tup (p := wo) upd_same
  generalize hH4 : upd (upd (upd (upd H rl (.lst [.str z])) t (.tup [])) wo (.tup [.int 3, .int 1, .int 0])) ru (.tup [.str "points", .str "name"]) = H4 at *
  have hu4 : H4 ru = some (.tup [.str "points", .str "name"]) := by rw [← hH4]; exact upd_same
  have k5 := ((Kp.refl (lawT K) H4).new ndx (.own x)).set nx (.ins (He.ga K "Season") dx [])
  refine ⟨x, dx, t, wo, ru, _, _, _, _, rfl, upd_same, k5.tup ht4, k5.tup hw4, k5.tup hu4, fun H5 l hl hx5 hl5 hk5 => ⟨rfl, ?_⟩⟩
  have k45 : Kp (lawT K) H4 H5 := k5.chg fun b hb => hk5 b (fun e => hb (e ▸ nx)) (fun e => hb (e ▸ k5.free hl))
  have hr5 : H5 rl = some (.lst [.str z]) := (k14.trans k45).lst upd_same
  have k05 := k1.trans (k14.trans k45)
  refine ⟨_, rfl, rl, _, rfl, SqL.of hr5, unF _ _ _ _ 1 ⟨⟨_, _, SqL.of hr5, rfl⟩, fun v H6 y => ?_⟩⟩
  obtain ⟨T6, y, rfl, hT6, rfl, hy⟩ := y
  have ey := hy _ (SqL.of hr5)
  cases ey
  refine ⟨T6, _, rfl, SqT.of upd_same, rfl, ?_⟩
  have k6 := (Kp.refl (lawT K) H5).new hT6 (.tup [.int ((0 : Nat) : Int), .str z])
  generalize hH6 : upd H5 T6 (.tup [.int ((0 : Nat) : Int), .str z]) = H6 at *
  refine ⟨_, _, rfl, _, _, rfl, rfl, _, rfl, ⟨_, rfl⟩, _, rfl, rfl, hz, fun wl hwl => ?_⟩
  rcases hw with hw | ⟨a, b, hw, n1, n2, n3, oa, ob⟩
  · rw [hw, List.map_nil]
    have k7 := (Kp.refl (lawT K) H6).new hwl (.lst [])
    have hw7 : upd H6 wl (.lst []) wl = some (.lst []) := upd_same
    generalize hH7 : upd H6 wl (.lst []) = H7 at *
    refine ⟨_, rfl, by decide, fun el hel => ?_⟩
    have k8 := (Kp.refl (lawT K) H7).new hel (.lst [])
    have he8 : upd H7 el (.lst []) el = some (.lst []) := upd_same
    generalize hH8 : upd H7 el (.lst []) = H8 at *
    have k58 := k6.trans (k7.trans k8)
    refine ⟨_, _, .lst (SqL.of (k8.lst hw7)) .nil, .lst (SqL.of he8) .nil, rfl, rfl, _, rfl, ?_⟩
    refine ⟨⟨_, SqL.of (k58.lst hr5), Nat.le_refl _⟩, ?_⟩
    -- if season.teams == ()
    have ht8 := (k45.trans k58).tup ht4
    refine ⟨_, rfl, x, _, dx, _, _, rfl, k58.ins hx5, T.c_Season, T.a_Season_teams, rfl, by decide, fun e hce => ?_⟩
    have k9 := (Kp.refl (lawT K) H8).new hce (.tup [])
    have he9 : upd H8 e (.tup []) e = some (.tup []) := upd_same
    generalize hH9 : upd H8 e (.tup []) = H9 at *
    refine ⟨_, _, .tup (SqT.of (k9.tup ht8)) .nil, .tup (SqT.of he9) .nil, rfl, rfl, _, rfl, ?_⟩
    refine ⟨_, rfl, rl, _, rfl, .inl (SqL.of ((k58.trans k9).lst hr5)), _, rfl, fun d hd => ?_⟩
    exact h d _ _ ((k05.trans (k58.trans k9)).new hd _) upd_same
  · rw [hw, List.map_cons, List.map_cons, List.map_nil]
    have k7 := (Kp.refl (lawT K) H6).new hwl (.lst [.str a, .str b])
    have hw7 : upd H6 wl (.lst [.str a, .str b]) wl = some (.lst [.str a, .str b]) := upd_same
    generalize hH7 : upd H6 wl (.lst [.str a, .str b]) = H7 at *
    refine ⟨_, rfl, by decide, fun el hel => ?_⟩
    have k8 := (Kp.refl (lawT K) H7).new hel (.lst [])
    have he8 : upd H7 el (.lst []) el = some (.lst []) := upd_same
    generalize hH8 : upd H7 el (.lst []) = H8 at *
    have hw8 := k8.lst hw7
    have sh : SeqAt.shaped (.list [.str a, .str b]) = true := by
      show (PyData.strOk a && (PyData.strOk b && true)) && true = true
      rw [oa, ob]
      rfl
    refine ⟨_, _, .lst (SqL.of hw8) (.cons (.str a) (.cons (.str b) .nil)), .lst (SqL.of he8) .nil, sh, rfl, _, rfl, ?_⟩
    refine ⟨_, rfl, wl, _, _, _, rfl, rfl, SqL.of hw8, rfl, rfl, _, rfl, itF (decide_eq_false fun z => n1 (by injection z)) ?_⟩
    refine ⟨_, rfl, wl, _, _, _, rfl, rfl, SqL.of hw8, rfl, rfl, _, rfl, itF (decide_eq_false fun z => n2 (by injection z)) ?_⟩
    refine ⟨_, rfl, wl, _, _, _, rfl, rfl, SqL.of hw8, rfl, rfl, _, rfl, itF (decide_eq_false fun z => n3 (by injection z)) ?_⟩
    refine ⟨_, rfl, by decide, fun rd hrd => ?_⟩
    have k9 := (Kp.refl (lawT K) H8).new hrd (.lst [.str "round"])
    have hr9 : upd H8 rd (.lst [.str "round"]) rd = some (.lst [.str "round"]) := upd_same
    generalize hH9 : upd H8 rd (.lst [.str "round"]) = H9 at *
    have hw9 := k9.lst hw8
    refine ⟨_, _, .lst (SqL.of hw9) (.cons (.str a) (.cons (.str b) .nil)), .lst (SqL.of hr9) (.cons (.str _) .nil), sh, by decide +kernel, _, rfl, itF ?_ ?_⟩
    · show ((a == "round") && false) = false
      rw [Bool.and_false]
    refine ⟨_, rfl, _, rfl, _, rfl, _, _, rfl, rfl, x, wl, _, _, _, rfl, hw9, fun d H' fs k hf => h d H' fs ?_ hf⟩
    exact k05.trans (k6.trans (k7.trans (k8.trans (k9.trans k))))
end
end K31
set_option Elab.async false
set_option linter.all false
set_option maxRecDepth 100000
set_option maxHeartbeats 4000000
namespace K31
open PySem PySem.Spec PyProof.Rows L2 Fh
section
variable {ar : Air} {P : Program} {w : World} {K : PySem.W.Frag} {mg : Str → Option Value} {base : Heap}
/-- Desk() -/
def spDesk (K : PySem.W.Frag) : Sp := fun vs H Q _ => ∃ (x dx : Addr), vs = [.ref x] ∧ H x = some (.ins (He.ga K "Desk") dx []) ∧
  ∀ H' p q, H' x = some (.ins (He.ga K "Desk") dx [("shown", .str ""), ("deeds", .ref p), ("undone", .ref q)]) → (∀ b, b ≠ x → H b ≠ none → H' b = H b) → Q .non H'
theorem ok_desk (T : Txt P K mg base) : MakX ar P w K mg base 1 "Desk" (He.ga K "Desk") (spDesk K) := by
  refine makX (p := ("Desk", some "__init__")) T.g_Desk T.k_Desk T.f_Desk_d_initd_ sc_Desk_d_initd_ b_Desk_d_initd_ (fun vs H Q E ⟨_, _, h, _⟩ => by rw [h]; rfl) fun A outer s H vs Q E hr ⟨x, dx, ev, hx, h⟩ => ?_
  subst ev
  refine ⟨_, pss_cons (ps_fld (pv 0) pe_str rfl) (pss_cons (ps_fld (pv 0) (pe_lst pa_nil) rfl) (pss_one (ps_fld (pv 0) (pe_lst pa_nil) rfl))), ?_⟩
  refine ⟨_, rfl, x, _, dx, [], rfl, hx, T.c_Desk, T.a_Desk_shown, by simp, ?_⟩
  refine ⟨by decide, fun p hp => ?_⟩
  have np : p ≠ x := fun z => by rw [z, upd_same] at hp; cases hp
  refine ⟨_, rfl, x, _, dx, [("shown", .str "")], rfl, (upd_ne np.symm).trans upd_same, T.c_Desk, T.a_Desk_deeds, by simp, ?_⟩
  refine ⟨by decide, fun q hq => ?_⟩
  have nq : q ≠ x := fun z => by rw [z, upd_same] at hq; cases hq
  refine ⟨_, rfl, x, _, dx, [("shown", .str ""), ("deeds", .ref p)], rfl, (upd_ne nq.symm).trans upd_same, T.c_Desk, T.a_Desk_undone, by simp, h _ p q upd_same fun b nb hb => ?_⟩
  have bp : b ≠ p := fun z => by
    rw [z] at hb
    rw [upd_ne np] at hp
    exact hb hp
  have bq : b ≠ q := fun z => by
    rw [← z, upd_ne nb, upd_ne bp, upd_ne nb] at hq
    exact hb hq
  rw [upd_ne nb, upd_ne bq, upd_ne nb, upd_ne bp, upd_ne nb]
/-- desk.put(..) where nothing is shown: refused -/
def spPut (K : PySem.W.Frag) : Sp := fun vs H _ E => ∃ (x dx : Addr) (fs : List (Str × V)) (v1 v2 v3 v4 v5 : V), vs = [.ref x, v1, v2, v3, v4, v5] ∧ H x = some (.ins (He.ga K "Desk") dx fs) ∧ fs.lookup ("shown" : Str) = some (V.str "") ∧
  ∀ H', Kp (lawT K) H H' → E (.ref (He.ga K "BadDeed")) none H'
theorem ok_put (T : Txt P K mg base) : MetX air P w K mg base 4 (He.ga K "Desk") "put" (spPut K) := by
  refine metX (p := ("Desk", some "put")) T.c_Desk T.m_Desk_put T.f_Desk_put sc_Desk_put b_Desk_put (fun vs H Q E ⟨_, _, _, _, _, _, _, _, h, _⟩ => by rw [h]; rfl) fun A outer s H vs Q E hr ⟨x, dx, fs, v1, v2, v3, v4, v5, ev, hx, hf, h⟩ => ?_
  subst ev
  have nd := sc_Desk_put.nd
  refine ⟨_, pss_cons (L2H.ps_try_onlyX (tb := fun W => tSeq (tAsg (tCallS (spRead K) (WE W) (tCons (tFld K (tVar 0) "shown") tNil)) (gName 6)) sNo) rfl rfl ⟨rfl, by decide, .inl T.g_FixtureFault⟩ (L2H.passesAt_of rfl) (air.cx)
    (fun W pn xe tkN tkP own => pss_cons (ps_set (i := 6) nd rfl (Or.inl rfl) (pe_cx (ok_read T) hr (by decide) (takesN tkN) (pa_cons (pe_fld (pv 0) (by rfl)) pa_nil))) pss_no)
    (fun a oe cls d pn hz hf tkS hot => pss_one (L2H.ps_raiseH hot tkS (L2N.pmk_own (bmB := He.veBase) PySem.F.excBase_ValueError T.x_BadDeed.exc T.x_BadDeed.g T.x_BadDeed.kp (raises_own T.x_BadDeed.sub T.x_BadDeed.ty) rfl)))) pss_no, ?_⟩
  refine ⟨_, rfl, x, _, dx, _, _, rfl, hx, T.c_Desk, T.a_Desk_shown, hf, "", rfl, by decide, by decide +kernel, .inl (by decide +kernel), fun d H' _ k _ => ?_⟩
  exact ⟨true, T.e_BadText_FixtureFault, fun _ a ha => h H' k, fun z => nomatch z⟩
end
end K31
set_option Elab.async false
set_option linter.all false
set_option maxRecDepth 100000
set_option maxHeartbeats 4000000
namespace K31
open PySem PySem.Spec PyProof.Rows L2 Fh
section
variable {ar : Air} {P : Program} {w : World} {K : PySem.W.Frag} {mg : Str → Option Value} {base : Heap}
/-- look_rounds([a, b], (((a, c),),), n), c neither: refused -/
def spLook (K : PySem.W.Frag) : Sp := fun vs H _ E => ∃ (tl ro g p : Addr) (a b c : Str) (n : V), vs = [.ref tl, .ref ro, n] ∧ H tl = some (.lst [.str a, .str b]) ∧ H ro = some (.tup [.ref g]) ∧ H g = some (.tup [.ref p]) ∧ H p = some (.tup [.str a, .str c]) ∧ c ≠ a ∧ c ≠ b ∧
  ∀ d H' fs, Kp (lawT K) H H' → H' d = some (.xd fs) → E (.ref (He.ga K "BadPaper")) (some d) H'
theorem ok_look (T : Txt P K mg base) : CalX ar P w K mg base 1 "look_rounds" (spLook K) := by
  obtain ⟨fI, TS⟩ := T.supP
  refine calX (p := ("look_rounds", none)) T.g_look_rounds T.f_look_rounds sc_look_rounds b_look_rounds (fun vs H Q E ⟨_, _, _, _, _, _, _, _, h, _⟩ => by rw [h]; rfl) fun A outer s H vs Q E hr ⟨tl, ro, g, p, a, b, c, n, ev, htl, hro, hg, hp, na, nb, h⟩ => ?_
  subst ev
  have nd := sc_look_rounds.nd
  have hu := hu_of hr
  refine ⟨_, pss_cons (ps_set (i := 3) nd rfl (Or.inl rfl) pe_dnewT)
    (pss_cons (ps_for owB rfl (pi_enumT (by rfl) T.n_enumerate (pa_cons (pv 1) pa_nil)) (pg_tup rfl (pgs_cons (pg_name (i := 4) nd rfl (.inl rfl)) (pgs_cons (pg_name (i := 5) nd rfl (.inl rfl)) pgs_nil)))
      (pss_cons (ps_set (i := 6) nd rfl (Or.inl rfl) pe_dnewK)
      (pss_one (ps_for owB rfl (pi_tup (pv 5)) (pg_tup rfl (pgs_cons (pg_name (i := 7) nd rfl (.inl rfl)) (pgs_cons (pg_name (i := 8) nd rfl (.inl rfl)) pgs_nil)))
        (pss_cons (ps_for owB rfl (pi_tup (pe_tup (pa_cons (pv 7) (pa_cons (pv 8) pa_nil)))) (pg_name (i := 9) nd rfl (.inl rfl))
          (pss_cons (ps_if (PW.pt (pw_or (pt_cmp (pc_din hu (pv 9) (pv 6))) (pw_or1 (pt_cmpR op_notIn_seq (pv 9) (pv 0) (by rfl))))) (pss_one (ps_rsup TS hr ar.cx (pa_cons (pv 4) pa_nil))) pss_nil)
          (pss_one (ps_dput hu (pv 6) (pv 9) pe_bl rfl)))) pss_no))))) pss_no), ?_⟩
  refine fun d hd => ?_
  have k1 := (Kp.refl (lawT K) H).new hd (.dT [])
  generalize hH1 : upd H d (.dT []) = H1 at *
  refine ⟨_, rfl, ro, _, rfl, SqT.of (k1.tup hro), unF _ _ _ _ 1 ⟨⟨_, _, SqT.of (k1.tup hro), rfl⟩, fun v H2 y => ?_⟩⟩
  obtain ⟨t1, y, rfl, ht1, rfl, hy⟩ := y
  have ey := hy _ (SqT.of (k1.tup hro))
  cases ey
  refine ⟨t1, _, rfl, SqT.of upd_same, rfl, _, _, rfl, _, _, rfl, rfl, ?_⟩
  have k2 := k1.new ht1 (.tup [.int ((0 : Nat) : Int), .ref g])
  generalize hH2 : upd H1 t1 (.tup [.int ((0 : Nat) : Int), .ref g]) = H2 at *
  refine fun e he => ?_
  have k3 := k2.new he (.dK [])
  have he3 : upd H2 e (.dK []) e = some (.dK []) := upd_same
  generalize hH3 : upd H2 e (.dK []) = H3 at *
  refine ⟨_, rfl, g, rfl, ⟨_, SqT.of (k3.tup hg)⟩, unF _ _ _ _ 1 ⟨⟨_, _, SqT.of (k3.tup hg), rfl⟩, fun v H4 y => ?_⟩⟩
  obtain ⟨rfl, hy⟩ := y
  have ey := hy _ (SqT.of (k3.tup hg))
  cases ey
  refine ⟨p, _, rfl, SqT.of (k3.tup hp), rfl, _, _, rfl, _, _, rfl, rfl, ?_⟩
  refine ⟨_, rfl, _, rfl, (by show 2 ≤ sizeLine; decide), fun t2 ht2 => ?_⟩
  have k5 := k3.new ht2 (.tup [.str a, .str c])
  have k45 := (Kp.refl (lawT K) H4).new ht2 (.tup [.str a, .str c])
  have ht5 : upd H4 t2 (.tup [.str a, .str c]) t2 = some (.tup [.str a, .str c]) := upd_same
  generalize hH5 : upd H4 t2 (.tup [.str a, .str c]) = H5 at *
  have he5 := k45.dK he3
  refine ⟨t2, rfl, ⟨_, SqT.of ht5⟩, unF _ _ _ _ 2 ⟨⟨_, _, SqT.of ht5, rfl⟩, fun v H6 y => ?_⟩⟩
  obtain ⟨rfl, hy⟩ := y
  have ey := hy _ (SqT.of ht5)
  cases ey
  -- a
  refine ⟨_, rfl, _, rfl, e, _, rfl, DGet.k (k := Sum.inr a) he5, _, rfl, ?_⟩
  have htl6 := k5.lst htl
  refine itF rfl ⟨_, rfl, _, rfl, tl, _, rfl, .inl (SqL.of htl6), rfl, rfl, _, rfl, itF ?_ ?_⟩
  · show (!((V.str a :: [V.str b]).any fun y => eqV y (.str a))) = false
    simp [eqV]
  refine ⟨_, rfl, _, rfl, e, _, rfl, DPut.k (k := Sum.inr a) he5 (by decide), ?_⟩
  have k7 := k5.set (p := e) (k2.free he) (.dK (putK [] (Sum.inr a) (.bl true)))
  have ht7 : upd H6 e (.dK (putK [] (Sum.inr a) (.bl true))) t2 = some (.tup [.str a, .str c]) := by
    rw [upd_ne (ne_of ht5 he5 (by intro z; cases z))]
    exact ht5
  have he7 : upd H6 e (.dK (putK [] (Sum.inr a) (.bl true))) e = some (.dK (putK [] (Sum.inr a) (.bl true))) := upd_same
  generalize hH7 : upd H6 e (.dK (putK [] (Sum.inr a) (.bl true))) = H7 at *
  refine ⟨⟨_, _, SqT.of ht7, rfl⟩, fun v H8 y => ?_⟩
  obtain ⟨rfl, hy⟩ := y
  have ey := hy _ (SqT.of ht7)
  cases ey
  -- c
  have nv : valV (putK [] (Sum.inr a) (V.bl true)) (Sum.inr c : Key) = none := by
    simp [valV, putK, Ne.symm na]
  refine ⟨_, rfl, _, rfl, e, _, rfl, DGet.k (k := Sum.inr c) he7, _, rfl, itF (by rw [nv]; rfl) ?_⟩
  refine ⟨_, rfl, _, rfl, tl, _, rfl, .inl (SqL.of (k7.lst htl)), rfl, rfl, _, rfl, itT ?_ ?_⟩
  · show (!((V.str a :: [V.str b]).any fun y => eqV y (.str c))) = true
    simp [eqV, Ne.symm na, Ne.symm nb]
  exact ⟨_, rfl, _, rfl, fun d hd => h d _ _ (k7.new hd _) upd_same⟩
end
end K31
set_option Elab.async false
set_option linter.all false
set_option maxRecDepth 100000
set_option maxHeartbeats 4000000
namespace K31
open PySem PySem.Spec PyProof.Rows L2 Fh
section
variable {ar : Air} {P : Program} {w : World} {K : PySem.W.Frag} {mg : Str → Option Value} {base : Heap}
abbrev slotsF (g d : Addr) : List (Str × V) := [("grounds", .ref g), ("many", .int 1), ("barred", .ref d)]
/-- Slots(g, 1, ()) -/
def spSlots (K : PySem.W.Frag) : Sp := fun vs H Q _ => ∃ (x dx g ba : Addr) (g0 : V) (gs : List V), vs = [.ref x, .ref g, .int 1, .ref ba] ∧ H x = some (.ins (He.ga K "Slots") dx []) ∧ H g = some (.tup (g0 :: gs)) ∧ H ba = some (.tup []) ∧
  ∀ H' d, H d = none → H' x = some (.ins (He.ga K "Slots") dx (slotsF g d)) → H' d = some (.dT []) → (∀ b, b ≠ x → b ≠ d → H' b = H b) → Q .non H'
theorem ok_slots (T : Txt P K mg base) : MakX ar P w K mg base 1 "Slots" (He.ga K "Slots") (spSlots K) := by
  refine makX (p := ("Slots", some "__init__")) T.g_Slots T.k_Slots T.f_Slots_d_initd_ sc_Slots_d_initd_ b_Slots_d_initd_ (fun vs H Q E ⟨_, _, _, _, _, _, h, _⟩ => by rw [h]; rfl) fun A outer s H vs Q E hr ⟨x, dx, g, ba, g0, gs, ev, hx, hg, hba, h⟩ => ?_
  subst ev
  have nd := sc_Slots_d_initd_.nd
  refine ⟨_, pss_cons (ps_if (PW.pt (pw_or (pt_cmpR op_eq (pe_callB call_len_seq (by rfl) T.n_len PySem.boot_len (pa_cons (pv 1) pa_nil)) pe_int (nomark _)) (pw_or1 (pt_cmpR op_lt (pv 2) pe_int (nomark _))))) pss_no pss_nil)
    (pss_cons (ps_fld (pv 0) (pe_callTy call_tuple_of (by rfl) T.n_tuple (by decide +kernel) (pa_cons (pv 1) pa_nil)) rfl)
    (pss_cons (ps_fld (pv 0) (pv 2) rfl)
    (pss_one (ps_fld (pv 0) (pe_reD (pe_dc (own := [("pair", 4)]) (g := gName 4) (tt := tYes) rfl nd (pi_tup (pv 3)) (blkOk_by (N := N_Slots_d_initd_) (sc := defScope s_Slots_d_initd_) (by decide +kernel)) (fun _ _ _ _ _ => pg_name (i := 4) nd rfl (Or.inl rfl)) (fun _ _ _ _ _ => pts_nil) (fun _ _ _ _ _ => pe_no) (fun _ _ _ _ _ => pe_no))) rfl)))), ?_⟩
  have ng : g ≠ x := ne_of hg hx (by intro z; cases z)
  have nb : ba ≠ x := ne_of hba hx (by intro z; cases z)
  refine ⟨_, rfl, g, _, rfl, .inr (SqT.of hg), rfl, _, rfl, itF (decide_eq_false (fun z => by injection z with z; simp at z; omega)) ⟨_, rfl, _, _, rfl, rfl, _, rfl, ?_⟩⟩
  refine ⟨_, rfl, g, _, rfl, .inr ⟨SqT.of hg, _, rfl, x, _, dx, [], rfl, hx, T.c_Slots, T.a_Slots_grounds, by simp, ?_⟩⟩
  refine ⟨_, rfl, _, rfl, x, _, dx, [("grounds", .ref g)], rfl, upd_same, T.c_Slots, T.a_Slots_many, by simp, ?_⟩
  have hb2 : upd (upd H x (.ins (He.ga K "Slots") dx [("grounds", .ref g)])) x (.ins (He.ga K "Slots") dx [("grounds", .ref g), ("many", .int 1)]) ba = some (.tup []) := by rw [upd_ne nb, upd_ne nb]; exact hba
  refine ⟨_, rfl, ba, rfl, ⟨_, SqT.of hb2⟩, fun d hd => unD _ _ _ _ _ _ _ _ _ 0 ⟨⟨[], SqT.of ?_, Nat.le_refl _⟩, d, rfl, upd_same, ?_⟩⟩
  · rw [upd_ne (ne_of_none hb2 hd)]
    exact hb2
  have ndx : d ≠ x := fun z => by rw [z, upd_same] at hd; cases hd
  have hd0 : H d = none := by rw [upd_ne ndx, upd_ne ndx] at hd; exact hd
  refine ⟨_, rfl, x, _, dx, [("grounds", .ref g), ("many", .int 1)], rfl, ?_, T.c_Slots, T.a_Slots_barred, by simp, h _ d hd0 upd_same ?_ fun b n1 n2 => ?_⟩
  · rw [upd_ne ndx.symm, upd_ne ndx.symm]
    exact upd_same
  · rw [upd_ne ndx]
    exact upd_same
  · rw [upd_ne n1, upd_ne n2, upd_ne n2, upd_ne n1, upd_ne n1]
/-- free(team, time): nothing is barred -/
def spFree (K : PySem.W.Frag) : Sp := fun vs H Q _ => ∃ (x dx g d : Addr) (t : Str) (i : Int), vs = [.ref x, .str t, .int i] ∧ H x = some (.ins (He.ga K "Slots") dx (slotsF g d)) ∧ H d = some (.dT []) ∧ ∀ H', Kp (lawT K) H H' → Q (.bl true) H'
theorem ok_free (T : Txt P K mg base) : MetX ar P w K mg base 1 (He.ga K "Slots") "free" (spFree K) := by
  refine metX (p := ("Slots", some "free")) T.c_Slots T.m_Slots_free T.f_Slots_free sc_Slots_free b_Slots_free (fun vs H Q E ⟨_, _, _, _, _, _, h, _⟩ => by rw [h]; rfl) fun A outer s H vs Q E hr ⟨x, dx, g, d, t, i, ev, hx, hd, h⟩ => ?_
  subst ev
  refine ⟨_, pss_one (ps_ret (pe_cmp (pc_dnotin (hu_of hr) (pe_tup (pa_cons (pv 1) (pa_cons (pv 2) pa_nil))) (pe_fld (pv 0) rfl)) rfl)), ?_⟩
  refine ⟨_, rfl, _, rfl, (by show 2 ≤ sizeLine; decide), fun p hp => ?_⟩
  have k := (Kp.refl (lawT K) H).new hp (.tup [.str t, .int i])
  refine ⟨_, rfl, x, _, dx, _, _, rfl, k.ins hx, T.c_Slots, T.a_Slots_barred, rfl, d, _, rfl, DGet.t (k := [Sum.inr t, Sum.inl i]) (k.obj _ _ hd (fun _ z => by cases z)) upd_same, h _ k⟩
end
end K31
set_option Elab.async false
set_option linter.all false
set_option maxRecDepth 100000
set_option maxHeartbeats 4000000
namespace K31
open PySem PySem.Spec PyProof.Rows L2 Fh
section
variable {ar : Air} {P : Program} {w : World} {K : PySem.W.Frag} {mg : Str → Option Value} {base : Heap}
abbrev pFits : He.Defn := (("Slots" : Str), some ("fits" : Str))
theorem tf_fits : pFits ∈ tf := List.mem_of_getElem? (i := 7) rfl
/-- fits((a, b) ..), nothing laid, nothing barred -/
def spFits (K : PySem.W.Frag) : Sp := fun vs H Q _ => ∃ (x dx g d gm p0 row : Addr) (ps : List V) (a b : Str) (i r : V) (j : Int), vs = [.ref x, .ref gm, .ref row, .int 0, .int j, r] ∧ H x = some (.ins (He.ga K "Slots") dx (slotsF g d)) ∧ H d = some (.dT []) ∧
  H gm = some (.tup (.ref p0 :: ps)) ∧ H p0 = some (.tup [.str a, .str b]) ∧ H row = some (.tup []) ∧ GxR.TabG H (He.cT K pFits).2 ∧ ∀ H', Kp (lawT K) H H' → Q (.bl true) H'
theorem ok_fits (T : Txt P K mg base) : MetX ar P w K mg base 3 (He.ga K "Slots") "fits" (spFits K) := by
  refine metX (p := pFits) T.c_Slots T.m_Slots_fits T.f_Slots_fits sc_Slots_fits b_Slots_fits (fun vs H Q E ⟨_, _, _, _, _, _, _, _, _, _, _, _, _, h, _⟩ => by rw [h]; rfl) fun A outer s H vs Q E hr ⟨x, dx, g, d, gm, p0, row, ps, a, b, i, r, j, ev, hx, hd, hgm, hp0, hrow, ht, h⟩ => ?_
  subst ev
  have nd := sc_Slots_fits.nd
  refine ⟨_, pss_cons (ps_if (pt_not (pt_val (pe_allG (k := 1) (own := [("team", 6)]) (g := gName 6) (tt := tYes) hr (by rfl) T.n_all (T.gx tf_fits) rfl nd (blkOk_by (N := N_Slots_fits) (sc := defScope s_Slots_fits) (by decide +kernel)) (by decide +kernel) rfl rfl
        (pi_tup (pe_ix ix_tup (pv 1) (pv 3) (fun _ _ => rfl))) (fun _ _ _ _ _ _ _ _ => pg_name (i := 6) nd rfl (Or.inl rfl)) (fun _ _ _ _ _ _ _ _ => pts_nil)
        (fun _ _ _ _ _ _ _ hr' => pe_mx (ok_free T) hr' (by decide) ar.zero (pv 0) (pa_cons (pv 6) (pa_cons (pv 4) pa_nil)))))) pss_no pss_nil)
    (pss_cons (ps_for owB rfl (RZ.pi_zipA (by rfl) T.n_zip (pa_cons (pv 1) (pa_cons (pv 2) pa_nil))) (pg_tup rfl (pgs_cons (pg_name (i := 7) nd rfl (.inl rfl)) (pgs_cons (pg_tup rfl (pgs_cons (pg_name (i := 8) nd rfl (.inl rfl)) (pgs_cons (pg_name (i := 9) nd rfl (.inl rfl)) pgs_nil))) pgs_nil))) pss_no)
    (pss_one (ps_ret pe_bl))), ?_⟩
  refine ⟨_, rfl, _, rfl, gm, _, _, _, rfl, rfl, SqT.of hgm, at_of (j := 0) rfl rfl, p0, rfl, ⟨_, SqT.of hp0⟩, ht, fun H2 tb => unG _ _ _ _ _ _ _ _ 2 ?_⟩
  have k2 := (Kp.refl (lawT K) H).tabbed ht tb (T.ne _ tf_fits (by decide))
  refine ⟨⟨_, _, SqT.of (k2.tup hp0), rfl⟩, fun v H3 y => ?_⟩
  obtain ⟨rfl, hy⟩ := y
  have ey := hy _ (SqT.of (k2.tup hp0))
  cases ey
  refine ⟨rfl, ⟨_, rfl, x, dx, _, rfl, k2.ins hx, rfl, _, rfl, _, rfl, x, dx, g, d, a, j, rfl, k2.ins hx, k2.obj _ _ hd (fun _ z => by cases z), fun H4 k4 => ⟨true, rfl, ?_⟩⟩⟩
  have k24 := k2.trans k4
  refine ⟨⟨_, _, SqT.of (k24.tup hp0), rfl⟩, fun v H5 y => ?_⟩
  obtain ⟨rfl, hy⟩ := y
  have ey := hy _ (SqT.of (k24.tup hp0))
  cases ey
  refine ⟨rfl, ⟨_, rfl, x, dx, _, rfl, k24.ins hx, rfl, _, rfl, _, rfl, x, dx, g, d, b, j, rfl, k24.ins hx, k24.obj _ _ hd (fun _ z => by cases z), fun H6 k6 => ⟨true, rfl, ?_⟩⟩⟩
  have k26 := k24.trans k6
  refine ⟨⟨_, SqT.of (k26.tup hp0), Nat.le_refl _⟩, _, rfl, ?_⟩
  refine ⟨_, rfl, _, rfl, gm, row, _, _, rfl, .inr ⟨SqT.of (k26.tup hgm), SqT.of (k26.tup hrow), unF _ _ _ _ 0 ⟨⟨_, _, SqT.of (k26.tup hgm), SqT.of (k26.tup hrow), .inr (Nat.le_refl _)⟩, h _ k26⟩⟩⟩
end
end K31
set_option Elab.async false
set_option linter.all false
set_option maxRecDepth 100000
set_option maxHeartbeats 4000000
namespace K31
open PySem PySem.Spec PyProof.Rows L2 Fh
section
variable {ar : Air} {P : Program} {w : World} {K : PySem.W.Frag} {mg : Str → Option Value} {base : Heap}
theorem room65 {k : Nat} {A : Around} (r : Room k A) : A.units + 65 < cLine := by
  have := r.un
  omega
/-- tried, the first game laid at ('x', 0): no place is left -/
def spTried1 (K : PySem.W.Frag) : Sp := fun vs H Q _ => ∃ (x dx g d gm row q : Addr) (p0 p1 r : V), vs = [.ref x, .ref gm, .int 1, .ref row, r] ∧ H x = some (.ins (He.ga K "Slots") dx (slotsF g d)) ∧ H g = some (.tup [.str "x"]) ∧ H gm = some (.tup [p0, p1]) ∧
  H row = some (.tup [.ref q]) ∧ H q = some (.tup [.str "x", .int 0]) ∧ ∀ H', Kp (lawT K) H H' → Q .non H'
theorem ok_tried1 (T : Txt P K mg base) : MetX ar P w K mg base 1 (He.ga K "Slots") "tried" (spTried1 K) := by
  refine metX (p := ("Slots", some "tried")) T.c_Slots T.m_Slots_tried T.f_Slots_tried sc_Slots_tried b_Slots_tried (fun vs H Q E ⟨_, _, _, _, _, _, _, _, _, _, h, _⟩ => by rw [h]; rfl) fun A outer s H vs Q E hr ⟨x, dx, g, d, gm, row, q, p0, p1, r, ev, hx, hg, hgm, hrow, hq, h⟩ => ?_
  subst ev
  have nd := sc_Slots_tried.nd
  refine ⟨_, pss_cons (ps_if (pt_cmpR op_eq (pv 2) (pe_callB call_len_seq (by rfl) T.n_len PySem.boot_len (pa_cons (pv 1) pa_nil)) (nomark _)) pss_no pss_nil)
    (pss_cons (ps_for owB rfl (pi_range1 (by rfl) T.n_range (pa_cons (pe_fld (pv 0) rfl) pa_nil)) (pg_name (i := 5) nd rfl (.inl rfl))
      (pss_one (ps_for owB rfl (pi_tup (pe_fld (pv 0) rfl)) (pg_name (i := 6) nd rfl (.inl rfl))
        (pss_one (ps_if (PW.pt (pw_and (pt_cmpR (op_notInT (room65 hr)) (pe_tup (pa_cons (pv 6) (pa_cons (pv 5) pa_nil))) (pv 3) (by rfl)) pw_no)) pss_no pss_nil)))))
    (pss_one (ps_ret pe_non))), ?_⟩
  refine ⟨_, rfl, _, rfl, gm, _, rfl, .inr (SqT.of hgm), rfl, _, rfl, ?_⟩
  refine ⟨_, rfl, x, _, dx, _, _, rfl, hx, T.c_Slots, T.a_Slots_many, rfl, 1, rfl, by decide, by decide, unF _ _ _ _ 1 ⟨Nat.zero_lt_one, fun v H1 y => ?_⟩⟩
  obtain ⟨rfl, rfl⟩ := y
  refine ⟨_, rfl, x, _, dx, _, _, rfl, hx, T.c_Slots, T.a_Slots_grounds, rfl, g, rfl, ⟨_, SqT.of hg⟩, unF _ _ _ _ 1 ⟨⟨_, _, SqT.of hg, rfl⟩, fun v H2 y => ?_⟩⟩
  obtain ⟨rfl, hy⟩ := y
  have ey := hy _ (SqT.of hg)
  cases ey
  refine ⟨_, rfl, _, rfl, (by show 2 ≤ sizeLine; decide), fun t ht => ?_⟩
  have k := (Kp.refl (lawT K) _).new ht (.tup [.str "x", .int (0 + ((0 : Nat) : Int))])
  refine ⟨_, rfl, _, _, .tup (SqT.of upd_same) (.cons (.str _) (.cons (.int _) .nil)), .tup (SqT.of (k.tup hrow)) (.cons (.tup (SqT.of (k.tup hq)) (.cons (.str _) (.cons (.int _) .nil))) .nil), by decide +kernel, by decide +kernel, _, rfl, ?_⟩
  refine itF (by decide +kernel) (itF rfl ?_)
  exact ⟨⟨_, SqT.of (k.tup hg), Nat.le_refl _⟩, ⟨Nat.le_refl _, h _ k⟩⟩
end
end K31
set_option Elab.async false
set_option linter.all false
set_option maxRecDepth 100000
set_option maxHeartbeats 4000000
namespace K31
open PySem PySem.Spec PyProof.Rows L2 Fh
section
variable {ar : Air} {P : Program} {w : World} {K : PySem.W.Frag} {mg : Str → Option Value} {base : Heap}
/-- tried, nothing laid yet: one game is laid, the other is not -/
def spTried0 (K : PySem.W.Frag) : Sp := fun vs H Q _ => ∃ (x dx g d gm row p0 : Addr) (a b : Str) (p1 r : V), vs = [.ref x, .ref gm, .int 0, .ref row, r] ∧ H x = some (.ins (He.ga K "Slots") dx (slotsF g d)) ∧ H d = some (.dT []) ∧ H g = some (.tup [.str "x"]) ∧
  H gm = some (.tup [.ref p0, p1]) ∧ H p0 = some (.tup [.str a, .str b]) ∧ H row = some (.tup []) ∧ GxR.TabG H (He.cT K pFits).2 ∧ ∀ H', Kp (lawT K) H H' → Q .non H'
theorem ok_tried0 (T : Txt P K mg base) : MetX ar P w K mg base 4 (He.ga K "Slots") "tried" (spTried0 K) := by
  refine metX (p := ("Slots", some "tried")) T.c_Slots T.m_Slots_tried T.f_Slots_tried sc_Slots_tried b_Slots_tried (fun vs H Q E ⟨_, _, _, _, _, _, _, _, _, _, _, h, _⟩ => by rw [h]; rfl) fun A outer s H vs Q E hr ⟨x, dx, g, d, gm, row, p0, a, b, p1, r, ev, hx, hd, hg, hgm, hp0, hrow, ht, h⟩ => ?_
  subst ev
  have nd := sc_Slots_tried.nd
  refine ⟨_, pss_cons (ps_if (pt_cmpR op_eq (pv 2) (pe_callB call_len_seq (by rfl) T.n_len PySem.boot_len (pa_cons (pv 1) pa_nil)) (nomark _)) pss_no pss_nil)
    (pss_cons (ps_for owB rfl (pi_range1 (by rfl) T.n_range (pa_cons (pe_fld (pv 0) rfl) pa_nil)) (pg_name (i := 5) nd rfl (.inl rfl))
      (pss_one (ps_for owB rfl (pi_tup (pe_fld (pv 0) rfl)) (pg_name (i := 6) nd rfl (.inl rfl))
        (pss_one (ps_if (PW.pt (pw_and (pt_cmpR (op_notInT (room65 hr)) (pe_tup (pa_cons (pv 6) (pa_cons (pv 5) pa_nil))) (pv 3) (by rfl))
            (pw_and1 (pt_val (pe_mx (ok_fits T) hr (by decide) ar.cx (pv 0) (pa_cons (pv 1) (pa_cons (pv 3) (pa_cons (pv 2) (pa_cons (pv 5) (pa_cons (pv 4) pa_nil)))))))))) 
          (pss_cons (ps_set (i := 7) nd rfl (.inl rfl) (pe_mx (ok_tried1 T) hr (by decide) ar.cx (pv 0) (pa_cons (pv 1) (pa_cons (pe_op op_add (pv 2) pe_int) (pa_cons (pe_op op_catA (pv 3) (pe_tup (pa_cons (pe_tup (pa_cons (pv 6) (pa_cons (pv 5) pa_nil))) pa_nil))) (pa_cons (pv 4) pa_nil))))))
          (pss_cons (ps_if (pt_cmp (pc_notN (pv 7))) pss_no pss_nil) (pss_one ps_break))) pss_nil)))))
    (pss_one (ps_ret pe_non))), ?_⟩
  refine ⟨_, rfl, _, rfl, gm, _, rfl, .inr (SqT.of hgm), rfl, _, rfl, ?_⟩
  refine ⟨_, rfl, x, _, dx, _, _, rfl, hx, T.c_Slots, T.a_Slots_many, rfl, 1, rfl, by decide, by decide, unF _ _ _ _ 1 ⟨Nat.zero_lt_one, fun v H1 y => ?_⟩⟩
  obtain ⟨rfl, rfl⟩ := y
  refine ⟨_, rfl, x, _, dx, _, _, rfl, hx, T.c_Slots, T.a_Slots_grounds, rfl, g, rfl, ⟨_, SqT.of hg⟩, unF _ _ _ _ 1 ⟨⟨_, _, SqT.of hg, rfl⟩, fun v H2 y => ?_⟩⟩
  obtain ⟨rfl, hy⟩ := y
  have ey := hy _ (SqT.of hg)
  cases ey
  refine ⟨_, rfl, _, rfl, (by show 2 ≤ sizeLine; decide), fun t htt => ?_⟩
  have k := (Kp.refl (lawT K) _).new htt (.tup [.str "x", .int (0 + ((0 : Nat) : Int))])
  refine ⟨_, rfl, _, _, .tup (SqT.of upd_same) (.cons (.str _) (.cons (.int _) .nil)), .tup (SqT.of (k.tup hrow)) .nil, by decide +kernel, rfl, _, rfl, ?_⟩
  refine itT (by decide +kernel) ?_
  refine ⟨_, rfl, x, dx, _, rfl, k.ins hx, rfl, _, rfl, _, rfl, _, rfl, _, rfl, _, rfl, ?_⟩
  refine ⟨x, dx, g, d, gm, p0, row, _, a, b, .non, r, _, rfl, k.ins hx, k.obj _ _ hd (fun _ z => by cases z), k.tup hgm, k.tup hp0, k.tup hrow, k.tabG ht, fun H3 k3 => ⟨true, rfl, ?_⟩⟩
  have kk := k.trans k3
  refine ⟨_, rfl, x, dx, _, rfl, kk.ins hx, rfl, _, rfl, _, rfl, _, _, rfl, rfl, _, rfl, _, rfl, _, rfl, (by show 2 ≤ sizeLine; decide), fun u hu => ⟨(by show 1 ≤ sizeLine; decide), fun u2 hu2 => ?_⟩⟩
  have ku := kk.new hu (.tup [.str "x", .int (0 + ((0 : Nat) : Int))])
  have hu1 : upd H3 u (.tup [.str "x", .int (0 + ((0 : Nat) : Int))]) u = some (.tup [.str "x", .int 0]) := upd_same
  generalize hH4 : upd H3 u (.tup [.str "x", .int (0 + ((0 : Nat) : Int))]) = H4 at *
  have ku2 := ku.new hu2 (.tup [.ref u])
  have k45 := (Kp.refl (lawT K) H4).new hu2 (.tup [.ref u])
  refine ⟨row, u2, _, _, rfl, rfl, SqT.of (ku2.tup hrow), SqT.of upd_same, (by show 1 ≤ sizeLine; decide), fun _ => ?_, fun z => absurd rfl z, fun z => absurd rfl z⟩
  refine ⟨_, rfl, x, dx, g, d, gm, u2, u, _, _, r, rfl, ku2.ins hx, ku2.tup hg, ku2.tup hgm, upd_same, k45.tup hu1, fun H5 k5 => ?_⟩
  refine ⟨_, rfl, _, rfl, ?_⟩
  exact ⟨Nat.le_refl _, h _ (ku2.trans k5)⟩
/-- laid: no room -/
def spLaidS (K : PySem.W.Frag) : Sp := fun vs H _ E => ∃ (x dx g d gl p0 : Addr) (a b : Str) (p1 r : V), vs = [.ref x, .ref gl, r] ∧ H x = some (.ins (He.ga K "Slots") dx (slotsF g d)) ∧ H d = some (.dT []) ∧ H g = some (.tup [.str "x"]) ∧
  H gl = some (.lst [.ref p0, p1]) ∧ H p0 = some (.tup [.str a, .str b]) ∧ GxR.TabG H (He.cT K pFits).2 ∧ ∀ H', Kp (lawT K) H H' → E (.ref (He.ga K "NoPlan")) none H'
theorem ok_laidS (T : Txt P K mg base) : MetX ar P w K mg base 5 (He.ga K "Slots") "laid" (spLaidS K) := by
  refine metX (p := ("Slots", some "laid")) T.c_Slots T.m_Slots_laid T.f_Slots_laid sc_Slots_laid b_Slots_laid (fun vs H Q E ⟨_, _, _, _, _, _, _, _, _, _, h, _⟩ => by rw [h]; rfl) fun A outer s H vs Q E hr ⟨x, dx, g, d, gl, p0, a, b, p1, r, ev, hx, hd, hg, hgl, hp0, ht, h⟩ => ?_
  subst ev
  have nd := sc_Slots_laid.nd
  refine ⟨_, pss_cons (ps_set (i := 3) nd rfl (.inl rfl) (pe_mx (ok_tried0 T) hr (by decide) ar.cx (pv 0) (pa_cons (pe_callTy call_tuple_of (by rfl) T.n_tuple (by decide +kernel) (pa_cons (pv 1) pa_nil)) (pa_cons pe_int (pa_cons (pe_tup pa_nil) (pa_cons (pv 2) pa_nil))))))
    (pss_cons (ps_if (pt_cmp (pc_isN (pv 3))) (pss_one (ps_rx T.x_NoPlan ar.cx)) pss_nil) pss_no), ?_⟩
  refine ⟨_, rfl, x, dx, _, rfl, hx, rfl, _, rfl, gl, _, rfl, .inl ⟨SqL.of hgl, fun gm hgm => ⟨by decide, fun row hrow => ⟨_, rfl, ?_⟩⟩⟩⟩
  have k1 := (Kp.refl (lawT K) H).new hgm (.tup [.ref p0, p1])
  have k12 := (Kp.refl (lawT K) _).new hrow (.tup [])
  have k2 := k1.trans k12
  refine ⟨x, dx, g, d, gm, row, p0, a, b, p1, r, rfl, k2.ins hx, k2.obj _ _ hd (fun _ z => by cases z), k2.tup hg, k12.tup upd_same, k2.tup hp0, upd_same, k2.tabG ht, fun H3 k3 => ?_⟩
  exact ⟨_, rfl, _, rfl, h _ (k2.trans k3)⟩
end
end K31
set_option Elab.async false
set_option linter.all false
set_option maxRecDepth 100000
set_option maxHeartbeats 4000000
namespace K31
open PySem PySem.Spec PyProof.Rows L2 Fh
section
variable {ar : Air} {P : Program} {w : World} {K : PySem.W.Frag} {mg : Str → Option Value} {base : Heap}
/-- seeds(2) -/
def spSeeds (K : PySem.W.Frag) : Sp := fun vs H Q _ => vs = [.int 2] ∧ ∀ H' p, Kp (lawT K) H H' → H p = none → H' p = some (.tup [.int 0, .int 1]) → Q (.ref p) H'
theorem ok_seeds (T : Txt P K mg base) : CalX ar P w K mg base 1 "seeds" (spSeeds K) := by
  refine calX (p := ("seeds", none)) T.g_seeds T.f_seeds sc_seeds b_seeds (fun vs H Q E ⟨h, _⟩ => by rw [h]; rfl) fun A outer s H vs Q E hr ⟨ev, h⟩ => ?_
  subst ev
  have nd := sc_seeds.nd
  refine ⟨_, pss_cons (ps_if (pt_cmpR op_notIn_seq (pv 0) (pe_tup (pa_cons pe_int (pa_cons pe_int (pa_cons pe_int (pa_cons pe_int (pa_cons pe_int (pa_cons pe_int (pa_cons pe_int pa_nil)))))))) (by rfl)) pss_no pss_nil)
    (pss_cons (ps_set (i := 1) nd rfl (.inl rfl) (pe_lst (pa_cons pe_int pa_nil)))
    (pss_cons (ps_while owB (pt_cmpR op_lt (pe_callB call_len_seq (by rfl) T.n_len PySem.boot_len (pa_cons (pv 1) pa_nil)) (pv 0) (nomark _))
      (pss_cons (ps_set (i := 2) nd rfl (.inr rfl) (pe_op op_mul pe_int (pe_callB call_len_seq (by rfl) T.n_len PySem.boot_len (pa_cons (pv 1) pa_nil))))
      (pss_one (ps_setLc2 (i := 1) (own := [("seed", 3), ("one", 4)]) (vs1 := [4]) (g := gName 3) (g1 := gName 4) (tt := tYes) (tt1 := tYes) (wi1 := iTup K (tTup (tCons (tVar 3) (tCons (tOp (rI0 fun i j => .int (i - j)) (tOp (rI0 fun i j => .int (i - j)) (tVar 2) (tC (.int 1))) (tVar 3)) tNil)))) rfl nd rfl rfl (sw_true rfl rfl rfl (by decide +kernel)) (pi_list (pv 1)) (blkOk_by (N := N_seeds) (sc := defScope s_seeds) (by decide +kernel)) (by decide)
        (fun _ _ _ _ _ => pg_name (i := 3) nd rfl (Or.inl rfl)) (fun _ _ _ _ _ => pts_nil) (fun _ _ _ _ _ => pi_tup (pe_tup (pa_cons (pv 3) (pa_cons (pe_op op_sub (pe_op op_sub (pv 2) pe_int) (pv 3)) pa_nil))))
        (fun _ _ _ _ _ => pg_name (i := 4) nd rfl (Or.inl rfl)) (fun _ _ _ _ _ => pts_nil) (fun _ _ _ _ _ => pv 4)))))
    (pss_one (ps_ret (pe_callTy call_tuple_of (by rfl) T.n_tuple (by decide +kernel) (pa_cons (pv 1) pa_nil)))))), ?_⟩
  refine ⟨_, rfl, (by show 7 ≤ sizeLine; decide), fun p hp => ⟨p, _, rfl, .inr (SqT.of upd_same), rfl, rfl, _, rfl, ?_⟩⟩
  have k1 := (Kp.refl (lawT K) H).new hp (.tup [.int 1, .int 2, .int 4, .int 8, .int 16, .int 32, .int 64])
  generalize hH1 : upd H p (.tup [.int 1, .int 2, .int 4, .int 8, .int 16, .int 32, .int 64]) = H1 at *
  refine itF (by decide +kernel) ⟨(by show 1 ≤ sizeLine; decide), fun r0 hr0 => ?_⟩
  have k2 := k1.new hr0 (.lst [.int 0])
  have hr2 : upd H1 r0 (.lst [.int 0]) r0 = some (.lst [.int 0]) := upd_same
  generalize hH2 : upd H1 r0 (.lst [.int 0]) = H2 at *
  refine unW _ _ _ 1 (unW_of ?_)
  refine ⟨_, rfl, r0, _, rfl, .inl (SqL.of hr2), _, rfl, _, _, rfl, rfl, _, rfl, iteT (unW_turn ?_)⟩
  refine ⟨_, rfl, r0, _, rfl, .inl (SqL.of hr2), _, _, rfl, rfl, .inl ⟨by decide, by decide⟩, ?_⟩
  refine ⟨_, rfl, r0, rfl, ⟨_, SqL.of hr2⟩, fun D hD => unM _ _ _ _ _ _ _ _ _ _ _ _ 1 ?_⟩
  have k3 := k2.new hD (.lst [])
  have kD := (Kp.refl (lawT K) H2).new hD (.lst [])
  have hD3 : upd H2 D (.lst []) D = some (.lst []) := upd_same
  generalize hH3 : upd H2 D (.lst []) = H3 at *
  have hr3 := kD.lst hr2
  refine ⟨⟨_, _, SqL.of hr3, rfl⟩, fun v H4 y => ?_⟩
  obtain ⟨rfl, hy⟩ := y
  have ey := hy _ (SqL.of hr3)
  cases ey
  refine ⟨rfl, ?_⟩
  refine ⟨_, rfl, _, rfl, _, _, rfl, rfl, _, rfl, _, _, rfl, rfl, (by show 2 ≤ sizeLine; decide), fun t ht => ⟨t, rfl, ⟨_, SqT.of upd_same⟩, ?_⟩⟩
  have k5 := k3.new ht (.tup [.int 0, .int 1])
  have k45 := (Kp.refl (lawT K) H4).new ht (.tup [.int 0, .int 1])
  have ht5 : upd H4 t (.tup [.int 0, .int 1]) t = some (.tup [.int 0, .int 1]) := upd_same
  refine unLi _ _ _ _ _ _ _ _ 2 ?_
  show UnL _ _ _ _ _ _ _ _ 2 0 (upd H4 t (.tup [.int 0, .int 1]))
  generalize hH5 : upd H4 t (.tup [.int 0, .int 1]) = H5 at *
  have hD5 := k45.lst hD3
  have hr5 := k45.lst hr3
  refine ⟨⟨_, _, SqT.of ht5, rfl⟩, fun v H6 y => ?_⟩
  obtain ⟨rfl, hy⟩ := y
  have ey := hy _ (SqT.of ht5)
  cases ey
  refine ⟨rfl, ⟨_, rfl, _, hD5, by decide, ?_⟩⟩
  have nt : t ≠ D := ne_of ht5 hD5 (by intro z; cases z)
  have nr : r0 ≠ D := fun z => by rw [z, hD5] at hr5; cases hr5
  have k7 := k5.set (p := D) (k2.free hD) (.lst [.int 0])
  have ht7 : upd H6 D (.lst [.int 0]) t = some (.tup [.int 0, .int 1]) := (upd_ne nt).trans ht5
  have hr7 : upd H6 D (.lst [.int 0]) r0 = some (.lst [.int 0]) := (upd_ne nr).trans hr5
  have hD7 : upd H6 D (.lst [.int 0]) D = some (.lst [.int 0]) := upd_same
  show UnL _ _ _ _ _ _ _ _ 1 1 (upd H6 D (.lst [.int 0]))
  generalize hH7 : upd H6 D (.lst [.int 0]) = H7 at *
  refine ⟨⟨_, _, SqT.of ht7, rfl⟩, fun v H8 y => ?_⟩
  obtain ⟨rfl, hy⟩ := y
  have ey := hy _ (SqT.of ht7)
  cases ey
  refine ⟨rfl, ⟨_, rfl, _, hD7, by decide, ?_⟩⟩
  have k9 := k7.set (p := D) (k2.free hD) (.lst [.int 0, .int 1])
  have ht9 : upd H8 D (.lst [.int 0, .int 1]) t = some (.tup [.int 0, .int 1]) := (upd_ne nt).trans ht7
  have hr9 : upd H8 D (.lst [.int 0, .int 1]) r0 = some (.lst [.int 0]) := (upd_ne nr).trans hr7
  have hD9 : upd H8 D (.lst [.int 0, .int 1]) D = some (.lst [.int 0, .int 1]) := upd_same
  show UnL _ _ _ _ _ _ _ _ 0 2 (upd H8 D (.lst [.int 0, .int 1]))
  generalize hH9 : upd H8 D (.lst [.int 0, .int 1]) = H9 at *
  refine ⟨⟨_, SqT.of ht9, Nat.le_refl _⟩, ⟨⟨_, SqL.of hr9, Nat.le_refl _⟩, ?_⟩⟩
  -- the test again
  refine unW_of ⟨_, rfl, D, _, rfl, .inl (SqL.of hD9), _, rfl, _, _, rfl, rfl, _, rfl, iteF ?_⟩
  refine ⟨_, rfl, D, _, rfl, .inl ⟨SqL.of hD9, fun q hq => ?_⟩⟩
  exact h _ q (k9.new hq _) (k9.free hq) upd_same
end
end K31
set_option Elab.async false
set_option linter.all false
set_option maxRecDepth 100000
set_option maxHeartbeats 4000000
namespace K31
open PySem PySem.Spec PyProof.Rows L2 Fh
section
variable {ar : Air} {P : Program} {w : World} {K : PySem.W.Frag} {mg : Str → Option Value} {base : Heap}
/-- laid([a, b]), two texts -/
def spLaid (K : PySem.W.Frag) : Sp := fun vs H Q _ => ∃ (tl : Addr) (a b : Str), vs = [.ref tl] ∧ H tl = some (.lst [.str a, .str b]) ∧ a ≠ b ∧ ∀ H' p, Kp (lawT K) H H' → H p = none → H' p = some (.tup [.str a, .str b]) → Q (.ref p) H'
theorem ok_laid (T : Txt P K mg base) : CalX ar P w K mg base 2 "laid" (spLaid K) := by
  refine calX (p := ("laid", none)) T.g_laid T.f_laid sc_laid b_laid (fun vs H Q E ⟨_, _, _, h, _⟩ => by rw [h]; rfl) fun A outer s H vs Q E hr ⟨tl, a, b, ev, htl, nab, h⟩ => ?_
  subst ev
  have nd := sc_laid.nd
  refine ⟨_, pss_cons (ps_if (PW.pt (pw_or (pt_cmpR op_lt (pe_callB call_len_seq (by rfl) T.n_len PySem.boot_len (pa_cons (pv 0) pa_nil)) pe_int (nomark _))
        (pw_or1 (pt_cmpR op_ne (pe_callB call_lenD (by rfl) T.n_len PySem.boot_len (pa_cons (pe_dc (own := [("team", 1)]) (g := gName 1) (tt := tYes) rfl nd (pi_list (pv 0)) (blkOk_by (N := N_laid) (sc := defScope s_laid) (by decide +kernel)) (fun _ _ _ _ _ => pg_name (i := 1) nd rfl (Or.inl rfl)) (fun _ _ _ _ _ => pts_nil) (fun _ _ _ _ _ => pv 1) (fun _ _ _ _ _ => pe_bl)) pa_nil))
          (pe_callB call_len_seq (by rfl) T.n_len PySem.boot_len (pa_cons (pv 0) pa_nil)) (nomark _))))) pss_no pss_nil)
    (pss_cons (ps_set (i := 2) nd rfl (.inl rfl) pe_int)
    (pss_cons (ps_while owB (pt_cmpR op_lt (pv 2) (pe_callB call_len_seq (by rfl) T.n_len PySem.boot_len (pa_cons (pv 0) pa_nil)) (nomark _)) (pss_one (ps_aug (i := 2) nd rfl (.inl rfl) pe_int ip_mul)))
    (pss_one (ps_ret (pe_callTy call_tuple_of (by rfl) T.n_tuple (by decide +kernel) (pa_cons (pe_lc (own := [("k", 3)]) (g := gName 3) (tt := tYes) rfl nd (pi_tup (pe_cx (ok_seeds T) hr (by decide) ar.cx (pa_cons (pv 2) pa_nil))) (blkOk_by (N := N_laid) (sc := defScope s_laid) (by decide +kernel)) (fun _ _ _ _ _ => pg_name (i := 3) nd rfl (Or.inl rfl)) (fun _ _ _ _ _ => pts_nil)
      (fun _ _ _ _ _ => pe_ifExp (pt_cmpR op_lt (pv 3) (pe_callB (lenK K) (by rfl) T.n_len PySem.boot_len (pa_cons (pv 0) pa_nil)) (nomark _)) (pe_ix (ixL K) (pv 0) (pv 3) (fun _ _ => rfl)) pe_no)) pa_nil)))))), ?_⟩
  refine ⟨_, rfl, tl, _, rfl, .inl (SqL.of htl), _, _, rfl, rfl, _, rfl, iteF ?_⟩
  refine ⟨_, rfl, tl, rfl, ⟨_, SqL.of htl⟩, fun D hD => unD _ _ _ _ _ _ _ _ _ 2 ?_⟩
  have nD : tl ≠ D := ne_of_none htl hD
  have k1 := (Kp.refl (lawT K) H).new hD (.dK [])
  have t1 := k1.lst htl
  have hD1 : upd H D (.dK []) D = some (.dK []) := upd_same
  generalize hH1 : upd H D (.dK []) = H1 at *
  refine ⟨⟨_, _, SqL.of t1, rfl⟩, fun v H2 y => ?_⟩
  obtain ⟨rfl, hy⟩ := y
  have ey := hy _ (SqL.of t1)
  cases ey
  refine ⟨rfl, ⟨_, rfl, [], Sum.inr a, rfl, hD1, by decide, ?_⟩⟩
  have k3 := k1.set (p := D) hD (.dK [(Sum.inr a, .bl true)])
  have t3 := k3.lst htl
  have hD3 : upd H2 D (.dK [(Sum.inr a, .bl true)]) D = some (.dK [(Sum.inr a, .bl true)]) := upd_same
  show UnD _ _ _ _ _ _ _ _ _ 1 1 (upd H2 D (.dK [(Sum.inr a, .bl true)]))
  generalize hH3 : upd H2 D (.dK [(Sum.inr a, .bl true)]) = H3 at *
  refine ⟨⟨_, _, SqL.of t3, rfl⟩, fun v H4 y => ?_⟩
  obtain ⟨rfl, hy⟩ := y
  have ey := hy _ (SqL.of t3)
  cases ey
  refine ⟨rfl, ⟨_, rfl, _, Sum.inr b, rfl, hD3, (by show 1 < sizeLine; decide), ?_⟩⟩
  have ep : putK [((Sum.inr a : Key), V.bl true)] (Sum.inr b) (.bl true) = [(Sum.inr a, .bl true), (Sum.inr b, .bl true)] := by simp [putK, nab]
  rw [ep]
  have k5 := k3.set (p := D) hD (.dK [(Sum.inr a, .bl true), (Sum.inr b, .bl true)])
  have t5 := k5.lst htl
  have hD5 : upd H4 D (.dK [(Sum.inr a, .bl true), (Sum.inr b, .bl true)]) D = some (.dK [(Sum.inr a, .bl true), (Sum.inr b, .bl true)]) := upd_same
  generalize hH5 : upd H4 D (.dK [(Sum.inr a, .bl true), (Sum.inr b, .bl true)]) = H5 at *
  refine ⟨⟨_, SqL.of t5, Nat.le_refl _⟩, ?_⟩
  refine ⟨D, _, rfl, hD5, _, rfl, tl, _, rfl, .inl (SqL.of t5), rfl, _, rfl, ?_⟩
  refine itF rfl ?_
  -- size = 1; while ..
  refine unW _ _ _ 1 (unW_of ?_)
  refine ⟨_, rfl, _, rfl, tl, _, rfl, .inl (SqL.of t5), _, _, rfl, rfl, _, rfl, iteT (unW_turn ?_)⟩
  refine ⟨_, rfl, _, _, rfl, rfl, .of_left (by decide), ?_⟩
  refine unW_of ⟨_, rfl, _, rfl, tl, _, rfl, .inl (SqL.of t5), _, _, rfl, rfl, _, rfl, iteF ?_⟩
  -- seeds(2)
  refine ⟨_, rfl, rfl, fun H6 sd k6 nsd hsd => ?_⟩
  have k06 := k5.trans k6
  refine ⟨sd, rfl, ⟨_, SqT.of hsd⟩, fun L hL => unL _ _ _ _ _ _ _ _ 2 ?_⟩
  have k7 := k06.new hL (.lst [])
  have k67 := (Kp.refl (lawT K) H6).new hL (.lst [])
  have hs7 := k67.tup hsd
  have t7 := k7.lst htl
  have hL7 : upd H6 L (.lst []) L = some (.lst []) := upd_same
  have nLs : sd ≠ L := ne_of_none hsd hL
  have nL := k06.free hL
  generalize hH7 : upd H6 L (.lst []) = H7 at *
  refine ⟨⟨_, _, SqT.of hs7, rfl⟩, fun v H8 y => ?_⟩
  obtain ⟨rfl, hy⟩ := y
  have ey := hy _ (SqT.of hs7)
  cases ey
  refine ⟨rfl, ⟨_, rfl, _, rfl, tl, _, rfl, .inl (SqL.of t7), _, _, rfl, rfl, _, rfl, ?_⟩⟩
  refine ⟨_, rfl, _, rfl, tl, _, _, _, rfl, rfl, SqL.of t7, at_of (j := 0) rfl rfl, _, hL7, by decide, ?_⟩
  have k9 := k7.set (p := L) nL (.lst [.str a])
  have hs9 : upd H8 L (.lst [.str a]) sd = _ := (upd_ne nLs).trans hs7
  have t9 := k9.lst htl
  have hL9 : upd H8 L (.lst [.str a]) L = some (.lst [.str a]) := upd_same
  show UnL _ _ _ _ _ _ _ _ 1 1 (upd H8 L (.lst [.str a]))
  generalize hH9 : upd H8 L (.lst [.str a]) = H9 at *
  refine ⟨⟨_, _, SqT.of hs9, rfl⟩, fun v H10 y => ?_⟩
  obtain ⟨rfl, hy⟩ := y
  have ey := hy _ (SqT.of hs9)
  cases ey
  refine ⟨rfl, ⟨_, rfl, _, rfl, tl, _, rfl, .inl (SqL.of t9), _, _, rfl, rfl, _, rfl, ?_⟩⟩
  refine ⟨_, rfl, _, rfl, tl, _, _, _, rfl, rfl, SqL.of t9, at_of (j := 1) rfl rfl, _, hL9, (by show 1 < sizeLine; decide), ?_⟩
  have k11 := k9.set (p := L) nL (.lst [.str a, .str b])
  have hs11 : upd H10 L (.lst [.str a, .str b]) sd = _ := (upd_ne nLs).trans hs9
  have hL11 : upd H10 L (.lst [.str a, .str b]) L = some (.lst [.str a, .str b]) := upd_same
  show UnL _ _ _ _ _ _ _ _ 0 2 (upd H10 L (.lst [.str a, .str b]))
  generalize hH11 : upd H10 L (.lst [.str a, .str b]) = H11 at *
  refine ⟨⟨_, SqT.of hs11, Nat.le_refl _⟩, ?_⟩
  exact ⟨L, _, rfl, .inl ⟨SqL.of hL11, fun q hq => h _ q (k11.new hq _) (k11.free hq) upd_same⟩⟩
end
end K31
set_option Elab.async false
set_option linter.all false
set_option maxRecDepth 100000
set_option maxHeartbeats 4000000
namespace K31
open PySem PySem.Spec PyProof.Rows L2 Fh
section
variable {ar : Air} {P : Program} {w : World} {K : PySem.W.Frag} {mg : Str → Option Value} {base : Heap}
abbrev cupF (R G : Addr) : List (Str × V) := [("rows", .ref R), ("games", .ref G)]
theorem rg022 : RgC 0 2 2 1 := ⟨by decide, by decide, by decide +kernel, by decide +kernel⟩
/-- byes: two teams, none away -/
def spByes (K : PySem.W.Frag) : Sp := fun vs H Q _ => ∃ (x dx R G r0 : Addr) (a b : Str) (rs : List V), vs = [.ref x] ∧ H x = some (.ins (He.ga K "Cup") dx (cupF R G)) ∧ H R = some (.lst (.ref r0 :: rs)) ∧ H r0 = some (.lst [.str a, .str b]) ∧ Q .non H
theorem ok_byes (T : Txt P K mg base) : MetX ar P w K mg base 1 (He.ga K "Cup") "byes" (spByes K) := by
  refine metX (p := ("Cup", some "byes")) T.c_Cup T.m_Cup_byes T.f_Cup_byes sc_Cup_byes b_Cup_byes (fun vs H Q E ⟨_, _, _, _, _, _, _, _, h, _⟩ => by rw [h]; rfl) fun A outer s H vs Q E hr ⟨x, dx, R, G, r0, a, b, rs, ev, hx, hR, h0, h⟩ => ?_
  subst ev
  have nd := sc_Cup_byes.nd
  refine ⟨_, pss_cons (ps_set (i := 1) nd rfl (.inl rfl) (pe_ix ix_list (pe_fld (pv 0) rfl) pe_int (fun _ _ => rfl)))
    (pss_one (ps_for owB rfl (pi_range3 (by rfl) T.n_range (pa_cons pe_int (pa_cons (pe_callB call_len_seq (by rfl) T.n_len PySem.boot_len (pa_cons (pv 1) pa_nil)) (pa_cons pe_int pa_nil)))) (pg_name (i := 2) nd rfl (.inl rfl))
      (pss_one (ps_if (pt_cmpR op_ne (pe_cmp (pc_isN (pe_ix ix_list (pv 1) (pv 2) (fun _ _ => rfl))) rfl) (pe_cmp (pc_isN (pe_ix ix_list (pv 1) (pe_op op_add (pv 2) pe_int) (fun _ _ => rfl))) rfl) (nomark _)) pss_no pss_nil)))), ?_⟩
  refine ⟨_, rfl, x, _, dx, _, _, rfl, hx, T.c_Cup, T.a_Cup_rows, rfl, R, _, _, _, rfl, rfl, SqL.of hR, at_of (j := 0) rfl rfl, ?_⟩
  refine ⟨_, rfl, r0, _, rfl, .inl (SqL.of h0), 0, 2, 2, 1, rfl, rg022, unF _ _ _ _ 1 ⟨Nat.zero_lt_one, fun v H1 y => ?_⟩⟩
  obtain ⟨rfl, rfl⟩ := y
  refine ⟨_, rfl, _, rfl, r0, _, _, _, rfl, rfl, SqL.of h0, at_of (j := 0) rfl rfl, _, rfl, _, rfl, _, _, rfl, rfl, r0, _, _, _, rfl, rfl, SqL.of h0, at_of (j := 1) rfl rfl, rfl, _, rfl, ?_⟩
  exact itF rfl ⟨Nat.le_refl _, h⟩
/-- due: the one game of the first row -/
def spDue (K : PySem.W.Frag) : Sp := fun vs H Q _ => ∃ (x dx R G r0 r1 : Addr) (a b : Str), vs = [.ref x] ∧ H x = some (.ins (He.ga K "Cup") dx (cupF R G)) ∧ H R = some (.lst [.ref r0, .ref r1]) ∧ H r0 = some (.lst [.str a, .str b]) ∧ H r1 = some (.lst [.non]) ∧
  ∀ H' p q, Kp (lawT K) H H' → H' p = some (.tup [.ref q]) → H' q = some (.tup [.int 0, .int 0, .str a, .str b]) → Q (.ref p) H'
theorem ok_due (T : Txt P K mg base) : MetX ar P w K mg base 1 (He.ga K "Cup") "due" (spDue K) := by
  refine metX (p := ("Cup", some "due")) T.c_Cup T.m_Cup_due T.f_Cup_due sc_Cup_due b_Cup_due (fun vs H Q E ⟨_, _, _, _, _, _, _, _, h, _⟩ => by rw [h]; rfl) fun A outer s H vs Q E hr ⟨x, dx, R, G, r0, r1, a, b, ev, hx, hR, h0, h1, h⟩ => ?_
  subst ev
  have nd := sc_Cup_due.nd
  refine ⟨_, pss_cons (ps_set (i := 1) nd rfl (.inl rfl) (pe_lst pa_nil))
    (pss_cons (ps_for owB rfl (pi_enum (by rfl) T.n_enumerate (pa_cons (pe_slice sl_list (pe_fld (pv 0) rfl) po_none (po_some (pe_un un_neg pe_int))) pa_nil)) (pg_tup rfl (pgs_cons (pg_name (i := 2) nd rfl (.inl rfl)) (pgs_cons (pg_name (i := 3) nd rfl (.inl rfl)) pgs_nil)))
      (pss_one (ps_for owB rfl (pi_range3 (by rfl) T.n_range (pa_cons pe_int (pa_cons (pe_callB call_len_seq (by rfl) T.n_len PySem.boot_len (pa_cons (pv 3) pa_nil)) (pa_cons pe_int pa_nil)))) (pg_name (i := 4) nd rfl (.inl rfl))
        (pss_cons (ps_par (i := 5) (j := 6) (by rfl) nd rfl rfl (by decide) rfl rfl (pa_cons (pe_ix ix_list (pv 3) (pv 4) (fun _ _ => rfl)) (pa_cons (pe_ix ix_list (pv 3) (pe_op op_add (pv 4) pe_int) (fun _ _ => rfl)) pa_nil)) (by rfl))
        (pss_one (ps_if (PW.pt (pw_and (pt_cmp (pc_notN (pv 5))) (pw_and (pt_cmp (pc_notN (pv 6))) (pw_and1 (pt_cmp (pc_isN (pe_ix ix_list (pe_ix ix_list (pe_fld (pv 0) rfl) (pe_op op_add (pv 2) pe_int) (fun _ _ => rfl)) (pe_op op_fdiv (pv 4) pe_int) (fun _ _ => rfl))))))))
          (pss_one (ps_expr (pe_bm PySem.F.plainAttrs_list PySem.F.slot_list_append PySem.F.type_list_append mt_append (pv 1) (pa_cons (pe_tup (pa_cons (pv 2) (pa_cons (pe_op op_fdiv (pv 4) pe_int) (pa_cons (pv 5) (pa_cons (pv 6) pa_nil))))) pa_nil)))) pss_nil))))))
    (pss_one (ps_ret (pe_callTy call_tuple_of (by rfl) T.n_tuple (by decide +kernel) (pa_cons (pv 1) pa_nil))))), ?_⟩
  refine ⟨by decide, fun f hf => ?_⟩
  have k1 := (Kp.refl (lawT K) H).new hf (.lst [])
  have hf1 : upd H f (.lst []) f = some (.lst []) := upd_same
  generalize hH1 : upd H f (.lst []) = H1 at *
  refine ⟨_, rfl, x, _, dx, _, _, rfl, k1.ins hx, T.c_Cup, T.a_Cup_rows, rfl, _, rfl, _, rfl, R, _, rfl, SqL.of (k1.lst hR), fun sl hsl => ?_⟩
  have ec : cutV [V.ref r0, V.ref r1] none (some (-1)) = [.ref r0] := by rfl
  rw [ec]
  have k2 := k1.new hsl (.lst [.ref r0])
  have k12 := (Kp.refl (lawT K) H1).new hsl (.lst [.ref r0])
  have hs2 : upd H1 sl (.lst [.ref r0]) sl = some (.lst [.ref r0]) := upd_same
  have hf2 := k12.lst hf1
  generalize hH2 : upd H1 sl (.lst [.ref r0]) = H2 at *
  refine ⟨sl, _, rfl, SqL.of hs2, unF _ _ _ _ 1 ⟨⟨_, _, SqL.of hs2, rfl⟩, fun v H3 y => ?_⟩⟩
  obtain ⟨t3, y, rfl, ht3, rfl, hy⟩ := y
  have ey := hy _ (SqL.of hs2)
  cases ey
  refine ⟨t3, _, rfl, SqT.of upd_same, rfl, _, _, rfl, _, _, rfl, rfl, ?_⟩
  have k3 := k2.new ht3 (.tup [.int ((0 : Nat) : Int), .ref r0])
  have k23 := (Kp.refl (lawT K) H2).new ht3 (.tup [.int ((0 : Nat) : Int), .ref r0])
  have hf3 := k23.lst hf2
  have hs3 := k23.lst hs2
  generalize hH3 : upd H2 t3 (.tup [.int ((0 : Nat) : Int), .ref r0]) = H3 at *
  have h03 := k3.lst h0
  refine ⟨_, rfl, r0, _, rfl, .inl (SqL.of h03), 0, 2, 2, 1, rfl, rg022, unF _ _ _ _ 1 ⟨Nat.zero_lt_one, fun v H4 y => ?_⟩⟩
  obtain ⟨rfl, rfl⟩ := y
  refine ⟨_, rfl, _, rfl, r0, _, _, _, rfl, rfl, SqL.of h03, at_of (j := 0) rfl rfl, _, rfl, _, rfl, _, _, rfl, rfl, r0, _, _, _, rfl, rfl, SqL.of h03, at_of (j := 1) rfl rfl, _, _, rfl, ?_⟩
  refine ⟨_, rfl, _, rfl, ⟨_, rfl, _, rfl, ?_⟩⟩
  refine ⟨_, rfl, x, _, dx, _, _, rfl, k3.ins hx, T.c_Cup, T.a_Cup_rows, rfl, _, rfl, _, _, rfl, rfl, R, _, _, _, rfl, rfl, SqL.of (k3.lst hR), at_of (j := 1) rfl rfl, _, rfl, _, _, rfl, rfl, ⟨by decide, by decide⟩, r1, _, _, _, rfl, rfl, SqL.of (k3.lst h1), at_of (j := 0) rfl rfl, _, rfl, ?_⟩
  refine ⟨_, rfl, .inl ⟨rfl, _, SqL.of hf3⟩, _, rfl, _, rfl, _, _, rfl, rfl, ⟨by decide, by decide⟩, _, rfl, _, rfl, (by show 4 ≤ sizeLine; decide), fun q hq => ?_⟩
  have nfq : f ≠ q := ne_of_none hf3 hq
  have nsq : sl ≠ q := ne_of_none hs3 hq
  have nsf : sl ≠ f := fun z => by rw [z, hf3] at hs3; cases hs3
  refine ⟨f, _, _, rfl, rfl, (upd_ne nfq).trans hf3, by decide, ?_⟩
  refine ⟨Nat.le_refl _, ⟨⟨_, SqL.of ((upd_ne nsf).trans ((upd_ne nsq).trans hs3)), Nat.le_refl _⟩, ?_⟩⟩
  refine ⟨_, rfl, f, _, rfl, .inl ⟨SqL.of upd_same, fun p hp => h _ p q (((k3.new hq _).set hf _).new hp _) upd_same ?_⟩⟩
  have npq : q ≠ p := fun z => by
    rw [← z, upd_ne nfq.symm, upd_same] at hp
    cases hp
  rw [upd_ne npq, upd_ne nfq.symm, upd_same]
  rfl
end
end K31
set_option Elab.async false
set_option linter.all false
set_option maxRecDepth 100000
set_option maxHeartbeats 4000000
namespace K31
open PySem PySem.Spec PyProof.Rows L2 Fh
section
variable {ar : Air} {P : Program} {w : World} {K : PySem.W.Frag} {mg : Str → Option Value} {base : Heap}
theorem at1 (v : V) : atI [v] (-1) = some v := atI_last [] v
theorem at2 (u v : V) : atI [u, v] (-1) = some v := atI_last [u] v
/-- all but the object at x is kept -/
abbrev KpB (P0 x : Addr) (H H' : Hp) : Prop := ∀ H0, Kp P0 H0 H → H0 x = none → Kp P0 H0 H'
/-- Cup([a, b]) -/
def spCup (K : PySem.W.Frag) : Sp := fun vs H Q _ => ∃ (x dx tl : Addr) (a b : Str), vs = [.ref x, .ref tl] ∧ H x = some (.ins (He.ga K "Cup") dx []) ∧ H tl = some (.lst [.str a, .str b]) ∧ a ≠ b ∧
  ∀ H' R G r0 r1, H' x = some (.ins (He.ga K "Cup") dx (cupF R G)) → H' R = some (.lst [.ref r0, .ref r1]) → H' r0 = some (.lst [.str a, .str b]) → H' r1 = some (.lst [.non]) → KpB (lawT K) x H H' → Q .non H'
theorem ok_cup (T : Txt P K mg base) : MakX ar P w K mg base 3 "Cup" (He.ga K "Cup") (spCup K) := by
  refine makX (p := ("Cup", some "__init__")) T.g_Cup T.k_Cup T.f_Cup_d_initd_ sc_Cup_d_initd_ b_Cup_d_initd_ (fun vs H Q E ⟨_, _, _, _, _, h, _⟩ => by rw [h]; rfl) fun A outer s H vs Q E hr ⟨x, dx, tl, a, b, ev, hx, htl, nab, h⟩ => ?_
  subst ev
  have nd := sc_Cup_d_initd_.nd
  refine ⟨_, pss_cons (ps_fld (pv 0) (pe_lst (pa_cons (pe_callTy call_list_of (by rfl) T.n_list (by decide +kernel) (pa_cons (pe_cx (ok_laid T) hr (by decide) ar.cx (pa_cons (pv 1) pa_nil)) pa_nil)) pa_nil)) rfl)
    (pss_cons (ps_while owB (pt_cmpR op_gt (pe_callB call_len_seq (by rfl) T.n_len PySem.boot_len (pa_cons (pe_ix ix_list (pe_fld (pv 0) rfl) (pe_un un_neg pe_int) (fun _ _ => rfl)) pa_nil)) pe_int (nomark _))
      (pss_one (ps_expr (pe_bm PySem.F.plainAttrs_list PySem.F.slot_list_append PySem.F.type_list_append mt_append (pe_fld (pv 0) rfl) (pa_cons (pe_op op_rep (pe_lst (pa_cons pe_non pa_nil)) (pe_op op_fdiv (pe_callB call_len_seq (by rfl) T.n_len PySem.boot_len (pa_cons (pe_ix ix_list (pe_fld (pv 0) rfl) (pe_un un_neg pe_int) (fun _ _ => rfl)) pa_nil)) pe_int)) pa_nil)))))
    (pss_cons (ps_fld (pv 0) (pe_lst pa_nil) rfl)
    (pss_one (ps_expr (pe_mx0 (ok_byes T) hr (by decide) ar.cx (pv 0)))))), ?_⟩
  refine ⟨_, rfl, tl, a, b, rfl, htl, nab, fun H1 p1 k1 np1 hp1 => ⟨p1, _, rfl, .inr (SqT.of hp1), fun r0 hr0 => ⟨(by show 1 ≤ sizeLine; decide), fun R hR => ?_⟩⟩⟩
  have k2 := k1.new hr0 (.lst [.str a, .str b])
  have hr2 : upd H1 r0 (.lst [.str a, .str b]) r0 = some (.lst [.str a, .str b]) := upd_same
  generalize hH2 : upd H1 r0 (.lst [.str a, .str b]) = H2 at *
  have k3 := k2.new hR (.lst [.ref r0])
  have k23 := (Kp.refl (lawT K) H2).new hR (.lst [.ref r0])
  have hR3 : upd H2 R (.lst [.ref r0]) R = some (.lst [.ref r0]) := upd_same
  have hr3 := k23.lst hr2
  generalize hH3 : upd H2 R (.lst [.ref r0]) = H3 at *
  have hx3 := k3.ins hx
  have nxr : r0 ≠ x := ne_of hr3 hx3 (by intro z; cases z)
  have nxR : R ≠ x := ne_of hR3 hx3 (by intro z; cases z)
  have nRr : R ≠ r0 := fun z => by rw [z, hr3] at hR3; cases hR3
  refine ⟨_, rfl, x, _, dx, [], rfl, hx3, T.c_Cup, T.a_Cup_rows, by simp, ?_⟩
  have kb4 : KpB (lawT K) x H (upd H3 x (.ins (He.ga K "Cup") dx [("rows", .ref R)])) := fun H0 k0 n0 => (k0.trans k3).set n0 _
  have hx4 : upd H3 x (.ins (He.ga K "Cup") dx [("rows", .ref R)]) x = some (.ins (He.ga K "Cup") dx [("rows", .ref R)]) := upd_same
  have hR4 := (upd_ne (H := H3) (o := .ins (He.ga K "Cup") dx [("rows", .ref R)]) nxR).trans hR3
  have hr4 := (upd_ne (H := H3) (o := .ins (He.ga K "Cup") dx [("rows", .ref R)]) nxr).trans hr3
  show tWhile _ _ _ _ (upd H3 x (.ins (He.ga K "Cup") dx [("rows", .ref R)]))
  generalize hH4 : upd H3 x (.ins (He.ga K "Cup") dx [("rows", .ref R)]) = H4 at *
  refine unW _ _ _ 1 (unW_of ?_)
  refine ⟨_, rfl, x, _, dx, _, _, rfl, hx4, T.c_Cup, T.a_Cup_rows, rfl, _, rfl, R, _, _, _, rfl, rfl, SqL.of hR4, at1 _, r0, _, rfl, .inl (SqL.of hr4), _, _, rfl, rfl, _, rfl, iteT (unW_turn ?_)⟩
  refine ⟨_, rfl, x, _, dx, _, _, rfl, hx4, T.c_Cup, T.a_Cup_rows, rfl, .inl ⟨rfl, _, SqL.of hR4⟩, (by show 1 ≤ sizeLine; decide), fun l1 hl1 => ?_⟩
  have k45 := (Kp.refl (lawT K) H4).new hl1 (.lst [.non])
  have hl5 : upd H4 l1 (.lst [.non]) l1 = some (.lst [.non]) := upd_same
  generalize hH5 : upd H4 l1 (.lst [.non]) = H5 at *
  refine ⟨_, rfl, x, _, dx, _, _, rfl, k45.ins hx4, T.c_Cup, T.a_Cup_rows, rfl, _, rfl, R, _, _, _, rfl, rfl, SqL.of (k45.lst hR4), at1 _, r0, _, rfl, .inl (SqL.of (k45.lst hr4)), _, _, rfl, rfl, ⟨by decide, by decide⟩, l1, 1, _, rfl, congrArg V.int (show (((2 : Nat) : Int) / 2) = 1 by decide), hl5, by decide, by decide, (by show 1 * 1 ≤ sizeLine; decide), fun r1 hr1 => ?_⟩
  have k56 := (Kp.refl (lawT K) H5).new hr1 (.lst [.non])
  have k46 := k45.trans k56
  have h16 : upd H5 r1 (.lst [.non]) r1 = some (.lst [.non]) := upd_same
  have hr6 := k46.lst hr4
  have hR6 := k46.lst hR4
  have hx6 := k46.ins hx4
  have n1R : R ≠ r1 := ne_of_none (k45.lst hR4) hr1
  have n1r : r0 ≠ r1 := ne_of_none (k45.lst hr4) hr1
  have n1x : x ≠ r1 := ne_of_none (k45.ins hx4) hr1
  refine ⟨R, _, _, rfl, rfl, hR6, (by show 1 < sizeLine; decide), ?_⟩
  have kb7 : KpB (lawT K) x H (upd (upd H5 r1 (.lst [.non])) R (.lst [.ref r0, .ref r1])) := fun H0 k0 n0 => ((kb4 H0 k0 n0).trans k46).set ((k0.trans k2).free hR) _
  have hR7 : upd (upd H5 r1 (.lst [.non])) R (.lst [.ref r0, .ref r1]) R = some (.lst [.ref r0, .ref r1]) := upd_same
  have hx7 : upd (upd H5 r1 (.lst [.non])) R (.lst [.ref r0, .ref r1]) x = some (.ins (He.ga K "Cup") dx [("rows", .ref R)]) := (upd_ne nxR.symm).trans hx6
  have hr7 : upd (upd H5 r1 (.lst [.non])) R (.lst [.ref r0, .ref r1]) r0 = some (.lst [.str a, .str b]) := (upd_ne nRr.symm).trans hr6
  have h17 : upd (upd H5 r1 (.lst [.non])) R (.lst [.ref r0, .ref r1]) r1 = some (.lst [.non]) := (upd_ne n1R.symm).trans h16
  show UnW _ _ _ 0 _ (upd (upd H5 r1 (.lst [.non])) R (.lst [.ref r0, .ref r1]))
  generalize hH7 : upd (upd H5 r1 (.lst [.non])) R (.lst [.ref r0, .ref r1]) = H7 at *
  refine unW_of ?_
  refine ⟨_, rfl, x, _, dx, _, _, rfl, hx7, T.c_Cup, T.a_Cup_rows, rfl, _, rfl, R, _, _, _, rfl, rfl, SqL.of hR7, at2 _ _, r1, _, rfl, .inl (SqL.of h17), _, _, rfl, rfl, _, rfl, iteF ?_⟩
  refine ⟨by decide, fun G hG => ?_⟩
  have k78 := (Kp.refl (lawT K) H7).new hG (.lst [])
  have hG8 : upd H7 G (.lst []) G = some (.lst []) := upd_same
  generalize hH8 : upd H7 G (.lst []) = H8 at *
  refine ⟨_, rfl, x, _, dx, [("rows", .ref R)], rfl, k78.ins hx7, T.c_Cup, T.a_Cup_games, by simp, ?_⟩
  have kb9 : KpB (lawT K) x H (upd H8 x (.ins (He.ga K "Cup") dx (cupF R G))) := fun H0 k0 n0 => ((kb7 H0 k0 n0).trans k78).set n0 _
  have hx9 : upd H8 x (.ins (He.ga K "Cup") dx (cupF R G)) x = some (.ins (He.ga K "Cup") dx (cupF R G)) := upd_same
  have hR9 : upd H8 x (.ins (He.ga K "Cup") dx (cupF R G)) R = some (.lst [.ref r0, .ref r1]) := (upd_ne nxR).trans (k78.lst hR7)
  have hr9 : upd H8 x (.ins (He.ga K "Cup") dx (cupF R G)) r0 = some (.lst [.str a, .str b]) := (upd_ne nxr).trans (k78.lst hr7)
  have h19 : upd H8 x (.ins (He.ga K "Cup") dx (cupF R G)) r1 = some (.lst [.non]) := (upd_ne n1x.symm).trans (k78.lst h17)
  refine ⟨_, rfl, x, dx, cupF R G, rfl, hx9, rfl, x, dx, R, G, r0, a, b, _, rfl, hx9, hR9, hr9, ?_⟩
  exact h _ R G r0 r1 hx9 hR9 hr9 h19 kb9
/-- win(a, c): the game that is due is another -/
def spWin (K : PySem.W.Frag) : Sp := fun vs H _ E => ∃ (x dx R G r0 r1 : Addr) (a b c d : Str), vs = [.ref x, .str c, .str d] ∧ H x = some (.ins (He.ga K "Cup") dx (cupF R G)) ∧ H R = some (.lst [.ref r0, .ref r1]) ∧ H r0 = some (.lst [.str a, .str b]) ∧ H r1 = some (.lst [.non]) ∧
  ¬ [c, d].Perm [a, b] ∧ PyData.strOk a = true ∧ PyData.strOk b = true ∧ PyData.strOk c = true ∧ PyData.strOk d = true ∧ ∀ H', Kp (lawT K) H H' → E (.ref (He.ga K "Played")) none H'
theorem shaped_strs {l : List Str} (h : ∀ x ∈ l, PyData.strOk x = true) : SeqAt.shaped (.list (l.map .str)) = true := by
  have h1 : ∀ l : List Str, (∀ x ∈ l, PyData.strOk x = true) → PyData.canLayAll0 (l.map .str) = true := by
    intro l
    induction l with
    | nil => exact fun _ => rfl
    | cons a r ih =>
      intro hl
      show (PyData.strOk a && PyData.canLayAll0 (r.map .str)) = true
      rw [hl a List.mem_cons_self, ih fun x hx => hl x (List.mem_cons_of_mem _ hx)]
      rfl
  have h2 : ∀ l : List Str, PyData.depthAll (l.map .str) = 0 := by
    intro l
    induction l with
    | nil => rfl
    | cons a r ih =>
      show max 0 (PyData.depthAll (r.map .str)) = 0
      rw [ih]
      rfl
  show (PyData.canLayAll0 (l.map .str) && decide (PyData.depthAll (l.map .str) + 1 ≤ 64)) = true
  rw [h1 l h, h2 l]
  rfl
theorem eqv_strs : ∀ {l r : List Str}, PyData.eqvAll (l.map .str) (r.map .str) = true → l = r
  | [], [], _ => rfl
  | [], _ :: _, h => by cases h
  | _ :: _, [], h => by cases h
  | a :: l, b :: r, h => by
    have h2 : ((a == b) && PyData.eqvAll (l.map .str) (r.map .str)) = true := h
    obtain ⟨h3, h4⟩ := Bool.and_eq_true_iff.mp h2
    rw [eq_of_beq h3, eqv_strs h4]
theorem dpAll_strs {H : Hp} : ∀ l : List Str, DpAll K H (l.map V.str) (l.map PyData.str)
  | [] => .nil
  | a :: r => .cons (.str a) (dpAll_strs r)
theorem ok_win (T : Txt P K mg base) : MetX ar P w K mg base 2 (He.ga K "Cup") "win" (spWin K) := by
  refine metX (p := ("Cup", some "win")) T.c_Cup T.m_Cup_win T.f_Cup_win sc_Cup_win b_Cup_win (fun vs H Q E ⟨_, _, _, _, _, _, _, _, _, _, h, _⟩ => by rw [h]; rfl) fun A outer s H vs Q E hr ⟨x, dx, R, G, r0, r1, a, b, c, d, ev, hx, hR, h0, h1, np, oa, ob, oc, od, h⟩ => ?_
  subst ev
  have nd := sc_Cup_win.nd
  refine ⟨_, pss_cons (ps_for owB rfl (pi_tup (pe_mx0 (ok_due T) hr (by decide) ar.cx (pv 0))) (pg_tup rfl (pgs_cons (pg_name (i := 3) nd rfl (.inl rfl)) (pgs_cons (pg_name (i := 4) nd rfl (.inl rfl)) (pgs_cons (pg_name (i := 5) nd rfl (.inl rfl)) (pgs_cons (pg_name (i := 6) nd rfl (.inl rfl)) pgs_nil)))))
      (pss_one (ps_if (pt_cmpR (op_eqD hr.units) (pe_callB cr_sortedTS (by rfl) T.n_sorted (by decide +kernel) (pa_cons (pe_tup (pa_cons (pv 1) (pa_cons (pv 2) pa_nil))) pa_nil)) (pe_callB cr_sortedTS (by rfl) T.n_sorted (by decide +kernel) (pa_cons (pe_tup (pa_cons (pv 5) (pa_cons (pv 6) pa_nil))) pa_nil)) (nomark _)) pss_no pss_nil)))
    (pss_one (ps_rx T.x_Played ar.cx)), ?_⟩
  refine ⟨_, rfl, x, dx, _, rfl, hx, rfl, x, dx, R, G, r0, r1, a, b, rfl, hx, hR, h0, h1, fun H1 p q k1 hp hq => ?_⟩
  refine ⟨p, rfl, ⟨_, SqT.of hp⟩, unF _ _ _ _ 1 ⟨⟨_, _, SqT.of hp, rfl⟩, fun v H2 y => ?_⟩⟩
  obtain ⟨rfl, hy⟩ := y
  have ey := hy _ (SqT.of hp)
  cases ey
  refine ⟨q, _, rfl, SqT.of hq, rfl, _, _, rfl, _, _, rfl, _, _, rfl, _, _, rfl, rfl, ?_⟩
  refine ⟨_, rfl, _, rfl, (by show 2 ≤ sizeLine; decide), fun t1 ht1 => ⟨t1, [c, d], rfl, SqT.of upd_same, (by show 2 < 64; decide), fun ys s1 perm1 srt1 hs1 => ?_⟩⟩
  have k3 := (Kp.refl (lawT K) H2).new ht1 (.tup [.str c, .str d])
  have hs3 := hs1
  generalize hH3 : upd H2 t1 (.tup [.str c, .str d]) = H3 at *
  have k4 := k3.new hs1 (.lst (ys.map V.str))
  have hs4 : upd H3 s1 (.lst (ys.map V.str)) s1 = some (.lst (ys.map V.str)) := upd_same
  generalize hH4 : upd H3 s1 (.lst (ys.map V.str)) = H4 at *
  refine ⟨_, rfl, _, rfl, (by show 2 ≤ sizeLine; decide), fun t2 ht2 => ⟨t2, [a, b], rfl, SqT.of upd_same, (by show 2 < 64; decide), fun zs s2 perm2 srt2 hs2 => ?_⟩⟩
  have k5 := k4.new ht2 (.tup [.str a, .str b])
  have k45 := (Kp.refl (lawT K) H4).new ht2 (.tup [.str a, .str b])
  generalize hH5 : upd H4 t2 (.tup [.str a, .str b]) = H5 at *
  have k6 := k5.new hs2 (.lst (zs.map V.str))
  have k46 := k45.new hs2 (.lst (zs.map V.str))
  have hs6 : upd H5 s2 (.lst (zs.map V.str)) s2 = some (.lst (zs.map V.str)) := upd_same
  generalize hH6 : upd H5 s2 (.lst (zs.map V.str)) = H6 at *
  have oy : ∀ z ∈ ys, PyData.strOk z = true := fun z hz => by
    have m := perm1.mem_iff.mp hz
    simp only [List.mem_cons, List.not_mem_nil, or_false] at m
    rcases m with rfl | rfl
    · exact oc
    · exact od
  have oz : ∀ z ∈ zs, PyData.strOk z = true := fun z hz => by
    have m := perm2.mem_iff.mp hz
    simp only [List.mem_cons, List.not_mem_nil, or_false] at m
    rcases m with rfl | rfl
    · exact oa
    · exact ob
  have ne : PyData.eqv (.list (ys.map .str)) (.list (zs.map .str)) = false := by
    cases e : PyData.eqv (.list (ys.map .str)) (.list (zs.map .str)) with
    | false => rfl
    | true =>
      have q := eqv_strs (l := ys) (r := zs) e
      exact absurd (perm1.symm.trans (q ▸ perm2)) np
  refine ⟨_, _, .lst (SqL.of (k46.lst hs4)) (dpAll_strs ys), .lst (SqL.of hs6) (dpAll_strs zs), shaped_strs oy, shaped_strs oz, _, rfl, itF ne ?_⟩
  exact ⟨⟨_, SqT.of (k6.tup hp), Nat.le_refl _⟩, h _ (k1.trans k6)⟩
end
end K31
set_option Elab.async false
set_option linter.all false
set_option maxRecDepth 100000
set_option maxHeartbeats 4000000
namespace K31
open PySem PySem.Spec PyProof.Rows L2 Fh LamX
/-- a lambda of the law's text and its reading (E: the wish of what it raises) -/
structure LamD where
  params : Arguments
  body : Expr
  scope : Scope
  t : XK → TE
structure LamOk (X : Cx) (k : Nat) (l : LamD) : Prop where
  S : LamX.LamS X.env.scope l.scope
  bind : ∀ pm cv ctv, bindArgs (PySem.W.kla_fn "<lambda>" (X.env.qual ++ "<lambda>") l.params l.body l.scope (cloFrom X.env.cells l.scope.names []) pm cv ctv) ⟨[], []⟩ = pure []
  body : ∀ (A : Around) (outer : List Env) (s : Shared) (H : Hp) (E : XK) (f c' : Addr), Room k (A.deeper (LamX.lamEnv X l.scope s.heap.objs.size f c')) → PE (LamX.lamCx X A outer s H E l.scope f c') l.body (l.t E)
/-- what _law_told makes of an error -/
def toldE (K : PySem.W.Frag) (Q : VK) : XK := fun cls d H' => ∃ (D : Addr) (b1 b2 b3 b4 b5 b6 b7 b8 b9 : Bool), cls = .ref D ∧ PySem.W.exmOne K cls (.ref (He.ga K "FixtureFault")) = some true ∧ ExcC K D ∧
  PySem.W.kitOne K (.ref D) (.ref (He.ga K "BadTeams")) = some b1 ∧ PySem.W.kitOne K (.ref D) (.ref (He.ga K "BadScore")) = some b2 ∧ PySem.W.kitOne K (.ref D) (.ref (He.ga K "BadRule")) = some b3 ∧
  PySem.W.kitOne K (.ref D) (.ref (He.ga K "Played")) = some b4 ∧ PySem.W.kitOne K (.ref D) (.ref (He.ga K "NoPlan")) = some b5 ∧ PySem.W.kitOne K (.ref D) (.ref (He.ga K "BadText")) = some b6 ∧
  PySem.W.kitOne K (.ref D) (.ref (He.ga K "BadPaper")) = some b7 ∧ PySem.W.kitOne K (.ref D) (.ref (He.ga K "TooLarge")) = some b8 ∧ PySem.W.kitOne K (.ref D) (.ref (He.ga K "BadDeed")) = some b9 ∧
  PySem.W.kitOne K (.ref D) (.type "ValueError") = some true ∧ (∀ dd, d = some dd → ∃ fs, H' dd = some (.xd fs)) ∧
  ∀ H'' p, Kp (lawT K) H' H'' → H'' p = some (.lst [.bl b1, .bl b2, .bl b3, .bl b4, .bl b5, .bl b6, .bl b7, .bl b8, .bl b9, .bl true]) → Q (.ref p) H''
section
variable {X : Cx} {a : Addr} {oe : Obj} {cls : Value} {d : Option Addr} {pn : List (Addr × Obj)}
theorem relV_ref {c : Addr} : ∀ u, RelV (.ref c) u → u = .ref c := fun _ h => h
theorem relV_ty {n : String} : ∀ u, RelV (.ty n) u → u = .type n := fun _ h => h
end
def tI (K : PySem.W.Frag) (a : Addr) (cls : Value) (d : Option Addr) (v : V) : TE := tCB (rIsX K a cls d) (tCons (tVar 1) (tCons (tC v) tNil))
/-- the except suite of _law_told -/
def tSuite (K : PySem.W.Frag) (a : Addr) (cls : Value) (d : Option Addr) : TS :=
  tSeq (tAsg (tLst (tCons (tI K a cls d (.ref (He.ga K "BadTeams"))) (tCons (tI K a cls d (.ref (He.ga K "BadScore"))) (tCons (tI K a cls d (.ref (He.ga K "BadRule"))) (tCons (tI K a cls d (.ref (He.ga K "Played"))) (tCons (tI K a cls d (.ref (He.ga K "NoPlan"))) tNil)))))) (gName 2))
  (tSeq (tAsg (tOp rCat (tVar 2) (tLst (tCons (tI K a cls d (.ref (He.ga K "BadText"))) (tCons (tI K a cls d (.ref (He.ga K "BadPaper"))) (tCons (tI K a cls d (.ref (He.ga K "TooLarge"))) (tCons (tI K a cls d (.ref (He.ga K "BadDeed"))) tNil)))))) (gName 2))
  (tRet (tOp rCat (tVar 2) (tLst (tCons (tI K a cls d (.ty "ValueError")) tNil)))))
/-- what _law_told, handed f, wishes of an error -/
def toldW (K : PySem.W.Frag) (Q : VK) (f : Addr) : XK := fun cls d H => wAs K (.ref (He.ga K "FixtureFault")) 1 (tSuite K) (fun _ _ _ _ => False) { nx := fun _ _ => False, rt := Q } cls d (start N_law_told [.ref f]) H
def tTold (K : PySem.W.Frag) (q : Str) (cl : Scope → List (Str × Addr)) (Ls : List LamD) (ta : TA) : TE := fun σ H Q => ta σ H fun vs H1 => ∃ l ∈ Ls, ∃ f c', vs = [.ref f] ∧ H1 f = some (LamO f q l.params l.body l.scope (cl l.scope) c') ∧ H1 c' = some (CodeO c' q) ∧
  l.t (toldW K Q f) σ H1 (fun _ _ => False)
theorem told_of {K : PySem.W.Frag} {Q : VK} {f : Addr} {cls : Value} {d : Option Addr} {H : Hp} (h : toldE K Q cls d H) : toldW K Q f cls d H := by
  obtain ⟨D, b1, b2, b3, b4, b5, b6, b7, b8, b9, rfl, ex, C, k1, k2, k3, k4, k5, k6, k7, k8, k9, kv, hd, hq⟩ := h
  refine ⟨true, ex, fun _ a ha => ?_, fun z => nomatch z⟩
  refine ⟨_, rfl, D, _, _, b1, rfl, C, rfl, relV_ref, k1, hd, _, rfl, D, _, _, b2, rfl, C, rfl, relV_ref, k2, hd, _, rfl, D, _, _, b3, rfl, C, rfl, relV_ref, k3, hd, _, rfl, D, _, _, b4, rfl, C, rfl, relV_ref, k4, hd, _, rfl, D, _, _, b5, rfl, C, rfl, relV_ref, k5, hd, (by show 5 ≤ sizeLine; decide), fun p1 hp1 => ?_⟩
  have q1 := (Kp.refl (lawT K) H).new hp1 (.lst [.bl b1, .bl b2, .bl b3, .bl b4, .bl b5])
  have e1 : upd H p1 (.lst [.bl b1, .bl b2, .bl b3, .bl b4, .bl b5]) p1 = some (.lst [.bl b1, .bl b2, .bl b3, .bl b4, .bl b5]) := upd_same
  generalize hH1 : upd H p1 (.lst [.bl b1, .bl b2, .bl b3, .bl b4, .bl b5]) = H1 at *
  have hd1 : ∀ dd, d = some dd → ∃ fs, H1 dd = some (.xd fs) := fun dd e => by
    obtain ⟨fs, z⟩ := hd dd e
    exact ⟨fs, q1.obj _ _ z fun _ y => by cases y⟩
  refine ⟨_, rfl, _, rfl, D, _, _, b6, rfl, C, rfl, relV_ref, k6, hd1, _, rfl, D, _, _, b7, rfl, C, rfl, relV_ref, k7, hd1, _, rfl, D, _, _, b8, rfl, C, rfl, relV_ref, k8, hd1, _, rfl, D, _, _, b9, rfl, C, rfl, relV_ref, k9, hd1, (by show 4 ≤ sizeLine; decide), fun p2 hp2 => ?_⟩
  have q2 := q1.new hp2 (.lst [.bl b6, .bl b7, .bl b8, .bl b9])
  have e2 : upd H1 p2 (.lst [.bl b6, .bl b7, .bl b8, .bl b9]) p2 = some (.lst [.bl b6, .bl b7, .bl b8, .bl b9]) := upd_same
  have e12 := ((Kp.refl (lawT K) H1).new hp2 (.lst [.bl b6, .bl b7, .bl b8, .bl b9])).lst e1
  generalize hH2 : upd H1 p2 (.lst [.bl b6, .bl b7, .bl b8, .bl b9]) = H2 at *
  refine ⟨p1, p2, _, _, rfl, rfl, e12, e2, (by show 5 + 4 ≤ sizeLine; decide), fun p3 hp3 => ?_⟩
  have q3 := q2.new hp3 (.lst [.bl b1, .bl b2, .bl b3, .bl b4, .bl b5, .bl b6, .bl b7, .bl b8, .bl b9])
  have e3 : upd H2 p3 (.lst [.bl b1, .bl b2, .bl b3, .bl b4, .bl b5, .bl b6, .bl b7, .bl b8, .bl b9]) p3 = some (.lst [.bl b1, .bl b2, .bl b3, .bl b4, .bl b5, .bl b6, .bl b7, .bl b8, .bl b9]) := upd_same
  have ap : ([V.bl b1, .bl b2, .bl b3, .bl b4, .bl b5] ++ [V.bl b6, .bl b7, .bl b8, .bl b9]) = [V.bl b1, .bl b2, .bl b3, .bl b4, .bl b5, .bl b6, .bl b7, .bl b8, .bl b9] := rfl
  rw [ap]
  generalize hH3 : upd H2 p3 (.lst [.bl b1, .bl b2, .bl b3, .bl b4, .bl b5, .bl b6, .bl b7, .bl b8, .bl b9]) = H3 at *
  have hd3 : ∀ dd, d = some dd → ∃ fs, H3 dd = some (.xd fs) := fun dd e => by
    obtain ⟨fs, z⟩ := hd dd e
    exact ⟨fs, q3.obj _ _ z fun _ y => by cases y⟩
  refine ⟨_, rfl, _, rfl, D, _, _, true, rfl, C, rfl, relV_ty, kv, hd3, (by show 1 ≤ sizeLine; decide), fun p4 hp4 => ?_⟩
  have q4 := q3.new hp4 (.lst [.bl true])
  have e34 := ((Kp.refl (lawT K) H3).new hp4 (.lst [.bl true])).lst e3
  refine ⟨p3, p4, _, _, rfl, rfl, e34, upd_same, (by show 9 + 1 ≤ sizeLine; decide), fun p5 hp5 => ?_⟩
  exact hq _ p5 (q4.new hp5 _) upd_same
theorem pe_told {X : Cx} {k : Nat} {e : Expr} {ta : TA} {p pos : Pos} {Ls : List LamD} (T : Txt X.prog X.K X.mg X.base) (hL : ∀ l ∈ Ls, LamOk X k l) (hr : Room (k + 2) X.A) (ha : PA X [e] ta) (hg : Gl X "_law_told" := by rfl)
    (hs : starEach (e :: []) X.env = (false, eval e X.env) :: starEach [] X.env := by rfl) : PE X (.Call (.Name "_law_told" p) [e] [] pos) (tTold X.K (X.env.qual ++ "<lambda>") (fun sc => cloFrom X.env.cells sc.names []) Ls ta) := by
  constructor
  intro pins s σ H Q I h
  obtain ⟨fd, F⟩ := T.f_law_told
  have G := He5.fun_of F
  obtain ⟨oc, od, kV, doc, pm, an, cdv, ct, osl, rfl, lk, hcd⟩ := G.ex
  refine wpAny_Call_Name_kw (ld_glob I hg T.g_law_told ?_ (by decide))
  refine PySem.W.callWith_K (h₀ := X.base) I.ok.mod.kin G.kp ?_ hs rfl
  refine thn (ha.run pos pins s σ H _ I h) fun us s1 hh => ?_
  obtain ⟨vs, H1, I1, r1, l, hl, f, c', ev, hf, hc, ht⟩ := hh
  subst ev
  obtain ⟨u, rfl, ru⟩ := vals1 r1
  obtain rfl : u = Value.ref f := ru
  refine ⟨I1.kIn, ?_⟩
  have LO := hL l hl
  have rc : codeAny (model X.prog X.w) X.A (.call (.ref (He.fAd X.K ("_law_told", none))) ⟨[.ref f], []⟩) (CR C8.CX0 X.stack X.prog X.w H1 s1 Q C8.E0) s1 := by
    refine run_ofS (N := N_law_told) (ps := ps_law_told) (us := [.ref f]) (vs := [.ref f]) lk hcd sc_law_told hr I1.env0 (G.binds b_law_told s1 [.ref f] I1.kIn rfl) (.cons rfl .nil) rfl fun hr' => ?_
    have nd := sc_law_told.nd
    refine ⟨_, PSs.nox (pss_cons (ps_try_as (X := (cxOf C8.CX0 X.prog X.w X.K X.mg X.base N_law_told "_law_told" (defScope s_law_told) (He.fAd X.K ("_law_told", none)) cdv X.A X.stack s1 H1 C8.E0).nox) (i := 1) (c := .ref (He.ga X.K "FixtureFault"))
      (tb := fun W D σZ HZ => σZ[0]? = some (some (.ref f)) ∧ HZ f = some (LamO f (X.env.qual ++ "<lambda>") l.params l.body l.scope (cloFrom X.env.cells l.scope.names []) c') ∧ HZ c' = some (CodeO c' (X.env.qual ++ "<lambda>")) ∧ l.t (WE W σZ) σ HZ (fun _ H' => D.nx σZ H'))
      (ts := tSuite X.K) rfl rfl nd rfl rfl ⟨rfl, by decide, .inl T.g_FixtureFault⟩ L2.takes0 (fun W pn xe tk _ => ?_) (fun a oe cls d pn hz hfd => ?_)) pss_no), ?_⟩
    · refine ⟨fun pins' s' σ' H' D I' h' => ?_⟩
      obtain ⟨h1, h2, h3, h4⟩ := h'
      have hp := fun p1 p2 : Pos => pe_act3 (p1 := p1) (p2 := p2) (CXg := C8.CX0) (Eg := C8.E0) (Ng := N_law_told) (qg := "_law_told") (sg := defScope s_law_told) (g := He.fAd X.K ("_law_told", none)) (cdg := cdv) (k := k) (i := 0) (a := "what") (pn := pn) (xe := xe) (W := W) (tb := l.t) I1 LO.S LO.bind tk hr' (fun A outer s H E hr2 => LO.body A outer s H E f c' hr2) rfl (Or.inl rfl)
      exact (pss_one (ps_expr (hp _ _))).run pins' s' σ' H' D I' ⟨h1, h2, h3, h4⟩
    · refine pss_cons (ps_set (i := 2) nd rfl (.inl rfl) (pe_lst (pa_cons (pe_callB (call_isX hz hfd) (by rfl) T.n_isinstance (by decide +kernel) (pa_cons (pv 1) (pa_cons (pe_glob rfl T.g_BadTeams rfl) pa_nil)))
        (pa_cons (pe_callB (call_isX hz hfd) (by rfl) T.n_isinstance (by decide +kernel) (pa_cons (pv 1) (pa_cons (pe_glob rfl T.g_BadScore rfl) pa_nil)))
        (pa_cons (pe_callB (call_isX hz hfd) (by rfl) T.n_isinstance (by decide +kernel) (pa_cons (pv 1) (pa_cons (pe_glob rfl T.g_BadRule rfl) pa_nil)))
        (pa_cons (pe_callB (call_isX hz hfd) (by rfl) T.n_isinstance (by decide +kernel) (pa_cons (pv 1) (pa_cons (pe_glob rfl T.g_Played rfl) pa_nil)))
        (pa_cons (pe_callB (call_isX hz hfd) (by rfl) T.n_isinstance (by decide +kernel) (pa_cons (pv 1) (pa_cons (pe_glob rfl T.g_NoPlan rfl) pa_nil))) pa_nil)))))))
        (pss_cons (ps_set (i := 2) nd rfl (.inl rfl) (pe_op op_cat (pv 2) (pe_lst (pa_cons (pe_callB (call_isX hz hfd) (by rfl) T.n_isinstance (by decide +kernel) (pa_cons (pv 1) (pa_cons (pe_glob rfl T.g_BadText rfl) pa_nil)))
        (pa_cons (pe_callB (call_isX hz hfd) (by rfl) T.n_isinstance (by decide +kernel) (pa_cons (pv 1) (pa_cons (pe_glob rfl T.g_BadPaper rfl) pa_nil)))
        (pa_cons (pe_callB (call_isX hz hfd) (by rfl) T.n_isinstance (by decide +kernel) (pa_cons (pv 1) (pa_cons (pe_glob rfl T.g_TooLarge rfl) pa_nil)))
        (pa_cons (pe_callB (call_isX hz hfd) (by rfl) T.n_isinstance (by decide +kernel) (pa_cons (pv 1) (pa_cons (pe_glob rfl T.g_BadDeed rfl) pa_nil))) pa_nil)))))))
        (pss_one (ps_ret (pe_op op_cat (pv 2) (pe_lst (pa_cons (pe_callB (call_isX hz hfd) (by rfl) T.n_isinstance (by decide +kernel) (pa_cons (pv 1) (pa_cons (pe_bltn (v := .ty "ValueError") (by rfl) T.n_ValueError (by decide +kernel) rfl) pa_nil))) pa_nil))))))
    · exact ⟨rfl, hf, hc, ht⟩
  refine wpAny_call (codeAny_mono rc fun r s2 hq => ?_)
  cases r with
  | error e => exact (show False from hq).elim
  | ok fl =>
    cases fl with
    | ret u => exact I1.after hq
    | next => exact False.elim hq
    | brk => exact False.elim hq
    | cont => exact False.elim hq
end K31
set_option Elab.async false
set_option linter.all false
set_option maxRecDepth 100000
set_option maxHeartbeats 4000000
namespace K31
open PySem PySem.Spec PyProof.Rows L2 Fh
section
variable {ar : Air} {P : Program} {w : World} {K : PySem.W.Frag} {mg : Str → Option Value} {base : Heap}
/-- three whole numbers -/
def Dice (H : Hp) (d : Addr) : Prop := ∃ x y z : Int, H d = some (.lst [.int x, .int y, .int z])
def spDice (K : PySem.W.Frag) : Sp := fun vs H Q _ => ∃ c : Int, vs = [.int c] ∧ ∀ H' p, Kp (lawT K) H H' → Dice H' p → Q (.ref p) H'
theorem ok_dice (T : Txt P K mg base) : CalX ar P w K mg base 1 "_law_dice" (spDice K) := by
  refine calX (p := ("_law_dice", none)) T.g_law_dice T.f_law_dice sc_law_dice b_law_dice (fun vs H Q E ⟨_, h, _⟩ => by rw [h]; rfl) fun A outer s H vs Q E hr ⟨c, ev, h⟩ => ?_
  subst ev
  refine ⟨_, pss_cons (ps_if (pt_chain op_lt op_lt (pe_op op_sub pe_int pe_int) (pv 0) pe_int) (pss_one (ps_ret (pe_lst (pa_cons (pe_callB call_abs (by rfl) T.n_abs (by decide +kernel) (pa_cons (pv 0) pa_nil)) (pa_cons pe_int (pa_cons pe_int pa_nil)))))) pss_nil)
    (pss_one (ps_ret (pe_lst (pa_cons (pv 0) (pa_cons (pe_op op_add pe_int (pe_op op_mod (pe_callTy call_int1 (by rfl) T.n_int (by decide +kernel) (pa_cons (pv 0) pa_nil)) pe_int)) (pa_cons (pe_callTy call_int1 (by rfl) T.n_int (by decide +kernel) (pa_cons (pe_cmpR op_ge (pv 0) (pe_op op_pow pe_int pe_int) (nomark _)) pa_nil)) pa_nil)))))), ?_⟩
  have two : ∀ (x y z : Int) (p : Addr), H p = none → Q (.ref p) (upd H p (.lst [.int x, .int y, .int z])) := fun x y z p hp => h _ p ((Kp.refl _ H).new hp _) ⟨x, y, z, upd_same⟩
  have rest : tRet (tLst (tCons (tVar 0) (tCons (tOp (rI0 fun i j => .int (i + j)) (tC (.int 1)) (tOp (rI (fun _ j => 0 < j) fun i j => .int (i % j)) (tCB (fun xs H Q => (∃ i, xs = [.int i] ∧ Q (.int i) H) ∨ ∃ k, xs = [.bl k] ∧ Q (.int (if k then 1 else 0)) H) (tCons (tVar 0) tNil)) (tC (.int 1009)))) (tCons (tCB (fun xs H Q => (∃ i, xs = [.int i] ∧ Q (.int i) H) ∨ ∃ k, xs = [.bl k] ∧ Q (.int (if k then 1 else 0)) H) (tCons (tOp (rI0 fun i j => .bl (decide (j ≤ i))) (tVar 0) (tOp (rI CPow fun i j => .int (i ^ j.toNat)) (tC (.int 10)) (tC (.int 18)))) tNil)) tNil)))) { nx := fun _ H' => Q .non H', rt := Q } (start N_law_dice [.int c]) H := by
    refine ⟨_, rfl, _, rfl, .inl ⟨_, rfl, _, _, rfl, rfl, (by show (0 : Int) < 1009; decide), _, _, rfl, rfl, _, rfl, _, _, rfl, rfl, ⟨by decide, by decide, by decide⟩, _, _, rfl, rfl, .inr ⟨_, rfl, (by show 3 ≤ sizeLine; decide), fun p hp => two _ _ _ p hp⟩⟩⟩
  refine ⟨_, _, rfl, rfl, _, rfl, _, _, rfl, rfl, _, rfl, ite2 (fun _ => ⟨_, _, rfl, rfl, _, rfl, ite2 (fun _ => ?_) fun _ => rest⟩) fun _ => ⟨_, rfl, rest⟩⟩
  exact ⟨_, rfl, c, rfl, (by show 3 ≤ sizeLine; decide), fun p hp => two _ _ _ p hp⟩
/-- a roll below m -/
def spRoll (K : PySem.W.Frag) : Sp := fun vs H Q _ => ∃ (d : Addr) (m : Int), vs = [.ref d, .int m] ∧ 0 < m ∧ m < 1073741824 ∧ Dice H d ∧ ∀ H' r, 0 ≤ r → r < m → (∀ b, b ≠ d → H' b = H b) → Dice H' d → Q (.int r) H'
theorem ok_roll (T : Txt P K mg base) : CalX ar P w K mg base 1 "_law_roll" (spRoll K) := by
  refine calX (p := ("_law_roll", none)) T.g_law_roll T.f_law_roll sc_law_roll b_law_roll (fun vs H Q E ⟨_, _, h, _⟩ => by rw [h]; rfl) fun A outer s H vs Q E hr ⟨d, m, ev, m0, m1, ⟨x, y, z, hd⟩, h⟩ => ?_
  subst ev
  have nd := sc_law_roll.nd
  refine ⟨_, pss_cons (ps_if (PW.pt (pw_or (pt_cmpR op_eq (pe_ix ix_list (pv 0) pe_int (fun _ _ => rfl)) pe_int (nomark _)) (pw_or1 (PW.pt (pw_and (pt_cmpR op_eq (pe_ix ix_list (pv 0) pe_int (fun _ _ => rfl)) pe_int (nomark _)) (pw_and1 (pt_cmpR op_gt (pe_ix ix_list (pv 0) pe_int (fun _ _ => rfl)) pe_int (nomark _))))))))
      (pss_cons (ps_set (i := 2) nd rfl (.inl rfl) (pe_op op_mod (pe_callTy call_int1 (by rfl) T.n_int (by decide +kernel) (pa_cons (pe_ix ix_list (pv 0) pe_int (fun _ _ => rfl)) pa_nil)) (pv 1)))
      (pss_cons (ps_asg (pe_op op_fdiv (pe_ix ix_list (pv 0) pe_int (fun _ _ => rfl)) (pv 1)) (pg_sub (pv 0) pe_int set_list))
      (pss_one (ps_ret (pv 2))))) pss_nil)
    (pss_cons (ps_asg pe_int (pg_sub (pv 0) pe_int set_list))
    (pss_cons (ps_asg (pe_op op_mod (pe_callTy call_int1 (by rfl) T.n_int (by decide +kernel) (pa_cons (pe_op op_add (pe_op op_add (pe_op op_mul (pe_ix ix_list (pv 0) pe_int (fun _ _ => rfl)) pe_int) (pe_op op_mul (pe_ix ix_list (pv 0) pe_int (fun _ _ => rfl)) pe_int)) pe_int) pa_nil)) pe_int) (pg_sub (pv 0) pe_int set_list))
    (pss_cons (ps_asg (pe_op op_add (pe_ix ix_list (pv 0) pe_int (fun _ _ => rfl)) pe_int) (pg_sub (pv 0) pe_int set_list))
    (pss_one (ps_ret (pe_op op_mod (pe_callTy call_int1 (by rfl) T.n_int (by decide +kernel) (pa_cons (pe_op op_add (pe_op op_fdiv (pe_ix ix_list (pv 0) pe_int (fun _ _ => rfl)) pe_int) (pe_ix ix_list (pv 0) pe_int (fun _ _ => rfl))) pa_nil)) (pv 1))))))), ?_⟩
  have i0 : ∀ a b c : V, atI [a, b, c] 0 = some a := fun a b c => at_of (j := 0) rfl rfl
  have i1 : ∀ a b c : V, atI [a, b, c] 1 = some b := fun a b c => at_of (j := 1) rfl rfl
  have i2 : ∀ a b c : V, atI [a, b, c] 2 = some c := fun a b c => at_of (j := 2) rfl rfl
  have m2 : ∀ i : Int, 0 ≤ i % m ∧ i % m < m := fun i => ⟨Int.emod_nonneg _ (Int.ne_of_gt m0), Int.emod_lt_of_pos _ m0⟩
  have yes : tSeq (tAsg (tOp (rI (fun _ j => 0 < j) fun i j => .int (i % j)) (tCB (fun xs H Q => (∃ i, xs = [.int i] ∧ Q (.int i) H) ∨ ∃ k, xs = [.bl k] ∧ Q (.int (if k then 1 else 0)) H) (tCons (tOp (rIxL K) (tVar 0) (tC (.int 0))) tNil)) (tVar 1)) (gName 2))
      (tSeq (tAsg (tOp (rI CDiv fun i j => .int (i / j)) (tOp (rIxL K) (tVar 0) (tC (.int 0))) (tVar 1)) (gSub (tVar 0) (tC (.int 0)) rSetL)) (tRet (tVar 2))) { nx := fun _ H' => Q .non H', rt := Q } (start N_law_roll [.ref d, .int m]) H := by
    refine ⟨_, rfl, d, _, _, _, rfl, rfl, SqL.of hd, i0 _ _ _, .inl ⟨_, rfl, _, rfl, _, _, rfl, rfl, m0, ?_⟩⟩
    refine ⟨_, rfl, d, _, _, _, rfl, rfl, SqL.of hd, i0 _ _ _, _, rfl, _, _, rfl, rfl, ⟨m0, m1⟩, _, rfl, d, _, _, 0, rfl, rfl, hd, rfl, ?_⟩
    exact ⟨_, rfl, h _ _ (m2 _).1 (m2 _).2 (fun b nb => upd_ne nb) ⟨_, _, _, upd_same⟩⟩
  have no : tSeq (tAsg (tC (.int 0)) (gSub (tVar 0) (tC (.int 2)) rSetL))
      (tSeq (tAsg (tOp (rI (fun _ j => 0 < j) fun i j => .int (i % j)) (tCB (fun xs H Q => (∃ i, xs = [.int i] ∧ Q (.int i) H) ∨ ∃ k, xs = [.bl k] ∧ Q (.int (if k then 1 else 0)) H) (tCons (tOp (rI0 fun i j => .int (i + j)) (tOp (rI0 fun i j => .int (i + j)) (tOp (rI CMul fun i j => .int (i * j)) (tOp (rIxL K) (tVar 0) (tC (.int 0))) (tC (.int 48271))) (tOp (rI CMul fun i j => .int (i * j)) (tOp (rIxL K) (tVar 0) (tC (.int 1))) (tC (.int 69621)))) (tC (.int 11))) tNil)) (tC (.int 2147483647))) (gSub (tVar 0) (tC (.int 0)) rSetL))
      (tSeq (tAsg (tOp (rI0 fun i j => .int (i + j)) (tOp (rIxL K) (tVar 0) (tC (.int 1))) (tC (.int 1))) (gSub (tVar 0) (tC (.int 1)) rSetL))
      (tRet (tOp (rI (fun _ j => 0 < j) fun i j => .int (i % j)) (tCB (fun xs H Q => (∃ i, xs = [.int i] ∧ Q (.int i) H) ∨ ∃ k, xs = [.bl k] ∧ Q (.int (if k then 1 else 0)) H) (tCons (tOp (rI0 fun i j => .int (i + j)) (tOp (rI CDiv fun i j => .int (i / j)) (tOp (rIxL K) (tVar 0) (tC (.int 0))) (tC (.int 7))) (tOp (rIxL K) (tVar 0) (tC (.int 0)))) tNil)) (tVar 1))))) { nx := fun _ H' => Q .non H', rt := Q } (start N_law_roll [.ref d, .int m]) H := by
    refine ⟨_, rfl, d, _, _, 2, rfl, rfl, hd, rfl, ?_⟩
    refine ⟨_, rfl, d, [.int x, .int y, .int 0], _, _, rfl, rfl, SqL.of upd_same, i0 _ _ _, _, _, rfl, rfl, .inr ⟨by decide, by decide⟩, _, rfl, d, [.int x, .int y, .int 0], _, _, rfl, rfl, SqL.of upd_same, i1 _ _ _, _, _, rfl, rfl, .inr ⟨by decide, by decide⟩, _, _, rfl, rfl, _, _, rfl, rfl, .inl ⟨_, rfl, _, _, rfl, rfl, (by show (0 : Int) < 2147483647; decide), ?_⟩⟩
    refine ⟨_, rfl, d, [.int x, .int y, .int 0], _, 0, rfl, rfl, upd_same, rfl, ?_⟩
    refine ⟨_, rfl, d, [.int _, .int y, .int 0], _, _, rfl, rfl, SqL.of upd_same, i1 _ _ _, _, _, rfl, rfl, _, rfl, d, [.int _, .int y, .int 0], _, 1, rfl, rfl, upd_same, rfl, ?_⟩
    refine ⟨_, rfl, d, [.int _, .int _, .int 0], _, _, rfl, rfl, SqL.of upd_same, i0 _ _ _, _, _, rfl, rfl, ⟨by decide, by decide⟩, _, rfl, d, [.int _, .int _, .int 0], _, _, rfl, rfl, SqL.of upd_same, i0 _ _ _, _, _, rfl, rfl, .inl ⟨_, rfl, _, rfl, _, _, rfl, rfl, m0, ?_⟩⟩
    exact h _ _ (m2 _).1 (m2 _).2 (fun b nb => by rw [upd_ne nb, upd_ne nb, upd_ne nb]) ⟨_, _, _, upd_same⟩
  refine ⟨_, rfl, d, _, _, _, rfl, rfl, SqL.of hd, i2 _ _ _, rfl, _, rfl, ite2 (fun _ => yes) fun _ => ?_⟩
  refine ⟨_, rfl, d, _, _, _, rfl, rfl, SqL.of hd, i2 _ _ _, rfl, _, rfl, ite2 (fun _ => ?_) fun _ => no⟩
  exact ⟨_, rfl, d, _, _, _, rfl, rfl, SqL.of hd, i0 _ _ _, _, _, rfl, rfl, _, rfl, ite2 (fun _ => yes) fun _ => no⟩
end
end K31
set_option Elab.async false
set_option linter.all false
set_option maxRecDepth 100000
set_option maxHeartbeats 4000000
namespace K31
open PySem PySem.Spec PyProof.Rows L2 Fh
section
variable {ar : Air} {P : Program} {w : World} {K : PySem.W.Frag} {mg : Str → Option Value} {base : Heap}
theorem shaped_ints (l : List Int) : SeqAt.shaped (.list (l.map .int)) = true := by
  have h1 : ∀ l : List Int, PyData.canLayAll0 (l.map .int) = true := by
    intro l
    induction l with
    | nil => rfl
    | cons a r ih =>
      show (true && PyData.canLayAll0 (r.map .int)) = true
      rw [ih]
      rfl
  have h2 : ∀ l : List Int, PyData.depthAll (l.map .int) = 0 := by
    intro l
    induction l with
    | nil => rfl
    | cons a r ih =>
      show max 0 (PyData.depthAll (r.map .int)) = 0
      rw [ih]
      rfl
  show (PyData.canLayAll0 (l.map .int) && decide (PyData.depthAll (l.map .int) + 1 ≤ 64)) = true
  rw [h1 l, h2 l]
  rfl
theorem dpAll_ints {H : Hp} : ∀ l : List Int, DpAll K H (l.map V.int) (l.map PyData.int)
  | [] => .nil
  | a :: r => .cons (.int a) (dpAll_ints r)
theorem cut_ints (ns : List Int) (lo hi : Option Int) : ∃ ms : List Int, cutV (ns.map V.int) lo hi = ms.map V.int := by
  unfold cutV
  rw [← List.map_drop, ← List.map_take]
  exact ⟨_, rfl⟩
/-- the law's dice: one for each of the first cells -/
def spRounds (K : PySem.W.Frag) : Sp := fun vs H Q _ => ∃ (sc : Addr) (n : Int) (ns : List Int), vs = [.ref sc, .int n] ∧ SqL K H sc (ns.map V.int) ∧ ns.length < sizeLine ∧ ∀ H' p (ds : List Addr), Kp (lawT K) H H' → H' p = some (.lst (ds.map V.ref)) → (∀ d ∈ ds, Dice H' d) → Q (.ref p) H'
theorem ok_rounds (T : Txt P K mg base) : CalX ar P w K mg base 2 "_law_rounds" (spRounds K) := by
  refine calX (p := ("_law_rounds", none)) T.g_law_rounds T.f_law_rounds sc_law_rounds b_law_rounds (fun vs H Q E ⟨_, _, _, h, _⟩ => by rw [h]; rfl) fun A outer s H vs Q E hr ⟨sc, n, ns, ev, hsc, hz, h⟩ => ?_
  subst ev
  have nd := sc_law_rounds.nd
  refine ⟨_, pss_cons (ps_set (i := 2) nd rfl (.inl rfl) (pe_slice sl_list (pv 0) po_none (po_some (pv 1))))
    (pss_cons (ps_if (pt_cmpR (op_eqD hr.units) (pv 2) (pe_lst pa_nil) (nomark _)) (pss_one (ps_set (i := 2) nd rfl (.inl rfl) (pe_lst (pa_cons pe_int pa_nil)))) pss_nil)
    (pss_one (ps_ret (pe_lc (own := [("cell", 3)]) (g := gName 3) (tt := tYes) (te := tCallS (spDice K) (WE fun _ _ _ _ => False) (tCons (tVar 3) tNil)) rfl nd (pi_list (pv 2)) (blkOk_by (N := N_law_rounds) (sc := defScope s_law_rounds) (by decide +kernel)) (fun _ _ _ _ _ => pg_name (i := 3) nd rfl (Or.inl rfl)) (fun _ _ _ _ _ => pts_nil)
      (fun _ _ _ _ _ => pe_cx (ok_dice T) hr (by decide) ar.zero (pa_cons (pv 3) pa_nil)))))), ?_⟩
  refine ⟨_, rfl, _, rfl, _, rfl, sc, _, rfl, hsc, fun c0 hc0 => ?_⟩
  obtain ⟨ms, em⟩ := cut_ints ns none (some n)
  rw [em]
  have lm : ms.length ≤ ns.length := by
    have := cutV_length (ns.map V.int) none (some n)
    rw [em, List.length_map, List.length_map] at this
    exact this
  have k1 := (Kp.refl (lawT K) H).new hc0 (.lst (ms.map V.int))
  have h1 : upd H c0 (.lst (ms.map V.int)) c0 = some (.lst (ms.map V.int)) := upd_same
  generalize hH1 : upd H c0 (.lst (ms.map V.int)) = H1 at *
  refine ⟨_, rfl, by decide, fun e0 he0 => ?_⟩
  have k2 := k1.new he0 (.lst [])
  have k12 := (Kp.refl (lawT K) H1).new he0 (.lst [])
  have h2 := k12.lst h1
  have e2 : upd H1 e0 (.lst []) e0 = some (.lst []) := upd_same
  generalize hH2 : upd H1 e0 (.lst []) = H2 at *
  refine ⟨_, _, .lst (SqL.of h2) (dpAll_ints ms), .lst (SqL.of e2) .nil, shaped_ints ms, rfl, _, rfl, ?_⟩
  -- the comprehension, whatever list of cells
  have fin : ∀ (H3 : Hp) (c : Addr) (ms : List Int) (σ : L2.St), Kp (lawT K) H H3 → H3 c = some (.lst (ms.map V.int)) → ms.length < sizeLine → σ = [some (.ref sc), some (.int n), some (.ref c), none] →
      tRet (tLc (iList K (tVar 2)) (gName 3) tYes (tCallS (spDice K) (WE fun _ _ _ _ => False) (tCons (tVar 3) tNil)) [3]) { nx := fun _ H' => Q .non H', rt := Q } σ H3 := by
    intro H3 c ms σ k3 h3 lz eσ
    subst eσ
    refine ⟨_, rfl, c, rfl, ⟨_, SqL.of h3⟩, fun D hD => lc_list (K := K) (a := c) (xs := ms.map V.int) (fun i H' => ∃ ds : List Addr, ds.length = i ∧ H' D = some (.lst (ds.map V.ref)) ∧ (∀ d ∈ ds, Dice H' d ∧ d ≠ D) ∧ Kp (lawT K) H3 H') ⟨[], rfl, upd_same, fun d hd => absurd hd (by simp), (Kp.refl _ H3).new hD _⟩ (fun i H' _ ⟨_, _, _, _, k⟩ => k.sqL (SqL.of h3)) (fun i v H' hi ⟨ds, el, hl, hds, kk⟩ => ?_) (fun H' ⟨ds, el, hl, hds, kk⟩ => ?_)⟩
    · rw [List.getElem?_map] at hi
      cases e : ms[i]? with
      | none =>
        rw [e] at hi
        cases hi
      | some z =>
        rw [e] at hi
        cases hi
        have li : i < ms.length := (List.getElem?_eq_some_iff.mp e).1
        refine ⟨rfl, ⟨_, rfl, z, rfl, fun H5 p k5 hp => ⟨_, k5.lst hl, by rw [List.length_map, el]; exact Nat.lt_trans li lz, ?_⟩⟩⟩
        have hlD := k5.lst hl
        have npD : p ≠ D := fun z => by
          obtain ⟨x, y, w, hx⟩ := hp
          rw [z, hlD] at hx
          cases ds with
          | nil => cases hx
          | cons a r => cases hx
        refine ⟨ds ++ [p], by rw [List.length_append, el]; rfl, by rw [upd_same, List.map_append]; rfl, fun d hd => ?_, (kk.trans k5).set hD _⟩
        rcases List.mem_append.mp hd with hd | hd
        · obtain ⟨⟨x, y, w, hx⟩, nD⟩ := hds d hd
          exact ⟨⟨x, y, w, (upd_ne nD).trans (k5.lst hx)⟩, nD⟩
        · rw [List.mem_singleton.mp hd]
          obtain ⟨x, y, w, hx⟩ := hp
          exact ⟨⟨x, y, w, (upd_ne npD).trans hx⟩, npD⟩
    · exact h H' D ds (k3.trans kk) hl fun d hd => (hds d hd).1
  refine ite2 (fun _ => ⟨(by show 1 ≤ sizeLine; decide), fun c1 hc1 => ?_⟩) fun _ => ?_
  · exact fin _ c1 [0] _ (k2.new hc1 _) upd_same (by show 1 < sizeLine; decide) rfl
  · exact fin H2 c0 ms _ k2 h2 (Nat.lt_of_le_of_lt lm hz) rfl
end
end K31
set_option Elab.async false
set_option linter.all false
set_option maxRecDepth 100000
set_option maxHeartbeats 4000000
namespace K31
open PySem PySem.Spec PyProof.Rows L2 Fh SX
/-- what is asked of the digits of n -/
def okN (n : Nat) : Bool := decide ((TL.numL n).length ≤ 4) && PyData.strOk (S (TL.numL n)) && PyData.strOk (S (116 :: TL.numL n)) && decide (Txt.split (S (119 :: 104 :: 97 :: 116 :: 32 :: TL.numL n)) "\n" = [S (119 :: 104 :: 97 :: 116 :: 32 :: TL.numL n)])
  && decide (Txt.words (S (119 :: 104 :: 97 :: 116 :: 32 :: TL.numL n)) = [S [119, 104, 97, 116], S (TL.numL n)])
theorem okN_all : ∀ n, n < 901 → okN n = true := by decide +kernel
end K31
set_option Elab.async false
set_option linter.all false
set_option maxRecDepth 100000
set_option maxHeartbeats 4000000
namespace K31
open PySem PySem.Spec PyProof.Rows L2 Fh SX
/-- str(n) -/
abbrev num (n : Nat) : Str := Str.ofString (toString ((n : Nat) : Int))
theorem num_eq (n : Nat) : num n = S (TL.numL n) := num_S n
theorem num_len {n : Nat} (h : n < 901) : (num n).length ≤ 4 := by
  have q := okN_all n h
  unfold okN at q
  simp only [Bool.and_eq_true, decide_eq_true_eq] at q
  rw [num_eq, S_len]
  exact q.1.1.1.1
theorem num_ok {n : Nat} (h : n < 901) : PyData.strOk (num n) = true := by
  have q := okN_all n h
  unfold okN at q
  simp only [Bool.and_eq_true, decide_eq_true_eq] at q
  rw [num_eq]
  exact q.1.1.1.2
theorem t_num (n : Nat) : ("t" : Str) ++ num n = S (116 :: TL.numL n) := by
  rw [num_eq]
  exact S_cat [116] (TL.numL n)
theorem t_ok {n : Nat} (h : n < 901) : PyData.strOk (("t" : Str) ++ num n) = true := by
  have q := okN_all n h
  unfold okN at q
  simp only [Bool.and_eq_true, decide_eq_true_eq] at q
  rw [t_num]
  exact q.1.1.2
theorem t_ne (n : Nat) {c : Nat} (hc : c ≠ 116) : ("t" : Str) ++ num n ≠ S [c] := by
  rw [t_num]
  intro z
  exact hc (List.cons.inj (S_inj z)).1.symm
theorem what_num (n : Nat) : ("what " : Str) ++ num n = S (119 :: 104 :: 97 :: 116 :: 32 :: TL.numL n) := by
  rw [num_eq]
  exact S_cat [119, 104, 97, 116, 32] (TL.numL n)
theorem what_split {n : Nat} (h : n < 901) : Txt.split (("what " : Str) ++ num n) "\n" = [("what " : Str) ++ num n] := by
  have q := okN_all n h
  unfold okN at q
  simp only [Bool.and_eq_true, decide_eq_true_eq] at q
  rw [what_num]
  exact q.1.2
theorem what_words {n : Nat} (h : n < 901) : Txt.words (("what " : Str) ++ num n) = [S [119, 104, 97, 116], num n] := by
  have q := okN_all n h
  unfold okN at q
  simp only [Bool.and_eq_true, decide_eq_true_eq] at q
  rw [what_num, num_eq]
  exact q.2
theorem what_len {n : Nat} (h : n < 901) : (("what " : Str) ++ num n).length + 2 ≤ sizeLine := by
  rw [what_num, S_len]
  have q := num_len h
  rw [num_eq, S_len] at q
  show (TL.numL n).length + 5 + 2 ≤ sizeLine
  have : sizeLine = 16777216 := sizeLine_eq
  omega
theorem num_log {n : Nat} (h : n < 901) : ((n : Int).natAbs).log2 < 1920 := by
  have e : (n : Int).natAbs = n := rfl
  rw [e]
  have q : n.log2 ≤ n := Nat.log2_le_self n
  omega
end K31
set_option Elab.async false
set_option linter.all false
set_option maxRecDepth 100000
set_option maxHeartbeats 4000000
namespace K31
open PySem PySem.Spec PyProof.Rows L2 Fh
/-! ### the law's nine lambdas -/
def lawFor : List Stmt := match defBody s_law with
  | .For _ _ b _ _ :: _ => b
  | _ => []
def whatsE : List Expr := match lawFor with
  | _ :: .Assign _ (.List es _) _ :: _ => es
  | _ => []
def lamE (i : Nat) : Expr := whatsE.getD i (.Constant .none 0 ⟨0, 0, 0, 0⟩)
def lamA (e : Expr) : Arguments := match e with
  | .Lambda p _ _ _ => p
  | _ => { posonlyargs := [], args := [], vararg := none, kwonlyargs := [], kw_defaults := [], kwarg := none, defaults := [] }
def lamB (e : Expr) : Expr := match e with
  | .Lambda _ b _ _ => b
  | e => e
def lamSc (e : Expr) : Scope := match e with
  | .Lambda _ _ s _ => s
  | _ => { kind := .function, names := [], isGenerator := false, isCoroutine := false }
abbrev pLaw : He.Defn := (("law" : Str), (none : Option Str))
abbrev lawX (P : Program) (w : World) (K : PySem.W.Frag) (mg : Str → Option Value) (base : Heap) (A : Around) (outer : List Env) (s : Shared) (H : Hp) (E : XK) : Cx := cxOf (air.CX P w) P w K mg base N_law "law" (defScope s_law) (He.fAd K pLaw) (.ref (He.codeOf K pLaw)) A outer s H E
/-- the i-th lambda's body walks by t -/
def LamW (X : Cx) (k i : Nat) (t : XK → TE) : Prop := ∀ (A : Around) (outer : List Env) (s : Shared) (H : Hp) (E : XK) (f c' : Addr), Room k (A.deeper (LamX.lamEnv X (lamSc (lamE i)) s.heap.objs.size f c')) → PE (LamX.lamCx X A outer s H E (lamSc (lamE i)) f c') (lamB (lamE i)) (t E)
theorem tkL {X : Cx} {A : Around} {outer : List Env} {s : Shared} {H : Hp} {E : XK} {sc : Scope} {f c' : Addr} : air.T (LamX.lamCx X A outer s H E sc f c') (fun cls d _ H => E cls d H) := L2.takes_of rfl rfl rfl rfl
section
variable {P : Program} {w : World} {K : PySem.W.Frag} {mg : Str → Option Value} {base : Heap} {A : Around} {outer : List Env} {s : Shared} {H : Hp} {E : XK}
theorem lam0 (T : Txt P K mg base) : ∃ t : XK → TE, LamW (lawX P w K mg base A outer s H E) 5 0 t ∧ ∀ E σ H Q (n : Nat), n < 901 → σ[2]? = some (some (.int n)) → (∀ H', Kp (lawT K) H H' → E (.ref (He.ga K "BadTeams")) none H') → t E σ H Q := by
  refine ⟨_, fun A1 outer1 s1 H1 E1 f c' hr => pe_cx (ok_circle T) hr (by decide) tkL (pa_cons (pe_lst (pa_cons (pe_op op_add_str pe_str (pe_callTy call_str_int (by rfl) T.n_str (by decide +kernel) (pa_cons (pv 2) pa_nil))) pa_nil)) pa_nil), ?_⟩
  intro E σ H Q n hn hσ h
  refine ⟨_, hσ, _, rfl, num_log hn, _, _, rfl, rfl, ?_, (by show 1 ≤ sizeLine; decide), fun p hp => ⟨p, _, rfl, upd_same, h _ ((Kp.refl _ H).new hp _)⟩⟩
  have := num_len hn
  show 1 + (num n).length ≤ sizeLine
  have : sizeLine = 16777216 := sizeLine_eq
  omega
theorem add_ok {n : Nat} (hn : n < 901) {k : Nat} (hk : k ≤ 100) : k + (num n).length ≤ sizeLine := by
  have := num_len hn
  have : sizeLine = 16777216 := sizeLine_eq
  omega
theorem lam1 (T : Txt P K mg base) : ∃ t : XK → TE, LamW (lawX P w K mg base A outer s H E) 5 1 t ∧ ∀ E σ H Q (n : Nat), 0 < n → σ[2]? = some (some (.int n)) → GxR.TabG H (He.cT K pFrames).2 → (∀ H', Kp (lawT K) H H' → E (.ref (He.ga K "BadScore")) none H') → t E σ H Q := by
  refine ⟨_, fun A1 outer1 s1 H1 E1 f c' hr => pe_cx (ok_frames T) hr (by decide) tkL (pa_cons (pe_lst (pa_cons (pe_op op_add pe_int (pv 2)) pa_nil)) pa_nil), ?_⟩
  intro E σ H Q n hn hσ ht h
  refine ⟨_, hσ, _, _, rfl, rfl, (by show 1 ≤ sizeLine; decide), fun p hp => ?_⟩
  have k := (Kp.refl (lawT K) H).new hp (.lst [.int (10 + n)])
  exact ⟨p, _, rfl, upd_same, by omega, k.tabG ht, fun H' k' => h H' (k.trans k')⟩
theorem lam2 (T : Txt P K mg base) : ∃ t : XK → TE, LamW (lawX P w K mg base A outer s H E) 5 2 t ∧ ∀ E σ H Q (n : Nat), σ[2]? = some (some (.int n)) → (∀ H', Kp (lawT K) H H' → E (.ref (He.ga K "BadRule")) none H') → t E σ H Q := by
  refine ⟨_, fun A1 outer1 s1 H1 E1 f c' hr => pe_cx (ok_part T) hr (by decide) tkL (pa_cons (pv 2) (pa_cons pe_int pa_nil)), ?_⟩
  intro E σ H Q n hσ h
  exact ⟨_, hσ, _, rfl, h H (Kp.refl _ H)⟩
theorem lam5 (T : Txt P K mg base) : ∃ t : XK → TE, LamW (lawX P w K mg base A outer s H E) 5 5 t ∧ ∀ E σ H Q (n : Nat), n < 901 → σ[2]? = some (some (.int n)) → (∀ d H' fs, Kp (lawT K) H H' → H' d = some (.xd fs) → E (.ref (He.ga K "BadText")) (some d) H') → t E σ H Q := by
  refine ⟨_, fun A1 outer1 s1 H1 E1 f c' hr => pe_cx (ok_read T) hr (by decide) tkL (pa_cons (pe_op op_add_str pe_str (pe_callTy call_str_int (by rfl) T.n_str (by decide +kernel) (pa_cons (pv 2) pa_nil))) pa_nil), ?_⟩
  intro E σ H Q n hn hσ h
  refine ⟨_, hσ, _, rfl, num_log hn, _, _, rfl, rfl, add_ok (k := 5) hn (by decide), _, rfl, what_len hn, what_split hn, .inr ⟨_, _, what_words hn, ?_, ?_, ?_, by decide +kernel, num_ok hn⟩, fun d H' fs k hf => h d H' fs k hf⟩
  · decide +kernel
  · decide +kernel
  · decide +kernel
theorem lam6 (T : Txt P K mg base) : ∃ t : XK → TE, LamW (lawX P w K mg base A outer s H E) 5 6 t ∧ ∀ E σ H Q (n : Nat), n < 901 → σ[2]? = some (some (.int n)) → (∀ d H' fs, Kp (lawT K) H H' → H' d = some (.xd fs) → E (.ref (He.ga K "BadPaper")) (some d) H') → t E σ H Q := by
  refine ⟨_, fun A1 outer1 s1 H1 E1 f c' hr => pe_cx (ok_look T) hr (by decide) tkL (pa_cons (pe_lst (pa_cons pe_str (pa_cons pe_str pa_nil))) (pa_cons (pe_tup (pa_cons (pe_tup (pa_cons (pe_tup (pa_cons pe_str (pa_cons (pe_op op_add_str pe_str (pe_callTy call_str_int (by rfl) T.n_str (by decide +kernel) (pa_cons (pv 2) pa_nil))) pa_nil))) pa_nil)) pa_nil)) (pa_cons pe_int pa_nil))), ?_⟩
  intro E σ H Q n hn hσ h
  refine ⟨(by show 2 ≤ sizeLine; decide), fun tl htl => ⟨_, hσ, _, rfl, num_log hn, _, _, rfl, rfl, add_ok (k := 1) hn (by decide), (by show 2 ≤ sizeLine; decide), fun p hp => ⟨(by show 1 ≤ sizeLine; decide), fun g hg => ⟨(by show 1 ≤ sizeLine; decide), fun ro hro => ?_⟩⟩⟩⟩
  have k1 := (Kp.refl (lawT K) H).new htl (.lst [.str "a", .str "b"])
  have e1 : upd H tl (.lst [.str "a", .str "b"]) tl = some (.lst [.str "a", .str "b"]) := upd_same
  generalize hH1 : upd H tl (.lst [.str "a", .str "b"]) = H1 at *
  have k2 := (Kp.refl (lawT K) H1).new hp (.tup [.str "a", .str (("t" : Str) ++ num n)])
  have e2 : upd H1 p (.tup [.str "a", .str (("t" : Str) ++ num n)]) p = some (.tup [.str "a", .str (("t" : Str) ++ num n)]) := upd_same
  have k3 := (Kp.refl (lawT K) _).new hg (.tup [.ref p])
  have k4 := (Kp.refl (lawT K) _).new hro (.tup [.ref g])
  refine ⟨tl, ro, g, p, "a", "b", ("t" : Str) ++ num n, _, rfl, (k2.trans (k3.trans k4)).lst e1, upd_same, k4.tup upd_same, (k3.trans k4).tup e2, t_ne n (c := 97) (by decide), t_ne n (c := 98) (by decide), fun d H' fs k hf => h d H' fs (k1.trans (k2.trans (k3.trans (k4.trans k)))) hf⟩
theorem lam8 (T : Txt P K mg base) : ∃ t : XK → TE, LamW (lawX P w K mg base A outer s H E) 5 8 t ∧ ∀ E σ H Q (n : Nat) (x dx : Addr) (fs : List (Str × V)), σ[2]? = some (some (.int n)) → σ[3]? = some (some (.ref x)) → H x = some (.ins (He.ga K "Desk") dx fs) → fs.lookup ("shown" : Str) = some (V.str "") → fs.lookup ("put" : Str) = none →
    (∀ H', Kp (lawT K) H H' → E (.ref (He.ga K "BadDeed")) none H') → t E σ H Q := by
  refine ⟨_, fun A1 outer1 s1 H1 E1 f c' hr => pe_mx (ok_put T) hr (by decide) tkL (pv 3) (pa_cons (pv 2) (pa_cons pe_str (pa_cons pe_str (pa_cons pe_int (pa_cons pe_int pa_nil))))), ?_⟩
  intro E σ H Q n x dx fs hσ hx hi hs hp h
  exact ⟨_, hx, x, dx, fs, rfl, hi, hp, _, hσ, x, dx, fs, _, _, _, _, _, rfl, hi, hs, h⟩
end
end K31
set_option Elab.async false
set_option linter.all false
set_option maxRecDepth 100000
set_option maxHeartbeats 4000000
namespace K31
open PySem PySem.Spec PyProof.Rows L2 Fh
section
variable {P : Program} {w : World} {K : PySem.W.Frag} {mg : Str → Option Value} {base : Heap} {A : Around} {outer : List Env} {s : Shared} {H : Hp} {E : XK}
theorem lam7 (T : Txt P K mg base) : ∃ t : XK → TE, LamW (lawX P w K mg base A outer s H E) 5 7 t ∧ ∀ E (σ : L2.St) H Q (n : Nat), n < 901 → 5 < σ.length → σ[2]? = some (some (.int n)) → GxR.TabG H (He.cT K pTimes).2 → (∀ H', Kp (lawT K) H H' → E (.ref (He.ga K "TooLarge")) none H') → t E σ H Q := by
  have nd : N_law.Nodup := sc_law.nd
  refine ⟨_, fun A1 outer1 s1 H1 E1 f c' hr => pe_cx (ok_least T) hr (by decide) tkL (pa_cons pe_dnewK (pa_cons (pe_lc (own := [("k", 5)]) (g := gName 5) (tt := tYes) rfl nd (pi_range1 (by rfl) T.n_range (pa_cons (pe_op op_add pe_int (pe_op op_mod (pv 2) pe_int)) pa_nil)) (blkOk_by (N := N_law) (sc := lamSc (lamE 7)) (by decide +kernel)) (fun _ _ _ _ _ => pg_name (i := 5) nd rfl (Or.inl rfl)) (fun _ _ _ _ _ => pts_nil)
      (fun _ _ _ _ _ => pe_op op_add_str pe_str (pe_callTy call_str_int (by rfl) T.n_str (by decide +kernel) (pa_cons (pv 5) pa_nil)))) (pa_cons (pe_lst (pa_cons pe_str pa_nil)) pa_nil))), ?_⟩
  intro E σ H Q n hn hlen hσ ht h
  refine fun d hd => ?_
  have k1 := (Kp.refl (lawT K) H).new hd (.dK [])
  have e1 : upd H d (.dK []) d = some (.dK []) := upd_same
  generalize hH1 : upd H d (.dK []) = H1 at *
  refine ⟨_, hσ, _, _, rfl, rfl, (by show (0 : Int) < 5; decide), _, _, rfl, rfl, _, rfl, ?_, ?_, fun D hD => lc_range (lo := 0) (n := (13 + (n : Int) % 5).toNat) (fun i H' => ∃ xs : List V, xs.length = i ∧ H' D = some (.lst xs) ∧ Kp (lawT K) H1 H') ⟨[], rfl, upd_same, (Kp.refl _ H1).new hD _⟩ (fun i H' hi ⟨xs, el, hx, kk⟩ => ?_) (fun H' ⟨xs, el, hx, kk⟩ => ?_)⟩
  · show (-(2 ^ 62) : Int) ≤ 13 + (n : Int) % 5
    have := Int.emod_nonneg (n : Int) (by decide : (5 : Int) ≠ 0)
    omega
  · show 13 + (n : Int) % 5 < 2 ^ 62
    have := Int.emod_lt_of_pos (n : Int) (by decide : (0 : Int) < 5)
    omega
  · have hi2 : i < 901 := by
      have := Int.emod_lt_of_pos (n : Int) (by decide : (0 : Int) < 5)
      omega
    have ei : (0 + ((i : Nat) : Int)) = ((i : Nat) : Int) := Int.zero_add _
    rw [ei]
    refine ⟨?_, ⟨_, ?_, _, rfl, num_log hi2, _, _, rfl, rfl, add_ok (k := 1) hi2 (by decide), _, hx, ?_, ?_⟩⟩
    · show ((σ.set 5 none).set 5 (some (V.int i))).set 5 none = σ.set 5 none
      rw [List.set_set, List.set_set]
    · show ((σ.set 5 none).set 5 (some (V.int i)))[5]? = some (some (V.int i))
      rw [List.set_set, List.getElem?_set_self hlen]
    · rw [el]
      have : sizeLine = 16777216 := sizeLine_eq
      omega
    · exact ⟨_, by rw [List.length_append, el]; rfl, upd_same, kk.set hD _⟩
  · have hl : 12 < xs.length := by
      have := Int.emod_nonneg (n : Int) (by decide : (5 : Int) ≠ 0)
      omega
    refine ⟨(by show 1 ≤ sizeLine; decide), fun l hl1 => ?_⟩
    have k2 := (Kp.refl (lawT K) H').new hl1 (.lst [.str "x"])
    have k02 := k1.trans (kk.trans k2)
    exact ⟨d, D, l, xs, _, rfl, (kk.trans k2).dK e1, k2.lst hx, hl, upd_same, k02.tabG ht, fun H'' k'' => h _ (k02.trans k'')⟩
theorem lam4 (T : Txt P K mg base) : ∃ t : XK → TE, LamW (lawX P w K mg base A outer s H E) 5 4 t ∧ ∀ E σ H Q (n : Nat), n < 901 → σ[2]? = some (some (.int n)) → GxR.TabG H (He.cT K pFits).2 → (∀ H', Kp (lawT K) H H' → E (.ref (He.ga K "NoPlan")) none H') → t E σ H Q := by
  refine ⟨_, fun A1 outer1 s1 H1 E1 f c' hr => pe_mx (ok_laidS T) hr (by decide) tkL (pe_mkx (ok_slots T) hr (by decide) tkL (pa_cons (pe_tup (pa_cons pe_str pa_nil)) (pa_cons pe_int (pa_cons (pe_tup pa_nil) pa_nil))))
    (pa_cons (pe_lst (pa_cons (pe_tup (pa_cons pe_str (pa_cons pe_str pa_nil))) (pa_cons (pe_tup (pa_cons pe_str (pa_cons (pe_op op_add_str pe_str (pe_callTy call_str_int (by rfl) T.n_str (by decide +kernel) (pa_cons (pv 2) pa_nil))) pa_nil))) pa_nil))) (pa_cons pe_int pa_nil)), ?_⟩
  intro E σ H Q n hn hσ ht h
  refine ⟨(by show 1 ≤ sizeLine; decide), fun g hg => ⟨by decide, fun ba hba => fun x dx nx ndx nxx => ?_⟩⟩
  have k1 := (Kp.refl (lawT K) H).new hg (.tup [.str "x"])
  have e1 : upd H g (.tup [.str "x"]) g = some (.tup [.str "x"]) := upd_same
  generalize hH1 : upd H g (.tup [.str "x"]) = H1 at *
  have k12 := (Kp.refl (lawT K) H1).new hba (.tup [])
  have e2 : upd H1 ba (.tup []) ba = some (.tup []) := upd_same
  generalize hH2 : upd H1 ba (.tup []) = H2 at *
  have k23 := ((Kp.refl (lawT K) H2).new ndx (.own x)).set nx (.ins (He.ga K "Slots") dx [])
  refine ⟨x, dx, g, ba, _, _, rfl, upd_same, (k12.trans k23).tup e1, k23.tup e2, fun H4 d hd hx4 hd4 hk4 => ⟨rfl, ?_⟩⟩
  have k24 : Kp (lawT K) H2 H4 := k23.chg fun b hb => hk4 b (fun e => hb (e ▸ nx)) (fun e => hb (e ▸ k23.free hd))
  have k04 := k1.trans (k12.trans k24)
  refine ⟨x, dx, _, rfl, hx4, rfl, (by show 2 ≤ sizeLine; decide), fun p0 hp0 => ⟨_, hσ, _, rfl, num_log hn, _, _, rfl, rfl, add_ok (k := 1) hn (by decide), (by show 2 ≤ sizeLine; decide), fun p1 hp1 => ⟨(by show 2 ≤ sizeLine; decide), fun gl hgl => ?_⟩⟩⟩
  have k45 := (Kp.refl (lawT K) H4).new hp0 (.tup [.str "a", .str "b"])
  have e5 : upd H4 p0 (.tup [.str "a", .str "b"]) p0 = some (.tup [.str "a", .str "b"]) := upd_same
  generalize hH5 : upd H4 p0 (.tup [.str "a", .str "b"]) = H5 at *
  have k56 := (Kp.refl (lawT K) H5).new hp1 (.tup [.str "a", .str (("c" : Str) ++ num n)])
  have k67 := (Kp.refl (lawT K) _).new hgl (.lst [.ref p0, .ref p1])
  have k47 := k45.trans (k56.trans k67)
  exact ⟨x, dx, g, d, gl, p0, _, _, _, _, rfl, k47.ins hx4, k47.obj _ _ hd4 (fun _ z => by cases z), (k12.trans (k24.trans k47)).tup e1, upd_same, (k56.trans k67).tup e5, (k04.trans k47).tabG ht, fun H' k' => h H' (k04.trans (k47.trans k'))⟩
theorem lam3 (T : Txt P K mg base) : ∃ t : XK → TE, LamW (lawX P w K mg base A outer s H E) 5 3 t ∧ ∀ E σ H Q (n : Nat), n < 901 → σ[2]? = some (some (.int n)) → (∀ H', Kp (lawT K) H H' → E (.ref (He.ga K "Played")) none H') → t E σ H Q := by
  refine ⟨_, fun A1 outer1 s1 H1 E1 f c' hr => pe_mx (ok_win T) hr (by decide) tkL (pe_mkx (ok_cup T) hr (by decide) tkL (pa_cons (pe_lst (pa_cons pe_str (pa_cons pe_str pa_nil))) pa_nil))
    (pa_cons pe_str (pa_cons (pe_op op_add_str pe_str (pe_callTy call_str_int (by rfl) T.n_str (by decide +kernel) (pa_cons (pv 2) pa_nil))) pa_nil)), ?_⟩
  intro E σ H Q n hn hσ h
  refine ⟨(by show 2 ≤ sizeLine; decide), fun tl htl => fun x dx nx ndx nxx => ?_⟩
  have k1 := (Kp.refl (lawT K) H).new htl (.lst [.str "a", .str "b"])
  have e1 : upd H tl (.lst [.str "a", .str "b"]) tl = some (.lst [.str "a", .str "b"]) := upd_same
  generalize hH1 : upd H tl (.lst [.str "a", .str "b"]) = H1 at *
  have k12 := ((Kp.refl (lawT K) H1).new ndx (.own x)).set nx (.ins (He.ga K "Cup") dx [])
  refine ⟨x, dx, tl, "a", "b", rfl, upd_same, k12.lst e1, by decide, fun H3 R G r0 r1 hx hR h0 h1 kb => ⟨rfl, ?_⟩⟩
  have k13 := kb H1 k12 nx
  refine ⟨x, dx, _, rfl, hx, rfl, _, hσ, _, rfl, num_log hn, _, _, rfl, rfl, add_ok (k := 1) hn (by decide), ?_⟩
  refine ⟨x, dx, R, G, r0, r1, "a", "b", "a", ("t" : Str) ++ num n, rfl, hx, hR, h0, h1, fun pm => ?_, by decide +kernel, by decide +kernel, by decide +kernel, t_ok hn, fun H' k' => h H' (k1.trans (k13.trans k'))⟩
  have m := pm.mem_iff.mp (List.mem_cons_of_mem _ List.mem_cons_self : (("t" : Str) ++ num n) ∈ [("a" : Str), ("t" : Str) ++ num n])
  simp only [List.mem_cons, List.not_mem_nil, or_false] at m
  rcases m with m | m
  · exact t_ne n (c := 97) (by decide) m
  · exact t_ne n (c := 98) (by decide) m
end
end K31
set_option Elab.async false
set_option linter.all false
set_option maxRecDepth 100000
set_option maxHeartbeats 4000000
namespace K31
open PySem PySem.Spec PyProof.Rows L2 Fh LamX
section
variable {P : Program} {w : World} {K : PySem.W.Frag} {mg : Str → Option Value} {base : Heap}
abbrev qL : Str := ("law.<locals>." : Str) ++ "<lambda>"
def ld (i : Nat) (t : XK → TE) : LamD := ⟨lamA (lamE i), lamB (lamE i), lamSc (lamE i), t⟩
theorem lS0 : LamX.LamS (defScope s_law) (lamSc (lamE 0)) := LamX.lamS_by (by decide +kernel)
theorem lS1 : LamX.LamS (defScope s_law) (lamSc (lamE 1)) := LamX.lamS_by (by decide +kernel)
theorem lS2 : LamX.LamS (defScope s_law) (lamSc (lamE 2)) := LamX.lamS_by (by decide +kernel)
theorem lS3 : LamX.LamS (defScope s_law) (lamSc (lamE 3)) := LamX.lamS_by (by decide +kernel)
theorem lS4 : LamX.LamS (defScope s_law) (lamSc (lamE 4)) := LamX.lamS_by (by decide +kernel)
theorem lS5 : LamX.LamS (defScope s_law) (lamSc (lamE 5)) := LamX.lamS_by (by decide +kernel)
theorem lS6 : LamX.LamS (defScope s_law) (lamSc (lamE 6)) := LamX.lamS_by (by decide +kernel)
theorem lS7 : LamX.LamS (defScope s_law) (lamSc (lamE 7)) := LamX.lamS_by (by decide +kernel)
theorem lS8 : LamX.LamS (defScope s_law) (lamSc (lamE 8)) := LamX.lamS_by (by decide +kernel)
theorem tf_law : pLaw ∈ tf := List.mem_of_getElem? (i := 6) rfl
/-- the tables of the generator expressions -/
structure Tb (K : PySem.W.Frag) (H : Hp) : Prop where
  fr : GxR.TabG H (He.cT K pFrames).2
  ti : GxR.TabG H (He.cT K pTimes).2
  fi : GxR.TabG H (He.cT K pFits).2
def spLaw (K : PySem.W.Frag) : Sp := fun vs H Q _ => ∃ (sc : Addr) (ns : List Int), vs = [.ref sc] ∧ SqL K H sc (ns.map V.int) ∧ ns.length < sizeLine ∧ TabS H (lawT K) qL ∧ Tb K H ∧ ∀ H', Q (.bl true) H'
/-! ### what the law's heap keeps -/
theorem tabS_kp {H H' : Hp} {P0 : Addr} {q : Str} (t : TabS H P0 q) (k : Kp P0 H H') : TabS H' P0 q := by
  obtain ⟨ps, e, tr, hc⟩ := t
  refine ⟨ps, k.own _ e, tr, fun pos cv h => ?_⟩
  obtain ⟨c, e1, e2⟩ := hc pos cv h
  exact ⟨c, e1, k.obj _ _ e2 fun qs z => codeO_ne qs z⟩
theorem Tb.kp {H H' : Hp} {P0 : Addr} (t : Tb K H) (k : Kp P0 H H') : Tb K H' := ⟨k.tabG t.fr, k.tabG t.ti, k.tabG t.fi⟩
/-- the law's state between two rounds -/
structure Gd (K : PySem.W.Frag) (p : Addr) (ds : List Addr) (H : Hp) : Prop where
  lst : H p = some (.lst (ds.map V.ref))
  dice : ∀ d ∈ ds, Dice H d
  tab : TabS H (lawT K) qL
  tb : Tb K H
theorem Gd.kp {p : Addr} {ds : List Addr} {H H' : Hp} (g : Gd K p ds H) (k : Kp (lawT K) H H') : Gd K p ds H' := ⟨k.lst g.lst, fun d hd => by
  obtain ⟨x, y, z, e⟩ := g.dice d hd
  exact ⟨x, y, z, k.lst e⟩, tabS_kp g.tab k, g.tb.kp k⟩
theorem tabG_ne {H H' : Hp} {d P : Addr} {xs : List V} (t : GxR.TabG H P) (hd : H d = some (.lst xs)) (k : ∀ b, b ≠ d → H' b = H b) : GxR.TabG H' P := by
  obtain ⟨ps, e, r⟩ := t
  refine ⟨ps, ?_, r⟩
  rw [k P (fun z => by rw [z, hd] at e; cases e)]
  exact e
theorem Gd.roll {p d : Addr} {ds : List Addr} {H H' : Hp} (g : Gd K p ds H) (hd : d ∈ ds) (k : ∀ b, b ≠ d → H' b = H b) (n : Dice H' d) : Gd K p ds H' := by
  obtain ⟨x, y, z, e⟩ := g.dice d hd
  have np : p ≠ d := fun q => by
    have l := g.lst
    rw [q, e] at l
    cases ds with
    | nil => cases hd
    | cons a r => cases l
  refine ⟨by rw [k p np]; exact g.lst, fun d' hd' => ?_, ?_, ⟨tabG_ne g.tb.fr e k, tabG_ne g.tb.ti e k, tabG_ne g.tb.fi e k⟩⟩
  · by_cases q : d' = d
    · rw [q]
      exact n
    · obtain ⟨x', y', z', e'⟩ := g.dice d' hd'
      exact ⟨x', y', z', by rw [k d' q]; exact e'⟩
  · obtain ⟨ps, eP, tr, hc⟩ := g.tab
    refine ⟨ps, ?_, tr, fun pos cv h => ?_⟩
    · rw [k _ (fun q => by rw [q, e] at eP; cases eP)]
      exact eP
    · obtain ⟨c, e1, e2⟩ := hc pos cv h
      refine ⟨c, e1, ?_⟩
      rw [k c (fun q => by rw [q, e] at e2; unfold CodeO at e2; cases e2)]
      exact e2
theorem ButT.fresh {P0 f : Addr} {H J : Hp} (b : ButT P0 H J) (n : J f = none) (o : HO) : ButT P0 H (upd J f o) := fun c u hc e => by
  have z := b c u hc e
  rw [upd_ne (ne_of_none z n)]
  exact z
/-- the i-th lambda at f, its code at c -/
def LamAt (cl : Scope → List (Str × Addr)) (H : Hp) (i : Nat) (f c : Addr) : Prop := H f = some (LamO f qL (lamA (lamE i)) (lamB (lamE i)) (lamSc (lamE i)) (cl (lamSc (lamE i))) c) ∧ H c = some (CodeO c qL)
theorem LamAt.but {cl : Scope → List (Str × Addr)} {H H' : Hp} {i : Nat} {f c P0 : Addr} {q : Str} (l : LamAt cl H i f c) (t : TabS H P0 q) (b : ButT P0 H H') : LamAt cl H' i f c := by
  obtain ⟨ps, e, _⟩ := t
  refine ⟨b f _ (fun z => ?_) l.1, b c _ (fun z => ?_) l.2⟩
  · have q := l.1
    rw [z, e] at q
    unfold LamO at q
    cases q
  · have q := l.2
    rw [z, e] at q
    unfold CodeO at q
    cases q
theorem LamAt.kp {cl : Scope → List (Str × Addr)} {H H' : Hp} {i : Nat} {f c P0 : Addr} (l : LamAt cl H i f c) (k : Kp P0 H H') : LamAt cl H' i f c :=
  ⟨k.obj _ _ l.1 (fun ps z => by unfold LamO at z; cases z), k.obj _ _ l.2 (fun ps z => codeO_ne ps z)⟩
theorem Gd.but {p : Addr} {ds : List Addr} {H H' : Hp} (g : Gd K p ds H) (ne : ∀ q ∈ [pFrames, pTimes, pFits], lawT K ≠ (He.cT K q).2) (b : ButT (lawT K) H H') (t : TabS H' (lawT K) qL) : Gd K p ds H' := by
  have nl : ∀ {c : Addr} {xs : List V}, H c = some (.lst xs) → c ≠ lawT K := fun {c xs} e z => by
    obtain ⟨ps, e', _⟩ := g.tab
    rw [z, e'] at e
    cases e
  have tg : ∀ q ∈ [pFrames, pTimes, pFits], GxR.TabG H (He.cT K q).2 → GxR.TabG H' (He.cT K q).2 := fun q hq tq => by
    obtain ⟨ps, e, r⟩ := tq
    exact ⟨ps, b _ _ (ne q hq).symm e, r⟩
  refine ⟨b _ _ (nl g.lst) g.lst, fun d hd => ?_, t, ⟨tg _ (by simp) g.tb.fr, tg _ (by simp) g.tb.ti, tg _ (by simp) g.tb.fi⟩⟩
  obtain ⟨x, y, z, e⟩ := g.dice d hd
  exact ⟨x, y, z, b _ _ (nl e) e⟩
/-! ### the right side of the comparison -/
def bits (i m : Nat) : List Bool := (List.range m).map fun j => decide (j = i)
theorem bits_more (i m : Nat) : bits i (m + 1) = bits i m ++ [decide (m = i)] := by
  unfold bits
  rw [List.range_succ, List.map_append]
  rfl
theorem rhs_ok {a0 a1 a2 a3 a4 a6 : Option V} {i : Nat} {H : Hp} {R : V → Hp → Prop} (h : ∀ H' q, Kp (lawT K) H H' → H' q = some (.lst ((bits i 9 ++ [true]).map V.bl)) → R (.ref q) H') :
    tOp rCat (tLc (iRng1 (tCons (tC (.int 9)) tNil)) (gName 6) tYes (tOp rEq (tVar 6) (tVar 5)) [6]) (tLst (tCons (tC (.bl true)) tNil)) [a0, a1, a2, a3, a4, some (.int (0 + (i : Nat))), a6] H R := by
  refine ⟨9, rfl, by decide, by decide, fun D hD => lc_range (lo := 0) (n := 9) (fun m H' => H' D = some (.lst ((bits i m).map V.bl)) ∧ Kp (lawT K) H H') ⟨upd_same, (Kp.refl _ H).new hD _⟩ (fun m H' hm ⟨hx, kk⟩ => ?_) (fun H' ⟨hx, kk⟩ => ?_)⟩
  · refine ⟨rfl, ⟨_, rfl, _, rfl, rfl, _, hx, ?_, ?_⟩⟩
    · rw [List.length_map, bits, List.length_map, List.length_range]
      have : sizeLine = 16777216 := sizeLine_eq
      omega
    · refine ⟨?_, kk.set hD _⟩
      rw [upd_same, bits_more, List.map_append]
      have e : decide (V.int (0 + (m : Int)) = V.int (0 + (i : Int))) = decide (m = i) := by
        apply decide_eq_decide.mpr
        constructor
        · intro z
          injection z with z
          omega
        · rintro rfl
          rfl
      show some (HO.lst ((bits i m).map V.bl ++ [V.bl (decide (V.int (0 + (m : Int)) = V.int (0 + (i : Int))))])) = _
      rw [e]
      rfl
  · refine ⟨(by show 1 ≤ sizeLine; decide), fun l hl => ?_⟩
    have k2 := (Kp.refl (lawT K) H').new hl (.lst [.bl true])
    refine ⟨D, l, _, _, rfl, rfl, k2.lst hx, upd_same, (by rw [List.length_map, bits, List.length_map, List.length_range]; show 9 + 1 ≤ sizeLine; decide), fun q hq => h _ q (kk.trans (k2.new hq _)) ?_⟩
    rw [upd_same, List.map_append]
    rfl
theorem dp_bools {H : Hp} : ∀ l : List Bool, DpAll K H (l.map V.bl) (l.map PyData.bool)
  | [] => .nil
  | a :: r => .cons (.bl a) (dp_bools r)
theorem eqv_bools : ∀ l : List Bool, PyData.eqvAll (l.map .bool) (l.map .bool) = true
  | [] => rfl
  | a :: r => by
    show ((a == a) && PyData.eqvAll (r.map .bool) (r.map .bool)) = true
    rw [eqv_bools r]
    simp
theorem shaped_bools (l : List Bool) : SeqAt.shaped (.list (l.map .bool)) = true := by
  have h1 : ∀ l : List Bool, PyData.canLayAll0 (l.map .bool) = true := by
    intro l
    induction l with
    | nil => rfl
    | cons a r ih =>
      show (true && PyData.canLayAll0 (r.map .bool)) = true
      rw [ih]
      rfl
  have h2 : ∀ l : List Bool, PyData.depthAll (l.map .bool) = 0 := by
    intro l
    induction l with
    | nil => rfl
    | cons a r ih =>
      show max 0 (PyData.depthAll (r.map .bool)) = 0
      rw [ih]
      rfl
  show (PyData.canLayAll0 (l.map .bool) && decide (PyData.depthAll (l.map .bool) + 1 ≤ 64)) = true
  rw [h1 l, h2 l]
  rfl
/-- the error of the i-th name, as _law_told tells it -/
theorem toldI {base : Heap} (T : Txt P K mg base) {i : Nat} {x : Str} (hx : errs[i]? = some x) (ex : PySem.W.exmOne K (.ref (He.ga K x)) (.ref (He.ga K "FixtureFault")) = some true) {Q : VK} {d : Option Addr} {H : Hp} (hd : ∀ dd, d = some dd → ∃ fs, H dd = some (.xd fs))
    (h : ∀ H' p, Kp (lawT K) H H' → H' p = some (.lst ((bits i 9 ++ [true]).map V.bl)) → Q (.ref p) H') : toldE K Q (.ref (He.ga K x)) d H := by
  have m : x ∈ errs := List.mem_of_getElem? hx
  refine ⟨He.ga K x, _, _, _, _, _, _, _, _, _, rfl, ex, T.isC x m, T.kit i 0 x _ hx rfl, T.kit i 1 x _ hx rfl, T.kit i 2 x _ hx rfl, T.kit i 3 x _ hx rfl, T.kit i 4 x _ hx rfl, T.kit i 5 x _ hx rfl, T.kit i 6 x _ hx rfl, T.kit i 7 x _ hx rfl, T.kit i 8 x _ hx rfl, T.kitV x m, hd, fun H' p k hp => h H' p k ?_⟩
  rw [hp]
  have e : ∀ j : Nat, decide (j = i) = decide (i = j) := fun j => decide_eq_decide.mpr eq_comm
  show _ = some (HO.lst [V.bl (decide (0 = i)), .bl (decide (1 = i)), .bl (decide (2 = i)), .bl (decide (3 = i)), .bl (decide (4 = i)), .bl (decide (5 = i)), .bl (decide (6 = i)), .bl (decide (7 = i)), .bl (decide (8 = i)), .bl true])
  rw [e 0, e 1, e 2, e 3, e 4, e 5, e 6, e 7, e 8]
theorem law_body (T : Txt P K mg base) : BodyOk air P w K mg base N_law "law" s_law pLaw 8 (spLaw K) := by
  intro A outer s H vs Q E hr hsp
  obtain ⟨sc, ns, ev, hsc, hz, hT, hG, h⟩ := hsp
  subst ev
  have nd := sc_law.nd
  obtain ⟨t0, w0, p0⟩ := lam0 (w := w) (A := A) (outer := outer) (s := s) (H := H) (E := E) T
  obtain ⟨t1, w1, p1⟩ := lam1 (w := w) (A := A) (outer := outer) (s := s) (H := H) (E := E) T
  obtain ⟨t2, w2, p2⟩ := lam2 (w := w) (A := A) (outer := outer) (s := s) (H := H) (E := E) T
  obtain ⟨t3, w3, p3⟩ := lam3 (w := w) (A := A) (outer := outer) (s := s) (H := H) (E := E) T
  obtain ⟨t4, w4, p4⟩ := lam4 (w := w) (A := A) (outer := outer) (s := s) (H := H) (E := E) T
  obtain ⟨t5, w5, p5⟩ := lam5 (w := w) (A := A) (outer := outer) (s := s) (H := H) (E := E) T
  obtain ⟨t6, w6, p6⟩ := lam6 (w := w) (A := A) (outer := outer) (s := s) (H := H) (E := E) T
  obtain ⟨t7, w7, p7⟩ := lam7 (w := w) (A := A) (outer := outer) (s := s) (H := H) (E := E) T
  obtain ⟨t8, w8, p8⟩ := lam8 (w := w) (A := A) (outer := outer) (s := s) (H := H) (E := E) T
  have TBl : LamX.TabB base mg (He.cT K pLaw).1 (He.cT K pLaw).2 := ⟨(T.gx tf_law).code, (T.gx tf_law).bm, (T.gx tf_law).gP⟩
  have hL : ∀ l ∈ [ld 0 t0, ld 1 t1, ld 2 t2, ld 3 t3, ld 4 t4, ld 5 t5, ld 6 t6, ld 7 t7, ld 8 t8], LamOk (lawX P w K mg base A outer s H E) 5 l := by
    intro l hl
    simp only [List.mem_cons, List.not_mem_nil, or_false] at hl
    rcases hl with rfl | rfl | rfl | rfl | rfl | rfl | rfl | rfl | rfl
    · exact ⟨lS0, fun _ _ _ => rfl, w0⟩
    · exact ⟨lS1, fun _ _ _ => rfl, w1⟩
    · exact ⟨lS2, fun _ _ _ => rfl, w2⟩
    · exact ⟨lS3, fun _ _ _ => rfl, w3⟩
    · exact ⟨lS4, fun _ _ _ => rfl, w4⟩
    · exact ⟨lS5, fun _ _ _ => rfl, w5⟩
    · exact ⟨lS6, fun _ _ _ => rfl, w6⟩
    · exact ⟨lS7, fun _ _ _ => rfl, w7⟩
    · exact ⟨lS8, fun _ _ _ => rfl, w8⟩
  have lam : ∀ i, i < 9 → ∀ pos, LamX.LamS (defScope s_law) (lamSc (lamE i)) → defaultsOf (lamA (lamE i)) (lawX P w K mg base A outer s H E).env = ([], []) → PE (lawX P w K mg base A outer s H E) (.Lambda (lamA (lamE i)) (lamB (lamE i)) (lamSc (lamE i)) pos) (tLamV (lawT K) qL (lamA (lamE i)) (lamB (lamE i)) (lamSc (lamE i)) (cloFrom (lawX P w K mg base A outer s H E).env.cells (lamSc (lamE i)).names [])) :=
    fun i _ pos S hd => pe_lam TBl rfl S hd
  refine ⟨_, pss_cons (ps_for owB rfl (pi_list (pe_cx (ok_rounds T) hr (by decide) air.cx (pa_cons (pv 0) (pa_cons pe_int pa_nil)))) (pg_name (i := 1) nd rfl (.inl rfl))
    (pss_cons (ps_asg (pe_tup (pa_cons (pe_op op_add pe_int (pe_cx (ok_roll T) hr (by decide) air.cx (pa_cons (pv 1) (pa_cons pe_int pa_nil)))) (pa_cons (pe_mkx0 (ok_desk T) hr (by decide) air.cx) pa_nil))) (pg_tup rfl (pgs_cons (pg_name (i := 2) nd rfl (.inr rfl)) (pgs_cons (pg_name (i := 3) nd rfl (.inr rfl)) pgs_nil))))
    (pss_cons (ps_set (i := 4) nd rfl (.inl rfl) (pe_lst (pa_cons (lam 0 (by decide) _ lS0 rfl) (pa_cons (lam 1 (by decide) _ lS1 rfl) (pa_cons (lam 2 (by decide) _ lS2 rfl) (pa_cons (lam 3 (by decide) _ lS3 rfl) (pa_cons (lam 4 (by decide) _ lS4 rfl) (pa_cons (lam 5 (by decide) _ lS5 rfl) (pa_cons (lam 6 (by decide) _ lS6 rfl) (pa_cons (lam 7 (by decide) _ lS7 rfl) (pa_cons (lam 8 (by decide) _ lS8 rfl) pa_nil)))))))))))
    (pss_one (ps_for owB rfl (pi_range1 (by rfl) T.n_range (pa_cons (pe_callB call_len_seq (by rfl) T.n_len PySem.boot_len (pa_cons (pv 4) pa_nil)) pa_nil)) (pg_name (i := 5) nd rfl (.inr rfl))
      (pss_one (ps_if (pt_cmpR (op_neD hr.units) (pe_told T hL (hr.mono (by decide)) (pa_cons (pe_ix ix_list (pv 4) (pv 5) (fun _ _ => rfl)) pa_nil))
        (pe_op op_cat (pe_lc (own := [("j", 6)]) (g := gName 6) (tt := tYes) rfl nd (pi_range1 (by rfl) T.n_range (pa_cons pe_int pa_nil)) (blkOk_by (N := N_law) (sc := defScope s_law) (by decide +kernel)) (fun _ _ _ _ _ => pg_name (i := 6) nd rfl (Or.inl rfl)) (fun _ _ _ _ _ => pts_nil) (fun _ _ _ _ _ => pe_cmpR op_eq (pv 6) (pv 5) (nomark _))) (pe_lst (pa_cons pe_bl pa_nil))) (nomark _)) pss_no pss_nil)))))))
    (pss_one (ps_ret pe_bl)), ?_⟩
  have neq : ∀ q ∈ [pFrames, pTimes, pFits], lawT K ≠ (He.cT K q).2 := by
    intro q hq
    simp only [List.mem_cons, List.not_mem_nil, or_false] at hq
    rcases hq with rfl | rfl | rfl
    · exact T.ne _ tf_frames (by decide)
    · exact T.ne _ tf_times (by decide)
    · exact T.ne _ tf_fits (by decide)
  refine ⟨_, rfl, sc, 3, ns, rfl, hsc, hz, fun H1 p ds k1 hp hds => ⟨p, rfl, ⟨_, SqL.of hp⟩, for_list (K := K) (a := p) (xs := ds.map V.ref) (fun _ σ H' => (∃ a1 a2 a3 a4 a5 a6, σ = [some (.ref sc), a1, a2, a3, a4, a5, a6]) ∧ Gd K p ds H') ⟨⟨_, _, _, _, _, _, rfl⟩, hp, hds, tabS_kp hT k1, hG.kp k1⟩ (fun _ _ _ _ z => SqL.of z.2.lst) (fun i v σ H2 hi z => ?_) (fun σ H' _ => h _)⟩⟩
  obtain ⟨⟨a1, a2, a3, a4, a5, a6, rfl⟩, g2⟩ := z
  obtain ⟨d, hd, rfl⟩ : ∃ d, d ∈ ds ∧ v = V.ref d := by
    rw [List.getElem?_map] at hi
    cases e : ds[i]? with
    | none =>
      rw [e] at hi
      cases hi
    | some d =>
      rw [e] at hi
      exact ⟨d, List.mem_of_getElem? e, (Option.some.inj hi).symm⟩
  refine ⟨_, rfl, d, 900, rfl, by decide, by decide, g2.dice d hd, fun H3 r r0 r9 keep3 dice3 => ⟨_, _, rfl, rfl, fun x dx nx ndx nxx => ⟨x, dx, rfl, upd_same, fun H4 pa qa hx4 keep4 => ⟨rfl, (by show 2 ≤ sizeLine; decide), fun t ht => ⟨t, _, rfl, SqT.of upd_same, rfl, _, _, rfl, _, _, rfl, rfl, ?_⟩⟩⟩⟩⟩
  dsimp only
  have g3 := g2.roll hd keep3 dice3
  have k34 : Kp (lawT K) H3 H4 := (Kp.refl (lawT K) H3).chg fun b hb => by
    have n1 : b ≠ x := fun e => hb (e ▸ nx)
    have n2 : b ≠ dx := fun e => hb (e ▸ ndx)
    have e3 : upd (upd H3 dx (.own x)) x (.ins (He.ga K "Desk") dx []) b = H3 b := by rw [upd_ne n1, upd_ne n2]
    exact (keep4 b n1 (fun z => hb (e3.symm.trans z))).trans e3
  have k45 := (Kp.refl (lawT K) H4).new ht (.tup [.int (1 + r), .ref x])
  have g5 := g3.kp (k34.trans k45)
  have hx5 := k45.ins hx4
  generalize hH5 : upd H4 t (.tup [.int (1 + r), .ref x]) = H5 at *
  obtain ⟨n, en, hn0, hn⟩ : ∃ n : Nat, (1 + r : Int) = (n : Int) ∧ 0 < n ∧ n < 901 := ⟨(1 + r).toNat, by omega, by omega, by omega⟩
  rw [en]
  have hTS0 := g5.tab
  have B0 := ButT.refl (lawT K) H5
  have M0 := hTS0
  refine ⟨hTS0, fun f0 c0 J0 b0 s0 e0 n0 => ?_⟩
  have hTS1 : TabS (upd J0 f0 (LamO f0 qL (lamA (lamE 0)) (lamB (lamE 0)) (lamSc (lamE 0)) (cloFrom (lawX P w K mg base A outer s H E).env.cells (lamSc (lamE 0)).names []) c0)) (lawT K) qL := s0.ext fun b o z => (upd_ne (ne_of_none z n0)).trans z
  have C0 : ButT (lawT K) H5 (upd J0 f0 (LamO f0 qL (lamA (lamE 0)) (lamB (lamE 0)) (lamSc (lamE 0)) (cloFrom (lawX P w K mg base A outer s H E).env.cells (lamSc (lamE 0)).names []) c0)) := ButT.fresh b0 n0 _
  have L0 : LamAt (fun sc => cloFrom (lawX P w K mg base A outer s H E).env.cells sc.names []) (upd J0 f0 (LamO f0 qL (lamA (lamE 0)) (lamB (lamE 0)) (lamSc (lamE 0)) (cloFrom (lawX P w K mg base A outer s H E).env.cells (lamSc (lamE 0)).names []) c0)) 0 f0 c0 := ⟨upd_same, (upd_ne (ne_of_none e0 n0)).trans e0⟩
  generalize hM1 : upd J0 f0 (LamO f0 qL (lamA (lamE 0)) (lamB (lamE 0)) (lamSc (lamE 0)) (cloFrom (lawX P w K mg base A outer s H E).env.cells (lamSc (lamE 0)).names []) c0) = M1 at *
  refine ⟨hTS1, fun f1 c1 J1 b1 s1 e1 n1 => ?_⟩
  have hTS2 : TabS (upd J1 f1 (LamO f1 qL (lamA (lamE 1)) (lamB (lamE 1)) (lamSc (lamE 1)) (cloFrom (lawX P w K mg base A outer s H E).env.cells (lamSc (lamE 1)).names []) c1)) (lawT K) qL := s1.ext fun b o z => (upd_ne (ne_of_none z n1)).trans z
  have C1 : ButT (lawT K) M1 (upd J1 f1 (LamO f1 qL (lamA (lamE 1)) (lamB (lamE 1)) (lamSc (lamE 1)) (cloFrom (lawX P w K mg base A outer s H E).env.cells (lamSc (lamE 1)).names []) c1)) := ButT.fresh b1 n1 _
  have L1 : LamAt (fun sc => cloFrom (lawX P w K mg base A outer s H E).env.cells sc.names []) (upd J1 f1 (LamO f1 qL (lamA (lamE 1)) (lamB (lamE 1)) (lamSc (lamE 1)) (cloFrom (lawX P w K mg base A outer s H E).env.cells (lamSc (lamE 1)).names []) c1)) 1 f1 c1 := ⟨upd_same, (upd_ne (ne_of_none e1 n1)).trans e1⟩
  generalize hM2 : upd J1 f1 (LamO f1 qL (lamA (lamE 1)) (lamB (lamE 1)) (lamSc (lamE 1)) (cloFrom (lawX P w K mg base A outer s H E).env.cells (lamSc (lamE 1)).names []) c1) = M2 at *
  refine ⟨hTS2, fun f2 c2 J2 b2 s2 e2 n2 => ?_⟩
  have hTS3 : TabS (upd J2 f2 (LamO f2 qL (lamA (lamE 2)) (lamB (lamE 2)) (lamSc (lamE 2)) (cloFrom (lawX P w K mg base A outer s H E).env.cells (lamSc (lamE 2)).names []) c2)) (lawT K) qL := s2.ext fun b o z => (upd_ne (ne_of_none z n2)).trans z
  have C2 : ButT (lawT K) M2 (upd J2 f2 (LamO f2 qL (lamA (lamE 2)) (lamB (lamE 2)) (lamSc (lamE 2)) (cloFrom (lawX P w K mg base A outer s H E).env.cells (lamSc (lamE 2)).names []) c2)) := ButT.fresh b2 n2 _
  have L2 : LamAt (fun sc => cloFrom (lawX P w K mg base A outer s H E).env.cells sc.names []) (upd J2 f2 (LamO f2 qL (lamA (lamE 2)) (lamB (lamE 2)) (lamSc (lamE 2)) (cloFrom (lawX P w K mg base A outer s H E).env.cells (lamSc (lamE 2)).names []) c2)) 2 f2 c2 := ⟨upd_same, (upd_ne (ne_of_none e2 n2)).trans e2⟩
  generalize hM3 : upd J2 f2 (LamO f2 qL (lamA (lamE 2)) (lamB (lamE 2)) (lamSc (lamE 2)) (cloFrom (lawX P w K mg base A outer s H E).env.cells (lamSc (lamE 2)).names []) c2) = M3 at *
  refine ⟨hTS3, fun f3 c3 J3 b3 s3 e3 n3 => ?_⟩
  have hTS4 : TabS (upd J3 f3 (LamO f3 qL (lamA (lamE 3)) (lamB (lamE 3)) (lamSc (lamE 3)) (cloFrom (lawX P w K mg base A outer s H E).env.cells (lamSc (lamE 3)).names []) c3)) (lawT K) qL := s3.ext fun b o z => (upd_ne (ne_of_none z n3)).trans z
  have C3 : ButT (lawT K) M3 (upd J3 f3 (LamO f3 qL (lamA (lamE 3)) (lamB (lamE 3)) (lamSc (lamE 3)) (cloFrom (lawX P w K mg base A outer s H E).env.cells (lamSc (lamE 3)).names []) c3)) := ButT.fresh b3 n3 _
  have L3 : LamAt (fun sc => cloFrom (lawX P w K mg base A outer s H E).env.cells sc.names []) (upd J3 f3 (LamO f3 qL (lamA (lamE 3)) (lamB (lamE 3)) (lamSc (lamE 3)) (cloFrom (lawX P w K mg base A outer s H E).env.cells (lamSc (lamE 3)).names []) c3)) 3 f3 c3 := ⟨upd_same, (upd_ne (ne_of_none e3 n3)).trans e3⟩
  generalize hM4 : upd J3 f3 (LamO f3 qL (lamA (lamE 3)) (lamB (lamE 3)) (lamSc (lamE 3)) (cloFrom (lawX P w K mg base A outer s H E).env.cells (lamSc (lamE 3)).names []) c3) = M4 at *
  refine ⟨hTS4, fun f4 c4 J4 b4 s4 e4 n4 => ?_⟩
  have hTS5 : TabS (upd J4 f4 (LamO f4 qL (lamA (lamE 4)) (lamB (lamE 4)) (lamSc (lamE 4)) (cloFrom (lawX P w K mg base A outer s H E).env.cells (lamSc (lamE 4)).names []) c4)) (lawT K) qL := s4.ext fun b o z => (upd_ne (ne_of_none z n4)).trans z
  have C4 : ButT (lawT K) M4 (upd J4 f4 (LamO f4 qL (lamA (lamE 4)) (lamB (lamE 4)) (lamSc (lamE 4)) (cloFrom (lawX P w K mg base A outer s H E).env.cells (lamSc (lamE 4)).names []) c4)) := ButT.fresh b4 n4 _
  have L4 : LamAt (fun sc => cloFrom (lawX P w K mg base A outer s H E).env.cells sc.names []) (upd J4 f4 (LamO f4 qL (lamA (lamE 4)) (lamB (lamE 4)) (lamSc (lamE 4)) (cloFrom (lawX P w K mg base A outer s H E).env.cells (lamSc (lamE 4)).names []) c4)) 4 f4 c4 := ⟨upd_same, (upd_ne (ne_of_none e4 n4)).trans e4⟩
  generalize hM5 : upd J4 f4 (LamO f4 qL (lamA (lamE 4)) (lamB (lamE 4)) (lamSc (lamE 4)) (cloFrom (lawX P w K mg base A outer s H E).env.cells (lamSc (lamE 4)).names []) c4) = M5 at *
  refine ⟨hTS5, fun f5 c5 J5 b5 s5 e5 n5 => ?_⟩
  have hTS6 : TabS (upd J5 f5 (LamO f5 qL (lamA (lamE 5)) (lamB (lamE 5)) (lamSc (lamE 5)) (cloFrom (lawX P w K mg base A outer s H E).env.cells (lamSc (lamE 5)).names []) c5)) (lawT K) qL := s5.ext fun b o z => (upd_ne (ne_of_none z n5)).trans z
  have C5 : ButT (lawT K) M5 (upd J5 f5 (LamO f5 qL (lamA (lamE 5)) (lamB (lamE 5)) (lamSc (lamE 5)) (cloFrom (lawX P w K mg base A outer s H E).env.cells (lamSc (lamE 5)).names []) c5)) := ButT.fresh b5 n5 _
  have L5 : LamAt (fun sc => cloFrom (lawX P w K mg base A outer s H E).env.cells sc.names []) (upd J5 f5 (LamO f5 qL (lamA (lamE 5)) (lamB (lamE 5)) (lamSc (lamE 5)) (cloFrom (lawX P w K mg base A outer s H E).env.cells (lamSc (lamE 5)).names []) c5)) 5 f5 c5 := ⟨upd_same, (upd_ne (ne_of_none e5 n5)).trans e5⟩
  generalize hM6 : upd J5 f5 (LamO f5 qL (lamA (lamE 5)) (lamB (lamE 5)) (lamSc (lamE 5)) (cloFrom (lawX P w K mg base A outer s H E).env.cells (lamSc (lamE 5)).names []) c5) = M6 at *
  refine ⟨hTS6, fun f6 c6 J6 b6 s6 e6 n6 => ?_⟩
  have hTS7 : TabS (upd J6 f6 (LamO f6 qL (lamA (lamE 6)) (lamB (lamE 6)) (lamSc (lamE 6)) (cloFrom (lawX P w K mg base A outer s H E).env.cells (lamSc (lamE 6)).names []) c6)) (lawT K) qL := s6.ext fun b o z => (upd_ne (ne_of_none z n6)).trans z
  have C6 : ButT (lawT K) M6 (upd J6 f6 (LamO f6 qL (lamA (lamE 6)) (lamB (lamE 6)) (lamSc (lamE 6)) (cloFrom (lawX P w K mg base A outer s H E).env.cells (lamSc (lamE 6)).names []) c6)) := ButT.fresh b6 n6 _
  have L6 : LamAt (fun sc => cloFrom (lawX P w K mg base A outer s H E).env.cells sc.names []) (upd J6 f6 (LamO f6 qL (lamA (lamE 6)) (lamB (lamE 6)) (lamSc (lamE 6)) (cloFrom (lawX P w K mg base A outer s H E).env.cells (lamSc (lamE 6)).names []) c6)) 6 f6 c6 := ⟨upd_same, (upd_ne (ne_of_none e6 n6)).trans e6⟩
  generalize hM7 : upd J6 f6 (LamO f6 qL (lamA (lamE 6)) (lamB (lamE 6)) (lamSc (lamE 6)) (cloFrom (lawX P w K mg base A outer s H E).env.cells (lamSc (lamE 6)).names []) c6) = M7 at *
  refine ⟨hTS7, fun f7 c7 J7 b7 s7 e7 n7 => ?_⟩
  have hTS8 : TabS (upd J7 f7 (LamO f7 qL (lamA (lamE 7)) (lamB (lamE 7)) (lamSc (lamE 7)) (cloFrom (lawX P w K mg base A outer s H E).env.cells (lamSc (lamE 7)).names []) c7)) (lawT K) qL := s7.ext fun b o z => (upd_ne (ne_of_none z n7)).trans z
  have C7 : ButT (lawT K) M7 (upd J7 f7 (LamO f7 qL (lamA (lamE 7)) (lamB (lamE 7)) (lamSc (lamE 7)) (cloFrom (lawX P w K mg base A outer s H E).env.cells (lamSc (lamE 7)).names []) c7)) := ButT.fresh b7 n7 _
  have L7 : LamAt (fun sc => cloFrom (lawX P w K mg base A outer s H E).env.cells sc.names []) (upd J7 f7 (LamO f7 qL (lamA (lamE 7)) (lamB (lamE 7)) (lamSc (lamE 7)) (cloFrom (lawX P w K mg base A outer s H E).env.cells (lamSc (lamE 7)).names []) c7)) 7 f7 c7 := ⟨upd_same, (upd_ne (ne_of_none e7 n7)).trans e7⟩
  generalize hM8 : upd J7 f7 (LamO f7 qL (lamA (lamE 7)) (lamB (lamE 7)) (lamSc (lamE 7)) (cloFrom (lawX P w K mg base A outer s H E).env.cells (lamSc (lamE 7)).names []) c7) = M8 at *
  refine ⟨hTS8, fun f8 c8 J8 b8 s8 e8 n8 => ?_⟩
  have hTS9 : TabS (upd J8 f8 (LamO f8 qL (lamA (lamE 8)) (lamB (lamE 8)) (lamSc (lamE 8)) (cloFrom (lawX P w K mg base A outer s H E).env.cells (lamSc (lamE 8)).names []) c8)) (lawT K) qL := s8.ext fun b o z => (upd_ne (ne_of_none z n8)).trans z
  have C8 : ButT (lawT K) M8 (upd J8 f8 (LamO f8 qL (lamA (lamE 8)) (lamB (lamE 8)) (lamSc (lamE 8)) (cloFrom (lawX P w K mg base A outer s H E).env.cells (lamSc (lamE 8)).names []) c8)) := ButT.fresh b8 n8 _
  have L8 : LamAt (fun sc => cloFrom (lawX P w K mg base A outer s H E).env.cells sc.names []) (upd J8 f8 (LamO f8 qL (lamA (lamE 8)) (lamB (lamE 8)) (lamSc (lamE 8)) (cloFrom (lawX P w K mg base A outer s H E).env.cells (lamSc (lamE 8)).names []) c8)) 8 f8 c8 := ⟨upd_same, (upd_ne (ne_of_none e8 n8)).trans e8⟩
  generalize hM9 : upd J8 f8 (LamO f8 qL (lamA (lamE 8)) (lamB (lamE 8)) (lamSc (lamE 8)) (cloFrom (lawX P w K mg base A outer s H E).env.cells (lamSc (lamE 8)).names []) c8) = M9 at *
  have B9 : ButT (lawT K) H5 M9 := (C0.trans (C1.trans (C2.trans (C3.trans (C4.trans (C5.trans (C6.trans (C7.trans C8))))))))
  have g9 := g5.but neq B9 hTS9
  have nxP : x ≠ lawT K := fun z => by
    obtain ⟨ps, e, _⟩ := g5.tab
    rw [z, e] at hx5
    cases hx5
  have hx9 := B9 _ _ nxP hx5
  have L0 := L0.but hTS1 (C1.trans (C2.trans (C3.trans (C4.trans (C5.trans (C6.trans (C7.trans C8)))))))
  have L1 := L1.but hTS2 (C2.trans (C3.trans (C4.trans (C5.trans (C6.trans (C7.trans C8))))))
  have L2 := L2.but hTS3 (C3.trans (C4.trans (C5.trans (C6.trans (C7.trans C8)))))
  have L3 := L3.but hTS4 (C4.trans (C5.trans (C6.trans (C7.trans C8))))
  have L4 := L4.but hTS5 (C5.trans (C6.trans (C7.trans C8)))
  have L5 := L5.but hTS6 (C6.trans (C7.trans C8))
  have L6 := L6.but hTS7 (C7.trans C8)
  have L7 := L7.but hTS8 C8
  refine ⟨(by show 9 ≤ sizeLine; decide), fun wl hwl => ?_⟩
  have k9 := (Kp.refl (lawT K) M9).new hwl (.lst [.ref f0, .ref f1, .ref f2, .ref f3, .ref f4, .ref f5, .ref f6, .ref f7, .ref f8])
  have hw10 : upd M9 wl (.lst [.ref f0, .ref f1, .ref f2, .ref f3, .ref f4, .ref f5, .ref f6, .ref f7, .ref f8]) wl = some (.lst [.ref f0, .ref f1, .ref f2, .ref f3, .ref f4, .ref f5, .ref f6, .ref f7, .ref f8]) := upd_same
  generalize hH10 : upd M9 wl (.lst [.ref f0, .ref f1, .ref f2, .ref f3, .ref f4, .ref f5, .ref f6, .ref f7, .ref f8]) = H10 at *
  have g10 := g9.kp k9
  have hx10 := k9.ins hx9
  refine ⟨_, rfl, wl, _, rfl, .inl (SqL.of hw10), 9, rfl, by decide, by decide, for_range (lo := 0) (n := 9) (fun _ σ H' => (∃ b5 b6, σ = [some (.ref sc), some (.ref d), some (.int n), some (.ref x), some (.ref wl), b5, b6]) ∧ Kp (lawT K) H10 H') ⟨⟨_, _, rfl⟩, Kp.refl _ _⟩ (fun i σ H11 hi z => ?_) (fun σ H' z => ?_)⟩
  · obtain ⟨⟨b5, b6, rfl⟩, k11⟩ := z
    have g11 := g10.kp k11
    have i9 : i = 0 ∨ i = 1 ∨ i = 2 ∨ i = 3 ∨ i = 4 ∨ i = 5 ∨ i = 6 ∨ i = 7 ∨ i = 8 := by omega
    rcases i9 with rfl | rfl | rfl | rfl | rfl | rfl | rfl | rfl | rfl
    · refine ⟨_, rfl, _, rfl, wl, _, _, _, rfl, rfl, SqL.of (k11.lst hw10), at_of (j := 0) rfl rfl, ld 0 t0, by simp, f0, c0, rfl, (L0.kp (k9.trans k11)).1, (L0.kp (k9.trans k11)).2, ?_⟩
      refine p0 _ _ _ _ n hn rfl fun H12 k12 => told_of (toldI T (i := 0) rfl T.e_BadTeams_FixtureFault (fun dd z => by cases z) fun H13 p13 k13 hp13 => ?_)
      refine rhs_ok (K := K) (i := 0) fun H14 q14 k14 hq14 => ?_
      refine ⟨_, _, .lst (SqL.of (k14.lst hp13)) (dp_bools _), .lst (SqL.of hq14) (dp_bools _), shaped_bools _, shaped_bools _, _, rfl, itF ?_ ⟨⟨_, _, rfl⟩, k11.trans (k12.trans (k13.trans k14))⟩⟩
      exact congrArg not (eqv_bools _)
    · refine ⟨_, rfl, _, rfl, wl, _, _, _, rfl, rfl, SqL.of (k11.lst hw10), at_of (j := 1) rfl rfl, ld 1 t1, by simp, f1, c1, rfl, (L1.kp (k9.trans k11)).1, (L1.kp (k9.trans k11)).2, ?_⟩
      refine p1 _ _ _ _ n hn0 rfl g11.tb.fr fun H12 k12 => told_of (toldI T (i := 1) rfl T.e_BadScore_FixtureFault (fun dd z => by cases z) fun H13 p13 k13 hp13 => ?_)
      refine rhs_ok (K := K) (i := 1) fun H14 q14 k14 hq14 => ?_
      refine ⟨_, _, .lst (SqL.of (k14.lst hp13)) (dp_bools _), .lst (SqL.of hq14) (dp_bools _), shaped_bools _, shaped_bools _, _, rfl, itF ?_ ⟨⟨_, _, rfl⟩, k11.trans (k12.trans (k13.trans k14))⟩⟩
      exact congrArg not (eqv_bools _)
    · refine ⟨_, rfl, _, rfl, wl, _, _, _, rfl, rfl, SqL.of (k11.lst hw10), at_of (j := 2) rfl rfl, ld 2 t2, by simp, f2, c2, rfl, (L2.kp (k9.trans k11)).1, (L2.kp (k9.trans k11)).2, ?_⟩
      refine p2 _ _ _ _ n rfl fun H12 k12 => told_of (toldI T (i := 2) rfl T.e_BadRule_FixtureFault (fun dd z => by cases z) fun H13 p13 k13 hp13 => ?_)
      refine rhs_ok (K := K) (i := 2) fun H14 q14 k14 hq14 => ?_
      refine ⟨_, _, .lst (SqL.of (k14.lst hp13)) (dp_bools _), .lst (SqL.of hq14) (dp_bools _), shaped_bools _, shaped_bools _, _, rfl, itF ?_ ⟨⟨_, _, rfl⟩, k11.trans (k12.trans (k13.trans k14))⟩⟩
      exact congrArg not (eqv_bools _)
    · refine ⟨_, rfl, _, rfl, wl, _, _, _, rfl, rfl, SqL.of (k11.lst hw10), at_of (j := 3) rfl rfl, ld 3 t3, by simp, f3, c3, rfl, (L3.kp (k9.trans k11)).1, (L3.kp (k9.trans k11)).2, ?_⟩
      refine p3 _ _ _ _ n hn rfl fun H12 k12 => told_of (toldI T (i := 3) rfl T.e_Played_FixtureFault (fun dd z => by cases z) fun H13 p13 k13 hp13 => ?_)
      refine rhs_ok (K := K) (i := 3) fun H14 q14 k14 hq14 => ?_
      refine ⟨_, _, .lst (SqL.of (k14.lst hp13)) (dp_bools _), .lst (SqL.of hq14) (dp_bools _), shaped_bools _, shaped_bools _, _, rfl, itF ?_ ⟨⟨_, _, rfl⟩, k11.trans (k12.trans (k13.trans k14))⟩⟩
      exact congrArg not (eqv_bools _)
    · refine ⟨_, rfl, _, rfl, wl, _, _, _, rfl, rfl, SqL.of (k11.lst hw10), at_of (j := 4) rfl rfl, ld 4 t4, by simp, f4, c4, rfl, (L4.kp (k9.trans k11)).1, (L4.kp (k9.trans k11)).2, ?_⟩
      refine p4 _ _ _ _ n hn rfl g11.tb.fi fun H12 k12 => told_of (toldI T (i := 4) rfl T.e_NoPlan_FixtureFault (fun dd z => by cases z) fun H13 p13 k13 hp13 => ?_)
      refine rhs_ok (K := K) (i := 4) fun H14 q14 k14 hq14 => ?_
      refine ⟨_, _, .lst (SqL.of (k14.lst hp13)) (dp_bools _), .lst (SqL.of hq14) (dp_bools _), shaped_bools _, shaped_bools _, _, rfl, itF ?_ ⟨⟨_, _, rfl⟩, k11.trans (k12.trans (k13.trans k14))⟩⟩
      exact congrArg not (eqv_bools _)
    · refine ⟨_, rfl, _, rfl, wl, _, _, _, rfl, rfl, SqL.of (k11.lst hw10), at_of (j := 5) rfl rfl, ld 5 t5, by simp, f5, c5, rfl, (L5.kp (k9.trans k11)).1, (L5.kp (k9.trans k11)).2, ?_⟩
      refine p5 _ _ _ _ n hn rfl fun dd H12 fs k12 hf12 => told_of (toldI T (i := 5) rfl T.e_BadText_FixtureFault (fun d' z => ⟨fs, by cases z; exact hf12⟩) fun H13 p13 k13 hp13 => ?_)
      refine rhs_ok (K := K) (i := 5) fun H14 q14 k14 hq14 => ?_
      refine ⟨_, _, .lst (SqL.of (k14.lst hp13)) (dp_bools _), .lst (SqL.of hq14) (dp_bools _), shaped_bools _, shaped_bools _, _, rfl, itF ?_ ⟨⟨_, _, rfl⟩, k11.trans (k12.trans (k13.trans k14))⟩⟩
      exact congrArg not (eqv_bools _)
    · refine ⟨_, rfl, _, rfl, wl, _, _, _, rfl, rfl, SqL.of (k11.lst hw10), at_of (j := 6) rfl rfl, ld 6 t6, by simp, f6, c6, rfl, (L6.kp (k9.trans k11)).1, (L6.kp (k9.trans k11)).2, ?_⟩
      refine p6 _ _ _ _ n hn rfl fun dd H12 fs k12 hf12 => told_of (toldI T (i := 6) rfl T.e_BadPaper_FixtureFault (fun d' z => ⟨fs, by cases z; exact hf12⟩) fun H13 p13 k13 hp13 => ?_)
      refine rhs_ok (K := K) (i := 6) fun H14 q14 k14 hq14 => ?_
      refine ⟨_, _, .lst (SqL.of (k14.lst hp13)) (dp_bools _), .lst (SqL.of hq14) (dp_bools _), shaped_bools _, shaped_bools _, _, rfl, itF ?_ ⟨⟨_, _, rfl⟩, k11.trans (k12.trans (k13.trans k14))⟩⟩
      exact congrArg not (eqv_bools _)
    · refine ⟨_, rfl, _, rfl, wl, _, _, _, rfl, rfl, SqL.of (k11.lst hw10), at_of (j := 7) rfl rfl, ld 7 t7, by simp, f7, c7, rfl, (L7.kp (k9.trans k11)).1, (L7.kp (k9.trans k11)).2, ?_⟩
      refine p7 _ _ _ _ n hn (by show 5 < 7; decide) rfl g11.tb.ti fun H12 k12 => told_of (toldI T (i := 7) rfl T.e_TooLarge_FixtureFault (fun dd z => by cases z) fun H13 p13 k13 hp13 => ?_)
      refine rhs_ok (K := K) (i := 7) fun H14 q14 k14 hq14 => ?_
      refine ⟨_, _, .lst (SqL.of (k14.lst hp13)) (dp_bools _), .lst (SqL.of hq14) (dp_bools _), shaped_bools _, shaped_bools _, _, rfl, itF ?_ ⟨⟨_, _, rfl⟩, k11.trans (k12.trans (k13.trans k14))⟩⟩
      exact congrArg not (eqv_bools _)
    · refine ⟨_, rfl, _, rfl, wl, _, _, _, rfl, rfl, SqL.of (k11.lst hw10), at_of (j := 8) rfl rfl, ld 8 t8, by simp, f8, c8, rfl, (L8.kp (k9.trans k11)).1, (L8.kp (k9.trans k11)).2, ?_⟩
      refine p8 _ _ _ _ n x dx _ rfl rfl (k11.ins hx10) rfl rfl fun H12 k12 => told_of (toldI T (i := 8) rfl T.e_BadDeed_FixtureFault (fun dd z => by cases z) fun H13 p13 k13 hp13 => ?_)
      refine rhs_ok (K := K) (i := 8) fun H14 q14 k14 hq14 => ?_
      refine ⟨_, _, .lst (SqL.of (k14.lst hp13)) (dp_bools _), .lst (SqL.of hq14) (dp_bools _), shaped_bools _, shaped_bools _, _, rfl, itF ?_ ⟨⟨_, _, rfl⟩, k11.trans (k12.trans (k13.trans k14))⟩⟩
      exact congrArg not (eqv_bools _)
  · obtain ⟨⟨b5, b6, rfl⟩, k11⟩ := z
    exact ⟨⟨_, _, _, _, _, _, rfl⟩, g10.kp k11⟩
end
end K31
set_option Elab.async false
set_option linter.all false
set_option maxRecDepth 100000
set_option maxHeartbeats 4000000
namespace K31
open PySem PySem.Spec PyProof.Rows L2 Fh
section
variable {K : PySem.W.Frag} {mg : Str → Option Value} {base h : Heap}
theorem supT_of (KX : K.In base) (G : base.Ns mainGlobals mg) (nS : mg "super" = none) (e : fnC K ("BadText", some "__init__") = DefC.val ⟨("BadText", some "__init__"), "BadText.__init__", defArgs s_BadText_d_initd_, defBody s_BadText_d_initd_, defScope s_BadText_d_initd_⟩) (h : supB K file "BadText" "row" = true) :
    ∃ fI, SupTxt R.prog K mg "BadText" "row" (He.ga K "BadText") fI := by
  obtain ⟨h1, h⟩ := He.ba h
  obtain ⟨h2, h⟩ := He.ba h
  obtain ⟨h3, h⟩ := He.ba h
  obtain ⟨h4, h⟩ := He.ba h
  obtain ⟨h5, h⟩ := He.ba h
  obtain ⟨h6, h⟩ := He.ba h
  obtain ⟨h7, h⟩ := He.ba h
  obtain ⟨h8, h⟩ := He.ba h
  obtain ⟨h9, h⟩ := He.ba h
  obtain ⟨h10, h⟩ := He.ba h
  obtain ⟨h11, h⟩ := He.ba h
  obtain ⟨h12, h13⟩ := He.ba h
  obtain ⟨oc, od, kV, doc, pm, an, cda, cc, ct, osl, ccl, cl, cdd, cld, vs, ccs, csl, fl, tk, lk, hcd, hcode, hvs, hfile, hcell⟩ := codeB_ok (d := ⟨("BadText", some "__init__"), "BadText.__init__", defArgs s_BadText_d_initd_, defBody s_BadText_d_initd_, defScope s_BadText_d_initd_⟩) e h13
  refine ⟨_, ⟨PySem.W.mg_of KX G (He.eqO_ok h2), supCls_ok h1, He.eqO_ok h3, He.eqO_ok h4, He.eqO_ok h5, of_decide_eq_true h6, h7, of_decide_eq_true h8, of_decide_eq_true h9, of_decide_eq_true h10, of_decide_eq_true h11, He.eqO_ok h12, nS,
    ⟨oc, od, .none, kV, doc, pm, an, cda, cc, ct, osl, "BadText.__init__", "bad text", _, _, _, _, _, _, _, _, _, _, _, _, ccl, cl, cdd, cld, vs, ccs, csl, fl, tk, lk, hcd, hcode, hvs, hfile, hcell, fun a b => rfl, ⟨_, fun env => rfl⟩, fun env => rfl, fun env => rfl⟩, by decide +kernel, by decide, by decide, by decide, by decide⟩⟩
theorem supP_of (KX : K.In base) (G : base.Ns mainGlobals mg) (nS : mg "super" = none) (e : fnC K ("BadPaper", some "__init__") = DefC.val ⟨("BadPaper", some "__init__"), "BadPaper.__init__", defArgs s_BadPaper_d_initd_, defBody s_BadPaper_d_initd_, defScope s_BadPaper_d_initd_⟩) (h : supB K file "BadPaper" "part" = true) :
    ∃ fI, SupTxt R.prog K mg "BadPaper" "part" (He.ga K "BadPaper") fI := by
  obtain ⟨h1, h⟩ := He.ba h
  obtain ⟨h2, h⟩ := He.ba h
  obtain ⟨h3, h⟩ := He.ba h
  obtain ⟨h4, h⟩ := He.ba h
  obtain ⟨h5, h⟩ := He.ba h
  obtain ⟨h6, h⟩ := He.ba h
  obtain ⟨h7, h⟩ := He.ba h
  obtain ⟨h8, h⟩ := He.ba h
  obtain ⟨h9, h⟩ := He.ba h
  obtain ⟨h10, h⟩ := He.ba h
  obtain ⟨h11, h⟩ := He.ba h
  obtain ⟨h12, h13⟩ := He.ba h
  obtain ⟨oc, od, kV, doc, pm, an, cda, cc, ct, osl, ccl, cl, cdd, cld, vs, ccs, csl, fl, tk, lk, hcd, hcode, hvs, hfile, hcell⟩ := codeB_ok (d := ⟨("BadPaper", some "__init__"), "BadPaper.__init__", defArgs s_BadPaper_d_initd_, defBody s_BadPaper_d_initd_, defScope s_BadPaper_d_initd_⟩) e h13
  refine ⟨_, ⟨PySem.W.mg_of KX G (He.eqO_ok h2), supCls_ok h1, He.eqO_ok h3, He.eqO_ok h4, He.eqO_ok h5, of_decide_eq_true h6, h7, of_decide_eq_true h8, of_decide_eq_true h9, of_decide_eq_true h10, of_decide_eq_true h11, He.eqO_ok h12, nS,
    ⟨oc, od, .none, kV, doc, pm, an, cda, cc, ct, osl, "BadPaper.__init__", "bad paper", _, _, _, _, _, _, _, _, _, _, _, _, ccl, cl, cdd, cld, vs, ccs, csl, fl, tk, lk, hcd, hcode, hvs, hfile, hcell, fun a b => rfl, ⟨_, fun env => rfl⟩, fun env => rfl, fun env => rfl⟩, by decide +kernel, by decide, by decide, by decide, by decide⟩⟩
theorem txt_of (KX : K.In base) (G : base.Ns mainGlobals mg) (c : SaysF fa fn cf tf ex h K) (tb : ∀ p ∈ tf.map (He.cT K), LamX.TabB base mg p.1 p.2) : Txt R.prog K mg base := by
  obtain ⟨h1, m⟩ := He.ba c.more
  obtain ⟨h2, m⟩ := He.ba m
  obtain ⟨h3, m⟩ := He.ba m
  obtain ⟨h4, h5⟩ := He.ba m
  have nS : mg "super" = none := He.free_ok KX G (c.d.fact 51)
  refine ⟨KX, G, c.d, c.hd, fun p hp => (tb _ (List.mem_map.mpr ⟨p, hp, rfl⟩)).bm, fun p hp => (tb _ (List.mem_map.mpr ⟨p, hp, rfl⟩)).gP, fun p hp hne => ?_, supT_of KX G nS (c.c _ (List.mem_of_getElem? (i := 0) rfl)) h4, supP_of KX G nS (c.c _ (List.mem_of_getElem? (i := 1) rfl)) h5, fun i j x y hx hy => ?_, fun x hx => ?_, fun x hx => ?_⟩
  · have q := List.all_eq_true.mp h3 p hp
    rw [decide_eq_false hne, Bool.false_or] at q
    exact of_decide_eq_true q
  · have li : i < 9 := (List.getElem?_eq_some_iff.mp hx).1
    have lj : j < 9 := (List.getElem?_eq_some_iff.mp hy).1
    have q := of_decide_eq_true (List.all_eq_true.mp (List.all_eq_true.mp h1 i (List.mem_range.mpr li)) j (List.mem_range.mpr lj))
    have ex : errs.getD i "BadTeams" = x := by rw [List.getD_eq_getElem?_getD, hx]; rfl
    have ey : errs.getD j "BadTeams" = y := by rw [List.getD_eq_getElem?_getD, hy]; rfl
    rw [ex, ey] at q
    exact q
  · exact of_decide_eq_true (He.ba (List.all_eq_true.mp h2 x hx)).1
  · exact isCB_ok (He.ba (List.all_eq_true.mp h2 x hx)).2
theorem lawAt (w : World) (mg : Str → Option Value) (fa : Addr) (h : Heap) (Y : hk.says w h) (G : h.Ns mainGlobals mg) (hm : mg "law" = some (.ref fa)) :
    ∃ K : PySem.W.Frag, K.In h ∧ LamX.LawAtS PySem.Challenge.rw_fixturehall_k31_refusals_apart w K (L2.CX PySem.Challenge.pw_fixturehall_k31_refusals_apart w) 9 63 "script" mg fa h := by
  obtain ⟨K, KX, c⟩ := Y
  have eg : mg "law" = some (.ref (He.ga K "law")) := He.glo_ok KX G (c.d.fact 22)
  have ef : fa = He.fAd K pLaw := by
    rw [eg] at hm
    injection hm with z
    injection z with z
    exact z.symm
  subst ef
  obtain ⟨fd, F⟩ : ∃ fd, FunD K "law" "law" (defArgs s_law) (defBody s_law) (defScope s_law) [] [] (He.fAd K pLaw) fd := c.d.def_ 22
  have G2 := He5.fun_of F
  obtain ⟨oc, od, kV, doc, pm, an, cdv, ct, osl, rfl, lk, hcd⟩ := G2.ex
  refine ⟨K, KX, PySem.W.fnOf "law" "law" (defArgs s_law) (defBody s_law) (defScope s_law) .none kV doc pm an cdv ct, tf.map (He.cT K), spLaw K, fun p hp => ?_, fun p hp => ?_, fun p hp => ?_, fun s u => ?_, fun H a ns hl hb hT hS => ?_, fun base KB GB tb => ?_⟩
  · obtain ⟨q, hq, rfl⟩ := List.mem_map.mp hp
    exact c.empty q hq
  · obtain ⟨q, hq, rfl⟩ := List.mem_map.mp hp
    exact c.out q hq
  · obtain ⟨q, hq, rfl⟩ := List.mem_map.mp hp
    exact PySem.W.codeHd_of_K KX (c.hd q hq)
  · exact BindsTo.of_eq (b_law kV doc pm an cdv ct [u] rfl)
  · have t0 : ∀ p ∈ tf, H (He.cT K p).2 = some (.tbl #[]) := fun p hp => hT _ (List.mem_map.mpr ⟨p, hp, rfl⟩)
    have tg : ∀ p ∈ tf, GxR.TabG H (He.cT K p).2 := fun p hp => ⟨_, t0 p hp, trivial⟩
    refine ⟨a, ns, rfl, hS, ?_, LamX.TabS.nil (t0 _ tf_law), ⟨tg _ tf_frames, tg _ tf_times, tg _ tf_fits⟩, fun _ => rfl⟩
    have : sizeLine = 16777216 := sizeLine_eq
    omega
  · obtain ⟨cd, rfl⟩ := He.codeIn_ref hcd
    have ec : He.codeOf K pLaw = cd := He.codeOf_eq lk rfl
    subst ec
    exact fn_of lk hcd sc_law (fun vs H Q E z => by obtain ⟨_, _, e, _⟩ := z; rw [e]; rfl) (law_body (txt_of KB GB c tb))
end
end K31
set_option Elab.async false
set_option linter.all false
set_option maxRecDepth 100000
set_option maxHeartbeats 0
open PySem PySem.W PySem.Calls PyProof.Rows
theorem PySem.Challenge.cw_fixturehall_k31_refusals_apart_holds : PySem.Challenge.rw_fixturehall_k31_refusals_apart.Holds := by
  w_on; o_law
  refine HandSHeadRun.head_any (r := OpenLaw.row PySem.Challenge.rw_fixturehall_k31_refusals_apart) (q := PySem.W.view K31.R.prog [K31.lawIx]) (H := K31.hk) (ob := K31.ob) (M := 12000) (loose := K31.loose) (kwd := []) K31.ob_eq (by kernel_rfl) (fun s => by kernel_rfl) K31.run (by rfl) (by rfl) (by rfl) (by rfl) (by first | assumption | decide +kernel) (by decide +kernel) ⟨rfl, rfl, rfl, rfl, rfl, by decide +kernel⟩ ?hw ?hc
  case hw => w_witness2
  case hc =>
    refine LamX.walk_ofTsE (n := 63) (k := 9) (x := "script") (CX := fun w => L2.CX PySem.Challenge.pw_fixturehall_k31_refusals_apart w) rfl (by decide) rfl ⟨rfl, by decide +kernel, by decide +kernel⟩ (fun w mg fa h Y G hm => K31.lawAt w mg fa h Y G hm) (fun w H s e s' z => ?_)
    obtain ⟨_, _, _, _, _, _, _, _, _, _, _, _, z⟩ := z
    exact z.elim
