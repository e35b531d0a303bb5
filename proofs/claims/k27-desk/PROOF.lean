import PyProof.Rows.All
import Wide.All
import OpenK.AllK
import Wide.FinOn
import PyProof.EqAt
import PyProof.EqKinds
import PyProof.TupleCall
import KE.KNest
import HandS.ForMost
import HandS.AnyAll
import HandS.GenBody
import KE.KLam
import HandS.ForExc
import HandS.Codes
import HandS.Lambda
import KE.KExcSuper
import KE.KExcIs
import HandS.ExcInit
import HandS.SuiteRaise
import HandS.Walk
import HandS.CallRecv
import HandS.Defaults
import HandS.HeadNt
import HandS.ExcCtx
import HandS.HotCalls
import HandS.HeadHook4
import KE.GoesMore
import KE.GoesEnum
import HandS.DictComp
import HandS.Zip
import HandS.Deep
import HandS.TupAny
import KE.KIsAll
import HandS.ExcIs
import HandS.HeadHook1
import HandS.TupLe
import HandS.Wide
import HandS.Text
import HandS.Dict
import HandS.WordsDict
import HandS.TryOnly
import HandS.SortKw
import HandS.More
import KE.KStateDown
import Lean
import HandS.EndTab
import HandS.Head0
import HandS.Head1
import HandS.Head2
import HandS.HeadEnd
import HandS.HeadHook2
import HandS.HeadHook3
import HandS.HeadWalk
import PySem.Challenge.RW_fixturehall_k27_a_desk_and_its_deeds
set_option Elab.async false
set_option linter.all false
set_option maxRecDepth 100000
set_option maxHeartbeats 4000000
/-! any, all of a generator expression over anything that is walked, its element of any kind that raises nothing -/
namespace Fh
open PySem PySem.Spec PyProof.Rows L2

/-- the context of a generator expression's own frame -/
abbrev gcx (X : Cx) (s : Shared) (H : Hp) (cenv : Env) (A' : Around) (fp : List Addr) : Cx :=
  { X with A := A', s_0 := s, H_0 := H, env := cenv, outer := X.stack, stack := cenv :: X.stack, ex := fp, fn := fun _ => false, calm := true, pn := [], xe := fun _ _ => False }

section
variable {X : Cx} {pins : List (Addr × Obj)} {σ : L2.St} {H : Hp} {s : Shared}
theorem inv_more {h' : Heap} {g' : Array GenState} {d' : Drawn} {t' : Nat} (I : Inv X pins σ H s) (k : ∀ b o, s.heap.get? b = some o → h'.get? b = some o) (hg : AllBare g') :
    Inv X pins σ H { s with heap := h', gens := g', drawn := d', toks := t' } := by
  refine I.step (ch := []) (fun _ z => nomatch z) (fun b o _ _ _ e _ => k b o e) (fun b o _ _ _ e _ => ⟨o.slots, k b o e⟩) (fun _ _ _ _ n => n) (fun b o _ e => ⟨o, k b o e⟩) (fun _ _ e => e) (fun _ _ _ e => e) (fun b ps e => ⟨#[], by rw [e]; simp⟩) (fun m hm => ?_) (I.hok.kept k) hg
  obtain ⟨ob, es, ep, ho, r⟩ := hm
  exact ⟨ob, es, ep, k _ ob ho, r⟩

/-- the generator's frame has come to be -/
theorem gen_start {scope : Scope} {own : List (Str × Nat)} {fp : List Addr} {code : Value} {A' : Around} {h' : Heap} {G' : Array GenState} {tk : Nat} {it : Value} (I : Inv X pins σ H s) (ok : BlkOk X.N X.env.scope scope own) (hcell : ∀ y ∈ scope.names, y.2 ≠ .cell) (hN : X.N.Nodup)
    (hfp : ∀ b ∈ fp, FpOk X pins H b ∧ b < s.heap.objs.size) (hA : A'.handled = none) (hfr : A'.frames = some (genEnv scope (cloFrom X.env.cells scope.names []) s.heap.objs.size code builtinsNs X.env :: X.stack))
    (kp : ∀ b o, s.heap.get? b = some o → h'.get? b = some o) (hns : h'.Ns s.heap.objs.size (fun y => if y = ".0" then some it else none)) (hG : AllBare G') :
    Inv (gcx X s H (genEnv scope (cloFrom X.env.cells scope.names []) s.heap.objs.size code builtinsNs X.env) A' fp) [] (wipe σ (own.map (·.2))) H { s with heap := h', gens := G', toks := tk } := by
  have hfree : ∀ y ∈ scope.names, y.2 = .free → ∃ c, X.env.cells.lookup y.1 = some c := fun y hy e => by
    rcases ok.free y hy e with k | k
    · exact I.ok.has _ (.inl k)
    · exact I.ok.has _ (.inr k)
  have cm : ∀ {y c}, (cloFrom X.env.cells scope.names []).lookup y = some c → X.env.cells.lookup y = some c := fun {y c} e => by
    rcases cloFrom_mem (PySem.mem_of_lookup e) with hm | ⟨h1, h2⟩
    · cases hm
    · obtain ⟨c1, hc⟩ := hfree _ h1 rfl
      have hc : X.env.cells.lookup y = some c1 := hc
      have e2 : c = c1 := by
        rw [h2, hc] <;> rfl
      rw [e2]
      exact hc
  have look : ∀ {y}, scope.names.lookup y = some .free → ∃ c, (cloFrom X.env.cells scope.names []).lookup y = some c := fun {y} hl => by
    have hy : (y, NameKind.free) ∈ scope.names := PySem.mem_of_lookup hl
    exact mem_lookup (cloFrom_has (cells := X.env.cells) (acc := []) hy)
  have clt : ∀ {y c}, X.env.cells.lookup y = some c → c < s.heap.objs.size := fun {y c} e => by
    obtain ⟨w', z⟩ := I.cell _ _ e
    exact z.lt
  refine ⟨⟨I.ok.mod, ok.kind, I.ok.glob, rfl, Nat.le_refl _, fun y z c e1 e2 => I.ok.inj y z c (cm e1) (cm e2), fun y hy => ?_, fun y c z _ => ?_, fun _ => hA, hfr, .inr ⟨rfl, rfl⟩, fun b hb => ⟨Nat.ne_of_lt (hfp b hb).2, fun y c e => (hfp b hb).1.2.2.2.2.1 y c (cm e)⟩, I.bs, Nat.le_trans I.ok.bsz I.sz,
      fun b o e hb => ?_, fun b hb z => ?_, I.stack, I.stkFree⟩,
    rfl, hG, Un.kept kp, ⟨_, hns, fun i y av e1 e2 e3 => ?_⟩, fun y c e => ?_, I.hok.fresh (Nat.le_refl _), fun y c e => I.freeC y c (cm e), fun p hp => absurd (show p ∈ ([] : List (Addr × Obj)) ++ [] from hp) (by simp), I.hok.kept kp, by rw [wipe_length]; exact I.len⟩
  · have hy : scope.names.lookup y = some .cell ∨ scope.names.lookup y = some .free := hy
    rcases hy with hy | hy
    · exact absurd rfl (hcell _ (PySem.mem_of_lookup hy))
    · exact look hy
  · have z : false = true := z
    cases z
  · rcases (hfp b hb).1.2.2.2.1 with z | z
    · exact I.ok.noex b o e z
    · exact absurd (Nat.lt_of_lt_of_le (Heap.lt_size e) (Nat.le_trans I.ok.bsz z)) (Nat.lt_irrefl _)
  · rcases List.mem_cons.mp (I.stkSub b z) with z | z
    · exact (hfp b hb).1.2.1 z
    · exact (hfp b hb).1.2.2.1 z
  · obtain ⟨e2, hne⟩ := wipe_some e2
    have e3 : Vis scope y := e3
    have hfr : scope.names.lookup y = some .free := by
      have no : ∀ k, scope.names.lookup y = some k → (k = .local ∨ k = .cell) → False := fun k e hh => by
        rcases ok.own _ (PySem.mem_of_lookup e) hh with e' | e'
        · obtain ⟨p, hp, hpy⟩ := List.mem_map.mp e'
          have e3 := ok.ix p hp
          have : p.1 = y := hpy
          rw [this] at e3
          exact hne (List.mem_map.mpr ⟨p, hp, nodup_ix hN e3 e1⟩)
        · exact e' (List.mem_of_getElem? e1)
      rcases e3 with e3 | e3 | e3
      · exact (no _ e3 (.inl rfl)).elim
      · exact (no _ e3 (.inr rfl)).elim
      · exact e3
    obtain ⟨m, hn, hl⟩ := I.loc
    have hvis : Vis X.env.scope y := (ok.free _ (PySem.mem_of_lookup hfr) rfl).elim (fun k => .inr (.inl k)) (fun k => .inr (.inr k))
    obtain ⟨w', r, q⟩ := hl i y av e1 e2 hvis
    obtain ⟨c2, h2⟩ := look hfr
    refine ⟨w', r, .inr ⟨.inr hfr, c2, h2, ?_⟩⟩
    have c1 := cm h2
    rcases q with ⟨k', _⟩ | ⟨_, c3, e', z⟩
    · have k' : X.env.scope.names.lookup y = some .local := k'
      rcases ok.free _ (PySem.mem_of_lookup hfr) rfl with k2 | k2 <;> rw [show X.env.scope.names.lookup y = _ from k2] at k' <;> cases k'
    · rw [c1] at e'
      cases e'
      exact z.keeps kp
  · obtain ⟨w', z⟩ := I.cell y c (cm e)
    exact ⟨w', z.keeps kp⟩
end

/-- while the generator sleeps: all is kept -/
structure Slp (s s' : Shared) : Prop where
  os : s'.os = s.os
  bare : AllBare s'.gens
  keep : ∀ b o, s.heap.get? b = some o → s'.heap.get? b = some o
theorem bare_setGen {s : Shared} {g : Nat} {x : GenState} (h : AllBare s.gens) (hx : x.bare = true) : AllBare (s.setGen g x).gens := fun y hy => by
  obtain ⟨i, hi, rfl⟩ := Array.mem_iff_getElem.mp hy
  have hi' : i < s.gens.size := by simpa [Shared.setGen] using hi
  by_cases e : g = i
  · subst e
    simp [Shared.setGen, hx]
  · have q : (s.setGen g x).gens[i]? = s.gens[i]? := by simp [Shared.setGen, Array.getElem?_setIfInBounds, e]
    rw [Array.getElem?_eq_getElem hi, Array.getElem?_eq_getElem hi'] at q
    rw [Option.some.inj q]
    exact h _ (Array.getElem_mem hi')
theorem inv_slp {X : Cx} {pins : List (Addr × Obj)} {σ : L2.St} {H : Hp} {s s' : Shared} (I : Inv X pins σ H s) (z : Slp s s') : Inv X pins σ H s' := by
  obtain ⟨z1, z2, z3⟩ := z
  obtain ⟨hh, g, d, t, o⟩ := s'
  have ho : o = s.os := z1
  subst ho
  exact inv_more I z3 z2

/-! ### the generator's turns -/
abbrev gLoop (elt tg iter : Expr) (ifs : List Expr) (scope : Scope) (pos : Pos) (it : Addr) (cenv : Env) : Code := .compLoop (.GeneratorExp elt [⟨tg, iter, ifs, 0⟩] scope pos) 0 (.ref it) .none cenv
abbrev gStart (elt tg iter : Expr) (ifs : List Expr) (scope : Scope) (pos : Pos) (it : Addr) (cenv : Env) : Code := .compStart (.GeneratorExp elt [⟨tg, iter, ifs, 0⟩] scope pos) 0 (.ref it) .none cenv
/-- what is handed out: y, at H; C: what its taker makes of it and of what comes behind -/
def GYp (G : Cx) (ip : List (Addr × Obj)) (C : V → Hp → Prop → Prop) : Protocol := fun _ _ v s kap => ∃ (y : V) (H : Hp) (σ : L2.St) (Pr : Prop), Inv G ip σ H s ∧ RelV y v ∧ C y H Pr ∧ (Pr → ∀ s', Slp s s' → kap (.send .none) s')
def GPe (G : Cx) (ip : List (Addr × Obj)) (σg : L2.St) (Qe : Hp → Prop) : Nat → Shared → Shared → Prop := fun _ _ s => ∃ H, Inv G ip σg H s ∧ Qe H
/-- one turn -/
def GTurn (J : It) (g : TG) (tt : TT) (te : TE) (vs : List Nat) (σg : L2.St) (C : V → Hp → Prop → Prop) (Qe : Hp → Prop) (W : Nat → Nat → Hp → Prop) : Prop := ∀ i m H, W i m H →
  (J.stop i H ∧ Qe H) ∨ (J.go i H ∧ ∃ Nx : Hp → Prop, (∀ H', Nx H' → ∃ m', m' < m ∧ W (i + 1) m' H') ∧ ∀ x H', J.yld i H x H' → g x σg H' fun σ2 H2 => wipe σ2 vs = σg ∧ tt σ2 H2 fun b H3 =>
    if b = true then te σ2 H3 fun y H4 => C y H4 (Nx H4) else Nx H3)
section
variable {X : Cx} {s4 : Shared} {H4 : Hp} {cenv : Env} {fp : List Addr} {A2 A' : Around} {tg iter elt : Expr} {ifs : List Expr} {scope : Scope} {pos : Pos} {it : Addr} {ip : List (Addr × Obj)} {J : It} {tn : Nat → Heap → Prop} {σg : L2.St} {vs : List Nat} {g : TG} {tt : TT} {te : TE}
  {C : V → Hp → Prop → Prop} {Qe : Hp → Prop} {W : Nat → Nat → Hp → Prop}
theorem gen_loop (hA : A2.over (gLoop elt tg iter ifs scope pos it cenv) [] = A') (hpg : PG (gcx X s4 H4 cenv A' fp) tg g) (hpt : PTs (gcx X s4 H4 cenv A' fp) ifs tt) (hpe : PE (gcx X s4 H4 cenv A' fp) elt te) (T : Turn X.prog X.w X.K tg J fp it tn)
    (hco : cenv.scope.isCoroutine = false) (hip : ∀ p ∈ ip, ∀ b ∈ fp, p.1 ≠ b) (turn : GTurn J g tt te vs σg C Qe W) :
    ∀ (m i n : Nat) (s₀ s : Shared) (H : Hp), m < n → W i m H → Inv (gcx X s4 H4 cenv A' fp) ip σg H s → tn i s.heap → (∀ b ∈ fp, H b = none) →
      Seg (model X.prog X.w) A2 (fun n s₀ r s₁ => r = .ok .next ∧ GPe (gcx X s4 H4 cenv A' fp) ip σg Qe n s₀ s₁) (GYp (gcx X s4 H4 cenv A' fp) ip C) n s₀ (gLoop elt tg iter ifs scope pos it cenv) ((model X.prog X.w).den (gLoop elt tg iter ifs scope pos it cenv)) [] s := by
  have stat : ∀ {σ' : L2.St} {H' : Hp} {s' : Shared}, Inv (gcx X s4 H4 cenv A' fp) ip σ' H' s' → (∀ b ∈ fp, H' b = none) → ∀ b ∈ fp, FpOk (gcx X s4 H4 cenv A' fp) ip H' b := fun {σ' H' s'} I' hn b hb =>
    ⟨hn b hb, (I'.ok.exf b hb).1, I'.ok.exfs b hb, .inl hb, fun x c e => (I'.ok.exf b hb).2 x c e, fun p hp => hip p (by simpa using hp) b hb⟩
  intro m
  induction m using Nat.strongRecOn with
  | ind m ih =>
    intro i n s₀ s H hn w I st nf
    show Seg _ A2 _ _ n s₀ _ ((compTurn (.GeneratorExp elt [⟨tg, iter, ifs, 0⟩] scope pos) 0 (.ref it) .none cenv).onRaise (leaving cenv)) [] s
    rw [compTurn_gen, Sem.onRaise_eq_wrap]
    refine seg_bind_wrap (wpAny_standAt ?_)
    rcases turn i m H w with ⟨stop, q⟩ | ⟨go, Nx, hNx, step⟩
    · refine seg_bind_wrap ?_
      rw [hA]
      refine wpAny_mono (T.done (gcx X s4 H4 cenv A' fp) rfl rfl rfl rfl i ip s σg H (fun _ _ => False) I (stat I nf) st stop) (fun r s6 hr => ?_) fun _ _ z => z.elim
      obtain ⟨hr, I6⟩ := hr
      subst hr
      exact seg_end (.ok .next) ⟨rfl, H, I6, q⟩
    · refine seg_bind_wrap ?_
      rw [hA]
      refine wpAny_mono (T.item (gcx X s4 H4 cenv A' fp) rfl rfl rfl rfl i ip s σg H (fun _ _ => False) I (stat I nf) st go) (fun r s6 h6 => ?_) fun _ _ z => z.elim
      obtain ⟨u, hr, h6⟩ := h6
      subst hr
      refine seg_bind_wrap ?_
      rw [hA]
      refine wpAny_mono h6 (fun _ s7 h7 => ?_) fun _ _ z => z.elim
      obtain ⟨x, H7, I7, r7, y7, st7, n7⟩ := h7
      have I7' := I7.pinned (stat I7 n7) (T.obj _ _ st7)
      refine seg_bind_wrap ?_
      rw [hA]
      refine wpAny_mono (hpg.run _ s7 _ H7 x u _ I7' r7 (step x H7 y7)) (fun _ s8 h8 => ?_) fun _ _ z => z.elim
      obtain ⟨σ8, H8, I8, hw8, q8⟩ := h8
      refine seg_bind_wrap ?_
      rw [hA]
      refine wpAny_mono (hpt.run _ s8 σ8 H8 _ I8 q8) (fun b s9 h9 => ?_) fun _ _ z => z.elim
      obtain ⟨H9, I9, q9⟩ := h9
      have pin' : ∀ {s' : Shared} {H' : Hp}, Inv (gcx X s4 H4 cenv A' fp) (ip ++ pinsAt fp s7.heap) σ8 H' s' → ∀ b ∈ fp, ∀ o, s7.heap.get? b = some o → s'.heap.get? b = some o ∧ H' b = none := fun {s' H'} I' b hb o e =>
        let z := I'.pin (b, o) (List.mem_append_right _ (List.mem_append_right _ (mem_pinsAt hb e)))
        ⟨z.1, z.2.1⟩
      have back : ∀ {s' : Shared} {H' : Hp}, Inv (gcx X s4 H4 cenv A' fp) (ip ++ pinsAt fp s7.heap) σ8 H' s' → Inv (gcx X s4 H4 cenv A' fp) ip σg H' s' ∧ tn (i + 1) s'.heap ∧ ∀ b ∈ fp, H' b = none := fun {s' H'} I' => by
        have hl : σg.length = σ8.length := by rw [← hw8, wipe_length]
        refine ⟨(I'.unpinned (pins := ip)).weak hl (fun j v e => ?_), T.keep _ _ _ st7 fun b hb o e => (pin' I' b hb o e).1, fun b hb => ?_⟩
        · rw [← hw8] at e
          exact (wipe_some e).1
        · obtain ⟨o, e, _⟩ := T.obj _ _ st7 b hb
          exact (pin' I' b hb o e).2
      cases b with
      | false =>
        simp only [Bool.false_eq_true, if_false] at q9 ⊢
        obtain ⟨m', hm, w'⟩ := hNx _ q9
        obtain ⟨J1, J2, J3⟩ := back I9
        exact seg_again rfl (ih m' hm (i + 1) n s₀ s9 H9 (by omega) w' J1 J2 J3)
      | true =>
        simp only [if_true] at q9 ⊢
        cases n with
        | zero => omega
        | succ n' =>
          have hy : ∀ v, yieldOut cenv v = yieldValue v := fun v => by simp only [yieldOut, hco, Bool.false_eq_true, if_false]
          simp only [hy]
          rw [Sem.bind_eq_wrap', Sem.bind_eq_wrap', Sem.wrap_wrap, Sem.wrap_wrap]
          refine seg_wrap ?_
          rw [hA]
          refine wpAny_mono (hpe.run _ s9 σ8 H9 _ I9 q9) (fun yv s10 h10 => ?_) fun _ _ z => z.elim
          obtain ⟨y, H10, I10, r10, qC⟩ := h10
          obtain ⟨J1, J2, J3⟩ := back I10
          refine seg_at (seg_yield rfl rfl rfl ⟨y, H10, σg, Nx H10, J1, r10, qC, fun nx s' z => ?_⟩)
          obtain ⟨m', hm, w'⟩ := hNx _ nx
          exact seg_again rfl (ih m' hm (i + 1) n' s' s' H10 (by omega) w' (inv_slp J1 z) (T.keep _ _ _ J2 fun b _ o e => z.keep b o e) J3)
theorem gen_begin (T : Turn X.prog X.w X.K tg J fp it tn) {n : Nat} {s₀ s : Shared} {H : Hp} {R : GenEnd} {Y : Protocol} (st : tn 0 s.heap)
    (loop : Seg (model X.prog X.w) A2 R Y n s₀ (gLoop elt tg iter ifs scope pos it cenv) ((model X.prog X.w).den (gLoop elt tg iter ifs scope pos it cenv)) [] s) :
    Seg (model X.prog X.w) A2 R Y n s₀ (gStart elt tg iter ifs scope pos it cenv) ((model X.prog X.w).den (gStart elt tg iter ifs scope pos it cenv)) [] s := by
  show Seg _ A2 _ _ _ s₀ _ ((compStart (.GeneratorExp elt [⟨tg, iter, ifs, 0⟩] scope pos) 0 (.ref it) .none cenv).onRaise (leaving cenv)) [] s
  unfold compStart
  rw [Sem.onRaise_eq_wrap]
  show Seg _ A2 _ _ _ s₀ _ ((ask >>= _).wrap _ _ _ _) [] s
  refine seg_bind_wrap (wpAny_askSetting ?_)
  split
  · exact seg_again rfl loop
  · refine seg_bind_wrap (wpAny_rule ?_)
    show Seg _ A2 _ _ _ s₀ _ ((standAt iter.pos >>= _).wrap _ _ _ _) [] s
    exact seg_bind_wrap (wpAny_standAt (seg_bind_wrap (T.self _ 0 s _ _ st (seg_again rfl loop))))
end

theorem Slp.refl {s : Shared} (h : AllBare s.gens) : Slp s s := ⟨rfl, h, fun _ _ e => e⟩
/-! ### who takes what is handed out -/
section
variable {prog : Program} {w : World} {A : Around} {R : Result → Shared → Prop} {a : Addr} {GSt : Nat → Shared → Prop}
theorem any_loop (turn : ∀ n s, GSt n s → wpAny (model prog w) A.in1 (pyNext (.ref a)) (fun r s' => match r with
      | none => R (.ok (.ret (.bool false))) s'
      | some v => ∃ k, v = .bool k ∧ (if k = true then R (.ok (.ret (.bool true))) s' else ∃ m, m < n ∧ GSt m s')) (fun e s' => R (.error e) s') s) :
    ∀ n s, GSt n s → codeAny (model prog w) A (.builtin "any.loop" ⟨[.ref a], []⟩) R s := by
  intro n
  induction n using Nat.strongRecOn with
  | ind n ih =>
    intro s h
    refine codeAny_builtin F.entry_any_loop ?_
    rw [Around.under_plainId F.plain_any_loop _]
    show wpAny _ A.in1 (pyNext (.ref a) >>= _) _ _ s
    refine wpAny_bind (wpAny_mono (turn n s h) (fun r s' hr => ?_) fun _ _ e => e)
    cases r with
    | none => exact wpAny_bind (wpAny_rule (wpAny_pure hr))
    | some v =>
      obtain ⟨k, rfl, hr⟩ := hr
      refine wpAny_bind (wpAny_holding (wpAny_truthy_bool ?_))
      refine wpAny_bind (wpAny_letGo ?_)
      cases k with
      | false =>
        simp only [Bool.false_eq_true, if_false] at hr ⊢
        obtain ⟨m, hm, hg⟩ := hr
        exact wpAny_pure ⟨plainId_quiet F.plain_any_loop _, ih m hm s' hg⟩
      | true =>
        simp only [if_true] at hr ⊢
        exact wpAny_bind (wpAny_rule (wpAny_pure hr))
theorem all_loop (turn : ∀ n s, GSt n s → wpAny (model prog w) A.in1 (pyNext (.ref a)) (fun r s' => match r with
      | none => R (.ok (.ret (.bool true))) s'
      | some v => ∃ k, v = .bool k ∧ (if k = true then ∃ m, m < n ∧ GSt m s' else R (.ok (.ret (.bool false))) s')) (fun e s' => R (.error e) s') s) :
    ∀ n s, GSt n s → codeAny (model prog w) A (.builtin "all.loop" ⟨[.ref a], []⟩) R s := by
  intro n
  induction n using Nat.strongRecOn with
  | ind n ih =>
    intro s h
    refine codeAny_builtin F.entry_all_loop ?_
    rw [Around.under_plainId F.plain_all_loop _]
    show wpAny _ A.in1 (pyNext (.ref a) >>= _) _ _ s
    refine wpAny_bind (wpAny_mono (turn n s h) (fun r s' hr => ?_) fun _ _ e => e)
    cases r with
    | none => exact wpAny_bind (wpAny_rule (wpAny_pure hr))
    | some v =>
      obtain ⟨k, rfl, hr⟩ := hr
      refine wpAny_bind (wpAny_holding (wpAny_truthy_bool ?_))
      refine wpAny_bind (wpAny_letGo ?_)
      cases k with
      | false =>
        simp only [Bool.false_eq_true, if_false] at hr ⊢
        exact wpAny_bind (wpAny_rule (wpAny_pure hr))
      | true =>
        simp only [if_true] at hr ⊢
        obtain ⟨m, hm, hg⟩ := hr
        exact wpAny_pure ⟨plainId_quiet F.plain_all_loop _, ih m hm s' hg⟩
end
/-- the generator g, at a, sleeps in the state s -/
structure GSt (X G : Cx) (a : Addr) (g : Nat) (go : Obj) (σg : L2.St) (C : V → Hp → Prop → Prop) (Qe : Hp → Prop) (n : Nat) (s : Shared) : Prop where
  gs : ∃ gs, s.gens[g]? = some gs ∧ ∀ s'', Slp s s'' → gs.Goes (model X.prog X.w) X.A.in1.in1 (fun n s₀ r s₁ => r = .ok .next ∧ GPe G [(a, go)] σg Qe n s₀ s₁) (GYp G [(a, go)] C) n (.send .none) s''
  inv : ∃ σ H, Inv G [(a, go)] σ H s
section
variable {X G : Cx} {a : Addr} {g : Nat} {go : Obj} {σg : L2.St} {C : V → Hp → Prop → Prop} {Qe : Hp → Prop} {n : Nat} {s : Shared}
theorem gen_next {nm qn : Value} {Qp : Option Value → Shared → Prop} {E : Value → Shared → Prop} (hh : X.A.handled = none) (hroom : X.A.depth < recursionLimit) (h1 : go.cls = .type "generator") (h2 : go.data = .fields #[.int g 0, nm, qn]) (h3 : go.slots = #[]) (st : GSt X G a g go σg C Qe n s)
    (hQ1 : ∀ v s₁ y H σ Pr, Inv G [(a, go)] σ H s₁ → RelV y v → C y H Pr → (Pr → ∃ m, m < n ∧ GSt X G a g go σg C Qe m s₁) → Qp (some v) s₁) (hQ2 : ∀ s₁ H, Inv G [(a, go)] σg H s₁ → Qe H → Qp none s₁) :
    wpAny (model X.prog X.w) X.A.in1 (pyNext (.ref a)) Qp E s := by
  obtain ⟨⟨gs, hgs, hgo⟩, σ, H, I⟩ := st
  have ha : s.heap.get? a = some go := (I.pin (a, go) (List.mem_append_right _ List.mem_cons_self)).1
  have hgen : s.heap.IsGen a g := ⟨go, nm, qn, ha, h1, h2, h3⟩
  have hlt : g < s.gens.size := by
    rcases Nat.lt_or_ge g s.gens.size with h' | h'
    · exact h'
    · rw [Array.getElem?_eq_none h'] at hgs; cases hgs
  refine GenW.wpAny_gsz (n := g + 1) hlt ?_
  have slp : Slp s (s.setGen g .running) := ⟨rfl, bare_setGen I.bare rfl, fun _ _ e => e⟩
  refine wpAny_pyNext_genexpQ (A := X.A.in1) (P := GPe G [(a, go)] σg Qe) hh I.nolimit hroom hgen hgs (hgo _ slp) (fun v s₁ gs' hb hv => ?_) (fun s₁ hp h' hk => ?_)
  · obtain ⟨y, H1, σ1, Pr, I1, r1, c1, k1⟩ := hv
    intro hsz
    have z : Slp s₁ (s₁.setGen g gs') := ⟨rfl, bare_setGen I1.bare hb, fun _ _ e => e⟩
    refine hQ1 v _ y H1 σ1 Pr (inv_slp I1 z) r1 c1 fun pr => ?_
    have k2 := k1 pr
    cases n with
    | zero => exact (k2 s₁ (Slp.refl I1.bare)).elim
    | succ m =>
      refine ⟨m, Nat.lt_succ_self _, ⟨gs', ?_, fun s'' z2 => k2 s'' ⟨z2.os, z2.bare, z2.keep⟩⟩, σ1, H1, inv_slp I1 z⟩
      have hl : g < s₁.gens.size := by
        have e : (s₁.setGen g gs').gens.size = s₁.gens.size := by simp [Shared.setGen]
        rw [e] at hsz
        exact hsz
      simp [Shared.setGen, hl]
  · obtain ⟨H1, I1, q1⟩ := hp
    intro _
    exact hQ2 _ H1 (inv_slp I1 ⟨rfl, bare_setGen I1.bare rfl, hk⟩) q1
end

/-- what a walk over a generator expression asks, the taker C, the end Qe -/
def tGx (P : Addr) (wi : TI) (g : TG) (tt : TT) (te : TE) (vs : List Nat) (σ : L2.St) (H : Hp) (C : V → Hp → Prop → Prop) (Qe : Hp → Prop) : Prop := wi σ H fun J H1 => GxR.TabG H1 P ∧ ∀ H2, GxR.Tabbed P H1 H2 → ∃ W : Nat → Nat → Hp → Prop, (∃ m, W 0 m H2) ∧ GTurn J g tt te vs (wipe σ vs) C Qe W
section
variable {X : Cx} {pins : List (Addr × Obj)} {σ : L2.St} {H : Hp} {s : Shared} {c P : Addr} {k : Nat} {tg iter elt : Expr} {ifs : List Expr} {scope : Scope} {own : List (Str × Nat)} {gpos : Pos} {wi : TI} {g : TG} {tt : TT} {te : TE} {C : V → Hp → Prop → Prop} {Qe : Hp → Prop}
theorem room_gen {A : Around} {elt tg iter : Expr} {ifs : List Expr} {scope : Scope} {pos : Pos} {it : Addr} {cenv : Env} (hr : Room (k + 1) A) : Room k (A.in1.in1.over (gLoop elt tg iter ifs scope pos it cenv) []) := by
  have e1 : (A.in1.in1.over (gLoop elt tg iter ifs scope pos it cenv) []).depth = A.depth + 1 := by
    first | rfl | simp [Around.over, frameCount, Code.weight, Code.isCreation, Code.isGuard, Code.isCaller, Code.frames, Code.isFrame, guardIds]
  have e2 : (A.in1.in1.over (gLoop elt tg iter ifs scope pos it cenv) []).units = A.units + 5 := by
    first | rfl | (simp [Around.over, unitsOf, Code.cUnits, Code.frames, Code.isFrame]; done)
  exact ⟨hr.hd, by have := hr.dp; rw [e1]; omega, by have := hr.un; rw [e2]; omega⟩
theorem frames_gen {A : Around} {elt tg iter : Expr} {ifs : List Expr} {scope : Scope} {pos : Pos} {it : Addr} {cenv : Env} {l : List Env} (h : A.frames = some l) : (A.in1.in1.over (gLoop elt tg iter ifs scope pos it cenv) []).frames = some (cenv :: l) := by
  have e : (A.in1.in1.over (gLoop elt tg iter ifs scope pos it cenv) []).frames = pushEnvs [cenv] (pushEnvs [] A.frames) := by
    first | rfl | (simp [Around.over, envsOf, Code.envs, Code.isFrame, Code.env?]; done)
  rw [e, h]
  rfl
/-- the generator is made; its taker has the word -/
theorem gen_made {Q' : Value → Shared → Prop} (hr : Room (k + 1) X.A) (TB : GxR.TabB X.base X.mg c P) (hcode : X.env.code = .ref c) (ok : BlkOk X.N X.env.scope scope own) (hcell : ∀ y ∈ scope.names, y.2 ≠ .cell) (hdot : scope.names.lookup (".0" : Str) = some NameKind.local) (hco : scope.isCoroutine = false)
    (hN : X.N.Nodup) (hi : PI X tg iter wi) (hpg : ∀ (s : Shared) (H : Hp) (L : Addr) (cl : List (Str × Addr)) (code : Value) (A' : Around) (fp : List Addr), Room k A' → PG (gcx X s H (genEnv scope cl L code builtinsNs X.env) A' fp) tg g)
    (hpt : ∀ (s : Shared) (H : Hp) (L : Addr) (cl : List (Str × Addr)) (code : Value) (A' : Around) (fp : List Addr), Room k A' → PTs (gcx X s H (genEnv scope cl L code builtinsNs X.env) A' fp) ifs tt)
    (hpe : ∀ (s : Shared) (H : Hp) (L : Addr) (cl : List (Str × Addr)) (code : Value) (A' : Around) (fp : List Addr), Room k A' → PE (gcx X s H (genEnv scope cl L code builtinsNs X.env) A' fp) elt te)
    (hs : ∀ v, genFold iter X.env v = pure v) (I : Inv X pins σ H s) (h : tGx P wi g tt te (own.map (·.2)) σ H C Qe)
    (hQ : ∀ (G : Cx) (a : Addr) (gn : Nat) (go : Obj) (nm qn : Value) (s5 : Shared) (n : Nat), go.cls = .type "generator" → go.data = .fields #[.int gn 0, nm, qn] → go.slots = #[] → s5.heap.IsGen a gn → GSt X G a gn go (wipe σ (own.map (·.2))) C Qe n s5 →
      (∀ σ' H' s', Inv G [(a, go)] σ' H' s' → Inv X pins σ H' s') → Q' (.ref a) s5) :
    wpAny (model X.prog X.w) X.A (eval (.GeneratorExp elt [⟨tg, iter, ifs, 0⟩] scope gpos) X.env) Q' X.xe s := by
  have hfree : ∀ y ∈ scope.names, y.2 = .free → ∃ c, X.env.cells.lookup y.1 = some c := fun y hy e => by
    rcases ok.free y hy e with k | k
    · exact I.ok.has _ (.inl k)
    · exact I.ok.has _ (.inr k)
  refine wpAny_GeneratorExp_make hco (closure_ok hfree) hcell hdot ok.kind hr.depth ?_ hs
  refine thn (hi.run pins s σ H _ I h) fun xv s1 h1 => thn h1 fun itv s2 h2 => ?_
  obtain ⟨it, fp, tn, J, H2, rfl, I2, T, st2, f2, ⟨ps, hP, htr⟩, q⟩ := h2
  refine ⟨I2.nolimit, ?_⟩
  have hPs : s2.heap.get? P = some { cls := .none, data := .fields ps } := I2.hok P _ hP
  have hPlt : P < s2.heap.objs.size := Heap.lt_size hPs
  have cd : PySem.W.CodeHd s2.heap c P := TB.code.keeps I2.bk
  have fplt : ∀ b ∈ fp, b < s2.heap.objs.size := fun b hb => by
    obtain ⟨o, e, _⟩ := T.obj _ _ st2 b hb
    exact Heap.lt_size e
  have cont : ∀ (code : Value) (h3 : Heap) (tk : Nat) (ps' : Array Value), Heap.ExtBut P s2.heap h3 → s2.heap.objs.size ≤ h3.objs.size → h3.get? P = some { cls := .none, data := .fields ps' } → (∃ more, ps' = ps ++ more) → TriplesOk ps'.toList →
      wpAny (model X.prog X.w) X.A (builtinsFor X.env.globals X.env.builtins) (fun bi s₄ => ∀ h', h'.Ns s₄.heap.objs.size (fun y => if y = ".0" then some (.ref it) else none) → Heap.SameBut s₄.heap.objs.size (s₄.heap.push { cls := .type "frame", data := .dict #[] }) h' →
          Q' (.ref h'.objs.size) { s₄ with
            gens := s₄.gens.push (.fresh (.compStart (.GeneratorExp elt [⟨tg, iter, ifs, 0⟩] scope gpos) 0 (.ref it) .none (genEnv scope (cloFrom X.env.cells scope.names []) s₄.heap.objs.size code bi X.env))),
            toks := s₄.toks + 1 + 1 + 1,
            heap := h'.push { cls := .type "generator", data := .fields #[.int s₄.gens.size 0, .str "<genexpr>" (s₄.toks + 1), .str (X.env.qual ++ "<genexpr>") (s₄.toks + 1 + 1)] } }) X.xe { s2 with heap := h3, toks := tk } := by
    intro code h3 tk ps' hx hsz hP3 hmore ht3
    obtain ⟨more, em⟩ := hmore
    obtain ⟨bm, ob, e1, e2, e3, e4, e5, e6, e7, e8⟩ := TB.bm
    have keep3 : ∀ b u, b ≠ P → s2.heap.get? b = some u → h3.get? b = some u := fun b u hb e => hx b u hb e
    refine wpAny_builtinsFor (m := X.mg) (by rw [I2.ok.glob]; exact (I2.mod.glob.keeps I2.bk).extBut hx TB.gP) e1 e2 (keep3 _ _ e4 (I2.bk _ _ e5)) e6 e7 e8 ?_
    intro h' hn' hs'
    have I4 : Inv X pins σ (upd H2 P (.tbl (ps ++ more))) { s2 with heap := h3, toks := tk } := GxR.inv_tab (more := more) (g' := s2.gens) (d' := s2.drawn) (t' := tk) I2 hP keep3 (by rw [← em]; exact hP3) I2.bare
    have tab : GxR.Tabbed P H2 (upd H2 P (.tbl (ps ++ more))) := ⟨⟨ps ++ more, upd_same, by rw [← em]; exact ht3⟩, fun b hb => upd_ne hb⟩
    obtain ⟨W, ⟨m0, w0⟩, turn⟩ := q _ tab
    have nP : ∀ b ∈ fp, b ≠ P := fun b hb z => by
      have z2 := (f2 b hb).1
      rw [z, hP] at z2
      cases z2
    have f4 : ∀ b ∈ fp, FpOk X pins (upd H2 P (.tbl (ps ++ more))) b ∧ b < ({ s2 with heap := h3, toks := tk } : Shared).heap.objs.size := fun b hb => by
      refine ⟨⟨?_, (f2 b hb).2⟩, Nat.lt_of_lt_of_le (fplt b hb) hsz⟩
      rw [upd_ne (nP b hb)]
      exact (f2 b hb).1
    generalize hH4 : upd H2 P (.tbl (ps ++ more)) = H4 at *
    generalize hs4 : ({ s2 with heap := h3, toks := tk } : Shared) = s4 at *
    have hh3 : s4.heap = h3 := by rw [← hs4]
    have sz1 : h'.objs.size = s4.heap.objs.size + 1 := by rw [hs'.1, Heap.size_push]
    have keep' : ∀ b o, s4.heap.get? b = some o → h'.get? b = some o := fun b o e => hs'.extBut b o (Nat.ne_of_lt (Heap.lt_size e)) (Heap.get?_push_of_some _ e)
    generalize hcenv : genEnv scope (cloFrom X.env.cells scope.names []) s4.heap.objs.size code builtinsNs X.env = cenv
    generalize hgo : ({ cls := .type "generator", data := .fields #[.int s4.gens.size 0, .str "<genexpr>" (s4.toks + 1), .str (X.env.qual ++ "<genexpr>") (s4.toks + 1 + 1)] } : Obj) = go
    have hA' := room_gen (elt := elt) (tg := tg) (iter := iter) (ifs := ifs) (scope := scope) (pos := gpos) (it := it) (cenv := cenv) hr
    have hfr := frames_gen (elt := elt) (tg := tg) (iter := iter) (ifs := ifs) (scope := scope) (pos := gpos) (it := it) (cenv := cenv) I4.ok.frames
    generalize hAA : X.A.in1.in1.over (gLoop elt tg iter ifs scope gpos it cenv) [] = A' at hA' hfr
    have pg := hpg s4 H4 s4.heap.objs.size (cloFrom X.env.cells scope.names []) code A' fp hA'
    have pt := hpt s4 H4 s4.heap.objs.size (cloFrom X.env.cells scope.names []) code A' fp hA'
    have pe := hpe s4 H4 s4.heap.objs.size (cloFrom X.env.cells scope.names []) code A' fp hA'
    have keep5 : ∀ b o, s4.heap.get? b = some o → (h'.push go).get? b = some o := fun b o e => Heap.get?_push_of_some _ (keep' b o e)
    have IG := gen_start (code := code) (A' := A') (h' := h'.push go) (G' := s4.gens.push (.fresh (gStart elt tg iter ifs scope gpos it cenv))) (tk := s4.toks + 1 + 1 + 1) (it := .ref it) I4 ok hcell hN f4 hA'.hd (by rw [hcenv]; exact hfr) keep5 (hn'.push _) (I4.bare.push rfl)
    rw [hcenv] at pg pt pe IG
    have cL : cenv.locals = s4.heap.objs.size := by rw [← hcenv]; rfl
    have hgoget : (h'.push go).get? h'.objs.size = some go := Heap.get?_push_size _ (by rw [← hgo]; rfl)
    have nA : H4 h'.objs.size = none := I4.hok.fresh (by rw [sz1]; exact Nat.le_succ _)
    have IG2 : Inv (gcx X s4 H4 cenv A' fp) [(h'.objs.size, go)] (wipe σ (own.map (·.2))) H4 { s4 with heap := h'.push go, gens := s4.gens.push (.fresh (gStart elt tg iter ifs scope gpos it cenv)), toks := s4.toks + 1 + 1 + 1 } := by
      refine IG.pins_of fun p hp => ?_
      have ep : p = (h'.objs.size, go) := by simpa using hp
      subst ep
      refine ⟨hgoget, nA, ?_, ?_, fun v z => ?_⟩
      · show h'.objs.size ≠ cenv.locals
        rw [cL, sz1]
        exact Nat.succ_ne_self _
      · intro z
        obtain ⟨_, o, ho, _⟩ := I4.stack.mem z
        have := Heap.lt_size ho
        have : h'.objs.size < s4.heap.objs.size := this
        omega
      · have z : go.data = .cell v := z
        rw [← hgo] at z
        cases z
    have st4 : tn 0 s4.heap := T.keep _ _ _ st2 fun b hb o e => by rw [hh3]; exact keep3 b o (nP b hb) e
    have hip : ∀ p ∈ [(h'.objs.size, go)], ∀ b ∈ fp, p.1 ≠ b := fun p hp b hb z => by
      have ep : p = (h'.objs.size, go) := by simpa using hp
      subst ep
      have q1 : b < s4.heap.objs.size := (f4 b hb).2
      have z : h'.objs.size = b := z
      have q2 : h'.objs.size = s4.heap.objs.size + 1 := sz1
      rw [z] at q2
      exact Nat.lt_irrefl _ (Nat.lt_trans q1 (by rw [q2]; exact Nat.lt_succ_self _))
    have hcoE : cenv.scope.isCoroutine = false := by rw [← hcenv]; exact hco
    have hGs : GSt X (gcx X s4 H4 cenv A' fp) h'.objs.size s4.gens.size go (wipe σ (own.map (·.2))) C Qe (m0 + 1) { s4 with heap := h'.push go, gens := s4.gens.push (.fresh (gStart elt tg iter ifs scope gpos it cenv)), toks := s4.toks + 1 + 1 + 1 } := by
      refine ⟨⟨.fresh (gStart elt tg iter ifs scope gpos it cenv), Array.getElem?_push_size .., fun s'' z => ⟨rfl, ?_⟩⟩, _, _, IG2⟩
      have st5 : tn 0 s''.heap := T.keep _ _ _ st4 fun b hb o e => z.keep b o (keep5 b o e)
      refine gen_begin (tg := tg) (iter := iter) (ifs := ifs) (scope := scope) (pos := gpos) (H := H4) T st5 ?_
      exact gen_loop hAA pg pt pe T hcoE hip turn m0 0 (m0 + 1) s'' s'' H4 (Nat.lt_succ_self _) w0 (inv_slp IG2 z) st5 fun b hb => (f4 b hb).1.1
    subst hcenv
    refine hQ _ _ _ _ (.str "<genexpr>" (s4.toks + 1)) (.str (X.env.qual ++ "<genexpr>") (s4.toks + 1 + 1)) _ (m0 + 1) (by rw [← hgo]) (by rw [← hgo]) (by rw [← hgo]) ⟨go, _, _, hgoget, by rw [← hgo], by rw [← hgo], by rw [← hgo]⟩ hGs fun σ' H' s' I' => ?_
    exact I4.call' (ch := fp) I'.os I'.base I'.hok I'.bare fun b hb => ⟨(f4 b hb).1.2.2.2.1, (f4 b hb).1.2.1, (f4 b hb).1.2.2.2.2.1, (f4 b hb).1.2.2.2.2.2⟩
  cases hf : codeAmong gpos ps.toList with
  | none =>
    refine wpAny_genexprCodeX hcode (cd.code hPs htr) (cd.tab hPs) hf fun c' h' tk hx hge hlt hco' _ htab' _ => ?_
    obtain ⟨o1, vs, f1, tf, fl, tg, inF, tx, tt, op, _, _, _, _, _, _, _, _, _, htr2, _⟩ := hco'
    exact cont _ h' tk _ hx (Nat.le_trans hge (Nat.le_of_lt hlt)) htab'.2 ⟨_, rfl⟩ htr2
  | some cv =>
    refine wpAny_genexprCode_hit hcode (cd.code hPs htr) hf ?_
    exact cont cv s2.heap s2.toks ps (Heap.ExtBut.refl _ _) (Nat.le_refl _) hPs ⟨#[], by simp⟩ htr
end

/-- any(elt for tg in iter if ..) -/
def tAnyG (P : Addr) (wi : TI) (g : TG) (tt : TT) (te : TE) (vs : List Nat) : TE := fun σ H Q => tGx P wi g tt te vs σ H (fun y H pr => ∃ k, y = .bl k ∧ (if k = true then Q (.bl true) H else pr)) (fun H => Q (.bl false) H)
section
variable {X : Cx} {c P : Addr} {k : Nat} {tg iter elt : Expr} {ifs : List Expr} {scope : Scope} {own : List (Str × Nat)} {gpos pos p : Pos} {wi : TI} {g : TG} {tt : TT} {te : TE}
theorem pe_anyG (hr : Room (k + 1) X.A) (hg : Gl X "any") (hm : X.mg "any" = none) (TB : GxR.TabB X.base X.mg c P) (hcode : X.env.code = .ref c) (hN : X.N.Nodup) (ok : BlkOk X.N X.env.scope scope own) (hcell : ∀ y ∈ scope.names, y.2 ≠ .cell) (hdot : scope.names.lookup (".0" : Str) = some NameKind.local) (hco : scope.isCoroutine = false)
    (hi : PI X tg iter wi) (hpg : ∀ (s : Shared) (H : Hp) (L : Addr) (cl : List (Str × Addr)) (code : Value) (A' : Around) (fp : List Addr), Room k A' → PG (gcx X s H (genEnv scope cl L code builtinsNs X.env) A' fp) tg g)
    (hpt : ∀ (s : Shared) (H : Hp) (L : Addr) (cl : List (Str × Addr)) (code : Value) (A' : Around) (fp : List Addr), Room k A' → PTs (gcx X s H (genEnv scope cl L code builtinsNs X.env) A' fp) ifs tt)
    (hpe : ∀ (s : Shared) (H : Hp) (L : Addr) (cl : List (Str × Addr)) (code : Value) (A' : Around) (fp : List Addr), Room k A' → PE (gcx X s H (genEnv scope cl L code builtinsNs X.env) A' fp) elt te)
    (hs : ∀ v, genFold iter X.env v = pure v := by intro _; rfl)
    (he : starEach [.GeneratorExp elt [⟨tg, iter, ifs, 0⟩] scope gpos] X.env = (false, eval (.GeneratorExp elt [⟨tg, iter, ifs, 0⟩] scope gpos) X.env) :: starEach [] X.env := by rfl) :
    PE X (.Call (.Name "any" p) [.GeneratorExp elt [⟨tg, iter, ifs, 0⟩] scope gpos] [] pos) (tAnyG P wi g tt te (own.map (·.2))) := by
  refine ⟨fun pins s σ H Q I h => ?_⟩
  refine wpAny_Call_Name_kw (ld_blt I hg hm boot_any ?_)
  refine PyProof.Rows.callWith_builtin1 ?_ he (by rfl)
  rw [he]
  show wpAny _ _ (spliced ((false, eval (.GeneratorExp elt [⟨tg, iter, ifs, 0⟩] scope gpos) X.env) :: backTo pos (starEach [] X.env))) _ _ s
  refine Calls.spliced_cons (gen_made hr TB hcode ok hcell hdot hco hN hi hpg hpt hpe hs I h fun G a gn go nm qn s5 n h1 h2 h3 hgen st back => ?_)
  refine Calls.spliced_nil ?_
  refine call_function_tree F.kind_any F.plain_any F.entry_any (F.args_any1 _) ?_
  unfold Builtin.«any»
  refine wpAny_bind (m := oneArg "any" _) (wpAny_pure ?_)
  refine wpAny_bind (wpAny_pyIter_gen hgen ?_)
  refine wpAny_pure ⟨plainId_quiet F.plain_any_loop _, any_loop (GSt := GSt X G a gn go (wipe σ (own.map (·.2))) (fun y H pr => ∃ k, y = .bl k ∧ (if k = true then Q (.bl true) H else pr)) (fun H => Q (.bl false) H)) (fun n s st => ?_) n s5 st⟩
  refine gen_next hr.hd hr.depth h1 h2 h3 st (fun v s₁ y H1 σ1 Pr I1 r1 c1 k1 => ?_) (fun s₁ H1 I1 q1 => ?_)
  · obtain ⟨kb, rfl, c1⟩ := c1
    obtain rfl : v = Value.bool kb := r1
    refine ⟨kb, rfl, ?_⟩
    cases kb with
    | false =>
      simp only [Bool.false_eq_true, if_false] at c1 ⊢
      exact k1 c1
    | true =>
      simp only [if_true] at c1 ⊢
      exact ⟨.bl true, H1, back _ _ _ I1, rfl, c1⟩
  · exact ⟨.bl false, H1, back _ _ _ I1, rfl, q1⟩
end

/-- all(elt for tg in iter if ..) -/
def tAllG (P : Addr) (wi : TI) (g : TG) (tt : TT) (te : TE) (vs : List Nat) : TE := fun σ H Q => tGx P wi g tt te vs σ H (fun y H pr => ∃ k, y = .bl k ∧ (if k = true then pr else Q (.bl false) H)) (fun H => Q (.bl true) H)
section
variable {X : Cx} {c P : Addr} {k : Nat} {tg iter elt : Expr} {ifs : List Expr} {scope : Scope} {own : List (Str × Nat)} {gpos pos p : Pos} {wi : TI} {g : TG} {tt : TT} {te : TE}
theorem pe_allG (hr : Room (k + 1) X.A) (hg : Gl X "all") (hm : X.mg "all" = none) (TB : GxR.TabB X.base X.mg c P) (hcode : X.env.code = .ref c) (hN : X.N.Nodup) (ok : BlkOk X.N X.env.scope scope own) (hcell : ∀ y ∈ scope.names, y.2 ≠ .cell) (hdot : scope.names.lookup (".0" : Str) = some NameKind.local) (hco : scope.isCoroutine = false)
    (hi : PI X tg iter wi) (hpg : ∀ (s : Shared) (H : Hp) (L : Addr) (cl : List (Str × Addr)) (code : Value) (A' : Around) (fp : List Addr), Room k A' → PG (gcx X s H (genEnv scope cl L code builtinsNs X.env) A' fp) tg g)
    (hpt : ∀ (s : Shared) (H : Hp) (L : Addr) (cl : List (Str × Addr)) (code : Value) (A' : Around) (fp : List Addr), Room k A' → PTs (gcx X s H (genEnv scope cl L code builtinsNs X.env) A' fp) ifs tt)
    (hpe : ∀ (s : Shared) (H : Hp) (L : Addr) (cl : List (Str × Addr)) (code : Value) (A' : Around) (fp : List Addr), Room k A' → PE (gcx X s H (genEnv scope cl L code builtinsNs X.env) A' fp) elt te)
    (hs : ∀ v, genFold iter X.env v = pure v := by intro _; rfl)
    (he : starEach [.GeneratorExp elt [⟨tg, iter, ifs, 0⟩] scope gpos] X.env = (false, eval (.GeneratorExp elt [⟨tg, iter, ifs, 0⟩] scope gpos) X.env) :: starEach [] X.env := by rfl) :
    PE X (.Call (.Name "all" p) [.GeneratorExp elt [⟨tg, iter, ifs, 0⟩] scope gpos] [] pos) (tAllG P wi g tt te (own.map (·.2))) := by
  refine ⟨fun pins s σ H Q I h => ?_⟩
  refine wpAny_Call_Name_kw (ld_blt I hg hm boot_all ?_)
  refine PyProof.Rows.callWith_builtin1 ?_ he (by rfl)
  rw [he]
  show wpAny _ _ (spliced ((false, eval (.GeneratorExp elt [⟨tg, iter, ifs, 0⟩] scope gpos) X.env) :: backTo pos (starEach [] X.env))) _ _ s
  refine Calls.spliced_cons (gen_made hr TB hcode ok hcell hdot hco hN hi hpg hpt hpe hs I h fun G a gn go nm qn s5 n h1 h2 h3 hgen st back => ?_)
  refine Calls.spliced_nil ?_
  refine call_function_tree F.kind_all F.plain_all F.entry_all (F.args_all1 _) ?_
  unfold Builtin.«all»
  refine wpAny_bind (m := oneArg "all" _) (wpAny_pure ?_)
  refine wpAny_bind (wpAny_pyIter_gen hgen ?_)
  refine wpAny_pure ⟨plainId_quiet F.plain_all_loop _, all_loop (GSt := GSt X G a gn go (wipe σ (own.map (·.2))) (fun y H pr => ∃ k, y = .bl k ∧ (if k = true then pr else Q (.bl false) H)) (fun H => Q (.bl true) H)) (fun n s st => ?_) n s5 st⟩
  refine gen_next hr.hd hr.depth h1 h2 h3 st (fun v s₁ y H1 σ1 Pr I1 r1 c1 k1 => ?_) (fun s₁ H1 I1 q1 => ?_)
  · obtain ⟨kb, rfl, c1⟩ := c1
    obtain rfl : v = Value.bool kb := r1
    refine ⟨kb, rfl, ?_⟩
    cases kb with
    | false =>
      simp only [Bool.false_eq_true, if_false] at c1 ⊢
      exact ⟨.bl false, H1, back _ _ _ I1, rfl, c1⟩
    | true =>
      simp only [if_true] at c1 ⊢
      exact k1 c1
  · exact ⟨.bl true, H1, back _ _ _ I1, rfl, q1⟩
end
end Fh
set_option Elab.async false
set_option linter.all false
set_option maxRecDepth 100000
set_option maxHeartbeats 4000000
/-! lambdas without parameters that are kept (in a list), and a def that calls the one it is handed -/
namespace Fh
open PySem PySem.Spec PyProof.Rows L2 LamX

/-- at f: a lambda of the name q, its code at c' -/
def LamO (f : Addr) (q : Str) (params : Arguments) (body : Expr) (scope : Scope) (cl : List (Str × Addr)) (c' : Addr) : HO :=
  .ext fun h => ∃ pm ctv, h.get? f = some (PySem.W.kla_obj "<lambda>" q params body scope cl pm c' ctv)
theorem lamO_ok {P : Program} {w : World} {H : Hp} {h : Heap} {f c' : Addr} {q : Str} {params : Arguments} {body : Expr} {scope : Scope} {cl : List (Str × Addr)} {pm ctv : Value} (e : h.get? f = some (PySem.W.kla_obj "<lambda>" q params body scope cl pm c' ctv)) :
    ObjOk P w H h f (LamO f q params body scope cl c') := ⟨⟨pm, ctv, e⟩, ⟨_, e⟩, fun _ _ ⟨a, b, z⟩ k => ⟨a, b, k _ z⟩⟩
theorem lamO_at {P : Program} {w : World} {H : Hp} {h : Heap} {f c' : Addr} {q : Str} {params : Arguments} {body : Expr} {scope : Scope} {cl : List (Str × Addr)} (hok : HOk P w H h) (e : H f = some (LamO f q params body scope cl c')) :
    ∃ pm ctv, h.get? f = some (PySem.W.kla_obj "<lambda>" q params body scope cl pm c' ctv) := by
  have x := hok f _ e
  unfold LamO at x
  exact x.1
theorem codeO_at {P : Program} {w : World} {H : Hp} {h : Heap} {c' : Addr} {q : Str} (hok : HOk P w H h) (e : H c' = some (CodeO c' q)) : ∃ (oc : Obj) (vs : Array Value) (t : Tok), h.get? c' = some oc ∧ oc.data = .fields vs ∧ vs[1]? = some (.str q t) := by
  have x := hok c' _ e
  unfold CodeO at x
  exact x.1
/-- all but the table at P stays -/
def ButT (P : Addr) (H H' : Hp) : Prop := ∀ b o, b ≠ P → H b = some o → H' b = some o
theorem ButT.refl (P : Addr) (H : Hp) : ButT P H H := fun _ _ _ e => e
theorem ButT.trans {P : Addr} {H H1 H2 : Hp} (a : ButT P H H1) (b : ButT P H1 H2) : ButT P H H2 := fun c o n e => b c o n (a c o n e)
section
variable {X : Cx} {pins : List (Addr × Obj)} {σ : L2.St} {H : Hp} {s : Shared}
theorem lam_new {c P : Addr} {params : Arguments} {body : Expr} {scope : Scope} {pos : Pos} {E : Value → Shared → Prop} {Q : Value → Shared → Prop} (I : Inv X pins σ H s) (TB : LamX.TabB X.base X.mg c P) (hcode : X.env.code = .ref c) (hT : TabS H P (X.env.qual ++ "<lambda>"))
    (hdef : defaultsOf params X.env = ([], [])) (hfree : ∀ y ∈ scope.names, y.2 = .free → ∃ c, X.env.cells.lookup y.1 = some c)
    (h : ∀ (f c' : Addr) (H1 : Hp) (s' : Shared), Inv X pins σ (upd H1 f (LamO f (X.env.qual ++ "<lambda>") params body scope (cloFrom X.env.cells scope.names []) c')) s' → H1 f = none → ButT P H H1 → TabS H1 P (X.env.qual ++ "<lambda>") → H1 c' = some (CodeO c' (X.env.qual ++ "<lambda>")) → Q (.ref f) s') :
    wpAny (model X.prog X.w) X.A (eval (.Lambda params body scope pos) X.env) Q E s := by
  generalize hqq : X.env.qual ++ "<lambda>" = q at *
  obtain ⟨ps, hP, htr, hcodes⟩ := id hT
  have hPs : s.heap.get? P = some { cls := .none, data := .fields ps } := I.hok P _ hP
  have bP : s.heap.BuiltinsAt X.mg P := TB.bm.keeps I.bk
  refine PySem.W.kla_eval hdef ?_
  rw [hqq]
  cases hf : codeAmong pos ps.toList with
  | none =>
    refine PySem.W.kla_makeFunction (mg := X.mg) (c := c) (P := P) (ps := ps) (closure_ok hfree) I.ok.glob (I.mod.glob.keeps I.bk) hcode (TB.code.keeps I.bk) hPs htr hf TB.gP bP fun c' ctv h' tk hx hge hlt hrec htb => ?_
    obtain ⟨c2, oc, vs, t, ec, hoc, hd, hv⟩ := hrec
    cases ec
    have nC : H c' = none := I.hok.fresh hge
    have nPc : P ≠ c' := ne_of_none hP nC
    have J := inv_table (t' := tk) (more := #[rawInt pos.line, rawInt pos.col, .ref c']) (h' := h') I hP hx htb hge ⟨oc, vs, t, hoc, hd, hv⟩
    have J2 := J.laid (t' := tk) (a := h'.objs.size) (o := LamO h'.objs.size q params body scope (cloFrom X.env.cells scope.names []) c') (h' := h'.push (PySem.W.kla_obj "<lambda>" q params body scope (cloFrom X.env.cells scope.names []) ((X.mg "__name__").getD .none) c' ctv))
      (fun b o e => Heap.get?_push_of_some _ e) (Nat.le_refl _) (lamO_ok (Heap.get?_push_size _ rfl))
    have but : ButT P H (upd (upd H P (.tbl (ps ++ #[rawInt pos.line, rawInt pos.col, .ref c']))) c' (CodeO c' q)) := fun b o hb e => by rw [upd_ne (ne_of_none e nC), upd_ne hb]; exact e
    have eL : (ps ++ #[rawInt pos.line, rawInt pos.col, Value.ref c']).toList = ps.toList ++ [rawInt pos.line, rawInt pos.col, .ref c'] := by simp
    refine h _ c' _ _ J2 (J.hok.fresh (Nat.le_refl _)) but ⟨_, by rw [upd_ne nPc, upd_same], by rw [eL]; exact PySem.TriplesOk_snoc _ _ _ _ htr, fun p' cv hcv => ?_⟩ upd_same
    rw [eL] at hcv
    rcases among_app _ htr hcv with z | z
    · obtain ⟨c0, e1, e2⟩ := hcodes p' cv z
      refine ⟨c0, e1, ?_⟩
      rw [upd_ne (ne_of_none e2 nC), upd_ne (fun y => by rw [y, hP] at e2; exact codeO_ne ps (Option.some.inj e2).symm)]
      exact e2
    · exact ⟨c', z, upd_same⟩
  | some cv =>
    obtain ⟨c', ec, hco⟩ := hcodes pos cv hf
    subst ec
    refine PySem.W.kla_makeFunctionHit (mg := X.mg) (c := c) (P := P) (ps := ps) (closure_ok hfree) I.ok.glob (I.mod.glob.keeps I.bk) hcode (TB.code.keeps I.bk) hPs htr hf bP fun ctv h' tk hx hsz => ?_
    have J : Inv X pins σ H { s with heap := h', toks := tk } := I.kept hx
    have J2 := J.laid (t' := tk) (a := h'.objs.size) (o := LamO h'.objs.size q params body scope (cloFrom X.env.cells scope.names []) c') (h' := h'.push (PySem.W.kla_obj "<lambda>" q params body scope (cloFrom X.env.cells scope.names []) ((X.mg "__name__").getD .none) c' ctv))
      (fun b o e => Heap.get?_push_of_some _ e) (Nat.le_refl _) (lamO_ok (Heap.get?_push_size _ rfl))
    exact h _ c' H _ J2 (J.hok.fresh (Nat.le_refl _)) (ButT.refl P H) hT hco
end
/-- lambda: body, kept -/
def tLamV (P : Addr) (q : Str) (params : Arguments) (body : Expr) (scope : Scope) (cl : List (Str × Addr)) : TE := fun _ H Q => TabS H P q ∧ ∀ (f c' : Addr) (H1 : Hp), ButT P H H1 → TabS H1 P q → H1 c' = some (CodeO c' q) → H1 f = none → Q (.ref f) (upd H1 f (LamO f q params body scope cl c'))
theorem pe_lam {X : Cx} {c P : Addr} {params : Arguments} {body : Expr} {scope : Scope} {pos : Pos} (TB : LamX.TabB X.base X.mg c P) (hcode : X.env.code = .ref c) (L : LamS X.env.scope scope) (hdef : defaultsOf params X.env = ([], []) := by rfl) :
    PE X (.Lambda params body scope pos) (tLamV P (X.env.qual ++ "<lambda>") params body scope (cloFrom X.env.cells scope.names [])) := by
  refine ⟨fun pins s σ H Q I h => ?_⟩
  obtain ⟨hT, h⟩ := h
  exact lam_new I TB hcode hT hdef (L.has I.ok) fun f c' H1 s' J n b t cc => ⟨.ref f, _, J, rfl, h f c' H1 b t cc n⟩
section
variable {X : Cx} {pins : List (Addr × Obj)} {σ : L2.St} {H : Hp} {s : Shared}
/-- a(), in the def that was handed the lambda at f -/
theorem pe_act2 {CXg : CXT} {Eg : XK} {Ng : List Str} {qg : Str} {sg : Scope} {g f c' : Addr} {cdg : Value} {params : Arguments} {body : Expr} {scope : Scope} {k i : Nat} {a : Str} {pn : List (Addr × Obj)} {xe : Value → Shared → Prop} {W : WX} {E : XK} {tb : TE} {p1 p2 : Pos}
    (I : Inv X pins σ H s) (L : LamS X.env.scope scope) (hbind : ∀ pm cv ctv, bindArgs (PySem.W.kla_fn "<lambda>" (X.env.qual ++ "<lambda>") params body scope (cloFrom X.env.cells scope.names []) pm cv ctv) ⟨[], []⟩ = pure [])
    (tk : Takes ((cxOf CXg X.prog X.w X.K X.mg X.base Ng qg sg g cdg X.A X.stack s H Eg).tr pn xe) W) (hW : ∀ cls d σ' H', E cls d H' → W cls d σ' H') (hr : Room (k + 1) (X.A.deeper (envOfC qg sg s.heap.objs.size g cdg)))
    (hbody : ∀ (A : Around) (outer : List Env) (s : Shared) (H : Hp), Room k (A.deeper (lamEnv X scope s.heap.objs.size f c')) → PE (lamCx X A outer s H E scope f c') body tb)
    (hN : Ng[i]? = some a) (hv : Vis sg a) (hd : (a == ("__debug__" : Str)) = false := by decide) (hcd : (a == ("__classdict__" : Str)) = false := by decide) :
    PE ((cxOf CXg X.prog X.w X.K X.mg X.base Ng qg sg g cdg X.A X.stack s H Eg).tr pn xe) (.Call (.Name a p1) [] [] p2)
      (fun σZ HZ Q => σZ[i]? = some (some (.ref f)) ∧ HZ f = some (LamO f (X.env.qual ++ "<lambda>") params body scope (cloFrom X.env.cells scope.names []) c') ∧ HZ c' = some (CodeO c' (X.env.qual ++ "<lambda>")) ∧ tb σ HZ Q) := by
  refine ⟨fun pinsZ sZ σZ HZ Q IZ h => ?_⟩
  obtain ⟨hs, hlo, hc, ht⟩ := h
  refine wpAny_Call_Name_kw (thn ((pe_var (pos := p1) (i := i) hN hv hd hcd).run pinsZ sZ σZ HZ (fun v H1 => v = .ref f ∧ H1 = HZ) IZ ⟨.ref f, hs, rfl, rfl⟩) fun u s1 ⟨v, H1, I1, r1, q1⟩ => ?_)
  obtain ⟨ev, eH⟩ := q1
  subst ev eH
  obtain rfl : u = Value.ref f := r1
  obtain ⟨pm, ctv, of1⟩ := lamO_at I1.hok hlo
  obtain ⟨oc, vs, t, hoc, hdc, hvc⟩ := codeO_at I1.hok hc
  refine PySem.W.callWith_F0 ⟨_, _, _, _, of1⟩ ?_
  have un : Un (frs X.stack) [] H H1 s.heap s1.heap := I1.base
  have rc : codeAny (model X.prog X.w) (X.A.deeper (envOfC qg sg s.heap.objs.size g cdg)) (.call (.ref f) ⟨[], []⟩) (CR (L2.CX X.prog X.w) (envOfC qg sg s.heap.objs.size g cdg :: X.stack) X.prog X.w H1 s1 Q E) s1 := by
    refine PySem.W.kla_callFunE hr.depth of1 rfl L.co L.gen rfl ⟨c', oc, vs, t, rfl, hoc, hdc, hvc⟩ ?_
    rw [hbind]
    refine wpAny_pure (wpAny_newFunctionEnv (fun y hy => (L.own y hy).2) (fun y hy => absurd hy (by simp)) (fun h₁ hns hsb => ⟨I1.nolimit.fresh _ hsb, ?_⟩) L.kind)
    have kp : ∀ b o, s1.heap.get? b = some o → h₁.get? b = some o := fun b o e => hsb.extBut b o (Nat.ne_of_lt (Heap.lt_size e)) (Heap.get?_push_of_some _ e)
    have J : Inv (lamCx X (X.A.deeper (envOfC qg sg s.heap.objs.size g cdg)) (envOfC qg sg s.heap.objs.size g cdg :: X.stack) s1 H1 E scope f c') [] σ H1 { s1 with heap := h₁, toks := s1.toks + ([] : List (Str × Value)).length } :=
      lam_start2 I L I1.env0 hr.hd un hns kp
    refine PySem.W.kla_codeExpr (wpAny_mono ((hbody _ _ s1 H1 (hr.deeper _)).run [] _ _ H1 Q J ht) (fun v s' hq => ?_) fun e s' hq => hq)
    obtain ⟨w', H', J', rv, q⟩ := hq
    exact ⟨w', H', J'.os, J'.bare, J'.base, J'.hok, rv, q⟩
  refine wpAny_call (codeAny_mono rc fun r s' hq => ?_)
  cases r with
  | error e => exact passes_call tk hW pinsZ σZ H1 s1 e s' I1 hq
  | ok fl =>
    cases fl with
    | ret u => exact I1.after hq
    | next => exact hq.elim
    | brk => exact hq.elim
    | cont => exact hq.elim
/-- the same, what it raises wished for at the slots of that def -/
theorem pe_act3 {CXg : CXT} {Eg : XK} {Ng : List Str} {qg : Str} {sg : Scope} {g f c' : Addr} {cdg : Value} {params : Arguments} {body : Expr} {scope : Scope} {k i : Nat} {a : Str} {pn : List (Addr × Obj)} {xe : Value → Shared → Prop} {W : WX} {tb : XK → TE} {p1 p2 : Pos}
    (I : Inv X pins σ H s) (L : LamS X.env.scope scope) (hbind : ∀ pm cv ctv, bindArgs (PySem.W.kla_fn "<lambda>" (X.env.qual ++ "<lambda>") params body scope (cloFrom X.env.cells scope.names []) pm cv ctv) ⟨[], []⟩ = pure [])
    (tk : Takes ((cxOf CXg X.prog X.w X.K X.mg X.base Ng qg sg g cdg X.A X.stack s H Eg).tr pn xe) W) (hr : Room (k + 1) (X.A.deeper (envOfC qg sg s.heap.objs.size g cdg)))
    (hbody : ∀ (A : Around) (outer : List Env) (s : Shared) (H : Hp) (E : XK), Room k (A.deeper (lamEnv X scope s.heap.objs.size f c')) → PE (lamCx X A outer s H E scope f c') body (tb E))
    (hN : Ng[i]? = some a) (hv : Vis sg a) (hd : (a == ("__debug__" : Str)) = false := by decide) (hcd : (a == ("__classdict__" : Str)) = false := by decide) :
    PE ((cxOf CXg X.prog X.w X.K X.mg X.base Ng qg sg g cdg X.A X.stack s H Eg).tr pn xe) (.Call (.Name a p1) [] [] p2)
      (fun σZ HZ Q => σZ[i]? = some (some (.ref f)) ∧ HZ f = some (LamO f (X.env.qual ++ "<lambda>") params body scope (cloFrom X.env.cells scope.names []) c') ∧ HZ c' = some (CodeO c' (X.env.qual ++ "<lambda>")) ∧ tb (WE W σZ) σ HZ Q) := by
  refine ⟨fun pinsZ sZ σZ HZ Q IZ h => ?_⟩
  obtain ⟨hs, hlo, hc, ht⟩ := h
  refine wpAny_Call_Name_kw (thn ((pe_var (pos := p1) (i := i) hN hv hd hcd).run pinsZ sZ σZ HZ (fun v H1 => v = .ref f ∧ H1 = HZ) IZ ⟨.ref f, hs, rfl, rfl⟩) fun u s1 ⟨v, H1, I1, r1, q1⟩ => ?_)
  obtain ⟨ev, eH⟩ := q1
  subst ev eH
  obtain rfl : u = Value.ref f := r1
  obtain ⟨pm, ctv, of1⟩ := lamO_at I1.hok hlo
  obtain ⟨oc, vs, t, hoc, hdc, hvc⟩ := codeO_at I1.hok hc
  refine PySem.W.callWith_F0 ⟨_, _, _, _, of1⟩ ?_
  have un : Un (frs X.stack) [] H H1 s.heap s1.heap := I1.base
  have rc : codeAny (model X.prog X.w) (X.A.deeper (envOfC qg sg s.heap.objs.size g cdg)) (.call (.ref f) ⟨[], []⟩) (CR (L2.CX X.prog X.w) (envOfC qg sg s.heap.objs.size g cdg :: X.stack) X.prog X.w H1 s1 Q (WE W σZ)) s1 := by
    refine PySem.W.kla_callFunE hr.depth of1 rfl L.co L.gen rfl ⟨c', oc, vs, t, rfl, hoc, hdc, hvc⟩ ?_
    rw [hbind]
    refine wpAny_pure (wpAny_newFunctionEnv (fun y hy => (L.own y hy).2) (fun y hy => absurd hy (by simp)) (fun h₁ hns hsb => ⟨I1.nolimit.fresh _ hsb, ?_⟩) L.kind)
    have kp : ∀ b o, s1.heap.get? b = some o → h₁.get? b = some o := fun b o e => hsb.extBut b o (Nat.ne_of_lt (Heap.lt_size e)) (Heap.get?_push_of_some _ e)
    have J : Inv (lamCx X (X.A.deeper (envOfC qg sg s.heap.objs.size g cdg)) (envOfC qg sg s.heap.objs.size g cdg :: X.stack) s1 H1 (WE W σZ) scope f c') [] σ H1 { s1 with heap := h₁, toks := s1.toks + ([] : List (Str × Value)).length } :=
      lam_start2 I L I1.env0 hr.hd un hns kp
    refine PySem.W.kla_codeExpr (wpAny_mono ((hbody _ _ s1 H1 (WE W σZ) (hr.deeper _)).run [] _ _ H1 Q J ht) (fun v s' hq => ?_) fun e s' hq => hq)
    obtain ⟨w', H', J', rv, q⟩ := hq
    exact ⟨w', H', J'.os, J'.bare, J'.base, J'.hok, rv, q⟩
  refine wpAny_call (codeAny_mono rc fun r s' hq => ?_)
  cases r with
  | error e => exact passAt tk σZ pinsZ H1 s1 e s' I1 hq
  | ok fl =>
    cases fl with
    | ret u => exact I1.after hq
    | next => exact hq.elim
    | brk => exact hq.elim
    | cont => exact hq.elim
end
end Fh
set_option Elab.async false
set_option linter.all false
set_option maxRecDepth 100000
set_option maxHeartbeats 4000000
/-! an own error over ValueError (at some depth) whose __init__ says super().__init__('..') and keeps its one argument as a field -/
namespace Fh
open PySem PySem.Spec PySem.W PySem.Calls PyProof.Rows PySem.HandSPX
/-- the text of such an __init__ -/
def supA (f : Str) (p1 p2 : Pos) : Arguments := { posonlyargs := [], args := [{ arg := "self", annotation := none, pos := p1 }, { arg := f, annotation := none, pos := p2 }], vararg := none, kwonlyargs := [], kw_defaults := [], kwarg := none, defaults := [] }
def supBody (f msg : Str) (q0 q1 q2 q3 q4 q5 r1 r2 r3 r4 : Pos) : List Stmt :=
  [.Expr (.Call (.Attribute (.Call (.Name "super" q0) [] [] q1) "__init__" q2) [.Constant (.str msg) 0 q3] [] q4) q5, .Assign [.Attribute (.Name "self" r1) f r2] (.Name f r3) r4]
def supS (f : Str) : Scope := { kind := .function, names := [(PySem.Str.ofString "self", .local), (f, .local), (PySem.Str.ofString "__class__", .free), (PySem.Str.ofString "super", .globalImplicit)], isGenerator := false, isCoroutine := false, more := [] }
/-- what the written part says of the class at C and its __init__ at fI -/
structure SupTxt (prog : Program) (K : Frag) (mg : Str → Option Value) (x f : Str) (C fI : Addr) : Prop where
  gC : mg x = some (.ref C)
  cls : ∃ nm q N bs bm sn sub ab col dd k0 k1 k2 k3 k5, K.lookup C = some (excClassObj nm q C N bs bm true sn sub ab col dd k0 k1 k2 k3 k5 "ValueError.__new__") ∧ refsVE bm = true ∧ alongIn K "__init__" bm = some (some (.builtin "ValueError.__init__"))
  sa : findIn K (.ref C) "__setattr__" = some (some (.builtin "object.__setattr__"))
  noN : findIn K (.ref C) f = some none
  iC : findIn K (.ref C) "__init__" = some (some (.ref fI))
  tI : typeIn K (.ref fI) = some (.type "function")
  kC : keepIn K (.ref C) = true
  exC : subIn K (.ref C) (.type "BaseException") = some true
  tyC : typeIn K (.ref C) = some (.type "type")
  veC : subIn K (.ref C) (.type "ValueError") = some true
  mC : mroIn K C (.ref C) = some true
  op : nsIn K cStatics "thirdparty.any" = some none
  gS : mg "super" = none
  fn : ∃ (oc : Value) (od : Option Addr) (dV kV doc pm : Value) (an : Option Addr) (cda cc : Addr) (ct : Value) (osl : Array (Option Value)) (qual msg : Str) (p1 p2 q0 q1 q2 q3 q4 q5 r1 r2 r3 r4 : Pos) (ccl cl : Value) (cdd cld : Option Addr) (vs : Array Value) (ccs csl : Array (Option Value)) (file : Str) (tf : Tok),
    K.lookup fI = some ⟨oc, od, .func (ksFn "__init__" qual (supA f p1 p2) (supBody f msg q0 q1 q2 q3 q4 q5 r1 r2 r3 r4) (supS f) dV kV doc pm an (.ref cda) ct cc), osl⟩ ∧ codeIn K (.ref cda) qual = true ∧
    K.lookup cda = some ⟨ccl, cdd, .fields vs, ccs⟩ ∧ vs[2]? = some (.str file tf) ∧ ((prog.main.file : Str) == file) = true ∧ K.lookup cc = some ⟨cl, cld, .cell (some (.ref C)), csl⟩ ∧
    (∀ a b : Value, bindArgs (ksFn "__init__" qual (supA f p1 p2) (supBody f msg q0 q1 q2 q3 q4 q5 r1 r2 r3 r4) (supS f) dV kV doc pm an (.ref cda) ct cc) ⟨[a, b], []⟩ = pure [(("self" : Str), a), (f, b)]) ∧
    (∃ pl : Env → Sem Bool, ∀ env : Env, eval (.Call (.Attribute (.Call (.Name "super" q0) [] [] q1) "__init__" q2) [.Constant (.str msg) 0 q3] [] q4) env = (do
      let ov ← attributeBase (.Call (.Name "super" q0) [] [] q1) "__init__" env (eval (.Call (.Name "super" q0) [] [] q1) env)
      standAt q2.atName
      let (f, first) ← holding [ov] (getMethod ov "__init__" (pl env))
      callWith q4 f first (backTo q4 (starEach [.Constant (.str msg) 0 q3] env)) [])) ∧
    (∀ env : Env, swapsWith (.Call (.Attribute (.Call (.Name "super" q0) [] [] q1) "__init__" q2) [.Constant (.str msg) 0 q3] [] q4) none q5.line env = pure false) ∧
    (∀ env : Env, swapsWith (.Name f r3) (some (.Attribute (.Name "self" r1) f r2)) r4.line env = pure false)
  top : (prog.main.scope.names.lookup ("super" : Str)).isSome = false
  nf : f ≠ "self" ∧ f ≠ "__class__" ∧ f ≠ "super" ∧ (f == ("__debug__" : Str)) = false
/-- what __init__ leaves of a fresh error at x -/
structure SupEnd (h h' : Heap) (x C dx : Addr) (f : Str) (v : Value) : Prop where
  keep : ∀ b o, b ≠ x → h.get? b = some o → h'.get? b = some o
  obj : ∃ t1 : Addr, h'.get? x = some { cls := .ref C, dict := some dx, data := .fields #[.ref t1, .none, .none, .none, .bool false, .none] }
  dbig : h.objs.size ≤ dx
  dne : dx ≠ x
  ns : h'.Ns1 dx (fun y => if y = f then some v else none)
section
variable {prog : Program} {w : World} {A : Around} {E : Value → Shared → Prop} {R : Result → Shared → Prop} {s : Shared} {K : Frag} {mg mb : Str → Option Value} {C fI : Addr} {x f : Str}
/-- the built-in __init__ bound to the object, called -/
theorem call_mw {u e t0 : Addr} {rest : List Value} {Q : Value → Shared → Prop} {nm q : Str} {N : Addr} {bs bm : List Value} {hdct : Bool} {sn : List Str} {sub : List Value} {ab : Bool} {col : Option Bool} {dd : Option Addr} {k0 k1 k2 k3 k5 : Option Value}
    (hC : s.heap.get? C = some (excClassObj nm q C N bs bm hdct sn sub ab col dd k0 k1 k2 k3 k5 "ValueError.__new__")) (he : s.heap.get? e = some (excO C t0)) (hu : s.heap.get? u = some (kxs_mw "ValueError.__init__" e)) (hz : rest.length ≤ sizeLine)
    (hq : ∀ h' t1, (∀ b o, b ≠ e → s.heap.get? b = some o → h'.get? b = some o) → h'.get? e = some (excO C t1) → Q .none { s with heap := h' }) :
    wpAny (model prog w) A (call (.ref u) rest) Q E s := by
  obtain ⟨hh, g, d, tk, os⟩ := s
  refine wpAny_call (codeAny_of_tree ?_)
  show wpAny _ A.in1 (callAny (.ref u) ⟨rest, []⟩) _ _ _
  simp only [callAny]
  refine wpAny_bind (wpAny_load hu ?_)
  refine KFB.if_so (by rfl) ?_
  refine wpAny_bind (check_bound_init F.excBase_ValueError.toExcCallFacts hC he rfl ?_)
  refine wpAny_bind (wpAny_pure (wpAny_pure ?_))
  refine ⟨plainId_quiet F.excBase_ValueError.init.plain _, codeAny_builtin F.excBase_ValueError.initEntry ?_⟩
  exact exc_init_tree (cls := .ref C) (t0 := t0) (dv := none) (c2 := .none) (c3 := .none) (b4 := .bool false) he hz fun h' k e' _ => hq h' _ k e'
theorem sup_init (T : SupTxt prog K mg x f C fI) {e t0 : Addr} {v : Value} (X : K.In s.heap) (hg : s.heap.Ns mainGlobals mg) (hb : s.heap.Ns builtinsNs mb) (hbs : mb "super" = some (.type "super")) (hlim : s.heap.NoLimit) (hx : s.heap.get? e = some (excO C t0)) (hnx : K.lookup e = none) (hroom : A.depth < recursionLimit)
    (hq : ∀ h' tk dx, SupEnd s.heap h' e C dx f v → R (.ok (.ret .none)) { s with heap := h', toks := tk }) :
    codeAny (model prog w) A (.call (.ref fI) ⟨[.ref e, v], []⟩) R s := by
  obtain ⟨oc, od, dV, kV, doc, pm, an, cda, cc, ct, osl, qual, msg, p1, p2, q0, q1, q2, q3, q4, q5, r1, r2, r3, r4, ccl, cl, cdd, cld, vs, ccs, csl, file, tf, ho, hcd, hcode, hvs, hfile, hcell, hbind, ⟨pl, hev⟩, hsw1, hsw2⟩ := T.fn
  obtain ⟨nm, q, N, bs, bm, sn, sub, ab, col, dd, k0, k1, k2, k3, k5, hC, hbm, hal⟩ := T.cls
  obtain ⟨nf1, nf2, nf3, nf4⟩ := T.nf
  have hcl : clsIn K C = some { name := nm, bases := bs, mro := .ref C :: bm, ns := N, qualname := q, hasDict := true, slotNames := sn, subclasses := sub, abstract := ab, collection := col, hasDel := false } := by unfold clsIn; rw [hC] <;> rfl
  have lkf : (supS f).names.lookup f = some .local := by
    have e1 : (f == (PySem.Str.ofString "self")) = false := by simpa using nf1
    simp [supS, List.lookup, e1]
  have lkc : (supS f).names.lookup ("__class__" : Str) = some .free := by
    have e1 : (("__class__" : Str) == (PySem.Str.ofString "self")) = false := by decide
    have e2 : (("__class__" : Str) == f) = false := by simpa using Ne.symm nf2
    have e3 : (("__class__" : Str) == (PySem.Str.ofString "__class__")) = true := by decide
    simp [supS, List.lookup, e1, e2, e3]
  have lks : (supS f).names.lookup ("super" : Str) = some .globalImplicit := by
    have e1 : (("super" : Str) == (PySem.Str.ofString "self")) = false := by decide
    have e2 : (("super" : Str) == f) = false := by simpa using Ne.symm nf3
    have e3 : (("super" : Str) == (PySem.Str.ofString "__class__")) = false := by decide
    have e4 : (("super" : Str) == (PySem.Str.ofString "super")) = true := by decide
    simp [supS, List.lookup, e1, e2, e3, e4]
  have lkself : (supS f).names.lookup ("self" : Str) = some .local := by
    have e1 : (("self" : Str) == (PySem.Str.ofString "self")) = true := by decide
    simp [supS, List.lookup, e1]
  have bself : ([(("self" : Str), Value.ref e), (f, v)].reverse.lookup ("self" : Str)) = some (.ref e) := by
    have e2 : (("self" : Str) == f) = false := by simpa using Ne.symm nf1
    simp [List.lookup, e2]
  have bf : ([(("self" : Str), Value.ref e), (f, v)].reverse.lookup f) = some v := by
    simp [List.lookup]
  have hsz : e < s.heap.objs.size := Heap.lt_size hx
  refine ks_codeAny_call_defAt (fd := ksFn "__init__" qual (supA f p1 p2) (supBody f msg q0 q1 q2 q3 q4 q5 r1 r2 r3 r4) (supS f) dV kV doc pm an (.ref cda) ct cc) (body := supBody f msg q0 q1 q2 q3 q4 q5 r1 r2 r3 r4) (binds := [("self", .ref e), (f, v)]) hroom (X _ _ ho) rfl hlim (codeRec_of X hcd) rfl ?_ ?_ ?_ (fun h₀ hns kp => ?_)
  · exact BindsTo.of_eq (hbind _ _)
  · intro y hy
    rcases List.mem_cons.mp hy with rfl | hy
    · decide
    rcases List.mem_cons.mp hy with rfl | hy
    · show NameKind.local ≠ .cell
      decide
    rcases List.mem_cons.mp hy with rfl | hy
    · decide
    rcases List.mem_cons.mp hy with rfl | hy
    · decide
    · cases hy
  · intro y hy
    rcases List.mem_cons.mp hy with rfl | hy
    · exact lkself
    rcases List.mem_cons.mp hy with rfl | hy
    · exact lkf
    · cases hy
  · generalize hL : s.heap.objs.size = L at *
    show _root_.PySem.wpAt _ (A.deeper (ksEnv qual (supS f) L fI (.ref cda) cc)) (.func (supBody f msg q0 q1 q2 q3 q4 q5 r1 r2 r3 r4) (ksEnv qual (supS f) L fI (.ref cda) cc)) (execs (supBody f msg q0 q1 q2 q3 q4 q5 r1 r2 r3 r4) (ksEnv qual (supS f) L fI (.ref cda) cc)) _ _ _
    have X₀ : K.In h₀ := X.keeps kp
    have hx₀ := kp _ _ hx
    have I₀ : InstAt h₀ e (excO C t0) C none := ⟨hx₀, rfl, rfl, trivial⟩
    have hCo := X₀ _ _ hC
    refine ks_wpAt_execs_cons (ks_wpAt_Expr_any (ks_wpAt_MethodCall (ks_wpAt_super_base (env := ksEnv qual (supS f) L fI (.ref cda) cc) (ar := { arg := "self", annotation := none, pos := p1 }) lks lkc (by decide) rfl (X₀ _ _ ho) rfl rfl rfl (X₀ _ _ hcode) rfl hvs hfile T.top ?_) (hev _)) rfl (hsw1 _))
    refine ks_loadName_global rfl lks (loadGlobal_builtin (env := ksEnv qual (supS f) L fI (.ref cda) cc) (hg.keeps kp) T.gS (hb.keeps kp) hbs ⟨rfl, ?_⟩)
    refine wpAny_loadName_free rfl lkc rfl ⟨_, X₀ _ _ hcell, rfl⟩ ?_
    refine wpAny_loadName_local rfl lkself hns bself ?_
    refine ks_wpAny_isType_cls hCo rfl ⟨rfl, ?_⟩
    refine ks_wpAny_call_super hCo rfl hx₀ rfl (fun c z => by cases z) (looks_mroIn X₀ T.mC) (fun h₁ hso k₁ => ?_)
    have X₁ : K.In h₁ := X₀.keeps k₁
    have hx₁ := k₁ _ _ hx₀
    have I₁ : InstAt h₁ e (excO C t0) C none := ⟨hx₁, rfl, rfl, trivial⟩
    refine kxs_getMethod kxs_ValueError hso (looks_opaque X₁ T.op) (l₀ := .ref C :: bm) (l := bm) (fun A Q E s k q => wpAny_bind ((looks_clsIn X₁ hcl) A _ E s k (wpAny_pure q))) (by simp [List.dropWhile_cons]) X₁ hal (I₁.type.andThen (looks_subIn X₁ T.veC)) (ks_ne X₁ I₁ hcl) (by decide) ?_
    have hmw : (h₁.push (kxs_mw "ValueError.__init__" e)).get? h₁.objs.size = some (kxs_mw "ValueError.__init__" e) := Heap.get?_push_size _ rfl
    refine kxs_callWith (i := "ValueError.__init__") (x := e) rfl (evalArgs_plain (spliced_cons (Constant_str (pos := q3) (k := 0) (spliced_nil ⟨hmw, ?_⟩))))
    have k₂ : ∀ b o, h₁.get? b = some o → (h₁.push (kxs_mw "ValueError.__init__" e)).get? b = some o := fun b o z => Heap.get?_push_of_some _ z
    refine call_mw (C := C) (e := e) (t0 := t0) (k₂ _ _ (k₁ _ _ hCo)) (k₂ _ _ hx₁) hmw (by show 1 ≤ sizeLine; decide) fun h₃ t1 k₃ hx₃ => ?_
    have up : ∀ b o, b ≠ e → s.heap.get? b = some o → h₃.get? b = some o := fun b o hb z => k₃ b o hb (k₂ _ _ (k₁ _ _ (kp b o z)))
    have hLe : L ≠ e := fun z => Nat.lt_irrefl _ (show (e : Nat) < e from Nat.lt_of_lt_of_eq hsz z)
    have upn : ∀ b o, b ≠ e → h₀.get? b = some o → h₃.get? b = some o := fun b o hb z => k₃ b o hb (k₂ _ _ (k₁ _ _ z))
    have hns₃ : h₃.Ns L (fun y => [(("self" : Str), Value.ref e), (f, v)].reverse.lookup y) := hns.at' fun o z => upn _ o hLe z
    have X₃ : K.In h₃ := fun b o z => upn b o (fun y => by rw [y, hnx] at z; cases z) (X₀ b o z)
    refine ks_wpAt_execs_cons (ks_wpAt_Assign_Attr (wpAt_of_wpAny ?_) (hsw2 _))
    refine wpAny_Name (wpAny_loadName_local rfl lkf hns₃ bf ?_) nf4
    refine wpAny_Name (wpAny_loadName_local rfl lkself hns₃ bself ?_)
    refine set_plain X₃ (ox := excO C t1) (od := none) ⟨hx₃, rfl, rfl, trivial⟩ T.sa ?_
    refine exc_osa X₃ hx₃ hcl (show refsVE (.ref C :: bm) = true from hbm) rfl T.noN (fun h₄ tk₄ dx k₄ dn dne hx₄ hn₄ => ?_)
    have sz3 : L ≤ h₃.objs.size := Nat.le_of_lt hns₃.lt
    refine wpAt_of_wpAny (wpAny_execs_nil (hq h₄ tk₄ dx ⟨fun b o hb z => k₄ b o hb (up b o hb z), ⟨t1, hx₄⟩, ?_, dne, hn₄⟩))
    rw [hL]
    exact Nat.le_trans sz3 dn
end
end Fh
set_option Elab.async false
set_option linter.all false
set_option maxRecDepth 100000
set_option maxHeartbeats 4000000
/-! words for the bodies: what is never reached, loops turned out, calls of defs that may raise, what a call leaves as it was -/
namespace Fh
open PySem PySem.Spec PyProof.Rows L2
/-! ### never reached -/
def tNo : TE := fun _ _ _ => False
def tNoT : TT := fun _ _ _ => False
def tNoA : TA := fun _ _ _ => False
def iNo : TI := fun _ _ _ => False
def sNo : TS := fun _ _ _ => False
section
variable {X : Cx} {e tg : Expr} {es : List Expr} {ss : List Stmt} {st : Stmt}
theorem pe_no : PE X e tNo := ⟨fun _ _ _ _ _ _ h => h.elim⟩
theorem pt_no : PT X e tNoT := ⟨fun _ _ _ _ _ _ h => h.elim⟩
theorem pw_no : PW X e tNoT := ⟨fun _ _ _ _ _ _ _ h => h.elim⟩
theorem pa_no : PA X es tNoA := ⟨fun _ _ _ _ _ _ _ h => h.elim⟩
theorem pi_no : PI X tg e iNo := ⟨fun _ _ _ _ _ _ h => h.elim⟩
theorem ps_no : PS X st sNo := ⟨fun _ _ _ _ _ _ h => h.elim⟩
theorem pss_no : PSs X ss sNo := ⟨fun _ _ _ _ _ _ h => h.elim⟩
end
/-! ### loops turned out -/
section
variable (J : It) (g : TG) (tb : TS) (D : Ends)
/-- just m more turns, the next one is turn i -/
def UnF : Nat → Nat → L2.St → Hp → Prop
  | 0, i, σ, H => J.stop i H ∧ D.nx σ H
  | m + 1, i, σ, H => J.go i H ∧ ∀ x H', J.yld i H x H' → g x σ H' fun σ2 H2 => tb { D with nx := UnF m (i + 1), ct := UnF m (i + 1), bk := D.nx } σ2 H2
theorem unF (m : Nat) {σ : L2.St} {H : Hp} (h : UnF J g tb D m 0 σ H) : ∃ W : Nat → Nat → L2.St → Hp → Prop, (∃ m, W 0 m σ H) ∧ ∀ i m σ H, W i m σ H →
    (J.stop i H ∧ D.nx σ H) ∨ (J.go i H ∧ ∃ N : L2.St → Hp → Prop, (∀ σ' H', N σ' H' → ∃ m', m' < m ∧ W (i + 1) m' σ' H') ∧ ∀ x H', J.yld i H x H' → g x σ H' fun σ2 H2 => tb { D with nx := N, ct := N, bk := D.nx } σ2 H2) := by
  refine ⟨fun i m => UnF J g tb D m i, ⟨m, h⟩, fun i m σ H w => ?_⟩
  cases m with
  | zero => exact .inl w
  | succ m => exact .inr ⟨w.1, UnF J g tb D m (i + 1), fun σ' H' n => ⟨m, Nat.lt_succ_self m, n⟩, w.2⟩
end
section
variable (c : TT) (tb : TS) (D : Ends)
/-- at most m more turns -/
def UnW (m : Nat) (σ : L2.St) (H : Hp) : Prop := c σ H fun b H1 => if b = true then ∃ N : L2.St → Hp → Prop, (∀ σ' H', N σ' H' → ∃ m', ∃ _ : m' < m, UnW m' σ' H') ∧ tb { D with nx := N, ct := N, bk := D.nx } σ H1 else D.nx σ H1
termination_by m
theorem UnW_eq {m : Nat} {σ : L2.St} {H : Hp} : UnW c tb D m σ H = c σ H fun b H1 => if b = true then ∃ N : L2.St → Hp → Prop, (∀ σ' H', N σ' H' → ∃ m', m' < m ∧ UnW c tb D m' σ' H') ∧ tb { D with nx := N, ct := N, bk := D.nx } σ H1 else D.nx σ H1 := by
  rw [UnW]
  simp only [exists_prop]
theorem unW (m : Nat) {σ : L2.St} {H : Hp} (h : UnW c tb D m σ H) : tWhile c tb D σ H := ⟨UnW c tb D, ⟨m, h⟩, fun m σ H w => (UnW_eq c tb D (m := m) (σ := σ) (H := H)).mp w⟩
variable {c tb D}
theorem unW_of {m : Nat} {σ : L2.St} {H : Hp} (h : c σ H fun b H1 => if b = true then ∃ N : L2.St → Hp → Prop, (∀ σ' H', N σ' H' → ∃ m', m' < m ∧ UnW c tb D m' σ' H') ∧ tb { D with nx := N, ct := N, bk := D.nx } σ H1 else D.nx σ H1) : UnW c tb D m σ H := by
  rw [UnW_eq]
  exact h
/-- one more turn, then again -/
theorem unW_turn {m : Nat} {σ : L2.St} {H : Hp} (h : tb { D with nx := UnW c tb D m, ct := UnW c tb D m, bk := D.nx } σ H) :
    ∃ N : L2.St → Hp → Prop, (∀ σ' H', N σ' H' → ∃ m', m' < m + 1 ∧ UnW c tb D m' σ' H') ∧ tb { D with nx := N, ct := N, bk := D.nx } σ H := ⟨UnW c tb D m, fun _ _ z => ⟨m, Nat.lt_succ_self m, z⟩, h⟩
/-- the last turn: it does not come back -/
theorem unW_last {m : Nat} {σ : L2.St} {H : Hp} (h : tb { D with nx := fun _ _ => False, ct := fun _ _ => False, bk := D.nx } σ H) :
    ∃ N : L2.St → Hp → Prop, (∀ σ' H', N σ' H' → ∃ m', m' < m ∧ UnW c tb D m' σ' H') ∧ tb { D with nx := N, ct := N, bk := D.nx } σ H := ⟨fun _ _ => False, fun _ _ z => z.elim, h⟩
end
section
variable (J : It) (g : TG) (tt : TT) (te : TE) (vs : List Nat) (σ : L2.St) (D : Addr) (Qd : Hp → Prop)
/-- a comprehension, just m more turns -/
def UnL : Nat → Nat → Hp → Prop
  | 0, i, H => J.stop i H ∧ Qd H
  | m + 1, i, H => J.go i H ∧ ∀ x H', J.yld i H x H' → g x (wipe σ vs) H' fun σ2 H2 => wipe σ2 vs = wipe σ vs ∧ tt σ2 H2 fun b H3 =>
    if b = true then te σ2 H3 fun y H4 => ∃ acc, H4 D = some (.lst acc) ∧ acc.length < sizeLine ∧ UnL m (i + 1) (upd H4 D (.lst (acc ++ [y]))) else UnL m (i + 1) H3
theorem unL (m : Nat) {H1 : Hp} (h : UnL J g tt te vs σ D Qd m 0 (upd H1 D (.lst []))) : ∃ W : Nat → Nat → Hp → Prop, (∃ m, W 0 m (upd H1 D (.lst []))) ∧ ∀ i m H, W i m H →
    (J.stop i H ∧ Qd H) ∨ (J.go i H ∧ ∃ Nx : Hp → Prop, (∀ H', Nx H' → ∃ m', m' < m ∧ W (i + 1) m' H') ∧ ∀ x H', J.yld i H x H' → g x (wipe σ vs) H' fun σ2 H2 => wipe σ2 vs = wipe σ vs ∧ tt σ2 H2 fun b H3 =>
      if b = true then te σ2 H3 fun y H4 => ∃ acc, H4 D = some (.lst acc) ∧ acc.length < sizeLine ∧ Nx (upd H4 D (.lst (acc ++ [y]))) else Nx H3) := by
  refine ⟨fun i m => UnL J g tt te vs σ D Qd m i, ⟨m, h⟩, fun i m H w => ?_⟩
  cases m with
  | zero => exact .inl w
  | succ m => exact .inr ⟨w.1, UnL J g tt te vs σ D Qd m (i + 1), fun H' n => ⟨m, Nat.lt_succ_self m, n⟩, w.2⟩
end
section
variable (J : It) (g : TG) (tt : TT) (te : TE) (vs : List Nat) (σg : L2.St) (C : V → Hp → Prop → Prop) (Qe : Hp → Prop)
/-- a generator expression, just m more turns (fewer if it is left) -/
def UnG : Nat → Nat → Hp → Prop
  | 0, i, H => J.stop i H ∧ Qe H
  | m + 1, i, H => J.go i H ∧ ∀ x H', J.yld i H x H' → g x σg H' fun σ2 H2 => wipe σ2 vs = σg ∧ tt σ2 H2 fun b H3 => if b = true then te σ2 H3 fun y H4 => C y H4 (UnG m (i + 1) H4) else UnG m (i + 1) H3
theorem unG (m : Nat) {H : Hp} (h : UnG J g tt te vs σg C Qe m 0 H) : ∃ W : Nat → Nat → Hp → Prop, (∃ m, W 0 m H) ∧ GTurn J g tt te vs σg C Qe W := by
  refine ⟨fun i m => UnG J g tt te vs σg C Qe m i, ⟨m, h⟩, fun i m H w => ?_⟩
  cases m with
  | zero => exact .inl w
  | succ m => exact .inr ⟨w.1, UnG J g tt te vs σg C Qe m (i + 1), fun H' n => ⟨m, Nat.lt_succ_self m, n⟩, w.2⟩
end
/-! ### what a call leaves as it was: all but the tables of code objects, and the table at P0 too -/
structure Kp (P0 : Addr) (H H' : Hp) : Prop where
  obj : ∀ b o, H b = some o → (∀ ps, o ≠ .tbl ps) → H' b = some o
  tab : ∀ b ps, H b = some (.tbl ps) → ∃ ps', H' b = some (.tbl ps') ∧ (TriplesOk ps.toList → TriplesOk ps'.toList)
  own : ∀ o, H P0 = some o → H' P0 = some o
section
variable {P0 : Addr} {H H1 H2 : Hp}
theorem Kp.refl (P0 : Addr) (H : Hp) : Kp P0 H H := ⟨fun _ _ e _ => e, fun _ ps e => ⟨ps, e, id⟩, fun _ e => e⟩
theorem Kp.trans (a : Kp P0 H H1) (b : Kp P0 H1 H2) : Kp P0 H H2 := ⟨fun c o e n => b.obj c o (a.obj c o e n) n, fun c ps e => by
  obtain ⟨p1, e1, t1⟩ := a.tab c ps e
  obtain ⟨p2, e2, t2⟩ := b.tab c p1 e1
  exact ⟨p2, e2, fun t => t2 (t1 t)⟩, fun o e => b.own o (a.own o e)⟩
theorem Kp.free (a : Kp P0 H H1) {p : Addr} (h : H1 p = none) : H p = none := by
  cases e : H p with
  | none => rfl
  | some o =>
    by_cases q : ∃ ps, o = .tbl ps
    · obtain ⟨ps, rfl⟩ := q
      obtain ⟨p1, e1, _⟩ := a.tab p ps e
      rw [h] at e1
      cases e1
    · have e1 := a.obj p o e fun ps z => q ⟨ps, z⟩
      rw [h] at e1
      cases e1
/-- a new object laid, or one laid before stored to -/
theorem Kp.set (a : Kp P0 H H1) {p : Addr} (h : H p = none) (o : HO) : Kp P0 H (upd H1 p o) :=
  ⟨fun b u e n => by rw [upd_ne (ne_of_none e h)]; exact a.obj b u e n, fun b ps e => by rw [upd_ne (ne_of_none e h)]; exact a.tab b ps e, fun u e => by rw [upd_ne (ne_of_none e h)]; exact a.own u e⟩
/-- what H had is as it was in H1 -/
theorem Kp.chg (a : Kp P0 H H1) (f : ∀ b, H b ≠ none → H2 b = H1 b) : Kp P0 H H2 :=
  ⟨fun b u e n => by rw [f b (by rw [e]; exact fun z => by cases z)]; exact a.obj b u e n, fun b ps e => by rw [f b (by rw [e]; exact fun z => by cases z)]; exact a.tab b ps e, fun u e => by rw [f P0 (by rw [e]; exact fun z => by cases z)]; exact a.own u e⟩
theorem Kp.new (a : Kp P0 H H1) {p : Addr} (h : H1 p = none) (o : HO) : Kp P0 H (upd H1 p o) := a.set (a.free h) o
theorem Kp.tabG (a : Kp P0 H H1) {P : Addr} (t : GxR.TabG H P) : GxR.TabG H1 P := by
  obtain ⟨ps, e, k⟩ := t
  obtain ⟨p1, e1, k1⟩ := a.tab P ps e
  exact ⟨p1, e1, k1 k⟩
/-- a generator expression made -/
theorem Kp.tabbed (a : Kp P0 H H1) {P : Addr} (t : GxR.TabG H1 P) (b : GxR.Tabbed P H1 H2) (n : P0 ≠ P) : Kp P0 H H2 := by
  obtain ⟨ps, e, k⟩ := t
  obtain ⟨⟨p2, e2, k2⟩, r⟩ := b
  refine a.trans ⟨fun c o z q => ?_, fun c qs z => ?_, fun o z => by rw [r P0 n]; exact z⟩
  · by_cases h : c = P
    · subst h
      rw [e] at z
      exact absurd (Option.some.inj z).symm (q ps)
    · rw [r c h]
      exact z
  · by_cases h : c = P
    · subst h
      exact ⟨p2, e2, fun _ => k2⟩
    · rw [r c h]
      exact ⟨qs, z, id⟩
/-- the same while the object at d is locked -/
theorem Kp.locked {P d : Addr} {u f : HO} (hd : H d = some u) (hu : ∀ ps, u ≠ .tbl ps) (t : GxR.TabG H P) (b : GxR.Tabbed P (upd H d f) H2) (n : P0 ≠ P) : Kp P0 H (upd H2 d u) ∧ H2 d = some f ∧ ∀ c o, c ≠ d → (∀ ps, o ≠ .tbl ps) → H c = some o → H2 c = some o := by
  obtain ⟨ps, e, k⟩ := t
  obtain ⟨⟨p2, e2, k2⟩, r⟩ := b
  have nd : d ≠ P := fun z => by
    rw [z, e] at hd
    exact hu ps (Option.some.inj hd).symm
  have hd2 : H2 d = some f := by
    rw [r d nd]
    exact upd_same
  refine ⟨⟨fun c o z q => ?_, fun c qs z => ?_, fun o z => ?_⟩, hd2, fun c o nc q z => ?_⟩
  · by_cases h : c = d
    · subst h
      rw [upd_same, ← hd, z]
    · rw [upd_ne h]
      have hP : c ≠ P := fun y => by
        rw [y, e] at z
        exact q ps (Option.some.inj z).symm
      rw [r c hP, upd_ne h]
      exact z
  · have h : c ≠ d := fun y => by
      rw [y, hd] at z
      exact hu qs (Option.some.inj z)
    rw [upd_ne h]
    by_cases hP : c = P
    · subst hP
      exact ⟨p2, e2, fun _ => k2⟩
    · rw [r c hP, upd_ne h]
      exact ⟨qs, z, id⟩
  · by_cases h : P0 = d
    · subst h
      rw [upd_same, ← hd, z]
    · rw [upd_ne h, r P0 n, upd_ne h]
      exact z
  · have hP : c ≠ P := fun y => by
      rw [y, e] at z
      exact q ps (Option.some.inj z).symm
    rw [r c hP, upd_ne nc]
    exact z
theorem tabG_upd {P d : Addr} {u f : HO} (hd : H d = some u) (hu : ∀ ps, u ≠ .tbl ps) (t : GxR.TabG H P) : GxR.TabG (upd H d f) P := by
  obtain ⟨ps, e, k⟩ := t
  refine ⟨ps, ?_, k⟩
  rw [upd_ne (fun z => by rw [z, hd] at e; exact hu ps (Option.some.inj e))]
  exact e
theorem Kp.sqL {K : PySem.W.Frag} (a : Kp P0 H H1) {p : Addr} {xs : List V} (h : SqL K H p xs) : SqL K H1 p xs := by
  rcases h with (h | ⟨o, h⟩) | h
  · exact .inl (.inl (a.obj _ _ h (fun _ z => by cases z)))
  · exact .inl (.inr ⟨o, a.obj _ _ h (fun _ z => by cases z)⟩)
  · exact .inr h
theorem Kp.lst (a : Kp P0 H H1) {p : Addr} {xs : List V} (h : H p = some (.lst xs)) : H1 p = some (.lst xs) := a.obj _ _ h fun _ z => by cases z
theorem Kp.tup (a : Kp P0 H H1) {p : Addr} {xs : List V} (h : H p = some (.tup xs)) : H1 p = some (.tup xs) := a.obj _ _ h fun _ z => by cases z
theorem Kp.ins (a : Kp P0 H H1) {p C dx : Addr} {fs : List (Str × V)} (h : H p = some (.ins C dx fs)) : H1 p = some (.ins C dx fs) := a.obj _ _ h fun _ z => by cases z
theorem Kp.dK (a : Kp P0 H H1) {p : Addr} {kvs : List (Key × V)} (h : H p = some (.dK kvs)) : H1 p = some (.dK kvs) := a.obj _ _ h fun _ z => by cases z
end
/-! ### two kinds of exceptions in the air: of any context (air), with none (airN) -/
structure Air where
  CX : Program → World → CXT
  T : Cx → WX → Prop
  cx : ∀ {P : Program} {w : World} {K : PySem.W.Frag} {mg : Str → Option Value} {base : Heap} {N : List Str} {qual : Str} {sc : Scope} {f : Addr} {cd : Value} {A : Around} {outer : List Env} {s : Shared} {H : Hp} {E : XK},
    T (cxOf (CX P w) P w K mg base N qual sc f cd A outer s H E) (fun cls d _ H => E cls d H)
  at_ : ∀ {X : Cx} {W : WX}, T X W → ∀ σ, PassesAt (CX X.prog X.w) X σ (WE W σ)
  raise : ∀ {X : Cx} {W : WX} {e : Expr} {t : L2.St → Hp → XK → Prop} {pos : Pos}, X.calm = true → T X W → L2N.PMk X e t → PS X (.Raise (some e) none pos) (fun _ σ H => t σ H fun cls d H' => W cls d σ H')
  zero : ∀ {X : Cx}, T X (fun _ _ _ _ => False)
theorem pmk_any {X : Cx} {e : Expr} {t : L2.St → Hp → XK → Prop} (h : L2N.PMk X e t) : L2.PMk X e t := fun pins s σ H Q I q => thn (h pins s σ H Q I q) fun u s' z => by
  obtain ⟨a, oe, vs, sI, H', cls, d, e1, e2, e3, e4, e5, hz, r⟩ := z
  exact ⟨a, oe, vs, sI, H', cls, d, e1, e2, e3, e4, e5, hz.zc, r⟩
def air : Air := ⟨L2.CX, L2.Takes, L2.takes_of rfl rfl rfl rfl, L2.passAt, fun hc tk h => L2.ps_raise hc tk (pmk_any h), L2.takes0⟩
theorem takes0N {X : Cx} : L2N.Takes X (fun _ _ _ _ => False) := fun _ _ x => by
  obtain ⟨_, _, _, _, _, _, _, _, _, _, _, _, _, _, _, _, z⟩ := x
  exact z.elim
def airN : Air := ⟨L2N.CX, L2N.Takes, L2N.takes_of rfl rfl rfl rfl, L2N.passAt, fun hc tk h => L2N.ps_raise hc tk h, takes0N⟩
theorem takesN {X : Cx} {W : WX} (h : L2N.Takes X W) : airN.T X W := h
theorem takesL {X : Cx} {W : WX} (h : L2.Takes X W) : air.T X W := h
section
variable {CX : CXT} {P : Program} {w : World} {K : PySem.W.Frag} {mg : Str → Option Value} {base : Heap} {N : List Str} {qual : Str} {sc : Scope} {f : Addr} {cd : Value} {A : Around} {outer : List Env} {s : Shared} {H : Hp} {E : XK}
theorem owB : PassesOwn (model (cxOf CX P w K mg base N qual sc f cd A outer s H E).prog (cxOf CX P w K mg base N qual sc f cd A outer s H E).w) (cxOf CX P w K mg base N qual sc f cd A outer s H E).A (cxOf CX P w K mg base N qual sc f cd A outer s H E).env (cxOf CX P w K mg base N qual sc f cd A outer s H E).xe := passes_of rfl
end
/-! ### tests whose answer is known -/
theorem itT {c : Bool} {A B : Prop} (hc : c = true) (h : A) : if c = true then A else B := by
  rw [if_pos hc]
  exact h
theorem itF {c : Bool} {A B : Prop} (hc : c = false) (h : B) : if c = true then A else B := by
  rw [hc]
  exact iteF h
end Fh
set_option Elab.async false
set_option linter.all false
set_option maxRecDepth 100000
set_option maxHeartbeats 4000000
/-! calls of defs, methods, classes that may raise; own errors made -/
namespace Fh
open PySem PySem.Spec PyProof.Rows L2
/-- what a def of the module promises -/
structure CalX (ar : Air) (P : Program) (w : World) (K : PySem.W.Frag) (mg : Str → Option Value) (base : Heap) (k : Nat) (x : Str) (sp : Sp) : Prop where
  ex : ∃ f fd ps, mg x = some (.ref f) ∧ PySem.W.keepIn K (.ref f) = true ∧ Binds K fd ps [] ∧ FnOk P w K mg base (ar.CX P w) k f fd ps sp
/-- .. a method of the class at C -/
structure MetX (ar : Air) (P : Program) (w : World) (K : PySem.W.Frag) (mg : Str → Option Value) (base : Heap) (k : Nat) (C : Addr) (m : Str) (sp : Sp) : Prop where
  ex : ∃ f fd ps, Cls K C ∧ Meth K C m f ∧ Binds K fd ps [] ∧ FnOk P w K mg base (ar.CX P w) k f fd ps sp
/-- .. the __init__ of the class x at C -/
structure MakX (ar : Air) (P : Program) (w : World) (K : PySem.W.Frag) (mg : Str → Option Value) (base : Heap) (k : Nat) (x : Str) (C : Addr) (sp : Sp) : Prop where
  ex : ∃ f fd ps, mg x = some (.ref C) ∧ Mk K C f ∧ Binds K fd ps [] ∧ FnOk P w K mg base (ar.CX P w) k f fd ps sp
/-- o.m(..); C(..): what is raised is wished for at the slots -/
def tMethS (C : Addr) (m : Str) (sp : Sp) (E : L2.St → XK) (ta : TE) (t : TA) : TE := fun σ H Q => ta σ H fun x H1 => ∃ a dx fs, x = .ref a ∧ H1 a = some (.ins C dx fs) ∧ fs.lookup m = none ∧
  t σ H1 fun vs H2 => sp (x :: vs) H2 Q (E σ)
def tMakeS (C : Addr) (sp : Sp) (E : L2.St → XK) (t : TA) : TE := fun σ H Q => t σ H fun vs H1 => ∀ x dx, H1 x = none → H1 dx = none → dx ≠ x →
  sp (.ref x :: vs) (upd (upd H1 dx (.own x)) x (.ins C dx [])) (fun v H2 => v = .non ∧ Q (.ref x) H2) (E σ)
section
variable {ar : Air} {X : Cx} {W : WX} {k j : Nat} {C : Addr} {sp : Sp} {x m : Str} {p pos apos : Pos} {e o : Expr} {es : List Expr} {ta : TE} {t : TA}
theorem pe_cx (c : CalX ar X.prog X.w X.K X.mg X.base k x sp) (hr : Room j X.A) (hk : k ≤ j) (tk : ar.T X W) (ha : PA X (e :: es) t) (hg : Gl X x := by rfl) (hdb : (x == ("__debug__" : Str)) = false := by decide)
    (he : starEach (e :: es) X.env = (false, eval e X.env) :: starEach es X.env := by rfl) (hpl : (backTo pos (starEach es X.env)).any (·.1) = false := by rfl) : PE X (.Call (.Name x p) (e :: es) [] pos) (tCallS sp (WE W) t) := by
  obtain ⟨f, fd, ps, hm, kp, b, F⟩ := c.ex
  exact pe_callS F (hr.mono hk) hg hm kp b (ar.at_ tk) ha hdb he hpl
/-- the method, once its receiver is there -/
theorem run_mx {pins : List (Addr × Obj)} {σ : L2.St} {H : Hp} {s : Shared} {Q : VK} {a dx : Addr} {fs : List (Str × V)} {fpos : Pos} {pl : Sem Bool} (c : MetX ar X.prog X.w X.K X.mg X.base k C m sp) (hr : Room j X.A) (hk : k ≤ j) (tk : ar.T X W) (I : Inv X pins σ H s) (ea : H a = some (.ins C dx fs)) (hl : fs.lookup m = none)
    (ha : PA X (e :: es) t) (h : t σ H fun vs H2 => sp (.ref a :: vs) H2 Q (WE W σ)) (he : starEach (e :: es) X.env = (false, eval e X.env) :: starEach es X.env) (hpl : (backTo fpos (starEach es X.env)).any (·.1) = false) :
    wpAny (model X.prog X.w) X.A (getMethod (.ref a) m pl) (fun q s1 => wpAny (model X.prog X.w) X.A (callWith fpos q.1 q.2 (backTo fpos (starEach (e :: es) X.env)) (backToKw fpos (keywordEach [] X.env))) (EP X pins σ Q) X.xe s1) X.xe s := by
  obtain ⟨f, fd, ps, cl, me, b, F⟩ := c.ex
  refine getmeth_ok I ea cl me hl ?_
  refine PySem.W.callWith_K (first := [.ref a]) (h₀ := X.base) I.ok.mod.kin me.kp ?_ he hpl
  refine thn (ha.run fpos pins s σ H _ I h) fun us s2 hh => ?_
  obtain ⟨vs, H2, I2, r, q2⟩ := hh
  refine ⟨I2.kIn, ?_⟩
  exact run_fnS (us := .ref a :: us) (vs := .ref a :: vs) F (hr.mono hk) b (ar.at_ tk σ) I2 (.cons rfl r) q2
theorem run_mx0 {pins : List (Addr × Obj)} {σ : L2.St} {H : Hp} {s : Shared} {Q : VK} {a dx : Addr} {fs : List (Str × V)} {fpos : Pos} {pl : Sem Bool} (c : MetX ar X.prog X.w X.K X.mg X.base k C m sp) (hr : Room j X.A) (hk : k ≤ j) (tk : ar.T X W) (I : Inv X pins σ H s) (ea : H a = some (.ins C dx fs)) (hl : fs.lookup m = none)
    (h : sp [.ref a] H Q (WE W σ)) : wpAny (model X.prog X.w) X.A (getMethod (.ref a) m pl) (fun q s1 => wpAny (model X.prog X.w) X.A (callWith fpos q.1 q.2 (backTo fpos (starEach [] X.env)) (backToKw fpos (keywordEach [] X.env))) (EP X pins σ Q) X.xe s1) X.xe s := by
  obtain ⟨f, fd, ps, cl, me, b, F⟩ := c.ex
  refine getmeth_ok I ea cl me hl ?_
  exact PySem.W.callWith_K0 (first := [.ref a]) I.kIn me.kp (run_fnS (us := [.ref a]) (vs := [.ref a]) F (hr.mono hk) b (ar.at_ tk σ) I (.cons rfl .nil) h)
/-- o.m(e, ..) -/
theorem pe_mx {pl : Sem Bool} (c : MetX ar X.prog X.w X.K X.mg X.base k C m sp) (hr : Room j X.A) (hk : k ≤ j) (tk : ar.T X W) (ho : PE X o ta) (ha : PA X (e :: es) t)
    (ht : eval (.Call (.Attribute o m apos) (e :: es) [] pos) X.env = (do
      let ov ← eval o X.env
      standAt apos.atName
      let (f, first) ← holding [ov] (getMethod ov m pl)
      callWith pos f first (backTo pos (starEach (e :: es) X.env)) (backToKw pos (keywordEach [] X.env))) := by rfl)
    (he : starEach (e :: es) X.env = (false, eval e X.env) :: starEach es X.env := by rfl) (hpl : (backTo pos (starEach es X.env)).any (·.1) = false := by rfl) : PE X (.Call (.Attribute o m apos) (e :: es) [] pos) (tMethS C m sp (WE W) ta t) := by
  constructor
  intro pins s σ H Q I h
  refine PySem.W.methodCall_KW (pl := pl) (thn (ho.run pins s σ H _ I h) fun u s1 hh => ?_) ht
  obtain ⟨y, H1, I1, ry, a, dx, fs, ey, ea, hl, q⟩ := hh
  subst ey
  obtain rfl : u = Value.ref a := ry
  exact run_mx c hr hk tk I1 ea hl ha q he hpl
/-- o.m() -/
theorem pe_mx0 {pl : Sem Bool} (c : MetX ar X.prog X.w X.K X.mg X.base k C m sp) (hr : Room j X.A) (hk : k ≤ j) (tk : ar.T X W) (ho : PE X o ta)
    (ht : eval (.Call (.Attribute o m apos) [] [] pos) X.env = (do
      let ov ← eval o X.env
      standAt apos.atName
      let (f, first) ← holding [ov] (getMethod ov m pl)
      callWith pos f first (backTo pos (starEach [] X.env)) (backToKw pos (keywordEach [] X.env))) := by rfl) : PE X (.Call (.Attribute o m apos) [] [] pos) (tMethS C m sp (WE W) ta tNil) := by
  constructor
  intro pins s σ H Q I h
  refine PySem.W.methodCall_KW (pl := pl) (thn (ho.run pins s σ H _ I h) fun u s1 hh => ?_) ht
  obtain ⟨y, H1, I1, ry, a, dx, fs, ey, ea, hl, q⟩ := hh
  subst ey
  obtain rfl : u = Value.ref a := ry
  exact run_mx0 c hr hk tk I1 ea hl q
/-- the class is called -/
theorem run_mkx {pins : List (Addr × Obj)} {σ : L2.St} {H : Hp} {s : Shared} {Q : VK} {us : List Value} {vs : List V} (c : MakX ar X.prog X.w X.K X.mg X.base k x C sp) (hr : Room j X.A) (hk : k + 1 ≤ j) (tk : ar.T X W) (I : Inv X pins σ H s) (r : Vals vs us)
    (h : ∀ x dx, H x = none → H dx = none → dx ≠ x → sp (.ref x :: vs) (upd (upd H dx (.own x)) x (.ins C dx [])) (fun v H2 => v = .non ∧ Q (.ref x) H2) (WE W σ)) : wpAny (model X.prog X.w) X.A (call (.ref C) us) (EP X pins σ Q) X.xe s := by
  obtain ⟨f, fd, ps, _, M, b, F⟩ := c.ex
  generalize hn : s.heap.objs.size = n
  have n1 : H (n + 1) = none := I.hok.fresh (by rw [hn]; exact Nat.le_succ _)
  have n0 : H n = none := I.hok.fresh (by rw [hn]; exact Nat.le_refl _)
  have hq := h (n + 1) n n1 n0 (Nat.ne_of_lt (Nat.lt_succ_self _))
  have I2 := Inv.made (C := C) I
  rw [hn] at I2
  have r2 : Vals (V.ref (n + 1) :: vs) (Value.ref (n + 1) :: us) := .cons rfl r
  have hl : (Value.ref (n + 1) :: us).length = ps.length := by
    rw [← r2.length]
    exact F.len _ _ _ _ hq
  have hb := b _ (Value.ref (n + 1) :: us) I2.kIn (by rw [List.append_nil]; exact hl)
  rw [List.append_nil] at hb
  have run := F.run _ X.stack _ _ ⟨Value.ref (n + 1) :: us, []⟩ (Value.ref (n + 1) :: us) _ _ (WE W σ) ((hr.mono hk).make C us []) (I2.env0.make C us []) hb r2 hq
  refine wpAny_call (make_map (f := f) I.kIn M.makes M.init (beq_iff_eq.mp M.fn) ?_)
  rw [hn]
  refine codeAny_mono run fun r s' hq' => ?_
  cases r with
  | error e => exact ar.at_ tk σ pins _ _ e s' I2 hq'
  | ok fl =>
    cases fl with
    | ret u =>
      obtain ⟨v, H', I3, rv, ev, q3⟩ := I2.after hq'
      subst ev
      exact ⟨rv, ⟨.ref (n + 1), H', I3, rfl, q3⟩⟩
    | next => exact False.elim hq'
    | brk => exact False.elim hq'
    | cont => exact False.elim hq'
/-- x(e, ..), x an own class -/
theorem pe_mkx (c : MakX ar X.prog X.w X.K X.mg X.base k x C sp) (hr : Room j X.A) (hk : k + 1 ≤ j) (tk : ar.T X W) (ha : PA X (e :: es) t) (hg : Gl X x := by rfl) (hdb : (x == ("__debug__" : Str)) = false := by decide)
    (he : starEach (e :: es) X.env = (false, eval e X.env) :: starEach es X.env := by rfl) (hpl : (backTo pos (starEach es X.env)).any (·.1) = false := by rfl) : PE X (.Call (.Name x p) (e :: es) [] pos) (tMakeS C sp (WE W) t) := by
  obtain ⟨f, fd, ps, hm, M, b, F⟩ := id c.ex
  constructor
  intro pins s σ H Q I h
  refine wpAny_Call_Name_kw (ld_glob I hg hm ?_ hdb)
  refine PySem.W.callWith_K (h₀ := X.base) I.ok.mod.kin M.kp ?_ he hpl
  refine thn (ha.run pos pins s σ H _ I h) fun us s1 hh => ?_
  obtain ⟨vs, H1, I1, r, q⟩ := hh
  exact ⟨I1.kIn, run_mkx c hr hk tk I1 r q⟩
theorem pe_mkx0 (c : MakX ar X.prog X.w X.K X.mg X.base k x C sp) (hr : Room j X.A) (hk : k + 1 ≤ j) (tk : ar.T X W) (hg : Gl X x := by rfl) (hdb : (x == ("__debug__" : Str)) = false := by decide) : PE X (.Call (.Name x p) [] [] pos) (tMakeS C sp (WE W) tNil) := by
  obtain ⟨f, fd, ps, hm, M, b, F⟩ := id c.ex
  constructor
  intro pins s σ H Q I h
  refine wpAny_Call_Name_kw (ld_glob I hg hm ?_ hdb)
  exact PySem.W.callWith_K0 I.kIn M.kp (run_mkx (us := []) c hr hk tk I .nil h)
end
/-! ### own errors -/
/-- an own error without __init__, as the head tells it -/
structure ExcT (K : PySem.W.Frag) (mg : Str → Option Value) (x : Str) (C : Addr) : Prop where
  g : mg x = some (.ref C)
  exc : PySem.W.excIn K C He.veBase "ValueError.__new__" = true
  kp : PySem.W.keepIn K (.ref C) = true
  sub : PySem.W.subIn K (.ref C) (.type "BaseException") = some true
  ty : PySem.W.typeIn K (.ref C) = some (.type "type")
section
variable {ar : Air} {X : Cx} {W : WX} {C fI : Addr} {x f : Str}
/-- raise x('..') -/
theorem ps_rx {m : Str} {j : Nat} {p p2 pos pos2 : Pos} (T : ExcT X.K X.mg x C) (tk : ar.T X W) (hc : X.calm = true := by rfl) (hg : Gl X x := by rfl) (hdb : (x == ("__debug__" : Str)) = false := by decide) :
    PS X (.Raise (some (.Call (.Name x p) [.Constant (.str m) j p2] [] pos)) none pos2) (fun _ σ H => W (.ref C) none σ H) :=
  ar.raise hc tk (L2N.pmk_own (bmB := He.veBase) PySem.F.excBase_ValueError T.exc T.g T.kp (raises_own T.sub T.ty) hg hdb)
end
/-! ### a made error with a field -/
structure SupMade (h h' : Heap) (e C d : Addr) (f : Str) (v : Value) : Prop where
  keep : ∀ b o, h.get? b = some o → h'.get? b = some o
  new : h.objs.size ≤ e
  obj : ∃ oe vs, h'.get? e = some oe ∧ oe.cls = .ref C ∧ oe.dict = some d ∧ oe.data = .fields vs ∧ vs[1]? = some .none ∧ vs[2]? = some .none
  dbig : h.objs.size ≤ d
  dne : d ≠ e
  ns : h'.Ns1 d (fun y => if y = f then some v else none)
open PySem.W PySem.Calls PySem.HandSPX in
theorem sup_made {prog : Program} {w : World} {A : Around} {R : Result → Shared → Prop} {s : Shared} {K : Frag} {mg mb : Str → Option Value} {C fI : Addr} {x f : Str} (T : SupTxt prog K mg x f C fI) {v : Value} (X : K.In s.heap) (hg : s.heap.Ns mainGlobals mg) (hb : s.heap.Ns builtinsNs mb) (hbs : mb "super" = some (.type "super")) (hlim : s.heap.NoLimit)
    (hroom : A.depth + 1 < recursionLimit) (hq : ∀ h' tk e d, SupMade s.heap h' e C d f v → R (.ok (.ret (.ref e))) { s with heap := h', toks := tk }) : codeAny (model prog w) A (.call (.ref C) ⟨[v], []⟩) R s := by
  obtain ⟨nm, q, N, bs, bm, sn, sub, ab, col, dd, k0, k1, k2, k3, k5, hC, hbm, hal⟩ := T.cls
  obtain ⟨hp, g, dr, tk, os⟩ := s
  generalize hn : hp.objs.size = n at *
  have k : ∀ b o, hp.get? b = some o → ((hp.push (kdv_tup [v])).push (excO C n)).get? b = some o := fun b o e => Heap.get?_push_of_some _ (Heap.get?_push_of_some _ e)
  have hget : ((hp.push (kdv_tup [v])).push (excO C n)).get? (n + 1) = some (excO C n) := by
    subst hn
    heap_get
  have hnx : K.lookup (n + 1) = none := by
    cases e : K.lookup (n + 1) with
    | none => rfl
    | some o =>
      have z : hp.get? (n + 1) = some o := X _ _ e
      have z2 : n + 1 < n := by
        have := Heap.lt_size z
        rw [hn] at this
        exact this
      exact absurd (Nat.lt_of_succ_lt z2) (Nat.lt_irrefl _)
  refine call_own F.excBase_ValueError (fun X => refsVE_contains X bm hbm) (X _ _ hC) (looks_findIn X T.iC) (fun self => bind_fn X self T.tI) (by show 1 ≤ sizeLine; rw [sizeLine_eq]; decide) ?_
  rw [hn]
  refine sup_init (s := ⟨(hp.push (kdv_tup [v])).push (excO C n), g, dr, tk, os⟩) T (X.keeps k) (hg.keeps k) (hb.keeps k) hbs (hlim.keeps k) hget hnx hroom fun h' tk' dx z => ?_
  obtain ⟨k', ⟨t1, hx⟩, dn, dne, hns⟩ := z
  have old : ∀ b o, hp.get? b = some o → h'.get? b = some o := fun b o e => k' b o (fun z => by
    have z3 := Heap.lt_size e
    rw [hn, z] at z3
    exact absurd (Nat.lt_of_succ_lt z3) (Nat.lt_irrefl _)) (k b o e)
  have z : n + 1 + 1 ≤ dx := by
    have q := dn
    rw [Heap.size_push, Heap.size_push, hn] at q
    exact q
  exact ⟨rfl, hq h' tk' (n + 1) dx ⟨old, by rw [hn]; exact Nat.le_succ _, ⟨_, _, hx, rfl, rfl, rfl, rfl, rfl⟩, by rw [hn]; omega, dne, hns⟩⟩
theorem rel_sup {v : V} {v' : Value} {f : Str} (r : RelV v v') (y : Str) : RelO (List.lookup y [(f, v)]) (if y = f then some v' else none) := by
  by_cases hw : y = f
  · subst hw
    have q : List.lookup y [(y, v)] = some v := by simp [List.lookup]
    rw [if_pos rfl, q]
    exact r
  · have qw : (y == f) = false := by simpa using hw
    have q2 : List.lookup y [(f, v)] = none := by simp [List.lookup, qw]
    rw [if_neg hw, q2]
    trivial
section
variable {ar : Air} {X : Cx} {W : WX} {C fI : Addr} {x f : Str}
/-- x(e), x an own error that keeps e as its field f -/
def tMkS (C : Addr) (f : Str) (ta : TA) : L2.St → Hp → XK → Prop := fun σ H Q => ta σ H fun vs H1 => ∃ v, vs = [v] ∧ ∀ d, H1 d = none → Q (.ref C) (some d) (upd H1 d (.xd [(f, v)]))
theorem pmk_sup {a : Expr} {ta : TA} {p pos : Pos} {k : Nat} (T : SupTxt X.prog X.K X.mg x f C fI) (hr : Room k X.A) (ha : PA X [a] ta) (hg : Gl X x := by rfl) (hdb : (x == ("__debug__" : Str)) = false := by decide)
    (he : starEach (a :: []) X.env = (false, eval a X.env) :: starEach [] X.env := by rfl) (hpl : (backTo pos (starEach [] X.env)).any (·.1) = false := by rfl) : L2N.PMk X (.Call (.Name x p) [a] [] pos) (tMkS C f ta) := by
  intro pins s σ H Q I h
  refine wpAny_Call_Name_kw (ld_glob I hg T.gC ?_ hdb)
  refine PySem.W.callWith_K (h₀ := X.base) I.ok.mod.kin T.kC ?_ he hpl
  refine thn (ha.run pos pins s σ H _ I h) fun us s1 hh => ?_
  obtain ⟨vs, H1, I1, r1, v, ev, q1⟩ := hh
  subst ev
  refine ⟨I1.kIn, ?_⟩
  obtain ⟨v', rfl, rv⟩ := vals1 r1
  show wpAny _ _ (call (.ref C) [v']) _ _ _
  have hlim := I1.nolimit
  obtain ⟨mb, hb, hbb⟩ := I1.ok.mod.blt
  have hbs : mb "super" = some (.type "super") := by
    rw [hbb _ (by decide)]
    decide +kernel
  have X1 := I1.kIn
  have hgl := I1.ok.mod.glob.keeps I1.bk
  have hbl := hb.keeps I1.bk
  obtain ⟨hp, g, dr, tk, os⟩ := s1
  refine wpAny_call (sup_made T X1 hgl hbl hbs hlim (by have := hr.dp; omega) fun h' tk' e d M => ?_)
  show L2N.MkP X pins σ Q (.ref e) ⟨h', g, dr, tk', os⟩
  obtain ⟨oe, fv, hoe, hc, hd, hdat, h1, h2⟩ := M.obj
  have hctx : PXN.CtxN oe := fun vs e => by
    rw [hdat] at e
    cases e
    exact h2
  have hns := M.ns
  obtain ⟨G', g1, g2⟩ := restrict h' fun b => decide (b ≠ e)
  have gk : ∀ b, b ≠ e → G'.get? b = h'.get? b := fun b hb => g1 b (decide_eq_true hb)
  have ge : G'.get? e = none := g2 e (by simp)
  have old : ∀ b o, hp.get? b = some o → G'.get? b = some o := fun b o q => by
    have ne : b ≠ e := Nat.ne_of_lt (Nat.lt_of_lt_of_le (Heap.lt_size q) M.new)
    rw [gk b ne]
    exact M.keep b o q
  have ob : ObjOk X.prog X.w (upd H1 d (.xd [(f, v)])) G' d (.xd [(f, v)]) := ⟨_, hns.at (fun o q => (gk d M.dne).trans q), fun y => rel_sup rv y⟩
  have J : Inv X pins σ (upd H1 d (.xd [(f, v)])) ⟨G', g, dr, tk', os⟩ := I1.laid (t' := tk') old M.dbig ob
  refine ⟨e, oe, fv, ⟨G', g, dr, tk', os⟩, _, .ref C, some d, rfl, J, fun b o q => ?_, ge, hoe, ⟨hc, hd, hctx⟩, hdat, h1, ?_, rfl, I1.bare, raises_own T.exC T.tyC, q1 d (I1.hok.fresh M.dbig)⟩
  · have ne : b ≠ e := fun z => by
      have q' : G'.get? b = some o := q
      rw [z, ge] at q'
      cases q'
    rw [← gk b ne]
    exact q
  · rw [upd_ne (Ne.symm M.dne)]
    exact I1.hok.fresh M.new
/-- raise x(e) -/
theorem ps_rsup {a : Expr} {ta : TA} {p pos pos2 : Pos} {k : Nat} (T : SupTxt X.prog X.K X.mg x f C fI) (hr : Room k X.A) (tk : ar.T X W) (ha : PA X [a] ta) (hc : X.calm = true := by rfl) (hg : Gl X x := by rfl) (hdb : (x == ("__debug__" : Str)) = false := by decide)
    (he : starEach (a :: []) X.env = (false, eval a X.env) :: starEach [] X.env := by rfl) (hpl : (backTo pos (starEach [] X.env)).any (·.1) = false := by rfl) :
    PS X (.Raise (some (.Call (.Name x p) [a] [] pos)) none pos2) (fun _ σ H => tMkS C f ta σ H fun cls d H' => W cls d σ H') := ar.raise hc tk (pmk_sup T hr ha hg hdb he hpl)
end
/-! ### defs of the text -/
section
variable {ar : Air} {P : Program} {w : World} {K : PySem.W.Frag} {mg : Str → Option Value} {base : Heap} {x qual : Str} {st : Stmt} {N ps : List Str} {k : Nat} {sp : Sp} {p : He.Defn}
/-- the body's walk, its code object known -/
abbrev BodyOk (ar : Air) (P : Program) (w : World) (K : PySem.W.Frag) (mg : Str → Option Value) (base : Heap) (N : List Str) (qual : Str) (st : Stmt) (p : He.Defn) (k : Nat) (sp : Sp) : Prop :=
  ∀ (A : Around) (outer : List Env) (s : Shared) (H : Hp) (vs : List V) (Q : VK) (E : XK), Room k (A.deeper (envOfC qual (defScope st) s.heap.objs.size (He.fAd K p) (.ref (He.codeOf K p)))) → sp vs H Q E →
    ∃ t, PSs (cxOf (ar.CX P w) P w K mg base N qual (defScope st) (He.fAd K p) (.ref (He.codeOf K p)) A outer s H E) (defBody st) t ∧ t { nx := fun _ H' => Q .non H', rt := Q } (start N vs) H
abbrev BindOk (x qual : Str) (st : Stmt) (ps : List Str) : Prop := ∀ (kV doc pm : Value) (an : Option Addr) (cdv ct : Value) (us : List Value), us.length = ps.length →
  bindArgs (PySem.W.fnOf x qual (defArgs st) (defBody st) (defScope st) .none kV doc pm an cdv ct) ⟨us, []⟩ = pure (ps.zip us)
theorem fn_body (hf : ∃ fd, FunD K x qual (defArgs st) (defBody st) (defScope st) [] [] (He.fAd K p) fd) (S : FnScope N ps (defScope st)) (hb : BindOk x qual st ps) (len : ∀ vs H Q E, sp vs H Q E → vs.length = ps.length)
    (body : BodyOk ar P w K mg base N qual st p k sp) : ∃ fd, PySem.W.keepIn K (.ref (He.fAd K p)) = true ∧ Binds K fd ps [] ∧ FnOk P w K mg base (ar.CX P w) (k + 1) (He.fAd K p) fd ps sp := by
  obtain ⟨fd, F⟩ := hf
  have G := He5.fun_of F
  refine ⟨fd, G.kp, G.binds hb, ?_⟩
  obtain ⟨oc, od, kV, doc, pm, an, cdv, ct, osl, rfl, lk, hcd⟩ := G.ex
  obtain ⟨c, rfl⟩ := He.codeIn_ref hcd
  have ec : He.codeOf K p = c := He.codeOf_eq lk rfl
  subst ec
  exact fn_of lk hcd S len body
theorem calX (hg : mg x = some (.ref (He.fAd K p))) (hf : ∃ fd, FunD K x qual (defArgs st) (defBody st) (defScope st) [] [] (He.fAd K p) fd) (S : FnScope N ps (defScope st)) (hb : BindOk x qual st ps) (len : ∀ vs H Q E, sp vs H Q E → vs.length = ps.length)
    (body : BodyOk ar P w K mg base N qual st p k sp) : CalX ar P w K mg base (k + 1) x sp := by
  obtain ⟨fd, kp, b, F⟩ := fn_body hf S hb len body
  exact ⟨_, fd, ps, hg, kp, b, F⟩
theorem metX {C : Addr} {m : Str} (hc : Cls K C) (hm : Meth K C m (He.fAd K p)) (hf : ∃ fd, FunD K x qual (defArgs st) (defBody st) (defScope st) [] [] (He.fAd K p) fd) (S : FnScope N ps (defScope st)) (hb : BindOk x qual st ps) (len : ∀ vs H Q E, sp vs H Q E → vs.length = ps.length)
    (body : BodyOk ar P w K mg base N qual st p k sp) : MetX ar P w K mg base (k + 1) C m sp := by
  obtain ⟨fd, kp, b, F⟩ := fn_body hf S hb len body
  exact ⟨_, fd, ps, hc, hm, b, F⟩
theorem makX {C : Addr} {y : Str} (hg : mg y = some (.ref C)) (hm : Mk K C (He.fAd K p)) (hf : ∃ fd, FunD K x qual (defArgs st) (defBody st) (defScope st) [] [] (He.fAd K p) fd) (S : FnScope N ps (defScope st)) (hb : BindOk x qual st ps) (len : ∀ vs H Q E, sp vs H Q E → vs.length = ps.length)
    (body : BodyOk ar P w K mg base N qual st p k sp) : MakX ar P w K mg base (k + 1) y C sp := by
  obtain ⟨fd, kp, b, F⟩ := fn_body hf S hb len body
  exact ⟨_, fd, ps, hg, hm, b, F⟩
end
end Fh
set_option Elab.async false
set_option linter.all false
set_option maxRecDepth 100000
set_option maxHeartbeats 4000000
/-! enumerate over a tuple; sorted of a tuple of texts; an empty dict that will hold tuples; dict comprehensions turned out -/
namespace Fh
open PySem PySem.Spec PyProof.Rows L2
/-! ### enumerate(tuple) -/
theorem meets_enum1 {v : Value} {o : Obj} {H : Heap → Prop} (B : Begins v o H) : Meets (Builtin.«enumerate.__new__» ⟨[.type "enumerate", v], []⟩) (fun _ R s => H s.heap ∧
    R (.ok (.ret (.ref (s.heap.push o).objs.size))) { s with heap := (s.heap.push o).push { cls := .type "enumerate", data := .fields #[.none, .bool false, .ref s.heap.objs.size, rawInt 0, .none, .none] } }) := by
  refine .of_wp fun prog w A R s h => ?_
  obtain ⟨hp, g, d, tk, os⟩ := s
  obtain ⟨h1, h⟩ := h
  have hsub := sub_enumerate
  have q1 : ∀ {A' : Around} {E : Value → Shared → Prop} {Q : Value → Shared → Prop}, Q (.ref hp.objs.size) ⟨hp.push o, g, d, tk, os⟩ → wpAny (model prog w) A' (pyIter v) Q E ⟨hp, g, d, tk, os⟩ := fun q => B.iter prog w _ _ ⟨hp, g, d, tk, os⟩ _ h1 q
  wp_walk using q1
  refine wpAny_stack_any (fun st => wpAny_pure ?_)
  split
  · rename_i c _ _ _ _ _
    cases (c == Value.type "enumerate") <;> (wp_walk using q1; exact ⟨_, rfl, h⟩)
  · wp_walk using q1
    exact ⟨_, rfl, h⟩
section
variable {prog : Program} {w : World} {A : Around} {E : Value → Shared → Prop} {s : Shared}
/-- enumerate(v): its two new objects -/
theorem enum1_begins {v : Value} {o : Obj} {H : Heap → Prop} {Q : Value → Shared → Prop} (B : Begins v o H) (h1 : H s.heap)
    (h : ∀ h', IsEnum h' (s.heap.objs.size + 1) s.heap.objs.size 0 .none → h'.get? s.heap.objs.size = some o → (∀ b o, s.heap.get? b = some o → h'.get? b = some o) → Q (.ref (s.heap.objs.size + 1)) { s with heap := h' }) :
    wpAny (model prog w) A (call (.type "enumerate") [v]) Q E s := by
  refine callType_new F.called_enumerate (by decide) (F.typeCall_enumerate_1 _) (F.newCall_enumerate_1 _) (fun obj => F.args_object_init_2 obj _) F.entry_enumerate_new (meets_enum1 B) ⟨h1, ?_⟩
  have hz : (s.heap.push o).objs.size = s.heap.objs.size + 1 := Heap.size_push ..
  show _ ∧ _
  rw [hz]
  have he : IsEnum ((s.heap.push o).push { cls := .type "enumerate", data := .fields #[.none, .bool false, .ref s.heap.objs.size, rawInt 0, .none, .none] }) (s.heap.objs.size + 1) s.heap.objs.size 0 .none := by
    have := Heap.get?_push_size (s.heap.push o) (o := { cls := .type "enumerate", data := .fields #[.none, .bool false, .ref s.heap.objs.size, rawInt 0, .none, .none] }) rfl
    rw [hz] at this
    exact this
  exact ⟨⟨_, he, rfl⟩, h _ he (Heap.get?_push_of_some _ (Heap.get?_push_size _ B.free)) fun b o x => Heap.get?_push_of_some _ (Heap.get?_push_of_some _ x)⟩
end
/-- the tuple at a, each item in a new pair -/
def IteT (K : PySem.W.Frag) (a : Addr) : It :=
  ⟨fun i H => ∃ (xs : List V) (x : V), SqT K H a xs ∧ xs[i]? = some x, fun i H v H' => ∃ T x, v = .ref T ∧ H T = none ∧ H' = upd H T (.tup [.int (i : Nat), x]) ∧ ∀ xs, SqT K H a xs → xs[i]? = some x, fun i H => ∃ xs : List V, SqT K H a xs ∧ xs.length ≤ i⟩
theorem tup_iter_ne {h : Heap} {a it : Addr} {items : Array Value} {i : Nat} (p : IsTup h a items) (q : h.IsTupleIter it a i) : a ≠ it := fun z => by
  obtain ⟨o, e, c, n, d⟩ := p
  obtain ⟨o', e', c', d'⟩ := q
  rw [← z, e] at e'
  cases e'
  rw [d] at d'
  cases d'
theorem turn_enumT {P : Program} {w : World} {K : PySem.W.Frag} {elts : List Expr} {kk : Nat} {tpos : Pos} (a e it : Addr) (ae : a ≠ e) :
    Turn P w K (.Tuple elts kk tpos) (IteT K a) [e, it] e (fun i h => (∃ old, IsEnum h e it ((i : Nat) : Int) old) ∧ h.IsTupleIter it a i ∧ e ≠ it) where
  mem := by simp
  obj := fun i h st b hb => by
    obtain ⟨⟨old, he⟩, ⟨o, ho, hc, hd⟩, _⟩ := st
    rcases (by simpa using hb : b = e ∨ b = it) with z | z
    · rw [z]
      exact ⟨_, he, fun v q => nomatch q⟩
    · rw [z]
      exact ⟨o, ho, fun v q => by rw [hd] at q; cases q⟩
  keep := fun i h h' st k => by
    obtain ⟨⟨old, he⟩, hi, hne⟩ := st
    exact ⟨⟨old, k e (by simp) _ he⟩, hi.at fun o q => k it (by simp) o q, hne⟩
  item := by
    intro X hP hw hK hc i pins s σ H E I hf st hg
    subst hP hw hK
    obtain ⟨⟨old, he⟩, hit, hne⟩ := st
    obtain ⟨xs, x, hq, hx⟩ := hg
    obtain ⟨its, rv, p, hz⟩ := I.tuple hq
    obtain ⟨u, hu, ru⟩ := rv.get hx
    have hel : e < s.heap.objs.size := Heap.lt_size he
    have hil : it < s.heap.objs.size := by
      obtain ⟨_, q, _⟩ := hit
      exact Heap.lt_size q
    have ne := tup_iter_ne p hit
    have hh : X.A.in1.handled = none := I.ok.hd hc
    have D := Draws.tuple (prog := X.prog) (w := X.w) hh it a ne its.toArray
    have hlt : i < its.toArray.size := by
      have := (List.getElem?_eq_some_iff.mp hu).1
      simpa using this
    refine wpAny_pyNext_enum_itemD D he ⟨hit, p⟩ hlt hne (by simp [hne, Ne.symm ae]) fun y h' tk hP ho hst hT hsz hk => ?_
    have ey : y = u := by
      have h1 : its.toArray[i]? = some y := hP
      rw [List.getElem?_toArray, hu] at h1
      exact (Option.some.inj h1).symm
    subst ey
    refine ⟨_, rfl, wpAny_letOwnedTupleGo_enum (s := { s with heap := h', toks := tk + 1 }) ho fun h'' he' sb => ?_⟩
    have hT2 : h''.get? s.heap.objs.size = some { cls := .type "tuple", data := .seq #[.int i tk, y] } := (sb.2 _ (Nat.ne_of_gt hel)).trans hT
    have new : ObjOk X.prog X.w (upd H s.heap.objs.size (.tup [.int (i : Nat), x])) h'' s.heap.objs.size (.tup [.int (i : Nat), x]) := ⟨by show 2 ≤ sizeLine; decide, [.int i tk, y], .cons ⟨_, rfl⟩ (.cons ru .nil), ⟨_, hT2, rfl, _, rfl⟩⟩
    have I1 : Inv X pins σ (upd H s.heap.objs.size (.tup [.int (i : Nat), x])) { s with heap := h'', toks := tk + 1 } :=
      I.turnedNew (ch := [e, it]) (fun b ob hb q => (sb.2 b (fun z => hb (by simp [z]))).trans (hk b ob (fun z => hb (by simp [z])) (fun z => hb (by simp [z])) q)) hf (Nat.le_refl _) new
    have ehit : h''.IsTupleIter it a (i + 1) := hst.1.at fun o q => (sb.2 it (Ne.symm hne)).trans q
    have eEn : IsEnum h'' e it ((i + 1 : Nat) : Int) y := by
      have e1 : ((i + 1 : Nat) : Int) = (i : Int) + 1 := by omega
      rw [e1]
      exact he'
    refine ⟨.ref s.heap.objs.size, _, I1, rfl, ⟨_, x, rfl, I.hok.fresh (Nat.le_refl _), rfl, fun ys hy => by rw [I.tuple_inj hy hq]; exact hx⟩, ⟨⟨y, eEn⟩, ehit, hne⟩, fun b hb => ?_⟩
    have hb' : b < s.heap.objs.size := by
      rcases (by simpa using hb : b = e ∨ b = it) with z | z
      · rw [z]
        exact hel
      · rw [z]
        exact hil
    rw [upd_ne (Nat.ne_of_lt hb')]
    exact (hf b hb).1
  done := by
    intro X hP hw hK hc i pins s σ H E I hf st hg
    subst hP hw hK
    obtain ⟨⟨old, he⟩, hit, hne⟩ := st
    obtain ⟨xs, hq, hx⟩ := hg
    obtain ⟨its, rv, p, hz⟩ := I.tuple hq
    obtain ⟨f0, f1, f2, f3, f4, f5⟩ := hf it (by simp)
    have hl := rv.length
    have ne := tup_iter_ne p hit
    have hh : X.A.in1.handled = none := I.ok.hd hc
    have hT : s.TypeIs (.ref e) "enumerate" := ⟨_, he, rfl⟩
    unfold pyNext
    refine wpAny_bind (wpAny_attempt (wpAny_callSpecial?_slot (name := Str.ofString "__next__") hT F.slot_enumerate_next (wpAny_call_entry F.slot_enumerate_next hT F.entry_enumerate_next ?_ (F.args_enumerate_next_1 _))))
    show wpAny _ _ (field (.ref e) 2 >>= _) _ _ _
    refine wpAny_bind (wpAny_field he rfl (x := .ref it) rfl ?_)
    refine wpAny_bind (wpAny_nextOf_tuple_end hh hit p (by simp; omega) fun h' x he' hx' => ?_)
    obtain ⟨o, ho, hc⟩ := hx'
    refine wpAny_bind (wpAny_isInstance (T := "StopIteration") (b := true) ⟨o, ho, hc⟩ isSubtype_stop ?_)
    exact wpAny_pure ⟨rfl, I.turned (t' := s.toks) (fun b o hb q => he' b o hb q) f0 f1 f3 f4 f5⟩
  self := fun A i s Q E st h => by
    obtain ⟨⟨_, he⟩, _⟩ := st
    exact wpAny_pyIter_enum he h
def iEnumT (K : PySem.W.Frag) (ta : TA) : TI := fun σ H R => ta σ H fun vs H1 => ∃ a xs, vs = [.ref a] ∧ SqT K H1 a xs ∧ R (IteT K a) H1
theorem pi_enumT {X : Cx} {e : Expr} {ta : TA} {p pos tpos : Pos} {elts : List Expr} {kk : Nat} (hg : Gl X "enumerate") (hm : X.mg "enumerate" = none) (ha : PA X [e] ta) (hs : starEach [e] X.env = [(false, eval e X.env)] := by rfl) :
    PI X (.Tuple elts kk tpos) (.Call (.Name "enumerate" p) [e] [] pos) (iEnumT X.K ta) := by
  constructor
  intro pins s σ H R I h
  refine Call_ (ld_blt I hg hm boot_enumerate (PyProof.Rows.callWith_type1 (thn (ha.run pos pins s σ H _ I h) fun us s1 hh => ?_) hs rfl))
  obtain ⟨vs, H1, I1, r1, a, xs, ex, hq, q⟩ := hh
  subst ex
  obtain ⟨u, rfl, ru⟩ := vals1 r1
  cases ru
  obtain ⟨its, rv, p', hz⟩ := I1.tuple hq
  have al : a < s1.heap.objs.size := by
    obtain ⟨o, e, _⟩ := p'
    exact Heap.lt_size e
  refine enum1_begins (begins_tuple a its.toArray) p' fun h' he hit hk => wpAny_pyIter_enum he ?_
  have I2 : Inv X pins σ H1 { s1 with heap := h' } := I1.kept (t' := s1.toks) hk
  refine ⟨s1.heap.objs.size + 1, [s1.heap.objs.size + 1, s1.heap.objs.size], _, _, H1, rfl, I2, turn_enumT a (s1.heap.objs.size + 1) s1.heap.objs.size (Nat.ne_of_lt (Nat.lt_succ_of_lt al)), ⟨⟨.none, he⟩, ⟨_, hit, rfl, rfl⟩, Nat.succ_ne_self _⟩, fun b hb => ?_, q⟩
  have hle : s1.heap.objs.size ≤ b := by
    rcases (by simpa using hb : b = s1.heap.objs.size + 1 ∨ b = s1.heap.objs.size) with z | z
    · rw [z]
      exact Nat.le_add_right _ _
    · rw [z]
      exact Nat.le_refl _
  exact I1.fpOk hle (I1.hok.fresh hle)
/-! ### sorted(a tuple of texts) -/
section
open Builtin
variable {prog : Program} {w : World} {A : Around} {E : Value → Shared → Prop} {s : Shared}
theorem collect_tup {l : Addr} {vs : List Value} {Q : List Value → Shared → Prop} (hl : IsTup s.heap l vs.toArray) (hsz : vs.length ≤ sizeLine)
    (h : Q vs { s with heap := (s.heap.push (seqObj "list" #[] 0)).update s.heap.objs.size (Obj.mapSeq (· ++ vs.toArray)) }) : wpAny (model prog w) A (collect (.ref l)) Q E s := by
  obtain ⟨o, ho, hc, n, hd⟩ := id hl
  generalize hN : s.heap.objs.size = N at *
  have hnew : (s.heap.push (seqObj "list" #[] 0)).get? N = some (seqObj "list" #[] 0) := by
    rw [← hN]
    exact Heap.get?_push_size _ rfl
  have ho' : (s.heap.push (seqObj "list" #[] 0)).get? l = some o := Heap.get?_push_of_some _ ho
  unfold collect
  refine wpAny_bind (wpAny_runValue (codeAny_builtin entry_proto_collect' ?_))
  show wpAny _ _ (do again (.builtin "list.__iadd__" ⟨[← newList [], .ref l], []⟩)) _ _ s
  refine wpAny_bind (wpAny_newList ?_)
  rw [hN]
  refine wpAny_pure ⟨Code.quiet_builtin _ (by decide +kernel), codeAny_builtin entry_list_iadd' ?_⟩
  show wpAny _ _ (Builtin.List.listExtendWith (.ref N) (.ref l) (.ref N)) _ _ { s with heap := s.heap.push (seqObj "list" #[] 0) }
  unfold Builtin.List.listExtendWith
  refine wpAny_bind (wpAny_typeOf (T := "tuple") ⟨o, ho', hc⟩ ?_)
  have tt : (Value.type "tuple" == Value.type "tuple") = true := rfl
  rw [if_pos (by rw [tt, Bool.or_true])]
  refine wpAny_bind (listItems_at ho' hd (wpAny_bind (listItems_at (xs := #[]) (n := 0) hnew rfl ?_)))
  rw [if_neg (by simp)]
  refine wpAny_bind (listUpdate_at (xs := #[]) (n := 0) hnew rfl ?_ (Nat.zero_le _) (by show (#[] ++ vs.toArray).size ≤ sizeLine + 1; simp only [Array.size_append, List.size_toArray, List.length_nil]; omega))
  refine wpAny_pure ?_
  show wpAny (model prog w) A (load N >>= fun o => match o.data with
    | .seq xs _ => pure xs.toList
    | _ => unsupported "internal:collect") Q E { s with heap := (s.heap.push (seqObj "list" #[] 0)).update N (Obj.mapSeq (· ++ vs.toArray)) }
  refine wpAny_bind (wpAny_load (get?_update_seq hnew _) ?_)
  show wpAny _ _ (pure ((#[] : Array Value) ++ vs.toArray).toList) Q E _
  have e : ((#[] : Array Value) ++ vs.toArray).toList = vs := by simp
  rw [e]
  exact wpAny_pure h
theorem sorted_tup {l : Addr} {vs : List Value} {ss : List Str} {Q : Value → Shared → Prop} (hl : IsTup s.heap l vs.toArray) (hS : StrsAre vs ss) (h64 : vs.length < 64)
    (h : ∀ (out : Array Value) (ss' : List Str), StrsAre out.toList ss' → ss'.Perm ss → sortedS ss' = true → Q (.ref (s.heap.objs.size + 1)) { s with heap := sortedAll s.heap vs out }) : wpAny (model prog w) A (call (.builtin "sorted") [.ref l]) Q E s := by
  refine Calls.call_function_entry kind_sorted plain_sorted entry_sorted (args_sorted1 _) ?_
  unfold Builtin.«sorted»
  refine wpAny_bind (m := checkCount "sorted" 1 1 _) (wpAny_pure ?_)
  refine wpAny_bind (collect_tup hl (small64 h64) (wpAny_bind (wpAny_newList ?_)))
  have hsz : ((s.heap.push (seqObj "list" #[] 0)).update s.heap.objs.size (Obj.mapSeq (· ++ vs.toArray))).objs.size = s.heap.objs.size + 1 := by rw [Heap.size_update, size_push']
  have hoL : (((s.heap.push (seqObj "list" #[] 0)).update s.heap.objs.size (Obj.mapSeq (· ++ vs.toArray))).push (seqObj "list" vs.toArray 0)).get? (s.heap.objs.size + 1) = some (seqObj "list" vs.toArray 0) := by
    rw [← hsz]
    exact Heap.get?_push_size _ rfl
  show wpAny _ _ _ _ _ { s with heap := ((s.heap.push (seqObj "list" #[] 0)).update s.heap.objs.size (Obj.mapSeq (· ++ vs.toArray))).push (seqObj "list" vs.toArray 0) }
  rw [hsz]
  refine wpAny_bind (wpAny_holding (wpAny_call_entry slot_list_sort ⟨_, hoL, rfl⟩ entry_list_sort (list_sort_treeK strKind_oneLt hoL hS.keysOf (fun v₁ v₂ rest e => keyKind_strs (by rw [← e]; exact hS)) h64 fun st' a1 a2 => ⟨_, rfl, ?_⟩) (args_list_sort _)))
  obtain ⟨ss', h1, h2, h3⟩ := sorted_out_str hS a1 a2
  exact wpAny_pure ⟨_, rfl, h _ ss' h1 h2 h3⟩
end
def rSortedTS (K : PySem.W.Frag) : List V → Hp → VK → Prop := fun vs H Q => ∃ (a : Addr) (xs : List Str), vs = [V.ref a] ∧ SqT K H a (xs.map V.str) ∧ xs.length < 64 ∧ ∀ (ys : List Str) (p : Addr), ys.Perm xs → sortedS ys = true → H p = none → Q (.ref p) (upd H p (.lst (ys.map V.str)))
theorem cr_sortedTS {X : Cx} : CallR X (.builtin "sorted") (rSortedTS X.K) := by
  intro pins s σ H vs us Q I r h
  obtain ⟨a, xs, rfl, hs, h64, q⟩ := h
  obtain ⟨its, rv, hl, _⟩ := I.tuple hs
  rw [Vals.ref1 r]
  have hlen0 := rv.length
  rw [List.length_map] at hlen0
  refine sorted_tup hl rv.strs (by rw [← hlen0]; exact h64) fun out ys h1 h2 h3 => ?_
  obtain ⟨ep, he'⟩ := PyProof.Rows.sortedAll_at s.heap its out
  have hlen : (ys.map V.str).length ≤ sizeLine := by
    rw [List.length_map, h2.length_eq]
    exact small64 h64
  have fresh : H (s.heap.objs.size + 1) = none := I.hok.fresh (Nat.le_succ _)
  refine ⟨.ref _, upd H (s.heap.objs.size + 1) (.lst (ys.map V.str)), I.laid (t' := s.toks) (fun _ _ => PyProof.Rows.sortedAll_old) (Nat.le_succ _) ⟨hlen, out.toList, ep, vals_of_strs h1, he'⟩, rfl, ?_⟩
  exact q ys _ h2 h3 fresh
/-! ### an empty dict that will hold tuples -/
theorem inv_reD {X : Cx} {pins : List (Addr × Obj)} {σ : L2.St} {H : Hp} {s : Shared} {a : Addr} (I : Inv X pins σ H s) (h : H a = some (.dK [])) : Inv X pins σ (upd H a (.dT [])) s := by
  obtain ⟨hz, hm, vs, kv, o, es, ep, ho, hx, hd, _, hpr, hnd⟩ := I.hok a _ h
  cases kv
  have hes : es.toList = [] := by
    cases hE : es.toList with
    | nil => rfl
    | cons e r =>
      rw [hE] at hpr
      cases hpr
  have new : ObjOk X.prog X.w (upd H a (.dT [])) s.heap a (.dT []) := ⟨hz, hm, [], .nil, o, es, ep, ho, hx, hd, hes, List.nodup_nil⟩
  exact I.write (x := a) (e := a) (t' := s.toks) (h' := s.heap) (by rw [h]; trivial) (.inl rfl) (fun b v _ q => q) ⟨o, ho⟩ new
def tReD (te : TE) : TE := fun σ H Q => te σ H fun v H1 => ∃ a, v = .ref a ∧ H1 a = some (.dK []) ∧ Q v (upd H1 a (.dT []))
theorem pe_reD {X : Cx} {e : Expr} {te : TE} (h : PE X e te) : PE X e (tReD te) := by
  constructor
  intro pins s σ H Q I hw
  refine thn (h.run pins s σ H _ I hw) fun u s1 hh => ?_
  obtain ⟨v, H1, I1, r1, a, ev, ha, q⟩ := hh
  exact ⟨v, _, inv_reD I1 ha, r1, q⟩
section
variable (J : It) (g : TG) (tt : TT) (tk tv : TE) (vs : List Nat) (σ : L2.St) (D : Addr) (Qd : Hp → Prop)
/-- a dict comprehension, just m more turns -/
def UnD : Nat → Nat → Hp → Prop
  | 0, i, H => J.stop i H ∧ Qd H
  | m + 1, i, H => J.go i H ∧ ∀ x H', J.yld i H x H' → g x (wipe σ vs) H' fun σ2 H2 => wipe σ2 vs = wipe σ vs ∧ tt σ2 H2 fun b H3 =>
    if b = true then tk σ2 H3 fun y H4 => tv σ2 H4 fun z H5 => ∃ kvs k, y = kV k ∧ H5 D = some (.dK kvs) ∧ kvs.length < sizeLine ∧ UnD m (i + 1) (upd H5 D (.dK (putK kvs k z))) else UnD m (i + 1) H3
theorem unD (m : Nat) {H1 : Hp} (h : UnD J g tt tk tv vs σ D Qd m 0 (upd H1 D (.dK []))) : ∃ W : Nat → Nat → Hp → Prop, (∃ m, W 0 m (upd H1 D (.dK []))) ∧ ∀ i m H, W i m H →
    (J.stop i H ∧ Qd H) ∨ (J.go i H ∧ ∃ Nx : Hp → Prop, (∀ H', Nx H' → ∃ m', m' < m ∧ W (i + 1) m' H') ∧ ∀ x H', J.yld i H x H' → g x (wipe σ vs) H' fun σ2 H2 => wipe σ2 vs = wipe σ vs ∧ tt σ2 H2 fun b H3 =>
      if b = true then tk σ2 H3 fun y H4 => tv σ2 H4 fun z H5 => ∃ kvs k, y = kV k ∧ H5 D = some (.dK kvs) ∧ kvs.length < sizeLine ∧ Nx (upd H5 D (.dK (putK kvs k z))) else Nx H3) := by
  refine ⟨fun i m => UnD J g tt tk tv vs σ D Qd m i, ⟨m, h⟩, fun i m H w => ?_⟩
  cases m with
  | zero => exact .inl w
  | succ m => exact .inr ⟨w.1, UnD J g tt tk tv vs σ D Qd m (i + 1), fun H' n => ⟨m, Nat.lt_succ_self m, n⟩, w.2⟩
end
end Fh
set_option Elab.async false
set_option linter.all false
set_option maxRecDepth 100000
set_option maxHeartbeats 4000000
namespace Fh
open PySem PySem.Spec PyProof.Rows L2
/-! x in, x not in a tuple of data of any depth -/
section
variable {X : Cx}
def rNotInT (K : PySem.W.Frag) : R2 := fun x y H Q => ∃ d ds, Dp K H x d ∧ Dp K H y (.tuple ds) ∧ SeqAt.shaped d = true ∧ SeqAt.shaped (.tuple ds) = true ∧ Q (.bl (!ds.any fun z => PyData.eqv z d)) H
def rInT (K : PySem.W.Frag) : R2 := fun x y H Q => ∃ d ds, Dp K H x d ∧ Dp K H y (.tuple ds) ∧ SeqAt.shaped d = true ∧ SeqAt.shaped (.tuple ds) = true ∧ Q (.bl (ds.any fun z => PyData.eqv z d)) H
theorem op_notInT (hu : X.A.units + 65 < cLine) : OpR X (compareOp .NotIn) (rNotInT X.K) := fun pins s σ H x y v u Q I rx ry h => by
  obtain ⟨d, ds, hd, he, sd, se, q⟩ := h
  obtain ⟨as, r1⟩ := Dp.reads I d x v hd rx
  obtain ⟨bs, r2⟩ := Dp.reads I (.tuple ds) y u he ry
  refine SeqAt.notIn_tuple_reads r2 r1 (SeqAt.canLay_of_shaped se) (SeqAt.canLay_of_shaped sd) (room_in_shaped sd hu) ?_
  exact ⟨.bl _, H, I, rfl, q⟩
theorem op_inT (hu : X.A.units + 65 < cLine) : OpR X (compareOp .In) (rInT X.K) := fun pins s σ H x y v u Q I rx ry h => by
  obtain ⟨d, ds, hd, he, sd, se, q⟩ := h
  obtain ⟨as, r1⟩ := Dp.reads I d x v hd rx
  obtain ⟨bs, r2⟩ := Dp.reads I (.tuple ds) y u he ry
  refine SeqAt.in_tuple_reads r2 r1 (SeqAt.canLay_of_shaped se) (SeqAt.canLay_of_shaped sd) (room_in_shaped sd hu) ?_
  exact ⟨.bl _, H, I, rfl, q⟩
end
/-! comprehensions of two clauses turned out -/
section
variable (J : It) (g : TG) (tt : TT) (te : TE) (vs : List Nat) (σ : L2.St) (D : Addr) (Qd : Hp → Prop)
theorem unLi (m : Nat) {H1 : Hp} (h : UnL J g tt te vs σ D Qd m 0 H1) : ∃ W : Nat → Nat → Hp → Prop, (∃ m, W 0 m H1) ∧ ∀ i m H, W i m H →
    (J.stop i H ∧ Qd H) ∨ (J.go i H ∧ ∃ Nx : Hp → Prop, (∀ H', Nx H' → ∃ m', m' < m ∧ W (i + 1) m' H') ∧ ∀ x H', J.yld i H x H' → g x (wipe σ vs) H' fun σ2 H2 => wipe σ2 vs = wipe σ vs ∧ tt σ2 H2 fun b H3 =>
      if b = true then te σ2 H3 fun y H4 => ∃ acc, H4 D = some (.lst acc) ∧ acc.length < sizeLine ∧ Nx (upd H4 D (.lst (acc ++ [y]))) else Nx H3) := by
  refine ⟨fun i m => UnL J g tt te vs σ D Qd m i, ⟨m, h⟩, fun i m H w => ?_⟩
  cases m with
  | zero => exact .inl w
  | succ m => exact .inr ⟨w.1, UnL J g tt te vs σ D Qd m (i + 1), fun H' n => ⟨m, Nat.lt_succ_self m, n⟩, w.2⟩
end
section
variable (J : It) (g : TG) (tt : TT) (wi1 : TI) (g1 : TG) (tt1 : TT) (te : TE) (vs vs1 : List Nat) (σ : L2.St) (D : Addr) (Qd : Hp → Prop)
def UnM : Nat → Nat → Hp → Prop
  | 0, i, H => J.stop i H ∧ Qd H
  | m + 1, i, H => J.go i H ∧ ∀ x H', J.yld i H x H' → g x (wipe σ vs) H' fun σ2 H2 => wipe σ2 vs = wipe σ vs ∧ tt σ2 H2 fun b H3 =>
    if b = true then wi1 σ2 H3 fun J1 H4 => ∃ W1 : Nat → Nat → Hp → Prop, (∃ m, W1 0 m H4) ∧ ∀ j k H, W1 j k H →
      (J1.stop j H ∧ UnM m (i + 1) H) ∨ (J1.go j H ∧ ∃ Nx1 : Hp → Prop, (∀ H', Nx1 H' → ∃ k', k' < k ∧ W1 (j + 1) k' H') ∧ ∀ x H', J1.yld j H x H' → g1 x (wipe σ2 vs1) H' fun σ3 H5 => wipe σ3 vs1 = wipe σ2 vs1 ∧ tt1 σ3 H5 fun b H6 =>
        if b = true then te σ3 H6 fun y H7 => ∃ acc, H7 D = some (.lst acc) ∧ acc.length < sizeLine ∧ Nx1 (upd H7 D (.lst (acc ++ [y]))) else Nx1 H6)
    else UnM m (i + 1) H3
theorem unM (m : Nat) {H1 : Hp} (h : UnM J g tt wi1 g1 tt1 te vs vs1 σ D Qd m 0 H1) : ∃ W : Nat → Nat → Hp → Prop, (∃ m, W 0 m H1) ∧ ∀ i m H, W i m H →
    (J.stop i H ∧ Qd H) ∨ (J.go i H ∧ ∃ Nx : Hp → Prop, (∀ H', Nx H' → ∃ m', m' < m ∧ W (i + 1) m' H') ∧ ∀ x H', J.yld i H x H' → g x (wipe σ vs) H' fun σ2 H2 => wipe σ2 vs = wipe σ vs ∧ tt σ2 H2 fun b H3 =>
    if b = true then wi1 σ2 H3 fun J1 H4 => ∃ W1 : Nat → Nat → Hp → Prop, (∃ m, W1 0 m H4) ∧ ∀ j k H, W1 j k H →
      (J1.stop j H ∧ Nx H) ∨ (J1.go j H ∧ ∃ Nx1 : Hp → Prop, (∀ H', Nx1 H' → ∃ k', k' < k ∧ W1 (j + 1) k' H') ∧ ∀ x H', J1.yld j H x H' → g1 x (wipe σ2 vs1) H' fun σ3 H5 => wipe σ3 vs1 = wipe σ2 vs1 ∧ tt1 σ3 H5 fun b H6 =>
        if b = true then te σ3 H6 fun y H7 => ∃ acc, H7 D = some (.lst acc) ∧ acc.length < sizeLine ∧ Nx1 (upd H7 D (.lst (acc ++ [y]))) else Nx1 H6)
    else Nx H3) := by
  refine ⟨fun i m => UnM J g tt wi1 g1 tt1 te vs vs1 σ D Qd m i, ⟨m, h⟩, fun i m H w => ?_⟩
  cases m with
  | zero => exact .inl w
  | succ m => exact .inr ⟨w.1, UnM J g tt wi1 g1 tt1 te vs vs1 σ D Qd m (i + 1), fun H' n => ⟨m, Nat.lt_succ_self m, n⟩, w.2⟩
end
/-! x *= e, whole numbers -/
def ipM : TIp := fun x y H Q => ∃ i j, x = .int i ∧ y = .int j ∧ IntMulOk i j ∧ Q (.int (i * j)) H
theorem ip_mul {X : Cx} : PIp X .Mult ipM := fun pins s σ H x y v u Q I r1 r2 h => by
  obtain ⟨i, j, rfl, rfl, hm, q⟩ := h
  obtain ⟨t, rfl⟩ := r1
  obtain ⟨t', rfl⟩ := r2
  exact PyProof.Rows.imul_int (show EP X pins σ Q _ _ from ⟨.int _, H, I.tok _, ⟨_, rfl⟩, q⟩) hm
/-! rules whose reading names the written part K, for the blocks of comprehensions -/
section
variable {X : Cx} {tg l : Expr} {tl : TE}
def rLenS (K : PySem.W.Frag) : List V → Hp → VK → Prop := fun xs H Q => ∃ p ys, xs = [.ref p] ∧ (SqL K H p ys ∨ SqT K H p ys) ∧ Q (.int ys.length) H
theorem lenK (K : PySem.W.Frag) (h : X.K = K := by rfl) : CallR X (.builtin "len") (rLenS K) := by
  subst h
  exact call_len_seq
theorem ixL (K : PySem.W.Frag) (h : X.K = K := by rfl) : IxR X (rIxL K) := by
  subst h
  exact ix_list
theorem ixT (K : PySem.W.Frag) (h : X.K = K := by rfl) : IxR X (rIxT K) := by
  subst h
  exact ix_tup
end
end Fh
set_option Elab.async false
set_option linter.all false
set_option maxRecDepth 100000
set_option maxHeartbeats 4000000
namespace Fh
open PySem PySem.Spec PyProof.Rows L2
/-! isinstance of the error that an except suite holds, of any own class, with a dict of its own or without -/
def rIsX (K : PySem.W.Frag) (a : Addr) (cls : Value) (d : Option Addr) : List V → Hp → VK → Prop := fun xs H Q => ∃ (D : Addr) (c : V) (cv : Value) (b : Bool), cls = .ref D ∧ ExcC K D ∧ xs = [.ref a, c] ∧ (∀ u, RelV c u → u = cv) ∧ PySem.W.kitOne K (.ref D) cv = some b ∧
  (∀ dd, d = some dd → ∃ fs, H dd = some (.xd fs)) ∧ Q (.bl b) H
theorem call_isX {X : Cx} {a : Addr} {oe : Obj} {cls : Value} {d : Option Addr} {pn : List (Addr × Obj)} (hz : Zc cls d oe) (hf : ∃ vs, oe.data = .fields vs) : CallR (X.suite a ((a, oe) :: pn)) (.builtin "isinstance") (rIsX X.K a cls d) := by
  intro pins s σ H xs us Q I r h
  obtain ⟨D, c, cv, b, rfl, C, rfl, hcv, e, hd, q⟩ := h
  cases r with
  | cons rx rr =>
    obtain ⟨u, rfl, rt⟩ := vals1 rr
    cases rx
    have ec := hcv _ rt
    subst ec
    obtain ⟨hget, _⟩ := I.pin (a, oe) (List.mem_append.mpr (.inl List.mem_cons_self))
    obtain ⟨vs, hv⟩ := hf
    have no : PySem.W.notCls oe = true := by
      unfold PySem.W.notCls
      rw [hv]
    have J : ∃ od, PySem.W.InstAt s.heap a oe D od := by
      cases d with
      | none => exact ⟨none, hget, hz.1, no, by rw [hz.2]; trivial⟩
      | some dd =>
        obtain ⟨fs, hdd⟩ := hd dd rfl
        obtain ⟨mA, hns, _⟩ := I.hok dd _ hdd
        obtain ⟨od, ho, _⟩ := lookIn_ns hns
        exact ⟨some od, hget, hz.1, no, by rw [hz.2]; exact ho⟩
    obtain ⟨od, J⟩ := J
    obtain ⟨cd, hc, _⟩ := PySem.W.any_some C.hd
    have hcl : (PySem.W.clsIn X.K D).isSome = true := by
      rw [hc]
      rfl
    exact PySem.W.kia_one (PySem.W.kitx_exc hcl C.hg C.hk C.hs C.ha C.hn C.ht C.hm) I.kIn J e (fun z => nomatch z) fun tk => ⟨.bl b, H, I.kept (t' := tk) fun _ _ z => z, rfl, q⟩
end Fh
set_option Elab.async false
set_option linter.all false
set_option maxRecDepth 100000
set_option maxHeartbeats 4000000
/-! the head's hook with the statics beside, and with the __init__s of own errors that say super() -/
namespace Fh
open PySem PySem.Spec PyProof.Rows L2 He
/-- such an __init__: where it stands, its text -/
structure DefC where
  at_ : Str × Option Str
  qual : Str
  params : Arguments
  body : List Stmt
  scope : Scope
abbrev FnC : Type := Option (Str × Str × Arguments × FuncBody × Scope × Addr × List Str × Addr)
def fnC (K : PySem.W.Frag) (p : Str × Option Str) : FnC := match K.lookup (fAd K p) with
  | some ⟨_, _, .func fd, _⟩ => some (fd.name, fd.qualname, fd.params, fd.body, fd.scope, fd.globals, fd.closure.map (·.1), fd.builtins)
  | _ => none
def DefC.val (d : DefC) : FnC := some ("__init__", d.qual, d.params, .stmts d.body, d.scope, mainGlobals, ["__class__"], builtinsNs)
def codeB (K : PySem.W.Frag) (file : Str) (C fI : Addr) (qual : Str) : Bool := match K.lookup fI with
  | some ⟨_, _, .func fd, _⟩ => (match fd.code, fd.closure, fd.defaults with
    | .ref cda, [(_, cc)], .none => PySem.W.codeIn K (.ref cda) qual && ((match K.lookup cda with
        | some ⟨_, _, .fields vs, _⟩ => (match vs[2]? with
          | some (Value.str fl _) => file == fl
          | _ => false)
        | _ => false) && (match K.lookup cc with
        | some ⟨_, _, .cell (some (.ref C')), _⟩ => decide (C' = C)
        | _ => false))
    | _, _, _ => false)
  | _ => false
theorem codeB_ok {K : PySem.W.Frag} {file : Str} {C : Addr} {d : DefC} (e : fnC K d.at_ = d.val) (h : codeB K file C (fAd K d.at_) d.qual = true) : ∃ (oc : Value) (od : Option Addr) (kV doc pm : Value) (an : Option Addr) (cda cc : Addr) (ct : Value) (osl : Array (Option Value)) (ccl cl : Value) (cdd cld : Option Addr) (vs : Array Value) (ccs csl : Array (Option Value)) (fl : Str) (tf : Tok),
    K.lookup (fAd K d.at_) = some ⟨oc, od, .func (PySem.W.ksFn "__init__" d.qual d.params d.body d.scope .none kV doc pm an (.ref cda) ct cc), osl⟩ ∧ PySem.W.codeIn K (.ref cda) d.qual = true ∧
    K.lookup cda = some ⟨ccl, cdd, .fields vs, ccs⟩ ∧ vs[2]? = some (.str fl tf) ∧ (file == fl) = true ∧ K.lookup cc = some ⟨cl, cld, .cell (some (.ref C)), csl⟩ := by
  unfold codeB at h
  unfold fnC at e
  cases q : K.lookup (fAd K d.at_) with
  | none =>
    rw [q] at h
    cases h
  | some o =>
    obtain ⟨oc, od, dt, osl⟩ := o
    rw [q] at h e
    cases dt with
    | func fd =>
      obtain ⟨n1, n2, n3, n4, n5, n6, n7, n8, n9, n10, n11, n12, n13, n14, n15⟩ := fd
      have e2 : (some (n1, n2, n3, n4, n5, n6, n7.map (·.1), n15) : FnC) = (some (("__init__" : Str), d.qual, d.params, FuncBody.stmts d.body, d.scope, mainGlobals, [("__class__" : Str)], builtinsNs) : FnC) := e
      simp only [Option.some.injEq, Prod.mk.injEq] at e2
      obtain ⟨h1, h2, h3, h4, h5, h6, h7, h8⟩ := e2
      subst h1 h2 h3 h4 h5 h6 h8
      cases n13 with
      | ref cda =>
        match n7, h7, n8, h with
        | [(y, cc)], h7, .none, h =>
          have hy : y = ("__class__" : Str) := by
            have z : [y] = [("__class__" : Str)] := h7
            injection z
          subst hy
          obtain ⟨k1, k2⟩ := ba (show (PySem.W.codeIn K (.ref cda) d.qual && ((match K.lookup cda with
            | some ⟨_, _, .fields vs, _⟩ => (match vs[2]? with
              | some (Value.str fl _) => file == fl
              | _ => false)
            | _ => false) && (match K.lookup cc with
            | some ⟨_, _, .cell (some (.ref C')), _⟩ => decide (C' = C)
            | _ => false))) = true from h)
          obtain ⟨k3, k4⟩ := ba k2
          cases q2 : K.lookup cda with
          | none =>
            rw [q2] at k3
            cases k3
          | some o2 =>
            obtain ⟨oc2, od2, dt2, osl2⟩ := o2
            rw [q2] at k3
            cases dt2 with
            | fields vs =>
              have k5 : (match vs[2]? with
                | some (Value.str fl _) => file == fl
                | _ => false) = true := k3
              cases q3 : vs[2]? with
              | none =>
                rw [q3] at k5
                cases k5
              | some v =>
                rw [q3] at k5
                cases v with
                | str fl tk =>
                  cases q4 : K.lookup cc with
                  | none =>
                    rw [q4] at k4
                    cases k4
                  | some o4 =>
                    obtain ⟨oc4, od4, dt4, osl4⟩ := o4
                    rw [q4] at k4
                    cases dt4 with
                    | cell cv =>
                      cases cv with
                      | none => cases k4
                      | some cv =>
                        cases cv with
                        | ref C' =>
                          have e4 : C' = C := of_decide_eq_true k4
                          subst e4
                          exact ⟨oc, od, n9, n10, n11, n12, cda, cc, n14, osl, oc2, oc4, od2, od4, vs, osl2, osl4, fl, tk, rfl, k1, q2, q3, k5, q4⟩
                        | _ => cases k4
                    | _ => cases k4
                | _ => cases k5
            | _ => cases k3
        | [], h7, _, h => cases h7
        | _ :: _ :: _, h7, _, h => exact absurd (congrArg List.length h7) (by simp)
      | _ => cases h
    | _ => cases h
/-- the class of such an error -/
def supClsB (K : PySem.W.Frag) (C : Addr) : Bool := match K.lookup C with
  | some ⟨.type t, _, .cls cd, sl⟩ => (match cd.mro, sl.toList with
    | .ref C' :: bm, [_, _, _, _, some (.builtin n), _] => decide (t = "type") && (decide (C' = C) && (decide (n = "ValueError.__new__") && (!cd.hasDel && (cd.hasDict && (HandSPX.refsVE bm && eqO (PySem.W.alongIn K "__init__" bm) (some (some (.builtin "ValueError.__init__"))))))))
    | _, _ => false)
  | _ => false
theorem supCls_ok {K : PySem.W.Frag} {C : Addr} (h : supClsB K C = true) : ∃ nm q N bs bm sn sub ab col dd k0 k1 k2 k3 k5, K.lookup C = some (excClassObj nm q C N bs bm true sn sub ab col dd k0 k1 k2 k3 k5 "ValueError.__new__") ∧ HandSPX.refsVE bm = true ∧ PySem.W.alongIn K "__init__" bm = some (some (.builtin "ValueError.__init__")) := by
  unfold supClsB at h
  split at h
  · rename_i t dd cd sl ho
    split at h
    · rename_i C' bm k0 k1 k2 k3 n k5 hm hs
      obtain ⟨h1, h⟩ := ba h
      obtain ⟨h2, h⟩ := ba h
      obtain ⟨h3, h⟩ := ba h
      obtain ⟨h4, h⟩ := ba h
      obtain ⟨h5, h⟩ := ba h
      obtain ⟨h6, h7⟩ := ba h
      obtain ⟨nm, bs, mro, ns, qn, hd, sn, sub, ab, col, del⟩ := cd
      have e1 := of_decide_eq_true h1
      have e2 := of_decide_eq_true h2
      have e3 := of_decide_eq_true h3
      dsimp only at hm h4 h5
      subst hm e1 e2 e3 h5
      have hdel : del = false := by
        cases del with
        | false => rfl
        | true => cases h4
      subst hdel
      have hsl : sl = #[k0, k1, k2, k3, some (.builtin "ValueError.__new__"), k5] := by
        obtain ⟨l⟩ := sl
        dsimp only at hs
        rw [hs]
      subst hsl
      exact ⟨nm, qn, ns, bs, bm, sn, sub, ab, col, dd, k0, k1, k2, k3, k5, ho, h6, eqO_ok h7⟩
    · cases h
  · cases h
/-- all that is asked of the class and its __init__ -/
def supB (K : PySem.W.Frag) (file x f : Str) : Bool := supClsB K (ga K x) && (eqO (PySem.W.nsIn K mainGlobals x) (some (some (.ref (ga K x)))) && (eqO (PySem.W.findIn K (.ref (ga K x)) "__setattr__") (some (some (.builtin "object.__setattr__"))) && (eqO (PySem.W.findIn K (.ref (ga K x)) f) (some none) &&
  (eqO (PySem.W.findIn K (.ref (ga K x)) "__init__") (some (some (.ref (ma K (ga K x) "__init__")))) && (decide (PySem.W.typeIn K (.ref (ma K (ga K x) "__init__")) = some (.type "function")) && (PySem.W.keepIn K (.ref (ga K x)) && (decide (PySem.W.subIn K (.ref (ga K x)) (.type "BaseException") = some true) &&
  (decide (PySem.W.typeIn K (.ref (ga K x)) = some (.type "type")) && (decide (PySem.W.subIn K (.ref (ga K x)) (.type "ValueError") = some true) && (decide (PySem.W.mroIn K (ga K x) (.ref (ga K x)) = some true) && (eqO (PySem.W.nsIn K cStatics "thirdparty.any") (some none) &&
  codeB K file (ga K x) (ma K (ga K x) "__init__") (x ++ ".__init__"))))))))))))
/-- facts of a caught error for isinstance -/
def isCB (K : PySem.W.Frag) (D : Addr) : Bool := eqO (PySem.W.findIn K (.ref D) "__getattribute__") (some (some (.builtin "BaseException.__getattribute__"))) && (eqO (PySem.W.findIn K (.ref D) "__getattr__") (some none) && (decide (PySem.W.subIn K (.ref D) (.type "BaseException") = some true) && (PySem.W.hasDictIn K D &&
  (eqO (PySem.W.findIn K (.ref D) "__class__") (some (some (.builtin "object.__class__"))) && (eqO (PySem.W.specialIn K (.builtin "object.__class__") "__get__") (some (some (.builtin "getset_descriptor.__get__"))) && (decide (PySem.W.takesIn K (.builtin "object.__class__") = some true) && decide (PySem.W.mroIn K D (.type "object") = some true)))))))
theorem isCB_ok {K : PySem.W.Frag} {D : Addr} (h : isCB K D = true) : ExcC K D := by
  obtain ⟨h1, h⟩ := ba h
  obtain ⟨h2, h⟩ := ba h
  obtain ⟨h3, h⟩ := ba h
  obtain ⟨h4, h⟩ := ba h
  obtain ⟨h5, h⟩ := ba h
  obtain ⟨h6, h⟩ := ba h
  obtain ⟨h7, h8⟩ := ba h
  exact ⟨eqO_ok h1, eqO_ok h2, of_decide_eq_true h3, h4, eqO_ok h5, eqO_ok h6, of_decide_eq_true h7, of_decide_eq_true h8⟩
/-! ### the hook -/
def asF (g : Addr → Option Obj) (n : Nat) : List Addr := asD g n ++ [cStatics]
abbrev AlF : Type := (AlD × Bool) × List FnC
def obsF (n : Nat) (fa : List Fa) (fn : List DefD) (cf : List DefC) (tf : List Defn) (ex : PySem.W.Frag → Bool) (g : Addr → Option Obj) : AlF := ((obsD fa fn (frT g (asF g n)), ex (frT g (asF g n)) && tabsB g tf (frT g (asF g n))), cf.map fun d => fnC (frT g (asF g n)) d.at_)
def valF (fn : List DefD) (cf : List DefC) : AlF := ((valD fn, true), cf.map DefC.val)
structure SaysF (fa : List Fa) (fn : List DefD) (cf : List DefC) (tf : List Defn) (ex : PySem.W.Frag → Bool) (h : Heap) (K : PySem.W.Frag) : Prop where
  d : SaysD fa fn K
  more : ex K = true
  c : ∀ d ∈ cf, fnC K d.at_ = d.val
  hd : ∀ p ∈ tf, PySem.W.codeHdIn K (cT K p).1 (cT K p).2 = true
  out : ∀ p ∈ tf, K.lookup (cT K p).2 = none
  empty : ∀ p ∈ tf, h.get? (cT K p).2 = some { cls := .none, data := .fields #[] }
theorem saysF_of {n : Nat} {fa : List Fa} {fn : List DefD} {cf : List DefC} {tf : List Defn} {ex : PySem.W.Frag → Bool} {h : Heap} (e : obsF n fa fn cf tf ex h.get? = valF fn cf) : SaysF fa fn cf tf ex h (frT h.get? (asF h.get? n)) := by
  generalize hK : frT h.get? (asF h.get? n) = K
  have e' : ((obsD fa fn K, ex K && tabsB h.get? tf K), cf.map fun d => fnC K d.at_) = ((valD fn, true), cf.map DefC.val) := by
    rw [← hK]
    exact e
  have e1 : obsD fa fn K = valD fn := congrArg (fun z : AlF => z.1.1) e'
  have e2 : (ex K && tabsB h.get? tf K) = true := congrArg (fun z : AlF => z.1.2) e'
  have e3 : (cf.map fun d => fnC K d.at_) = cf.map DefC.val := congrArg (fun z : AlF => z.2) e'
  obtain ⟨h1, h2⟩ := ba e2
  have key : ∀ p ∈ tf, PySem.W.codeHdIn K (cT K p).1 (cT K p).2 = true ∧ ∃ o, h.get? (cT K p).2 = some o ∧ emptyTab o = true := fun p hp => by
    obtain ⟨h3, h4⟩ := ba (List.all_eq_true.mp h2 p hp)
    refine ⟨h3, ?_⟩
    cases q : h.get? (cT K p).2 with
    | none =>
      rw [q] at h4
      cases h4
    | some o =>
      rw [q] at h4
      exact ⟨o, rfl, h4⟩
  refine ⟨e1, h1, fun d hd => List.map_inj_left.mp e3 d hd, fun p hp => (key p hp).1, fun p hp => ?_, fun p hp => ?_⟩
  · obtain ⟨_, o, q, z⟩ := key p hp
    rw [← hK]
    rw [← hK] at q
    exact frT_none q z
  · obtain ⟨_, o, q, z⟩ := key p hp
    rw [q, emptyTab_eq z]
def hookF (n : Nat) (fa : List Fa) (fn : List DefD) (cf : List DefC) (tf : List Defn) (ex : PySem.W.Frag → Bool) : PySem.W.Hook where
  α := AlF
  obs := fun s => obsF n fa fn cf tf ex s.heap.get?
  val := fun _ => valF fn cf
  says := fun _ h => ∃ K : PySem.W.Frag, K.In h ∧ SaysF fa fn cf tf ex h K
  of := fun _ _ e => ⟨_, frT_in, saysF_of e⟩
  keeps := fun _ _ _ ⟨K, hK, c⟩ k => ⟨K, PySem.W.Frag.In.keeps hK k, ⟨c.d, c.more, c.c, c.hd, c.out, fun p hp => k _ _ (c.empty p hp)⟩⟩
theorem obsF_eq {n : Nat} {fa : List Fa} {fn : List DefD} {cf : List DefC} {tf : List Defn} {ex : PySem.W.Frag → Bool} {g : Addr → Option Obj} {s : Shared} (h : ∀ a, g a = s.heap.get? a) : obsF n fa fn cf tf ex g = (hookF n fa fn cf tf ex).obs s := by
  have e : g = s.heap.get? := funext h
  rw [e]
  rfl
end Fh
set_option Elab.async false
set_option linter.all false
set_option maxRecDepth 100000
namespace Fv
open PySem PySem.Spec PyProof.Rows L2
/-- all tables stand apart -/
def farB (K : PySem.W.Frag) (tf : List He.Defn) : Bool := tf.all fun p => tf.all fun q => decide (p = q) || decide ((He.cT K p).2 ≠ (He.cT K q).2)
theorem farB_ok {K : PySem.W.Frag} {tf : List He.Defn} (h : farB K tf = true) : ∀ p ∈ tf, ∀ q ∈ tf, p ≠ q → (He.cT K p).2 ≠ (He.cT K q).2 := fun p hp q hq ne => by
  have z := List.all_eq_true.mp (List.all_eq_true.mp h p hp) q hq
  rw [decide_eq_false ne, Bool.false_or] at z
  exact of_decide_eq_true z
/-- a written tuple of texts -/
def sameS : List Value → List Str → Bool
  | [], [] => true
  | .str x _ :: us, z :: zs => decide (x = z) && sameS us zs
  | _, _ => false
theorem sameS_ok : ∀ {us : List Value} {zs : List Str}, sameS us zs = true → Vals (zs.map V.str) us
  | [], [], _ => .nil
  | .str x t :: us, z :: zs, h => by
    unfold sameS at h
    rw [Bool.and_eq_true] at h
    cases of_decide_eq_true h.1
    exact .cons ⟨t, rfl⟩ (sameS_ok h.2)
def tupB (K : PySem.W.Frag) (x : Str) (zs : List Str) : Bool := match K.lookup (He.ga K x) with
  | some o => decide (o.cls = .type "tuple") && (match o.data with
    | .seq its _ => sameS its.toList zs && decide (its.size ≤ 1000)
    | _ => false)
  | none => false
def TupC (K : PySem.W.Frag) (x : Str) (zs : List Str) : Prop := ∀ H : Hp, SqT K H (He.ga K x) (zs.map V.str)
theorem tupB_ok {K : PySem.W.Frag} {x : Str} {zs : List Str} (h : tupB K x zs = true) : TupC K x zs := fun H => by
  unfold tupB at h
  split at h
  · rename_i o e
    rw [Bool.and_eq_true] at h
    obtain ⟨h1, h2⟩ := h
    split at h2
    · rename_i its n e2
      rw [Bool.and_eq_true] at h2
      have hz : its.size ≤ 1000 := of_decide_eq_true h2.2
      exact .inr ⟨o, its, n, e, of_decide_eq_true h1, e2, by rw [sizeLine_eq]; omega, sameS_ok h2.1⟩
    · cases h2
  · cases h
end Fv
set_option Elab.async false
set_option linter.all false
set_option maxRecDepth 100000
set_option maxHeartbeats 4000000
/-! Fv: what a def computes, as a plain function over plain data (W) and a plain heap (LH); the judgements that tie it to the text -/
namespace Fv
open PySem PySem.Spec PyProof.Rows L2 Fh
/-- plain data; a tuple is its items, a thing that can change is a number -/
inductive W where
  | non | bl (b : Bool) | int (i : Int) | str (x : Str) | tup (xs : List W) | ref (i : Nat)
/-- what a number stands for -/
inductive LO where
  /-- a list; a list that is only read (the script) -/
  | lst (xs : List W) | rd (xs : List W)
  /-- a dict; a dict that is walked -/
  | dct (kvs : List (Key × W)) | dcl (kvs : List (Key × W))
  | ins (c : Str) (fs : List (Str × W))
  /-- the k-th lambda of the text with what its cells hold; one that was called -/
  | lam (k : Nat) (xs : List W) | dead
abbrev LH := List LO
abbrev Sl := List (Option W)
inductive R (α : Type) where
  | ok (a : α) (h : LH)
  | ex (c : Str) (p : Option (Str × W)) (h : LH)
  | bad
abbrev M (α : Type) := LH → R α
def bnd {α β : Type} (x : M α) (f : α → M β) : M β := fun h => match x h with
  | .ok a h' => f a h'
  | .ex c p h' => .ex c p h'
  | .bad => .bad
def ret {α : Type} (a : α) : M α := fun h => .ok a h
/-- an answer, or none that is spoken of -/
def opt {α : Type} (o : Option α) : M α := fun h => match o with
  | some a => .ok a h
  | none => .bad
/-- .. with a new heap -/
def opt2 {α : Type} (o : LH → Option (α × LH)) : M α := fun h => match o h with
  | some (a, h') => .ok a h'
  | none => .bad
/-! ### plain data and the machine's -/
mutual
inductive RelW (K : PySem.W.Frag) (m : List Addr) (H : Hp) : W → V → Prop
  | non : RelW K m H .non .non
  | bl (b : Bool) : RelW K m H (.bl b) (.bl b)
  | int (i : Int) : RelW K m H (.int i) (.int i)
  | str (x : Str) : RelW K m H (.str x) (.str x)
  | ref {i : Nat} {a : Addr} : m[i]? = some a → RelW K m H (.ref i) (.ref a)
  | tup {xs : List W} {a : Addr} {vs : List V} : SqT K H a vs → RelWs K m H xs vs → RelW K m H (.tup xs) (.ref a)
inductive RelWs (K : PySem.W.Frag) (m : List Addr) (H : Hp) : List W → List V → Prop
  | nil : RelWs K m H [] []
  | cons {x : W} {xs : List W} {v : V} {vs : List V} : RelW K m H x v → RelWs K m H xs vs → RelWs K m H (x :: xs) (v :: vs)
end
/-- things may be new, tuples stay -/
structure Lt (K : PySem.W.Frag) (m : List Addr) (H : Hp) (m' : List Addr) (H' : Hp) : Prop where
  pre : ∃ t, m' = m ++ t
  tup : ∀ a vs, SqT K H a vs → SqT K H' a vs
/-- .. what is no number's and no table stays -/
structure Le (K : PySem.W.Frag) (m : List Addr) (H : Hp) (m' : List Addr) (H' : Hp) : Prop where
  pre : ∃ t, m' = m ++ t
  tup : ∀ a vs, SqT K H a vs → SqT K H' a vs
  oth : ∀ b o, H b = some o → (∀ ps, o ≠ .tbl ps) → b ∉ m → H' b = some o ∧ b ∉ m'
  frz : ∀ b o u, H b = some (.frz o u) → H' b = some (.frz o u)
  ext : ∀ b φ, H b = some (.ext φ) → H' b = some (.ext φ)
section
variable {K : PySem.W.Frag} {m m1 m2 : List Addr} {H H1 H2 : Hp}
theorem Le.refl : Le K m H m H := ⟨⟨[], (List.append_nil _).symm⟩, fun _ _ h => h, fun _ _ h _ n => ⟨h, n⟩, fun _ _ _ h => h, fun _ _ h => h⟩
theorem Le.trans (a : Le K m H m1 H1) (b : Le K m1 H1 m2 H2) : Le K m H m2 H2 := by
  obtain ⟨t, rfl⟩ := a.pre
  obtain ⟨u, rfl⟩ := b.pre
  refine ⟨⟨t ++ u, by rw [List.append_assoc]⟩, fun c vs h => b.tup c vs (a.tup c vs h), fun c o h nt n => ?_, fun c o u h => b.frz c o u (a.frz c o u h), fun c φ h => b.ext c φ (a.ext c φ h)⟩
  obtain ⟨h1, n1⟩ := a.oth c o h nt n
  exact b.oth c o h1 nt n1
theorem Le.lt (a : Le K m H m1 H1) : Lt K m H m1 H1 := ⟨a.pre, a.tup⟩
theorem Lt.at (a : Lt K m H m1 H1) {i : Nat} {p : Addr} (e : m[i]? = some p) : m1[i]? = some p := by
  obtain ⟨t, rfl⟩ := a.pre
  rw [List.getElem?_append_left (List.getElem?_eq_some_iff.mp e).1]
  exact e
theorem Le.at (a : Le K m H m1 H1) {i : Nat} {p : Addr} (e : m[i]? = some p) : m1[i]? = some p := by
  obtain ⟨t, rfl⟩ := a.pre
  rw [List.getElem?_append_left (List.getElem?_eq_some_iff.mp e).1]
  exact e
mutual
theorem RelW.mono0 (l : Lt K m H m1 H1) : ∀ {w : W} {v : V}, RelW K m H w v → RelW K m1 H1 w v
  | _, _, .non => .non
  | _, _, .bl b => .bl b
  | _, _, .int i => .int i
  | _, _, .str x => .str x
  | _, _, .ref e => .ref (l.at e)
  | _, _, .tup s r => .tup (l.tup _ _ s) (RelWs.mono0 l r)
theorem RelWs.mono0 (l : Lt K m H m1 H1) : ∀ {ws : List W} {vs : List V}, RelWs K m H ws vs → RelWs K m1 H1 ws vs
  | _, _, .nil => .nil
  | _, _, .cons r t => .cons (RelW.mono0 l r) (RelWs.mono0 l t)
end
theorem RelW.mono (l : Le K m H m1 H1) {w : W} {v : V} (r : RelW K m H w v) : RelW K m1 H1 w v := r.mono0 l.lt
theorem RelWs.mono (l : Le K m H m1 H1) {w : List W} {v : List V} (r : RelWs K m H w v) : RelWs K m1 H1 w v := r.mono0 l.lt
theorem RelWs.length : ∀ {ws : List W} {vs : List V}, RelWs K m H ws vs → ws.length = vs.length
  | _, _, .nil => rfl
  | _, _, .cons _ t => congrArg (· + 1) t.length
theorem RelWs.append : ∀ {ws xs : List W} {vs us : List V}, RelWs K m H ws vs → RelWs K m H xs us → RelWs K m H (ws ++ xs) (vs ++ us)
  | _, _, _, _, .nil, s => s
  | _, _, _, _, .cons r t, s => .cons r (t.append s)
theorem RelWs.get : ∀ {ws : List W} {vs : List V} {i : Nat} {w : W}, RelWs K m H ws vs → ws[i]? = some w → ∃ v, vs[i]? = some v ∧ RelW K m H w v
  | _, _, _, _, .nil, e => by simp at e
  | _, _, 0, _, .cons r _, e => by simp at e; subst e; exact ⟨_, rfl, r⟩
  | _, _, i + 1, w, .cons _ t, e => by
    obtain ⟨v, h1, h2⟩ := RelWs.get (i := i) (w := w) t (by simpa using e)
    exact ⟨v, by simpa using h1, h2⟩
theorem RelWs.drop : ∀ {ws : List W} {vs : List V} (n : Nat), RelWs K m H ws vs → RelWs K m H (ws.drop n) (vs.drop n)
  | _, _, 0, r => r
  | _, _, _ + 1, .nil => .nil
  | _, _, n + 1, .cons _ t => RelWs.drop n t
theorem RelWs.take : ∀ {ws : List W} {vs : List V} (n : Nat), RelWs K m H ws vs → RelWs K m H (ws.take n) (vs.take n)
  | _, _, 0, _ => .nil
  | _, _, _ + 1, .nil => .nil
  | _, _, n + 1, .cons r t => .cons r (RelWs.take n t)
theorem RelWs.set {w : W} {v : V} (r : RelW K m H w v) : ∀ {ws : List W} {vs : List V} (i : Nat), RelWs K m H ws vs → RelWs K m H (ws.set i w) (vs.set i v)
  | _, _, _, .nil => .nil
  | _, _, 0, .cons _ t => .cons r t
  | _, _, i + 1, .cons q t => .cons q (RelWs.set r i t)
end
/-- pairs of a dict -/
inductive RelKV (K : PySem.W.Frag) (m : List Addr) (H : Hp) : List (Key × W) → List (Key × V) → Prop
  | nil : RelKV K m H [] []
  | cons {k : Key} {w : W} {v : V} {ks : List (Key × W)} {vs : List (Key × V)} : RelW K m H w v → RelKV K m H ks vs → RelKV K m H ((k, w) :: ks) ((k, v) :: vs)
/-- fields -/
inductive RelF (K : PySem.W.Frag) (m : List Addr) (H : Hp) : List (Str × W) → List (Str × V) → Prop
  | nil : RelF K m H [] []
  | cons {f : Str} {w : W} {v : V} {ks : List (Str × W)} {vs : List (Str × V)} : RelW K m H w v → RelF K m H ks vs → RelF K m H ((f, w) :: ks) ((f, v) :: vs)
/-- a lambda of the text: its name, its text, the names of its cells -/
structure LamDat where
  q : Str
  params : Arguments
  body : Expr
  scope : Scope
  free : List Str
/-- the tables of code objects: those of generator expressions, those of lambdas; the lambdas that are kept -/
structure Tbs where
  tg : List Addr
  tl : List (Addr × Str)
  lams : List LamDat := []
/-- the cell at c is the object o -/
def CellX (c : Addr) (o : Obj) : HO := .ext fun h => h.get? c = some o
/-- cells by name and what they hold -/
inductive RelC (K : PySem.W.Frag) (m : List Addr) (H : Hp) : List Str → List (Str × Addr) → List W → Prop
  | nil : RelC K m H [] [] []
  | cons {x : Str} {c : Addr} {o : Obj} {u : Value} {v : V} {w : W} {xs : List Str} {cl : List (Str × Addr)} {ws : List W} : H c = some (CellX c o) → o.data = .cell (some u) → RelV v u → RelW K m H w v → (∀ p ∈ cl, p.2 ≠ c) → RelC K m H xs cl ws → RelC K m H (x :: xs) ((x, c) :: cl) (w :: ws)
def LOk (K : PySem.W.Frag) (T : Tbs) (m : List Addr) (H : Hp) (a : Addr) : LO → Prop
  | .lst xs => ∃ vs, H a = some (.lst vs) ∧ RelWs K m H xs vs
  | .rd xs => ∃ o vs, H a = some (.frz o (.lst vs)) ∧ RelWs K m H xs vs
  | .dct kvs => ∃ vs, H a = some (.dK vs) ∧ RelKV K m H kvs vs
  | .dcl kvs => ∃ o vs, H a = some (.frz o (.dK vs)) ∧ RelKV K m H kvs vs
  | .ins c fs => ∃ dx vs, H a = some (.ins (He.ga K c) dx vs) ∧ RelF K m H fs vs
  | .lam k ws => ∃ D cl c', T.lams[k]? = some D ∧ H a = some (Fh.LamO a D.q D.params D.body D.scope cl c') ∧ H c' = some (LamX.CodeO c' D.q) ∧ RelC K m H D.free cl ws
  | .dead => ∃ q ps b sc cl c', H a = some (Fh.LamO a q ps b sc cl c')
structure Rel (K : PySem.W.Frag) (T : Tbs) (m : List Addr) (h : LH) (H : Hp) : Prop where
  len : m.length = h.length
  nd : m.Nodup
  obj : ∀ (i : Nat) (a : Addr) (o : LO), m[i]? = some a → h[i]? = some o → LOk K T m H a o
  tg : ∀ P ∈ T.tg, GxR.TabG H P
  tl : ∀ p ∈ T.tl, LamX.TabS H p.1 p.2
section
variable {K : PySem.W.Frag} {T : Tbs} {m m1 m2 : List Addr} {H H1 H2 : Hp} {h : LH}
theorem RelKV.mono0 (l : Lt K m H m1 H1) : ∀ {ks : List (Key × W)} {vs : List (Key × V)}, RelKV K m H ks vs → RelKV K m1 H1 ks vs
  | _, _, .nil => .nil
  | _, _, .cons r t => .cons (r.mono0 l) (RelKV.mono0 l t)
theorem RelKV.mono (l : Le K m H m1 H1) {ks : List (Key × W)} {vs : List (Key × V)} (r : RelKV K m H ks vs) : RelKV K m1 H1 ks vs := r.mono0 l.lt
theorem RelF.mono0 (l : Lt K m H m1 H1) : ∀ {ks : List (Str × W)} {vs : List (Str × V)}, RelF K m H ks vs → RelF K m1 H1 ks vs
  | _, _, .nil => .nil
  | _, _, .cons r t => .cons (r.mono0 l) (RelF.mono0 l t)
theorem RelF.mono (l : Le K m H m1 H1) {ks : List (Str × W)} {vs : List (Str × V)} (r : RelF K m H ks vs) : RelF K m1 H1 ks vs := r.mono0 l.lt
theorem RelC.mono0 (l : Lt K m H m1 H1) (x : ∀ b φ, H b = some (.ext φ) → H1 b = some (.ext φ)) : ∀ {xs : List Str} {cl : List (Str × Addr)} {ws : List W}, RelC K m H xs cl ws → RelC K m1 H1 xs cl ws
  | _, _, _, .nil => .nil
  | _, _, _, .cons h d r q n t => .cons (x _ _ h) d r (q.mono0 l) n (RelC.mono0 l x t)
theorem LOk.mono0 (l : Lt K m H m1 H1) (x : ∀ b φ, H b = some (.ext φ) → H1 b = some (.ext φ)) {a : Addr} (e : H1 a = H a) : ∀ {o : LO}, LOk K T m H a o → LOk K T m1 H1 a o
  | .lst _, ⟨vs, h, r⟩ => ⟨vs, e.trans h, r.mono0 l⟩
  | .rd _, ⟨o, vs, h, r⟩ => ⟨o, vs, e.trans h, r.mono0 l⟩
  | .dct _, ⟨vs, h, r⟩ => ⟨vs, e.trans h, r.mono0 l⟩
  | .dcl _, ⟨o, vs, h, r⟩ => ⟨o, vs, e.trans h, r.mono0 l⟩
  | .ins _ _, ⟨dx, vs, h, r⟩ => ⟨dx, vs, e.trans h, r.mono0 l⟩
  | .lam _ _, ⟨D, cl, c', h1, h2, h3, r⟩ => ⟨D, cl, c', h1, e.trans h2, x _ _ h3, r.mono0 l x⟩
  | .dead, ⟨q, ps, b, sc, cl, c', h⟩ => ⟨q, ps, b, sc, cl, c', e.trans h⟩
theorem LOk.mono (l : Le K m H m1 H1) {a : Addr} (e : H1 a = H a) {o : LO} (k : LOk K T m H a o) : LOk K T m1 H1 a o := k.mono0 l.lt l.ext e
theorem LOk.some {a : Addr} : ∀ {o : LO}, LOk K T m H a o → ∃ u, H a = some u ∧ (∀ ps, u ≠ .tbl ps) ∧ (∀ xs, u ≠ .tup xs)
  | .lst _, ⟨_, h, _⟩ => ⟨_, h, fun _ z => (by cases z), fun _ z => (by cases z)⟩
  | .rd _, ⟨_, _, h, _⟩ => ⟨_, h, fun _ z => (by cases z), fun _ z => (by cases z)⟩
  | .dct _, ⟨_, h, _⟩ => ⟨_, h, fun _ z => (by cases z), fun _ z => (by cases z)⟩
  | .dcl _, ⟨_, _, h, _⟩ => ⟨_, h, fun _ z => (by cases z), fun _ z => (by cases z)⟩
  | .ins _ _, ⟨_, _, h, _⟩ => ⟨_, h, fun _ z => (by cases z), fun _ z => (by cases z)⟩
  | .lam _ _, ⟨_, _, _, _, h, _⟩ => ⟨_, h, fun _ z => (by unfold Fh.LamO at z; cases z), fun _ z => (by unfold Fh.LamO at z; cases z)⟩
  | .dead, ⟨_, _, _, _, _, _, h⟩ => ⟨_, h, fun _ z => (by unfold Fh.LamO at z; cases z), fun _ z => (by unfold Fh.LamO at z; cases z)⟩
theorem Rel.at (r : Rel K T m h H) {i : Nat} {a : Addr} (e : m[i]? = some a) : ∃ o, h[i]? = some o ∧ LOk K T m H a o := by
  have hi : i < h.length := by rw [← r.len]; exact (List.getElem?_eq_some_iff.mp e).1
  exact ⟨h[i], List.getElem?_eq_getElem hi, r.obj i a _ e (List.getElem?_eq_getElem hi)⟩
theorem Rel.mem (r : Rel K T m h H) {a : Addr} (e : a ∈ m) : ∃ u, H a = some u ∧ (∀ ps, u ≠ .tbl ps) ∧ (∀ xs, u ≠ .tup xs) := by
  obtain ⟨i, hi, rfl⟩ := List.mem_iff_getElem.mp e
  obtain ⟨o, _, k⟩ := r.at (List.getElem?_eq_getElem hi)
  exact k.some
theorem sqT_of {K : PySem.W.Frag} {H H' : Hp} (f : ∀ a u xs, H a = some u → (u = .tup xs ∨ ∃ o, u = .frz o (.tup xs)) → H' a = H a) {a : Addr} {vs : List V} (h : SqT K H a vs) : SqT K H' a vs := by
  rcases h with (h | ⟨o, h⟩) | h
  · exact .inl (.inl (by rw [f a _ vs h (.inl rfl)]; exact h))
  · exact .inl (.inr ⟨o, by rw [f a _ vs h (.inr ⟨o, rfl⟩)]; exact h⟩)
  · exact .inr h
theorem tabS_of {H H' : Hp} {P : Addr} {q : Str} (f : ∀ b o, H b = some o → (∃ ps, o = .tbl ps) ∨ (∃ φ, o = .ext φ) → H' b = H b) (t : LamX.TabS H P q) : LamX.TabS H' P q := by
  obtain ⟨ps, e, tr, hc⟩ := t
  refine ⟨ps, by rw [f P _ e (.inl ⟨ps, rfl⟩)]; exact e, tr, fun pos cv z => ?_⟩
  obtain ⟨c, e1, e2⟩ := hc pos cv z
  exact ⟨c, e1, by rw [f c _ e2 (.inr ⟨_, rfl⟩)]; exact e2⟩
theorem tabG_of {H H' : Hp} {P : Addr} (f : ∀ b o, H b = some o → (∃ ps, o = .tbl ps) ∨ (∃ φ, o = .ext φ) → H' b = H b) (t : GxR.TabG H P) : GxR.TabG H' P := by
  obtain ⟨ps, e, k⟩ := t
  exact ⟨ps, by rw [f P _ e (.inl ⟨ps, rfl⟩)]; exact e, k⟩
/-- a thing laid that is no number's -/
theorem Le.aside (r : Rel K T m h H) {p : Addr} (hp : H p = none) (o : HO) : Le K m H m (upd H p o) :=
  ⟨⟨[], (List.append_nil _).symm⟩, fun a vs s => sqT_of (fun a u _ e _ => upd_ne (ne_of_none e hp)) s, fun b u e _ n => ⟨by rw [upd_ne (ne_of_none e hp)]; exact e, n⟩, fun b o u e => by rw [upd_ne (ne_of_none e hp)]; exact e, fun b φ e => by rw [upd_ne (ne_of_none e hp)]; exact e⟩
theorem Rel.aside (r : Rel K T m h H) {p : Addr} (hp : H p = none) (o : HO) : Rel K T m h (upd H p o) where
  len := r.len
  nd := r.nd
  obj := fun i a u e1 e2 => by
    have k := r.obj i a u e1 e2
    obtain ⟨z, hz, _⟩ := k.some
    exact k.mono (Le.aside r hp o) (upd_ne (ne_of_none hz hp))
  tg := fun P hP => tabG_of (fun b o e _ => upd_ne (ne_of_none e hp)) (r.tg P hP)
  tl := fun P hP => tabS_of (fun b o e _ => upd_ne (ne_of_none e hp)) (r.tl P hP)
/-- the thing at p gets the next number -/
theorem Le.new (r : Rel K T m h H) {p : Addr} (hp : H p = none) (o : HO) : Le K m H (m ++ [p]) (upd H p o) :=
  ⟨⟨[p], rfl⟩, fun a vs s => sqT_of (fun a u _ e _ => upd_ne (ne_of_none e hp)) s, fun b u e _ n => ⟨by rw [upd_ne (ne_of_none e hp)]; exact e, by simp [n, ne_of_none e hp]⟩, fun b o u e => by rw [upd_ne (ne_of_none e hp)]; exact e, fun b φ e => by rw [upd_ne (ne_of_none e hp)]; exact e⟩
theorem Rel.new (r : Rel K T m h H) {p : Addr} (hp : H p = none) {o : HO} {lo : LO} (k : LOk K T (m ++ [p]) (upd H p o) p lo) : Rel K T (m ++ [p]) (h ++ [lo]) (upd H p o) where
  len := by simp [r.len]
  nd := by
    refine List.nodup_append.mpr ⟨r.nd, by simp, fun a ha b hb => ?_⟩
    obtain rfl : b = p := by simpa using hb
    obtain ⟨u, hu, _⟩ := r.mem ha
    exact ne_of_none hu hp
  obj := fun i a u e1 e2 => by
    by_cases hi : i < m.length
    · rw [List.getElem?_append_left hi] at e1
      rw [List.getElem?_append_left (by rw [← r.len]; exact hi)] at e2
      have k := r.obj i a u e1 e2
      obtain ⟨z, hz, _⟩ := k.some
      exact k.mono (Le.new r hp o) (upd_ne (ne_of_none hz hp))
    · have hi2 : i = m.length := by
        have := (List.getElem?_eq_some_iff.mp e1).1
        simp at this
        omega
      subst hi2
      rw [List.getElem?_append_right (Nat.le_refl _)] at e1
      rw [r.len, List.getElem?_append_right (Nat.le_refl _)] at e2
      simp at e1 e2
      subst e1 e2
      exact k
  tg := fun P hP => tabG_of (fun b o e _ => upd_ne (ne_of_none e hp)) (r.tg P hP)
  tl := fun P hP => tabS_of (fun b o e _ => upd_ne (ne_of_none e hp)) (r.tl P hP)
/-- the thing of the number i is changed -/
theorem Le.put (r : Rel K T m h H) {i : Nat} {a : Addr} (e : m[i]? = some a) {u : HO} (hu : H a = some u) (nf : ∀ o v, u ≠ .frz o v) (o : HO) (nx : ∀ φ, u ≠ .ext φ := by intro _ z; cases z) : Le K m H m (upd H a o) :=
  ⟨⟨[], (List.append_nil _).symm⟩, fun c vs s => sqT_of (fun b z xs eb q => upd_ne (fun y => by
    subst y
    obtain ⟨u', hu', _, nt⟩ := r.mem (List.mem_of_getElem? e)
    rw [eb] at hu hu'
    cases hu; cases hu'
    rcases q with q | ⟨o, q⟩
    · exact nt xs q
    · exact nf _ _ q)) s, fun b z eb _ n => ⟨by rw [upd_ne (fun y => n (by rw [y]; exact List.mem_of_getElem? e))]; exact eb, n⟩, fun b o' v eb => by
    rw [upd_ne (fun y => by rw [y, hu] at eb; exact nf o' v (Option.some.inj eb))]
    exact eb, fun b φ eb => by
    rw [upd_ne (fun y => by rw [y, hu] at eb; exact nx φ (Option.some.inj eb))]
    exact eb⟩
theorem Rel.put (r : Rel K T m h H) {i : Nat} {a : Addr} (e : m[i]? = some a) {u : HO} (hu : H a = some u) (nf : ∀ o v, u ≠ .frz o v) {o : HO} {lo : LO} (k : LOk K T m (upd H a o) a lo) (nx : ∀ φ, u ≠ .ext φ := by intro _ z; cases z) : Rel K T m (h.set i lo) (upd H a o) where
  len := by simp [r.len]
  nd := r.nd
  obj := fun j b z e1 e2 => by
    by_cases hj : j = i
    · subst hj
      rw [e] at e1
      cases e1
      rw [List.getElem?_set_self (by rw [← r.len]; exact (List.getElem?_eq_some_iff.mp e).1)] at e2
      cases e2
      exact k
    · rw [List.getElem?_set_ne (Ne.symm hj)] at e2
      have nb : b ≠ a := fun y => by
        subst y
        exact hj (by
          obtain ⟨h1, q1⟩ := List.getElem?_eq_some_iff.mp e1
          obtain ⟨h2, q2⟩ := List.getElem?_eq_some_iff.mp e
          exact (List.getElem_inj r.nd).mp (q1.trans q2.symm))
      exact (r.obj j b z e1 e2).mono (Le.put r e hu nf o nx) (upd_ne nb)
  tg := fun P hP => tabG_of (fun b z eb q => upd_ne (fun y => by
    subst y
    obtain ⟨u', hu', nt, _⟩ := r.mem (List.mem_of_getElem? e)
    rw [eb] at hu'
    cases hu'
    rcases q with ⟨ps, q⟩ | ⟨φ, q⟩
    · exact nt ps q
    · rw [eb] at hu
      exact nx φ (by rw [← q]; exact (Option.some.inj hu).symm))) (r.tg P hP)
  tl := fun P hP => tabS_of (fun b z eb q => upd_ne (fun y => by
    subst y
    obtain ⟨u', hu', nt, _⟩ := r.mem (List.mem_of_getElem? e)
    rw [eb] at hu'
    cases hu'
    rcases q with ⟨ps, q⟩ | ⟨φ, q⟩
    · exact nt ps q
    · rw [eb] at hu
      exact nx φ (by rw [← q]; exact (Option.some.inj hu).symm))) (r.tl P hP)
end
/-! ### slots -/
structure RelS (K : PySem.W.Frag) (m : List Addr) (H : Hp) (sl : Sl) (σ : L2.St) : Prop where
  len : sl.length = σ.length
  get : ∀ (i : Nat) (w : W), sl[i]? = some (some w) → ∃ v, σ[i]? = some (some v) ∧ RelW K m H w v
section
variable {K : PySem.W.Frag} {m m1 : List Addr} {H H1 : Hp} {sl : Sl} {σ : L2.St}
theorem RelS.mono (l : Le K m H m1 H1) (r : RelS K m H sl σ) : RelS K m1 H1 sl σ := ⟨r.len, fun i w e => by
  obtain ⟨v, e1, r1⟩ := r.get i w e
  exact ⟨v, e1, r1.mono l⟩⟩
theorem RelS.set (r : RelS K m H sl σ) (i : Nat) {w : W} {v : V} (q : RelW K m H w v) : RelS K m H (sl.set i (some w)) (σ.set i (some v)) := ⟨by simp [r.len], fun j x e => by
  by_cases hj : i = j
  · subst hj
    have hi : i < sl.length := by
      have := (List.getElem?_eq_some_iff.mp e).1
      simpa using this
    rw [List.getElem?_set_self hi] at e
    cases e
    exact ⟨v, List.getElem?_set_self (by rw [← r.len]; exact hi), q⟩
  · rw [List.getElem?_set_ne hj] at e
    rw [List.getElem?_set_ne hj]
    exact r.get j x e⟩
end
end Fv
set_option Elab.async false
set_option linter.all false
set_option maxRecDepth 100000
set_option maxHeartbeats 4000000
namespace Fv
open PySem PySem.Spec PyProof.Rows L2 Fh
/-! ### what follows -/
section
variable (K : PySem.W.Frag) (T : Tbs)
def ExR (m : List Addr) (H : Hp) (c : Str) (p : Option (Str × W)) (E : XK) : Prop := match p with
  | none => E (.ref (He.ga K c)) none H
  | some (f, w) => ∀ d v, H d = some (.xd [(f, v)]) → d ∉ m → RelW K m H w v → E (.ref (He.ga K c)) (some d) H
def Post {α β : Type} (RV : List Addr → Hp → α → β → Prop) (m : List Addr) (H : Hp) (r : R α) (Q : β → Hp → Prop) (E : XK) : Prop := match r with
  | .ok w h => ∀ m' H' v, Le K m H m' H' → Rel K T m' h H' → RV m' H' w v → Q v H'
  | .ex c p h => ∀ m' H', Le K m H m' H' → Rel K T m' h H' → ExR K m' H' c p E
  | .bad => False
/-- a function's reading -/
def liftG {α β : Type} (RV : List Addr → Hp → α → β → Prop) (W' : WX) (f : Sl → M α) : L2.St → Hp → (β → Hp → Prop) → Prop := fun σ H Q => ∃ m h sl, Rel K T m h H ∧ RelS K m H sl σ ∧ Post K T RV m H (f sl h) Q (WE W' σ)
end
section
variable {K : PySem.W.Frag} {T : Tbs} {α β γ δ : Type} {RV : List Addr → Hp → α → β → Prop} {RV' : List Addr → Hp → γ → δ → Prop} {m m1 : List Addr} {H H1 : Hp}
theorem Post.mono (l : Le K m H m1 H1) {r : R α} {Q : β → Hp → Prop} {E : XK} (h : Post K T RV m H r Q E) : Post K T RV m1 H1 r Q E := by
  cases r with
  | ok w h' => exact fun m' H' v l' => h m' H' v (l.trans l')
  | ex c p h' => exact fun m' H' l' => h m' H' (l.trans l')
  | bad => exact h
theorem Post.imp {r : R α} {Q Q' : β → Hp → Prop} {E : XK} (h : Post K T RV m H r Q E) (f : ∀ v H, Q v H → Q' v H) : Post K T RV m H r Q' E := by
  cases r with
  | ok w h' => exact fun m' H' v l r k => f _ _ (h m' H' v l r k)
  | ex c p h' => exact h
  | bad => exact h
/-- first the one, then what follows -/
theorem use {fa : Sl → M α} {k : α → M γ} {W' : WX} {sl : Sl} {σ : L2.St} {h : LH} {Q : δ → Hp → Prop} {Q1 : β → Hp → Prop} (R1 : Rel K T m h H) (S1 : RelS K m H sl σ) (P : Post K T RV' m H (bnd (fa sl) k h) Q (WE W' σ))
    (f : ∀ m' H' v w h', Le K m H m' H' → Rel K T m' h' H' → RV m' H' w v → Post K T RV' m' H' (k w h') Q (WE W' σ) → Q1 v H') : liftG K T RV W' fa σ H Q1 := by
  refine ⟨m, h, sl, R1, S1, ?_⟩
  unfold bnd at P
  cases e : fa sl h with
  | ok w h' =>
    rw [e] at P
    exact fun m' H' v l r q => f m' H' v w h' l r q (P.mono l)
  | ex c p h' =>
    rw [e] at P
    exact P
  | bad =>
    rw [e] at P
    exact P
theorem Post.opt {r : Option α} {h : LH} {Q : β → Hp → Prop} {E : XK} (P : Post K T RV m H (opt r h) Q E) : ∃ w, r = some w ∧ ∀ m' H' v, Le K m H m' H' → Rel K T m' h H' → RV m' H' w v → Q v H' := by
  cases r with
  | none => exact P.elim
  | some w => exact ⟨w, rfl, P⟩
theorem Post.opt2 {r : LH → Option (α × LH)} {h : LH} {Q : β → Hp → Prop} {E : XK} (P : Post K T RV m H (opt2 r h) Q E) : ∃ w h', r h = some (w, h') ∧ ∀ m' H' v, Le K m H m' H' → Rel K T m' h' H' → RV m' H' w v → Q v H' := by
  unfold Fv.opt2 at P
  cases e : r h with
  | none => rw [e] at P; exact P.elim
  | some p =>
    rw [e] at P
    exact ⟨p.1, p.2, rfl, P⟩
end
/-! ### the judgements -/
abbrev RB : List Addr → Hp → Bool → Bool → Prop := fun _ _ a b => a = b
abbrev lE (X : Cx) (T : Tbs) (W' : WX) (f : Sl → M W) : TE := liftG X.K T (RelW X.K) W' f
abbrev lT (X : Cx) (T : Tbs) (W' : WX) (f : Sl → M Bool) : TT := liftG X.K T RB W' f
abbrev lA (X : Cx) (T : Tbs) (W' : WX) (f : Sl → M (List W)) : TA := liftG X.K T (RelWs X.K) W' f
structure PEv (X : Cx) (T : Tbs) (W' : WX) (e : Expr) (f : Sl → M W) : Prop where
  pe : PE X e (lE X T W' f)
structure PTv (X : Cx) (T : Tbs) (W' : WX) (e : Expr) (f : Sl → M Bool) : Prop where
  pt : PT X e (lT X T W' f)
structure PWv (X : Cx) (T : Tbs) (W' : WX) (e : Expr) (f : Sl → M Bool) : Prop where
  pw : PW X e (lT X T W' f)
structure PAv (X : Cx) (T : Tbs) (W' : WX) (es : List Expr) (f : Sl → M (List W)) : Prop where
  pa : PA X es (lA X T W' f)
theorem pe_imp {X : Cx} {e : Expr} {t t' : TE} (h : PE X e t) (f : ∀ σ H Q, t' σ H Q → t σ H Q) : PE X e t' := ⟨fun pins s σ H Q I q => h.run pins s σ H Q I (f σ H Q q)⟩
theorem pt_imp {X : Cx} {e : Expr} {t t' : TT} (h : PT X e t) (f : ∀ σ H Q, t' σ H Q → t σ H Q) : PT X e t' := ⟨fun pins s σ H Q I q => h.run pins s σ H Q I (f σ H Q q)⟩
theorem pw_imp {X : Cx} {e : Expr} {t t' : TT} (h : PW X e t) (f : ∀ σ H Q, t' σ H Q → t σ H Q) : PW X e t' := ⟨fun wh pins s σ H Q I q => h.run wh pins s σ H Q I (f σ H Q q)⟩
theorem pa_imp {X : Cx} {e : List Expr} {t t' : TA} (h : PA X e t) (f : ∀ σ H Q, t' σ H Q → t σ H Q) : PA X e t' := ⟨fun pos pins s σ H Q I q => h.run pos pins s σ H Q I (f σ H Q q)⟩
theorem ps_imp {X : Cx} {e : Stmt} {t t' : TS} (h : PS X e t) (f : ∀ D σ H, t' D σ H → t D σ H) : PS X e t' := ⟨fun pins s σ H D I q => h.run pins s σ H D I (f D σ H q)⟩
theorem pss_imp {X : Cx} {e : List Stmt} {t t' : TS} (h : PSs X e t) (f : ∀ D σ H, t' D σ H → t D σ H) : PSs X e t' := ⟨fun pins s σ H D I q => h.run pins s σ H D I (f D σ H q)⟩
section
variable {X : Cx} {T : Tbs} {W' : WX} {e a b : Expr} {es : List Expr} {pos : Pos}
/-! ### names, constants -/
def fVar (i : Nat) : Sl → M W := fun sl => opt (sl[i]?.getD none)
def fC (w : W) : Sl → M W := fun _ => ret w
theorem ev_var {i : Nat} {x : Str} (hN : X.N[i]? = some x) (hv : Vis X.env.scope x) (hd : (x == ("__debug__" : Str)) = false := by decide) (hcd : (x == ("__classdict__" : Str)) = false := by decide) : PEv X T W' (.Name x pos) (fVar i) := by
  refine ⟨pe_imp (pe_var hN hv hd hcd) fun σ H Q h => ?_⟩
  obtain ⟨m, h, sl, R1, S1, P⟩ := h
  obtain ⟨w, ew, q⟩ := P.opt
  have es : sl[i]? = some (some w) := by
    cases z : sl[i]? with
    | none => rw [z] at ew; cases ew
    | some o => rw [z] at ew; exact congrArg some ew
  obtain ⟨v, ev, rv⟩ := S1.get i w es
  exact ⟨v, ev, q m H v .refl R1 rv⟩
theorem ev_c {w : W} {v : V} (h : PE X e (tC v)) (r : ∀ m H, RelW X.K m H w v) : PEv X T W' e (fC w) := by
  refine ⟨pe_imp h fun σ H Q h => ?_⟩
  obtain ⟨m, h, sl, R1, S1, P⟩ := h
  exact P m H v .refl R1 (r m H)
theorem ev_int {i : Int} {j} : PEv X T W' (.Constant (.int i) j pos) (fC (.int i)) := ev_c pe_int fun _ _ => .int i
theorem ev_bl {b : Bool} {j} : PEv X T W' (.Constant (.bool b) j pos) (fC (.bl b)) := ev_c pe_bl fun _ _ => .bl b
theorem ev_non {j} : PEv X T W' (.Constant .none j pos) (fC .non) := ev_c pe_non fun _ _ => .non
theorem ev_str {x : Str} {j} : PEv X T W' (.Constant (.str x) j pos) (fC (.str x)) := ev_c pe_str fun _ _ => .str x
/-- a constant of the module -/
theorem ev_glob {x : Str} {w : W} {v : V} {u : Value} (hm : X.mg x = some u) (rv : RelV v u) (r : ∀ m H, RelW X.K m H w v) (hg : Gl X x := by rfl) (hd : (x == ("__debug__" : Str)) = false := by decide) : PEv X T W' (.Name x pos) (fC w) := ev_c (pe_glob hg hm rv hd) r
/-- code that is never reached -/
def fNo : Sl → M W := fun _ _ => .bad
theorem ev_no : PEv X T W' e fNo := ⟨⟨fun _ _ _ _ _ _ h => by obtain ⟨_, _, _, _, _, P⟩ := h; exact P.elim⟩⟩
/-- one of two readings -/
theorem PEv.or {f f1 f2 : Sl → M W} (h1 : PEv X T W' e f1) (h2 : PEv X T W' e f2) (h : ∀ sl h, f sl h = f1 sl h ∨ f sl h = f2 sl h) : PEv X T W' e f := by
  refine ⟨⟨fun pins s σ H Q I q => ?_⟩⟩
  obtain ⟨m, hh, sl, R1, S1, P⟩ := q
  rcases h sl hh with z | z
  · exact h1.pe.run pins s σ H Q I ⟨m, hh, sl, R1, S1, by rw [← z]; exact P⟩
  · exact h2.pe.run pins s σ H Q I ⟨m, hh, sl, R1, S1, by rw [← z]; exact P⟩
theorem PEv.eq {f f' : Sl → M W} (h1 : PEv X T W' e f) (h : f' = f) : PEv X T W' e f' := by rw [h]; exact h1
/-! ### arguments -/
def aNil : Sl → M (List W) := fun _ => ret []
def aCons (f : Sl → M W) (g : Sl → M (List W)) : Sl → M (List W) := fun sl => bnd (f sl) fun x => bnd (g sl) fun xs => ret (x :: xs)
theorem av_nil : PAv X T W' [] aNil := by
  refine ⟨pa_imp pa_nil fun σ H Q h => ?_⟩
  obtain ⟨m, h, sl, R1, S1, P⟩ := h
  exact P m H [] .refl R1 .nil
theorem av_cons {f : Sl → M W} {g : Sl → M (List W)} (h1 : PEv X T W' e f) (h2 : PAv X T W' es g) (hs : starEach (e :: es) X.env = (false, eval e X.env) :: starEach es X.env := by rfl) : PAv X T W' (e :: es) (aCons f g) := by
  refine ⟨pa_imp (pa_cons h1.pe h2.pa hs) fun σ H Q h => ?_⟩
  obtain ⟨m, h, sl, R1, S1, P⟩ := h
  refine use R1 S1 P fun m1 H1 x wx h1 l1 R1 rx P1 => ?_
  refine use R1 (S1.mono l1) P1 fun m2 H2 xs wxs h2 l2 R2 rxs P2 => ?_
  exact P2 m2 H2 _ .refl R2 (.cons (rx.mono l2) rxs)
/-! ### two-place operations, by values -/
abbrev O2 := W → W → LH → Option (W × LH)
abbrev O1 := W → LH → Option (W × LH)
abbrev OL := List W → LH → Option (W × LH)
/-- some rule does it -/
def rAny (X : Cx) (f : Value → Value → Sem Value) : R2 := fun x y H Q => ∃ r, OpR X f r ∧ r x y H Q
theorem opAny {f : Value → Value → Sem Value} : OpR X f (rAny X f) := fun pins s σ H x y v u Q I rx ry ⟨r, ho, q⟩ => ho pins s σ H x y v u Q I rx ry q
def QW (X : Cx) (T : Tbs) (m : List Addr) (H : Hp) (o : Option (W × LH)) (Q : VK) : Prop := ∃ w h', o = some (w, h') ∧ ∀ m' H' v, Le X.K m H m' H' → Rel X.K T m' h' H' → RelW X.K m' H' w v → Q v H'
def OpV (X : Cx) (T : Tbs) (f : Value → Value → Sem Value) (g : O2) : Prop := ∀ m h H x y wx wy Q, Rel X.K T m h H → RelW X.K m H wx x → RelW X.K m H wy y → QW X T m H (g wx wy h) Q → rAny X f x y H Q
def f2 (g : O2) (fa fb : Sl → M W) : Sl → M W := fun sl => bnd (fa sl) fun x => bnd (fb sl) fun y => opt2 (g x y)
theorem ev2 {f : Value → Value → Sem Value} {g : O2} {fa fb : Sl → M W} (ho : OpV X T f g) {σ : L2.St} {H : Hp} {Q : VK} (h : lE X T W' (f2 g fa fb) σ H Q) : tOp (rAny X f) (lE X T W' fa) (lE X T W' fb) σ H Q := by
  obtain ⟨m, h, sl, R1, S1, P⟩ := h
  refine use R1 S1 P fun m1 H1 x wx h1 l1 R1 rx P1 => ?_
  refine use R1 (S1.mono l1) P1 fun m2 H2 y wy h2 l2 R2 ry P2 => ?_
  exact ho m2 h2 H2 x y wx wy Q R2 (rx.mono l2) ry P2.opt2
theorem ev_op {op : Operator} {g : O2} {fa fb : Sl → M W} (ho : OpV X T (binaryOp op) g) (ha : PEv X T W' a fa) (hb : PEv X T W' b fb) : PEv X T W' (.BinOp a op b pos) (f2 g fa fb) :=
  ⟨pe_imp (pe_op opAny ha.pe hb.pe) fun σ H Q h => ev2 ho h⟩
theorem ev_cmp {op : CmpOp} {g : O2} {fa fb : Sl → M W} (ho : OpV X T (compareOp op) g) (ha : PEv X T W' a fa) (hb : PEv X T W' b fb) (hm : behindInMarks op b = false := by rfl) : PEv X T W' (.Compare a [op] [b] pos) (f2 g fa fb) :=
  ⟨pe_imp (pe_cmpR opAny ha.pe hb.pe hm) fun σ H Q h => ev2 ho h⟩
theorem OpV.or {f : Value → Value → Sem Value} {g g1 g2 : O2} (h1 : OpV X T f g1) (h2 : OpV X T f g2) (h : ∀ x y h, g x y h = g1 x y h ∨ g x y h = g2 x y h) : OpV X T f g := fun m hh H x y wx wy Q R1 rx ry q => by
  rcases h wx wy hh with z | z
  · exact h1 m hh H x y wx wy Q R1 rx ry (by rw [← z]; exact q)
  · exact h2 m hh H x y wx wy Q R1 rx ry (by rw [← z]; exact q)
/-! ### tests -/
def asB : W → Option Bool
  | .bl b => some b
  | _ => none
def tV (f : Sl → M W) : Sl → M Bool := fun sl => bnd (f sl) fun x => opt (asB x)
theorem asB_eq {K : PySem.W.Frag} {m : List Addr} {H : Hp} {w : W} {v : V} {b : Bool} (r : RelW K m H w v) (e : asB w = some b) : v = .bl b := by
  cases r <;> first | (cases e; rfl) | cases e
/-- a value as a test -/
theorem tv_val {f : Sl → M W} (h : PEv X T W' e f) (he : ∀ whole, isTrue e X.env whole = (do let v ← whole; standAt e.pos; holding [v] (truthy v)) := by intro _; rfl) : PTv X T W' e (tV f) := by
  refine ⟨pt_imp (pt_val h.pe he) fun σ H Q h => ?_⟩
  obtain ⟨m, h, sl, R1, S1, P⟩ := h
  refine use R1 S1 P fun m1 H1 x wx h1 l1 R1 rx P1 => ?_
  obtain ⟨b, eb, q⟩ := P1.opt
  exact ⟨b, asB_eq rx eb, q m1 H1 b .refl R1 rfl⟩
theorem tv_cmp {op : CmpOp} {g : O2} {fa fb : Sl → M W} (ho : OpV X T (compareOp op) g) (ha : PEv X T W' a fa) (hb : PEv X T W' b fb) (hm : behindInMarks op b = false := by rfl) : PTv X T W' (.Compare a [op] [b] pos) (tV (f2 g fa fb)) := by
  refine ⟨pt_imp (pt_cmpR opAny ha.pe hb.pe hm) fun σ H Q h => ?_⟩
  obtain ⟨m, h, sl, R1, S1, P⟩ := h
  have q : lE X T W' (f2 g fa fb) σ H (fun x H1 => ∃ c, x = .bl c ∧ Q c H1) := use R1 S1 P fun m1 H1 x wx h1 l1 R1 rx P1 => by
    obtain ⟨b, eb, q⟩ := P1.opt
    exact ⟨b, asB_eq rx eb, q m1 H1 b .refl R1 rfl⟩
  exact ev2 ho q
def bNot (f : Sl → M Bool) : Sl → M Bool := fun sl => bnd (f sl) fun b => ret (!b)
def bAnd (f g : Sl → M Bool) : Sl → M Bool := fun sl => bnd (f sl) fun b => if b = true then g sl else ret false
def bOr (f g : Sl → M Bool) : Sl → M Bool := fun sl => bnd (f sl) fun b => if b = true then ret true else g sl
theorem tv_not {f : Sl → M Bool} (h : PTv X T W' a f) : PTv X T W' (.UnaryOp .Not a pos) (bNot f) := by
  refine ⟨pt_imp (pt_not h.pt) fun σ H Q h => ?_⟩
  obtain ⟨m, h, sl, R1, S1, P⟩ := h
  refine use R1 S1 P fun m1 H1 x wx h1 l1 R1 rx P1 => ?_
  obtain rfl : wx = x := rx
  exact P1 m1 H1 _ .refl R1 rfl
theorem PWv.pt {f : Sl → M Bool} (h : PWv X T W' a f) : PTv X T W' a f := ⟨h.pw.pt⟩
theorem wv_and1 {f : Sl → M Bool} (h : PTv X T W' a f) : PWv X T W' (.BoolOp .And [a] pos) f := ⟨pw_and1 h.pt⟩
theorem wv_or1 {f : Sl → M Bool} (h : PTv X T W' a f) : PWv X T W' (.BoolOp .Or [a] pos) f := ⟨pw_or1 h.pt⟩
variable {rest : List Expr}
theorem wv_and {f g : Sl → M Bool} (h : PTv X T W' a f) (h2 : PWv X T W' (.BoolOp .And (b :: rest) pos) g) : PWv X T W' (.BoolOp .And (a :: b :: rest) pos) (bAnd f g) := by
  refine ⟨pw_imp (pw_and h.pt h2.pw) fun σ H Q h => ?_⟩
  obtain ⟨m, h, sl, R1, S1, P⟩ := h
  refine use R1 S1 P fun m1 H1 x wx h1 l1 R1 rx P1 => ?_
  obtain rfl : wx = x := rx
  cases wx with
  | true => exact ⟨m1, h1, sl, R1, S1.mono l1, P1⟩
  | false => exact P1 m1 H1 _ .refl R1 rfl
theorem wv_or {f g : Sl → M Bool} (h : PTv X T W' a f) (h2 : PWv X T W' (.BoolOp .Or (b :: rest) pos) g) : PWv X T W' (.BoolOp .Or (a :: b :: rest) pos) (bOr f g) := by
  refine ⟨pw_imp (pw_or h.pt h2.pw) fun σ H Q h => ?_⟩
  obtain ⟨m, h, sl, R1, S1, P⟩ := h
  refine use R1 S1 P fun m1 H1 x wx h1 l1 R1 rx P1 => ?_
  obtain rfl : wx = x := rx
  cases wx with
  | false => exact ⟨m1, h1, sl, R1, S1.mono l1, P1⟩
  | true => exact P1 m1 H1 _ .refl R1 rfl
/-! .. as values -/
def vNot (f : Sl → M W) : Sl → M W := fun sl => bnd (f sl) fun x => opt ((asB x).map fun b => .bl (!b))
def vAnd (f g : Sl → M W) : Sl → M W := fun sl => bnd (f sl) fun x => bnd (opt (asB x)) fun b => if b = true then g sl else ret (.bl false)
def vOr (f g : Sl → M W) : Sl → M W := fun sl => bnd (f sl) fun x => bnd (opt (asB x)) fun b => if b = true then ret (.bl true) else g sl
theorem ev_one {op} {f : Sl → M W} (h : PEv X T W' a f) : PEv X T W' (.BoolOp op [a] pos) f := ⟨pe_one h.pe⟩
theorem ev_not {f : Sl → M W} (h : PEv X T W' a f) : PEv X T W' (.UnaryOp .Not a pos) (vNot f) := by
  refine ⟨pe_imp (pe_not h.pe) fun σ H Q h => ?_⟩
  obtain ⟨m, h, sl, R1, S1, P⟩ := h
  refine use R1 S1 P fun m1 H1 x wx h1 l1 R1 rx P1 => ?_
  obtain ⟨w, ew, q⟩ := P1.opt
  cases eb : asB wx with
  | none => rw [eb] at ew; cases ew
  | some b =>
    rw [eb] at ew
    cases ew
    exact ⟨b, asB_eq rx eb, q m1 H1 _ .refl R1 (.bl _)⟩
theorem ev_and {f g : Sl → M W} (h : PEv X T W' a f) (h2 : PEv X T W' (.BoolOp .And (b :: rest) pos) g) : PEv X T W' (.BoolOp .And (a :: b :: rest) pos) (vAnd f g) := by
  refine ⟨pe_imp (pe_and h.pe h2.pe) fun σ H Q h => ?_⟩
  obtain ⟨m, h, sl, R1, S1, P⟩ := h
  refine use R1 S1 P fun m1 H1 x wx h1 l1 R1 rx P1 => ?_
  cases eb : asB wx with
  | none => rw [eb] at P1; exact P1.elim
  | some c =>
    rw [eb] at P1
    refine ⟨c, asB_eq rx eb, ?_⟩
    cases c with
    | true => exact ⟨m1, h1, sl, R1, S1.mono l1, P1⟩
    | false => exact P1 m1 H1 _ .refl R1 (.bl _)
theorem ev_or {f g : Sl → M W} (h : PEv X T W' a f) (h2 : PEv X T W' (.BoolOp .Or (b :: rest) pos) g) : PEv X T W' (.BoolOp .Or (a :: b :: rest) pos) (vOr f g) := by
  refine ⟨pe_imp (pe_or h.pe h2.pe) fun σ H Q h => ?_⟩
  obtain ⟨m, h, sl, R1, S1, P⟩ := h
  refine use R1 S1 P fun m1 H1 x wx h1 l1 R1 rx P1 => ?_
  cases eb : asB wx with
  | none => rw [eb] at P1; exact P1.elim
  | some c =>
    rw [eb] at P1
    refine ⟨c, asB_eq rx eb, ?_⟩
    cases c with
    | false => exact ⟨m1, h1, sl, R1, S1.mono l1, P1⟩
    | true => exact P1 m1 H1 _ .refl R1 (.bl _)
/-- a if t else b -/
def fIf (c : Sl → M Bool) (f g : Sl → M W) : Sl → M W := fun sl => bnd (c sl) fun b => if b = true then f sl else g sl
theorem ev_if {c : Expr} {fc : Sl → M Bool} {f g : Sl → M W} (hc : PTv X T W' c fc) (ha : PEv X T W' a f) (hb : PEv X T W' b g) : PEv X T W' (.IfExp c a b pos) (fIf fc f g) := by
  refine ⟨pe_imp (pe_ifExp hc.pt ha.pe hb.pe) fun σ H Q h => ?_⟩
  obtain ⟨m, h, sl, R1, S1, P⟩ := h
  refine use R1 S1 P fun m1 H1 x wx h1 l1 R1 rx P1 => ?_
  obtain rfl : wx = x := rx
  cases wx with
  | true => exact ⟨m1, h1, sl, R1, S1.mono l1, P1⟩
  | false => exact ⟨m1, h1, sl, R1, S1.mono l1, P1⟩
end
end Fv
set_option Elab.async false
set_option linter.all false
set_option maxRecDepth 100000
set_option maxHeartbeats 4000000
namespace Fv
open PySem PySem.Spec PyProof.Rows L2 Fh
/-- lists and texts are spoken of up to this length -/
abbrev LIM : Nat := 100000
theorem lim_le : LIM ≤ sizeLine := by rw [sizeLine_eq]; decide
theorem lim_of {n : Nat} (h : n ≤ LIM) : n ≤ sizeLine := Nat.le_trans h lim_le
theorem lim_lt {n : Nat} (h : n < LIM) : n < sizeLine := Nat.lt_of_lt_of_le h lim_le
/-- a sequence's items -/
def seqW (h : LH) : W → Option (List W)
  | .tup xs => some xs
  | .ref i => match h[i]? with
    | some (.lst xs) => some xs
    | some (.rd xs) => some xs
    | _ => none
  | _ => none
section
variable {K : PySem.W.Frag} {T : Tbs} {m : List Addr} {h : LH} {H : Hp}
theorem seq_rel (R1 : Rel K T m h H) {w : W} {v : V} {xs : List W} (r : RelW K m H w v) (e : seqW h w = some xs) : ∃ a vs, v = .ref a ∧ (SqL K H a vs ∨ SqT K H a vs) ∧ RelWs K m H xs vs := by
  cases r with
  | ref ea =>
    obtain ⟨o, eo, k⟩ := R1.at ea
    simp only [seqW, eo] at e
    cases o with
    | lst ys =>
      cases e
      obtain ⟨vs, hv, rs⟩ := k
      exact ⟨_, vs, rfl, .inl (SqL.of hv), rs⟩
    | rd ys =>
      cases e
      obtain ⟨o, vs, hv, rs⟩ := k
      exact ⟨_, vs, rfl, .inl (.inl (.inr ⟨o, hv⟩)), rs⟩
    | dct _ => cases e
    | dcl _ => cases e
    | ins _ _ => cases e
    | lam _ _ => cases e
    | dead => cases e
  | tup s rs =>
    cases e
    exact ⟨_, _, rfl, .inr s, rs⟩
  | _ => cases e
theorem lst_rel (R1 : Rel K T m h H) {i : Nat} {v : V} {xs : List W} (r : RelW K m H (.ref i) v) (e : h[i]? = some (.lst xs)) : ∃ a vs, v = .ref a ∧ m[i]? = some a ∧ H a = some (.lst vs) ∧ RelWs K m H xs vs := by
  cases r with
  | ref ea =>
    obtain ⟨vs, hv, rs⟩ := R1.obj i _ _ ea e
    exact ⟨_, vs, rfl, ea, hv, rs⟩
end
section
variable {X : Cx} {T : Tbs} {m : List Addr} {h : LH} {H : Hp} {Q : VK}
/-- a new list -/
theorem newL (R1 : Rel X.K T m h H) {xs : List W} {vs : List V} (rs : RelWs X.K m H xs vs) {p : Addr} (hp : H p = none)
    (q : ∀ m' H' v, Le X.K m H m' H' → Rel X.K T m' (h ++ [.lst xs]) H' → RelW X.K m' H' (.ref h.length) v → Q v H') : Q (.ref p) (upd H p (.lst vs)) :=
  q (m ++ [p]) _ _ (Le.new R1 hp _) (R1.new hp ⟨vs, upd_same, rs.mono (Le.new R1 hp _)⟩) (.ref (by rw [← R1.len]; simp))
theorem newT (R1 : Rel X.K T m h H) {xs : List W} {vs : List V} (rs : RelWs X.K m H xs vs) {p : Addr} (hp : H p = none)
    (q : ∀ m' H' v, Le X.K m H m' H' → Rel X.K T m' h H' → RelW X.K m' H' (.tup xs) v → Q v H') : Q (.ref p) (upd H p (.tup vs)) :=
  q m _ _ (Le.aside R1 hp _) (R1.aside hp _) (.tup (SqT.of upd_same) (rs.mono (Le.aside R1 hp _)))
/-- a list is changed -/
theorem putL (R1 : Rel X.K T m h H) {i : Nat} {a : Addr} {us : List V} {w : W} {v : V} (ea : m[i]? = some a) (ha : H a = some (.lst us)) {xs : List W} {vs : List V} (rs : RelWs X.K m H xs vs) (rv : RelW X.K m H w v)
    (q : ∀ m' H' v, Le X.K m H m' H' → Rel X.K T m' (h.set i (.lst xs)) H' → RelW X.K m' H' w v → Q v H') : Q v (upd H a (.lst vs)) :=
  have l := Le.put R1 ea ha (fun _ _ z => by cases z) (.lst vs)
  q m _ _ l (R1.put ea ha (fun _ _ z => by cases z) ⟨vs, upd_same, rs.mono l⟩) (rv.mono l)
end
/-! ### operations on values -/
def addW : O2 := fun x y h => match x, y with
  | .int i, .int j => some (.int (i + j), h)
  | .str a, .str b => if a.length + b.length ≤ LIM then some (.str (a ++ b), h) else none
  | .tup a, .tup b => if a.length + b.length ≤ LIM then some (.tup (a ++ b), h) else none
  | .ref i, .ref j => match h[i]?, h[j]? with
    | some (.lst xs), some (.lst ys) => if xs.length + ys.length ≤ LIM then some (.ref h.length, h ++ [.lst (xs ++ ys)]) else none
    | _, _ => none
  | _, _ => none
def subW : O2 := fun x y h => match x, y with
  | .int i, .int j => some (.int (i - j), h)
  | _, _ => none
/-- one factor below 2^64, or both of at most a million bits together -/
def mulW : O2 := fun x y h => match x, y with
  | .int i, .int j => if (-(2 ^ 64) < i ∧ i < 2 ^ 64) ∨ (-(2 ^ 64) < j ∧ j < 2 ^ 64) then some (.int (i * j), h) else none
  | .ref i, .int k => match h[i]? with
    | some (.lst xs) => if -(2 ^ 62) ≤ k ∧ k < 2 ^ 62 ∧ xs.length * k.toNat ≤ LIM then some (.ref h.length, h ++ [.lst (List.replicate k.toNat xs).flatten]) else none
    | _ => none
  | _, _ => none
def divW : O2 := fun x y h => match x, y with
  | .int i, .int j => if 0 < j ∧ j < 1073741824 then some (.int (i / j), h) else none
  | _, _ => none
def modW : O2 := fun x y h => match x, y with
  | .int i, .int j => if 0 < j then some (.int (i % j), h) else none
  | _, _ => none
def powW : O2 := fun x y h => match x, y with
  | .int i, .int j => if i = 10 ∧ j = 18 then some (.int (10 ^ 18), h) else none
  | _, _ => none
def cmpI (p : Int → Int → Bool) : O2 := fun x y h => match x, y with
  | .int i, .int j => some (.bl (p i j), h)
  | _, _ => none
/-- data of any depth -/
def toD : Nat → LH → W → Option PyData
  | 0, _, _ => none
  | n + 1, h, w => match w with
    | .non => some .none
    | .bl b => some (.bool b)
    | .int i => some (.int i)
    | .str x => some (.str x)
    | .tup xs => (xs.mapM (toD n h)).map .tuple
    | .ref i => match h[i]? with
      | some (.lst xs) => (xs.mapM (toD n h)).map .list
      | some (.rd xs) => (xs.mapM (toD n h)).map .list
      | _ => none
def eqW (neg : Bool) : O2 := fun x y h => match toD 9 h x, toD 9 h y with
  | some d, some e => if SeqAt.shaped d = true ∧ SeqAt.shaped e = true then some (.bl (if neg = true then !PyData.eqv d e else PyData.eqv d e), h) else none
  | _, _ => none
def inW (neg : Bool) : O2 := fun x y h => match y with
  | .str b => match x with
    | .str a => some (.bl (if neg = true then !(!(Builtin.Str.occurrences b a 0 b.length 1).isEmpty) else !(Builtin.Str.occurrences b a 0 b.length 1).isEmpty), h)
    | _ => none
  | _ => match toD 9 h x, toD 9 h y with
    | some d, some (.tuple ds) => if SeqAt.shaped d = true ∧ SeqAt.shaped (.tuple ds) = true then some (.bl (if neg = true then !ds.any fun z => PyData.eqv z d else ds.any fun z => PyData.eqv z d), h) else none
    | some d, some (.list ds) => if SeqAt.shaped d = true ∧ SeqAt.shaped (.list ds) = true then some (.bl (if neg = true then !ds.any fun z => PyData.eqv z d else ds.any fun z => PyData.eqv z d), h) else none
    | _, _ => none
section
variable {K : PySem.W.Frag} {T : Tbs} {m : List Addr} {h : LH} {H : Hp}
theorem toD_rel (R1 : Rel K T m h H) : ∀ (n : Nat) {w : W} {v : V} {d : PyData}, RelW K m H w v → toD n h w = some d → Dp K H v d := by
  intro n
  induction n with
  | zero => intro w v d _ e; cases e
  | succ n ih =>
    have all : ∀ {ws : List W} {vs : List V} {ds : List PyData}, RelWs K m H ws vs → ws.mapM (toD n h) = some ds → DpAll K H vs ds := by
      intro ws
      induction ws with
      | nil =>
        intro vs ds r e
        cases r
        simp at e
        subst e
        exact .nil
      | cons w ws ihs =>
        intro vs ds r e
        cases r with
        | cons r rs =>
          rw [List.mapM_cons] at e
          cases e1 : toD n h w with
          | none => rw [e1] at e; cases e
          | some d1 =>
            rw [e1] at e
            cases e2 : ws.mapM (toD n h) with
            | none => rw [e2] at e; cases e
            | some d2 =>
              rw [e2] at e
              cases e
              exact .cons (ih r e1) (ihs rs e2)
    intro w v d r e
    cases r with
    | non => cases e; exact .non
    | bl b => cases e; exact .bl b
    | int i => cases e; exact .int i
    | str x => cases e; exact .str x
    | ref ea =>
      obtain ⟨o, eo, k⟩ := R1.at ea
      simp only [toD, eo] at e
      cases o with
      | lst ys =>
        obtain ⟨vs, hv, rs⟩ := k
        cases e1 : ys.mapM (toD n h) with
        | none => simp only [e1] at e; cases e
        | some ds => simp only [e1] at e; cases e; exact .lst (SqL.of hv) (all rs e1)
      | rd ys =>
        obtain ⟨o, vs, hv, rs⟩ := k
        cases e1 : ys.mapM (toD n h) with
        | none => simp only [e1] at e; cases e
        | some ds => simp only [e1] at e; cases e; exact .lst (.inl (.inr ⟨o, hv⟩)) (all rs e1)
      | dct _ => cases e
      | dcl _ => cases e
      | ins _ _ => cases e
      | lam _ _ => cases e
      | dead => cases e
    | tup s rs =>
      rename_i ys a vs
      unfold toD at e
      cases e1 : ys.mapM (toD n h) with
      | none => simp only [e1] at e; cases e
      | some ds => simp only [e1] at e; cases e; exact .tup s (all rs e1)
end
section
variable {X : Cx} {T : Tbs}
theorem r_int {K : PySem.W.Frag} {m : List Addr} {H : Hp} {i : Int} {v : V} (r : RelW K m H (.int i) v) : v = .int i := by cases r; rfl
theorem r_str {K : PySem.W.Frag} {m : List Addr} {H : Hp} {i : Str} {v : V} (r : RelW K m H (.str i) v) : v = .str i := by cases r; rfl
theorem r_tup {K : PySem.W.Frag} {m : List Addr} {H : Hp} {xs : List W} {v : V} (r : RelW K m H (.tup xs) v) : ∃ a vs, v = .ref a ∧ SqT K H a vs ∧ RelWs K m H xs vs := by
  cases r with
  | tup s rs => exact ⟨_, _, rfl, s, rs⟩
theorem v_add : OpV X T (binaryOp .Add) addW := by
  intro m h H x y wx wy Q R1 rx ry q
  obtain ⟨w, h', e, q⟩ := q
  unfold addW at e
  split at e
  · cases r_int rx; cases r_int ry; cases e
    exact ⟨_, op_add, _, _, rfl, rfl, q _ _ _ .refl R1 (.int _)⟩
  · split at e
    · rename_i hz
      cases r_str rx; cases r_str ry; cases e
      exact ⟨_, op_add_str, _, _, rfl, rfl, lim_of hz, q _ _ _ .refl R1 (.str _)⟩
    · cases e
  · split at e
    · rename_i xs ys hz
      obtain ⟨a, vs, rfl, sa, ra⟩ := r_tup rx
      obtain ⟨b, us, rfl, sb, rb⟩ := r_tup ry
      cases e
      refine ⟨_, op_catA, a, b, vs, us, rfl, rfl, sa, sb, by rw [← ra.length, ← rb.length]; exact lim_of hz, ?_, ?_, ?_⟩
      · rintro rfl
        cases ra
        exact q _ _ _ .refl R1 (.tup sb rb)
      · rintro _ rfl
        cases rb
        exact q _ _ _ .refl R1 (.tup sa (by rw [List.append_nil]; exact ra))
      · exact fun _ _ p hp => newT R1 (ra.append rb) hp q
    · cases e
  · split at e
    · split at e
      · rename_i i j xs ys e1 e2 hz
        obtain ⟨a, vs, rfl, ea, ha, ra⟩ := lst_rel R1 rx e1
        obtain ⟨b, us, rfl, eb, hb, rb⟩ := lst_rel R1 ry e2
        cases e
        exact ⟨_, op_cat, a, b, vs, us, rfl, rfl, ha, hb, by rw [← ra.length, ← rb.length]; exact lim_of hz, fun p hp => newL R1 (ra.append rb) hp q⟩
      · cases e
    · cases e
  · cases e
theorem v_sub : OpV X T (binaryOp .Sub) subW := by
  intro m h H x y wx wy Q R1 rx ry q
  obtain ⟨w, h', e, q⟩ := q
  unfold subW at e
  split at e
  · cases r_int rx; cases r_int ry; cases e
    exact ⟨_, op_sub, _, _, rfl, rfl, q _ _ _ .refl R1 (.int _)⟩
  · cases e
theorem v_mul : OpV X T (binaryOp .Mult) mulW := by
  intro m h H x y wx wy Q R1 rx ry q
  obtain ⟨w, h', e, q⟩ := q
  unfold mulW at e
  split at e
  · split at e
    · rename_i hz
      cases r_int rx; cases r_int ry; cases e
      exact ⟨_, op_mul, _, _, rfl, rfl, hz, q _ _ _ .refl R1 (.int _)⟩
    · cases e
  · split at e
    · split at e
      · rename_i i k _ xs e1 hz
        obtain ⟨a, vs, rfl, ea, ha, ra⟩ := lst_rel R1 rx e1
        cases r_int ry
        cases e
        refine ⟨_, op_rep, a, k, vs, rfl, rfl, ha, by omega, by omega, by rw [← ra.length]; exact lim_of hz.2.2, fun p hp => newL R1 ?_ hp q⟩
        generalize k.toNat = n
        induction n with
        | zero => exact .nil
        | succ n ih =>
          rw [List.replicate_succ, List.replicate_succ, List.flatten_cons, List.flatten_cons]
          exact ra.append ih
      · cases e
    · cases e
  · cases e
theorem v_div : OpV X T (binaryOp .FloorDiv) divW := by
  intro m h H x y wx wy Q R1 rx ry q
  obtain ⟨w, h', e, q⟩ := q
  unfold divW at e
  split at e
  · split at e
    · rename_i hz
      cases r_int rx; cases r_int ry; cases e
      exact ⟨_, op_fdiv, _, _, rfl, rfl, hz, q _ _ _ .refl R1 (.int _)⟩
    · cases e
  · cases e
theorem v_mod : OpV X T (binaryOp .Mod) modW := by
  intro m h H x y wx wy Q R1 rx ry q
  obtain ⟨w, h', e, q⟩ := q
  unfold modW at e
  split at e
  · split at e
    · rename_i hz
      cases r_int rx; cases r_int ry; cases e
      exact ⟨_, op_mod, _, _, rfl, rfl, hz, q _ _ _ .refl R1 (.int _)⟩
    · cases e
  · cases e
theorem v_pow : OpV X T (binaryOp .Pow) powW := by
  intro m h H x y wx wy Q R1 rx ry q
  obtain ⟨w, h', e, q⟩ := q
  unfold powW at e
  split at e
  · split at e
    · rename_i hz
      obtain ⟨rfl, rfl⟩ := hz
      cases r_int rx; cases r_int ry; cases e
      exact ⟨_, op_pow, _, _, rfl, rfl, ⟨by decide, by decide, by decide⟩, q _ _ _ .refl R1 (.int _)⟩
    · cases e
  · cases e
theorem v_cmpI {op : CmpOp} {p : Int → Int → Bool} (ho : OpR X (compareOp op) (rI0 fun i j => .bl (p i j))) : OpV X T (compareOp op) (cmpI p) := by
  intro m h H x y wx wy Q R1 rx ry q
  obtain ⟨w, h', e, q⟩ := q
  unfold cmpI at e
  split at e
  · cases r_int rx; cases r_int ry; cases e
    exact ⟨_, ho, _, _, rfl, rfl, q _ _ _ .refl R1 (.bl _)⟩
  · cases e
abbrev ltW : O2 := cmpI fun i j => decide (i < j)
abbrev leW : O2 := cmpI fun i j => decide (i ≤ j)
abbrev gtW : O2 := cmpI fun i j => decide (j < i)
abbrev geW : O2 := cmpI fun i j => decide (j ≤ i)
theorem v_lt : OpV X T (compareOp .Lt) ltW := v_cmpI op_lt
theorem v_le : OpV X T (compareOp .LtE) leW := v_cmpI op_le
theorem v_gt : OpV X T (compareOp .Gt) gtW := v_cmpI op_gt
theorem v_ge : OpV X T (compareOp .GtE) geW := v_cmpI op_ge
theorem v_eq {k : Nat} (hr : Room k X.A) : OpV X T (compareOp .Eq) (eqW false) := by
  intro m h H x y wx wy Q R1 rx ry q
  obtain ⟨w, h', e, q⟩ := q
  unfold eqW at e
  split at e
  · split at e
    · rename_i d1 d2 e1 e2 hz
      cases e
      exact ⟨_, op_eqD hr.units, _, _, toD_rel R1 9 rx e1, toD_rel R1 9 ry e2, hz.1, hz.2, q _ _ _ .refl R1 (.bl _)⟩
    · cases e
  · cases e
theorem v_ne {k : Nat} (hr : Room k X.A) : OpV X T (compareOp .NotEq) (eqW true) := by
  intro m h H x y wx wy Q R1 rx ry q
  obtain ⟨w, h', e, q⟩ := q
  unfold eqW at e
  split at e
  · split at e
    · rename_i d1 d2 e1 e2 hz
      cases e
      exact ⟨_, op_neD hr.units, _, _, toD_rel R1 9 rx e1, toD_rel R1 9 ry e2, hz.1, hz.2, q _ _ _ .refl R1 (.bl _)⟩
    · cases e
  · cases e
theorem units65 {k : Nat} {A : Around} (hr : Room (k + 1) A) : A.units + 65 < cLine := by
  have := hr.un
  omega
theorem v_in {k : Nat} (hr : Room (k + 1) X.A) : OpV X T (compareOp .In) (inW false) := by
  intro m h H x y wx wy Q R1 rx ry q
  obtain ⟨w, h', e, q⟩ := q
  unfold inW at e
  split at e
  · split at e
    · cases r_str rx; cases r_str ry; cases e
      exact ⟨_, op_in_str, _, _, rfl, rfl, q _ _ _ .refl R1 (.bl _)⟩
    · cases e
  · split at e
    · split at e
      · rename_i d ds e1 e2 hz
        cases e
        exact ⟨_, op_inT (units65 hr), _, _, toD_rel R1 9 rx e1, toD_rel R1 9 ry e2, hz.1, hz.2, q _ _ _ .refl R1 (.bl _)⟩
      · cases e
    · split at e
      · rename_i d ds e1 e2 hz
        cases e
        exact ⟨_, op_inD (units65 hr), _, _, toD_rel R1 9 rx e1, toD_rel R1 9 ry e2, hz.1, hz.2, q _ _ _ .refl R1 (.bl _)⟩
      · cases e
    · cases e
theorem v_notin {k : Nat} (hr : Room (k + 1) X.A) : OpV X T (compareOp .NotIn) (inW true) := by
  intro m h H x y wx wy Q R1 rx ry q
  obtain ⟨w, h', e, q⟩ := q
  unfold inW at e
  split at e
  · split at e
    · cases r_str rx; cases r_str ry; cases e
      exact ⟨_, op_notin_str, _, _, rfl, rfl, q _ _ _ .refl R1 (.bl _)⟩
    · cases e
  · split at e
    · split at e
      · rename_i d ds e1 e2 hz
        cases e
        exact ⟨_, op_notInT (units65 hr), _, _, toD_rel R1 9 rx e1, toD_rel R1 9 ry e2, hz.1, hz.2, q _ _ _ .refl R1 (.bl _)⟩
      · cases e
    · split at e
      · rename_i d ds e1 e2 hz
        cases e
        exact ⟨_, op_notInD (units65 hr), _, _, toD_rel R1 9 rx e1, toD_rel R1 9 ry e2, hz.1, hz.2, q _ _ _ .refl R1 (.bl _)⟩
      · cases e
    · cases e
end
end Fv
set_option Elab.async false
set_option linter.all false
set_option maxRecDepth 100000
set_option maxHeartbeats 4000000
namespace Fv
open PySem PySem.Spec PyProof.Rows L2 Fh
section
variable {X : Cx} {T : Tbs} {W' : WX} {e a b c : Expr} {es : List Expr} {pos p : Pos}
/-! ### displays -/
def fTup (f : Sl → M (List W)) : Sl → M W := fun sl => bnd (f sl) fun xs => opt2 fun h => if xs.length ≤ LIM then some (.tup xs, h) else none
def fLst (f : Sl → M (List W)) : Sl → M W := fun sl => bnd (f sl) fun xs => opt2 fun h => if xs.length ≤ LIM then some (.ref h.length, h ++ [.lst xs]) else none
theorem ev_tup {k : Nat} {f : Sl → M (List W)} (h : PAv X T W' es f) : PEv X T W' (.Tuple es k pos) (fTup f) := by
  refine ⟨pe_imp (pe_tup h.pa) fun σ H Q h => ?_⟩
  obtain ⟨m, h, sl, R1, S1, P⟩ := h
  refine use R1 S1 P fun m1 H1 xs ws h1 l1 R1 rx P1 => ?_
  obtain ⟨w, h', e, q⟩ := P1.opt2
  split at e
  · rename_i hz
    cases e
    exact ⟨by rw [← rx.length]; exact lim_of hz, fun p hp => newT R1 rx hp q⟩
  · cases e
theorem ev_lst {f : Sl → M (List W)} (h : PAv X T W' es f) : PEv X T W' (.List es pos) (fLst f) := by
  refine ⟨pe_imp (pe_lst h.pa) fun σ H Q h => ?_⟩
  obtain ⟨m, h, sl, R1, S1, P⟩ := h
  refine use R1 S1 P fun m1 H1 xs ws h1 l1 R1 rx P1 => ?_
  obtain ⟨w, h', e, q⟩ := P1.opt2
  split at e
  · rename_i hz
    cases e
    exact ⟨by rw [← rx.length]; exact lim_of hz, fun p hp => newL R1 rx hp q⟩
  · cases e
/-! ### a op b op' c -/
def fChain (g g' : O2) (fa fb fc : Sl → M W) : Sl → M W := fun sl => bnd (fa sl) fun x => bnd (fb sl) fun y => bnd (opt2 (g x y)) fun z => bnd (opt (asB z)) fun k => if k = true then bnd (fc sl) fun u => opt2 (g' y u) else ret (.bl false)
theorem evCh {f f' : Value → Value → Sem Value} {g g' : O2} {fa fb fc : Sl → M W} (ho : OpV X T f g) (ho' : OpV X T f' g') {σ : L2.St} {H : Hp} {Q : VK} (h : lE X T W' (fChain g g' fa fb fc) σ H Q) : tChain (rAny X f) (rAny X f') (lE X T W' fa) (lE X T W' fb) (lE X T W' fc) σ H Q := by
  obtain ⟨m, h, sl, R1, S1, P⟩ := h
  refine use R1 S1 P fun m1 H1 x wx h1 l1 R1 rx P1 => ?_
  refine use R1 (S1.mono l1) P1 fun m2 H2 y wy h2 l2 R2 ry P2 => ?_
  refine ho m2 h2 H2 x y wx wy _ R2 (rx.mono l2) ry ?_
  unfold bnd at P2
  cases e : g wx wy h2 with
  | none => simp only [opt2, e] at P2; exact P2.elim
  | some p =>
    obtain ⟨w, h3⟩ := p
    simp only [opt2, e] at P2
    refine ⟨w, h3, rfl, fun m3 H3 z l3 R3 rz => ?_⟩
    cases eb : asB w with
    | none => rw [eb] at P2; exact P2.elim
    | some k =>
      rw [eb] at P2
      refine ⟨k, asB_eq rz eb, ?_⟩
      cases k with
      | true =>
        refine use R3 (((S1.mono l1).mono l2).mono l3) (P2.mono l3) fun m4 H4 u wu h4 l4 R4 ru P4 => ?_
        exact ho' m4 h4 H4 y u wy wu Q R4 ((ry.mono l3).mono l4) ru P4.opt2
      | false => exact P2 m3 H3 _ l3 R3 (.bl _)
theorem ev_chain {op op' : CmpOp} {g g' : O2} {fa fb fc : Sl → M W} (ho : OpV X T (compareOp op) g) (ho' : OpV X T (compareOp op') g') (ha : PEv X T W' a fa) (hb : PEv X T W' b fb) (hc : PEv X T W' c fc)
    (hm : lastMarks [op, op'] [b, c] = false := by with_unfolding_all rfl) : PEv X T W' (.Compare a [op, op'] [b, c] pos) (fChain g g' fa fb fc) :=
  ⟨pe_imp (pe_chain opAny opAny ha.pe hb.pe hc.pe hm) fun σ H Q h => evCh ho ho' h⟩
theorem tv_chain {op op' : CmpOp} {g g' : O2} {fa fb fc : Sl → M W} (ho : OpV X T (compareOp op) g) (ho' : OpV X T (compareOp op') g') (ha : PEv X T W' a fa) (hb : PEv X T W' b fb) (hc : PEv X T W' c fc)
    (hm : lastMarks [op, op'] [b, c] = false := by with_unfolding_all rfl) : PTv X T W' (.Compare a [op, op'] [b, c] pos) (tV (fChain g g' fa fb fc)) := by
  refine ⟨pt_imp (pt_chain opAny opAny ha.pe hb.pe hc.pe hm) fun σ H Q h => ?_⟩
  obtain ⟨m, h, sl, R1, S1, P⟩ := h
  have q : lE X T W' (fChain g g' fa fb fc) σ H (fun x H1 => ∃ c, x = .bl c ∧ Q c H1) := use R1 S1 P fun m1 H1 x wx h1 l1 R1 rx P1 => by
    obtain ⟨b, eb, q⟩ := P1.opt
    exact ⟨b, asB_eq rx eb, q m1 H1 b .refl R1 rfl⟩
  exact evCh ho ho' q
/-! ### is None, is not None -/
def isN (neg : Bool) : W → W
  | .non => .bl (!neg)
  | _ => .bl neg
def fIsN (neg : Bool) (fa : Sl → M W) : Sl → M W := fun sl => bnd (fa sl) fun x => ret (isN neg x)
theorem isN_rel {K : PySem.W.Frag} {m : List Addr} {H : Hp} {w : W} {v : V} (r : RelW K m H w v) : RelW K m H (isN false w) (.bl (decide (v = .non))) := by
  cases r <;> exact .bl _
theorem isNn_rel {K : PySem.W.Frag} {m : List Addr} {H : Hp} {w : W} {v : V} (r : RelW K m H w v) : RelW K m H (isN true w) (.bl (!decide (v = .non))) := by
  cases r <;> exact .bl _
theorem ev_isN {j pos'} {fa : Sl → M W} (ha : PEv X T W' a fa) : PEv X T W' (.Compare a [.Is] [.Constant .none j pos'] pos) (fIsN false fa) := by
  refine ⟨pe_imp (pe_cmp (pc_isN ha.pe)) fun σ H Q h => ?_⟩
  obtain ⟨m, h, sl, R1, S1, P⟩ := h
  refine use R1 S1 P fun m1 H1 x wx h1 l1 R1 rx P1 => P1 m1 H1 _ .refl R1 (isN_rel rx)
theorem ev_notN {j pos'} {fa : Sl → M W} (ha : PEv X T W' a fa) : PEv X T W' (.Compare a [.IsNot] [.Constant .none j pos'] pos) (fIsN true fa) := by
  refine ⟨pe_imp (pe_cmp (pc_notN ha.pe)) fun σ H Q h => ?_⟩
  obtain ⟨m, h, sl, R1, S1, P⟩ := h
  refine use R1 S1 P fun m1 H1 x wx h1 l1 R1 rx P1 => P1 m1 H1 _ .refl R1 (isNn_rel rx)
theorem tv_isN {j pos'} {fa : Sl → M W} (ha : PEv X T W' a fa) : PTv X T W' (.Compare a [.Is] [.Constant .none j pos'] pos) (tV (fIsN false fa)) := by
  refine ⟨pt_imp (pt_cmp (pc_isN ha.pe)) fun σ H Q h => ?_⟩
  obtain ⟨m, h, sl, R1, S1, P⟩ := h
  have q : lE X T W' (fIsN false fa) σ H (fun x H1 => ∃ c, x = .bl c ∧ Q c H1) := use R1 S1 P fun m1 H1 x wx h1 l1 R1 rx P1 => by
    obtain ⟨b, eb, q⟩ := P1.opt
    exact ⟨b, asB_eq rx eb, q m1 H1 b .refl R1 rfl⟩
  obtain ⟨m, h, sl, R1, S1, P⟩ := q
  exact use R1 S1 P fun m1 H1 x wx h1 l1 R1 rx P1 => P1 m1 H1 _ .refl R1 (isN_rel rx)
theorem tv_notN {j pos'} {fa : Sl → M W} (ha : PEv X T W' a fa) : PTv X T W' (.Compare a [.IsNot] [.Constant .none j pos'] pos) (tV (fIsN true fa)) := by
  refine ⟨pt_imp (pt_cmp (pc_notN ha.pe)) fun σ H Q h => ?_⟩
  obtain ⟨m, h, sl, R1, S1, P⟩ := h
  have q : lE X T W' (fIsN true fa) σ H (fun x H1 => ∃ c, x = .bl c ∧ Q c H1) := use R1 S1 P fun m1 H1 x wx h1 l1 R1 rx P1 => by
    obtain ⟨b, eb, q⟩ := P1.opt
    exact ⟨b, asB_eq rx eb, q m1 H1 b .refl R1 rfl⟩
  obtain ⟨m, h, sl, R1, S1, P⟩ := q
  exact use R1 S1 P fun m1 H1 x wx h1 l1 R1 rx P1 => P1 m1 H1 _ .refl R1 (isNn_rel rx)
/-! ### a[i] -/
def valW (kvs : List (Key × W)) (k : Key) : Option W := (kvs.find? fun kv => decide (kv.1 = k)).map (·.2)
def putW (kvs : List (Key × W)) (k : Key) (v : W) : List (Key × W) :=
  if (kvs.any fun kv => decide (kv.1 = k)) = true then kvs.map (fun kv => if kv.1 = k then (kv.1, v) else kv) else kvs ++ [(k, v)]
def keyW : W → Option Key
  | .int i => some (.inl i)
  | .str x => some (.inr x)
  | _ => none
theorem key_rel {K : PySem.W.Frag} {m : List Addr} {H : Hp} {w : W} {v : V} {k : Key} (r : RelW K m H w v) (e : keyW w = some k) : v = kV k := by
  cases r <;> first | (cases e; rfl) | cases e
theorem val_rel {K : PySem.W.Frag} {m : List Addr} {H : Hp} (k : Key) : ∀ {kvs : List (Key × W)} {vs : List (Key × V)}, RelKV K m H kvs vs → (∀ w, valW kvs k = some w → ∃ v, valV vs k = some v ∧ RelW K m H w v) ∧ (valW kvs k = none → valV vs k = none)
  | _, _, .nil => ⟨fun _ e => (nomatch e), fun _ => rfl⟩
  | _, _, .cons (k := k') (ks := ks) (vs := vs) (w := w0) (v := v0) r t => by
    have ih := val_rel k t
    by_cases hk : k' = k
    · subst hk
      refine ⟨fun w e => ⟨v0, by simp [valV], ?_⟩, fun e => ?_⟩
      · simp [valW] at e
        subst e
        exact r
      · simp [valW] at e
    · have e1 : valW ((k', w0) :: ks) k = valW ks k := by simp [valW, hk]
      have e2 : valV ((k', v0) :: vs) k = valV vs k := by simp [valV, hk]
      rw [e1, e2]
      exact ih
theorem kv_length {K : PySem.W.Frag} {m : List Addr} {H : Hp} : ∀ {kvs : List (Key × W)} {vs : List (Key × V)}, RelKV K m H kvs vs → kvs.length = vs.length
  | _, _, .nil => rfl
  | _, _, .cons _ t => congrArg (· + 1) (kv_length t)
theorem kv_append {K : PySem.W.Frag} {m : List Addr} {H : Hp} : ∀ {kvs kus : List (Key × W)} {vs us : List (Key × V)}, RelKV K m H kvs vs → RelKV K m H kus us → RelKV K m H (kvs ++ kus) (vs ++ us)
  | _, _, _, _, .nil, s => s
  | _, _, _, _, .cons r t, s => .cons r (kv_append t s)
theorem put_rel {K : PySem.W.Frag} {m : List Addr} {H : Hp} {k : Key} {w : W} {v : V} (r : RelW K m H w v) {kvs : List (Key × W)} {vs : List (Key × V)} (q : RelKV K m H kvs vs) : RelKV K m H (putW kvs k w) (putK vs k v) := by
  have ha : ∀ {kvs : List (Key × W)} {vs : List (Key × V)}, RelKV K m H kvs vs → (kvs.any fun kv => decide (kv.1 = k)) = (vs.any fun kv => decide (kv.1 = k)) := by
    intro kvs vs q
    induction q with
    | nil => rfl
    | cons r t ih => simp [ih]
  have hm : ∀ {kvs : List (Key × W)} {vs : List (Key × V)}, RelKV K m H kvs vs → RelKV K m H (kvs.map (fun kv => if kv.1 = k then (kv.1, w) else kv)) (vs.map (fun kv => if kv.1 = k then (kv.1, v) else kv)) := by
    intro kvs vs q
    induction q with
    | nil => exact .nil
    | @cons k' w0 v0 ks vs r0 t ih =>
      by_cases hk : k' = k
      · simp only [List.map_cons, hk, if_true]
        exact .cons r ih
      · simp only [List.map_cons, hk, if_false]
        exact .cons r0 ih
  unfold putW putK
  rw [ha q]
  split
  · exact hm q
  · exact kv_append q (.cons r .nil)
def ixS : O2 := fun x y h => match y with
  | .int i => match x with
    | .str z => if z.length ≤ LIM then (atI z.cps.toList i).map fun c => (.str ⟨#[c]⟩, h) else none
    | _ => (seqW h x).bind fun xs => (atI xs i).map fun w => (w, h)
  | _ => none
def ixD : O2 := fun x y h => match x with
  | .ref i => match h[i]? with
    | some (.dct kvs) => (keyW y).bind fun k => (valW kvs k).map fun w => (w, h)
    | some (.dcl kvs) => (keyW y).bind fun k => (valW kvs k).map fun w => (w, h)
    | _ => none
  | _ => none
def ixW : O2 := fun x y h => match x with
  | .ref i => match h[i]? with
    | some (.dct _) => ixD x y h
    | some (.dcl _) => ixD x y h
    | _ => ixS x y h
  | _ => ixS x y h
theorem at_rel {K : PySem.W.Frag} {m : List Addr} {H : Hp} {ws : List W} {vs : List V} {i : Int} {w : W} (r : RelWs K m H ws vs) (e : atI ws i = some w) : ∃ v, atI vs i = some v ∧ RelW K m H w v := by
  unfold atI at e ⊢
  rw [← r.length]
  cases ej : ixN ws.length i with
  | none => rw [ej] at e; cases e
  | some j =>
    rw [ej] at e
    exact r.get e
def ixAny (X : Cx) : R2 := fun x y H Q => ∃ r, IxR X r ∧ r x y H Q
theorem ix_any : IxR X (ixAny X) := fun value slice pins s σ H x y v u Q I rx ry ⟨r, ho, q⟩ hs => ho value slice pins s σ H x y v u Q I rx ry q hs
theorem ev_ixS {fa fb : Sl → M W} (ha : PEv X T W' a fa) (hb : PEv X T W' b fb) (hs : PlainIx b := by exact fun _ _ => rfl) : PEv X T W' (.Subscript a b pos) (f2 ixS fa fb) := by
  refine ⟨pe_imp (pe_ix ix_any ha.pe hb.pe hs) fun σ H Q h => ?_⟩
  obtain ⟨m, h, sl, R1, S1, P⟩ := h
  refine use R1 S1 P fun m1 H1 x wx h1 l1 R1 rx P1 => ?_
  refine use R1 (S1.mono l1) P1 fun m2 H2 y wy h2 l2 R2 ry P2 => ?_
  replace rx := rx.mono l2
  obtain ⟨w, h', e, q⟩ := P2.opt2
  unfold ixS at e
  split at e
  · cases r_int ry
    split at e
    · split at e
      · rename_i i _ z hz
        cases r_str rx
        cases e1 : atI z.cps.toList i with
        | none => rw [e1] at e; cases e
        | some c =>
          rw [e1] at e
          cases e
          exact ⟨_, ix_str, z, i, c, rfl, rfl, lim_of hz, e1, q _ _ _ .refl R2 (.str _)⟩
      · cases e
    · rename_i i x' _
      cases e1 : seqW h2 wx with
      | none => rw [e1] at e; cases e
      | some xs =>
        rw [e1] at e
        cases e2 : atI xs i with
        | none => simp [e2] at e
        | some w2 =>
          simp only [Option.bind_some, e2, Option.map_some] at e
          cases e
          obtain ⟨p, vs, rfl, sq, rs⟩ := seq_rel R2 rx e1
          obtain ⟨v, ev, rv⟩ := at_rel rs e2
          rcases sq with sq | sq
          · exact ⟨_, ix_list, p, vs, i, v, rfl, rfl, sq, ev, q _ _ _ .refl R2 rv⟩
          · exact ⟨_, ix_tup, p, vs, i, v, rfl, rfl, sq, ev, q _ _ _ .refl R2 rv⟩
  · cases e
theorem dct_rel {K : PySem.W.Frag} {m : List Addr} {h : LH} {H : Hp} (R1 : Rel K T m h H) {i : Nat} {v : V} {kvs : List (Key × W)} (r : RelW K m H (.ref i) v) (e : h[i]? = some (.dct kvs)) : ∃ a vs, v = .ref a ∧ m[i]? = some a ∧ H a = some (.dK vs) ∧ RelKV K m H kvs vs := by
  cases r with
  | ref ea =>
    obtain ⟨vs, hv, rs⟩ := R1.obj i _ _ ea e
    exact ⟨_, vs, rfl, ea, hv, rs⟩
theorem ev_ixD {k : Nat} {fa fb : Sl → M W} (hr : Room k X.A) (ha : PEv X T W' a fa) (hb : PEv X T W' b fb) (hs : NoSl b := by exact fun _ _ => rfl) : PEv X T W' (.Subscript a b pos) (f2 ixD fa fb) := by
  refine ⟨pe_imp (pe_dget (hu_of hr) ha.pe hb.pe hs) fun σ H Q h => ?_⟩
  obtain ⟨m, h, sl, R1, S1, P⟩ := h
  refine use R1 S1 P fun m1 H1 x wx h1 l1 R1 rx P1 => ?_
  refine use R1 (S1.mono l1) P1 fun m2 H2 y wy h2 l2 R2 ry P2 => ?_
  replace rx := rx.mono l2
  obtain ⟨w, h', e, q⟩ := P2.opt2
  unfold ixD at e
  split at e
  · split at e
    · rename_i i _ kvs e0
      obtain ⟨a, vs, rfl, ea, hv, rs⟩ := dct_rel R2 rx e0
      cases e1 : keyW wy with
      | none => rw [e1] at e; cases e
      | some k =>
        rw [e1] at e
        cases e2 : valW kvs k with
        | none => simp [e2] at e
        | some w2 =>
          simp only [Option.bind_some, e2, Option.map_some] at e
          cases e
          obtain ⟨v, ev, rv⟩ := (val_rel k rs).1 _ e2
          refine ⟨a, v, rfl, ?_, q _ _ _ .refl R2 rv⟩
          rw [key_rel ry e1, ← ev]
          exact DGet.k hv
    · rename_i i _ kvs e0
      cases rx with
      | ref ea =>
      obtain ⟨o, vs, hv, rs⟩ := R2.obj i _ _ ea e0
      cases e1 : keyW wy with
      | none => rw [e1] at e; cases e
      | some k =>
        rw [e1] at e
        cases e2 : valW kvs k with
        | none => simp [e2] at e
        | some w2 =>
          simp only [Option.bind_some, e2, Option.map_some] at e
          cases e
          obtain ⟨v, ev, rv⟩ := (val_rel k rs).1 _ e2
          refine ⟨_, v, rfl, ?_, q _ _ _ .refl R2 rv⟩
          rw [key_rel ry e1, ← ev]
          exact .inl ⟨vs, k, .inr ⟨o, hv⟩, rfl, rfl⟩
    · cases e
  · cases e
theorem ixW_or (x y : W) (h : LH) : ixW x y h = ixD x y h ∨ ixW x y h = ixS x y h := by
  unfold ixW
  split
  · split
    · exact .inl rfl
    · exact .inl rfl
    · exact .inr rfl
  · exact .inr rfl
theorem ev_ix {k : Nat} {fa fb : Sl → M W} (hr : Room k X.A) (ha : PEv X T W' a fa) (hb : PEv X T W' b fb) (hs : PlainIx b := by exact fun _ _ => rfl) (hs2 : NoSl b := by exact fun _ _ => rfl) : PEv X T W' (.Subscript a b pos) (f2 ixW fa fb) := by
  refine (ev_ixS ha hb hs).or (ev_ixD hr ha hb hs2) fun sl h => ?_
  unfold f2 bnd
  cases fa sl h with
  | ok x h1 =>
    dsimp only
    cases fb sl h1 with
    | ok y h2 =>
      dsimp only
      unfold opt2
      rcases ixW_or x y h2 with z | z
      · rw [z]; exact .inr rfl
      · rw [z]; exact .inl rfl
    | ex _ _ _ => exact .inl rfl
    | bad => exact .inl rfl
  | ex _ _ _ => exact .inl rfl
  | bad => exact .inl rfl
end
end Fv
set_option Elab.async false
set_option linter.all false
set_option maxRecDepth 100000
set_option maxHeartbeats 4000000
namespace Fv
open PySem PySem.Spec PyProof.Rows L2 Fh
section
variable {X : Cx} {T : Tbs} {W' : WX} {e a b c o : Expr} {es : List Expr} {pos p : Pos}
/-! ### slices -/
abbrev RO : List Addr → Hp → Option Int → Option Int → Prop := fun _ _ a b => a = b
structure POv (X : Cx) (T : Tbs) (W' : WX) (e : Option Expr) (f : Sl → M (Option Int)) : Prop where
  po : PO X e (liftG X.K T RO W' f)
theorem po_imp {X : Cx} {e : Option Expr} {t t' : TO} (h : PO X e t) (f : ∀ σ H Q, t' σ H Q → t σ H Q) : PO X e t' := ⟨fun pins s σ H Q I q => h.run pins s σ H Q I (f σ H Q q)⟩
def oNone : Sl → M (Option Int) := fun _ => ret none
def asI : W → Option (Option Int)
  | .int i => some (some i)
  | _ => none
def oSome (f : Sl → M W) : Sl → M (Option Int) := fun sl => bnd (f sl) fun x => opt (asI x)
theorem ov_none : POv X T W' none oNone := by
  refine ⟨po_imp po_none fun σ H Q h => ?_⟩
  obtain ⟨m, h, sl, R1, S1, P⟩ := h
  exact P m H _ .refl R1 rfl
theorem ov_some {f : Sl → M W} (h : PEv X T W' e f) : POv X T W' (some e) (oSome f) := by
  refine ⟨po_imp (po_some h.pe) fun σ H Q h => ?_⟩
  obtain ⟨m, h, sl, R1, S1, P⟩ := h
  refine use R1 S1 P fun m1 H1 x wx h1 l1 R1 rx P1 => ?_
  obtain ⟨o, eo, q⟩ := P1.opt
  cases rx <;> first | cases eo | skip
  exact ⟨_, rfl, q m1 H1 _ .refl R1 rfl⟩
def cutW (xs : List W) (lo hi : Option Int) : List W := (xs.drop (HT.sIx xs.length 0 lo)).take (HT.sIx xs.length xs.length hi - HT.sIx xs.length 0 lo)
def slW (x : W) (lo hi : Option Int) : LH → Option (W × LH) := fun h => match x with
  | .str z => if z.length ≤ LIM then some (.str (cutS z lo hi), h) else none
  | .tup xs => some (.tup (cutW xs lo hi), h)
  | .ref i => (seqW h (.ref i)).map fun xs => (.ref h.length, h ++ [.lst (cutW xs lo hi)])
  | _ => none
theorem cut_rel {K : PySem.W.Frag} {m : List Addr} {H : Hp} {xs : List W} {vs : List V} (r : RelWs K m H xs vs) (lo hi : Option Int) : RelWs K m H (cutW xs lo hi) (cutV vs lo hi) := by
  unfold cutW cutV
  rw [← r.length]
  exact (r.drop _).take _
theorem seqR_rel {K : PySem.W.Frag} {m : List Addr} {h : LH} {H : Hp} (R1 : Rel K T m h H) {i : Nat} {v : V} {xs : List W} (r : RelW K m H (.ref i) v) (e : seqW h (.ref i) = some xs) : ∃ a vs, v = .ref a ∧ SqL K H a vs ∧ RelWs K m H xs vs := by
  cases r with
  | ref ea =>
    obtain ⟨o, eo, k⟩ := R1.at ea
    simp only [seqW, eo] at e
    cases o with
    | lst ys =>
      cases e
      obtain ⟨vs, hv, rs⟩ := k
      exact ⟨_, vs, rfl, SqL.of hv, rs⟩
    | rd ys =>
      cases e
      obtain ⟨o, vs, hv, rs⟩ := k
      exact ⟨_, vs, rfl, .inl (.inr ⟨o, hv⟩), rs⟩
    | dct _ => cases e
    | dcl _ => cases e
    | ins _ _ => cases e
    | lam _ _ => cases e
    | dead => cases e
def slAny (X : Cx) : V → Option Int → Option Int → Hp → VK → Prop := fun x lo hi H Q => ∃ r, SlR X r ∧ r x lo hi H Q
theorem sl_any : SlR X (slAny X) := fun pins s σ H x v vl vu lo hi sl Q I rx hs pl pu ⟨r, ho, q⟩ => ho pins s σ H x v vl vu lo hi sl Q I rx hs pl pu q
def fSl (fa : Sl → M W) (fl fh : Sl → M (Option Int)) : Sl → M W := fun sl => bnd (fa sl) fun x => bnd (fl sl) fun lo => bnd (fh sl) fun hi => opt2 (slW x lo hi)
theorem ev_slice {lo hi : Option Expr} {p2 : Pos} {fa : Sl → M W} {fl fh : Sl → M (Option Int)} (ha : PEv X T W' a fa) (hl : POv X T W' lo fl) (hh : POv X T W' hi fh) : PEv X T W' (.Subscript a (.Slice lo hi none p2) pos) (fSl fa fl fh) := by
  refine ⟨pe_imp (pe_slice sl_any ha.pe hl.po hh.po) fun σ H Q h => ?_⟩
  obtain ⟨m, h, sl, R1, S1, P⟩ := h
  refine use R1 S1 P fun m1 H1 x wx h1 l1 R1 rx P1 => ?_
  refine use R1 (S1.mono l1) P1 fun m2 H2 l wl h2 l2 R2 rl P2 => ?_
  refine use R2 ((S1.mono l1).mono l2) P2 fun m3 H3 u wu h3 l3 R3 ru P3 => ?_
  obtain rfl : wl = l := rl
  obtain rfl : wu = u := ru
  replace rx := (rx.mono l2).mono l3
  obtain ⟨w, h', e, q⟩ := P3.opt2
  unfold slW at e
  split at e
  · split at e
    · rename_i hz
      cases r_str rx
      cases e
      exact ⟨_, sl_str, _, rfl, lim_of hz, q _ _ _ .refl R3 (.str _)⟩
    · cases e
  · obtain ⟨a, vs, rfl, sa, ra⟩ := r_tup rx
    cases e
    refine ⟨_, sl_tupA, a, vs, rfl, sa, fun z => ?_, fun _ p hp => newT R3 (cut_rel ra _ _) hp q⟩
    refine q _ _ _ .refl R3 (.tup sa ?_)
    have : cutV vs wl wu = vs := by
      unfold cutV
      rw [z.1, z.2]
      simp
    rw [← this]
    exact cut_rel ra _ _
  · rename_i i
    cases e1 : seqW h3 (.ref i) with
    | none => rw [e1] at e; cases e
    | some xs =>
      rw [e1] at e
      cases e
      obtain ⟨a, vs, rfl, sq2, rs⟩ := seqR_rel R3 rx e1
      exact ⟨_, sl_list, a, vs, rfl, sq2, fun p hp => newL R3 (cut_rel rs _ _) hp q⟩
  · cases e
/-! ### calls of built-in names -/
def cAny (X : Cx) (f : Value) : List V → Hp → VK → Prop := fun xs H Q => ∃ r, CallR X f r ∧ r xs H Q
theorem c_any {f : Value} : CallR X f (cAny X f) := fun pins s σ H xs us Q I rx ⟨r, ho, q⟩ => ho pins s σ H xs us Q I rx q
def CallV (X : Cx) (T : Tbs) (f : Value) (g : OL) : Prop := ∀ m h H xs ws Q, Rel X.K T m h H → RelWs X.K m H ws xs → QW X T m H (g ws h) Q → cAny X f xs H Q
def fB (g : OL) (fa : Sl → M (List W)) : Sl → M W := fun sl => bnd (fa sl) fun ws => opt2 (g ws)
theorem ev_callB {g : OL} {id : String} {x : Str} {fa : Sl → M (List W)} (hc : CallV X T (.builtin id) g) (hm : X.mg x = none) (hv : bootBuiltins x = some (.builtin id)) (ha : PAv X T W' (e :: es) fa) (hg : Gl X x := by rfl) (hn : x ≠ "__name__" := by decide) (hdb : (x == ("__debug__" : Str)) = false := by decide)
    (he : starEach (e :: es) X.env = (false, eval e X.env) :: starEach es X.env := by rfl) (hpl : (backTo pos (starEach es X.env)).any (·.1) = false := by rfl) : PEv X T W' (.Call (.Name x p) (e :: es) [] pos) (fB g fa) := by
  refine ⟨pe_imp (pe_callB c_any hg hm hv ha.pa hn hdb he hpl) fun σ H Q h => ?_⟩
  obtain ⟨m, h, sl, R1, S1, P⟩ := h
  refine use R1 S1 P fun m1 H1 xs ws h1 l1 R1 rx P1 => hc m1 h1 H1 xs ws Q R1 rx P1.opt2
theorem ev_callTy {g : OL} {t : String} {x : Str} {fa : Sl → M (List W)} (hc : CallV X T (.type t) g) (hm : X.mg x = none) (hv : bootBuiltins x = some (.type t)) (ha : PAv X T W' (e :: es) fa) (hg : Gl X x := by rfl) (hn : x ≠ "__name__" := by decide) (hdb : (x == ("__debug__" : Str)) = false := by decide)
    (he : starEach (e :: es) X.env = (false, eval e X.env) :: starEach es X.env := by rfl) (hpl : (backTo pos (starEach es X.env)).any (·.1) = false := by rfl) : PEv X T W' (.Call (.Name x p) (e :: es) [] pos) (fB g fa) := by
  refine ⟨pe_imp (pe_callTy c_any hg hm hv ha.pa hn hdb he hpl) fun σ H Q h => ?_⟩
  obtain ⟨m, h, sl, R1, S1, P⟩ := h
  refine use R1 S1 P fun m1 H1 xs ws h1 l1 R1 rx P1 => hc m1 h1 H1 xs ws Q R1 rx P1.opt2
theorem r_one {K : PySem.W.Frag} {m : List Addr} {H : Hp} {w : W} {xs : List V} (r : RelWs K m H [w] xs) : ∃ v, xs = [v] ∧ RelW K m H w v := by
  cases r with
  | cons r t => cases t; exact ⟨_, rfl, r⟩
theorem r_two {K : PySem.W.Frag} {m : List Addr} {H : Hp} {w u : W} {xs : List V} (r : RelWs K m H [w, u] xs) : ∃ v z, xs = [v, z] ∧ RelW K m H w v ∧ RelW K m H u z := by
  cases r with
  | cons r t =>
    cases t with
    | cons s t => cases t; exact ⟨_, _, rfl, r, s⟩
def lenW : OL := fun ws h => match ws with
  | [.str z] => if z.length ≤ LIM then some (.int (z.length : Nat), h) else none
  | [.tup xs] => some (.int (xs.length : Nat), h)
  | [.ref i] => match h[i]? with
    | some (.lst xs) => some (.int (xs.length : Nat), h)
    | some (.rd xs) => some (.int (xs.length : Nat), h)
    | some (.dct kvs) => some (.int (kvs.length : Nat), h)
    | _ => none
  | _ => none
theorem v_len : CallV X T (.builtin "len") lenW := by
  intro m h H xs ws Q R1 rs q
  obtain ⟨w, h', e, q⟩ := q
  unfold lenW at e
  split at e
  · obtain ⟨v, rfl, r⟩ := r_one rs
    cases r_str r
    split at e
    · rename_i z hz
      cases e
      exact ⟨_, call_len, _, _, rfl, ⟨lim_of hz, rfl⟩, q _ _ _ .refl R1 (.int _)⟩
    · cases e
  · obtain ⟨v, rfl, r⟩ := r_one rs
    obtain ⟨a, vs, rfl, sa, ra⟩ := r_tup r
    cases e
    refine ⟨_, call_len_seq, a, vs, rfl, .inr sa, ?_⟩
    rw [← ra.length]
    exact q _ _ _ .refl R1 (.int _)
  · obtain ⟨v, rfl, r⟩ := r_one rs
    split at e
    · rename_i e1
      obtain ⟨a, vs, rfl, ea, ha, ra⟩ := lst_rel R1 r e1
      cases e
      refine ⟨_, call_len_seq, a, vs, rfl, .inl (SqL.of ha), ?_⟩
      rw [← ra.length]
      exact q _ _ _ .refl R1 (.int _)
    · rename_i i _ ys e1
      obtain ⟨a, vs, rfl, sa, ra⟩ := seqR_rel (xs := ys) R1 r (by simp only [seqW, e1])
      cases e
      refine ⟨_, call_len_seq, a, vs, rfl, .inl sa, ?_⟩
      rw [← ra.length]
      exact q _ _ _ .refl R1 (.int _)
    · rename_i e1
      obtain ⟨a, vs, rfl, ea, ha, ra⟩ := dct_rel R1 r e1
      cases e
      refine ⟨_, call_lenD, a, vs, rfl, ha, ?_⟩
      rw [← kv_length ra]
      exact q _ _ _ .refl R1 (.int _)
    · cases e
  · cases e
def tupleW : OL := fun ws h => match ws with
  | [w] => (seqW h w).map fun xs => (.tup xs, h)
  | _ => none
theorem v_tuple : CallV X T (.type "tuple") tupleW := by
  intro m h H xs ws Q R1 rs q
  obtain ⟨w, h', e, q⟩ := q
  unfold tupleW at e
  split at e
  · rename_i w0
    obtain ⟨v, rfl, r⟩ := r_one rs
    cases e1 : seqW h w0 with
    | none => rw [e1] at e; cases e
    | some ys =>
      rw [e1] at e
      cases e
      obtain ⟨a, vs, rfl, sq, ra⟩ := seq_rel R1 r e1
      refine ⟨_, call_tuple_of, a, vs, rfl, ?_⟩
      rcases sq with sq | sq
      · exact .inl ⟨sq, fun l hl => newT R1 ra hl q⟩
      · exact .inr ⟨sq, q _ _ _ .refl R1 (.tup sq ra)⟩
  · cases e
def listW : OL := fun ws h => match ws with
  | [w] => (seqW h w).map fun xs => (.ref h.length, h ++ [.lst xs])
  | _ => none
theorem v_list : CallV X T (.type "list") listW := by
  intro m h H xs ws Q R1 rs q
  obtain ⟨w, h', e, q⟩ := q
  unfold listW at e
  split at e
  · rename_i w0
    obtain ⟨v, rfl, r⟩ := r_one rs
    cases e1 : seqW h w0 with
    | none => rw [e1] at e; cases e
    | some ys =>
      rw [e1] at e
      cases e
      obtain ⟨a, vs, rfl, sq, ra⟩ := seq_rel R1 r e1
      exact ⟨_, call_list_of, a, vs, rfl, sq, fun l hl => newL R1 ra hl q⟩
  · cases e
def intW : OL := fun ws h => match ws with
  | [.int i] => some (.int i, h)
  | [.bl b] => some (.int (if b then 1 else 0), h)
  | [.str z] => if z.length ≤ 640 then (PySem.intText? z).map fun n => (.int n, h) else none
  | _ => none
theorem v_int : CallV X T (.type "int") intW := by
  intro m h H xs ws Q R1 rs q
  obtain ⟨w, h', e, q⟩ := q
  unfold intW at e
  split at e
  · obtain ⟨v, rfl, r⟩ := r_one rs
    cases r_int r
    cases e
    exact ⟨_, call_int1, .inl ⟨_, rfl, q _ _ _ .refl R1 (.int _)⟩⟩
  · obtain ⟨v, rfl, r⟩ := r_one rs
    cases r
    cases e
    exact ⟨_, call_int1, .inr ⟨_, rfl, q _ _ _ .refl R1 (.int _)⟩⟩
  · obtain ⟨v, rfl, r⟩ := r_one rs
    cases r_str r
    split at e
    · rename_i z hz
      cases e1 : PySem.intText? z with
      | none => rw [e1] at e; cases e
      | some n =>
        rw [e1] at e
        cases e
        exact ⟨_, call_int_str, z, n, rfl, e1, hz, q _ _ _ .refl R1 (.int _)⟩
    · cases e
  · cases e
def strW : OL := fun ws h => match ws with
  | [.int i] => if i.natAbs < 1000000000000 then some (.str (toString i), h) else none
  | _ => none
theorem v_str : CallV X T (.type "str") strW := by
  intro m h H xs ws Q R1 rs q
  obtain ⟨w, h', e, q⟩ := q
  unfold strW at e
  split at e
  · obtain ⟨v, rfl, r⟩ := r_one rs
    cases r_int r
    split at e
    · rename_i i hz
      cases e
      refine ⟨_, call_str_int, i, rfl, ?_, q _ _ _ .refl R1 (.str _)⟩
      have h1 : i.natAbs < 2 ^ 40 := Nat.lt_of_lt_of_le hz (by decide)
      by_cases h0 : i.natAbs = 0
      · rw [h0]; decide
      · exact Nat.lt_trans ((Nat.log2_lt h0).mpr h1) (by decide)
    · cases e
  · cases e
def absW : OL := fun ws h => match ws with
  | [.int i] => some (.int (if i < 0 then -i else i), h)
  | _ => none
theorem v_abs : CallV X T (.builtin "abs") absW := by
  intro m h H xs ws Q R1 rs q
  obtain ⟨w, h', e, q⟩ := q
  unfold absW at e
  split at e
  · obtain ⟨v, rfl, r⟩ := r_one rs
    cases r_int r
    cases e
    exact ⟨_, call_abs, _, rfl, q _ _ _ .refl R1 (.int _)⟩
  · cases e
/-! ### -x -/
def negW : W → Option W
  | .int i => some (.int (-i))
  | _ => none
def fNeg (fa : Sl → M W) : Sl → M W := fun sl => bnd (fa sl) fun x => opt (negW x)
end
end Fv
set_option Elab.async false
set_option linter.all false
set_option maxRecDepth 100000
set_option maxHeartbeats 4000000
namespace Fv
open PySem PySem.Spec PyProof.Rows L2 Fh
section
variable {X : Cx} {T : Tbs} {W' : WX} {e a b c o : Expr} {es : List Expr} {pos p apos cpos : Pos}
theorem ev_neg {fa : Sl → M W} (ha : PEv X T W' a fa) : PEv X T W' (.UnaryOp .USub a pos) (fNeg fa) := by
  refine ⟨pe_imp (pe_un un_neg ha.pe) fun σ H Q h => ?_⟩
  obtain ⟨m, h, sl, R1, S1, P⟩ := h
  refine use R1 S1 P fun m1 H1 x wx h1 l1 R1 rx P1 => ?_
  obtain ⟨w, ew, q⟩ := P1.opt
  cases rx <;> first | cases ew | skip
  exact ⟨_, rfl, q m1 H1 _ .refl R1 (.int _)⟩
/-! ### methods of built-in types -/
abbrev OM := W → List W → LH → Option (W × LH)
def mAny (X : Cx) (id : String) : V → List V → Hp → VK → Prop := fun x xs H Q => ∃ r, MtR X id r ∧ r x xs H Q
theorem m_any {id : String} : MtR X id (mAny X id) := fun pins s σ H x xs v us Q I rx rs ⟨r, ho, q⟩ => ho pins s σ H x xs v us Q I rx rs q
def MtV (X : Cx) (T : Tbs) (id : String) (g : OM) : Prop := ∀ m h H x xs w ws Q, Rel X.K T m h H → RelW X.K m H w x → RelWs X.K m H ws xs → QW X T m H (g w ws h) Q → mAny X id x xs H Q
inductive Ty | str | list | dict
def Ty.nm : Ty → String
  | .str => "str"
  | .list => "list"
  | .dict => "dict"
def tyW (t : Ty) (w : W) (h : LH) : Bool := match t, w with
  | .str, .str _ => true
  | .list, .ref i => match h[i]? with
    | some (.lst _) => true
    | some (.rd _) => true
    | _ => false
  | .dict, .ref i => match h[i]? with
    | some (.dct _) => true
    | _ => false
  | _, _ => false
theorem ty_rel {m : List Addr} {h : LH} {H : Hp} {w : W} {v : V} {t : Ty} (R1 : Rel X.K T m h H) (r : RelW X.K m H w v) (e : tyW t w h = true) : tyV X.K t.nm v H := by
  unfold tyW at e
  split at e
  · cases r_str r; exact rfl
  · rename_i i
    split at e
    · rename_i ys e1
      obtain ⟨a, vs, rfl, sa, _⟩ := seqR_rel (xs := ys) R1 r (by simp only [seqW, e1])
      exact .inl ⟨rfl, _, sa⟩
    · rename_i ys e1
      obtain ⟨a, vs, rfl, sa, _⟩ := seqR_rel (xs := ys) R1 r (by simp only [seqW, e1])
      exact .inl ⟨rfl, _, sa⟩
    · cases e
  · split at e
    · rename_i e1
      obtain ⟨a, vs, rfl, ea, ha, _⟩ := dct_rel R1 r e1
      exact .inr (.inr (.inl ⟨rfl, .inl ⟨_, ha⟩⟩))
    · cases e
  · cases e
def chk (t : Ty) (w : W) : M Unit := opt2 fun h => if tyW t w h = true then some ((), h) else none
def fM (t : Ty) (g : OM) (fo : Sl → M W) (fa : Sl → M (List W)) : Sl → M W := fun sl => bnd (fo sl) fun o => bnd (chk t o) fun _ => bnd (fa sl) fun ws => opt2 (g o ws)
theorem chk_post {α β : Type} {RV : List Addr → Hp → α → β → Prop} {t : Ty} {w : W} {k : Unit → M α} {K : PySem.W.Frag} {m : List Addr} {h : LH} {H : Hp} {Q : β → Hp → Prop} {E : XK} (P : Post K T RV m H (bnd (chk t w) k h) Q E) : tyW t w h = true ∧ Post K T RV m H (k () h) Q E := by
  unfold bnd chk opt2 at P
  by_cases e : tyW t w h = true
  · simp only [e, if_true] at P
    exact ⟨e, P⟩
  · simp only [e, if_false] at P
    exact P.elim
theorem ev_bm {t : Ty} {id : String} {name : Str} {g : OM} {fo : Sl → M W} {fa : Sl → M (List W)} (hm : MtV X T id g) (pa : PlainAttrs t.nm) (slot : Slot t.nm name id) (hty : typeOf (.builtin id) = pure (.type "method_descriptor")) (ho : PEv X T W' o fo) (ha : PAv X T W' (e :: es) fa)
    (hbase : attributeBase o name X.env (eval o X.env) = eval o X.env := by rfl)
    (hfew : ((backTo cpos (starEach (e :: es) X.env)).all (fun x => !x.1) && (backToKw cpos (keywordEach [] X.env)).all (fun x => x.1.isSome)
      && decide ((e :: es).length + ([] : List Keyword).length + (if ([] : List Keyword).isEmpty then 0 else 1) < 30)) = true := by rfl)
    (hline : (apos.endLine == cpos.line) = true := by rfl) (hs : starEach (e :: es) X.env = (false, eval e X.env) :: starEach es X.env := by rfl) (hplain : (backTo cpos (starEach es X.env)).any (·.1) = false := by rfl) :
    PEv X T W' (.Call (.Attribute o name apos) (e :: es) [] cpos) (fM t g fo fa) := by
  refine ⟨pe_imp (pe_bm pa slot hty m_any ho.pe ha.pa hbase hfew hline hs hplain) fun σ H Q h => ?_⟩
  obtain ⟨m, h, sl, R1, S1, P⟩ := h
  refine use R1 S1 P fun m1 H1 x wx h1 l1 R1 rx P1 => ?_
  obtain ⟨et, P1⟩ := chk_post P1
  refine ⟨ty_rel R1 rx et, ?_⟩
  refine use R1 (S1.mono l1) P1 fun m2 H2 xs ws h2 l2 R2 rs P2 => hm m2 h2 H2 x xs wx ws Q R2 (rx.mono l2) rs P2.opt2
theorem ev_bm0 {t : Ty} {id : String} {name : Str} {g : OM} {fo : Sl → M W} (hm : MtV X T id g) (pa : PlainAttrs t.nm) (slot : Slot t.nm name id) (hty : typeOf (.builtin id) = pure (.type "method_descriptor")) (ho : PEv X T W' o fo)
    (hbase : attributeBase o name X.env (eval o X.env) = eval o X.env := by rfl) (hline : (apos.endLine == cpos.line) = true := by rfl) : PEv X T W' (.Call (.Attribute o name apos) [] [] cpos) (fM t g fo aNil) := by
  refine ⟨pe_imp (pe_bm0 pa slot hty m_any ho.pe hbase hline) fun σ H Q h => ?_⟩
  obtain ⟨m, h, sl, R1, S1, P⟩ := h
  refine use R1 S1 P fun m1 H1 x wx h1 l1 R1 rx P1 => ?_
  obtain ⟨et, P1⟩ := chk_post P1
  exact ⟨ty_rel R1 rx et, hm m1 h1 H1 x [] wx [] Q R1 rx .nil (Post.opt2 P1)⟩
def appendW : OM := fun o ws h => match o, ws with
  | .ref i, [w] => match h[i]? with
    | some (.lst xs) => if xs.length < LIM then some (.non, h.set i (.lst (xs ++ [w]))) else none
    | _ => none
  | _, _ => none
theorem v_append : MtV X T "list.append" appendW := by
  intro m h H x xs w ws Q R1 rx rs q
  obtain ⟨u, h', e, q⟩ := q
  unfold appendW at e
  split at e
  · split at e
    · split at e
      · rename_i i w0 _ ys e1 hz
        obtain ⟨a, vs, rfl, ea, ha, ra⟩ := lst_rel R1 rx e1
        obtain ⟨v, rfl, rv⟩ := r_one rs
        cases e
        exact ⟨_, mt_append, a, vs, v, rfl, rfl, ha, by rw [← ra.length]; exact lim_lt hz, putL R1 ea ha (ra.append (.cons rv .nil)) .non q⟩
      · cases e
    · cases e
  · cases e
def extendW : OM := fun o ws h => match o, ws with
  | .ref i, [.ref j] => match h[i]?, h[j]? with
    | some (.lst xs), some (.lst ys) => if xs.length + ys.length ≤ LIM then some (.non, h.set i (.lst (xs ++ ys))) else none
    | _, _ => none
  | _, _ => none
theorem v_extend : MtV X T "list.extend" extendW := by
  intro m h H x xs w ws Q R1 rx rs q
  obtain ⟨u, h', e, q⟩ := q
  unfold extendW at e
  split at e
  · split at e
    · split at e
      · rename_i e1 e2 hz
        obtain ⟨a, vs, rfl, ea, ha, ra⟩ := lst_rel R1 rx e1
        obtain ⟨v, rfl, rv⟩ := r_one rs
        obtain ⟨b, us, rfl, eb, hb, rb⟩ := lst_rel R1 rv e2
        cases e
        exact ⟨_, mt_extend, a, b, vs, us, rfl, rfl, ha, hb, by rw [← ra.length, ← rb.length]; exact lim_of hz, putL R1 ea ha (ra.append rb) .non q⟩
      · cases e
    · cases e
  · cases e
def popW : OM := fun o ws h => match o, ws with
  | .ref i, [] => match h[i]? with
    | some (.lst xs) => (xs[xs.length - 1]?).map fun w => (w, h.set i (.lst xs.dropLast))
    | _ => none
  | _, _ => none
theorem RelWs.dropLast {K : PySem.W.Frag} {m : List Addr} {H : Hp} {ws : List W} {vs : List V} (r : RelWs K m H ws vs) : RelWs K m H ws.dropLast vs.dropLast := by
  rw [List.dropLast_eq_take, List.dropLast_eq_take, ← r.length]
  exact r.take _
theorem v_pop : MtV X T "list.pop" popW := by
  intro m h H x xs w ws Q R1 rx rs q
  obtain ⟨u, h', e, q⟩ := q
  unfold popW at e
  split at e
  · split at e
    · rename_i i _ ys e1
      obtain ⟨a, vs, rfl, ea, ha, ra⟩ := lst_rel R1 rx e1
      cases rs
      cases e2 : ys[ys.length - 1]? with
      | none => rw [e2] at e; cases e
      | some w0 =>
        rw [e2] at e
        cases e
        obtain ⟨v, ev, rv⟩ := ra.get e2
        exact ⟨_, mt_pop, a, vs, v, rfl, rfl, ha, by rw [← ra.length]; exact ev, putL R1 ea ha ra.dropLast rv q⟩
    · cases e
  · cases e
/-- texts -/
def txts : List W → Option (List Str)
  | [] => some []
  | .str x :: r => (txts r).map fun ys => x :: ys
  | _ :: _ => none
theorem txts_rel {K : PySem.W.Frag} {m : List Addr} {H : Hp} : ∀ {ws : List W} {vs : List V} {ys : List Str}, RelWs K m H ws vs → txts ws = some ys → vs = ys.map V.str
  | _, _, _, .nil, e => by cases e; rfl
  | _, _, ys, .cons (x := x) (xs := xs) r t, e => by
    cases r with
    | str z =>
      unfold txts at e
      cases e1 : txts xs with
      | none => rw [e1] at e; cases e
      | some zs =>
        rw [e1] at e
        cases e
        rw [txts_rel t e1]
        rfl
    | _ => cases e
theorem txts_w {K : PySem.W.Frag} {m : List Addr} {H : Hp} : ∀ (ys : List Str), RelWs K m H (ys.map W.str) (ys.map V.str)
  | [] => .nil
  | y :: ys => .cons (.str y) (txts_w ys)
def joinW : OM := fun o ws h => match o, ws with
  | .str a, [w] => ((seqW h w).bind txts).bind fun ys => if (ys.map (·.length)).sum + ys.length * a.length ≤ LIM then some (.str (Txt.join a ys), h) else none
  | _, _ => none
theorem v_join : MtV X T "str.join" joinW := by
  intro m h H x xs w ws Q R1 rx rs q
  obtain ⟨u, h', e, q⟩ := q
  unfold joinW at e
  split at e
  · rename_i a w0
    cases r_str rx
    obtain ⟨v, rfl, rv⟩ := r_one rs
    cases e1 : seqW h w0 with
    | none => rw [e1] at e; cases e
    | some zs =>
      rw [e1] at e
      cases e2 : txts zs with
      | none => simp only [Option.bind_some, e2] at e; cases e
      | some ys =>
        simp only [Option.bind_some, e2] at e
        split at e
        · rename_i hz
          cases e
          obtain ⟨p, vs, rfl, sq, ra⟩ := seq_rel R1 rv e1
          cases txts_rel ra e2
          exact ⟨_, mt_join, a, p, ys, rfl, rfl, sq, by have := lim_of hz; rw [sizeLine_eq] at this; exact this, q _ _ _ .refl R1 (.str _)⟩
        · cases e
  · cases e
def splitW : OM := fun o ws h => match o, ws with
  | .str a, [.str b] => if (b.length == 0) = false ∧ a.length + 2 ≤ LIM then some (.ref h.length, h ++ [.lst ((Txt.split a b).map W.str)]) else none
  | .str a, [] => if a.length + 2 ≤ LIM then some (.ref h.length, h ++ [.lst ((Txt.words a).map W.str)]) else none
  | _, _ => none
theorem v_split : MtV X T "str.split" splitW := by
  intro m h H x xs w ws Q R1 rx rs q
  obtain ⟨u, h', e, q⟩ := q
  unfold splitW at e
  split at e
  · split at e
    · rename_i a b hz
      cases r_str rx
      obtain ⟨v, rfl, rv⟩ := r_one rs
      cases r_str rv
      cases e
      exact ⟨_, mt_split, a, b, rfl, rfl, hz.1, lim_of hz.2, fun p hp => newL R1 (txts_w _) hp q⟩
    · cases e
  · split at e
    · rename_i a hz
      cases r_str rx
      cases rs
      cases e
      exact ⟨_, mt_words, a, rfl, rfl, lim_of hz, fun p hp => newL R1 (txts_w _) hp q⟩
    · cases e
  · cases e
/-! ### own defs, methods, classes -/
/-- what a def promises: it does as F tells -/
def spF (K : PySem.W.Frag) (T : Tbs) (n : Nat) (F : List W → M W) : Sp := fun vs H Q E => ∃ m h ws, Rel K T m h H ∧ RelWs K m H ws vs ∧ ws.length = n ∧ Post K T (RelW K) m H (F ws h) Q E
def fCall (n : Nat) (F : List W → M W) (fa : Sl → M (List W)) : Sl → M W := fun sl => bnd (fa sl) fun ws h => if ws.length = n then F ws h else .bad
variable {ar : Air} {k j n : Nat} {x : Str} {F : List W → M W}
theorem ev_call {fa : Sl → M (List W)} (cc : CalX ar X.prog X.w X.K X.mg X.base k x (spF X.K T n F)) (hr : Room j X.A) (hk : k ≤ j) (tk : ar.T X W') (ha : PAv X T W' (e :: es) fa) (hg : Gl X x := by rfl) (hdb : (x == ("__debug__" : Str)) = false := by decide)
    (he : starEach (e :: es) X.env = (false, eval e X.env) :: starEach es X.env := by rfl) (hpl : (backTo pos (starEach es X.env)).any (·.1) = false := by rfl) : PEv X T W' (.Call (.Name x p) (e :: es) [] pos) (fCall n F fa) := by
  refine ⟨pe_imp (pe_cx cc hr hk tk ha.pa hg hdb he hpl) fun σ H Q h => ?_⟩
  obtain ⟨m, h, sl, R1, S1, P⟩ := h
  refine use R1 S1 P fun m1 H1 xs ws h1 l1 R1 rs P1 => ?_
  split at P1
  · rename_i hn
    exact ⟨m1, h1, ws, R1, rs, hn, P1⟩
  · exact P1.elim
/-- an instance of the class c -/
def isI (c : Str) (w : W) (h : LH) (mt : Str) : Bool := match w with
  | .ref i => match h[i]? with
    | some (.ins c' fs) => decide (c' = c) && (fs.lookup mt).isNone
    | _ => false
  | _ => false
def chkI (c : Str) (mt : Str) (w : W) : M Unit := opt2 fun h => if isI c w h mt = true then some ((), h) else none
def fMeth (c : Str) (mt : Str) (n : Nat) (F : List W → M W) (fo : Sl → M W) (fa : Sl → M (List W)) : Sl → M W := fun sl => bnd (fo sl) fun o => bnd (chkI c mt o) fun _ => bnd (fa sl) fun ws h => if ws.length + 1 = n then F (o :: ws) h else .bad
theorem chkI_post {α β : Type} {RV : List Addr → Hp → α → β → Prop} {c mt : Str} {w : W} {k : Unit → M α} {K : PySem.W.Frag} {m : List Addr} {h : LH} {H : Hp} {Q : β → Hp → Prop} {E : XK} (P : Post K T RV m H (bnd (chkI c mt w) k h) Q E) : isI c w h mt = true ∧ Post K T RV m H (k () h) Q E := by
  unfold bnd chkI opt2 at P
  by_cases e : isI c w h mt = true
  · simp only [e, if_true] at P
    exact ⟨e, P⟩
  · simp only [e, if_false] at P
    exact P.elim
theorem relF_look {K : PySem.W.Frag} {m : List Addr} {H : Hp} (f : Str) : ∀ {fs : List (Str × W)} {vs : List (Str × V)}, RelF K m H fs vs → (∀ w, fs.lookup f = some w → ∃ v, vs.lookup f = some v ∧ RelW K m H w v) ∧ (fs.lookup f = none → vs.lookup f = none)
  | _, _, .nil => ⟨fun _ e => (nomatch e), fun _ => rfl⟩
  | _, _, .cons (f := g) (ks := ks) (vs := vs) (w := w0) (v := v0) r t => by
    have ih := relF_look f t
    by_cases hk : f = g
    · subst hk
      refine ⟨fun w e => ⟨v0, by simp [List.lookup], ?_⟩, fun e => ?_⟩
      · simp [List.lookup] at e
        subst e
        exact r
      · simp [List.lookup] at e
    · have hb : (f == g) = false := by simpa using hk
      have e1 : List.lookup f ((g, w0) :: ks) = List.lookup f ks := by simp [List.lookup, hb]
      have e2 : List.lookup f ((g, v0) :: vs) = List.lookup f vs := by simp [List.lookup, hb]
      rw [e1, e2]
      exact ih
theorem isI_rel {m : List Addr} {h : LH} {H : Hp} {w : W} {v : V} {c mt : Str} {K : PySem.W.Frag} (R1 : Rel K T m h H) (r : RelW K m H w v) (e : isI c w h mt = true) : ∃ a dx fs, v = .ref a ∧ H a = some (.ins (He.ga K c) dx fs) ∧ fs.lookup mt = none := by
  unfold isI at e
  split at e
  · split at e
    · rename_i e1
      simp only [Bool.and_eq_true, decide_eq_true_eq, Option.isNone_iff_eq_none] at e
      obtain ⟨rfl, en⟩ := e
      cases r with
      | ref ea =>
        obtain ⟨dx, vs, hv, rf⟩ := R1.obj _ _ _ ea e1
        exact ⟨_, dx, vs, rfl, hv, (relF_look mt rf).2 en⟩
    · cases e
  · cases e
theorem ev_meth {cn mt : Str} {fo : Sl → M W} {fa : Sl → M (List W)} {pl : Sem Bool} (cc : MetX ar X.prog X.w X.K X.mg X.base k (He.ga X.K cn) mt (spF X.K T n F)) (hr : Room j X.A) (hk : k ≤ j) (tk : ar.T X W') (ho : PEv X T W' o fo) (ha : PAv X T W' (e :: es) fa)
    (ht : eval (.Call (.Attribute o mt apos) (e :: es) [] pos) X.env = (do
      let ov ← eval o X.env
      standAt apos.atName
      let (f, first) ← holding [ov] (getMethod ov mt pl)
      callWith pos f first (backTo pos (starEach (e :: es) X.env)) (backToKw pos (keywordEach [] X.env))) := by rfl)
    (he : starEach (e :: es) X.env = (false, eval e X.env) :: starEach es X.env := by rfl) (hpl : (backTo pos (starEach es X.env)).any (·.1) = false := by rfl) : PEv X T W' (.Call (.Attribute o mt apos) (e :: es) [] pos) (fMeth cn mt n F fo fa) := by
  refine ⟨pe_imp (pe_mx cc hr hk tk ho.pe ha.pa ht he hpl) fun σ H Q h => ?_⟩
  obtain ⟨m, h, sl, R1, S1, P⟩ := h
  refine use R1 S1 P fun m1 H1 x wx h1 l1 R1 rx P1 => ?_
  obtain ⟨et, P1⟩ := chkI_post P1
  obtain ⟨a, dx, fs, ex, ea, el⟩ := isI_rel R1 rx et
  refine ⟨a, dx, fs, ex, ea, el, ?_⟩
  refine use R1 (S1.mono l1) P1 fun m2 H2 xs ws h2 l2 R2 rs P2 => ?_
  split at P2
  · rename_i hn
    exact ⟨m2, h2, wx :: ws, R2, .cons (rx.mono l2) rs, hn, P2⟩
  · exact P2.elim
theorem ev_meth0 {cn mt : Str} {fo : Sl → M W} {pl : Sem Bool} (cc : MetX ar X.prog X.w X.K X.mg X.base k (He.ga X.K cn) mt (spF X.K T n F)) (hr : Room j X.A) (hk : k ≤ j) (tk : ar.T X W') (ho : PEv X T W' o fo)
    (ht : eval (.Call (.Attribute o mt apos) [] [] pos) X.env = (do
      let ov ← eval o X.env
      standAt apos.atName
      let (f, first) ← holding [ov] (getMethod ov mt pl)
      callWith pos f first (backTo pos (starEach [] X.env)) (backToKw pos (keywordEach [] X.env))) := by rfl) : PEv X T W' (.Call (.Attribute o mt apos) [] [] pos) (fMeth cn mt n F fo aNil) := by
  refine ⟨pe_imp (pe_mx0 cc hr hk tk ho.pe ht) fun σ H Q h => ?_⟩
  obtain ⟨m, h, sl, R1, S1, P⟩ := h
  refine use R1 S1 P fun m1 H1 x wx h1 l1 R1 rx P1 => ?_
  obtain ⟨et, P1⟩ := chkI_post P1
  obtain ⟨a, dx, fs, ex, ea, el⟩ := isI_rel R1 rx et
  refine ⟨a, dx, fs, ex, ea, el, ?_⟩
  have P2 : Post X.K T (RelW X.K) m1 H1 (if ([] : List W).length + 1 = n then F [wx] h1 else .bad) Q (WE W' σ) := P1
  split at P2
  · rename_i hn
    exact ⟨m1, h1, [wx], R1, .cons rx .nil, hn, P2⟩
  · exact P2.elim
/-- C(..) -/
def fMake (c : Str) (n : Nat) (F : List W → M W) (fa : Sl → M (List W)) : Sl → M W := fun sl => bnd (fa sl) fun ws h => if ws.length + 1 = n then (match F (.ref h.length :: ws) (h ++ [.ins c []]) with
  | .ok .non h' => .ok (.ref h.length) h'
  | .ok _ _ => .bad
  | .ex c p h' => .ex c p h'
  | .bad => .bad) else .bad
theorem make_post {m : List Addr} {h : LH} {H : Hp} {ws : List W} {xs : List V} {Q : VK} {E : XK} {c : Str} {K : PySem.W.Frag} (R1 : Rel K T m h H) (rs : RelWs K m H ws xs) (P : Post K T (RelW K) m H (if ws.length + 1 = n then (match F (.ref h.length :: ws) (h ++ [.ins c []]) with
  | .ok .non h' => R.ok (W.ref h.length) h'
  | .ok _ _ => .bad
  | .ex c p h' => .ex c p h'
  | .bad => .bad) else .bad) Q E) : ∀ x dx, H x = none → H dx = none → dx ≠ x →
  spF K T n F (.ref x :: xs) (upd (upd H dx (.own x)) x (.ins (He.ga K c) dx [])) (fun v H2 => v = .non ∧ Q (.ref x) H2) E := by
  intro x dx hx hdx ne
  have R2 := R1.aside hdx (.own x)
  have hx2 : upd H dx (.own x) x = none := by rw [upd_ne (Ne.symm ne)]; exact hx
  have l : Le K m H (m ++ [x]) (upd (upd H dx (.own x)) x (.ins (He.ga K c) dx [])) := (Le.aside R1 hdx _).trans (Le.new R2 hx2 _)
  have R3 := R2.new hx2 (o := .ins (He.ga K c) dx []) (lo := .ins c []) ⟨dx, [], upd_same, .nil⟩
  split at P
  · rename_i hn
    refine ⟨m ++ [x], _, .ref h.length :: ws, R3, .cons (.ref (by rw [← R1.len]; simp)) (rs.mono l), hn, ?_⟩
    split at P
    · rename_i h' e
      rw [e]
      intro m' H' v l' R' rv
      cases rv
      refine ⟨rfl, P m' H' _ (l.trans l') R' (.ref (l'.at (by rw [← R1.len]; simp)))⟩
    · exact P.elim
    · rename_i e
      rw [e]
      exact fun m' H' l' => P m' H' (l.trans l')
    · exact P.elim
  · exact P.elim
theorem ev_make {cn : Str} {fa : Sl → M (List W)} (cc : MakX ar X.prog X.w X.K X.mg X.base k x (He.ga X.K cn) (spF X.K T n F)) (hr : Room j X.A) (hk : k + 1 ≤ j) (tk : ar.T X W') (ha : PAv X T W' (e :: es) fa) (hg : Gl X x := by rfl) (hdb : (x == ("__debug__" : Str)) = false := by decide)
    (he : starEach (e :: es) X.env = (false, eval e X.env) :: starEach es X.env := by rfl) (hpl : (backTo pos (starEach es X.env)).any (·.1) = false := by rfl) : PEv X T W' (.Call (.Name x p) (e :: es) [] pos) (fMake cn n F fa) := by
  refine ⟨pe_imp (pe_mkx cc hr hk tk ha.pa hg hdb he hpl) fun σ H Q h => ?_⟩
  obtain ⟨m, h, sl, R1, S1, P⟩ := h
  exact use R1 S1 P fun m1 H1 xs ws h1 l1 R1 rs P1 => make_post R1 rs P1
theorem ev_make0 {cn : Str} (cc : MakX ar X.prog X.w X.K X.mg X.base k x (He.ga X.K cn) (spF X.K T n F)) (hr : Room j X.A) (hk : k + 1 ≤ j) (tk : ar.T X W') (hg : Gl X x := by rfl) (hdb : (x == ("__debug__" : Str)) = false := by decide) : PEv X T W' (.Call (.Name x p) [] [] pos) (fMake cn n F aNil) := by
  refine ⟨pe_imp (pe_mkx0 cc hr hk tk hg hdb) fun σ H Q h => ?_⟩
  obtain ⟨m, h, sl, R1, S1, P⟩ := h
  exact make_post (ws := []) R1 .nil P
/-! ### fields -/
/-- the classes that have the field -/
def fldW (cs : List Str) (f : Str) (w : W) : LH → Option (W × LH) := fun h => match w with
  | .ref i => match h[i]? with
    | some (.ins c fs) => if c ∈ cs then (fs.lookup f).map fun v => (v, h) else none
    | _ => none
  | _ => none
def fFld (cs : List Str) (f : Str) (fo : Sl → M W) : Sl → M W := fun sl => bnd (fo sl) fun o => opt2 (fldW cs f o)
/-- the classes are plain, the field is no attribute of theirs -/
def FldOk (K : PySem.W.Frag) (cs : List Str) (f : Str) : Prop := ∀ c ∈ cs, Cls K (He.ga K c) ∧ NoAttr K (He.ga K c) f
theorem ev_fld {cs : List Str} {f : Str} {fo : Sl → M W} (hc : FldOk X.K cs f) (ho : PEv X T W' o fo) (hb : attributeBase o f X.env (eval o X.env) = eval o X.env := by rfl) : PEv X T W' (.Attribute o f pos) (fFld cs f fo) := by
  refine ⟨pe_imp (pe_fld ho.pe hb) fun σ H Q h => ?_⟩
  obtain ⟨m, h, sl, R1, S1, P⟩ := h
  refine use R1 S1 P fun m1 H1 x wx h1 l1 R1 rx P1 => ?_
  obtain ⟨w, h', e, q⟩ := P1.opt2
  unfold fldW at e
  split at e
  · split at e
    · split at e
      · rename_i c fs e1 hcs
        cases rx with
        | ref ea =>
          obtain ⟨dx, vs, hv, rf⟩ := R1.obj _ _ _ ea e1
          cases e2 : fs.lookup f with
          | none => rw [e2] at e; cases e
          | some w2 =>
            rw [e2] at e
            cases e
            obtain ⟨v, ev, rv⟩ := (relF_look f rf).1 _ e2
            exact ⟨_, _, dx, vs, v, rfl, hv, (hc c hcs).1, (hc c hcs).2, ev, q _ _ _ .refl R1 rv⟩
      · cases e
    · cases e
  · cases e
end
end Fv
set_option Elab.async false
set_option linter.all false
set_option maxRecDepth 100000
set_option maxHeartbeats 4000000
namespace Fv
open PySem PySem.Spec PyProof.Rows L2 Fh
/-! ### statements -/
inductive RS where
  | nx (sl : Sl) (h : LH) | rt (w : W) (h : LH) | bk (sl : Sl) (h : LH) | ct (sl : Sl) (h : LH) | ex (c : Str) (p : Option (Str × W)) (sl : Sl) (h : LH) | bad
abbrev FS := Sl → LH → RS
section
variable (K : PySem.W.Frag) (T : Tbs)
def PostS (m : List Addr) (H : Hp) (r : RS) (D : Ends) (W' : WX) : Prop := match r with
  | .nx sl h => ∀ m' H' σ', Le K m H m' H' → Rel K T m' h H' → RelS K m' H' sl σ' → D.nx σ' H'
  | .rt w h => ∀ m' H' v, Le K m H m' H' → Rel K T m' h H' → RelW K m' H' w v → D.rt v H'
  | .bk sl h => ∀ m' H' σ', Le K m H m' H' → Rel K T m' h H' → RelS K m' H' sl σ' → D.bk σ' H'
  | .ct sl h => ∀ m' H' σ', Le K m H m' H' → Rel K T m' h H' → RelS K m' H' sl σ' → D.ct σ' H'
  | .ex c p sl h => ∀ m' H' σ', Le K m H m' H' → Rel K T m' h H' → RelS K m' H' sl σ' → ExR K m' H' c p (WE W' σ')
  | .bad => False
def liftS (W' : WX) (f : FS) : TS := fun D σ H => ∃ m h sl, Rel K T m h H ∧ RelS K m H sl σ ∧ PostS K T m H (f sl h) D W'
end
section
variable {K : PySem.W.Frag} {T : Tbs} {m m1 : List Addr} {H H1 : Hp}
theorem PostS.mono (l : Le K m H m1 H1) {r : RS} {D : Ends} {W' : WX} (h : PostS K T m H r D W') : PostS K T m1 H1 r D W' := by
  cases r with
  | nx sl h' => exact fun m' H' v l' => h m' H' v (l.trans l')
  | rt sl h' => exact fun m' H' v l' => h m' H' v (l.trans l')
  | bk sl h' => exact fun m' H' v l' => h m' H' v (l.trans l')
  | ct sl h' => exact fun m' H' v l' => h m' H' v (l.trans l')
  | ex c p sl h' => exact fun m' H' v l' => h m' H' v (l.trans l')
  | bad => exact h
end
structure PSv (X : Cx) (T : Tbs) (W' : WX) (st : Stmt) (f : FS) : Prop where
  ps : PS X st (liftS X.K T W' f)
structure PSsv (X : Cx) (T : Tbs) (W' : WX) (st : List Stmt) (f : FS) : Prop where
  ps : PSs X st (liftS X.K T W' f)
/-- first an expression -/
def eS {α : Type} (f : Sl → M α) (k : α → FS) : FS := fun sl h => match f sl h with
  | .ok a h' => k a sl h'
  | .ex c p h' => .ex c p sl h'
  | .bad => .bad
section
variable {K : PySem.W.Frag} {T : Tbs} {α β : Type} {RV : List Addr → Hp → α → β → Prop} {m m1 : List Addr} {H H1 : Hp}
theorem useS {fa : Sl → M α} {k : α → FS} {W' : WX} {sl : Sl} {σ : L2.St} {h : LH} {D : Ends} {Q1 : β → Hp → Prop} (R1 : Rel K T m h H) (S1 : RelS K m H sl σ) (P : PostS K T m H (eS fa k sl h) D W')
    (f : ∀ m' H' v w h', Le K m H m' H' → Rel K T m' h' H' → RV m' H' w v → PostS K T m' H' (k w sl h') D W' → Q1 v H') : liftG K T RV W' fa σ H Q1 := by
  refine ⟨m, h, sl, R1, S1, ?_⟩
  unfold eS at P
  cases e : fa sl h with
  | ok w h' =>
    rw [e] at P
    exact fun m' H' v l r q => f m' H' v w h' l r q (P.mono l)
  | ex c p h' =>
    rw [e] at P
    exact fun m' H' l r => P m' H' σ l r (S1.mono l)
  | bad =>
    rw [e] at P
    exact P
end
/-! ### targets -/
inductive Pat | nm (i : Nat) | tp (is : List Nat)
def setAll : List Nat → List W → Sl → Sl
  | i :: is, w :: ws, sl => setAll is ws (sl.set i (some w))
  | _, _, sl => sl
def bindP (p : Pat) (w : W) (sl : Sl) : Option Sl := match p, w with
  | .nm i, w => some (sl.set i (some w))
  | .tp is, .tup ws => if ws.length = is.length then some (setAll is ws sl) else none
  | _, _ => none
def Pat.ids : Pat → List Nat
  | .nm i => [i]
  | .tp is => is
def liftP (K : PySem.W.Frag) (T : Tbs) (p : Pat) : TG := fun v σ H Q => ∃ m h sl w sl', Rel K T m h H ∧ RelS K m H sl σ ∧ RelW K m H w v ∧ bindP p w sl = some sl' ∧ ∀ σ', RelS K m H sl' σ' → (∀ vs, (∀ i ∈ p.ids, i ∈ vs) → wipe σ' vs = wipe σ vs) → Q σ' H
structure PGv (X : Cx) (T : Tbs) (tg : Expr) (p : Pat) : Prop where
  pg : PG X tg (liftP X.K T p)
theorem pg_imp {X : Cx} {e : Expr} {t t' : TG} (h : PG X e t) (f : ∀ v σ H Q, t' v σ H Q → t v σ H Q) : PG X e t' := ⟨fun pins s σ H v u Q I r q => h.run pins s σ H v u Q I r (f v σ H Q q)⟩
theorem wipe_set (σ : L2.St) (i : Nat) (v : Option V) : ∀ (vs : List Nat), i ∈ vs → wipe (σ.set i v) vs = wipe σ vs
  | [], h => by cases h
  | j :: vs, h => by
    unfold wipe
    by_cases hj : j = i
    · subst hj
      by_cases hm : j ∈ vs
      · rw [wipe_set σ j v vs hm]
      · have e : ∀ us : List Nat, j ∉ us → wipe (σ.set j v) us = (wipe σ us).set j v := by
          intro us
          induction us with
          | nil => intro _; rfl
          | cons u us ih =>
            intro hn
            have hu : j ≠ u ∧ j ∉ us := by simpa using hn
            unfold wipe
            rw [ih hu.2, List.set_comm _ _ hu.1]
        rw [e vs hm, List.set_set]
    · have hm : i ∈ vs := by
        rcases List.mem_cons.mp h with z | z
        · exact absurd z.symm hj
        · exact z
      rw [wipe_set σ i v vs hm]
section
variable {X : Cx} {T : Tbs} {W' : WX} {e a b c o tg : Expr} {es : List Expr} {pos p : Pos}
theorem gv_nm {i : Nat} (h : PG X tg (gName i)) : PGv X T tg (.nm i) := by
  refine ⟨pg_imp h fun v σ H Q h => ?_⟩
  obtain ⟨m, h, sl, w, sl', R1, S1, rw', e, q⟩ := h
  cases e
  exact q _ (S1.set i rw') fun vs hv => wipe_set σ i _ vs (hv i (by simp [Pat.ids]))
def gAll : List Nat → TGs
  | [] => gNil
  | i :: is => gCons (gName i) (gAll is)
theorem gAll_rel {K : PySem.W.Frag} {m : List Addr} {H : Hp} : ∀ {is : List Nat} {ws : List W} {vs : List V} {sl : Sl} {σ : L2.St} {Q : L2.St → Hp → Prop}, RelWs K m H ws vs → ws.length = is.length → RelS K m H sl σ →
    (∀ σ', RelS K m H (setAll is ws sl) σ' → (∀ us, (∀ i ∈ is, i ∈ us) → wipe σ' us = wipe σ us) → Q σ' H) → gAll is vs σ H Q
  | [], [], _, sl, σ, Q, .nil, _, S1, q => ⟨rfl, q σ S1 fun _ _ => rfl⟩
  | i :: is, w :: ws, _, sl, σ, Q, .cons r t, hl, S1, q => by
    refine ⟨_, _, rfl, ?_⟩
    refine gAll_rel t (by simpa using hl) (S1.set i r) fun σ' S' hw => q σ' S' fun us hu => ?_
    rw [hw us fun j hj => hu j (List.mem_cons_of_mem _ hj)]
    exact wipe_set σ i _ us (hu i (by simp))
theorem gv_tp {is : List Nat} {n : Nat} (h : PG X tg (gTup X.K n (gAll is))) (hn : n = is.length := by rfl) : PGv X T tg (.tp is) := by
  refine ⟨pg_imp h fun v σ H Q h => ?_⟩
  obtain ⟨m, h, sl, w, sl', R1, S1, rw', e, q⟩ := h
  cases w with
  | tup ws =>
    unfold bindP at e
    dsimp only at e
    split at e
    · rename_i hl
      cases e
      obtain ⟨a, vs, rfl, sa, ra⟩ := r_tup rw'
      exact ⟨a, vs, rfl, sa, by rw [← ra.length, hl, hn], gAll_rel ra hl S1 q⟩
    · cases e
  | _ => cases e
/-! ### small statements -/
def sNx : FS := fun sl h => .nx sl h
def sSeq (f g : FS) : FS := fun sl h => match f sl h with
  | .nx sl' h' => g sl' h'
  | r => r
variable {st : Stmt} {rest : List Stmt}
theorem sv_nil : PSsv X T W' [] sNx := by
  refine ⟨pss_imp pss_nil fun D σ H h => ?_⟩
  obtain ⟨m, h, sl, R1, S1, P⟩ := h
  exact P m H σ .refl R1 S1
theorem sv_cons {f g : FS} (h1 : PSv X T W' st f) (h2 : PSsv X T W' rest g) : PSsv X T W' (st :: rest) (sSeq f g) := by
  refine ⟨pss_imp (pss_cons h1.ps h2.ps) fun D σ H h => ?_⟩
  obtain ⟨m, h, sl, R1, S1, P⟩ := h
  refine ⟨m, h, sl, R1, S1, ?_⟩
  unfold sSeq at P
  cases e : f sl h with
  | nx sl' h' =>
    rw [e] at P
    exact fun m' H' σ' l R' S' => ⟨m', h', sl', R', S', P.mono l⟩
  | _ => rw [e] at P; exact P
theorem sv_one {f : FS} (h1 : PSv X T W' st f) : PSsv X T W' [st] f := ⟨pss_one h1.ps⟩
def sNo : FS := fun _ _ => .bad
theorem sv_no : PSsv X T W' rest sNo := ⟨⟨fun _ _ _ _ _ _ h => by obtain ⟨_, _, _, _, _, P⟩ := h; exact P.elim⟩⟩
theorem sv_no1 : PSv X T W' st sNo := ⟨⟨fun _ _ _ _ _ _ h => by obtain ⟨_, _, _, _, _, P⟩ := h; exact P.elim⟩⟩
theorem sv_pass : PSv X T W' (.Pass pos) sNx := by
  refine ⟨ps_imp ps_pass fun D σ H h => ?_⟩
  obtain ⟨m, h, sl, R1, S1, P⟩ := h
  exact P m H σ .refl R1 S1
def sBk : FS := fun sl h => .bk sl h
def sCt : FS := fun sl h => .ct sl h
theorem sv_break : PSv X T W' (.Break pos) sBk := by
  refine ⟨ps_imp ps_break fun D σ H h => ?_⟩
  obtain ⟨m, h, sl, R1, S1, P⟩ := h
  exact P m H σ .refl R1 S1
theorem sv_continue : PSv X T W' (.Continue pos) sCt := by
  refine ⟨ps_imp ps_continue fun D σ H h => ?_⟩
  obtain ⟨m, h, sl, R1, S1, P⟩ := h
  exact P m H σ .refl R1 S1
def sE (f : Sl → M W) : FS := eS f fun _ => sNx
theorem sv_expr {f : Sl → M W} (he : PEv X T W' e f) (hs : swapsWith e none pos.line X.env = pure false := by rfl) : PSv X T W' (.Expr e pos) (sE f) := by
  refine ⟨ps_imp (ps_expr he.pe hs) fun D σ H h => ?_⟩
  obtain ⟨m, h, sl, R1, S1, P⟩ := h
  exact useS R1 S1 P fun m1 H1 x wx h1 l1 R1 rx P1 => P1 m1 H1 σ .refl R1 (S1.mono l1)
def sRt (f : Sl → M W) : FS := eS f fun w _ h => .rt w h
theorem sv_ret {f : Sl → M W} (he : PEv X T W' e f) : PSv X T W' (.Return (some e) pos) (sRt f) := by
  refine ⟨ps_imp (ps_ret he.pe) fun D σ H h => ?_⟩
  obtain ⟨m, h, sl, R1, S1, P⟩ := h
  exact useS R1 S1 P fun m1 H1 x wx h1 l1 R1 rx P1 => P1 m1 H1 x .refl R1 rx
def sRtN : FS := fun _ h => .rt .non h
theorem sv_retN : PSv X T W' (.Return none pos) sRtN := by
  refine ⟨ps_imp ps_retN fun D σ H h => ?_⟩
  obtain ⟨m, h, sl, R1, S1, P⟩ := h
  exact P m H _ .refl R1 .non
def sIf (c : Sl → M Bool) (f g : FS) : FS := eS c fun b => if b = true then f else g
theorem sv_if {sa sb : List Stmt} {fc : Sl → M Bool} {f g : FS} (hc : PTv X T W' c fc) (ha : PSsv X T W' sa f) (hb : PSsv X T W' sb g) : PSv X T W' (.If c sa sb pos) (sIf fc f g) := by
  refine ⟨ps_imp (ps_if hc.pt ha.ps hb.ps) fun D σ H h => ?_⟩
  obtain ⟨m, h, sl, R1, S1, P⟩ := h
  refine useS R1 S1 P fun m1 H1 x wx h1 l1 R1 rx P1 => ?_
  obtain rfl : wx = x := rx
  cases wx with
  | true => exact ⟨m1, h1, sl, R1, S1.mono l1, P1⟩
  | false => exact ⟨m1, h1, sl, R1, S1.mono l1, P1⟩
/-! ### assignments -/
def sSet (i : Nat) (f : Sl → M W) : FS := eS f fun w sl h => .nx (sl.set i (some w)) h
def sAsg (p : Pat) (f : Sl → M W) : FS := eS f fun w sl h => match bindP p w sl with
  | some sl' => .nx sl' h
  | none => .bad
theorem sv_asg {pt : Pat} {f : Sl → M W} (he : PEv X T W' e f) (hg : PGv X T tg pt) (hs : swapsWithSole [tg] e pos.line X.env = pure false := by rfl) (hw : swappedStores [tg] e X.env = pure none := by rfl)
    (h1 : (assignEach [tg] X.env).map (·.2) = [assign tg X.env] := by rfl) : PSv X T W' (.Assign [tg] e pos) (sAsg pt f) := by
  refine ⟨ps_imp (ps_asg he.pe hg.pg hs hw h1) fun D σ H h => ?_⟩
  obtain ⟨m, h, sl, R1, S1, P⟩ := h
  refine useS R1 S1 P fun m1 H1 x wx h1 l1 R1 rx P1 => ?_
  cases e1 : bindP pt wx sl with
  | none => rw [e1] at P1; exact P1.elim
  | some sl' =>
    rw [e1] at P1
    exact ⟨m1, h1, sl, wx, sl', R1, S1.mono l1, rx, e1, fun σ' S' _ => P1 m1 H1 σ' .refl R1 S'⟩
theorem sv_set {i : Nat} {x : Str} {pos' : Pos} {f : Sl → M W} (hN : X.N.Nodup) (hi : X.N[i]? = some x) (hx : Loc X.env.scope x) (he : PEv X T W' e f) (hs : swapsWith e (some (.Name x pos')) pos.line X.env = pure false := by rfl) (hf : X.fn x = true ∨ X.env.scope.names.lookup x = some .local := by first | exact .inl rfl | exact .inr rfl | assumption) :
    PSv X T W' (.Assign [.Name x pos'] e pos) (sSet i f) := by
  refine ⟨ps_imp (ps_set hN hi hx he.pe hs hf) fun D σ H h => ?_⟩
  obtain ⟨m, h, sl, R1, S1, P⟩ := h
  exact useS R1 S1 P fun m1 H1 x wx h1 l1 R1 rx P1 => P1 m1 H1 _ .refl R1 ((S1.mono l1).set i rx)
def sPar (i j : Nat) (fa : Sl → M (List W)) : FS := eS fa fun ws sl h => match ws with
  | [v, w] => .nx ((sl.set i (some v)).set j (some w)) h
  | _ => .bad
theorem sv_par {i j : Nat} {x y : Str} {fa : Sl → M (List W)} {px py pt : Pos} {kt k2 pt2} (hc : X.calm = true) (hN : X.N.Nodup) (hi : X.N[i]? = some x) (hj : X.N[j]? = some y) (hij : i ≠ j)
    (hx : X.env.scope.names.lookup x = some .local) (hy : X.env.scope.names.lookup y = some .local) (ha : PAv X T W' [a, b] fa)
    (hw : swappedStores [.Tuple [.Name x px, .Name y py] kt pt] (.Tuple [a, b] k2 pt2) X.env = pure (some [x, y]))
    (hs : swapsWithSole [.Tuple [.Name x px, .Name y py] kt pt] (.Tuple [a, b] k2 pt2) pos.line X.env = pure false := by rfl) :
    PSv X T W' (.Assign [.Tuple [.Name x px, .Name y py] kt pt] (.Tuple [a, b] k2 pt2) pos) (sPar i j fa) := by
  refine ⟨ps_imp (ps_par hc hN hi hj hij hx hy ha.pa hw hs) fun D σ H h => ?_⟩
  obtain ⟨m, h, sl, R1, S1, P⟩ := h
  refine useS R1 S1 P fun m1 H1 x wx h1 l1 R1 rx P1 => ?_
  split at P1
  · obtain ⟨v, z, rfl, r1, r2⟩ := r_two rx
    exact ⟨v, z, rfl, P1 m1 H1 _ .refl R1 (((S1.mono l1).set i r1).set j r2)⟩
  · exact P1.elim
/-- x op= e -/
def ipAny (X : Cx) (op : Operator) : TIp := fun x y H Q => ∃ r, PIp X op r ∧ r x y H Q
theorem ip_any {op : Operator} : PIp X op (ipAny X op) := fun pins s σ H x y v u Q I rx ry ⟨r, ho, q⟩ => ho pins s σ H x y v u Q I rx ry q
def IpV (X : Cx) (T : Tbs) (op : Operator) (g : O2) : Prop := ∀ m h H x y wx wy Q, Rel X.K T m h H → RelW X.K m H wx x → RelW X.K m H wy y → QW X T m H (g wx wy h) Q → ipAny X op x y H Q
def sAug (i : Nat) (g : O2) (f : Sl → M W) : FS := eS (fVar i) fun x => eS f fun y => eS (fun _ => opt2 (g x y)) fun z sl h => .nx (sl.set i (some z)) h
theorem sv_aug {i : Nat} {x : Str} {op : Operator} {g : O2} {pos' : Pos} {f : Sl → M W} (hN : X.N.Nodup) (hi : X.N[i]? = some x) (hx : Loc X.env.scope x) (ho : IpV X T op g) (he : PEv X T W' e f) (hf : X.fn x = true ∨ X.env.scope.names.lookup x = some .local := by first | exact .inl rfl | exact .inr rfl | assumption) :
    PSv X T W' (.AugAssign (.Name x pos') op e pos) (sAug i g f) := by
  refine ⟨ps_imp (ps_aug hN hi hx he.pe ip_any hf) fun D σ H h => ?_⟩
  obtain ⟨m, h, sl, R1, S1, P⟩ := h
  unfold sAug eS fVar opt at P
  cases e1 : sl[i]?.getD none with
  | none => rw [e1] at P; exact P.elim
  | some w =>
    rw [e1] at P
    have es : sl[i]? = some (some w) := by
      cases z : sl[i]? with
      | none => rw [z] at e1; cases e1
      | some o => rw [z] at e1; exact congrArg some e1
    obtain ⟨v, ev, rv⟩ := S1.get i w es
    refine ⟨v, ev, ?_⟩
    have P : PostS X.K T m H (eS f (fun y => eS (fun _ => opt2 (g w y)) fun z sl h => .nx (sl.set i (some z)) h) sl h) D W' := P
    refine useS R1 S1 P fun m1 H1 y wy h1 l1 R1 ry P1 => ?_
    refine ho m1 h1 H1 v y w wy _ R1 (rv.mono l1) ry ?_
    unfold eS opt2 at P1
    dsimp only at P1
    cases e2 : g w wy h1 with
    | none => rw [e2] at P1; exact P1.elim
    | some p =>
      rw [e2] at P1
      exact ⟨p.1, p.2, rfl, fun m2 H2 z l2 R2 rz => P1 m2 H2 _ l2 R2 (((S1.mono l1).mono l2).set i rz)⟩
def iaddW : O2 := fun x y h => match x, y with
  | .int i, .int j => some (.int (i + j), h)
  | _, _ => none
theorem v_iadd : IpV X T .Add iaddW := by
  intro m h H x y wx wy Q R1 rx ry q
  obtain ⟨w, h', e, q⟩ := q
  unfold iaddW at e
  split at e
  · cases r_int rx; cases r_int ry; cases e
    exact ⟨_, ip_add, _, _, rfl, rfl, q _ _ _ .refl R1 (.int _)⟩
  · cases e
theorem v_isub : IpV X T .Sub subW := by
  intro m h H x y wx wy Q R1 rx ry q
  obtain ⟨w, h', e, q⟩ := q
  unfold subW at e
  split at e
  · cases r_int rx; cases r_int ry; cases e
    exact ⟨_, ip_sub, _, _, rfl, rfl, q _ _ _ .refl R1 (.int _)⟩
  · cases e
/-! ### o[i] = v -/
def setL : W → W → W → LH → Option LH := fun o i v h => match o, i with
  | .ref a, .int k => match h[a]? with
    | some (.lst xs) => (ixN xs.length k).map fun j => h.set a (.lst (xs.set j v))
    | _ => none
  | _, _ => none
def sSub (fv fo fi : Sl → M W) (g : W → W → W → LH → Option LH) : FS := eS fv fun v => eS fo fun o => eS fi fun i sl h => match g o i v h with
  | some h' => .nx sl h'
  | none => .bad
theorem setL_post {m : List Addr} {h : LH} {H : Hp} {o i v : V} {wo wi wv : W} {h' : LH} {Q : Hp → Prop} (R1 : Rel X.K T m h H) (ro : RelW X.K m H wo o) (ri : RelW X.K m H wi i) (rv : RelW X.K m H wv v) (e : setL wo wi wv h = some h')
    (q : ∀ H', Le X.K m H m H' → Rel X.K T m h' H' → Q H') : rSetL o i v H Q := by
  unfold setL at e
  split at e
  · split at e
    · rename_i a k _ xs e1
      obtain ⟨p, vs, rfl, ea, ha, ra⟩ := lst_rel R1 ro e1
      cases r_int ri
      cases e2 : ixN xs.length k with
      | none => rw [e2] at e; cases e
      | some j =>
        rw [e2] at e
        cases e
        have l := Le.put R1 ea ha (fun _ _ z => by cases z) (.lst (vs.set j v))
        exact ⟨p, vs, k, j, rfl, rfl, ha, by rw [← ra.length]; exact e2, q _ l (R1.put ea ha (fun _ _ z => by cases z) ⟨_, upd_same, (RelWs.set rv j ra).mono l⟩)⟩
    · cases e
  · cases e
theorem sv_sub {i : Expr} {pos' : Pos} {fv fo fi : Sl → M W} (hv : PEv X T W' e fv) (ho : PEv X T W' o fo) (hi : PEv X T W' i fi)
    (ha : ∀ v, assign (.Subscript o i pos') X.env v = (do
      let ov ← holding [v] (eval o X.env)
      let iv ← holding [v, ov] (eval i X.env)
      standAt pos'
      holding [v, ov, iv] (setItem ov iv v)
      release [v, ov, iv] []) := by intro _; rfl)
    (hs : swapsWithSole [.Subscript o i pos'] e pos.line X.env = pure false := by rfl) (hw : swappedStores [.Subscript o i pos'] e X.env = pure none := by rfl) (h1 : (assignEach [.Subscript o i pos'] X.env).map (·.2) = [assign (.Subscript o i pos') X.env] := by rfl) :
    PSv X T W' (.Assign [.Subscript o i pos'] e pos) (sSub fv fo fi setL) := by
  refine ⟨ps_imp (ps_asg hv.pe (pg_sub ho.pe hi.pe set_list ha) hs hw h1) fun D σ H h => ?_⟩
  obtain ⟨m, h, sl, R1, S1, P⟩ := h
  refine useS R1 S1 P fun m1 H1 v wv h1 l1 R1 rv P1 => ?_
  refine useS R1 (S1.mono l1) P1 fun m2 H2 ov wo h2 l2 R2 ro P2 => ?_
  refine useS R2 ((S1.mono l1).mono l2) P2 fun m3 H3 iv wi h3 l3 R3 ri P3 => ?_
  cases e1 : setL wo wi wv h3 with
  | none => rw [e1] at P3; exact P3.elim
  | some h4 =>
    rw [e1] at P3
    exact setL_post R3 (ro.mono l3) ri ((rv.mono l2).mono l3) e1 fun H4 l4 R4 => P3 m3 H4 σ l4 R4 ((((S1.mono l1).mono l2).mono l3).mono l4)
/-- o[i] op= e, a list -/
def sAugL (fo fi fe : Sl → M W) (g : O2) : FS := eS fo fun o => eS fi fun i => eS (fun _ => opt2 (ixS o i)) fun x => eS fe fun y => eS (fun _ => opt2 (g x y)) fun z sl h => match setL o i z h with
  | some h' => .nx sl h'
  | none => .bad
def rGetL (K : PySem.W.Frag) : V → V → Hp → VK → Prop := fun x y H Q => ∃ p xs i v, x = .ref p ∧ y = .int i ∧ H p = some (.lst xs) ∧ atI xs i = some v ∧ Q v H
end
end Fv
set_option Elab.async false
set_option linter.all false
set_option maxRecDepth 100000
set_option maxHeartbeats 4000000
namespace Fv
open PySem PySem.Spec PyProof.Rows L2 Fh
section
variable {X : Cx} {T : Tbs} {W' : WX} {e a b c o i tg : Expr} {es : List Expr} {pos p : Pos}
theorem get_list : PGet X (rIxL X.K) := by
  intro pins s σ H x y v u Q I rx ry h
  obtain ⟨p, xs, i, z, rfl, rfl, hq, he, q⟩ := h
  cases rx
  obtain ⟨t, rfl⟩ := ry
  obtain ⟨its, r, pl, hz⟩ := I.list hq
  obtain ⟨j, h1, h2, h3, h4, h5⟩ := atI_get he
  obtain ⟨w, ew, rw'⟩ := r.get h2
  have hl := r.length
  have hn := line63
  have fin : EP X pins σ Q w s := ⟨z, H, I, rw', q⟩
  by_cases h0 : 0 ≤ i
  · have hj : i.toNat = j := by
      rw [seqIndex_of h0 h5] at h1
      exact Option.some.inj h1
    exact wpAny_getItem_list pl.isList h0 (by omega) (by rw [hj]; simpa using ew) fin
  · have hj : (i + (its.toArray.size : Int)).toNat = j := by
      rw [seqIndex_neg (by omega) h4] at h1
      rw [List.size_toArray, ← hl]
      exact Option.some.inj h1
    exact wpAny_getItem_list_neg pl.isList (by omega) (by rw [List.size_toArray] <;> omega) (by omega) (by rw [hj]; simpa using ew) fin
def ixL : O2 := fun x y h => match x, y with
  | .ref j, .int i => (seqW h (.ref j)).bind fun xs => (atI xs i).map fun w => (w, h)
  | _, _ => none
theorem ixL_post {m : List Addr} {h : LH} {H : Hp} {x y : V} {wx wy w : W} {h' : LH} {Q : VK} (R1 : Rel X.K T m h H) (rx : RelW X.K m H wx x) (ry : RelW X.K m H wy y) (e : ixL wx wy h = some (w, h')) (q : ∀ v, h' = h → RelW X.K m H w v → Q v H) : rIxL X.K x y H Q := by
  unfold ixL at e
  split at e
  · rename_i j i
    cases e1 : seqW h (.ref j) with
    | none => rw [e1] at e; cases e
    | some xs =>
      rw [e1] at e
      cases e2 : atI xs i with
      | none => simp only [Option.bind_some, e2] at e; cases e
      | some w2 =>
        simp only [Option.bind_some, e2, Option.map_some] at e
        cases e
        obtain ⟨p, vs, rfl, sq, rs⟩ := seqR_rel R1 rx e1
        cases r_int ry
        obtain ⟨v, ev, rv⟩ := at_rel rs e2
        exact ⟨p, vs, i, v, rfl, rfl, sq, ev, q v rfl rv⟩
  · cases e
/-- o[i] op= e, a list -/
def sAugS (fo fi fe : Sl → M W) (g : O2) : FS := eS fo fun o => eS fi fun i => eS (fun _ => opt2 (ixL o i)) fun x => eS fe fun y => eS (fun _ => opt2 (g x y)) fun z sl h => match setL o i z h with
  | some h' => .nx sl h'
  | none => .bad
theorem sv_augS {op : Operator} {g : O2} {tpos : Pos} {fo fi fe : Sl → M W} (hg : IpV X T op g) (ho : PEv X T W' o fo) (hi : PEv X T W' i fi) (he : PEv X T W' e fe)
    (ha : ∀ ov iv new, augStore i ov iv new = (do holding [new, ov, iv] (setItem ov iv new); release [new, ov, iv] []; pure .next) := by intros; rfl) : PSv X T W' (.AugAssign (.Subscript o i tpos) op e pos) (sAugS fo fi fe g) := by
  refine ⟨ps_imp (ps_augS ho.pe hi.pe get_list he.pe ip_any set_list ha) fun D σ H h => ?_⟩
  obtain ⟨m, h, sl, R1, S1, P⟩ := h
  refine useS R1 S1 P fun m1 H1 ov wo h1 l1 R1 ro P1 => ?_
  refine useS R1 (S1.mono l1) P1 fun m2 H2 iv wi h2 l2 R2 ri P2 => ?_
  unfold eS opt2 at P2
  dsimp only at P2
  cases e1 : ixL wo wi h2 with
  | none => rw [e1] at P2; exact P2.elim
  | some q1 =>
    obtain ⟨wx, h3⟩ := q1
    rw [e1] at P2
    refine ixL_post R2 (ro.mono l2) ri e1 fun x eh rx => ?_
    subst eh
    have P3 : PostS X.K T m2 H2 (eS fe (fun y => eS (fun _ => opt2 (g wx y)) fun z sl h => match setL wo wi z h with
      | some h' => .nx sl h'
      | none => .bad) sl h3) D W' := P2
    refine useS R2 ((S1.mono l1).mono l2) P3 fun m4 H4 y wy h4 l4 R4 ry P4 => ?_
    refine hg m4 h4 H4 x y wx wy _ R4 (rx.mono l4) ry ?_
    unfold eS opt2 at P4
    dsimp only at P4
    cases e2 : g wx wy h4 with
    | none => rw [e2] at P4; exact P4.elim
    | some q2 =>
      obtain ⟨wz, h5⟩ := q2
      rw [e2] at P4
      refine ⟨wz, h5, rfl, fun m5 H5 z l5 R5 rz => ?_⟩
      dsimp only at P4
      cases e3 : setL wo wi wz h5 with
      | none => rw [e3] at P4; exact P4.elim
      | some h6 =>
        rw [e3] at P4
        exact setL_post R5 (((ro.mono l2).mono l4).mono l5) ((ri.mono l4).mono l5) rz e3 fun H6 l6 R6 => P4 m5 H6 σ (l5.trans l6) R6 (((((S1.mono l1).mono l2).mono l4).mono l5).mono l6)
/-! ### d[k] = v -/
def setD : W → W → W → LH → Option LH := fun o i v h => match o with
  | .ref a => match h[a]? with
    | some (.dct kvs) => if kvs.length < LIM then (keyW i).map fun k => h.set a (.dct (putW kvs k v)) else none
    | _ => none
  | _ => none
theorem sv_dput {k : Nat} {pos' : Pos} {fv fo fi : Sl → M W} (hr : Room k X.A) (hv : PEv X T W' e fv) (ho : PEv X T W' o fo) (hi : PEv X T W' i fi) (hs : swapsWith e (some (.Subscript o i pos')) pos.line X.env = pure false := by rfl) :
    PSv X T W' (.Assign [.Subscript o i pos'] e pos) (sSub fv fo fi setD) := by
  refine ⟨ps_imp (ps_dput (hu_of hr) ho.pe hi.pe hv.pe hs) fun D σ H h => ?_⟩
  obtain ⟨m, h, sl, R1, S1, P⟩ := h
  refine useS R1 S1 P fun m1 H1 v wv h1 l1 R1 rv P1 => ?_
  refine useS R1 (S1.mono l1) P1 fun m2 H2 ov wo h2 l2 R2 ro P2 => ?_
  refine useS R2 ((S1.mono l1).mono l2) P2 fun m3 H3 iv wi h3 l3 R3 ri P3 => ?_
  unfold setD at P3
  split at P3
  · rename_i h4 e1
    split at e1
    · split at e1
      · split at e1
        · rename_i aa _ kvs e2 hz
          obtain ⟨p, vs, rfl, ea, hp, ra⟩ := dct_rel R3 (ro.mono l3) e2
          cases e3 : keyW wi with
          | none => rw [e3] at e1; cases e1
          | some k =>
            rw [e3] at e1
            cases e1
            have l := Le.put R3 ea hp (fun _ _ z => by cases z) (.dK (putK vs k v))
            refine ⟨p, _, rfl, ?_, P3 m3 _ σ l (R3.put ea hp (fun _ _ z => by cases z) ⟨_, upd_same, (put_rel ((rv.mono l2).mono l3) ra).mono l⟩) ((((S1.mono l1).mono l2).mono l3).mono l)⟩
            rw [key_rel ri e3]
            exact DPut.k hp (by rw [← kv_length ra]; exact lim_lt hz)
        · cases e1
      · cases e1
    · cases e1
  · exact P3.elim
/-! ### o.f = v -/
def putFW (f : Str) (v : W) : List (Str × W) → List (Str × W)
  | [] => [(f, v)]
  | (g, x) :: r => if g = f then (g, v) :: r else (g, x) :: putFW f v r
def setF (cs : List Str) (f : Str) (o v : W) : LH → Option LH := fun h => match o with
  | .ref a => match h[a]? with
    | some (.ins c fs) => if c ∈ cs ∧ fs.length < 100 then some (h.set a (.ins c (putFW f v fs))) else none
    | _ => none
  | _ => none
def sFldS (cs : List Str) (f : Str) (fv fo : Sl → M W) : FS := eS fv fun v => eS fo fun o sl h => match setF cs f o v h with
  | some h' => .nx sl h'
  | none => .bad
theorem relF_length {K : PySem.W.Frag} {m : List Addr} {H : Hp} : ∀ {fs : List (Str × W)} {vs : List (Str × V)}, RelF K m H fs vs → fs.length = vs.length
  | _, _, .nil => rfl
  | _, _, .cons _ t => congrArg (· + 1) (relF_length t)
theorem relF_put {K : PySem.W.Frag} {m : List Addr} {H : Hp} {f : Str} {w : W} {v : V} (r : RelW K m H w v) : ∀ {fs : List (Str × W)} {vs : List (Str × V)}, RelF K m H fs vs → RelF K m H (putFW f w fs) (putF f v vs)
  | _, _, .nil => .cons r .nil
  | _, _, .cons (f := g) r0 t => by
    unfold putFW putF
    by_cases hg : g = f
    · rw [if_pos hg, if_pos hg]; exact .cons r t
    · rw [if_neg hg, if_neg hg]; exact .cons r0 (relF_put r t)
theorem sv_fld {cs : List Str} {f : Str} {pos' : Pos} {fv fo : Sl → M W} (hc : FldOk X.K cs f) (hv : PEv X T W' e fv) (ho : PEv X T W' o fo) (hs : swapsWith e (some (.Attribute o f pos')) pos.line X.env = pure false := by rfl) : PSv X T W' (.Assign [.Attribute o f pos'] e pos) (sFldS cs f fv fo) := by
  refine ⟨ps_imp (ps_fld ho.pe hv.pe hs) fun D σ H h => ?_⟩
  obtain ⟨m, h, sl, R1, S1, P⟩ := h
  refine useS R1 S1 P fun m1 H1 v wv h1 l1 R1 rv P1 => ?_
  refine useS R1 (S1.mono l1) P1 fun m2 H2 ov wo h2 l2 R2 ro P2 => ?_
  unfold setF at P2
  split at P2
  · rename_i h3 e1
    split at e1
    · split at e1
      · split at e1
        · rename_i aa _ c fs e2 hz
          cases e1
          cases ro with
          | ref ea =>
            obtain ⟨dx, vs, hv, rf⟩ := R2.obj _ _ _ ea e2
            have l := Le.put R2 ea hv (fun _ _ z => by cases z) (.ins (He.ga X.K c) dx (putF f v vs))
            refine ⟨_, _, dx, vs, rfl, hv, (hc c hz.1).1, (hc c hz.1).2, by rw [← relF_length rf]; omega, ?_⟩
            exact P2 m2 _ σ l (R2.put ea hv (fun _ _ z => by cases z) ⟨dx, _, upd_same, (relF_put (rv.mono l2) rf).mono l⟩) (((S1.mono l1).mono l2).mono l)
        · cases e1
      · cases e1
    · cases e1
  · exact P2.elim
/-! ### what a loop walks -/
structure Itw where
  ws : List W
  gd : LH → Bool
def ItRel (K : PySem.W.Frag) (T : Tbs) (m : List Addr) (H : Hp) (w : Itw) (J : It) : Prop := ∀ m' h' H', Le K m H m' H' → Rel K T m' h' H' → w.gd h' = true → ∀ i : Nat,
  (w.ws.length ≤ i → J.stop i H') ∧ ∀ x, w.ws[i]? = some x → J.go i H' ∧ ∀ v H2, J.yld i H' v H2 → Le K m' H' m' H2 ∧ Rel K T m' h' H2 ∧ RelW K m' H2 x v
structure PIv (X : Cx) (T : Tbs) (W' : WX) (tg iter : Expr) (f : Sl → M Itw) : Prop where
  pi : PI X tg iter (liftG X.K T (ItRel X.K T) W' f)
theorem pi_imp {X : Cx} {tg e : Expr} {t t' : TI} (h : PI X tg e t) (f : ∀ σ H Q, t' σ H Q → t σ H Q) : PI X tg e t' := ⟨fun pins s σ H Q I q => h.run pins s σ H Q I (f σ H Q q)⟩
mutual
def beqW : W → W → Bool
  | .non, .non => true
  | .bl a, .bl b => a == b
  | .int a, .int b => a == b
  | .str a, .str b => a == b
  | .ref a, .ref b => a == b
  | .tup a, .tup b => beqWs a b
  | _, _ => false
def beqWs : List W → List W → Bool
  | [], [] => true
  | a :: as, b :: bs => beqW a b && beqWs as bs
  | _, _ => false
end
mutual
theorem beqW_eq : ∀ {a b : W}, beqW a b = true → a = b
  | .non, .non, _ => rfl
  | .bl a, .bl b, h => by simp [beqW] at h; rw [h]
  | .int a, .int b, h => by simp [beqW] at h; rw [h]
  | .str a, .str b, h => by simp [beqW] at h; rw [h]
  | .ref a, .ref b, h => by simp [beqW] at h; rw [h]
  | .tup a, .tup b, h => by
    unfold beqW at h
    rw [beqWs_eq h]
theorem beqWs_eq : ∀ {a b : List W}, beqWs a b = true → a = b
  | [], [], _ => rfl
  | a :: as, b :: bs, h => by
    unfold beqWs at h
    rw [Bool.and_eq_true] at h
    rw [beqW_eq h.1, beqWs_eq h.2]
  | [], _ :: _, h => by cases h
  | _ :: _, [], h => by cases h
end
mutual
theorem beqW_rfl : ∀ (a : W), beqW a a = true
  | .non => rfl
  | .bl a => by simp [beqW]
  | .int a => by simp [beqW]
  | .str a => by simp [beqW]
  | .ref a => by simp [beqW]
  | .tup a => by
    unfold beqW
    exact beqWs_rfl a
theorem beqWs_rfl : ∀ (a : List W), beqWs a a = true
  | [] => rfl
  | a :: as => by
    unfold beqWs
    rw [beqW_rfl a, beqWs_rfl as]
    rfl
end
/-- a list or a tuple -/
def gdL (j : Nat) (ws : List W) : LH → Bool := fun h => match seqW h (.ref j) with
  | some xs => beqWs xs ws
  | none => false
def itSeq (w : W) : LH → Option (Itw × LH) := fun h => match w with
  | .tup ws => some (⟨ws, fun _ => true⟩, h)
  | .ref j => (seqW h (.ref j)).map fun ws => (⟨ws, gdL j ws⟩, h)
  | _ => none
def iSeq (f : Sl → M W) : Sl → M Itw := fun sl => bnd (f sl) fun w => opt2 (itSeq w)
theorem itt_rel {m : List Addr} {H : Hp} {a : Addr} {ws : List W} {vs : List V} {K : PySem.W.Frag} (sa : SqT K H a vs) (ra : RelWs K m H ws vs) : ItRel K T m H ⟨ws, fun _ => true⟩ (Itt K a) := by
  intro m' h' H' l R' _ i
  have sa' := l.tup _ _ sa
  refine ⟨fun hi => ⟨vs, sa', by rw [← ra.length]; exact hi⟩, fun x ex => ?_⟩
  obtain ⟨v, ev, rv⟩ := ra.get ex
  refine ⟨⟨vs, v, sa', ev⟩, fun u H2 y => ?_⟩
  obtain ⟨rfl, yu⟩ := y
  have := yu vs sa'
  rw [ev] at this
  cases this
  exact ⟨.refl, R', rv.mono l⟩
theorem itl_rel {m : List Addr} {H : Hp} {a : Addr} {j : Nat} {ws : List W} {K : PySem.W.Frag} (ea : m[j]? = some a) : ItRel K T m H ⟨ws, gdL j ws⟩ (Itl K a) := by
  intro m' h' H' l R' g i
  dsimp only [gdL] at g
  split at g
  · rename_i xs e1
    cases beqWs_eq g
    obtain ⟨p, vs, ep, sq, rs⟩ := seqR_rel R' (.ref (l.at ea)) e1
    cases ep
    refine ⟨fun hi => ⟨vs, sq, by rw [← rs.length]; exact hi⟩, fun x ex => ?_⟩
    obtain ⟨v, ev, rv⟩ := rs.get ex
    refine ⟨⟨vs, v, sq, ev⟩, fun u H2 y => ?_⟩
    obtain ⟨rfl, yu⟩ := y
    have := yu vs sq
    rw [ev] at this
    cases this
    exact ⟨.refl, R', rv⟩
  · cases g
/-- either of two iterables -/
theorem iv_list {f : Sl → M W} (h : PEv X T W' e f) : PIv X T W' tg e (fun sl => bnd (f sl) fun w => opt2 fun h => match w with
    | .ref j => (seqW h (.ref j)).map fun ws => (⟨ws, gdL j ws⟩, h)
    | _ => none) := by
  refine ⟨pi_imp (pi_list h.pe) fun σ H Q h => ?_⟩
  obtain ⟨m, h, sl, R1, S1, P⟩ := h
  refine use R1 S1 P fun m1 H1 x wx h1 l1 R1 rx P1 => ?_
  obtain ⟨it, h', e1, q⟩ := P1.opt2
  split at e1
  · rename_i j
    cases e2 : seqW h1 (.ref j) with
    | none => rw [e2] at e1; cases e1
    | some ws =>
      rw [e2] at e1
      cases e1
      obtain ⟨p, vs, ep, sq, rs⟩ := seqR_rel R1 rx e2
      subst ep
      cases rx with
      | ref ea => exact ⟨p, rfl, ⟨vs, sq⟩, q m1 H1 _ .refl R1 (itl_rel ea)⟩
  · cases e1
theorem iv_tup {f : Sl → M W} (h : PEv X T W' e f) : PIv X T W' tg e (fun sl => bnd (f sl) fun w => opt2 fun h => match w with
    | .tup ws => some (⟨ws, fun _ => true⟩, h)
    | _ => none) := by
  refine ⟨pi_imp (pi_tup h.pe) fun σ H Q h => ?_⟩
  obtain ⟨m, h, sl, R1, S1, P⟩ := h
  refine use R1 S1 P fun m1 H1 x wx h1 l1 R1 rx P1 => ?_
  obtain ⟨it, h', e1, q⟩ := P1.opt2
  split at e1
  · cases e1
    obtain ⟨a, vs, rfl, sa, ra⟩ := r_tup rx
    exact ⟨a, rfl, ⟨vs, sa⟩, q m1 H1 _ .refl R1 (itt_rel sa ra)⟩
  · cases e1
theorem PIv.or {f f1 f2 : Sl → M Itw} (h1 : PIv X T W' tg e f1) (h2 : PIv X T W' tg e f2) (h : ∀ sl h, f sl h = f1 sl h ∨ f sl h = f2 sl h) : PIv X T W' tg e f := by
  refine ⟨⟨fun pins s σ H Q I q => ?_⟩⟩
  obtain ⟨m, hh, sl, R1, S1, P⟩ := q
  rcases h sl hh with z | z
  · exact h1.pi.run pins s σ H Q I ⟨m, hh, sl, R1, S1, by rw [← z]; exact P⟩
  · exact h2.pi.run pins s σ H Q I ⟨m, hh, sl, R1, S1, by rw [← z]; exact P⟩
theorem iv_seq {f : Sl → M W} (h : PEv X T W' e f) : PIv X T W' tg e (iSeq f) := by
  refine (iv_list h).or (iv_tup h) fun sl hh => ?_
  unfold iSeq bnd
  cases f sl hh with
  | ok w h1 =>
    cases w with
    | tup ws => exact .inr rfl
    | _ => exact .inl rfl
  | ex _ _ _ => exact .inl rfl
  | bad => exact .inl rfl
end
end Fv
set_option Elab.async false
set_option linter.all false
set_option maxRecDepth 100000
set_option maxHeartbeats 4000000
namespace Fv
open PySem PySem.Spec PyProof.Rows L2 Fh
section
variable {X : Cx} {T : Tbs} {W' : WX} {e a b c o i tg iter : Expr} {es : List Expr} {pos p : Pos}
/-! ### for -/
def forL (gd : LH → Bool) (p : Pat) (body : FS) : List W → FS
  | [], sl, h => if gd h = true then .nx sl h else .bad
  | w :: r, sl, h => if gd h = true then (match bindP p w sl with
    | none => .bad
    | some sl1 => match body sl1 h with
      | .nx sl2 h2 => forL gd p body r sl2 h2
      | .ct sl2 h2 => forL gd p body r sl2 h2
      | .bk sl2 h2 => .nx sl2 h2
      | .rt w h2 => .rt w h2
      | .ex c q sl2 h2 => .ex c q sl2 h2
      | .bad => .bad) else .bad
def sFor (fi : Sl → M Itw) (p : Pat) (body : FS) : FS := eS fi fun it => forL it.gd p body it.ws
theorem drop_cons {ws : List W} {i : Nat} {w : W} (h : ws[i]? = some w) : ws.drop i = w :: ws.drop (i + 1) := by
  obtain ⟨hi, e⟩ := List.getElem?_eq_some_iff.mp h
  rw [List.drop_eq_getElem_cons hi, e]
theorem sv_for {body : List Stmt} {fi : Sl → M Itw} {pt : Pat} {fb : FS} (hp : PassesOwn (model X.prog X.w) X.A X.env X.xe) (hi : PIv X T W' tg iter fi) (hg : PGv X T tg pt) (hb : PSsv X T W' body fb) (hc : X.calm = true := by rfl)
    (hs : ∀ x, foldedSetIterable iter X.env x = pure x := by intro _; rfl) : PSv X T W' (.For tg iter body [] pos) (sFor fi pt fb) := by
  refine ⟨ps_imp (ps_for hp hc hi.pi hg.pg hb.ps hs) fun D σ H h => ?_⟩
  obtain ⟨m, h, sl, R1, S1, P⟩ := h
  refine useS R1 S1 P fun m1 H1 J it h1 l1 R1 IR P1 => ?_
  refine ⟨fun i n σ' H' => ∃ m' h' sl', Le X.K m1 H1 m' H' ∧ Rel X.K T m' h' H' ∧ RelS X.K m' H' sl' σ' ∧ n = it.ws.length - i ∧ i ≤ it.ws.length ∧ PostS X.K T m' H' (forL it.gd pt fb (it.ws.drop i) sl' h') D W', ⟨it.ws.length, m1, h1, sl, .refl, R1, S1.mono l1, rfl, Nat.zero_le _, P1⟩, ?_⟩
  rintro i n σ' H' ⟨m', h', sl', l', R', S', en, hil, P'⟩
  cases ew : it.ws[i]? with
  | none =>
    have hi2 : it.ws.length ≤ i := List.getElem?_eq_none_iff.mp ew
    rw [List.drop_eq_nil_of_le hi2] at P'
    unfold forL at P'
    split at P'
    · rename_i g
      exact .inl ⟨((IR m' h' H' l' R' g i).1 hi2), P' m' H' σ' .refl R' S'⟩
    · exact P'.elim
  | some w =>
    rw [drop_cons ew] at P'
    have hlt : i < it.ws.length := (List.getElem?_eq_some_iff.mp ew).1
    unfold forL at P'
    split at P'
    · rename_i g
      obtain ⟨go, yl⟩ := (IR m' h' H' l' R' g i).2 w ew
      refine .inr ⟨go, fun σ3 H3 => ∃ m3 h3 sl3, Le X.K m1 H1 m3 H3 ∧ Rel X.K T m3 h3 H3 ∧ RelS X.K m3 H3 sl3 σ3 ∧ PostS X.K T m3 H3 (forL it.gd pt fb (it.ws.drop (i + 1)) sl3 h3) D W', ?_, fun x H2 y => ?_⟩
      · rintro σ3 H3 ⟨m3, h3, sl3, l3, R3, S3, P3⟩
        exact ⟨it.ws.length - (i + 1), by omega, m3, h3, sl3, l3, R3, S3, rfl, hlt, P3⟩
      · obtain ⟨l2, R2, rw2⟩ := yl x H2 y
        cases eb : bindP pt w sl' with
        | none => rw [eb] at P'; exact P'.elim
        | some sl1 =>
          rw [eb] at P'
          refine ⟨m', h', sl', w, sl1, R2, S'.mono l2, rw2, eb, fun σ2 S2 _ => ⟨m', h', sl1, R2, S2, ?_⟩⟩
          dsimp only at P'
          cases er : fb sl1 h' with
          | nx sl3 h3 =>
            rw [er] at P'
            exact fun m3 H3 σ3 l3 R3 S3 => ⟨m3, h3, sl3, (l'.trans l2).trans l3, R3, S3, P'.mono (l2.trans l3)⟩
          | ct sl3 h3 =>
            rw [er] at P'
            exact fun m3 H3 σ3 l3 R3 S3 => ⟨m3, h3, sl3, (l'.trans l2).trans l3, R3, S3, P'.mono (l2.trans l3)⟩
          | bk sl3 h3 =>
            rw [er] at P'
            exact fun m3 H3 σ3 l3 R3 S3 => P' m3 H3 σ3 (l2.trans l3) R3 S3
          | rt w3 h3 =>
            rw [er] at P'
            exact fun m3 H3 v l3 R3 r3 => P' m3 H3 v (l2.trans l3) R3 r3
          | ex c3 p3 sl3 h3 =>
            rw [er] at P'
            exact fun m3 H3 σ3 l3 R3 S3 => P' m3 H3 σ3 (l2.trans l3) R3 S3
          | bad => rw [er] at P'; exact P'
    · exact P'.elim
/-! ### while -/
def whl (c : Sl → M Bool) (body : FS) : Nat → FS
  | 0, _, _ => .bad
  | n + 1, sl, h => match c sl h with
    | .ok true h1 => (match body sl h1 with
      | .nx sl2 h2 => whl c body n sl2 h2
      | .ct sl2 h2 => whl c body n sl2 h2
      | .bk sl2 h2 => .nx sl2 h2
      | .rt w h2 => .rt w h2
      | .ex c q sl2 h2 => .ex c q sl2 h2
      | .bad => .bad)
    | .ok false h1 => .nx sl h1
    | .ex c q h1 => .ex c q sl h1
    | .bad => .bad
theorem sv_while {body : List Stmt} {fc : Sl → M Bool} {fb : FS} (n : Nat) (hp : PassesOwn (model X.prog X.w) X.A X.env X.xe) (hc : PTv X T W' c fc) (hb : PSsv X T W' body fb) : PSv X T W' (.While c body [] pos) (whl fc fb n) := by
  refine ⟨ps_imp (ps_while hp hc.pt hb.ps) fun D σ H h => ?_⟩
  refine ⟨fun n σ H => ∃ m h sl, Rel X.K T m h H ∧ RelS X.K m H sl σ ∧ PostS X.K T m H (whl fc fb n sl h) D W', ⟨n, h⟩, ?_⟩
  rintro n σ H ⟨m, h, sl, R1, S1, P⟩
  cases n with
  | zero => exact P.elim
  | succ n =>
    refine ⟨m, h, sl, R1, S1, ?_⟩
    unfold whl at P
    cases e1 : fc sl h with
    | bad => rw [e1] at P; exact P
    | ex c q h1 => rw [e1] at P; exact fun m' H' l R' => P m' H' σ l R' (S1.mono l)
    | ok b h1 =>
      rw [e1] at P
      intro m1 H1 v l1 R2 ev
      obtain rfl : b = v := ev
      cases b with
      | false => exact P m1 H1 σ l1 R2 (S1.mono l1)
      | true =>
        rw [if_pos rfl]
        refine ⟨fun σ3 H3 => ∃ m h sl, Rel X.K T m h H3 ∧ RelS X.K m H3 sl σ3 ∧ PostS X.K T m H3 (whl fc fb n sl h) D W', fun σ' H' z => ⟨n, Nat.lt_succ_self n, z⟩, m1, h1, sl, R2, S1.mono l1, ?_⟩
        dsimp only at P
        cases er : fb sl h1 with
        | nx sl3 h3 =>
          rw [er] at P
          exact fun m3 H3 σ3 l3 R3 S3 => ⟨m3, h3, sl3, R3, S3, P.mono (l1.trans l3)⟩
        | ct sl3 h3 =>
          rw [er] at P
          exact fun m3 H3 σ3 l3 R3 S3 => ⟨m3, h3, sl3, R3, S3, P.mono (l1.trans l3)⟩
        | bk sl3 h3 =>
          rw [er] at P
          exact fun m3 H3 σ3 l3 R3 S3 => P m3 H3 σ3 (l1.trans l3) R3 S3
        | rt w3 h3 =>
          rw [er] at P
          exact fun m3 H3 v l3 R3 r3 => P m3 H3 v (l1.trans l3) R3 r3
        | ex c3 p3 sl3 h3 =>
          rw [er] at P
          exact fun m3 H3 σ3 l3 R3 S3 => P m3 H3 σ3 (l1.trans l3) R3 S3
        | bad => rw [er] at P; exact P
/-! ### comprehensions -/
/-- what is made aside is stored to -/
theorem Le.over {K : PySem.W.Frag} {m : List Addr} {H H0 : Hp} {m0 : List Addr} {D : Addr} (l : Le K m0 H0 m H) (h0 : H0 D = none) {u : HO} (hu : H D = some u) (nt : ∀ xs, u ≠ .tup xs) (nf : ∀ o v, u ≠ .frz o v) (o : HO) : Le K m0 H0 m (upd H D o) :=
  ⟨l.pre, fun a vs s => sqT_of (fun b z xs eb q => upd_ne (fun y => by
    subst y
    rw [hu] at eb
    cases eb
    rcases q with q | ⟨o, q⟩
    · exact nt xs q
    · exact nf _ _ q)) (l.tup a vs s), fun b z eb k n => ⟨by rw [upd_ne (ne_of_none eb h0)]; exact (l.oth b z eb k n).1, (l.oth b z eb k n).2⟩, fun b o' v eb => by rw [upd_ne (ne_of_none eb h0)]; exact l.frz b o' v eb, fun b φ eb => by rw [upd_ne (ne_of_none eb h0)]; exact l.ext b φ eb⟩
theorem Rel.over {K : PySem.W.Frag} {m : List Addr} {h : LH} {H : Hp} {D : Addr} (r : Rel K T m h H) (hD : D ∉ m) {u : HO} (hu : H D = some u) (nt : ∀ xs, u ≠ .tup xs) (nf : ∀ o v, u ≠ .frz o v) (nb : ∀ ps, u ≠ .tbl ps) (nx : ∀ φ, u ≠ .ext φ) (o : HO) : Rel K T m h (upd H D o) where
  len := r.len
  nd := r.nd
  obj := fun i a z e1 e2 => by
    have na : a ≠ D := fun y => hD (by rw [← y]; exact List.mem_of_getElem? e1)
    have l : Lt K m H m (upd H D o) := ⟨⟨[], (List.append_nil _).symm⟩, fun a vs s => sqT_of (fun b z xs eb q => upd_ne (fun y => by
      subst y
      rw [hu] at eb
      cases eb
      rcases q with q | ⟨o, q⟩
      · exact nt xs q
      · exact nf _ _ q)) s⟩
    exact (r.obj i a z e1 e2).mono0 l (fun b φ eb => by rw [upd_ne (fun y => by rw [y, hu] at eb; exact nx φ (Option.some.inj eb))]; exact eb) (upd_ne na)
  tg := fun P hP => tabG_of (fun b z eb q => upd_ne (fun y => by
    subst y
    rw [hu] at eb
    cases eb
    rcases q with ⟨ps, q⟩ | ⟨φ, q⟩
    · exact nb ps q
    · exact nx φ q)) (r.tg P hP)
  tl := fun P hP => tabS_of (fun b z eb q => upd_ne (fun y => by
    subst y
    rw [hu] at eb
    cases eb
    rcases q with ⟨ps, q⟩ | ⟨φ, q⟩
    · exact nb ps q
    · exact nx φ q)) (r.tl P hP)
end
end Fv
set_option Elab.async false
set_option linter.all false
set_option maxRecDepth 100000
set_option maxHeartbeats 4000000
namespace Fv
open PySem PySem.Spec PyProof.Rows L2 Fh
section
variable {K : PySem.W.Frag} {T : Tbs} {m m0 : List Addr} {H H0 : Hp} {h : LH} {D : Addr}
theorem Le.adopt (l : Le K m0 H0 m H) (h0 : H0 D = none) : Le K m0 H0 (m ++ [D]) H := by
  obtain ⟨t, rfl⟩ := l.pre
  refine ⟨⟨t ++ [D], by rw [List.append_assoc]⟩, l.tup, fun b o e k n => ⟨(l.oth b o e k n).1, ?_⟩, l.frz, l.ext⟩
  have := (l.oth b o e k n).2
  intro z
  rcases List.mem_append.mp z with z | z
  · exact this z
  · exact ne_of_none e h0 (by simpa using z)
theorem Rel.adopt (r : Rel K T m h H) (hD : D ∉ m) {lo : LO} (k : LOk K T (m ++ [D]) H D lo) : Rel K T (m ++ [D]) (h ++ [lo]) H where
  len := by simp [r.len]
  nd := by
    refine List.nodup_append.mpr ⟨r.nd, by simp, fun a ha b hb => ?_⟩
    obtain rfl : b = D := by simpa using hb
    exact fun z => hD (by rw [← z]; exact ha)
  obj := fun i a u e1 e2 => by
    by_cases hi : i < m.length
    · rw [List.getElem?_append_left hi] at e1
      rw [List.getElem?_append_left (by rw [← r.len]; exact hi)] at e2
      exact (r.obj i a u e1 e2).mono0 ⟨⟨[D], rfl⟩, fun _ _ s => s⟩ (fun _ _ h => h) rfl
    · have hi2 : i = m.length := by
        have := (List.getElem?_eq_some_iff.mp e1).1
        simp at this
        omega
      subst hi2
      rw [List.getElem?_append_right (Nat.le_refl _)] at e1
      rw [r.len, List.getElem?_append_right (Nat.le_refl _)] at e2
      simp at e1 e2
      subst e1 e2
      exact k
  tg := r.tg
  tl := r.tl
end
def W0 : WX := fun _ _ _ _ => False
/-- nothing may be raised -/
def nx1 {α : Type} (f : M α) : M α := fun h => match f h with
  | .ok a h' => .ok a h'
  | _ => .bad
theorem useN {K : PySem.W.Frag} {T : Tbs} {α β γ δ : Type} {RV : List Addr → Hp → α → β → Prop} {RV' : List Addr → Hp → γ → δ → Prop} {m m0 : List Addr} {H H0 : Hp} {fa : Sl → M α} {k : α → M γ} {sl : Sl} {σ : L2.St} {h : LH} {Q : δ → Hp → Prop} {E : XK} {Q1 : β → Hp → Prop}
    (R1 : Rel K T m h H) (S1 : RelS K m H sl σ) (P : Post K T RV' m0 H0 (bnd (nx1 (fa sl)) k h) Q E)
    (f : ∀ m' H' v w h', Le K m H m' H' → Rel K T m' h' H' → RV m' H' w v → Post K T RV' m0 H0 (k w h') Q E → Q1 v H') : liftG K T RV W0 fa σ H Q1 := by
  refine ⟨m, h, sl, R1, S1, ?_⟩
  unfold bnd nx1 at P
  cases e : fa sl h with
  | ok w h' =>
    rw [e] at P
    exact fun m' H' v l r q => f m' H' v w h' l r q P
  | ex c p h' =>
    rw [e] at P
    exact P.elim
  | bad =>
    rw [e] at P
    exact P.elim
def wipeW (sl : Sl) : List Nat → Sl
  | [] => sl
  | v :: vs => (wipeW sl vs).set v none
theorem wipeW_length (sl : Sl) : ∀ vs : List Nat, (wipeW sl vs).length = sl.length
  | [] => rfl
  | v :: vs => by unfold wipeW; rw [List.length_set, wipeW_length sl vs]
theorem RelS.wipe {K : PySem.W.Frag} {m : List Addr} {H : Hp} {sl : Sl} {σ : L2.St} (r : RelS K m H sl σ) : ∀ (vs : List Nat), RelS K m H (wipeW sl vs) (wipe σ vs)
  | [] => r
  | v :: vs => by
    have ih := RelS.wipe r vs
    unfold wipeW L2.wipe
    refine ⟨by simp [ih.len], fun i w e => ?_⟩
    by_cases hi : v = i
    · subst hi
      by_cases hv : v < (wipeW sl vs).length
      · rw [List.getElem?_set_self hv] at e; cases e
      · rw [List.getElem?_eq_none (by simpa using hv)] at e; cases e
    · rw [List.getElem?_set_ne hi] at e ⊢
      exact ih.get i w e
/-- a clause's tests -/
structure PTsv (X : Cx) (T : Tbs) (W' : WX) (ifs : List Expr) (f : Sl → M Bool) : Prop where
  pts : PTs X ifs (lT X T W' f)
theorem pts_imp {X : Cx} {e : List Expr} {t t' : TT} (h : PTs X e t) (f : ∀ σ H Q, t' σ H Q → t σ H Q) : PTs X e t' := ⟨fun pins s σ H Q I q => h.run pins s σ H Q I (f σ H Q q)⟩
def bYes : Sl → M Bool := fun _ => ret true
section
variable {X : Cx} {T : Tbs} {W' : WX} {e a b c o tg iter elt kx vx : Expr} {es ifs : List Expr} {pos p : Pos}
theorem tsv_nil : PTsv X T W' [] bYes := by
  refine ⟨pts_imp pts_nil fun σ H Q h => ?_⟩
  obtain ⟨m, h, sl, R1, S1, P⟩ := h
  exact P m H true .refl R1 rfl
theorem tsv_one {f : Sl → M Bool} (h : PTv X T W' c f) : PTsv X T W' [c] f := ⟨pts_one h.pt⟩
/-! ### [elt for pt in iter if tst] -/
def lcA (gd : LH → Bool) (p : Pat) (tst : Sl → M Bool) (elt : Sl → M W) (sl : Sl) : List W → List W → M W
  | acc, [] => fun h => if gd h = true then .ok (.ref h.length) (h ++ [.lst acc]) else .bad
  | acc, w :: r => fun h => if gd h = true ∧ acc.length < LIM then (match bindP p w sl with
    | none => .bad
    | some sl1 => bnd (nx1 (tst sl1)) (fun b => if b = true then bnd (nx1 (elt sl1)) fun y => lcA gd p tst elt sl (acc ++ [y]) r else lcA gd p tst elt sl acc r) h) else .bad
def fLc (fi : Sl → M Itw) (vs : List Nat) (p : Pat) (tst : Sl → M Bool) (elt : Sl → M W) : Sl → M W := fun sl => bnd (fi sl) fun it => lcA it.gd p tst elt (wipeW sl vs) [] it.ws
theorem lc_read {fi : Sl → M Itw} {vs : List Nat} {pt : Pat} {ft : Sl → M Bool} {fe : Sl → M W} (hv : ∀ i ∈ pt.ids, i ∈ vs) {σ : L2.St} {H : Hp} {Q : VK} (h : lE X T W' (fLc fi vs pt ft fe) σ H Q) :
    tLc (liftG X.K T (ItRel X.K T) W' fi) (liftP X.K T pt) (lT X T W0 ft) (lE X T W0 fe) vs σ H Q := by
  obtain ⟨m, h, sl, R1, S1, P⟩ := h
  refine use R1 S1 P fun m1 H1 J it h1 l1 R1 IR P1 => ?_
  intro D hD
  refine ⟨fun i n H' => ∃ m' h' acc accV, Le X.K m1 H1 m' H' ∧ Rel X.K T m' h' H' ∧ H' D = some (.lst accV) ∧ D ∉ m' ∧ RelWs X.K m' H' acc accV ∧ n = it.ws.length - i ∧ i ≤ it.ws.length ∧ Post X.K T (RelW X.K) m1 H1 (lcA it.gd pt ft fe (wipeW sl vs) acc (it.ws.drop i) h') Q (WE W' σ),
    ⟨it.ws.length, m1, h1, [], [], Le.aside R1 hD _, R1.aside hD _, upd_same, fun z => ?_, .nil, rfl, Nat.zero_le _, P1⟩, ?_⟩
  · obtain ⟨u, hu, _⟩ := R1.mem z
    rw [hD] at hu
    cases hu
  rintro i n H' ⟨m', h', acc, accV, l', R', hDv, nD, ra, en, hil, P'⟩
  cases ew : it.ws[i]? with
  | none =>
    have hi2 : it.ws.length ≤ i := List.getElem?_eq_none_iff.mp ew
    rw [List.drop_eq_nil_of_le hi2] at P'
    unfold lcA at P'
    split at P'
    · rename_i g
      refine .inl ⟨(IR m' h' H' l' R' g i).1 hi2, ?_⟩
      refine P' (m' ++ [D]) H' (.ref D) (l'.adopt hD) (R'.adopt nD ⟨accV, hDv, ra.mono0 ⟨⟨[D], rfl⟩, fun _ _ s => s⟩⟩) (.ref (by rw [← R'.len]; simp))
    · exact P'.elim
  | some w =>
    rw [drop_cons ew] at P'
    have hlt : i < it.ws.length := (List.getElem?_eq_some_iff.mp ew).1
    unfold lcA at P'
    split at P'
    · rename_i g
      obtain ⟨go, yl⟩ := (IR m' h' H' l' R' g.1 i).2 w ew
      refine .inr ⟨go, fun H3 => ∃ m3 h3 acc3 accV3, Le X.K m1 H1 m3 H3 ∧ Rel X.K T m3 h3 H3 ∧ H3 D = some (.lst accV3) ∧ D ∉ m3 ∧ RelWs X.K m3 H3 acc3 accV3 ∧ Post X.K T (RelW X.K) m1 H1 (lcA it.gd pt ft fe (wipeW sl vs) acc3 (it.ws.drop (i + 1)) h3) Q (WE W' σ), ?_, fun x H2 y => ?_⟩
      · rintro H3 ⟨m3, h3, acc3, accV3, l3, R3, d3, n3, r3, P3⟩
        exact ⟨it.ws.length - (i + 1), by omega, m3, h3, acc3, accV3, l3, R3, d3, n3, r3, rfl, hlt, P3⟩
      · obtain ⟨l2, R2, rw2⟩ := yl x H2 y
        cases eb : bindP pt w (wipeW sl vs) with
        | none => rw [eb] at P'; exact P'.elim
        | some sl1 =>
          rw [eb] at P'
          have Sw : RelS X.K m' H2 (wipeW sl vs) (wipe σ vs) := (((S1.mono l1).wipe vs).mono l').mono l2
          refine ⟨m', h', wipeW sl vs, w, sl1, R2, Sw, rw2, eb, fun σ2 S2 hw => ⟨?_, ?_⟩⟩
          · rw [hw vs hv]
            have wi : ∀ us : List Nat, (∀ i ∈ us, i ∈ vs) → wipe (wipe σ vs) us = wipe σ vs := by
              have sn : ∀ (us : List Nat) (i : Nat), i ∈ us → (wipe σ us).set i none = wipe σ us := by
                intro us
                induction us with
                | nil => intro i hi; cases hi
                | cons u us ih =>
                  intro i hi
                  unfold L2.wipe
                  by_cases hu : i = u
                  · subst hu; rw [List.set_set]
                  · have : i ∈ us := by
                      rcases List.mem_cons.mp hi with z | z
                      · exact absurd z hu
                      · exact z
                    rw [List.set_comm _ _ (fun z => hu z.symm), ih i this]
              intro us
              induction us with
              | nil => intro _; rfl
              | cons u us ih =>
                intro hu
                show (wipe (wipe σ vs) us).set u none = wipe σ vs
                rw [ih fun i hi => hu i (List.mem_cons_of_mem _ hi)]
                exact sn vs u (hu u (by simp))
            exact wi vs fun _ hi => hi
          · have hD2 := l2.oth D _ hDv (fun _ z => by cases z) nD
            refine useN R2 S2 P' fun m3 H3 bb wb h3 l3 R3 rb P3 => ?_
            obtain rfl : wb = bb := rb
            have hD3 := l3.oth D _ hD2.1 (fun _ z => by cases z) hD2.2
            cases wb with
            | true =>
              rw [if_pos rfl]
              rw [if_pos rfl] at P3
              refine useN R3 (S2.mono l3) P3 fun m4 H4 yv wy h4 l4 R4 ry P4 => ?_
              have hD4 := l4.oth D _ hD3.1 (fun _ z => by cases z) hD3.2
              have lA := ((l'.trans l2).trans l3).trans l4
              have la := (l2.trans l3).trans l4
              have R5 := R4.over hD4.2 hD4.1 (fun _ z => by cases z) (fun _ _ z => by cases z) (fun _ z => by cases z) (fun _ z => by cases z) (.lst (accV ++ [yv]))
              have l5 := lA.over hD hD4.1 (fun _ z => by cases z) (fun _ _ z => by cases z) (.lst (accV ++ [yv]))
              have lo : Lt X.K m4 H4 m4 (upd H4 D (.lst (accV ++ [yv]))) := ⟨⟨[], (List.append_nil _).symm⟩, fun a vs s => sqT_of (fun b z xs ebb q => upd_ne (fun y => by
                subst y
                rw [hD4.1] at ebb
                cases ebb
                rcases q with q | ⟨o, q⟩ <;> cases q)) s⟩
              refine ⟨accV, hD4.1, by rw [← ra.length]; exact lim_lt g.2, m4, h4, acc ++ [wy], _, l5, R5, upd_same, hD4.2, ?_, P4⟩
              exact ((ra.mono la).append (.cons ry .nil)).mono0 lo
            | false =>
              rw [if_neg Bool.false_ne_true]
              rw [if_neg Bool.false_ne_true] at P3
              exact ⟨m3, h3, acc, accV, (l'.trans l2).trans l3, R3, hD3.1, hD3.2, ra.mono (l2.trans l3), P3⟩
    · exact P'.elim
theorem ev_lc {scope : Scope} {own : List (Str × Nat)} {fi : Sl → M Itw} {pt : Pat} {ft : Sl → M Bool} {fe : Sl → M W} (hN : X.N.Nodup) (hi : PIv X T W' tg iter fi) (ok : BlkOk X.N X.env.scope scope own)
    (hg : ∀ (s : Shared) (H : Hp) (C : Addr) (cl : List (Str × Addr)) (fp : List Addr), PGv (X.blk s H scope (compEnvC scope cl C X.env) fp) T tg pt) (ht : ∀ (s : Shared) (H : Hp) (C : Addr) (cl : List (Str × Addr)) (fp : List Addr), PTsv (X.blk s H scope (compEnvC scope cl C X.env) fp) T W0 ifs ft)
    (he : ∀ (s : Shared) (H : Hp) (C : Addr) (cl : List (Str × Addr)) (fp : List Addr), PEv (X.blk s H scope (compEnvC scope cl C X.env) fp) T W0 elt fe) (hv : ∀ i ∈ pt.ids, i ∈ own.map (·.2) := by decide) (hc : X.calm = true := by rfl) (hs : ∀ x, foldedSetIterable iter X.env x = pure x := by intro _; rfl) :
    PEv X T W' (.ListComp elt [⟨tg, iter, ifs, 0⟩] scope pos) (fLc fi (own.map (·.2)) pt ft fe) :=
  ⟨pe_imp (pe_lc (g := liftP X.K T pt) (tt := lT X T W0 ft) (te := lE X T W0 fe) hc hN hi.pi ok (fun s H C cl fp => (hg s H C cl fp).pg) (fun s H C cl fp => (ht s H C cl fp).pts) (fun s H C cl fp => (he s H C cl fp).pe) hs) fun σ H Q h => lc_read hv h⟩
/-- name = [..] on one line -/
theorem sv_setLc {i : Nat} {y : Str} {py spos : Pos} {scope : Scope} {own : List (Str × Nat)} {fi : Sl → M Itw} {pt : Pat} {ft : Sl → M Bool} {fe : Sl → M W} (hN : X.N.Nodup) (hy : X.N[i]? = some y) (hyl : X.env.scope.names.lookup y = some .local)
    (hsw : swapsWith (.ListComp elt [⟨tg, iter, ifs, 0⟩] scope pos) (some (.Name y py)) spos.line X.env = pure true) (hi : PIv X T W' tg iter fi) (ok : BlkOk X.N X.env.scope scope own)
    (hg : ∀ (s : Shared) (H : Hp) (C : Addr) (cl : List (Str × Addr)) (fp : List Addr), PGv (X.blk s H scope (compEnvC scope cl C X.env) fp) T tg pt) (ht : ∀ (s : Shared) (H : Hp) (C : Addr) (cl : List (Str × Addr)) (fp : List Addr), PTsv (X.blk s H scope (compEnvC scope cl C X.env) fp) T W0 ifs ft)
    (he : ∀ (s : Shared) (H : Hp) (C : Addr) (cl : List (Str × Addr)) (fp : List Addr), PEv (X.blk s H scope (compEnvC scope cl C X.env) fp) T W0 elt fe) (hv : ∀ i ∈ pt.ids, i ∈ own.map (·.2) := by decide) (hc : X.calm = true := by rfl) (hs : ∀ x, foldedSetIterable iter X.env x = pure x := by intro _; rfl) :
    PSv X T W' (.Assign [.Name y py] (.ListComp elt [⟨tg, iter, ifs, 0⟩] scope pos) spos) (sSet i (fLc fi (own.map (·.2)) pt ft fe)) := by
  refine ⟨ps_imp (ps_setLc (g := liftP X.K T pt) (tt := lT X T W0 ft) (te := lE X T W0 fe) hc hN hy hyl hsw hi.pi ok (fun s H C cl fp => (hg s H C cl fp).pg) (fun s H C cl fp => (ht s H C cl fp).pts) (fun s H C cl fp => (he s H C cl fp).pe) hs) fun D σ H h => ?_⟩
  obtain ⟨m, h, sl, R1, S1, P⟩ := h
  have q : lE X T W' (fLc fi (own.map (·.2)) pt ft fe) σ H (fun x H1 => gName i x σ H1 D.nx) := useS R1 S1 P fun m1 H1 x wx h1 l1 R1 rx P1 => P1 m1 H1 _ .refl R1 ((S1.mono l1).set i rx)
  exact lc_read hv q
end
end Fv
set_option Elab.async false
set_option linter.all false
set_option maxRecDepth 100000
set_option maxHeartbeats 4000000
namespace Fv
open PySem PySem.Spec PyProof.Rows L2 Fh
theorem wipe_none {σ : L2.St} : ∀ (us : List Nat) (i : Nat), i ∈ us → (wipe σ us).set i none = wipe σ us
  | [], i, hi => by cases hi
  | u :: us, i, hi => by
    unfold L2.wipe
    by_cases hu : i = u
    · subst hu; rw [List.set_set]
    · have : i ∈ us := by
        rcases List.mem_cons.mp hi with z | z
        · exact absurd z hu
        · exact z
      rw [List.set_comm _ _ (fun z => hu z.symm), wipe_none us i this]
theorem wipe_sub {σ : L2.St} {vs : List Nat} : ∀ us : List Nat, (∀ i ∈ us, i ∈ vs) → wipe (wipe σ vs) us = wipe σ vs
  | [], _ => rfl
  | u :: us, hu => by
    show (wipe (wipe σ vs) us).set u none = wipe σ vs
    rw [wipe_sub us fun i hi => hu i (List.mem_cons_of_mem _ hi)]
    exact wipe_none vs u (hu u (by simp))
theorem wipe_wipe {σ : L2.St} {vs : List Nat} : wipe (wipe σ vs) vs = wipe σ vs := wipe_sub vs fun _ h => h
section
variable {K : PySem.W.Frag} {T : Tbs} {m m0 : List Addr} {H H2 : Hp} {h : LH} {D P : Addr}
theorem Le.tabbed (t : GxR.TabG H P) (b : GxR.Tabbed P H H2) : Le K m H m H2 := by
  obtain ⟨ps, e, _⟩ := t
  obtain ⟨_, r⟩ := b
  have nb : ∀ c o, H c = some o → (∀ ps, o ≠ .tbl ps) → H2 c = H c := fun c o ec no => r c fun z => by
    rw [z, e] at ec
    cases ec
    exact no ps rfl
  refine ⟨⟨[], (List.append_nil _).symm⟩, fun a vs s => sqT_of (fun b z xs eb q => nb b z eb fun ps z2 => ?_) s, fun b o eb no n => ⟨by rw [nb b o eb no]; exact eb, n⟩, fun b o u eb => by rw [nb b _ eb fun _ z => by cases z]; exact eb, fun b φ eb => by rw [nb b _ eb fun _ z => by cases z]; exact eb⟩
  subst z2
  rcases q with q | ⟨o, q⟩ <;> cases q
theorem Rel.tabbed (r : Rel K T m h H) (hP : P ∈ T.tg) (hl : ∀ p ∈ T.tl, p.1 ≠ P) (b : GxR.Tabbed P H H2) : Rel K T m h H2 := by
  have t := r.tg P hP
  have l : Le K m H m H2 := Le.tabbed t b
  obtain ⟨ps, e, _⟩ := t
  obtain ⟨⟨p2, e2, k2⟩, rr⟩ := b
  refine ⟨r.len, r.nd, fun i a o e1 e3 => ?_, fun Q hQ => ?_, fun p hp => ?_⟩
  · have k := r.obj i a o e1 e3
    obtain ⟨u, hu, nt, _⟩ := k.some
    refine k.mono l (rr a fun z => ?_)
    rw [z, e] at hu
    exact nt ps (Option.some.inj hu).symm
  · by_cases z : Q = P
    · subst z
      exact ⟨p2, e2, k2⟩
    · obtain ⟨qs, eq, kq⟩ := r.tg Q hQ
      exact ⟨qs, by rw [rr Q z]; exact eq, kq⟩
  · obtain ⟨qs, eq, kq, hc⟩ := r.tl p hp
    refine ⟨qs, by rw [rr _ (hl p hp)]; exact eq, kq, fun pos cv z => ?_⟩
    obtain ⟨c, e1, e3⟩ := hc pos cv z
    refine ⟨c, e1, ?_⟩
    rw [rr c fun y => ?_]
    · exact e3
    · rw [y, e] at e3
      unfold LamX.CodeO at e3
      cases e3
end
section
variable {X : Cx} {T : Tbs} {W' : WX} {e a b c o tg iter elt kx vx : Expr} {es ifs : List Expr} {pos p gpos : Pos}
/-! ### any, all -/
def anyA (stop : Bool) (gd : LH → Bool) (p : Pat) (tst : Sl → M Bool) (elt : Sl → M W) (sl : Sl) : List W → M W
  | [] => fun h => if gd h = true then .ok (.bl (!stop)) h else .bad
  | w :: r => fun h => if gd h = true then (match bindP p w sl with
    | none => .bad
    | some sl1 => bnd (nx1 (tst sl1)) (fun b => if b = true then bnd (nx1 (elt sl1)) fun y => bnd (opt (asB y)) fun k => if k = stop then ret (.bl stop) else anyA stop gd p tst elt sl r else anyA stop gd p tst elt sl r) h) else .bad
def fAny (stop : Bool) (fi : Sl → M Itw) (vs : List Nat) (p : Pat) (tst : Sl → M Bool) (elt : Sl → M W) : Sl → M W := fun sl => bnd (fi sl) fun it => anyA stop it.gd p tst elt (wipeW sl vs) it.ws
theorem gx_read {P : Addr} (stop : Bool) {C : V → Hp → Prop → Prop} {fi : Sl → M Itw} {vs : List Nat} {pt : Pat} {ft : Sl → M Bool} {fe : Sl → M W} (hv : ∀ i ∈ pt.ids, i ∈ vs) (hP : P ∈ T.tg) (hl : ∀ p ∈ T.tl, p.1 ≠ P) {σ : L2.St} {H : Hp} {Q : VK} (hC : ∀ k H (pr : Prop), (if k = stop then Q (.bl stop) H else pr) → C (.bl k) H pr) (h : lE X T W' (fAny stop fi vs pt ft fe) σ H Q) :
    tGx P (liftG X.K T (ItRel X.K T) W' fi) (liftP X.K T pt) (lT X T W0 ft) (lE X T W0 fe) vs σ H C (fun H => Q (.bl (!stop)) H) := by
  obtain ⟨m, h, sl, R1, S1, P0⟩ := h
  refine use R1 S1 P0 fun m1 H1 J it h1 l1 R1 IR P1 => ?_
  refine ⟨R1.tg P hP, fun H2 tb => ?_⟩
  have lt : Le X.K m1 H1 m1 H2 := Le.tabbed (R1.tg P hP) tb
  have Rt := R1.tabbed hP hl tb
  refine ⟨fun i n H' => ∃ m' h', Le X.K m1 H1 m' H' ∧ Rel X.K T m' h' H' ∧ n = it.ws.length - i ∧ i ≤ it.ws.length ∧ Post X.K T (RelW X.K) m1 H1 (anyA stop it.gd pt ft fe (wipeW sl vs) (it.ws.drop i) h') Q (WE W' σ), ⟨it.ws.length, m1, h1, lt, Rt, rfl, Nat.zero_le _, P1⟩, ?_⟩
  rintro i n H' ⟨m', h', l', R', en, hil, P'⟩
  cases ew : it.ws[i]? with
  | none =>
    have hi2 : it.ws.length ≤ i := List.getElem?_eq_none_iff.mp ew
    rw [List.drop_eq_nil_of_le hi2] at P'
    unfold anyA at P'
    split at P'
    · rename_i g
      exact .inl ⟨(IR m' h' H' l' R' g i).1 hi2, P' m' H' _ l' R' (.bl _)⟩
    · exact P'.elim
  | some w =>
    rw [drop_cons ew] at P'
    have hlt : i < it.ws.length := (List.getElem?_eq_some_iff.mp ew).1
    unfold anyA at P'
    split at P'
    · rename_i g
      obtain ⟨go, yl⟩ := (IR m' h' H' l' R' g i).2 w ew
      refine .inr ⟨go, fun H3 => ∃ m3 h3, Le X.K m1 H1 m3 H3 ∧ Rel X.K T m3 h3 H3 ∧ Post X.K T (RelW X.K) m1 H1 (anyA stop it.gd pt ft fe (wipeW sl vs) (it.ws.drop (i + 1)) h3) Q (WE W' σ), ?_, fun x H2 y => ?_⟩
      · rintro H3 ⟨m3, h3, l3, R3, P3⟩
        exact ⟨it.ws.length - (i + 1), by omega, m3, h3, l3, R3, rfl, hlt, P3⟩
      · obtain ⟨l2, R2, rw2⟩ := yl x H2 y
        cases eb : bindP pt w (wipeW sl vs) with
        | none => rw [eb] at P'; exact P'.elim
        | some sl1 =>
          rw [eb] at P'
          have Sw : RelS X.K m' H2 (wipeW sl vs) (wipe σ vs) := (((S1.mono l1).wipe vs).mono l').mono l2
          refine ⟨m', h', wipeW sl vs, w, sl1, R2, Sw, rw2, eb, fun σ2 S2 hw => ⟨?_, ?_⟩⟩
          · rw [hw vs hv]
            exact wipe_wipe
          · refine useN R2 S2 P' fun m3 H3 bb wb h3 l3 R3 rb P3 => ?_
            obtain rfl : wb = bb := rb
            cases wb with
            | true =>
              rw [if_pos rfl]
              rw [if_pos rfl] at P3
              refine useN R3 (S2.mono l3) P3 fun m4 H4 yv wy h4 l4 R4 ry P4 => ?_
              cases ek : asB wy with
              | none => rw [ek] at P4; exact P4.elim
              | some k =>
                rw [ek] at P4
                have P5 : Post X.K T (RelW X.K) m1 H1 ((if k = stop then ret (.bl stop) else anyA stop it.gd pt ft fe (wipeW sl vs) (it.ws.drop (i + 1))) h4) Q (WE W' σ) := P4
                cases asB_eq ry ek
                refine hC k H4 _ ?_
                by_cases hk : k = stop
                · rw [if_pos hk]
                  rw [if_pos hk] at P5
                  exact P5 m4 H4 _ (((l'.trans l2).trans l3).trans l4) R4 (.bl _)
                · rw [if_neg hk]
                  rw [if_neg hk] at P5
                  exact ⟨m4, h4, ((l'.trans l2).trans l3).trans l4, R4, P5⟩
            | false =>
              rw [if_neg Bool.false_ne_true]
              rw [if_neg Bool.false_ne_true] at P3
              exact ⟨m3, h3, (l'.trans l2).trans l3, R3, P3⟩
    · exact P'.elim
variable {cA P : Addr} {k : Nat} {scope : Scope} {own : List (Str × Nat)} {fi : Sl → M Itw} {pt : Pat} {ft : Sl → M Bool} {fe : Sl → M W}
theorem ev_any (hP : P ∈ T.tg) (hl : ∀ p ∈ T.tl, p.1 ≠ P) (hr : Room (k + 1) X.A) (hm : X.mg "any" = none) (TB : GxR.TabB X.base X.mg cA P) (hcode : X.env.code = .ref cA) (hN : X.N.Nodup) (ok : BlkOk X.N X.env.scope scope own) (hcell : ∀ y ∈ scope.names, y.2 ≠ .cell) (hdot : scope.names.lookup (".0" : Str) = some NameKind.local) (hco : scope.isCoroutine = false)
    (hi : PIv X T W' tg iter fi) (hpg : ∀ (s : Shared) (H : Hp) (L : Addr) (cl : List (Str × Addr)) (code : Value) (A' : Around) (fp : List Addr), Room k A' → PGv (gcx X s H (genEnv scope cl L code builtinsNs X.env) A' fp) T tg pt)
    (hpt : ∀ (s : Shared) (H : Hp) (L : Addr) (cl : List (Str × Addr)) (code : Value) (A' : Around) (fp : List Addr), Room k A' → PTsv (gcx X s H (genEnv scope cl L code builtinsNs X.env) A' fp) T W0 ifs ft)
    (hpe : ∀ (s : Shared) (H : Hp) (L : Addr) (cl : List (Str × Addr)) (code : Value) (A' : Around) (fp : List Addr), Room k A' → PEv (gcx X s H (genEnv scope cl L code builtinsNs X.env) A' fp) T W0 elt fe)
    (hv : ∀ i ∈ pt.ids, i ∈ own.map (·.2) := by decide) (hg : Gl X "any" := by rfl) (hs : ∀ v, genFold iter X.env v = pure v := by intro _; rfl)
    (he : starEach [.GeneratorExp elt [⟨tg, iter, ifs, 0⟩] scope gpos] X.env = (false, eval (.GeneratorExp elt [⟨tg, iter, ifs, 0⟩] scope gpos) X.env) :: starEach [] X.env := by rfl) :
    PEv X T W' (.Call (.Name "any" p) [.GeneratorExp elt [⟨tg, iter, ifs, 0⟩] scope gpos] [] pos) (fAny true fi (own.map (·.2)) pt ft fe) :=
  ⟨pe_imp (pe_anyG (g := liftP X.K T pt) (tt := lT X T W0 ft) (te := lE X T W0 fe) hr hg hm TB hcode hN ok hcell hdot hco hi.pi (fun s H L cl code A' fp r => (hpg s H L cl code A' fp r).pg) (fun s H L cl code A' fp r => (hpt s H L cl code A' fp r).pts) (fun s H L cl code A' fp r => (hpe s H L cl code A' fp r).pe) hs he) fun σ H Q h => gx_read true hv hP hl (fun k H pr z => ⟨k, rfl, z⟩) h⟩
theorem ev_all (hP : P ∈ T.tg) (hl : ∀ p ∈ T.tl, p.1 ≠ P) (hr : Room (k + 1) X.A) (hm : X.mg "all" = none) (TB : GxR.TabB X.base X.mg cA P) (hcode : X.env.code = .ref cA) (hN : X.N.Nodup) (ok : BlkOk X.N X.env.scope scope own) (hcell : ∀ y ∈ scope.names, y.2 ≠ .cell) (hdot : scope.names.lookup (".0" : Str) = some NameKind.local) (hco : scope.isCoroutine = false)
    (hi : PIv X T W' tg iter fi) (hpg : ∀ (s : Shared) (H : Hp) (L : Addr) (cl : List (Str × Addr)) (code : Value) (A' : Around) (fp : List Addr), Room k A' → PGv (gcx X s H (genEnv scope cl L code builtinsNs X.env) A' fp) T tg pt)
    (hpt : ∀ (s : Shared) (H : Hp) (L : Addr) (cl : List (Str × Addr)) (code : Value) (A' : Around) (fp : List Addr), Room k A' → PTsv (gcx X s H (genEnv scope cl L code builtinsNs X.env) A' fp) T W0 ifs ft)
    (hpe : ∀ (s : Shared) (H : Hp) (L : Addr) (cl : List (Str × Addr)) (code : Value) (A' : Around) (fp : List Addr), Room k A' → PEv (gcx X s H (genEnv scope cl L code builtinsNs X.env) A' fp) T W0 elt fe)
    (hv : ∀ i ∈ pt.ids, i ∈ own.map (·.2) := by decide) (hg : Gl X "all" := by rfl) (hs : ∀ v, genFold iter X.env v = pure v := by intro _; rfl)
    (he : starEach [.GeneratorExp elt [⟨tg, iter, ifs, 0⟩] scope gpos] X.env = (false, eval (.GeneratorExp elt [⟨tg, iter, ifs, 0⟩] scope gpos) X.env) :: starEach [] X.env := by rfl) :
    PEv X T W' (.Call (.Name "all" p) [.GeneratorExp elt [⟨tg, iter, ifs, 0⟩] scope gpos] [] pos) (fAny false fi (own.map (·.2)) pt ft fe) := by
  refine ⟨pe_imp (pe_allG (g := liftP X.K T pt) (tt := lT X T W0 ft) (te := lE X T W0 fe) hr hg hm TB hcode hN ok hcell hdot hco hi.pi (fun s H L cl code A' fp r => (hpg s H L cl code A' fp r).pg) (fun s H L cl code A' fp r => (hpt s H L cl code A' fp r).pts) (fun s H L cl code A' fp r => (hpe s H L cl code A' fp r).pe) hs he) fun σ H Q h => gx_read false hv hP hl (fun k H pr z => ⟨k, rfl, ?_⟩) h⟩
  cases k with
  | true => exact z
  | false => exact z
/-! ### {kx: vx for pt in iter if tst} -/
def dcA (gd : LH → Bool) (p : Pat) (tst : Sl → M Bool) (kx vx : Sl → M W) (sl : Sl) : List (Key × W) → List W → M W
  | acc, [] => fun h => if gd h = true then .ok (.ref h.length) (h ++ [.dct acc]) else .bad
  | acc, w :: r => fun h => if gd h = true ∧ acc.length < LIM then (match bindP p w sl with
    | none => .bad
    | some sl1 => bnd (nx1 (tst sl1)) (fun b => if b = true then bnd (nx1 (kx sl1)) fun y => bnd (nx1 (vx sl1)) fun z => bnd (opt (keyW y)) fun k => dcA gd p tst kx vx sl (putW acc k z) r else dcA gd p tst kx vx sl acc r) h) else .bad
def fDc (fi : Sl → M Itw) (vs : List Nat) (p : Pat) (tst : Sl → M Bool) (kx vx : Sl → M W) : Sl → M W := fun sl => bnd (fi sl) fun it => dcA it.gd p tst kx vx (wipeW sl vs) [] it.ws
theorem dc_read {fi : Sl → M Itw} {vs : List Nat} {pt : Pat} {ft : Sl → M Bool} {fk fe : Sl → M W} (hv : ∀ i ∈ pt.ids, i ∈ vs) {σ : L2.St} {H : Hp} {Q : VK} (h : lE X T W' (fDc fi vs pt ft fk fe) σ H Q) :
    tDc (liftG X.K T (ItRel X.K T) W' fi) (liftP X.K T pt) (lT X T W0 ft) (lE X T W0 fk) (lE X T W0 fe) vs σ H Q := by
  obtain ⟨m, h, sl, R1, S1, P⟩ := h
  refine use R1 S1 P fun m1 H1 J it h1 l1 R1 IR P1 => ?_
  intro D hD
  refine ⟨fun i n H' => ∃ m' h' acc accV, Le X.K m1 H1 m' H' ∧ Rel X.K T m' h' H' ∧ H' D = some (.dK accV) ∧ D ∉ m' ∧ RelKV X.K m' H' acc accV ∧ n = it.ws.length - i ∧ i ≤ it.ws.length ∧ Post X.K T (RelW X.K) m1 H1 (dcA it.gd pt ft fk fe (wipeW sl vs) acc (it.ws.drop i) h') Q (WE W' σ),
    ⟨it.ws.length, m1, h1, [], [], Le.aside R1 hD _, R1.aside hD _, upd_same, fun z => ?_, .nil, rfl, Nat.zero_le _, P1⟩, ?_⟩
  · obtain ⟨u, hu, _⟩ := R1.mem z
    rw [hD] at hu
    cases hu
  rintro i n H' ⟨m', h', acc, accV, l', R', hDv, nD, ra, en, hil, P'⟩
  cases ew : it.ws[i]? with
  | none =>
    have hi2 : it.ws.length ≤ i := List.getElem?_eq_none_iff.mp ew
    rw [List.drop_eq_nil_of_le hi2] at P'
    unfold dcA at P'
    split at P'
    · rename_i g
      refine .inl ⟨(IR m' h' H' l' R' g i).1 hi2, ?_⟩
      refine P' (m' ++ [D]) H' (.ref D) (l'.adopt hD) (R'.adopt nD ⟨accV, hDv, ra.mono0 ⟨⟨[D], rfl⟩, fun _ _ s => s⟩⟩) (.ref (by rw [← R'.len]; simp))
    · exact P'.elim
  | some w =>
    rw [drop_cons ew] at P'
    have hlt : i < it.ws.length := (List.getElem?_eq_some_iff.mp ew).1
    unfold dcA at P'
    split at P'
    · rename_i g
      obtain ⟨go, yl⟩ := (IR m' h' H' l' R' g.1 i).2 w ew
      refine .inr ⟨go, fun H3 => ∃ m3 h3 acc3 accV3, Le X.K m1 H1 m3 H3 ∧ Rel X.K T m3 h3 H3 ∧ H3 D = some (.dK accV3) ∧ D ∉ m3 ∧ RelKV X.K m3 H3 acc3 accV3 ∧ Post X.K T (RelW X.K) m1 H1 (dcA it.gd pt ft fk fe (wipeW sl vs) acc3 (it.ws.drop (i + 1)) h3) Q (WE W' σ), ?_, fun x H2 y => ?_⟩
      · rintro H3 ⟨m3, h3, acc3, accV3, l3, R3, d3, n3, r3, P3⟩
        exact ⟨it.ws.length - (i + 1), by omega, m3, h3, acc3, accV3, l3, R3, d3, n3, r3, rfl, hlt, P3⟩
      · obtain ⟨l2, R2, rw2⟩ := yl x H2 y
        cases eb : bindP pt w (wipeW sl vs) with
        | none => rw [eb] at P'; exact P'.elim
        | some sl1 =>
          rw [eb] at P'
          have Sw : RelS X.K m' H2 (wipeW sl vs) (wipe σ vs) := (((S1.mono l1).wipe vs).mono l').mono l2
          refine ⟨m', h', wipeW sl vs, w, sl1, R2, Sw, rw2, eb, fun σ2 S2 hw => ⟨?_, ?_⟩⟩
          · rw [hw vs hv]
            exact wipe_wipe
          · have hD2 := l2.oth D _ hDv (fun _ z => by cases z) nD
            refine useN R2 S2 P' fun m3 H3 bb wb h3 l3 R3 rb P3 => ?_
            obtain rfl : wb = bb := rb
            have hD3 := l3.oth D _ hD2.1 (fun _ z => by cases z) hD2.2
            cases wb with
            | true =>
              rw [if_pos rfl]
              rw [if_pos rfl] at P3
              refine useN R3 (S2.mono l3) P3 fun m4 H4 kv wk h4 l4 R4 rk P4 => ?_
              refine useN R4 ((S2.mono l3).mono l4) P4 fun m5 H5 yv wy h5 l5 R5 ry P5 => ?_
              cases ek : keyW wk with
              | none => rw [ek] at P5; exact P5.elim
              | some k =>
                rw [ek] at P5
                have P6 : Post X.K T (RelW X.K) m1 H1 (dcA it.gd pt ft fk fe (wipeW sl vs) (putW acc k wy) (it.ws.drop (i + 1)) h5) Q (WE W' σ) := P5
                have hD4 := l4.oth D _ hD3.1 (fun _ z => by cases z) hD3.2
                have hD5 := l5.oth D _ hD4.1 (fun _ z => by cases z) hD4.2
                have lA := (((l'.trans l2).trans l3).trans l4).trans l5
                have la := ((l2.trans l3).trans l4).trans l5
                have R6 := R5.over hD5.2 hD5.1 (fun _ z => by cases z) (fun _ _ z => by cases z) (fun _ z => by cases z) (fun _ z => by cases z) (.dK (putK accV k yv))
                have l6 := lA.over hD hD5.1 (fun _ z => by cases z) (fun _ _ z => by cases z) (.dK (putK accV k yv))
                have lo : Lt X.K m5 H5 m5 (upd H5 D (.dK (putK accV k yv))) := ⟨⟨[], (List.append_nil _).symm⟩, fun a vs s => sqT_of (fun b z xs ebb q => upd_ne (fun y => by
                  subst y
                  rw [hD5.1] at ebb
                  cases ebb
                  rcases q with q | ⟨o, q⟩ <;> cases q)) s⟩
                refine ⟨accV, k, key_rel (rk.mono l5) ek, hD5.1, by rw [← kv_length ra]; exact lim_lt g.2, m5, h5, putW acc k wy, _, l6, R6, upd_same, hD5.2, ?_, P6⟩
                exact (put_rel ry (ra.mono la)).mono0 lo
            | false =>
              rw [if_neg Bool.false_ne_true]
              rw [if_neg Bool.false_ne_true] at P3
              exact ⟨m3, h3, acc, accV, (l'.trans l2).trans l3, R3, hD3.1, hD3.2, ra.mono (l2.trans l3), P3⟩
    · exact P'.elim
theorem ev_dc {fk : Sl → M W} (hN : X.N.Nodup) (hi : PIv X T W' tg iter fi) (ok : BlkOk X.N X.env.scope scope own)
    (hg : ∀ (s : Shared) (H : Hp) (C : Addr) (cl : List (Str × Addr)) (fp : List Addr), PGv (X.blk s H scope (compEnvC scope cl C X.env) fp) T tg pt) (ht : ∀ (s : Shared) (H : Hp) (C : Addr) (cl : List (Str × Addr)) (fp : List Addr), PTsv (X.blk s H scope (compEnvC scope cl C X.env) fp) T W0 ifs ft)
    (hk : ∀ (s : Shared) (H : Hp) (C : Addr) (cl : List (Str × Addr)) (fp : List Addr), PEv (X.blk s H scope (compEnvC scope cl C X.env) fp) T W0 kx fk)
    (he : ∀ (s : Shared) (H : Hp) (C : Addr) (cl : List (Str × Addr)) (fp : List Addr), PEv (X.blk s H scope (compEnvC scope cl C X.env) fp) T W0 vx fe) (hv : ∀ i ∈ pt.ids, i ∈ own.map (·.2) := by decide) (hc : X.calm = true := by rfl) (hs : ∀ x, foldedSetIterable iter X.env x = pure x := by intro _; rfl) :
    PEv X T W' (.DictComp kx vx [⟨tg, iter, ifs, 0⟩] scope pos) (fDc fi (own.map (·.2)) pt ft fk fe) :=
  ⟨pe_imp (pe_dc (g := liftP X.K T pt) (tt := lT X T W0 ft) (tk := lE X T W0 fk) (tv := lE X T W0 fe) hc hN hi.pi ok (fun s H C cl fp => (hg s H C cl fp).pg) (fun s H C cl fp => (ht s H C cl fp).pts) (fun s H C cl fp => (hk s H C cl fp).pe) (fun s H C cl fp => (he s H C cl fp).pe) hs) fun σ H Q h => dc_read hv h⟩
end
end Fv
set_option Elab.async false
set_option linter.all false
set_option maxRecDepth 100000
set_option maxHeartbeats 4000000
namespace Fv
open PySem PySem.Spec PyProof.Rows L2 Fh
section
variable {X : Cx} {T : Tbs} {W' : WX} {e a b c o tg iter elt : Expr} {es : List Expr} {pos p apos cpos : Pos}
/-! ### range -/
def rngW (lo : Int) (n : Nat) : List W := (List.range n).map fun k => .int (lo + (k : Nat))
theorem itr_rel {K : PySem.W.Frag} {m : List Addr} {H : Hp} {lo : Int} {n : Nat} : ItRel K T m H ⟨rngW lo n, fun _ => true⟩ (Itr lo n) := by
  intro m' h' H' l R' _ i
  have hl : (rngW lo n).length = n := by unfold rngW; simp
  refine ⟨fun hi => by show n ≤ i; rw [← hl]; exact hi, fun x ex => ?_⟩
  have hi : i < n := by
    have := (List.getElem?_eq_some_iff.mp ex).1
    rw [hl] at this
    exact this
  have hx : x = .int (lo + (i : Nat)) := by
    unfold rngW at ex
    rw [List.getElem?_map, List.getElem?_range hi] at ex
    exact (Option.some.inj ex).symm
  subst hx
  refine ⟨hi, fun u H2 y => ?_⟩
  obtain ⟨rfl, rfl⟩ := y
  exact ⟨.refl, R', .int _⟩
def rng1 : List W → Option Itw
  | [.int j] => if -100000 ≤ j ∧ j ≤ 100000 then some ⟨rngW 0 j.toNat, fun _ => true⟩ else none
  | _ => none
def rng2 : List W → Option Itw
  | [.int i, .int j] => if -100000 ≤ i ∧ i ≤ 100000 ∧ -100000 ≤ j ∧ j ≤ 100000 then some ⟨rngW i (j - i).toNat, fun _ => true⟩ else none
  | _ => none
def iRg (g : List W → Option Itw) (fa : Sl → M (List W)) : Sl → M Itw := fun sl => bnd (fa sl) fun ws => opt (g ws)
theorem iv_range1 {fa : Sl → M (List W)} (hm : X.mg "range" = none) (ha : PAv X T W' [a] fa) (hg : Gl X "range" := by rfl) (hs : starEach [a] X.env = [(false, eval a X.env)] := by rfl) : PIv X T W' tg (.Call (.Name "range" p) [a] [] pos) (iRg rng1 fa) := by
  refine ⟨pi_imp (pi_range1 hg hm ha.pa hs) fun σ H Q h => ?_⟩
  obtain ⟨m, h, sl, R1, S1, P⟩ := h
  refine use R1 S1 P fun m1 H1 xs ws h1 l1 R1 rs P1 => ?_
  obtain ⟨it, e1, q⟩ := P1.opt
  unfold rng1 at e1
  split at e1
  · split at e1
    · rename_i j hz
      cases e1
      obtain ⟨v, rfl, rv⟩ := r_one rs
      cases r_int rv
      exact ⟨j, rfl, by omega, by omega, q m1 H1 _ .refl R1 itr_rel⟩
    · cases e1
  · cases e1
theorem iv_range2 {fa : Sl → M (List W)} (hm : X.mg "range" = none) (ha : PAv X T W' [a, b] fa) (hg : Gl X "range" := by rfl) (hs : starEach [a, b] X.env = [(false, eval a X.env), (false, eval b X.env)] := by rfl) (hs2 : starEach [b] X.env = [(false, eval b X.env)] := by rfl) : PIv X T W' tg (.Call (.Name "range" p) [a, b] [] pos) (iRg rng2 fa) := by
  refine ⟨pi_imp (pi_range2 hg hm ha.pa hs hs2) fun σ H Q h => ?_⟩
  obtain ⟨m, h, sl, R1, S1, P⟩ := h
  refine use R1 S1 P fun m1 H1 xs ws h1 l1 R1 rs P1 => ?_
  obtain ⟨it, e1, q⟩ := P1.opt
  unfold rng2 at e1
  split at e1
  · split at e1
    · rename_i i j hz
      cases e1
      obtain ⟨v, z, rfl, rv, rz⟩ := r_two rs
      cases r_int rv
      cases r_int rz
      exact ⟨i, j, rfl, ⟨by omega, by omega, by omega, by omega⟩, q m1 H1 _ .refl R1 itr_rel⟩
    · cases e1
  · cases e1
/-! ### enumerate -/
def enumW (n : Nat) : List W → List W
  | [] => []
  | w :: ws => .tup [.int (n : Nat), w] :: enumW (n + 1) ws
theorem enumW_length : ∀ (ws : List W) (n : Nat), (enumW n ws).length = ws.length
  | [], _ => rfl
  | _ :: ws, n => congrArg (· + 1) (enumW_length ws (n + 1))
theorem enumW_get : ∀ {ws : List W} {n i : Nat} {x : W}, (enumW n ws)[i]? = some x → ∃ w, ws[i]? = some w ∧ x = .tup [.int ((n + i : Nat) : Int), w]
  | [], _, _, _, h => by simp [enumW] at h
  | w :: ws, n, 0, x, h => by
    simp [enumW] at h
    exact ⟨w, rfl, by rw [← h]; simp⟩
  | w :: ws, n, i + 1, x, h => by
    have h : (enumW (n + 1) ws)[i]? = some x := by simpa [enumW] using h
    obtain ⟨w', e1, e2⟩ := enumW_get h
    exact ⟨w', by simpa using e1, by rw [e2, show n + 1 + i = n + (i + 1) by omega]⟩
def itEnum (w : W) : LH → Option (Itw × LH) := fun h => match w with
  | .tup ws => some (⟨enumW 0 ws, fun _ => true⟩, h)
  | .ref j => (seqW h (.ref j)).map fun ws => (⟨enumW 0 ws, gdL j ws⟩, h)
  | _ => none
def iEn (fa : Sl → M (List W)) : Sl → M Itw := fun sl => bnd (fa sl) fun ws => match ws with
  | [w] => opt2 (itEnum w)
  | _ => fun _ => .bad
theorem iv_enumL {fa : Sl → M (List W)} {tpos : Pos} {elts : List Expr} {kk : Nat} (hm : X.mg "enumerate" = none) (ha : PAv X T W' [e] fa) (hg : Gl X "enumerate" := by rfl) (hs : starEach [e] X.env = [(false, eval e X.env)] := by rfl) :
    PIv X T W' (.Tuple elts kk tpos) (.Call (.Name "enumerate" p) [e] [] pos) (fun sl => bnd (fa sl) fun ws => match ws with
      | [.ref j] => opt2 (itEnum (.ref j))
      | _ => fun _ => .bad) := by
  refine ⟨pi_imp (pi_enum hg hm ha.pa hs) fun σ H Q h => ?_⟩
  obtain ⟨m, h, sl, R1, S1, P⟩ := h
  refine use R1 S1 P fun m1 H1 xs ws h1 l1 R1 rs P1 => ?_
  split at P1
  · rename_i j
    obtain ⟨it, h', e1, q⟩ := P1.opt2
    unfold itEnum at e1
    dsimp only at e1
    cases e2 : seqW h1 (.ref j) with
    | none => rw [e2] at e1; cases e1
    | some us =>
      rw [e2] at e1
      cases e1
      obtain ⟨v, rfl, rv⟩ := r_one rs
      obtain ⟨pa, vs, ep, sq, rr⟩ := seqR_rel R1 rv e2
      subst ep
      cases rv with
      | ref ea =>
        refine ⟨pa, vs, rfl, sq, q m1 H1 _ .refl R1 ?_⟩
        intro m' h' H' l R' g i
        dsimp only [gdL] at g
        split at g
        · rename_i xs' e3
          cases beqWs_eq g
          obtain ⟨p2, vs2, ep2, sq2, rs2⟩ := seqR_rel R' (.ref (l.at ea)) e3
          cases ep2
          refine ⟨fun hi => ⟨vs2, sq2, by rw [← rs2.length, ← enumW_length us 0]; exact hi⟩, fun x ex => ?_⟩
          obtain ⟨w, ew, rfl⟩ := enumW_get ex
          obtain ⟨v, ev, rv⟩ := rs2.get ew
          refine ⟨⟨vs2, v, sq2, ev⟩, fun u H2 y => ?_⟩
          obtain ⟨Tt, x2, rfl, hT, rfl, hx⟩ := y
          have := hx vs2 sq2
          rw [ev] at this
          cases this
          have la := Le.aside R' hT (.tup [.int (i : Nat), v])
          refine ⟨la, R'.aside hT _, .tup (SqT.of upd_same) (.cons ?_ (.cons (rv.mono la) .nil))⟩
          rw [Nat.zero_add]
          exact .int _
        · cases g
  · exact P1.elim
theorem iv_enumT {fa : Sl → M (List W)} {tpos : Pos} {elts : List Expr} {kk : Nat} (hm : X.mg "enumerate" = none) (ha : PAv X T W' [e] fa) (hg : Gl X "enumerate" := by rfl) (hs : starEach [e] X.env = [(false, eval e X.env)] := by rfl) :
    PIv X T W' (.Tuple elts kk tpos) (.Call (.Name "enumerate" p) [e] [] pos) (fun sl => bnd (fa sl) fun ws => match ws with
      | [.tup us] => opt2 (itEnum (.tup us))
      | _ => fun _ => .bad) := by
  refine ⟨pi_imp (pi_enumT hg hm ha.pa hs) fun σ H Q h => ?_⟩
  obtain ⟨m, h, sl, R1, S1, P⟩ := h
  refine use R1 S1 P fun m1 H1 xs ws h1 l1 R1 rs P1 => ?_
  split at P1
  · obtain ⟨it, h', e1, q⟩ := P1.opt2
    cases e1
    obtain ⟨v, rfl, rv⟩ := r_one rs
    obtain ⟨pa, vs, rfl, sa, ra⟩ := r_tup rv
    refine ⟨pa, vs, rfl, sa, q m1 H1 _ .refl R1 ?_⟩
    intro m' h' H' l R' g i
    have sa' := l.tup _ _ sa
    refine ⟨fun hi => ⟨vs, sa', by rw [← ra.length, ← enumW_length _ 0]; exact hi⟩, fun x ex => ?_⟩
    obtain ⟨w, ew, rfl⟩ := enumW_get ex
    obtain ⟨v, ev, rv⟩ := ra.get ew
    refine ⟨⟨vs, v, sa', ev⟩, fun u H2 y => ?_⟩
    obtain ⟨Tt, x2, rfl, hT, rfl, hx⟩ := y
    have := hx vs sa'
    rw [ev] at this
    cases this
    have la := Le.aside R' hT (.tup [.int (i : Nat), v])
    refine ⟨la, R'.aside hT _, .tup (SqT.of upd_same) (.cons ?_ (.cons ((rv.mono l).mono la) .nil))⟩
    rw [Nat.zero_add]
    exact .int _
  · exact P1.elim
theorem iv_enum {fa : Sl → M (List W)} {tpos : Pos} {elts : List Expr} {kk : Nat} (hm : X.mg "enumerate" = none) (ha : PAv X T W' [e] fa) (hg : Gl X "enumerate" := by rfl) (hs : starEach [e] X.env = [(false, eval e X.env)] := by rfl) :
    PIv X T W' (.Tuple elts kk tpos) (.Call (.Name "enumerate" p) [e] [] pos) (iEn fa) := by
  refine (iv_enumL hm ha hg hs).or (iv_enumT hm ha hg hs) fun sl h => ?_
  unfold iEn bnd
  cases fa sl h with
  | ok ws h1 =>
    cases ws with
    | nil => exact .inl rfl
    | cons w r =>
      cases r with
      | nil =>
        cases w with
        | ref j => exact .inl rfl
        | tup us => exact .inr rfl
        | _ => exact .inl rfl
      | cons _ _ => exact .inl (by cases w <;> rfl)
  | ex _ _ _ => exact .inl rfl
  | bad => exact .inl rfl
/-! ### the signs of a text -/
def signs (x : Str) : List W := x.cps.toList.map fun c => .str ⟨#[c]⟩
def itStr (w : W) : Option Itw := match w with
  | .str x => some ⟨signs x, fun _ => true⟩
  | _ => none
def iSt (f : Sl → M W) : Sl → M Itw := fun sl => bnd (f sl) fun w => opt (itStr w)
theorem iv_str {f : Sl → M W} (h : PEv X T W' e f) : PIv X T W' tg e (iSt f) := by
  refine ⟨pi_imp (pi_str h.pe) fun σ H Q h => ?_⟩
  obtain ⟨m, h, sl, R1, S1, P⟩ := h
  refine use R1 S1 P fun m1 H1 v w h1 l1 R1 rv P1 => ?_
  obtain ⟨it, e1, q⟩ := P1.opt
  unfold itStr at e1
  split at e1
  · rename_i x
    cases e1
    cases r_str rv
    refine ⟨x, rfl, q m1 H1 _ .refl R1 ?_⟩
    intro m' h' H' l R' g i
    have hl : (signs x).length = x.cps.size := by unfold signs; simp
    refine ⟨fun hi => by show x.cps.size ≤ i; rw [← hl]; exact hi, fun y ey => ?_⟩
    have hi : i < x.cps.size := by
      have := (List.getElem?_eq_some_iff.mp ey).1
      rw [hl] at this
      exact this
    refine ⟨hi, fun u H2 z => ?_⟩
    obtain ⟨rfl, cc, ec, rfl⟩ := z
    have ey2 : y = .str ⟨#[cc]⟩ := by
      unfold signs at ey
      rw [List.getElem?_map, Array.getElem?_toList, ec] at ey
      exact (Option.some.inj ey).symm
    subst ey2
    exact ⟨.refl, R', .str _⟩
  · cases e1
/-- a list, a tuple or a text -/
def iSq (f : Sl → M W) : Sl → M Itw := fun sl => bnd (f sl) fun w => match w with
  | .str x => opt (itStr (.str x))
  | w => opt2 (itSeq w)
theorem iv_sq {f : Sl → M W} (h : PEv X T W' e f) : PIv X T W' tg e (iSq f) := by
  refine (iv_seq h).or (iv_str h) fun sl hh => ?_
  unfold iSq iSeq iSt bnd
  cases f sl hh with
  | ok w h1 =>
    cases w with
    | str x => exact .inr rfl
    | _ => exact .inl rfl
  | ex _ _ _ => exact .inl rfl
  | bad => exact .inl rfl
/-! ### the values, keys, pairs of a dict that is walked -/
def kW : Key → W
  | .inl i => .int i
  | .inr x => .str x
inductive Vw | vals | keys | items
def vwW (v : Vw) (kv : Key × W) : W := match v with
  | .vals => kv.2
  | .keys => kW kv.1
  | .items => .tup [kW kv.1, kv.2]
def itDct (vw : Vw) (w : W) : LH → Option (Itw × LH) := fun h => match w with
  | .ref j => match h[j]? with
    | some (.dcl kvs) => some (⟨kvs.map (vwW vw), fun _ => true⟩, h)
    | _ => none
  | _ => none
def iDc (vw : Vw) (f : Sl → M W) : Sl → M Itw := fun sl => bnd (f sl) fun w => opt2 (itDct vw w)
theorem kW_rel {K : PySem.W.Frag} {m : List Addr} {H : Hp} (k : Key) : RelW K m H (kW k) (kV k) := by
  cases k with
  | inl i => exact .int i
  | inr x => exact .str x
theorem kv_get {K : PySem.W.Frag} {m : List Addr} {H : Hp} : ∀ {kvs : List (Key × W)} {vs : List (Key × V)} {i : Nat} {k : Key} {v : V}, RelKV K m H kvs vs → vs[i]? = some (k, v) → ∃ w, kvs[i]? = some (k, w) ∧ RelW K m H w v
  | _, _, _, _, _, .nil, e => by simp at e
  | _, _, 0, _, _, .cons r _, e => by simp at e; obtain ⟨rfl, rfl⟩ := e; exact ⟨_, rfl, r⟩
  | _, _, i + 1, k, v, .cons _ t, e => by
    obtain ⟨w, h1, h2⟩ := kv_get (i := i) t (by simpa using e)
    exact ⟨w, by simpa using h1, h2⟩
theorem iv_values {f : Sl → M W} (h : PEv X T W' e f) (hbase : attributeBase e "values" X.env (eval e X.env) = eval e X.env := by rfl) (hline : (apos.endLine == cpos.line) = true := by rfl) : PIv X T W' tg (.Call (.Attribute e "values" apos) [] [] cpos) (iDc .vals f) := by
  refine ⟨pi_imp (pi_values h.pe hbase hline) fun σ H Q h => ?_⟩
  obtain ⟨m, h, sl, R1, S1, P⟩ := h
  refine use R1 S1 P fun m1 H1 v w h1 l1 R1 rv P1 => ?_
  obtain ⟨it, h', e1, q⟩ := P1.opt2
  unfold itDct at e1
  split at e1
  · split at e1
    · rename_i j _ kvs e2
      cases e1
      cases rv with
      | ref ea =>
        obtain ⟨o, vs, hv, rs⟩ := R1.obj _ _ _ ea e2
        refine ⟨_, o, vs, rfl, hv, q m1 H1 _ .refl R1 ?_⟩
        intro m' h' H' l R' g i
        have hv' := l.frz _ _ _ hv
        refine ⟨fun hi => ⟨hv', by rw [← kv_length rs]; simpa using hi⟩, fun y ey => ?_⟩
        have hi : i < kvs.length := by
          have := (List.getElem?_eq_some_iff.mp ey).1
          simpa using this
        refine ⟨⟨hv', by rw [← kv_length rs]; exact hi⟩, fun u H2 z => ?_⟩
        obtain ⟨rfl, k, ek⟩ := z
        obtain ⟨w, ew, rw'⟩ := kv_get rs ek
        rw [List.getElem?_map, ew] at ey
        cases ey
        exact ⟨.refl, R', rw'.mono l⟩
    · cases e1
  · cases e1
/-- a dict locked while e is computed -/
def fLock (fd f : Sl → M W) : Sl → M W := fun sl h => match fd sl h with
  | .ok (.ref i) _ => (match h[i]? with
    | some (.dct kvs) => (match f sl (h.set i (.dcl kvs)) with
      | .ok w h' => (match h'[i]? with
        | some (.dcl kvs') => .ok w (h'.set i (.dct kvs'))
        | _ => .bad)
      | _ => .bad)
    | _ => .bad)
  | _ => .bad
theorem ev_lock {fd f : Sl → M W} (h : PEv X T W' e f) : PEv X T W' e (fLock fd f) := by
  refine ⟨pe_imp (pe_lock h.pe) fun σ H Q h => ?_⟩
  obtain ⟨m, h, sl, R1, S1, P⟩ := h
  unfold fLock at P
  split at P
  · split at P
    · rename_i i _ _ _ kvs e1
      obtain ⟨a, ea⟩ : ∃ a, m[i]? = some a := by
        have hi : i < m.length := by
          rw [R1.len]
          exact (List.getElem?_eq_some_iff.mp e1).1
        exact ⟨_, List.getElem?_eq_getElem hi⟩
      obtain ⟨vs, hv, rs⟩ := R1.obj _ _ _ ea e1
      refine ⟨a, .dK vs, hv, trivial, fun od => ?_⟩
      have lp := Le.put R1 ea hv (fun _ _ z => by cases z) (.frz od (.dK vs))
      have Rp := R1.put ea hv (fun _ _ z => by cases z) (o := .frz od (.dK vs)) (lo := .dcl kvs) ⟨od, vs, upd_same, rs.mono lp⟩
      refine ⟨m, h.set i (.dcl kvs), sl, Rp, S1.mono lp, ?_⟩
      cases ef : f sl (h.set i (.dcl kvs)) with
      | bad => rw [ef] at P; exact P
      | ex _ _ _ => rw [ef] at P; exact P.elim
      | ok w h' =>
        rw [ef] at P
        dsimp only at P
        split at P
        · rename_i kvs' e2
          intro m' H' v l' R' rv
          have hv' := l'.frz a od (.dK vs) upd_same
          refine ⟨hv', ?_⟩
          have ea' := l'.at ea
          obtain ⟨o2, vs2, hv2, rs2⟩ := R'.obj _ _ _ ea' e2
          rw [hv'] at hv2
          cases hv2
          have lt : Lt X.K m' H' m' (upd H' a (.dK vs)) := ⟨⟨[], (List.append_nil _).symm⟩, fun c us s => sqT_of (fun b z xs eb q => upd_ne (fun y => by
            subst y
            rw [hv'] at eb
            cases eb
            rcases q with q | ⟨o, q⟩
            · cases q
            · cases q)) s⟩
          refine P m' (upd H' a (.dK vs)) v ?_ ?_ (rv.mono0 lt)
          · have l2 := lp.trans l'
            refine ⟨l2.pre, fun c us s => lt.tup c us (l2.tup c us s), fun b o eb nb n => ?_, fun b o u eb => ?_, fun b φ eb => ?_⟩
            · obtain ⟨z1, z2⟩ := l2.oth b o eb nb n
              have nba : b ≠ a := fun y => z2 (by rw [y]; exact List.mem_of_getElem? ea')
              exact ⟨by rw [upd_ne nba]; exact z1, z2⟩
            · rw [upd_ne (fun y => by rw [y, hv] at eb; cases eb)]
              exact l2.frz b o u eb
            · rw [upd_ne (fun y => by rw [y, hv] at eb; cases eb)]
              exact l2.ext b φ eb
          · refine ⟨by simp [R'.len], R'.nd, fun j b z e3 e4 => ?_, fun P hP => tabG_of (fun b z eb q => upd_ne (fun y => ?_)) (R'.tg P hP), fun P hP => tabS_of (fun b z eb q => upd_ne (fun y => ?_)) (R'.tl P hP)⟩
            · by_cases hj : j = i
              · subst hj
                rw [ea'] at e3
                cases e3
                rw [List.getElem?_set_self (by rw [← R'.len]; exact (List.getElem?_eq_some_iff.mp ea').1)] at e4
                cases e4
                exact ⟨vs, upd_same, rs2.mono0 lt⟩
              · rw [List.getElem?_set_ne (Ne.symm hj)] at e4
                have nb : b ≠ a := fun y => by
                  subst y
                  exact hj (by
                    obtain ⟨h1, q1⟩ := List.getElem?_eq_some_iff.mp e3
                    obtain ⟨h2, q2⟩ := List.getElem?_eq_some_iff.mp ea'
                    exact (List.getElem_inj R'.nd).mp (q1.trans q2.symm))
                exact (R'.obj j b z e3 e4).mono0 lt (fun c φ ec => by rw [upd_ne (fun y => by rw [y, hv'] at ec; cases ec)]; exact ec) (upd_ne nb)
            · subst y
              rw [hv'] at eb
              cases eb
              rcases q with ⟨_, q⟩ | ⟨_, q⟩ <;> cases q
            · subst y
              rw [hv'] at eb
              cases eb
              rcases q with ⟨_, q⟩ | ⟨_, q⟩ <;> cases q
        · exact P.elim
    · exact P.elim
  · exact P.elim
end
end Fv
set_option Elab.async false
set_option linter.all false
set_option maxRecDepth 100000
set_option maxHeartbeats 4000000
namespace Fv
open PySem PySem.Spec PyProof.Rows L2 Fh
section
variable {ar : Air} {X : Cx} {T : Tbs} {W' : WX} {e a b c o tg iter elt : Expr} {es : List Expr} {pos p pos2 : Pos}
/-! ### raise -/
def sRaise (x : Str) : FS := fun sl h => .ex x none sl h
theorem sv_raise {x mm : Str} {j : Nat} {p2 : Pos} (E : ExcT X.K X.mg x (He.ga X.K x)) (tk : ar.T X W') (hc : X.calm = true := by rfl) (hg : Gl X x := by rfl) (hdb : (x == ("__debug__" : Str)) = false := by decide) :
    PSv X T W' (.Raise (some (.Call (.Name x p) [.Constant (.str mm) j p2] [] pos)) none pos2) (sRaise x) := by
  refine ⟨ps_imp (ps_rx E tk hc hg hdb) fun D σ H h => ?_⟩
  obtain ⟨m, h, sl, R1, S1, P⟩ := h
  exact P m H σ .refl R1 S1
/-- in an except suite -/
theorem sv_raiseH {x mm : Str} {j : Nat} {p2 : Pos} (E : ExcT X.K X.mg x (He.ga X.K x)) (hot : L2H.HotC X) (tk : L2.Takes X W') (hg : Gl X x := by rfl) (hdb : (x == ("__debug__" : Str)) = false := by decide) :
    PSv X T W' (.Raise (some (.Call (.Name x p) [.Constant (.str mm) j p2] [] pos)) none pos2) (sRaise x) := by
  refine ⟨ps_imp (L2H.ps_raiseH hot tk (L2N.pmk_own (bmB := He.veBase) PySem.F.excBase_ValueError E.exc E.g E.kp (raises_own E.sub E.ty) hg hdb)) fun D σ H h => ?_⟩
  obtain ⟨m, h, sl, R1, S1, P⟩ := h
  exact P m H σ .refl R1 S1
def sRaiseF (x f : Str) (fa : Sl → M W) : FS := eS fa fun w sl h => .ex x (some (f, w)) sl h
theorem sv_raiseF {x f : Str} {fI : Addr} {k : Nat} {fa : Sl → M W} (TS : SupTxt X.prog X.K X.mg x f (He.ga X.K x) fI) (hr : Room k X.A) (tk : ar.T X W') (ha : PEv X T W' a fa) (hc : X.calm = true := by rfl) (hg : Gl X x := by rfl) (hdb : (x == ("__debug__" : Str)) = false := by decide)
    (hs : starEach [a] X.env = (false, eval a X.env) :: starEach [] X.env := by rfl) (hpl : (backTo pos (starEach [] X.env)).any (·.1) = false := by rfl) :
    PSv X T W' (.Raise (some (.Call (.Name x p) [a] [] pos)) none pos2) (sRaiseF x f fa) := by
  refine ⟨ps_imp (ps_rsup TS hr tk (pa_cons ha.pe pa_nil hs) hc hg hdb hs hpl) fun D σ H h => ?_⟩
  obtain ⟨m, h, sl, R1, S1, P⟩ := h
  refine useS R1 S1 P fun m1 H1 v wv h1 l1 R1 rv P1 => ?_
  refine ⟨v, rfl, fun d hd => ?_⟩
  have l := Le.aside R1 hd (.xd [(f, v)])
  refine P1 m1 _ σ l (R1.aside hd _) ((S1.mono l1).mono l) d v upd_same (fun z => ?_) (rv.mono l)
  obtain ⟨u, hu, _⟩ := R1.mem z
  rw [hd] at hu
  cases hu
/-! ### try -/
def sTry (sub : Str → Option Bool) (fb fs : FS) : FS := fun sl h => match fb sl h with
  | .ex c p sl' h' => (match sub c with
    | some true => fs sl' h'
    | some false => .ex c p sl' h'
    | none => .bad)
  | r => r
def nxS (f : FS) : FS := fun sl h => match f sl h with
  | .ex _ _ _ _ => .bad
  | r => r
theorem nxS_post {m : List Addr} {H : Hp} {f : FS} {sl : Sl} {h : LH} {D : Ends} {K : PySem.W.Frag} (P : PostS K T m H (nxS f sl h) D W') : PostS K T m H (f sl h) D W0 := by
  unfold nxS at P
  cases e : f sl h with
  | ex _ _ _ _ => rw [e] at P; exact P.elim
  | _ => rw [e] at P; exact P
theorem try_post {m : List Addr} {h : LH} {H : Hp} {sl : Sl} {σ : L2.St} {D : Ends} {sub : Str → Option Bool} {fb fs : FS} {cv : Value} {ts : Addr → Value → Option Addr → TS} (hx : ∀ cn b, sub cn = some b → PySem.W.exmOne X.K (.ref (He.ga X.K cn)) cv = some b)
    (R1 : Rel X.K T m h H) (S1 : RelS X.K m H sl σ) (P : PostS X.K T m H (sTry sub fb fs sl h) D W') (hts : ∀ a cls d m' h' H' sl' σ', Rel X.K T m' h' H' → RelS X.K m' H' sl' σ' → PostS X.K T m' H' (fs sl' h') D W' → ts a cls d D σ' H') :
    liftS X.K T (wOnly X.K cv ts W' D) fb D σ H := by
  refine ⟨m, h, sl, R1, S1, ?_⟩
  unfold sTry at P
  cases e : fb sl h with
  | ex cn pp sl' h' =>
    rw [e] at P
    dsimp only at P
    intro m' H' σ' l R' S'
    cases es : sub cn with
    | none => rw [es] at P; exact P.elim
    | some bb =>
      rw [es] at P
      have hx' := hx cn bb es
      cases bb with
      | true =>
        have q : ∀ d : Option Addr, wOnly X.K cv ts W' D (.ref (He.ga X.K cn)) d σ' H' := fun d => ⟨true, hx', fun _ a _ => hts a _ d m' h' H' sl' σ' R' S' (P.mono l), fun z => nomatch z⟩
        cases pp with
        | none => exact q none
        | some fw => exact fun d v _ _ _ => q (some d)
      | false =>
        have P2 := P m' H' σ' l R' S'
        cases pp with
        | none => exact ⟨false, hx', fun z => (nomatch z), fun _ => P2⟩
        | some fw => exact fun d v h1 h2 h3 => ⟨false, hx', fun z => (nomatch z), fun _ => P2 d v h1 h2 h3⟩
  | nx _ _ => rw [e] at P; exact P
  | rt _ _ => rw [e] at P; exact P
  | bk _ _ => rw [e] at P; exact P
  | ct _ _ => rw [e] at P; exact P
  | bad => rw [e] at P; exact P
variable {body suite : List Stmt} {b₀ : Stmt} {np pos' : Pos} {fb fs : FS}
theorem sv_try {x : Str} {cv : Value} (sub : Str → Option Bool) (hn : Names X x cv) (tk : L2.Takes X W') (hx : ∀ cn b, sub cn = some b → PySem.W.exmOne X.K (.ref (He.ga X.K cn)) cv = some b)
    (hb : ∀ (W : WX) (pn : List (Addr × Obj)) (xe : Value → Shared → Prop), L2.Takes (X.tr pn xe) W → PassesOwn (model X.prog X.w) X.A X.env xe → PSsv (X.tr pn xe) T W body fb)
    (hsu : ∀ (a : Addr) (oe : Obj) (pn : List (Addr × Obj)), PSsv (X.suite a ((a, oe) :: pn)) T W0 (b₀ :: suite) fs) (hs : X.stack = X.env :: X.outer := by rfl) (hf : X.env.frame = some X.env.locals := by rfl) :
    PSv X T W' (.Try body [.ExceptHandler (some (.Name x np)) none (b₀ :: suite) pos'] [] [] pos) (sTry sub fb (nxS fs)) := by
  refine ⟨ps_imp (ps_try_only (tb := fun W => liftS X.K T W fb) (ts := fun _ _ _ => liftS X.K T W0 fs) hs hf hn tk (fun W pn xe t o => (hb W pn xe t o).ps) (fun a oe cls d pn _ _ => (hsu a oe pn).ps)) fun D σ H h => ?_⟩
  obtain ⟨m, h, sl, R1, S1, P⟩ := h
  exact try_post hx R1 S1 P fun a cls d m' h' H' sl' σ' R' S' P' => ⟨m', h', sl', R', S', nxS_post P'⟩
/-- a suite that raises -/
theorem sv_tryX {x : Str} {cv : Value} (sub : Str → Option Bool) (hn : Names X x cv) (hpa : ∀ hd : Option Value, PassesOwnAt (model X.prog X.w) (X.A.mark hd) X.A X.env X.xe) (tk : L2.Takes X W') (hx : ∀ cn b, sub cn = some b → PySem.W.exmOne X.K (.ref (He.ga X.K cn)) cv = some b)
    (hb : ∀ (W : WX) (pn : List (Addr × Obj)) (xe : Value → Shared → Prop), L2N.Takes (X.tr pn xe) W → PassesOwn (model X.prog X.w) X.A X.env xe → PSsv (X.tr pn xe) T W body fb)
    (hsu : ∀ (a : Addr) (oe : Obj) (pn : List (Addr × Obj)), L2.Takes (L2H.suiteX X a ((a, oe) :: pn)) W' → L2H.HotC (L2H.suiteX X a ((a, oe) :: pn)) → PSsv (L2H.suiteX X a ((a, oe) :: pn)) T W' (b₀ :: suite) fs) (hs : X.stack = X.env :: X.outer := by rfl) (hf : X.env.frame = some X.env.locals := by rfl) :
    PSv X T W' (.Try body [.ExceptHandler (some (.Name x np)) none (b₀ :: suite) pos'] [] [] pos) (sTry sub fb fs) := by
  refine ⟨ps_imp (L2H.ps_try_onlyX (tb := fun W => liftS X.K T W fb) (ts := fun _ _ _ => liftS X.K T W' fs) hs hf hn hpa tk (fun W pn xe t _ o => (hb W pn xe t o).ps) (fun a oe cls d pn _ _ t hot => (hsu a oe pn t hot).ps)) fun D σ H h => ?_⟩
  obtain ⟨m, h, sl, R1, S1, P⟩ := h
  exact try_post hx R1 S1 P fun a cls d m' h' H' sl' σ' R' S' P' => ⟨m', h', sl', R', S', P'⟩
end
/-! ### defs -/
def sl0 (N : Nat) (ws : List W) : Sl := ws.map some ++ List.replicate (N - ws.length) none
def runF (N : Nat) (fb : FS) : List W → M W := fun ws h => match fb (sl0 N ws) h with
  | .nx _ h' => .ok .non h'
  | .rt w h' => .ok w h'
  | .ex c p _ h' => .ex c p h'
  | _ => .bad
theorem relS_start {K : PySem.W.Frag} {m : List Addr} {H : Hp} {N : List Str} {ws : List W} {vs : List V} (r : RelWs K m H ws vs) : RelS K m H (sl0 N.length ws) (L2.start N vs) := by
  unfold sl0 L2.start
  refine ⟨by simp [r.length], fun i w e => ?_⟩
  by_cases hi : i < ws.length
  · rw [List.getElem?_append_left (by simpa using hi), List.getElem?_map] at e
    cases e1 : ws[i]? with
    | none => rw [e1] at e; cases e
    | some w1 =>
      rw [e1] at e
      cases e
      obtain ⟨v, ev, rv⟩ := r.get e1
      exact ⟨v, by rw [List.getElem?_append_left (by rw [List.length_map, ← r.length]; exact hi), List.getElem?_map, ev]; rfl, rv⟩
  · rw [List.getElem?_append_right (by simpa using hi)] at e
    have := List.mem_of_getElem? e
    rw [List.mem_replicate] at this
    cases this.2
section
variable {ar : Air} {P : Program} {w : World} {K : PySem.W.Frag} {mg : Str → Option Value} {base : Heap} {x qual : Str} {st : Stmt} {N ps : List Str} {k n : Nat} {p : He.Defn} {T : Tbs} {fb : FS}
abbrev BodyV (ar : Air) (P : Program) (w : World) (K : PySem.W.Frag) (mg : Str → Option Value) (base : Heap) (N : List Str) (qual : Str) (st : Stmt) (p : He.Defn) (k : Nat) (T : Tbs) (fb : FS) : Prop :=
  ∀ (A : Around) (outer : List Env) (s : Shared) (H : Hp) (E : XK), Room k (A.deeper (envOfC qual (defScope st) s.heap.objs.size (He.fAd K p) (.ref (He.codeOf K p)))) →
    PSsv (cxOf (ar.CX P w) P w K mg base N qual (defScope st) (He.fAd K p) (.ref (He.codeOf K p)) A outer s H E) T (fun cls d _ H => E cls d H) (defBody st) fb
theorem bodyV (h : BodyV ar P w K mg base N qual st p k T fb) : BodyOk ar P w K mg base N qual st p k (spF K T n (runF N.length fb)) := fun A outer s H vs Q E hr sp => by
  obtain ⟨m, h0, ws, R1, rs, hn, P0⟩ := sp
  refine ⟨_, (h A outer s H E hr).ps, m, h0, sl0 N.length ws, R1, relS_start rs, ?_⟩
  unfold runF at P0
  show PostS K T m H (fb (sl0 N.length ws) h0) _ _
  cases e : fb (sl0 N.length ws) h0 with
  | nx sl' h' => rw [e] at P0; exact fun m' H' σ' l R' S' => P0 m' H' .non l R' .non
  | rt w' h' => rw [e] at P0; exact P0
  | ex c pp sl' h' => rw [e] at P0; exact fun m' H' σ' l R' S' => P0 m' H' l R'
  | bk _ _ => rw [e] at P0; exact P0.elim
  | ct _ _ => rw [e] at P0; exact P0.elim
  | bad => rw [e] at P0; exact P0.elim
theorem sp_len (hn : n = ps.length) : ∀ vs H Q E, spF K T n (runF N.length fb) vs H Q E → vs.length = ps.length := fun vs H Q E sp => by
  obtain ⟨m, h0, ws, R1, rs, hl, _⟩ := sp
  rw [← rs.length, hl, hn]
theorem calV {mN : Nat} (hg : mg x = some (.ref (He.fAd K p))) (hf : ∃ fd, FunD K x qual (defArgs st) (defBody st) (defScope st) [] [] (He.fAd K p) fd) (S : FnScope N ps (defScope st)) (hb : BindOk x qual st ps) (hn : n = ps.length) (hN : N.length = mN)
    (body : BodyV ar P w K mg base N qual st p k T fb) : CalX ar P w K mg base (k + 1) x (spF K T n (runF mN fb)) := by
  subst hN
  exact calX hg hf S hb (sp_len hn) (bodyV body)
theorem metV {mN : Nat} {C : Addr} {m : Str} (hc : Cls K C) (hm : Meth K C m (He.fAd K p)) (hf : ∃ fd, FunD K x qual (defArgs st) (defBody st) (defScope st) [] [] (He.fAd K p) fd) (S : FnScope N ps (defScope st)) (hb : BindOk x qual st ps) (hn : n = ps.length) (hN : N.length = mN)
    (body : BodyV ar P w K mg base N qual st p k T fb) : MetX ar P w K mg base (k + 1) C m (spF K T n (runF mN fb)) := by
  subst hN
  exact metX hc hm hf S hb (sp_len hn) (bodyV body)
theorem makV {mN : Nat} {C : Addr} {y : Str} (hg : mg y = some (.ref C)) (hm : Mk K C (He.fAd K p)) (hf : ∃ fd, FunD K x qual (defArgs st) (defBody st) (defScope st) [] [] (He.fAd K p) fd) (S : FnScope N ps (defScope st)) (hb : BindOk x qual st ps) (hn : n = ps.length) (hN : N.length = mN)
    (body : BodyV ar P w K mg base N qual st p k T fb) : MakX ar P w K mg base (k + 1) y C (spF K T n (runF mN fb)) := by
  subst hN
  exact makX hg hm hf S hb (sp_len hn) (bodyV body)
end
end Fv
set_option Elab.async false
set_option linter.all false
set_option maxRecDepth 100000
set_option maxHeartbeats 4000000
namespace Fv
open PySem PySem.Spec PyProof.Rows L2 Fh
/-! ### sorting -/
def ins {α : Type} (le : α → α → Bool) (x : α) : List α → List α
  | [] => [x]
  | y :: ys => if le x y = true then x :: y :: ys else y :: ins le x ys
def isort {α : Type} (le : α → α → Bool) : List α → List α
  | [] => []
  | x :: xs => ins le x (isort le xs)
section
variable {α : Type} {le : α → α → Bool}
theorem ins_perm (x : α) : ∀ ys : List α, (ins le x ys).Perm (x :: ys)
  | [] => .refl _
  | y :: ys => by
    unfold ins
    split
    · exact .refl _
    · exact ((ins_perm x ys).cons y).trans (.swap x y ys)
theorem isort_perm : ∀ xs : List α, (isort le xs).Perm xs
  | [] => .refl _
  | x :: xs => (ins_perm x _).trans ((isort_perm xs).cons x)
theorem ins_sorted (tot : ∀ a b, le a b = false → le b a = true) (tr : ∀ a b c, le a b = true → le b c = true → le a c = true) (x : α) : ∀ {ys : List α}, ys.Pairwise (fun a b => le a b = true) → (ins le x ys).Pairwise (fun a b => le a b = true)
  | [], _ => by simp [ins]
  | y :: ys, h => by
    unfold ins
    split
    · rename_i hx
      refine List.pairwise_cons.mpr ⟨fun z hz => ?_, h⟩
      rcases List.mem_cons.mp hz with e | e
      · rw [e]; exact hx
      · exact tr _ _ _ hx ((List.pairwise_cons.mp h).1 z e)
    · rename_i hx
      refine List.pairwise_cons.mpr ⟨fun z hz => ?_, ins_sorted tot tr x (List.pairwise_cons.mp h).2⟩
      rcases List.mem_cons.mp ((ins_perm x ys).mem_iff.mp hz) with e | e
      · rw [e]; exact tot _ _ (by simpa using hx)
      · exact (List.pairwise_cons.mp h).1 z e
theorem isort_sorted (tot : ∀ a b, le a b = false → le b a = true) (tr : ∀ a b c, le a b = true → le b c = true → le a c = true) : ∀ (xs : List α), (isort le xs).Pairwise (fun a b => le a b = true)
  | [] => .nil
  | x :: xs => ins_sorted tot tr x (isort_sorted tot tr xs)
theorem isort_eq (tot : ∀ a b, le a b = false → le b a = true) (tr : ∀ a b c, le a b = true → le b c = true → le a c = true) (anti : ∀ a b, le a b = true → le b a = true → a = b) {xs ys : List α} (hp : ys.Perm xs) (hs : ys.Pairwise (fun a b => le a b = true)) : ys = isort le xs :=
  List.Perm.eq_of_pairwise (le := fun a b => le a b = true) (fun a b _ _ h1 h2 => anti a b h1 h2) hs (isort_sorted tot tr xs) (hp.trans (isort_perm xs).symm)
end
def leI (a b : Int) : Bool := decide (a ≤ b)
def geI (a b : Int) : Bool := decide (b ≤ a)
def leS (a b : Str) : Bool := !ltCps b.cps.toList a.cps.toList
theorem sortI_eq {xs ys : List Int} (hp : ys.Perm xs) (hs : ys.Pairwise (· ≤ ·)) : ys = isort leI xs :=
  isort_eq (fun a b h => by simp [leI] at h ⊢; omega) (fun a b c h1 h2 => by simp [leI] at h1 h2 ⊢; omega) (fun a b h1 h2 => by simp [leI] at h1 h2; omega) hp (hs.imp fun h => by simpa [leI] using h)
theorem sortR_eq {xs ys : List Int} (hp : ys.Perm xs) (hs : ys.Pairwise (· ≥ ·)) : ys = isort geI xs :=
  isort_eq (fun a b h => by simp [geI] at h ⊢; omega) (fun a b c h1 h2 => by simp [geI] at h1 h2 ⊢; omega) (fun a b h1 h2 => by simp [geI] at h1 h2; omega) hp (hs.imp fun h => by simpa [geI] using h)
theorem lt_tri : ∀ a b : List Nat, ltCps a b = true ∨ a = b ∨ ltCps b a = true
  | [], [] => .inr (.inl rfl)
  | [], _ :: _ => .inl rfl
  | _ :: _, [] => .inr (.inr rfl)
  | x :: xs, y :: ys => by
    by_cases h1 : x < y
    · exact .inl (by simp [ltCps, h1])
    · by_cases h2 : y < x
      · exact .inr (.inr (by simp [ltCps, h2]))
      · have e : x = y := by omega
        subst e
        rcases lt_tri xs ys with h | h | h
        · exact .inl (by simp [ltCps, h])
        · exact .inr (.inl (by rw [h]))
        · exact .inr (.inr (by simp [ltCps, h]))
theorem lt_asym : ∀ {a b : List Nat}, ltCps a b = true → ltCps b a = false
  | [], [], h => by simp [ltCps] at h
  | [], _ :: _, _ => rfl
  | _ :: _, [], h => by simp [ltCps] at h
  | x :: xs, y :: ys, h => by
    by_cases h1 : x < y
    · have : ¬ y < x := by omega
      have n : ¬ y = x := by omega
      simp [ltCps, this, n]
    · simp [ltCps, h1] at h
      obtain ⟨rfl, h⟩ := h
      simp [ltCps]
      exact lt_asym h
theorem lt_trans : ∀ {a b c : List Nat}, ltCps a b = true → ltCps b c = true → ltCps a c = true
  | [], [], _, h, _ => by simp [ltCps] at h
  | [], _ :: _, [], _, h => by simp [ltCps] at h
  | [], _ :: _, _ :: _, _, _ => rfl
  | _ :: _, [], _, h, _ => by simp [ltCps] at h
  | _ :: _, _ :: _, [], _, h => by simp [ltCps] at h
  | x :: xs, y :: ys, z :: zs, h1, h2 => by
    simp only [ltCps, Bool.or_eq_true, Bool.and_eq_true, decide_eq_true_eq, beq_iff_eq] at h1 h2 ⊢
    rcases h1 with h1 | ⟨rfl, h1⟩
    · rcases h2 with h2 | ⟨rfl, h2⟩
      · exact .inl (by omega)
      · exact .inl h1
    · rcases h2 with h2 | ⟨rfl, h2⟩
      · exact .inl h2
      · exact .inr ⟨rfl, lt_trans h1 h2⟩
theorem leS_tot (a b : Str) (h : leS a b = false) : leS b a = true := by
  simp [leS] at h ⊢
  exact lt_asym h
theorem leS_anti (a b : Str) (h1 : leS a b = true) (h2 : leS b a = true) : a = b := by
  simp [leS] at h1 h2
  obtain ⟨⟨a⟩⟩ := a
  obtain ⟨⟨b⟩⟩ := b
  rcases lt_tri a b with h | h | h
  · simp at h2; rw [h] at h2; cases h2
  · rw [h]
  · simp at h1; rw [h] at h1; cases h1
theorem leS_tr (a b c : Str) (h1 : leS a b = true) (h2 : leS b c = true) : leS a c = true := by
  simp [leS] at h1 h2 ⊢
  cases h : ltCps c.cps.toList a.cps.toList with
  | false => rfl
  | true =>
    rcases lt_tri a.cps.toList b.cps.toList with z | z | z
    · rw [lt_trans h z] at h2; cases h2
    · rw [z] at h; rw [h] at h2; cases h2
    · rw [z] at h1; cases h1
theorem rising_all : ∀ {r : List Str} {p : Str}, risingS p r = true → (∀ x ∈ r, leS p x = true) ∧ r.Pairwise (fun a b => leS a b = true)
  | [], _, _ => ⟨fun _ h => (by cases h), .nil⟩
  | x :: r, p, h => by
    unfold risingS at h
    rw [Bool.and_eq_true] at h
    obtain ⟨h1, h2⟩ := rising_all h.2
    have px : leS p x = true := h.1
    refine ⟨fun y hy => ?_, List.pairwise_cons.mpr ⟨h1, h2⟩⟩
    rcases List.mem_cons.mp hy with e | e
    · rw [e]; exact px
    · exact leS_tr _ _ _ px (h1 y e)
theorem sortS_eq {xs ys : List Str} (hp : ys.Perm xs) (hs : sortedS ys = true) : ys = isort leS xs := by
  refine isort_eq leS_tot leS_tr leS_anti hp ?_
  cases ys with
  | nil => exact .nil
  | cons y r =>
    obtain ⟨h1, h2⟩ := rising_all (show risingS y r = true from hs)
    exact List.pairwise_cons.mpr ⟨h1, h2⟩
end Fv
set_option Elab.async false
set_option linter.all false
set_option maxRecDepth 100000
set_option maxHeartbeats 4000000
namespace Fv
open PySem PySem.Spec PyProof.Rows L2 Fh
section
variable {X : Cx} {T : Tbs} {W' : WX} {e a b c o tg iter elt : Expr} {es : List Expr} {pos p : Pos}
/-! ### short words -/
theorem ev_v (i : Nat) {x : Str} (hN : X.N[i]? = some x := by rfl) (hv : Vis X.env.scope x := by first | exact Or.inl rfl | exact Or.inr (Or.inl rfl) | exact Or.inr (Or.inr rfl)) (hd : (x == ("__debug__" : Str)) = false := by decide) (hcd : (x == ("__classdict__" : Str)) = false := by decide) : PEv X T W' (.Name x pos) (fVar i) := ev_var hN hv hd hcd
theorem pg_n (i : Nat) {x : Str} (hN : X.N.Nodup) (hi : X.N[i]? = some x := by rfl) (hx : Loc X.env.scope x := by first | exact Or.inl rfl | exact Or.inr rfl) (hf : X.fn x = true ∨ X.env.scope.names.lookup x = some .local := by first | exact .inl rfl | exact .inr rfl) : PG X (.Name x pos) (gName i) := pg_name hN hi hx hf
theorem gv_n (i : Nat) {x : Str} (hN : X.N.Nodup) (hi : X.N[i]? = some x := by rfl) (hx : Loc X.env.scope x := by first | exact Or.inl rfl | exact Or.inr rfl) (hf : X.fn x = true ∨ X.env.scope.names.lookup x = some .local := by first | exact .inl rfl | exact .inr rfl) : PGv X T (.Name x pos) (.nm i) := gv_nm (pg_name hN hi hx hf)
theorem sv_s (i : Nat) {x : Str} {pos' : Pos} {f : Sl → M W} (hN : X.N.Nodup) (he : PEv X T W' e f) (hi : X.N[i]? = some x := by rfl) (hx : Loc X.env.scope x := by first | exact Or.inl rfl | exact Or.inr rfl) (hs : swapsWith e (some (.Name x pos')) pos.line X.env = pure false := by rfl) (hf : X.fn x = true ∨ X.env.scope.names.lookup x = some .local := by first | exact .inl rfl | exact .inr rfl) :
    PSv X T W' (.Assign [.Name x pos'] e pos) (sSet i f) := sv_set hN hi hx he hs hf
theorem sv_ag (i : Nat) {x : Str} {op : Operator} {g : O2} {pos' : Pos} {f : Sl → M W} (hN : X.N.Nodup) (ho : IpV X T op g) (he : PEv X T W' e f) (hi : X.N[i]? = some x := by rfl) (hx : Loc X.env.scope x := by first | exact Or.inl rfl | exact Or.inr rfl) (hf : X.fn x = true ∨ X.env.scope.names.lookup x = some .local := by first | exact .inl rfl | exact .inr rfl) :
    PSv X T W' (.AugAssign (.Name x pos') op e pos) (sAug i g f) := sv_aug hN hi hx ho he hf
/-! ### nums of a list -/
def nums : List W → Option (List Int)
  | [] => some []
  | .int x :: r => (nums r).map fun ys => x :: ys
  | _ :: _ => none
theorem nums_rel {K : PySem.W.Frag} {m : List Addr} {H : Hp} : ∀ {ws : List W} {vs : List V} {ys : List Int}, RelWs K m H ws vs → nums ws = some ys → vs = ys.map V.int
  | _, _, _, .nil, e => by cases e; rfl
  | _, _, ys, .cons (x := x) (xs := xs) r t, e => by
    cases r with
    | int z =>
      unfold nums at e
      cases e1 : nums xs with
      | none => rw [e1] at e; cases e
      | some zs =>
        rw [e1] at e
        cases e
        rw [nums_rel t e1]
        rfl
    | _ => cases e
theorem nums_w {K : PySem.W.Frag} {m : List Addr} {H : Hp} : ∀ (ys : List Int), RelWs K m H (ys.map W.int) (ys.map V.int)
  | [] => .nil
  | y :: ys => .cons (.int y) (nums_w ys)
/-- sorted(a tuple of texts) -/
def sortedTW : OL := fun ws h => match ws with
  | [.tup xs] => (txts xs).bind fun ys => if ys.length < 64 then some (.ref h.length, h ++ [.lst ((isort leS ys).map W.str)]) else none
  | _ => none
theorem v_sortedT : CallV X T (.builtin "sorted") sortedTW := by
  intro m h H xs ws Q R1 rs q
  obtain ⟨w, h', e, q⟩ := q
  unfold sortedTW at e
  split at e
  · rename_i us
    obtain ⟨v, rfl, r⟩ := r_one rs
    obtain ⟨a, vs, rfl, sa, ra⟩ := r_tup r
    cases e1 : txts us with
    | none => rw [e1] at e; cases e
    | some ys =>
      rw [e1] at e
      simp only [Option.bind_some] at e
      split at e
      · rename_i hz
        cases e
        cases txts_rel ra e1
        refine ⟨_, cr_sortedTS, a, ys, rfl, sa, hz, fun zs p hp hs hn => ?_⟩
        rw [sortS_eq hp hs]
        exact newL R1 (txts_w _) hn q
      · cases e
  · cases e
/-- min, max of a list of nums -/
def minL : List Int → Option Int
  | [] => none
  | x :: xs => some (xs.foldl (fun a b => if b < a then b else a) x)
def maxL : List Int → Option Int
  | [] => none
  | x :: xs => some (xs.foldl (fun a b => if a < b then b else a) x)
theorem minL_ok : ∀ {xs : List Int} {x m : Int}, m ∈ x :: xs → (∀ y ∈ x :: xs, m ≤ y) → xs.foldl (fun a b => if b < a then b else a) x = m
  | [], x, m, h, _ => by
    have : m = x := by simpa using h
    exact this.symm
  | y :: ys, x, m, h, hl => by
    show ys.foldl _ (if y < x then y else x) = m
    split
    · rename_i hy
      refine minL_ok ?_ fun z hz => hl z (List.mem_cons_of_mem _ hz)
      rcases List.mem_cons.mp h with e | e
      · have := hl y (by simp)
        omega
      · exact e
    · rename_i hy
      refine minL_ok ?_ fun z hz => ?_
      · rcases List.mem_cons.mp h with e | e
        · rw [e]; simp
        · rcases List.mem_cons.mp e with e | e
          · have := hl x (by simp)
            have : m = x := by omega
            rw [this]; simp
          · exact List.mem_cons_of_mem _ e
      · rcases List.mem_cons.mp hz with e | e
        · rw [e]; exact hl x (by simp)
        · exact hl z (by simp [e])
def minW : OL := fun ws h => match ws with
  | [.ref i] => (seqW h (.ref i)).bind fun xs => (nums xs).bind fun ys => (minL ys).map fun k => (.int k, h)
  | _ => none
theorem v_min (hc : X.calm = true) : CallV X T (.builtin "min") minW := by
  intro m h H xs ws Q R1 rs q
  obtain ⟨w, h', e, q⟩ := q
  unfold minW at e
  split at e
  · rename_i i
    obtain ⟨v, rfl, r⟩ := r_one rs
    cases e1 : seqW h (.ref i) with
    | none => rw [e1] at e; cases e
    | some us =>
      rw [e1] at e
      cases e2 : nums us with
      | none => simp only [Option.bind_some, e2] at e; cases e
      | some ys =>
        simp only [Option.bind_some, e2] at e
        obtain ⟨a, vs, rfl, sa, ra⟩ := seqR_rel R1 r e1
        cases nums_rel ra e2
        cases ys with
        | nil => cases e
        | cons y ys =>
          cases e
          refine ⟨_, cr_min hc, a, _, rfl, sa, by simp, fun k hk hl => ?_⟩
          rw [← minL_ok hk hl]
          exact q _ _ _ .refl R1 (.int _)
  · cases e
def sumW : OL := fun ws h => match ws with
  | [.ref i] => (seqW h (.ref i)).bind fun xs => (nums xs).map fun ys => (.int ys.sum, h)
  | _ => none
/-- list.index -/
def firstIx (d : PyData) : List PyData → Nat → Option Nat
  | [], _ => none
  | z :: zs, n => if PyData.eqv z d = true then some n else firstIx d zs (n + 1)
theorem firstIx_ok {d : PyData} : ∀ {ds : List PyData} {n k : Nat}, firstIx d ds n = some k → ∃ j z, k = n + j ∧ ds[j]? = some z ∧ PyData.eqv z d = true ∧ ∀ (m : Nat) (z' : PyData), m < j → ds[m]? = some z' → PyData.eqv z' d = false
  | [], _, _, h => by cases h
  | z :: zs, n, k, h => by
    unfold firstIx at h
    split at h
    · rename_i hz
      cases h
      exact ⟨0, z, by omega, rfl, hz, fun m z' hm => absurd hm (Nat.not_lt_zero _)⟩
    · rename_i hz
      obtain ⟨j, z', rfl, h1, h2, h3⟩ := firstIx_ok h
      refine ⟨j + 1, z', by omega, by simpa using h1, h2, fun m u hm hu => ?_⟩
      cases m with
      | zero =>
        simp at hu
        subst hu
        simpa using hz
      | succ m => exact h3 m u (by omega) (by simpa using hu)
def indexW : OM := fun o ws h => match o, ws with
  | .ref i, [w] => match toD 9 h (.ref i), toD 9 h w with
    | some (.list ds), some d => if SeqAt.shaped (.list ds) = true ∧ SeqAt.shaped d = true then (firstIx d ds 0).map fun k => (.int (k : Nat), h) else none
    | _, _ => none
  | _, _ => none
theorem v_index {k : Nat} (hr : Room (k + 1) X.A) : MtV X T "list.index" indexW := by
  intro m h H x xs w ws Q R1 rx rs q
  obtain ⟨u, h', e, q⟩ := q
  unfold indexW at e
  split at e
  · rename_i i w0
    obtain ⟨v, rfl, rv⟩ := r_one rs
    split at e
    · split at e
      · rename_i ds d e1 e2 hz
        cases ek : firstIx d ds 0 with
        | none => rw [ek] at e; cases e
        | some k =>
          rw [ek] at e
          cases e
          obtain ⟨j, z, ej, h1, h2, h3⟩ := firstIx_ok ek
          have hx := toD_rel R1 9 rx e1
          cases rx with
          | ref ea =>
            refine ⟨_, mt_indexD (units65 hr), _, v, d, ds, j, z, rfl, rfl, hx, toD_rel R1 9 rv e2, hz.1, hz.2, h1, h2, h3, ?_⟩
            have : k = j := by omega
            subst this
            exact q _ _ _ .refl R1 (.int _)
      · cases e
    · cases e
  · cases e
/-! ### {k: v, ..} -/
inductive PPv (X : Cx) (T : Tbs) (W' : WX) : List (Option Expr) → List Expr → List ((Sl → M W) × (Sl → M W)) → Prop
  | nil : PPv X T W' [] [] []
  | cons {k v : Expr} {ks : List (Option Expr)} {vs : List Expr} {fk fv : Sl → M W} {fs : List ((Sl → M W) × (Sl → M W))} : PEv X T W' k fk → PEv X T W' v fv → PPv X T W' ks vs fs → PPv X T W' (some k :: ks) (v :: vs) ((fk, fv) :: fs)
def dispA (sl : Sl) : List ((Sl → M W) × (Sl → M W)) → List (Key × W) → M W
  | [], acc => fun h => if acc.length ≤ 15 then .ok (.ref h.length) (h ++ [.dct (acc.foldl (fun a kv => putW a kv.1 kv.2) [])]) else .bad
  | (fk, fv) :: r, acc => bnd (fk sl) fun k => bnd (fv sl) fun v => bnd (opt (keyW k)) fun kk => dispA sl r (acc ++ [(kk, v)])
def fDisp (fs : List ((Sl → M W) × (Sl → M W))) : Sl → M W := fun sl => dispA sl fs []
def trs (X : Cx) (T : Tbs) (W' : WX) (fs : List ((Sl → M W) × (Sl → M W))) : List (TE × TE) := fs.map fun f => (lE X T W' f.1, lE X T W' f.2)
theorem PPv.pps {X : Cx} {T : Tbs} {W' : WX} {pos : Pos} : ∀ {ks : List (Option Expr)} {vs : List Expr} {fs : List ((Sl → M W) × (Sl → M W))}, PPv X T W' ks vs fs → PPs X pos ks vs (trs X T W' fs)
  | _, _, _, .nil => pps_nil
  | _, _, _, .cons h1 h2 h3 => pps_cons h1.pe h2.pe h3.pps
theorem kv_merge {K : PySem.W.Frag} {m : List Addr} {H : Hp} : ∀ {ks : List (Key × W)} {vs : List (Key × V)} {k0 : List (Key × W)} {v0 : List (Key × V)}, RelKV K m H ks vs → RelKV K m H k0 v0 → RelKV K m H (ks.foldl (fun (a : List (Key × W)) (kv : Key × W) => putW a kv.1 kv.2) k0) (mergeK v0 vs)
  | _, _, _, _, .nil, q => q
  | _, _, k0, v0, .cons (k := k) (w := w) (v := v) r t, q => by
    show RelKV K m H (List.foldl (fun (a : List (Key × W)) (kv : Key × W) => putW a kv.1 kv.2) (putW k0 k w) _) (mergeK (putK v0 k v) _)
    exact kv_merge t (put_rel r q)
theorem useB {K : PySem.W.Frag} {T : Tbs} {α β γ δ : Type} {RV : List Addr → Hp → α → β → Prop} {RV' : List Addr → Hp → γ → δ → Prop} {m m0 : List Addr} {H H0 : Hp} {fa : Sl → M α} {k : α → M γ} {W' : WX} {sl : Sl} {σ : L2.St} {h : LH} {Q : δ → Hp → Prop} {Q1 : β → Hp → Prop}
    (R1 : Rel K T m h H) (S1 : RelS K m H sl σ) (l : Le K m0 H0 m H) (P : Post K T RV' m0 H0 (bnd (fa sl) k h) Q (WE W' σ))
    (f : ∀ m' H' v w h', Le K m H m' H' → Rel K T m' h' H' → RV m' H' w v → Post K T RV' m0 H0 (k w h') Q (WE W' σ) → Q1 v H') : liftG K T RV W' fa σ H Q1 := by
  refine ⟨m, h, sl, R1, S1, ?_⟩
  unfold bnd at P
  cases e : fa sl h with
  | ok w h' =>
    rw [e] at P
    exact fun m' H' v l' r q => f m' H' v w h' l' r q P
  | ex c p h' =>
    rw [e] at P
    exact fun m' H' l' r => P m' H' (l.trans l') r
  | bad =>
    rw [e] at P
    exact P.elim
theorem disp_read {D : Addr} {Q : VK} {m0 : List Addr} {H0 : Hp} (h0 : H0 D = none) {sl : Sl} {σ : L2.St} : ∀ {fs : List ((Sl → M W) × (Sl → M W))} {m : List Addr} {h : LH} {H : Hp} {acc : List (Key × W)} {accV : List (Key × V)} {R : List (V × V) → Hp → Prop},
    Rel X.K T m h H → RelS X.K m H sl σ → Le X.K m0 H0 m H → H D = some (.dK []) → D ∉ m → RelKV X.K m H acc accV → Post X.K T (RelW X.K) m0 H0 (dispA sl fs acc h) Q (WE W' σ) →
    (∀ (kvs : List (Key × V)) H2, H2 D = some (.dK []) → (accV ++ kvs).length ≤ 15 → Q (.ref D) (upd H2 D (.dK (mergeK [] (accV ++ kvs)))) → R (kvs.map fun kv => (kV kv.1, kv.2)) H2) → tPairs (trs X T W' fs) σ H R := by
  intro fs
  induction fs with
  | nil =>
    intro m h H acc accV R R1 S1 l hD nD ra P q
    unfold dispA at P
    split at P
    · rename_i hz
      refine q [] H hD (by rw [List.append_nil, ← kv_length ra]; exact hz) ?_
      have lo : Lt X.K m H m (upd H D (.dK (mergeK [] (accV ++ [])))) := ⟨⟨[], (List.append_nil _).symm⟩, fun a vs s => sqT_of (fun b z xs ebb q => upd_ne (fun y => by
        subst y
        rw [hD] at ebb
        cases ebb
        rcases q with q | ⟨o, q⟩ <;> cases q)) s⟩
      have R2 := R1.over nD hD (fun _ z => by cases z) (fun _ _ z => by cases z) (fun _ z => by cases z) (fun _ z => by cases z) (.dK (mergeK [] (accV ++ [])))
      have l2 := l.over h0 hD (fun _ z => by cases z) (fun _ _ z => by cases z) (.dK (mergeK [] (accV ++ [])))
      refine P (m ++ [D]) _ (.ref D) (l2.adopt h0) (R2.adopt nD ⟨_, upd_same, ?_⟩) (.ref (by rw [← R1.len]; simp))
      refine RelKV.mono0 ⟨⟨[D], rfl⟩, fun _ _ s => s⟩ (RelKV.mono0 lo ?_)
      rw [List.append_nil]
      exact kv_merge ra .nil
    · exact P.elim
  | cons f fs ih =>
    intro m h H acc accV R R1 S1 l hD nD ra P q
    obtain ⟨fk, fv⟩ := f
    refine useB R1 S1 l P fun m1 H1 kv wk h1 l1 R1 rk P1 => ?_
    refine useB R1 (S1.mono l1) (l.trans l1) P1 fun m2 H2 vv wv h2 l2 R2 rv P2 => ?_
    cases ek : keyW wk with
    | none => rw [ek] at P2; exact P2.elim
    | some k =>
      rw [ek] at P2
      have P3 : Post X.K T (RelW X.K) m0 H0 (dispA sl fs (acc ++ [(k, wv)]) h2) Q (WE W' σ) := P2
      have ll := l1.trans l2
      have hD2 := ll.oth D _ hD (fun _ z => by cases z) nD
      refine ih R2 ((S1.mono l1).mono l2) ((l.trans l1).trans l2) hD2.1 hD2.2 (kv_append (ra.mono ll) (.cons rv .nil)) P3 fun kvs H3 h3 hz q3 => ?_
      have := q ((k, vv) :: kvs) H3 h3 (by simpa [List.append_assoc] using hz) (by simpa [List.append_assoc] using q3)
      rw [key_rel (rk.mono l2) ek]
      exact this
theorem ev_disp {ks : List (Option Expr)} {vs : List Expr} {fs : List ((Sl → M W) × (Sl → M W))} (h : PPv X T W' ks vs fs) (hall : ks.all (·.isSome) = true := by rfl) (hl : ks.length = vs.length := by rfl) (h0 : ks ≠ [] := by exact fun z => nomatch z) (h15 : ks.length ≤ 15 := by decide) : PEv X T W' (.Dict ks vs pos) (fDisp fs) := by
  refine ⟨pe_imp (pe_disp h.pps hall hl h0 h15) fun σ H Q h => ?_⟩
  obtain ⟨m, h, sl, R1, S1, P⟩ := h
  intro D hD
  have l := Le.aside R1 hD (.dK [])
  have nD : D ∉ m := fun z => by
    obtain ⟨u, hu, _⟩ := R1.mem z
    rw [hD] at hu
    cases hu
  refine disp_read hD (R1.aside hD _) (S1.mono l) l upd_same nD .nil P fun kvs H2 h2 hz q => ⟨h2, kvs, rfl, hz, q⟩
/-- {} -/
def fDct0 : Sl → M W := fun _ => opt2 fun h => some (.ref h.length, h ++ [.dct []])
theorem ev_dct0 : PEv X T W' (.Dict [] [] pos) fDct0 := by
  refine ⟨pe_imp pe_dnewK fun σ H Q h => ?_⟩
  obtain ⟨m, h, sl, R1, S1, P⟩ := h
  obtain ⟨w, h', e, q⟩ := P.opt2
  cases e
  intro d hd
  exact q (m ++ [d]) _ _ (Le.new R1 hd _) (R1.new hd ⟨[], upd_same, .nil⟩) (.ref (by rw [← R1.len]; simp))
end
end Fv
set_option Elab.async false
set_option linter.all false
set_option maxRecDepth 100000
set_option maxHeartbeats 4000000
namespace Fv
open PySem PySem.Spec PyProof.Rows L2 Fh PySem.Calls
section
variable {X : Cx} {T : Tbs} {W' : WX} {e a b c o tg iter elt : Expr} {es : List Expr} {pos p : Pos}
/-- sorted(d, reverse=True), the keys ints -/
def rSortedDR : List V → List V → Hp → VK → Prop := fun vs zs H Q => ∃ (a : Addr) (kvs : List (Key × V)) (ks : List Int), vs = [V.ref a] ∧ zs = [.bl true] ∧ Rd H a (.dK kvs) ∧ kvs.map (·.1) = ks.map Sum.inl ∧ ks.length < 1000 ∧
  ∀ (ns' : List Int) (p : Addr), ns'.Perm ks → ns'.Pairwise (· ≥ ·) → H p = none → Q (.ref p) (upd H p (.lst (ns'.map V.int)))
theorem cr_sortedDR (hcalm : X.calm = true) : CallRK X (.builtin "sorted") [Str.ofString "reverse"] rSortedDR := by
  intro pins s σ H xs zs us ws Q I r rz q
  obtain ⟨a, kvs, ks, rfl, rfl, hd, hks, h64, q⟩ := q
  obtain ⟨u, eu, rx⟩ := vals1 r
  subst eu
  cases rx
  obtain ⟨w1, rfl, e1⟩ := vals1 rz
  obtain rfl : w1 = Value.bool true := e1
  obtain ⟨z, lo, vs, rel, dd⟩ := dk_rd I.hok hd
  obtain ⟨ep, hat⟩ := dd.dictAt
  have hkeys : vs.map (·.1) = ks.map Sum.inl := rel.keys.symm.trans hks
  have hl : vs.length = ks.length := by
    have e := congrArg List.length hkeys
    rw [List.length_map, List.length_map] at e
    exact e
  have h16 : vs.length ≤ sizeLine := by rw [hl, sizeLine_eq]; omega
  refine call_function_entry_kw PyProof.Rows.kind_sorted PyProof.Rows.plain_sorted PyProof.Rows.entry_sorted (PyProof.Rows.args_sorted_rev _ _) ?_
  unfold Builtin.«sorted»
  refine wpAny_bind (m := checkCount "sorted" 1 1 _) (wpAny_pure ?_)
  refine wpAny_bind (PySem.W.kdu_collect (A := X.A.in1) (PySem.W.kdl_dict (knd := mixKind X.prog X.w) (kvs := vs) (ep := ep) lo) (I.ok.hd hcalm) hat h16 fun h' tk acc hk hacc => ?_)
  have hal : acc.toList.length = ks.length := by rw [Array.length_toList, hacc.1, hl]
  have hS : IntsAre acc.toList ks := ints_each hal fun j v e => by
    obtain ⟨k, x, e1, e2⟩ := hacc.2 j v (by rw [← Array.getElem?_toList]; exact e)
    have e3 : (vs.map (·.1))[j]? = some k := by rw [List.getElem?_map, e1]; rfl
    rw [hkeys, List.getElem?_map] at e3
    cases e4 : ks[j]? with
    | none => rw [e4] at e3; cases e3
    | some y =>
      rw [e4] at e3
      have e5 : Sum.inl y = k := Option.some.inj e3
      subst e5
      rcases keyIs_shape (show keyIs (Sum.inl y) v = true from e2) with ⟨i, t, ek, ev⟩ | ⟨z, t, ek, ev⟩
      · cases ek
        exact ⟨y, t, rfl, ev⟩
      · cases ek
  have hz : acc.toList.length ≤ sizeLine := by rw [hal, sizeLine_eq]; omega
  have I1 : Inv X pins σ H { s with heap := h', toks := tk } := I.kept hk
  refine wpAny_bind (wpAny_newList ?_ hz)
  have hoL : (h'.push (seqObj "list" acc.toList.toArray 0)).get? h'.objs.size = some (seqObj "list" acc.toList.toArray 0) := Heap.get?_push_size _ rfl
  show wpAny _ _ _ _ _ { s with heap := h'.push (seqObj "list" acc.toList.toArray 0), toks := tk }
  refine wpAny_bind (wpAny_holding (wpAny_call_entry_kw PyProof.Rows.slot_list_sort ⟨_, hoL, rfl⟩ PyProof.Rows.entry_list_sort
    (SrtR.list_sort_ordR (b := true) (s := { s with heap := h'.push (seqObj "list" acc.toList.toArray 0), toks := tk }) SrtO.swo_int hoL hz (fun h2 => SrtO.ints_sortable hS h2) fun out h1 h2 => ⟨_, rfl, ?_⟩) (PyProof.Rows.args_list_sort_rev _ _)))
  obtain ⟨ns', k1, k2, k3⟩ := SrtR.ints_outR (b := true) hS h1 h2
  obtain ⟨e', he'⟩ := PyProof.Rows.sortedHeap_at (vs := acc.toList) (out := out.toArray.reverse) hoL
  have hlen : (ns'.map V.int).length ≤ sizeLine := by
    rw [List.length_map, k2.length_eq, sizeLine_eq]
    omega
  refine wpAny_pure ⟨_, rfl, .ref h'.objs.size, upd H h'.objs.size (.lst (ns'.map V.int)), I1.laid (t' := tk) (fun b u e => ?_) (Nat.le_refl _)
    (show ObjOk X.prog X.w _ _ _ (.lst (ns'.map V.int)) from ⟨hlen, (out.toArray.reverse).toList, e', vals_of_ints k1, by rw [Array.toArray_toList]; exact he'⟩), rfl, q ns' _ k2 k3 (I1.hok.fresh (Nat.le_refl _))⟩
  have hb : b < h'.objs.size := Heap.lt_size e
  show (PyProof.Rows.sortedHeap _ _ _ _).get? b = some u
  rw [PyProof.Rows.sortedHeap_old (Nat.ne_of_lt hb) (by rw [size_push']; exact Nat.lt_succ_of_lt hb)]
  exact Heap.get?_push_of_some _ e
def keyI : Key → Option Int
  | .inl i => some i
  | .inr _ => none
def sortedDRW (w : W) : LH → Option (W × LH) := fun h => match w with
  | .ref i => match h[i]? with
    | some (.dct kvs) => (kvs.mapM fun kv => keyI kv.1).bind fun ks => if ks.length < 1000 then some (.ref h.length, h ++ [.lst ((isort geI ks).map W.int)]) else none
    | _ => none
  | _ => none
def fSortedDR (fa : Sl → M W) : Sl → M W := fun sl => bnd (fa sl) fun w => opt2 (sortedDRW w)
theorem keys_rel {K : PySem.W.Frag} {m : List Addr} {H : Hp} : ∀ {kvs : List (Key × W)} {vs : List (Key × V)} {ks : List Int}, RelKV K m H kvs vs → (kvs.mapM fun kv => keyI kv.1) = some ks → vs.map (·.1) = ks.map Sum.inl
  | _, _, _, .nil, e => by simp at e; subst e; rfl
  | _, _, ks, .cons (k := k) (ks := kvs) r t, e => by
    rw [List.mapM_cons] at e
    cases k with
    | inr _ => cases e
    | inl i =>
      cases e2 : kvs.mapM fun kv => keyI kv.1 with
      | none => rw [e2] at e; cases e
      | some ks2 =>
        rw [e2] at e
        cases e
        simp [keys_rel t e2]
theorem ev_sortedDR {kpos : Pos} {j : Nat} {kp : Pos} {fa : Sl → M W} (hm : X.mg "sorted" = none) (ha : PEv X T W' a fa) (hg : Gl X "sorted" := by rfl) (hc : X.calm = true := by rfl)
    (hs : starEach [a] X.env = (false, eval a X.env) :: starEach [] X.env := by rfl)
    (he : backTo pos (starEach [a] X.env) = (false, eval a X.env) :: backTo pos (starEach [] X.env) := by rfl) (hpl : (backTo pos (starEach [a] X.env)).any (·.1) = false := by rfl)
    (hall : (backToKw pos (keywordEach [⟨some "reverse", .Constant (.bool true) j kpos, kp⟩] X.env)).all (·.1.isSome) = true := by rfl) (hnone : (backToKw pos (keywordEach [⟨some "reverse", .Constant (.bool true) j kpos, kp⟩] X.env)).any (·.1.isNone) = false := by rfl) (hks : (backToKw pos (keywordEach [⟨some "reverse", .Constant (.bool true) j kpos, kp⟩] X.env)).filterMap (·.1) = [Str.ofString "reverse"] := by rfl) :
    PEv X T W' (.Call (.Name "sorted" p) [a] [⟨some "reverse", .Constant (.bool true) j kpos, kp⟩] pos) (fSortedDR fa) := by
  refine ⟨pe_imp (pe_callBK (cr_sortedDR hc) hg hm PyProof.Rows.boot_sorted (pa_cons ha.pe pa_nil hs) (pk_cons pe_bl pk_nil) (by decide) (by decide) he hpl hall hnone hks) fun σ H Q h => ?_⟩
  obtain ⟨m, h, sl, R1, S1, P⟩ := h
  refine use R1 S1 P fun m1 H1 x wx h1 l1 R1 rx P1 => ?_
  obtain ⟨w, h', e, q⟩ := P1.opt2
  unfold sortedDRW at e
  split at e
  · split at e
    · rename_i i _ kvs e0
      obtain ⟨a, vs, rfl, ea, hv, rs⟩ := dct_rel R1 rx e0
      cases e2 : kvs.mapM fun kv => keyI kv.1 with
      | none => rw [e2] at e; cases e
      | some ks =>
        rw [e2] at e
        simp only [Option.bind_some] at e
        split at e
        · rename_i hz
          cases e
          refine ⟨a, vs, ks, rfl, rfl, .inl hv, keys_rel rs e2, hz, fun ns' p hp ho hn => ?_⟩
          rw [sortR_eq hp ho]
          exact newL R1 (nums_w _) hn q
        · cases e
    · cases e
  · cases e
end
end Fv
set_option Elab.async false
set_option linter.all false
set_option maxRecDepth 100000
set_option maxHeartbeats 4000000
namespace Fv
open PySem PySem.Spec PyProof.Rows L2 Fh
section
variable {X : Cx} {T : Tbs} {W' : WX} {pos : Pos}
theorem fld_nil {K : PySem.W.Frag} {f : Str} : FldOk K [] f := fun _ h => by cases h
theorem fld_cons {K : PySem.W.Frag} {f c : Str} {cs : List Str} (h1 : Cls K (He.ga K c)) (h2 : NoAttr K (He.ga K c) f) (r : FldOk K cs f) : FldOk K (c :: cs) f := fun x hx => by
  rcases List.mem_cons.mp hx with e | e
  · rw [e]; exact ⟨h1, h2⟩
  · exact r x e
theorem ev_gstr {x z : Str} (h : ∃ t, X.mg x = some (.str z t)) (hg : Gl X x := by rfl) (hd : (x == ("__debug__" : Str)) = false := by decide) : PEv X T W' (.Name x pos) (fC (.str z)) := by
  obtain ⟨t, h⟩ := h
  exact ev_glob (v := .str z) h ⟨t, rfl⟩ (fun _ _ => .str z) hg hd
theorem ev_gtup {x : Str} {zs : List Str} (h : X.mg x = some (.ref (He.ga X.K x))) (ht : TupC X.K x zs) (hg : Gl X x := by rfl) (hd : (x == ("__debug__" : Str)) = false := by decide) : PEv X T W' (.Name x pos) (fC (.tup (zs.map W.str))) :=
  ev_glob (v := .ref (He.ga X.K x)) h rfl (fun m H => .tup (ht H) (txts_w zs)) hg hd
end
/-- which errors a clause takes -/
def ExmAll (K : PySem.W.Frag) (cv : Value) (L : List (Str × Bool)) : Prop := ∀ p ∈ L, PySem.W.exmOne K (.ref (He.ga K p.1)) cv = some p.2
theorem exm_nil {K : PySem.W.Frag} {cv : Value} : ExmAll K cv [] := fun _ h => by cases h
theorem exm_cons {K : PySem.W.Frag} {cv : Value} {x : Str} {b : Bool} {L : List (Str × Bool)} (h : PySem.W.exmOne K (.ref (He.ga K x)) cv = some b) (r : ExmAll K cv L) : ExmAll K cv ((x, b) :: L) := fun p hp => by
  rcases List.mem_cons.mp hp with e | e
  · rw [e]; exact h
  · exact r p e
theorem exm_of {K : PySem.W.Frag} {cv : Value} {L : List (Str × Bool)} (h : ExmAll K cv L) : ∀ cn b, L.lookup cn = some b → PySem.W.exmOne K (.ref (He.ga K cn)) cv = some b := fun cn b e => h (cn, b) (PySem.mem_of_lookup e)
end Fv
set_option Elab.async false
set_option linter.all false
set_option maxRecDepth 100000
set_option maxHeartbeats 4000000
namespace Fv
open PySem PySem.Spec PyProof.Rows L2 Fh LamX
/-! ### a lambda handed to a def that calls it within a try -/
section
variable {K : PySem.W.Frag} {T : Tbs} {m : List Addr} {h : LH} {H H1 : Hp} {P : Addr} {q : Str}
theorem Le.but (t : TabS H P q) (b : ButT P H H1) : Le K m H m H1 := by
  obtain ⟨ps, e, _⟩ := t
  have nb : ∀ c o, H c = some o → (∀ ps, o ≠ .tbl ps) → H1 c = some o := fun c o ec no => b c o (fun z => by
    rw [z, e] at ec
    cases ec
    exact no ps rfl) ec
  refine ⟨⟨[], (List.append_nil _).symm⟩, fun a vs s => ?_, fun b o eb no n => ⟨nb b o eb no, n⟩, fun b o u eb => nb b _ eb (fun _ z => by cases z), fun b φ eb => nb b _ eb (fun _ z => by cases z)⟩
  rcases s with (s | ⟨o, s⟩) | s
  · exact .inl (.inl (nb _ _ s fun _ z => by cases z))
  · exact .inl (.inr ⟨o, nb _ _ s fun _ z => by cases z⟩)
  · exact .inr s
theorem Rel.but (r : Rel K T m h H) (hl : (P, q) ∈ T.tl) (hg : P ∉ T.tg) (hu : ∀ p ∈ T.tl, p.1 = P → p.2 = q) (b : ButT P H H1) (t1 : TabS H1 P q) : Rel K T m h H1 := by
  have t := r.tl _ hl
  have l : Le K m H m H1 := Le.but t b
  obtain ⟨ps, e, _⟩ := t
  refine ⟨r.len, r.nd, fun i a o e1 e3 => ?_, fun Q hQ => ?_, fun p hp => ?_⟩
  · have k := r.obj i a o e1 e3
    obtain ⟨u, hu, nt, _⟩ := k.some
    refine k.mono l ?_
    rw [b a u (fun z => by rw [z, e] at hu; exact nt ps (Option.some.inj hu).symm) hu, hu]
  · obtain ⟨qs, eq, kq⟩ := r.tg Q hQ
    exact ⟨qs, b Q _ (fun z => hg (by rw [← z]; exact hQ)) eq, kq⟩
  · by_cases z : p.1 = P
    · rw [z, hu p hp z]
      exact t1
    · obtain ⟨qs, eq, kq, hc⟩ := r.tl p hp
      refine ⟨qs, b _ _ z eq, kq, fun pos cv y => ?_⟩
      obtain ⟨c, e1, e3⟩ := hc pos cv y
      exact ⟨c, e1, b c _ (fun y => by rw [y, e] at e3; unfold CodeO at e3; cases e3) e3⟩
end
/-- e's value, or the clause's text -/
def fTold (sub : Str → Option Bool) (txt : Str) (fe : Sl → M W) : Sl → M W := fun sl h => match fe sl h with
  | .ok w h' => .ok w h'
  | .ex c p h' => (match sub c with
    | some true => .ok (.str txt) h'
    | some false => .ex c p h'
    | none => .bad)
  | .bad => .bad
/-- the body of such a def, told of any way to call what it is handed -/
def ToldB (P : Program) (w : World) (K : PySem.W.Frag) (mg : Str → Option Value) (base : Heap) (N : List Str) (gn : Str) (st : Stmt) (p : He.Defn) (i : Nat) (cv : Value) (txt : Str) : Prop :=
  ∀ (cd : Value) (A : Around) (outer : List Env) (s : Shared) (H : Hp) (E : XK) (act : WX → TE),
    (∀ (pn : List (Addr × Obj)) (xe : Value → Shared → Prop) (W : WX) (p1 p2 : Pos), L2.Takes ((cxOf (L2.CX P w) P w K mg base N gn (defScope st) (He.fAd K p) cd A outer s H E).tr pn xe) W →
      PE ((cxOf (L2.CX P w) P w K mg base N gn (defScope st) (He.fAd K p) cd A outer s H E).tr pn xe) (.Call (.Name "what" p1) [] [] p2) (act W)) →
    PSs (cxOf (L2.CX P w) P w K mg base N gn (defScope st) (He.fAd K p) cd A outer s H E) (defBody st) (fun D σ H => act (wOnly K cv (fun _ _ _ => tRet (tC (.str txt))) (fun cls d _ H => E cls d H) D) σ H D.rt)
structure ToldF (P : Program) (w : World) (K : PySem.W.Frag) (mg : Str → Option Value) (base : Heap) (gn : Str) (sub : Str → Option Bool) (txt : Str) : Prop where
  ex : ∃ (st : Stmt) (p : He.Defn) (cv : Value), mg gn = some (.ref (He.fAd K p)) ∧ (∃ fd, FunD K gn gn (defArgs st) (defBody st) (defScope st) [] [] (He.fAd K p) fd) ∧ FnScope ["what"] ["what"] (defScope st) ∧ BindOk gn gn st ["what"] ∧
    Vis (defScope st) "what" ∧ (∀ cn b, sub cn = some b → PySem.W.exmOne K (.ref (He.ga K cn)) cv = some b) ∧ ToldB P w K mg base ["what"] gn st p 0 cv txt
section
variable {X : Cx} {T : Tbs} {W' : WX}
theorem ev_told {k : Nat} {gn : Str} {sub : Str → Option Bool} {txt : Str} {c PT : Addr} {params : Arguments} {body : Expr} {scope : Scope} {p pos lpos : Pos} {fe : Sl → M W} (G : ToldF X.prog X.w X.K X.mg X.base gn sub txt) (hr : Room (k + 2) X.A) (tk : L2.Takes X W')
    (TB : LamX.TabB X.base X.mg c PT) (hcode : X.env.code = .ref c) (L : LamS X.env.scope scope) (hbind : ∀ pm cv ctv, bindArgs (PySem.W.kla_fn "<lambda>" (X.env.qual ++ "<lambda>") params body scope (cloFrom X.env.cells scope.names []) pm cv ctv) ⟨[], []⟩ = pure [])
    (hl : (PT, X.env.qual ++ "<lambda>") ∈ T.tl) (hng : PT ∉ T.tg) (hu : ∀ p ∈ T.tl, p.1 = PT → p.2 = X.env.qual ++ "<lambda>")
    (hbody : ∀ (A : Around) (outer : List Env) (s : Shared) (H : Hp) (E : XK) (f c' : Addr), Room k (A.deeper (lamEnv X scope s.heap.objs.size f c')) → PEv (lamCx X A outer s H E scope f c') T (fun cls d _ H => E cls d H) body fe)
    (hg : Gl X gn := by rfl) (hdb : (gn == ("__debug__" : Str)) = false := by decide) (hdef : defaultsOf params X.env = ([], []) := by rfl)
    (hs : starEach [.Lambda params body scope lpos] X.env = (false, eval (.Lambda params body scope lpos) X.env) :: starEach [] X.env := by rfl) :
    PEv X T W' (.Call (.Name gn p) [.Lambda params body scope lpos] [] pos) (fTold sub txt fe) := by
  obtain ⟨st, gp, cv, gm, ⟨fd, F⟩, S, hb, hvis, hx, TBd⟩ := G.ex
  refine ⟨⟨fun pins s σ H Q I h => ?_⟩⟩
  obtain ⟨m, h0, sl, R1, S1, P0⟩ := h
  have G5 := He5.fun_of F
  obtain ⟨oc, od, kV, doc, pm, an, cdv, ct, osl, rfl, lk, hcd⟩ := G5.ex
  refine wpAny_Call_Name_kw (ld_glob I hg gm ?_ hdb)
  refine PySem.W.callWith_K (h₀ := X.base) I.ok.mod.kin G5.kp ?_ hs rfl
  refine thn ((pa_cons (pe_lam TB hcode L hdef) pa_nil hs).run pos pins s σ H (fun vs H2 => ∃ f c' H1, vs = [.ref f] ∧ H2 = upd H1 f (LamO f (X.env.qual ++ "<lambda>") params body scope (cloFrom X.env.cells scope.names []) c') ∧ ButT PT H H1 ∧ TabS H1 PT (X.env.qual ++ "<lambda>") ∧ H1 c' = some (CodeO c' (X.env.qual ++ "<lambda>")) ∧ H1 f = none) I ⟨R1.tl _ hl, fun f c' H1 b t cc n => ⟨f, c', H1, rfl, rfl, b, t, cc, n⟩⟩) fun us s1 hh => ?_
  obtain ⟨vs, H2, I1, r1, f, c', H1, rfl, rfl, bt, t1, hc, hn⟩ := hh
  obtain ⟨u, rfl, ru⟩ := vals1 r1
  obtain rfl : u = Value.ref f := ru
  refine ⟨I1.kIn, ?_⟩
  have Rb := R1.but hl hng hu bt t1
  have R2 := Rb.aside hn (LamO f (X.env.qual ++ "<lambda>") params body scope (cloFrom X.env.cells scope.names []) c')
  have l2 : Le X.K m H m (upd H1 f (LamO f (X.env.qual ++ "<lambda>") params body scope (cloFrom X.env.cells scope.names []) c')) := (Le.but (R1.tl _ hl) bt).trans (Le.aside Rb hn _)
  have hf2 : upd H1 f (LamO f (X.env.qual ++ "<lambda>") params body scope (cloFrom X.env.cells scope.names []) c') f = some (LamO f (X.env.qual ++ "<lambda>") params body scope (cloFrom X.env.cells scope.names []) c') := upd_same
  have hc2 : upd H1 f (LamO f (X.env.qual ++ "<lambda>") params body scope (cloFrom X.env.cells scope.names []) c') c' = some (CodeO c' (X.env.qual ++ "<lambda>")) := by rw [upd_ne (ne_of_none hc hn)]; exact hc
  generalize upd H1 f (LamO f (X.env.qual ++ "<lambda>") params body scope (cloFrom X.env.cells scope.names []) c') = H2 at *
  have rc : codeAny (model X.prog X.w) X.A (.call (.ref (He.fAd X.K gp)) ⟨[.ref f], []⟩) (CR (L2.CX X.prog X.w) X.stack X.prog X.w H2 s1 Q (WE W' σ)) s1 := by
    refine run_ofS (N := ["what"]) (ps := ["what"]) (us := [.ref f]) (vs := [.ref f]) lk hcd S (k := k + 1) hr I1.env0 (G5.binds hb s1 [.ref f] I1.kIn rfl) (.cons rfl .nil) rfl fun hr' => ?_
    refine ⟨_, TBd cdv X.A X.stack s1 H2 (WE W' σ) (fun W => fun σZ HZ Q => σZ[0]? = some (some (.ref f)) ∧ HZ f = some (LamO f (X.env.qual ++ "<lambda>") params body scope (cloFrom X.env.cells scope.names []) c') ∧ HZ c' = some (CodeO c' (X.env.qual ++ "<lambda>")) ∧ liftG X.K T (RelW X.K) (fun cls d _ H => WE W σZ cls d H) fe σ HZ Q) (fun pn xe W p1 p2 tkk => ?_), ?_⟩
    · exact pe_act3 (tb := fun E => liftG X.K T (RelW X.K) (fun cls d _ H => E cls d H) fe) I1 L hbind tkk hr' (fun A outer s H E hr2 => (hbody A outer s H E f c' hr2).pe) rfl hvis
    · refine ⟨rfl, hf2, hc2, m, h0, sl, R2, S1.mono l2, ?_⟩
      unfold fTold at P0
      cases e : fe sl h0 with
      | bad => rw [e] at P0; exact P0
      | ok w h' => rw [e] at P0; exact fun m' H' v l' => P0 m' H' v (l2.trans l')
      | ex cn pp h' =>
        rw [e] at P0
        dsimp only at P0
        intro m' H' l' R'
        cases es : sub cn with
        | none => rw [es] at P0; exact P0.elim
        | some bb =>
          rw [es] at P0
          have hx' := hx cn bb es
          cases bb with
          | true =>
            have z := P0 m' H' (.str txt) (l2.trans l') R' (.str txt)
            cases pp with
            | none => exact ⟨true, hx', fun _ a _ => z, fun y => nomatch y⟩
            | some fw => exact fun d v _ _ _ => ⟨true, hx', fun _ a _ => z, fun y => nomatch y⟩
          | false =>
            have z := P0 m' H' (l2.trans l') R'
            cases pp with
            | none => exact ⟨false, hx', fun y => (nomatch y), fun _ => z⟩
            | some fw => exact fun d v h1 h2 h3 => ⟨false, hx', fun y => (nomatch y), fun _ => z d v h1 h2 h3⟩
  refine wpAny_call (codeAny_mono rc fun r s2 hq => ?_)
  cases r with
  | error e => exact L2.passAt tk σ pins _ s1 e s2 I1 hq
  | ok fl =>
    cases fl with
    | ret u => exact I1.after hq
    | next => exact False.elim hq
    | brk => exact False.elim hq
    | cont => exact False.elim hq
end
end Fv
set_option Elab.async false
set_option linter.all false
set_option maxRecDepth 100000
set_option maxHeartbeats 4000000
namespace Fv
open PySem PySem.Spec PyProof.Rows L2 Fh LamX
/-! ### a kept lambda is called -/
/-- H without the cells -/
def hide (cl : List (Str × Addr)) (H : Hp) : Hp := fun b => if b ∈ cl.map (·.2) then none else H b
theorem hide_in {cl : List (Str × Addr)} {H : Hp} {b : Addr} (h : b ∈ cl.map (·.2)) : hide cl H b = none := by unfold hide; rw [if_pos h]
theorem hide_out {cl : List (Str × Addr)} {H : Hp} {b : Addr} (h : b ∉ cl.map (·.2)) : hide cl H b = H b := by unfold hide; rw [if_neg h]
/-- H' with the cells as they are told in H -/
def show_ (cl : List (Str × Addr)) (H H' : Hp) : Hp := fun b => if b ∈ cl.map (·.2) then H b else H' b
theorem show_in {cl : List (Str × Addr)} {H H' : Hp} {b : Addr} (h : b ∈ cl.map (·.2)) : show_ cl H H' b = H b := by unfold show_; rw [if_pos h]
theorem show_out {cl : List (Str × Addr)} {H H' : Hp} {b : Addr} (h : b ∉ cl.map (·.2)) : show_ cl H H' b = H' b := by unfold show_; rw [if_neg h]
theorem RelC.mem {K : PySem.W.Frag} {m : List Addr} {H : Hp} : ∀ {xs : List Str} {cl : List (Str × Addr)} {ws : List W}, RelC K m H xs cl ws → ∀ b ∈ cl.map (·.2), ∃ o u, H b = some (CellX b o) ∧ o.data = .cell (some u)
  | _, _, _, .nil, b, hb => by cases hb
  | _, _, _, .cons h d r q n t, b, hb => by
    rcases List.mem_cons.mp hb with e | e
    · rw [e]; exact ⟨_, _, h, d⟩
    · exact t.mem b e
theorem RelC.names {K : PySem.W.Frag} {m : List Addr} {H : Hp} : ∀ {xs : List Str} {cl : List (Str × Addr)} {ws : List W}, RelC K m H xs cl ws → cl.map (·.1) = xs
  | _, _, _, .nil => rfl
  | _, _, _, .cons _ _ _ _ _ t => by simp [t.names]
theorem cellX_at {P : Program} {w : World} {H : Hp} {h : Heap} {c : Addr} {o : Obj} (hok : HOk P w H h) (e : H c = some (CellX c o)) : h.get? c = some o := by
  have x := hok c _ e
  unfold CellX at x
  exact x.1
theorem cellX_ok {P : Program} {w : World} {H : Hp} {h : Heap} {c : Addr} {o : Obj} (e : h.get? c = some o) : ObjOk P w H h c (CellX c o) := ⟨e, ⟨_, e⟩, fun _ _ z k => k _ z⟩
section
variable {P : Program} {w : World} {H H' : Hp} {h h' : Heap} {cl : List (Str × Addr)}
theorem HOk.hide (x : HOk P w H h) (hc : ∀ b ∈ cl.map (·.2), ∃ o, H b = some (CellX b o)) : HOk P w (hide cl H) h := fun a o e => by
  have na : a ∉ cl.map (·.2) := fun z => by rw [hide_in z] at e; cases e
  rw [hide_out na] at e
  have nc : ∀ b u, H b = some u → (∀ o, u ≠ CellX b o) → Fv.hide cl H b = some u := fun b u eb nu => by
    rw [hide_out (fun z => by
      obtain ⟨o', eo⟩ := hc b z
      rw [eo] at eb
      cases eb
      exact nu o' rfl)]
    exact eb
  refine (x a o e).stay (fun b u _ q => q) (fun b q => nc b _ q fun _ z => by unfold CellX at z; cases z) fun b xs q => nc b _ q fun _ z => by unfold CellX at z; cases z
theorem HOk.show (x : HOk P w H' h') (hn : ∀ b ∈ cl.map (·.2), H' b = none) (hc : ∀ b ∈ cl.map (·.2), ∃ o, H b = some (CellX b o) ∧ h'.get? b = some o) : HOk P w (show_ cl H H') h' := fun a o e => by
  by_cases na : a ∈ cl.map (·.2)
  · rw [show_in na] at e
    obtain ⟨o', eo, ho⟩ := hc a na
    rw [eo] at e
    cases e
    exact cellX_ok ho
  · rw [show_out na] at e
    have nc : ∀ b u, H' b = some u → show_ cl H H' b = some u := fun b u eb => by
      rw [show_out (fun z => by rw [hn b z] at eb; cases eb)]
      exact eb
    exact (x a o e).stay (fun b u _ q => q) (fun b q => nc b _ q) fun b xs q => nc b _ q
end
/-- a kept lambda's text is sound: nothing of its own, its free names are told -/
structure LamDS (D : LamDat) : Prop where
  kind : D.scope.kind = .function
  co : D.scope.isCoroutine = false
  gen : D.scope.isGenerator = false
  own : ∀ y ∈ D.scope.names, y.2 ≠ .local ∧ y.2 ≠ .cell
  free : ∀ y ∈ D.scope.names, y.2 = .free → y.1 ∈ D.free
  nd : D.free.Nodup
def cloEnv (D : LamDat) (cl : List (Str × Addr)) (L f c' : Addr) : Env := PySem.W.envX D.q D.scope L f (.ref c') cl
/-- the context of a kept lambda's body -/
def cloCx (P : Program) (w : World) (K : PySem.W.Frag) (mg : Str → Option Value) (base : Heap) (D : LamDat) (cl : List (Str × Addr)) (A : Around) (outer : List Env) (s : Shared) (H : Hp) (E : XK) (f c' : Addr) : Cx where
  prog := P
  w := w
  K := K
  mg := mg
  base := base
  A := A.deeper (cloEnv D cl s.heap.objs.size f c')
  N := D.free
  s_0 := s
  H_0 := H
  env := cloEnv D cl s.heap.objs.size f c'
  outer := outer
  stack := cloEnv D cl s.heap.objs.size f c' :: outer
  ex := []
  fn := fun _ => false
  calm := true
  pn := []
  xe := fun e s' => wpAny (model P w) (A.deeper (cloEnv D cl s.heap.objs.size f c')) (leaving (cloEnv D cl s.heap.objs.size f c') e) (fun _ s'' => L2.CX P w outer H s E e s'') (fun e' s'' => L2.CX P w outer H s E e' s'') s'
/-- what the cells hold, by the machine's values -/
inductive CellV (h : Heap) : List (Str × Addr) → List V → Prop
  | nil : CellV h [] []
  | cons {x : Str} {c : Addr} {o : Obj} {u : Value} {v : V} {cl : List (Str × Addr)} {vs : List V} : h.get? c = some o → o.data = .cell (some u) → RelV v u → (∀ p ∈ cl, p.2 ≠ c) → CellV h cl vs → CellV h ((x, c) :: cl) (v :: vs)
theorem CellV.get {h : Heap} : ∀ {cl : List (Str × Addr)} {vs : List V} {i : Nat} {x : Str} {v : V}, CellV h cl vs → (cl.map (·.1)).Nodup → (cl.map (·.1))[i]? = some x → vs[i]? = some v → ∃ c u, cl.lookup x = some c ∧ RelV v u ∧ h.IsCell c (some u)
  | _, _, _, _, _, .nil, _, e, _ => by simp at e
  | _, _, 0, x, v, .cons (x := y) (c := c) (o := o) (u := u) ho hd r n t, nd, e, ev => by
    simp at e ev
    subst e ev
    exact ⟨c, u, by simp [List.lookup], r, o, ho, hd⟩
  | _, _, i + 1, x, v, .cons (x := y) (c := c) ho hd r n t, nd, e, ev => by
    have nd2 := List.nodup_cons.mp nd
    obtain ⟨c2, u2, h1, h2, h3⟩ := CellV.get (i := i) (x := x) (v := v) t nd2.2 (by simpa using e) (by simpa using ev)
    refine ⟨c2, u2, ?_, h2, h3⟩
    have hne : (x == y) = false := by
      simp only [beq_eq_false_iff_ne]
      rintro rfl
      exact nd2.1 (List.mem_of_getElem? (by simpa using e))
    simp [List.lookup, hne, h1]
theorem CellV.cell {h : Heap} : ∀ {cl : List (Str × Addr)} {vs : List V} {x : Str} {c : Addr}, CellV h cl vs → cl.lookup x = some c → ∃ v, h.IsCell c v
  | _, _, _, _, .nil, e => by cases e
  | _, _, x, c, .cons (x := y) (o := o) (u := u) ho hd r n t, e => by
    unfold List.lookup at e
    split at e
    · cases e
      exact ⟨some u, o, ho, hd⟩
    · exact t.cell e
theorem CellV.inj {h : Heap} : ∀ {cl : List (Str × Addr)} {vs : List V} {x y : Str} {c : Addr}, CellV h cl vs → cl.lookup x = some c → cl.lookup y = some c → x = y
  | _, _, _, _, _, .nil, e, _ => by cases e
  | _, _, x, y, c, .cons (x := z) ho hd r n t, e1, e2 => by
    unfold List.lookup at e1 e2
    split at e1
    · rename_i hx
      cases e1
      split at e2
      · rename_i hy
        rw [eq_of_beq hx, eq_of_beq hy]
      · exact absurd rfl (n _ (PySem.mem_of_lookup e2))
    · split at e2
      · cases e2
        exact absurd rfl (n _ (PySem.mem_of_lookup e1))
      · exact t.inj e1 e2
theorem clo_start {P : Program} {w : World} {K : PySem.W.Frag} {mg : Str → Option Value} {base : Heap} {D : LamDat} {cl : List (Str × Addr)} {A : Around} {outer : List Env} {s1 : Shared} {HZ : Hp} {E : XK} {f c' : Addr} {h₁ : Heap} {tk : Nat} {vs : List V} (L : LamDS D) (hcl : cl.map (·.1) = D.free)
    (e0 : Env0 P w K mg base A outer s1 HZ) (hd : A.handled = none) (hns : h₁.Ns s1.heap.objs.size fun y => ([] : List (Str × Value)).reverse.lookup y) (kp : ∀ b o, s1.heap.get? b = some o → h₁.get? b = some o)
    (hv : CellV s1.heap cl vs) (hn : ∀ p ∈ cl, HZ p.2 = none) (hl : vs.length = D.free.length) : Inv (cloCx P w K mg base D cl A outer s1 HZ E f c') [] (vs.map some) HZ { s1 with heap := h₁, toks := tk } := by
  have noA : ∀ b : Addr, b ∉ (cloCx P w K mg base D cl A outer s1 HZ E f c').ex := fun b z => absurd (show b ∈ ([] : List Addr) from z) (by simp)
  have cellK : ∀ {c : Addr} {v : Option Value}, s1.heap.IsCell c v → h₁.IsCell c v := fun {c v} ⟨o, ho, hd⟩ => ⟨o, kp _ _ ho, hd⟩
  have look : ∀ {y}, D.scope.names.lookup y = some .free → ∃ c, cl.lookup y = some c := fun {y} hy => by
    have h1 := L.free _ (PySem.mem_of_lookup hy) rfl
    rw [← hcl] at h1
    obtain ⟨p, hp, e⟩ := List.mem_map.mp h1
    have e : p.1 = y := e
    exact mem_lookup (show (y, p.2) ∈ cl by rw [← e]; exact hp)
  refine ⟨⟨e0.mod, L.kind, rfl, rfl, Nat.le_refl _, fun y z c e1 e2 => hv.inj e1 e2, fun y hy => ?_, fun y c z _ => ?_, fun _ => hd, Around.frames_deeper e0.frames, .inr ⟨rfl, rfl⟩, fun b z => absurd z (noA b), e0.bs, e0.bsz, fun b _ _ => noA b,
      fun b z => absurd z (noA b), e0.funs, e0.frf⟩,
    rfl, e0.bare, Un.kept kp, ⟨_, hns, fun i y v e1 e2 e3 => ?_⟩, fun y c e => ?_, e0.hok.fresh (Nat.le_refl _), fun y c e => hn _ (PySem.mem_of_lookup (show cl.lookup y = some c from e)), fun q hq => absurd (show q ∈ ([] : List (Addr × Obj)) ++ [] from hq) (by simp), e0.hok.kept kp, by rw [List.length_map]; exact hl⟩
  · have hy : D.scope.names.lookup y = some .cell ∨ D.scope.names.lookup y = some .free := hy
    rcases hy with hy | hy
    · exact absurd rfl (L.own _ (PySem.mem_of_lookup hy)).2
    · exact look hy
  · have z : false = true := z
    cases z
  · have e3 : Vis D.scope y := e3
    rcases e3 with k | k | k
    · exact absurd rfl (L.own _ (PySem.mem_of_lookup k)).1
    · exact absurd rfl (L.own _ (PySem.mem_of_lookup k)).2
    · have ev : vs[i]? = some v := by
        rw [List.getElem?_map] at e2
        cases z : vs[i]? with
        | none => rw [z] at e2; cases e2
        | some v' => rw [z] at e2; cases e2; rfl
      have e1 : (cl.map (·.1))[i]? = some y := by rw [hcl]; exact e1
      obtain ⟨c, u, h1, h2, h3⟩ := hv.get (by rw [hcl]; exact L.nd) e1 ev
      exact ⟨u, h2, .inr ⟨.inr k, c, h1, cellK h3⟩⟩
  · obtain ⟨v, z⟩ := hv.cell (show cl.lookup y = some c from e)
    exact ⟨v, cellK z⟩
end Fv
set_option Elab.async false
set_option linter.all false
set_option maxRecDepth 100000
set_option maxHeartbeats 4000000
namespace Fv
open PySem PySem.Spec PyProof.Rows L2 Fh LamX
/-- the cells as they are tracked, and their values -/
inductive CellH (H : Hp) : List (Str × Addr) → List V → Prop
  | nil : CellH H [] []
  | cons {x : Str} {c : Addr} {o : Obj} {u : Value} {v : V} {cl : List (Str × Addr)} {vs : List V} : H c = some (CellX c o) → o.data = .cell (some u) → RelV v u → (∀ p ∈ cl, p.2 ≠ c) → CellH H cl vs → CellH H ((x, c) :: cl) (v :: vs)
theorem CellH.mem {H : Hp} : ∀ {cl : List (Str × Addr)} {vs : List V}, CellH H cl vs → ∀ b ∈ cl.map (·.2), ∃ o, H b = some (CellX b o)
  | _, _, .nil, b, hb => by cases hb
  | _, _, .cons h d r n t, b, hb => by
    rcases List.mem_cons.mp hb with e | e
    · rw [e]; exact ⟨_, h⟩
    · exact t.mem b e
theorem CellH.val {P : Program} {w : World} {H : Hp} {h : Heap} (hok : HOk P w H h) : ∀ {cl : List (Str × Addr)} {vs : List V}, CellH H cl vs → CellV h cl vs
  | _, _, .nil => .nil
  | _, _, .cons e d r n t => .cons (cellX_at hok e) d r n (t.val hok)
theorem CellH.len {H : Hp} : ∀ {cl : List (Str × Addr)} {vs : List V}, CellH H cl vs → vs.length = (cl.map (·.1)).length
  | _, _, .nil => rfl
  | _, _, .cons _ _ _ _ t => congrArg (· + 1) t.len
section
variable {P : Program} {w : World} {H H' : Hp} {h h' B : Heap} {cl : List (Str × Addr)} {fs : List Addr}
theorem Un.show (u : Un fs [] (hide cl H) H' h h') (hc : ∀ b ∈ cl.map (·.2), ∃ o, H b = some (CellX b o)) : Un fs [] H (show_ cl H H') h h' := by
  have no : ∀ b, H b = none → b ∉ cl.map (·.2) := fun b n z => by
    obtain ⟨o, e⟩ := hc b z
    rw [n] at e
    cases e
  have nk : ∀ b u, H b = some u → (∀ φ, u ≠ .ext φ) → b ∉ cl.map (·.2) := fun b u e n z => by
    obtain ⟨o, e2⟩ := hc b z
    rw [e] at e2
    cases e2
    exact n _ rfl
  refine ⟨fun b o e n hb hx => u.keep b o e (by rw [hide_out (no b n)]; exact n) hb hx, fun b o e n hb hx => u.slot b o e (by rw [hide_out (no b n)]; exact n) hb hx, fun b o e n hx => ?_, u.there, fun b xs e => ?_, fun b o v e => ?_, fun b ps e => ?_⟩
  · rw [show_out (no b n)]
    exact u.free b o e (by rw [hide_out (no b n)]; exact n) hx
  · have z := nk b _ e fun _ z => by cases z
    rw [show_out z]
    exact u.tups b xs (by rw [hide_out z]; exact e)
  · have z := nk b _ e fun _ z => by cases z
    rw [show_out z]
    exact u.frzs b o v (by rw [hide_out z]; exact e)
  · have z := nk b _ e fun _ z => by cases z
    rw [show_out z]
    exact u.tbls b ps (by rw [hide_out z]; exact e)
theorem UB.show (u : UB fs (hide cl H) H' h B h') (hc : ∀ b ∈ cl.map (·.2), ∃ o, H b = some (CellX b o)) : UB fs H (show_ cl H H') h B h' := by
  have no : ∀ b, H b = none → b ∉ cl.map (·.2) := fun b n z => by
    obtain ⟨o, e⟩ := hc b z
    rw [n] at e
    cases e
  have nk : ∀ b u, H b = some u → (∀ φ, u ≠ .ext φ) → b ∉ cl.map (·.2) := fun b u e n z => by
    obtain ⟨o, e2⟩ := hc b z
    rw [e] at e2
    cases e2
    exact n _ rfl
  refine ⟨fun b o e n hb => u.keep b o e (by rw [hide_out (no b n)]; exact n) hb, u.slot, fun b o e n => ?_, u.there, fun b xs e => ?_, fun b o v e => ?_, fun b ps e => ?_⟩
  · rw [show_out (no b n)]
    exact u.free b o e (by rw [hide_out (no b n)]; exact n)
  · have z := nk b _ e fun _ z => by cases z
    rw [show_out z]
    exact u.tups b xs (by rw [hide_out z]; exact e)
  · have z := nk b _ e fun _ z => by cases z
    rw [show_out z]
    exact u.frzs b o v (by rw [hide_out z]; exact e)
  · have z := nk b _ e fun _ z => by cases z
    rw [show_out z]
    exact u.tbls b ps (by rw [hide_out z]; exact e)
theorem Env0.hide {K : PySem.W.Frag} {mg : Str → Option Value} {base : Heap} {A : Around} {outer : List Env} {s : Shared} (e : Env0 P w K mg base A outer s H) (hc : ∀ b ∈ cl.map (·.2), ∃ o, H b = some (CellX b o)) : Env0 P w K mg base A outer s (Fv.hide cl H) := by
  have no : ∀ b, H b = none → Fv.hide cl H b = none := fun b n => by
    by_cases z : b ∈ cl.map (·.2)
    · exact hide_in z
    · rw [hide_out z]; exact n
  exact ⟨e.frames, e.mod, fun b o z => ⟨(e.bs b o z).1, no b (e.bs b o z).2⟩, e.bsz, e.funs, fun b hb => no b (e.frf b hb), HOk.hide e.hok hc, e.bare⟩
end
section
variable {Z : Cx} {W : WX}
/-- a(), a holds a kept lambda -/
theorem pe_actC {D : LamDat} {k i : Nat} {a : Str} {p1 p2 : Pos} {tb : XK → TE} (L : LamDS D) (hbind : ∀ cl pm cv ctv, bindArgs (PySem.W.kla_fn "<lambda>" D.q D.params D.body D.scope cl pm cv ctv) ⟨[], []⟩ = pure []) (tk : L2.Takes Z W) (hr : Room (k + 1) Z.A)
    (hbody : ∀ (cl : List (Str × Addr)) (A : Around) (outer : List Env) (s : Shared) (H : Hp) (E : XK) (f c' : Addr), Room k (A.deeper (cloEnv D cl s.heap.objs.size f c')) → PE (cloCx Z.prog Z.w Z.K Z.mg Z.base D cl A outer s H E f c') D.body (tb E))
    (hN : Z.N[i]? = some a) (hv : Vis Z.env.scope a) (hd : (a == ("__debug__" : Str)) = false := by decide) (hcd : (a == ("__classdict__" : Str)) = false := by decide) :
    PE Z (.Call (.Name a p1) [] [] p2) (fun σZ HZ Q => ∃ f c' cl vs, σZ[i]? = some (some (.ref f)) ∧ HZ f = some (LamO f D.q D.params D.body D.scope cl c') ∧ HZ c' = some (CodeO c' D.q) ∧ cl.map (·.1) = D.free ∧ CellH HZ cl vs ∧
      tb (fun cls d H' => (∀ b ∈ cl.map (·.2), H' b = none) → WE W σZ cls d (show_ cl HZ H')) (vs.map some) (hide cl HZ) (fun v H' => (∀ b ∈ cl.map (·.2), H' b = none) → Q v (show_ cl HZ H'))) := by
  refine ⟨fun pinsZ sZ σZ HZ Q IZ h => ?_⟩
  obtain ⟨f, c', cl, vs, hs, hlo, hc, hcl, hcv, ht⟩ := h
  refine wpAny_Call_Name_kw (thn ((pe_var (pos := p1) (i := i) hN hv hd hcd).run pinsZ sZ σZ HZ (fun v H1 => v = .ref f ∧ H1 = HZ) IZ ⟨.ref f, hs, rfl, rfl⟩) fun u s1 ⟨v, H1, I1, r1, q1⟩ => ?_)
  obtain ⟨ev, eH⟩ := q1
  subst ev eH
  obtain rfl : u = Value.ref f := r1
  obtain ⟨pm, ctv, of1⟩ := lamO_at I1.hok hlo
  obtain ⟨oc, ws, t, hoc, hdc, hvc⟩ := codeO_at I1.hok hc
  have hm := hcv.mem
  have hcv1 := hcv.val I1.hok
  have e0 := I1.env0
  have nfs : ∀ b ∈ cl.map (·.2), b ∉ frs Z.stack := fun b hb z => by
    obtain ⟨o, e⟩ := hm b hb
    rw [e0.frf b z] at e
    cases e
  have ncl : ∀ p ∈ cl, hide cl H1 p.2 = none := fun p hp => hide_in (List.mem_map.mpr ⟨p, hp, rfl⟩)
  refine PySem.W.callWith_F0 ⟨_, _, _, _, of1⟩ ?_
  have rc : codeAny (model Z.prog Z.w) Z.A (.call (.ref f) ⟨[], []⟩) (CR (L2.CX Z.prog Z.w) Z.stack Z.prog Z.w H1 s1 Q (WE W σZ)) s1 := by
    refine PySem.W.kla_callFunE hr.depth of1 rfl L.co L.gen rfl ⟨c', oc, ws, t, rfl, hoc, hdc, hvc⟩ ?_
    rw [hbind]
    refine wpAny_pure (wpAny_newFunctionEnv (fun y hy => (L.own y hy).2) (fun y hy => absurd hy (by simp)) (fun h₁ hns hsb => ⟨I1.nolimit.fresh _ hsb, ?_⟩) L.kind)
    have kp : ∀ b o, s1.heap.get? b = some o → h₁.get? b = some o := fun b o e => hsb.extBut b o (Nat.ne_of_lt (Heap.lt_size e)) (Heap.get?_push_of_some _ e)
    have J : Inv (cloCx Z.prog Z.w Z.K Z.mg Z.base D cl Z.A Z.stack s1 (hide cl H1) (fun cls d H' => (∀ b ∈ cl.map (·.2), H' b = none) → WE W σZ cls d (show_ cl H1 H')) f c') [] (vs.map some) (hide cl H1) { s1 with heap := h₁, toks := s1.toks + ([] : List (Str × Value)).length } :=
      clo_start L hcl (Env0.hide e0 hm) hr.hd hns kp hcv1 ncl (by rw [hcv.len, hcl])
    refine PySem.W.kla_codeExpr (wpAny_mono ((hbody cl _ _ s1 (hide cl H1) _ f c' (hr.deeper _)).run [] _ _ _ _ J ht) (fun v s' hq => ?_) fun e s' hq => ?_)
    · obtain ⟨w', H', J', rv, q⟩ := hq
      have un : Un (frs Z.stack) [] (hide cl H1) H' s1.heap s'.heap := J'.base
      have hnn : ∀ b ∈ cl.map (·.2), H' b = none := fun b hb => by
        obtain ⟨o, e⟩ := hm b hb
        exact un.free b o (cellX_at I1.hok e) (hide_in hb) (by simp)
      refine ⟨w', show_ cl H1 H', J'.os, J'.bare, Un.show un hm, HOk.show J'.hok hnn (fun b hb => ?_), rv, q hnn⟩
      · obtain ⟨o, e⟩ := hm b hb
        exact ⟨o, e, un.keep b o (cellX_at I1.hok e) (hide_in hb) (nfs b hb) (by simp)⟩
    · refine wpAny_mono (show wpAny (model Z.prog Z.w) (Z.A.deeper (cloEnv D cl s1.heap.objs.size f c')) (leaving (cloEnv D cl s1.heap.objs.size f c') e) (fun _ s'' => L2.CX Z.prog Z.w Z.stack (hide cl H1) s1 (fun cls d H' => (∀ b ∈ cl.map (·.2), H' b = none) → WE W σZ cls d (show_ cl H1 H')) e s'') (fun e' s'' => L2.CX Z.prog Z.w Z.stack (hide cl H1) s1 (fun cls d H' => (∀ b ∈ cl.map (·.2), H' b = none) → WE W σZ cls d (show_ cl H1 H')) e' s'') s' from hq) (fun _ s'' z => ?_) (fun e' s'' z => ?_)
      all_goals
        obtain ⟨ax, B, H', cls, d, eu, fly, hok, ub, na, os, ag, ew⟩ := z
        have hnn : ∀ b ∈ cl.map (·.2), H' b = none := fun b hb => by
          obtain ⟨o, e⟩ := hm b hb
          exact ub.free b o (cellX_at I1.hok e) (hide_in hb)
        refine ⟨ax, B, show_ cl H1 H', cls, d, eu, fly, HOk.show hok hnn (fun b hb => ?_), UB.show ub hm, ?_, os, ag, ew hnn⟩
        · obtain ⟨o, e⟩ := hm b hb
          exact ⟨o, e, ub.keep b o (cellX_at I1.hok e) (hide_in hb) (nfs b hb)⟩
        · rw [show_out (fun hb => by
            obtain ⟨o, e⟩ := hm ax hb
            have z := ub.keep ax o (cellX_at I1.hok e) (hide_in hb) (nfs ax hb)
            rw [fly.2.1] at z
            cases z)]
          exact na
  refine wpAny_call (codeAny_mono rc fun r s' hq => ?_)
  cases r with
  | error e => exact L2.passAt tk σZ pinsZ H1 s1 e s' I1 hq
  | ok fl =>
    cases fl with
    | ret u => exact I1.after hq
    | next => exact hq.elim
    | brk => exact hq.elim
    | cont => exact hq.elim
end
end Fv
set_option Elab.async false
set_option linter.all false
set_option maxRecDepth 100000
set_option maxHeartbeats 4000000
namespace Fv
open PySem PySem.Spec PyProof.Rows L2 Fh LamX
section
variable {P : Program} {w : World} {K : PySem.W.Frag} {T : Tbs} {m m' : List Addr} {h h' : LH} {H H' : Hp} {cl : List (Str × Addr)}
theorem no_ext (hc : ∀ b ∈ cl.map (·.2), ∃ o, H b = some (CellX b o)) {b : Addr} {u : HO} (e : H b = some u) (n : ∀ φ, u ≠ .ext φ) : b ∉ cl.map (·.2) := fun z => by
  obtain ⟨o, e2⟩ := hc b z
  rw [e] at e2
  cases e2
  exact n _ rfl
theorem Lt.hide (hc : ∀ b ∈ cl.map (·.2), ∃ o, H b = some (CellX b o)) : Lt K m H m (hide cl H) := ⟨⟨[], (List.append_nil _).symm⟩, fun a vs s => sqT_of (fun b u xs e q => hide_out (no_ext hc e fun φ z => by
  subst z
  rcases q with q | ⟨o, q⟩ <;> cases q)) s⟩
def noLam (h : LH) : Bool := h.all fun o => match o with
  | .lam _ _ => false
  | _ => true
/-- code objects are no cells -/
theorem code_no (hok : ∃ hp : Heap, HOk P w H hp) (hc : ∀ b ∈ cl.map (·.2), ∃ o u, H b = some (CellX b o) ∧ o.data = .cell (some u)) {b : Addr} {q : Str} (e : H b = some (CodeO b q)) : b ∉ cl.map (·.2) := fun z => by
  obtain ⟨hp, hok⟩ := hok
  obtain ⟨o, u, e2, d⟩ := hc b z
  obtain ⟨oc, vs, t, hoc, hdc, _⟩ := codeO_at hok e
  rw [cellX_at hok e2] at hoc
  cases hoc
  rw [d] at hdc
  cases hdc
theorem lok_hide (hc : ∀ b ∈ cl.map (·.2), ∃ o, H b = some (CellX b o)) {a : Addr} : ∀ {o : LO}, (match o with | .lam _ _ => false | _ => true) = true → LOk K T m H a o → (o = .dead → a ∉ cl.map (·.2)) → LOk K T m (hide cl H) a o
  | .lst _, _, ⟨vs, h, r⟩, _ => ⟨vs, by rw [hide_out (no_ext hc h fun _ z => by cases z)]; exact h, r.mono0 (Lt.hide hc)⟩
  | .rd _, _, ⟨o, vs, h, r⟩, _ => ⟨o, vs, by rw [hide_out (no_ext hc h fun _ z => by cases z)]; exact h, r.mono0 (Lt.hide hc)⟩
  | .dct _, _, ⟨vs, h, r⟩, _ => ⟨vs, by rw [hide_out (no_ext hc h fun _ z => by cases z)]; exact h, r.mono0 (Lt.hide hc)⟩
  | .dcl _, _, ⟨o, vs, h, r⟩, _ => ⟨o, vs, by rw [hide_out (no_ext hc h fun _ z => by cases z)]; exact h, r.mono0 (Lt.hide hc)⟩
  | .ins _ _, _, ⟨dx, vs, h, r⟩, _ => ⟨dx, vs, by rw [hide_out (no_ext hc h fun _ z => by cases z)]; exact h, r.mono0 (Lt.hide hc)⟩
  | .dead, _, ⟨q, ps, b, sc, l, c', h⟩, na => ⟨q, ps, b, sc, l, c', by rw [hide_out (na rfl)]; exact h⟩
/-- the heap for the body of a kept lambda -/
theorem Rel.hide (hok : ∃ hp : Heap, HOk P w H hp) (r : Rel K T m h H) (hc : ∀ b ∈ cl.map (·.2), ∃ o u, H b = some (CellX b o) ∧ o.data = .cell (some u)) (hm : ∀ b ∈ cl.map (·.2), b ∉ m) {i k : Nat} {ws : List W} (hi : h[i]? = some (.lam k ws)) (hn : noLam (h.set i .dead) = true) : Rel K T m (h.set i .dead) (hide cl H) := by
  have hc1 : ∀ b ∈ cl.map (·.2), ∃ o, H b = some (CellX b o) := fun b hb => let ⟨o, _, e, _⟩ := hc b hb; ⟨o, e⟩
  refine ⟨by simp [r.len], r.nd, fun j a o e1 e2 => ?_, fun P hP => ?_, fun p hp => ?_⟩
  · have na : a ∉ cl.map (·.2) := fun z => hm a z (List.mem_of_getElem? e1)
    have nl := List.all_eq_true.mp hn o (List.mem_of_getElem? e2)
    by_cases hj : j = i
    · subst hj
      rw [List.getElem?_set_self (by rw [← r.len]; exact (List.getElem?_eq_some_iff.mp e1).1)] at e2
      cases e2
      obtain ⟨D, cl2, c', _, hu, _⟩ := r.obj _ _ _ e1 hi
      exact ⟨_, _, _, _, _, _, by rw [hide_out na]; exact hu⟩
    · rw [List.getElem?_set_ne (Ne.symm hj)] at e2
      exact lok_hide hc1 nl (r.obj j a o e1 e2) fun _ => na
  · obtain ⟨ps, e, k⟩ := r.tg P hP
    exact ⟨ps, by rw [hide_out (no_ext hc1 e fun _ z => by cases z)]; exact e, k⟩
  · obtain ⟨ps, e, k, hcd⟩ := r.tl p hp
    refine ⟨ps, by rw [hide_out (no_ext hc1 e fun _ z => by cases z)]; exact e, k, fun pos cv z => ?_⟩
    obtain ⟨c, e1, e2⟩ := hcd pos cv z
    exact ⟨c, e1, by rw [hide_out (code_no hok hc e2)]; exact e2⟩
theorem Lt.show (hn : ∀ b ∈ cl.map (·.2), H' b = none) : Lt K m' H' m' (show_ cl H H') := ⟨⟨[], (List.append_nil _).symm⟩, fun a vs s => sqT_of (fun b u xs e q => show_out (fun z => by rw [hn b z] at e; cases e)) s⟩
theorem Le.show (hc : ∀ b ∈ cl.map (·.2), ∃ o, H b = some (CellX b o)) (r : Rel K T m' h' H') (l : Le K m (hide cl H) m' H') (hn : ∀ b ∈ cl.map (·.2), H' b = none) : Le K m H m' (show_ cl H H') := by
  refine ⟨l.pre, fun a vs s => (Lt.show (K := K) (m' := m') hn).tup a vs (l.tup a vs ((Lt.hide (K := K) (m := m) hc).tup a vs s)), fun b o e nt nm => ?_, fun b o u e => ?_, fun b φ e => ?_⟩
  · by_cases z : b ∈ cl.map (·.2)
    · refine ⟨by rw [show_in z]; exact e, fun y => ?_⟩
      obtain ⟨u, hu, _⟩ := r.mem y
      rw [hn b z] at hu
      cases hu
    · obtain ⟨h1, h2⟩ := l.oth b o (by rw [hide_out z]; exact e) nt nm
      exact ⟨by rw [show_out z]; exact h1, h2⟩
  · have z := no_ext hc e fun _ z => by cases z
    rw [show_out z]
    exact l.frz b o u (by rw [hide_out z]; exact e)
  · by_cases z : b ∈ cl.map (·.2)
    · rw [show_in z]; exact e
    · rw [show_out z]
      exact l.ext b φ (by rw [hide_out z]; exact e)
theorem Rel.show (r : Rel K T m' h' H') (hn : ∀ b ∈ cl.map (·.2), H' b = none) : Rel K T m' h' (show_ cl H H') := by
  have out : ∀ {b u}, H' b = some u → show_ cl H H' b = H' b := fun {b u} e => show_out (fun z => by rw [hn b z] at e; cases e)
  refine ⟨r.len, r.nd, fun j a o e1 e2 => ?_, fun P hP => ?_, fun p hp => ?_⟩
  · have k := r.obj j a o e1 e2
    obtain ⟨u, hu, _⟩ := k.some
    exact k.mono0 (Lt.show hn) (fun b φ e => by rw [out e]; exact e) (out hu)
  · obtain ⟨ps, e, k⟩ := r.tg P hP
    exact ⟨ps, by rw [out e]; exact e, k⟩
  · obtain ⟨ps, e, k, hcd⟩ := r.tl p hp
    refine ⟨ps, by rw [out e]; exact e, k, fun pos cv z => ?_⟩
    obtain ⟨c, e1, e2⟩ := hcd pos cv z
    exact ⟨c, e1, by rw [out e2]; exact e2⟩
theorem RelC.cells : ∀ {xs : List Str} {cl : List (Str × Addr)} {ws : List W}, RelC K m H xs cl ws → ∃ vs, CellH H cl vs ∧ RelWs K m H ws vs
  | _, _, _, .nil => ⟨[], .nil, .nil⟩
  | _, _, _, .cons h d r q n t => by
    obtain ⟨vs, h1, h2⟩ := t.cells
    exact ⟨_ :: vs, .cons h d r n h1, .cons q h2⟩
end
/-- g(e), e a kept lambda -/
def fToldC (sub : Str → Option Bool) (txt : Str) (F : Nat → Sl → M W) (fa : Sl → M W) : Sl → M W := fun sl => bnd (fa sl) fun w h => match w with
  | .ref i => (match h[i]? with
    | some (.lam k ws) => if noLam (h.set i .dead) = true then (match F k (ws.map some) (h.set i .dead) with
      | .ok w h' => .ok w h'
      | .ex c p h' => (match sub c with
        | some true => .ok (.str txt) h'
        | some false => .ex c p h'
        | none => .bad)
      | .bad => .bad) else .bad
    | _ => .bad)
  | _ => .bad
section
variable {P : Program} {w : World} {K : PySem.W.Frag} {T : Tbs} {m : List Addr} {h : LH} {H : Hp}
theorem lam_no_cell {hp : Heap} (hok : HOk P w H hp) {a : Addr} {o : Obj} {u : Option Value} {q : Str} {ps : Arguments} {b : Expr} {sc : Scope} {cl : List (Str × Addr)} {c' : Addr} (e1 : H a = some (LamO a q ps b sc cl c')) (e2 : H a = some (CellX a o)) (d : o.data = .cell u) : False := by
  obtain ⟨pm, ctv, e⟩ := lamO_at hok e1
  rw [cellX_at hok e2] at e
  cases e
  cases d
theorem cell_out {hp : Heap} (hok : HOk P w H hp) (r : Rel K T m h H) {c : Addr} {o : Obj} {u : Value} (e : H c = some (CellX c o)) (d : o.data = .cell (some u)) : c ∉ m := fun z => by
  obtain ⟨i, hi, rfl⟩ := List.mem_iff_getElem.mp z
  obtain ⟨lo, _, k⟩ := r.at (List.getElem?_eq_getElem hi)
  cases lo with
  | lst _ => obtain ⟨_, h, _⟩ := k; rw [e] at h; cases h
  | rd _ => obtain ⟨_, _, h, _⟩ := k; rw [e] at h; cases h
  | dct _ => obtain ⟨_, h, _⟩ := k; rw [e] at h; cases h
  | dcl _ => obtain ⟨_, _, h, _⟩ := k; rw [e] at h; cases h
  | ins _ _ => obtain ⟨_, _, h, _⟩ := k; rw [e] at h; cases h
  | lam _ _ => obtain ⟨_, _, _, _, h, _⟩ := k; exact lam_no_cell hok h e d
  | dead => obtain ⟨_, _, _, _, _, _, h⟩ := k; exact lam_no_cell hok h e d
end
end Fv
set_option Elab.async false
set_option linter.all false
set_option maxRecDepth 100000
set_option maxHeartbeats 4000000
namespace Fv
open PySem PySem.Spec PyProof.Rows L2 Fh LamX
/-- the kept lambdas of a text do as fe tells -/
def LamsOk (P : Program) (w : World) (K : PySem.W.Frag) (mg : Str → Option Value) (base : Heap) (T : Tbs) (kk : Nat) (fe : Nat → Sl → M W) : Prop := ∀ k D, T.lams[k]? = some D → LamDS D ∧
  (∀ cl pm cv ctv, bindArgs (PySem.W.kla_fn "<lambda>" D.q D.params D.body D.scope cl pm cv ctv) ⟨[], []⟩ = pure []) ∧
  ∀ (cl : List (Str × Addr)) (A : Around) (outer : List Env) (s : Shared) (H : Hp) (E : XK) (f c' : Addr), Room kk (A.deeper (cloEnv D cl s.heap.objs.size f c')) → PEv (cloCx P w K mg base D cl A outer s H E f c') T (fun cls d _ H => E cls d H) D.body (fe k)
theorem relS_all {K : PySem.W.Frag} {m : List Addr} {H : Hp} {ws : List W} {vs : List V} (r : RelWs K m H ws vs) : RelS K m H (ws.map some) (vs.map some) := ⟨by simp [r.length], fun i w e => by
  rw [List.getElem?_map] at e
  cases e1 : ws[i]? with
  | none => rw [e1] at e; cases e
  | some w1 =>
    rw [e1] at e
    cases e
    obtain ⟨v, ev, rv⟩ := r.get e1
    exact ⟨v, by rw [List.getElem?_map, ev]; rfl, rv⟩⟩
section
variable {X : Cx} {T : Tbs} {W' : WX}
theorem ev_toldC {k : Nat} {gn : Str} {sub : Str → Option Bool} {txt : Str} {e : Expr} {p pos : Pos} {fa : Sl → M W} {fe : Nat → Sl → M W} (G : ToldF X.prog X.w X.K X.mg X.base gn sub txt) (LS : LamsOk X.prog X.w X.K X.mg X.base T k fe) (hr : Room (k + 2) X.A) (tk : L2.Takes X W') (ha : PEv X T W' e fa)
    (hg : Gl X gn := by rfl) (hdb : (gn == ("__debug__" : Str)) = false := by decide) (hs : starEach [e] X.env = (false, eval e X.env) :: starEach [] X.env := by rfl) :
    PEv X T W' (.Call (.Name gn p) [e] [] pos) (fToldC sub txt fe fa) := by
  obtain ⟨st, gp, cv, gm, ⟨fd, F⟩, S, hb, hvis, hx, TBd⟩ := G.ex
  refine ⟨⟨fun pins s σ H Q I h => ?_⟩⟩
  obtain ⟨m0, h00, sl, R0, S0, P00⟩ := h
  have G5 := He5.fun_of F
  obtain ⟨oc, od, kV, doc, pm, an, cdv, ct, osl, rfl, lk, hcd⟩ := G5.ex
  refine wpAny_Call_Name_kw (ld_glob I hg gm ?_ hdb)
  refine PySem.W.callWith_K (h₀ := X.base) I.ok.mod.kin G5.kp ?_ hs rfl
  have rd : tCons (lE X T W' fa) tNil σ H (fun vs H1 => ∃ v m1 h1 wx, vs = [v] ∧ Rel X.K T m1 h1 H1 ∧ RelW X.K m1 H1 wx v ∧ Post X.K T (RelW X.K) m1 H1 ((match wx with
    | .ref i => (match h1[i]? with
      | some (.lam k ws) => if noLam (h1.set i .dead) = true then (match fe k (ws.map some) (h1.set i .dead) with
        | .ok w h' => .ok w h'
        | .ex c p h' => (match sub c with
          | some true => .ok (.str txt) h'
          | some false => .ex c p h'
          | none => .bad)
        | .bad => .bad) else .bad
      | _ => .bad)
    | _ => .bad) : R W) Q (WE W' σ)) := use R0 S0 P00 fun m1 H1 x wx h1 l1 R1 rx P1 => ⟨x, m1, h1, wx, rfl, R1, rx, P1⟩
  refine thn ((pa_cons ha.pe pa_nil hs).run pos pins s σ H _ I rd) fun us s1 hh => ?_
  obtain ⟨vs, H2, I1, r1, v, m, h0, wx, rfl, R1, rx, P0⟩ := hh
  obtain ⟨u, rfl, ru⟩ := vals1 r1
  split at P0
  rotate_left
  · exact P0.elim
  rename_i i
  split at P0
  rotate_left
  · exact P0.elim
  rename_i _ k0 ws hi
  split at P0
  rotate_left
  · exact P0.elim
  rename_i hnl
  cases rx with
  | ref ea =>
  rename_i f
  obtain ⟨D, cl, c', hD, hf, hc', hrc⟩ := R1.obj _ _ _ ea hi
  obtain rfl : u = Value.ref f := ru
  obtain ⟨LD, hbind, hbody⟩ := LS k0 D hD
  obtain ⟨vs, hcv, hws⟩ := hrc.cells
  have hok := I1.hok
  have hc2 := hrc.mem
  have hc1 := hcv.mem
  have hm : ∀ b ∈ cl.map (·.2), b ∉ m := fun b hb => by
    obtain ⟨o, u, e, d⟩ := hc2 b hb
    exact cell_out hok R1 e d
  have Rh := Rel.hide (P := X.prog) (w := X.w) ⟨_, hok⟩ R1 hc2 hm hi hnl
  refine ⟨I1.kIn, ?_⟩
  have rc : codeAny (model X.prog X.w) X.A (.call (.ref (He.fAd X.K gp)) ⟨[.ref f], []⟩) (CR (L2.CX X.prog X.w) X.stack X.prog X.w H2 s1 Q (WE W' σ)) s1 := by
    refine run_ofS (N := ["what"]) (ps := ["what"]) (us := [.ref f]) (vs := [.ref f]) lk hcd S (k := k + 1) hr I1.env0 (G5.binds hb s1 [.ref f] I1.kIn rfl) (.cons rfl .nil) rfl fun hr' => ?_
    refine ⟨_, TBd cdv X.A X.stack s1 H2 (WE W' σ) (fun W => fun σZ HZ Q => ∃ f c' cl vs, σZ[0]? = some (some (.ref f)) ∧ HZ f = some (LamO f D.q D.params D.body D.scope cl c') ∧ HZ c' = some (CodeO c' D.q) ∧ cl.map (·.1) = D.free ∧ CellH HZ cl vs ∧
      liftG X.K T (RelW X.K) (fun cls d _ H' => (∀ b ∈ cl.map (·.2), H' b = none) → WE W σZ cls d (show_ cl HZ H')) (fe k0) (vs.map some) (hide cl HZ) (fun v H' => (∀ b ∈ cl.map (·.2), H' b = none) → Q v (show_ cl HZ H'))) (fun pn xe W p1 p2 tkk => ?_), ?_⟩
    · exact pe_actC (tb := fun E => liftG X.K T (RelW X.K) (fun cls d _ H => E cls d H) (fe k0)) LD hbind tkk hr' (fun cl A outer s H E f c' hr2 => (hbody cl A outer s H E f c' hr2).pe) rfl hvis
    · refine ⟨f, c', cl, vs, rfl, hf, hc', hrc.names, hcv, m, _, ws.map some, Rh, relS_all (hws.mono0 (Lt.hide hc1)), ?_⟩
      cases er : fe k0 (ws.map some) (h0.set i .dead) with
      | bad => rw [er] at P0; exact P0
      | ok w h' =>
        rw [er] at P0
        exact fun m' H' v l' R' rv hn => P0 m' _ v (Le.show hc1 R' l' hn) (Rel.show R' hn) (rv.mono0 (Lt.show hn))
      | ex cn pp h' =>
        rw [er] at P0
        dsimp only at P0
        intro m' H' l' R'
        cases es : sub cn with
        | none => rw [es] at P0; exact P0.elim
        | some bb =>
          rw [es] at P0
          have hx' := hx cn bb es
          cases bb with
          | true =>
            have z := fun hn => P0 m' _ (.str txt) (Le.show hc1 R' l' hn) (Rel.show R' hn) (.str txt)
            cases pp with
            | none => exact fun hn => ⟨true, hx', fun _ a _ => z hn, fun y => nomatch y⟩
            | some fw => exact fun d v _ _ _ hn => ⟨true, hx', fun _ a _ => z hn, fun y => nomatch y⟩
          | false =>
            have z := fun hn => P0 m' _ (Le.show hc1 R' l' hn) (Rel.show R' hn)
            cases pp with
            | none => exact fun hn => ⟨false, hx', fun y => (nomatch y), fun _ => z hn⟩
            | some fw =>
              intro d v h1 h2 h3 hn
              refine ⟨false, hx', fun y => (nomatch y), fun _ => z hn d v ?_ h2 (h3.mono0 (Lt.show hn))⟩
              rw [show_out (fun y => by rw [hn d y] at h1; cases h1)]
              exact h1
  refine wpAny_call (codeAny_mono rc fun r s2 hq => ?_)
  cases r with
  | error e => exact L2.passAt tk σ pins _ s1 e s2 I1 hq
  | ok fl =>
    cases fl with
    | ret u => exact I1.after hq
    | next => exact False.elim hq
    | brk => exact False.elim hq
    | cont => exact False.elim hq
end
end Fv
set_option Elab.async false
set_option linter.all false
set_option maxRecDepth 100000
set_option maxHeartbeats 4000000
namespace Fv
open PySem PySem.Spec PyProof.Rows L2 Fh LamX
/-! ### returns that see the slots -/
structure Er where
  nx : L2.St → Hp → Prop
  rt : V → L2.St → Hp → Prop
def SPr (X : Cx) (pins : List (Addr × Obj)) (D : Er) (f : Flow) (s' : Shared) : Prop := match f with
  | .next => ∃ σ' H', Inv X pins σ' H' s' ∧ D.nx σ' H'
  | .ret u => ∃ v σ' H', Inv X pins σ' H' s' ∧ RelV v u ∧ D.rt v σ' H'
  | _ => False
abbrev TR := Er → L2.St → Hp → Prop
structure PSr (X : Cx) (ss : List Stmt) (t : TR) : Prop where
  run : ∀ (pins : List (Addr × Obj)) (s : Shared) (σ : L2.St) (H : Hp) (D : Er), Inv X pins σ H s → t D σ H → wpAny (model X.prog X.w) X.A (execs ss X.env) (SPr X pins D) X.xe s
section
variable {X : Cx} {st : Stmt} {rest a b : List Stmt} {c e : Expr} {pos : Pos}
theorem psr_nil : PSr X [] (fun D σ H => D.nx σ H) := ⟨fun _ _ σ H _ I h => wpAny_execs_nil ⟨σ, H, I, h⟩⟩
theorem psr_cons {t : TS} {u : TR} (h1 : PS X st t) (h2 : PSr X rest u) : PSr X (st :: rest) (fun D σ H => t { nx := u D, rt := fun _ _ => False } σ H) := by
  refine ⟨fun pins s σ H D I h => ?_⟩
  refine wpAny_execs_cons (thn (h1.run pins s σ H _ I h) fun f s1 q => ?_)
  cases f with
  | next =>
    obtain ⟨σ', H', I', q⟩ := q
    exact h2.run pins s1 σ' H' D I' q
  | ret v => obtain ⟨_, _, _, _, _, z⟩ := q; exact z.elim
  | brk => obtain ⟨_, _, _, z⟩ := q; exact z.elim
  | cont => obtain ⟨_, _, _, z⟩ := q; exact z.elim
theorem psr_if {tc : TT} {ta tb u : TR} (hc : PT X c tc) (ha : PSr X a ta) (hb : PSr X b tb) (hr : PSr X rest u) : PSr X (.If c a b pos :: rest) (fun D σ H => tc σ H fun bb H1 => if bb = true then ta { D with nx := u D } σ H1 else tb { D with nx := u D } σ H1) := by
  refine ⟨fun pins s σ H D I h => ?_⟩
  have fin : ∀ f s1, SPr X pins { D with nx := u D } f s1 → (match f with | .next => wpAny (model X.prog X.w) X.A (execs rest X.env) (SPr X pins D) X.xe s1 | f => SPr X pins D f s1) := fun f s1 q => by
    cases f with
    | next =>
      obtain ⟨σ', H', I', q⟩ := q
      exact hr.run pins s1 σ' H' D I' q
    | ret v => exact q
    | brk => exact q
    | cont => exact q
  refine wpAny_execs_cons (wpAny_If (thn (hc.run pins s σ H _ I h) fun d s1 ⟨H1, I1, q1⟩ => ?_))
  cases d with
  | true =>
    refine thn (ha.run pins s1 σ H1 _ I1 q1) fun f s2 q => ?_
    have := fin f s2 q
    cases f <;> exact this
  | false =>
    refine thn (hb.run pins s1 σ H1 _ I1 q1) fun f s2 q => ?_
    have := fin f s2 q
    cases f <;> exact this
theorem psr_ret {te : TE} (he : PE X e te) : PSr X (.Return (some e) pos :: rest) (fun D σ H => te σ H fun v H1 => D.rt v σ H1) := by
  refine ⟨fun pins s σ H D I h => ?_⟩
  refine wpAny_execs_cons (wpAny_Return_some (thn (he.run pins s σ H _ I h) fun v s1 ⟨x, H1, I1, r1, q1⟩ => ?_))
  exact ⟨x, σ, H1, I1, r1, q1⟩
end
end Fv
namespace Fv
open PySem PySem.Spec PyProof.Rows L2 Fh LamX
/-! ### a def whose cells live on -/
/-- H2 is H1 with the frame's cells told -/
structure Seal (X : Cx) (σ : L2.St) (H1 H2 : Hp) : Prop where
  cell : ∀ x c, X.env.cells.lookup x = some c → ∃ o, H2 c = some (CellX c o) ∧ ∀ (i : Nat) v, X.N[i]? = some x → σ[i]? = some (some v) → Vis X.env.scope x → X.env.scope.names.lookup x ≠ some .local → ∃ u, o.data = .cell (some u) ∧ RelV v u
  else_ : ∀ b, (∀ x c, X.env.cells.lookup x = some c → b ≠ c) → H2 b = H1 b
  inj : ∀ x y c, X.env.cells.lookup x = some c → X.env.cells.lookup y = some c → x = y
def sealRt (X : Cx) (Q : VK) : V → L2.St → Hp → Prop := fun v σ H1 => (∀ x c, X.env.cells.lookup x = some c → H1 c = none) → ∀ H2, Seal X σ H1 H2 → Q v H2
/-- what the cells of a frame are, as objects of h -/
def cellsOf (h : Heap) : Hp := fun b => (h.get? b).map (CellX b)
theorem seal_end {X : Cx} {pins : List (Addr × Obj)} {σ : L2.St} {H1 : Hp} {s' : Shared} {v : V} {Q : VK} (J : Inv X pins σ H1 s') (hfn : ∀ x, X.fn x = true) (hex : X.ex = []) (q : sealRt X Q v σ H1) :
    ∃ H2, Un X.fs [] X.H_0 H2 X.s_0.heap s'.heap ∧ HOk X.prog X.w H2 s'.heap ∧ Q v H2 := by
  let L : List (Str × Addr) := X.env.cells.filter fun p => decide (X.env.cells.lookup p.1 = some p.2)
  have hL : ∀ b, b ∈ L.map (·.2) ↔ ∃ x, X.env.cells.lookup x = some b := fun b => by
    constructor
    · intro hb
      obtain ⟨p, hp, rfl⟩ := List.mem_map.mp hb
      exact ⟨p.1, of_decide_eq_true (List.mem_filter.mp hp).2⟩
    · rintro ⟨x, e⟩
      exact List.mem_map.mpr ⟨(x, b), List.mem_filter.mpr ⟨PySem.mem_of_lookup e, decide_eq_true e⟩, rfl⟩
  have hn : ∀ b ∈ L.map (·.2), H1 b = none := fun b hb => by
    obtain ⟨x, e⟩ := (hL b).mp hb
    exact J.freeC x b e
  have hc : ∀ b ∈ L.map (·.2), ∃ o, cellsOf s'.heap b = some (CellX b o) ∧ s'.heap.get? b = some o := fun b hb => by
    obtain ⟨x, e⟩ := (hL b).mp hb
    obtain ⟨w, o, ho, _⟩ := J.cell x b e
    exact ⟨o, by unfold cellsOf; rw [ho]; rfl, ho⟩
  have un := J.base
  rw [hex] at un
  have nw : ∀ b o, X.s_0.heap.get? b = some o → b ∉ L.map (·.2) := fun b o e hb => by
    obtain ⟨x, ex⟩ := (hL b).mp hb
    have h1 := J.ok.cab x b (hfn x) ex
    exact absurd (Nat.lt_of_lt_of_le (Heap.lt_size e) h1) (Nat.lt_irrefl _)
  have ou : ∀ b u, H1 b = some u → b ∉ L.map (·.2) := fun b u e hb => by
    rw [hn b hb] at e
    cases e
  refine ⟨show_ L (cellsOf s'.heap) H1, ?_, HOk.show J.hok hn hc, q J.freeC _ ⟨fun x c e => ?_, fun b hb => ?_, J.ok.inj⟩⟩
  · refine ⟨un.keep, un.slot, fun b o e n hx => ?_, un.there, fun b xs e => ?_, fun b o u e => ?_, fun b ps e => ?_⟩
    · rw [show_out (nw b o e)]
      exact un.free b o e n hx
    · have z := un.tups b xs e
      rw [show_out (ou b _ z)]
      exact z
    · have z := un.frzs b o u e
      rw [show_out (ou b _ z)]
      exact z
    · obtain ⟨mo, z⟩ := un.tbls b ps e
      exact ⟨mo, by rw [show_out (ou b _ z)]; exact z⟩
  · have hb := (hL c).mpr ⟨x, e⟩
    obtain ⟨o, h1, h2⟩ := hc c hb
    refine ⟨o, by rw [show_in hb]; exact h1, fun i v' e1 e2 e3 nl => ?_⟩
    obtain ⟨mm, _, hl⟩ := J.loc
    obtain ⟨u, ru, lk⟩ := hl i x v' e1 e2 e3
    rcases lk with ⟨k, _⟩ | ⟨_, c2, ec, o2, ho2, hd2⟩
    · exact absurd (show X.env.scope.names.lookup x = some .local from k) nl
    · rw [e] at ec
      cases ec
      rw [h2] at ho2
      cases ho2
      exact ⟨u, hd2, ru⟩
  · exact show_out (fun z => by
      obtain ⟨x, ex⟩ := (hL b).mp z
      exact hb x b ex rfl)
end Fv
set_option Elab.async false
set_option linter.all false
set_option maxRecDepth 100000
set_option maxHeartbeats 4000000
namespace Fv
open PySem PySem.Spec PyProof.Rows L2 Fh LamX
section
variable {ar : Air} {P : Program} {w : World} {K : PySem.W.Frag} {mg : Str → Option Value} {base : Heap} {x qual : Str} {st : Stmt} {N ps : List Str} {k n : Nat} {p : He.Defn} {T : Tbs} {sp : Sp}
/-- the context of the def's body -/
abbrev bx (ar : Air) (P : Program) (w : World) (K : PySem.W.Frag) (mg : Str → Option Value) (base : Heap) (N : List Str) (qual : Str) (st : Stmt) (p : He.Defn) (A : Around) (outer : List Env) (s : Shared) (H : Hp) (E : XK) : Cx :=
  cxOf (ar.CX P w) P w K mg base N qual (defScope st) (He.fAd K p) (.ref (He.codeOf K p)) A outer s H E
theorem calR (hg : mg x = some (.ref (He.fAd K p))) (hf : ∃ fd, FunD K x qual (defArgs st) (defBody st) (defScope st) [] [] (He.fAd K p) fd) (S : FnScope N ps (defScope st)) (hb : BindOk x qual st ps) (hln : ∀ vs H Q E, sp vs H Q E → vs.length = ps.length)
    (body : ∀ (A : Around) (outer : List Env) (s : Shared) (H : Hp) (vs : List V) (Q : VK) (E : XK), Room k (A.deeper (envOfC qual (defScope st) s.heap.objs.size (He.fAd K p) (.ref (He.codeOf K p)))) → sp vs H Q E →
      ∃ t, PSr (bx ar P w K mg base N qual st p A outer s H E) (defBody st) t ∧ t ⟨fun _ _ => False, sealRt (bx ar P w K mg base N qual st p A outer s H E) Q⟩ (L2.start N vs) H) : CalX ar P w K mg base (k + 1) x sp := by
  obtain ⟨fd, F⟩ := hf
  have G := He5.fun_of F
  refine ⟨_, fd, ps, hg, G.kp, G.binds hb, ?_⟩
  obtain ⟨oc, od, kV, doc, pm, an, cdv, ct, osl, rfl, lk, hcd⟩ := G.ex
  obtain ⟨cc, rfl⟩ := He.codeIn_ref hcd
  have ec : He.codeOf K p = cc := He.codeOf_eq lk rfl
  subst ec
  constructor
  · exact hln
  intro A outer s H args us vs Q E hr e0 hbd rv hsp
  have keepB : ∀ b o, base.get? b = some o → s.heap.get? b = some o := fun b o e => (e0.bs b o e).1
  have inK : K.In s.heap := e0.mod.kin.keeps keepB
  have params : ∀ y ∈ ps.zip us, (defScope st).names.lookup y.1 = some .local ∨ ((defScope st).names.lookup y.1 = some .cell ∧ ((cellsFrom (s.heap.objs.size + 1) (defScope st).names []).lookup y.1).isSome = true) := by
    rintro ⟨y, v⟩ hy
    refine (S.par y (List.of_mem_zip hy).1).imp id fun q => ⟨q, ?_⟩
    exact PySem.W.cellsFrom_some _ _ _ (.inl q)
  refine codeAny_call_function hr.depth (inK _ _ lk) rfl S.co S.gen rfl (PySem.W.codeRec_of inK hcd) (hbd _ _ _ _ ?_)
  refine wpAny_newFunctionEnv_cells S.kind params fun env henv s1 inc => ?_
  cases henv
  refine ⟨(e0.mod.nolimit.keeps keepB).keeps inc.toInCall.keep, codeAny_func ?_⟩
  obtain ⟨t, ht, hq⟩ := body A outer s H vs Q E (hr.deeper _) hsp
  have I0 : Inv (bx ar P w K mg base N qual st p A outer s H E) [] (L2.start N vs) H s1 := inv_start S hr.hd e0 (hln _ _ _ _ hsp) rv inc
  refine wpAny_mono (ht.run [] s1 (L2.start N vs) H _ I0 hq) (fun fl s' hs => ?_) fun e s' hs => hs
  cases fl with
  | ret u =>
    obtain ⟨v, σ', H', J, r, q⟩ := hs
    obtain ⟨H2, un, hok, qq⟩ := seal_end J (fun _ => rfl) rfl q
    exact ⟨v, H2, J.os, J.bare, un, hok, r, qq⟩
  | next =>
    obtain ⟨σ', H', J, q⟩ := hs
    exact q.elim
  | brk => exact hs.elim
  | cont => exact hs.elim
end
/-! ### plain functions whose returns see the slots -/
inductive RR where
  | nx (sl : Sl) (h : LH) | rl (k : Nat) (w : W) (sl : Sl) (h : LH) | ex (c : Str) (p : Option (Str × W)) (sl : Sl) (h : LH) | bad
abbrev FR := Sl → LH → RR
/-- the cells of the k-th lambda, by slots -/
def caps (ix : List Nat) (sl : Sl) : Option (List W) := ix.mapM fun i => (sl[i]?).getD none
/-- the promise: a lambda of the text and a value -/
def runR (N : Nat) (ixs : List (List Nat)) (fb : FR) : List W → M W := fun ws h => match fb (sl0 N ws) h with
  | .rl k w sl h' => (match ixs[k]? with
    | some ix => (match caps ix sl with
      | some cs => .ok (.tup [.ref h'.length, w]) (h' ++ [.lam k cs])
      | none => .bad)
    | none => .bad)
  | .ex c p _ h' => .ex c p h'
  | _ => .bad
end Fv
set_option Elab.async false
set_option linter.all false
set_option maxRecDepth 100000
set_option maxHeartbeats 4000000
namespace Fv
open PySem PySem.Spec PyProof.Rows L2 Fh LamX
/-- p holds (the k-th lambda of the text, made here, v) -/
structure MadeL (X : Cx) (T : Tbs) (m : List Addr) (H : Hp) (m' : List Addr) (H' : Hp) (k : Nat) (w : W) (p : Addr) : Prop where
  ex : ∃ D f c' v, T.lams[k]? = some D ∧ H' p = some (.tup [.ref f, v]) ∧ H' f = some (LamO f D.q D.params D.body D.scope (cloFrom X.env.cells D.scope.names []) c') ∧ H' c' = some (CodeO c' D.q) ∧ RelW X.K m' H' w v ∧ f ∉ m' ∧ ∀ b o, H b = some o → (∀ ps, o ≠ .tbl ps) → b ∉ m → b ≠ f
def PostR (X : Cx) (T : Tbs) (m : List Addr) (H : Hp) (r : RR) (D : Er) (W' : WX) : Prop := match r with
  | .nx sl h => ∀ m' H' σ', Le X.K m H m' H' → Rel X.K T m' h H' → RelS X.K m' H' sl σ' → D.nx σ' H'
  | .rl k w sl h => ∀ m' H' σ' p, Le X.K m H m' H' → Rel X.K T m' h H' → RelS X.K m' H' sl σ' → MadeL X T m H m' H' k w p → D.rt (.ref p) σ' H'
  | .ex c p sl h => ∀ m' H' σ', Le X.K m H m' H' → Rel X.K T m' h H' → RelS X.K m' H' sl σ' → ExR X.K m' H' c p (WE W' σ')
  | .bad => False
theorem MadeL.mono {X : Cx} {T : Tbs} {m m1 m' : List Addr} {H H1 H' : Hp} {k : Nat} {w : W} {p : Addr} (l : Le X.K m H m1 H1) (x : MadeL X T m1 H1 m' H' k w p) : MadeL X T m H m' H' k w p := by
  obtain ⟨D, f, c', v, a1, a2, a3, a4, a5, a6, a7⟩ := x.ex
  exact ⟨D, f, c', v, a1, a2, a3, a4, a5, a6, fun b o e nt n => let ⟨z1, z2⟩ := l.oth b o e nt n; a7 b o z1 nt z2⟩
theorem PostR.mono {X : Cx} {T : Tbs} {m m1 : List Addr} {H H1 : Hp} (l : Le X.K m H m1 H1) {r : RR} {D : Er} {W' : WX} (h : PostR X T m H r D W') : PostR X T m1 H1 r D W' := by
  cases r with
  | nx sl h' => exact fun m' H' v l' => h m' H' v (l.trans l')
  | rl k w sl h' => exact fun m' H' v p l' R' S' x => h m' H' v p (l.trans l') R' S' (x.mono l)
  | ex c p sl h' => exact fun m' H' v l' => h m' H' v (l.trans l')
  | bad => exact h
structure PRv (X : Cx) (T : Tbs) (W' : WX) (ss : List Stmt) (f : FR) : Prop where
  pr : PSr X ss (fun D σ H => ∃ m h sl, Rel X.K T m h H ∧ RelS X.K m H sl σ ∧ PostR X T m H (f sl h) D W')
theorem psr_imp {X : Cx} {ss : List Stmt} {t t' : TR} (h : PSr X ss t) (f : ∀ D σ H, t' D σ H → t D σ H) : PSr X ss t' := ⟨fun pins s σ H D I q => h.run pins s σ H D I (f D σ H q)⟩
def rNo : FR := fun _ _ => .bad
def rNx : FR := fun sl h => .nx sl h
def rSeq (f : FS) (g : FR) : FR := fun sl h => match f sl h with
  | .nx sl' h' => g sl' h'
  | .ex c p sl' h' => .ex c p sl' h'
  | _ => .bad
def rIf (c : Sl → M Bool) (f g k : FR) : FR := fun sl h => match c sl h with
  | .ok b h1 => (match (if b = true then f else g) sl h1 with
    | .nx sl' h' => k sl' h'
    | r => r)
  | .ex c p h1 => .ex c p sl h1
  | .bad => .bad
def rLam (k : Nat) (fe : Sl → M W) : FR := fun sl h => match fe sl h with
  | .ok w h' => .rl k w sl h'
  | .ex c p h' => .ex c p sl h'
  | .bad => .bad
section
variable {X : Cx} {T : Tbs} {W' : WX} {st : Stmt} {rest a b : List Stmt} {c e : Expr} {pos : Pos}
theorem rv_no : PRv X T W' rest rNo := ⟨⟨fun _ _ _ _ _ _ h => by obtain ⟨_, _, _, _, _, P⟩ := h; exact P.elim⟩⟩
theorem rv_nil : PRv X T W' [] rNx := by
  refine ⟨psr_imp psr_nil fun D σ H h => ?_⟩
  obtain ⟨m, h, sl, R1, S1, P⟩ := h
  exact P m H σ .refl R1 S1
theorem rv_cons {f : FS} {g : FR} (h1 : PSv X T W' st f) (h2 : PRv X T W' rest g) : PRv X T W' (st :: rest) (rSeq f g) := by
  refine ⟨psr_imp (psr_cons h1.ps h2.pr) fun D σ H h => ?_⟩
  obtain ⟨m, h, sl, R1, S1, P⟩ := h
  refine ⟨m, h, sl, R1, S1, ?_⟩
  unfold rSeq at P
  cases er : f sl h with
  | nx sl' h' =>
    rw [er] at P
    exact fun m' H' σ' l R' S' => ⟨m', h', sl', R', S', P.mono l⟩
  | ex c p sl' h' =>
    rw [er] at P
    exact P
  | rt _ _ => rw [er] at P; exact P.elim
  | bk _ _ => rw [er] at P; exact P.elim
  | ct _ _ => rw [er] at P; exact P.elim
  | bad => rw [er] at P; exact P.elim
theorem rv_if {fc : Sl → M Bool} {f g k : FR} (hc : PTv X T W' c fc) (ha : PRv X T W' a f) (hb : PRv X T W' b g) (hr : PRv X T W' rest k) : PRv X T W' (.If c a b pos :: rest) (rIf fc f g k) := by
  refine ⟨psr_imp (psr_if hc.pt ha.pr hb.pr hr.pr) fun D σ H h => ?_⟩
  obtain ⟨m, h, sl, R1, S1, P⟩ := h
  refine ⟨m, h, sl, R1, S1, ?_⟩
  unfold rIf at P
  cases ec : fc sl h with
  | bad => rw [ec] at P; exact P
  | ex c p h1 => rw [ec] at P; exact fun m' H' l R' => P m' H' σ l R' (S1.mono l)
  | ok bb h1 =>
    rw [ec] at P
    dsimp only at P
    intro m1 H1 v l1 R2 ev
    obtain rfl : bb = v := ev
    have step : ∀ (ff : FR), PostR X T m H (match ff sl h1 with | .nx sl' h' => k sl' h' | r => r) D W' → PostR X T m1 H1 (ff sl h1) { D with nx := fun σ H => ∃ m h sl, Rel X.K T m h H ∧ RelS X.K m H sl σ ∧ PostR X T m H (k sl h) D W' } W' := fun ff Q => by
      cases ef : ff sl h1 with
      | nx sl' h' => rw [ef] at Q; exact fun m' H' σ' l R' S' => ⟨m', h', sl', R', S', PostR.mono (l1.trans l) Q⟩
      | rl k w sl' h' => rw [ef] at Q; exact PostR.mono (r := .rl k w sl' h') l1 Q
      | ex c p sl' h' => rw [ef] at Q; exact PostR.mono (r := .ex c p sl' h') l1 Q
      | bad => rw [ef] at Q; exact Q
    cases bb with
    | true => exact ⟨m1, h1, sl, R2, S1.mono l1, step f P⟩
    | false => exact ⟨m1, h1, sl, R2, S1.mono l1, step g P⟩
end
end Fv
set_option Elab.async false
set_option linter.all false
set_option maxRecDepth 100000
set_option maxHeartbeats 4000000
namespace Fv
open PySem PySem.Spec PyProof.Rows L2 Fh LamX
section
variable {X : Cx} {T : Tbs} {W' : WX} {rest : List Stmt} {e : Expr} {pos tp lpos : Pos}
/-- return (lambda: .., e) -/
theorem rv_lam {k kk : Nat} {c PT : Addr} {params : Arguments} {body : Expr} {scope : Scope} {free : List Str} {fe : Sl → M W} (hk : T.lams[k]? = some ⟨X.env.qual ++ "<lambda>", params, body, scope, free⟩) (TB : LamX.TabB X.base X.mg c PT) (hcode : X.env.code = .ref c) (L : LamS X.env.scope scope)
    (hl : (PT, X.env.qual ++ "<lambda>") ∈ T.tl) (hng : PT ∉ T.tg) (hu : ∀ p ∈ T.tl, p.1 = PT → p.2 = X.env.qual ++ "<lambda>") (he : PEv X T W' e fe) (hdef : defaultsOf params X.env = ([], []) := by rfl)
    (hs : starEach [.Lambda params body scope lpos, e] X.env = (false, eval (.Lambda params body scope lpos) X.env) :: starEach [e] X.env := by rfl) (hs2 : starEach [e] X.env = (false, eval e X.env) :: starEach [] X.env := by rfl) :
    PRv X T W' (.Return (some (.Tuple [.Lambda params body scope lpos, e] kk tp)) pos :: rest) (rLam k fe) := by
  refine ⟨psr_imp (psr_ret (pe_tup (pa_cons (pe_lam TB hcode L hdef) (pa_cons he.pe pa_nil hs2) hs))) fun D σ H h => ?_⟩
  obtain ⟨m, h, sl, R1, S1, P⟩ := h
  refine ⟨R1.tl _ hl, fun f c' H1 bt t1 hc hn => ?_⟩
  have Rb := R1.but hl hng hu bt t1
  have l1 : Le X.K m H m H1 := Le.but (R1.tl _ hl) bt
  have R2 := Rb.aside hn (LamO f (X.env.qual ++ "<lambda>") params body scope (cloFrom X.env.cells scope.names []) c')
  have l2 := l1.trans (Le.aside Rb hn (LamO f (X.env.qual ++ "<lambda>") params body scope (cloFrom X.env.cells scope.names []) c'))
  have hf2 : upd H1 f (LamO f (X.env.qual ++ "<lambda>") params body scope (cloFrom X.env.cells scope.names []) c') f = some (LamO f (X.env.qual ++ "<lambda>") params body scope (cloFrom X.env.cells scope.names []) c') := upd_same
  have hc2 : upd H1 f (LamO f (X.env.qual ++ "<lambda>") params body scope (cloFrom X.env.cells scope.names []) c') c' = some (CodeO c' (X.env.qual ++ "<lambda>")) := by rw [upd_ne (ne_of_none hc hn)]; exact hc
  have fm : f ∉ m := fun z => by
    obtain ⟨u, hu, _⟩ := Rb.mem z
    rw [hn] at hu
    cases hu
  refine ⟨m, h, sl, R2, S1.mono l2, ?_⟩
  unfold rLam at P
  cases er : fe sl h with
  | bad => rw [er] at P; exact P
  | ex cn pp h' => rw [er] at P; exact fun m' H' l' R' => P m' H' σ (l2.trans l') R' ((S1.mono l2).mono l')
  | ok w h' =>
    rw [er] at P
    intro m' H' v l' R' rv
    refine ⟨by show 2 ≤ sizeLine; rw [sizeLine_eq]; decide, fun p hp => ?_⟩
    have l3 := Le.aside R' hp (.tup [.ref f, v])
    have hf3 := l'.ext f _ hf2
    have hc3 := l'.ext c' _ hc2
    refine P m' _ σ p ((l2.trans l').trans l3) (R'.aside hp _) (((S1.mono l2).mono l').mono l3) ⟨_, f, c', v, hk, upd_same, l3.ext f _ hf3, l3.ext c' _ hc3, rv.mono l3, ?_, fun b o eb nt nm => ?_⟩
    · exact (l'.oth f _ hf2 (fun ps z => by unfold LamO at z; cases z) fm).2
    · exact ne_of_none (l1.oth b o eb nt nm).1 hn
end
theorem cloFrom_names {cells : List (Str × Addr)} : ∀ {names : List (Str × NameKind)} {acc : List (Str × Addr)}, (cloFrom cells names acc).map (·.1) = ((names.filter fun y => y.2 == .free).map (·.1)).reverse ++ acc.map (·.1)
  | [], acc => rfl
  | (n, k) :: r, acc => by
    unfold cloFrom
    by_cases h : (k == NameKind.free) = true
    · rw [if_pos h, cloFrom_names]
      simp [List.filter, h]
    · rw [if_neg h, cloFrom_names]
      have h : (k == NameKind.free) = false := by simpa using h
      simp [List.filter, h]
/-- what the text tells of a kept lambda and the def that makes it -/
structure LamIx (N : List Str) (sc : Scope) (D : LamDat) (ix : List Nat) : Prop where
  free : D.free = ((D.scope.names.filter fun y => y.2 == .free).map (·.1)).reverse
  cell : ∀ x ∈ D.free, sc.names.lookup x = some .cell
  ix : ix.map (fun i => N[i]?) = D.free.map some
  nd : D.free.Nodup
section
variable {K : PySem.W.Frag} {m : List Addr} {H1 H2 : Hp} {X : Cx} {σ : L2.St} {sl : Sl}
theorem caps_rel (E : Seal X σ H1 H2) (S1 : RelS K m H2 sl σ) : ∀ {cl : List (Str × Addr)} {ix : List Nat} {ws : List W}, (∀ p ∈ cl, X.env.cells.lookup p.1 = some p.2) → (∀ p ∈ cl, X.env.scope.names.lookup p.1 = some .cell) → ix.map (fun i => X.N[i]?) = (cl.map (·.1)).map some → (cl.map (·.1)).Nodup → caps ix sl = some ws → RelC K m H2 (cl.map (·.1)) cl ws
  | [], [], ws, _, _, _, _, e => by
    simp [caps] at e
    subst e
    exact .nil
  | (x, c) :: cl, i :: ix, ws, h1, h2, h3, h4, e => by
    have h3 : X.N[i]? = some x ∧ ix.map (fun i => X.N[i]?) = (cl.map (·.1)).map some := by simpa using h3
    have h4 := List.nodup_cons.mp h4
    unfold caps at e
    rw [List.mapM_cons] at e
    cases ei : (sl[i]?).getD none with
    | none => rw [ei] at e; cases e
    | some w =>
      rw [ei] at e
      cases er : ix.mapM fun i => (sl[i]?).getD none with
      | none => rw [er] at e; cases e
      | some ws2 =>
        rw [er] at e
        cases e
        have es : sl[i]? = some (some w) := by
          cases z : sl[i]? with
          | none => rw [z] at ei; cases ei
          | some o => rw [z] at ei; exact congrArg some ei
        obtain ⟨v, ev, rv⟩ := S1.get i w es
        have hx : X.env.cells.lookup x = some c := h1 (x, c) (by simp)
        have hk : X.env.scope.names.lookup x = some .cell := h2 (x, c) (by simp)
        obtain ⟨o, ho, hv⟩ := E.cell x c hx
        obtain ⟨u, hd, ru⟩ := hv i v h3.1 ev (.inr (.inl hk)) (fun z => by rw [hk] at z; cases z)
        refine .cons ho hd ru rv (fun p hp z => ?_) (caps_rel E S1 (fun p hp => h1 p (List.mem_cons_of_mem _ hp)) (fun p hp => h2 p (List.mem_cons_of_mem _ hp)) h3.2 h4.2 er)
        have hy := h1 p (List.mem_cons_of_mem _ hp)
        rw [z] at hy
        have := E.inj _ _ _ hx hy
        exact h4.1 (by rw [this]; exact List.mem_map.mpr ⟨p, hp, rfl⟩)
  | [], _ :: _, _, _, _, h, _, _ => by simp at h
  | _ :: _, [], _, _, _, h, _, _ => by simp at h
end
end Fv
set_option Elab.async false
set_option linter.all false
set_option maxRecDepth 100000
set_option maxHeartbeats 4000000
namespace Fv
open PySem PySem.Spec PyProof.Rows L2 Fh LamX
section
variable {ar : Air} {P : Program} {w : World} {K : PySem.W.Frag} {mg : Str → Option Value} {base : Heap} {x qual : Str} {st : Stmt} {N ps : List Str} {k n : Nat} {p : He.Defn} {T : Tbs}
theorem seal_lam {X : Cx} {m m' : List Addr} {H H1 : Hp} {h' : LH} {kk : Nat} {ww : W} {sl : Sl} {σ : L2.St} {ix : List Nat} {cs : List W} {pp : Addr} {Q : VK} {E : XK} (hcell : ∀ y, X.env.scope.names.lookup y = some .cell → ∃ c, X.env.cells.lookup y = some c)
    (l : Le X.K m H m' H1) (R1 : Rel X.K T m' h' H1) (S1 : RelS X.K m' H1 sl σ) (M : MadeL X T m H m' H1 kk ww pp) (hix : ∀ D, T.lams[kk]? = some D → LamIx X.N X.env.scope D ix) (ec : caps ix sl = some cs)
    (P0 : Post X.K T (RelW X.K) m H (.ok (.tup [.ref h'.length, ww]) (h' ++ [.lam kk cs])) Q E) : sealRt X Q (.ref pp) σ H1 := by
  intro hn H2 sea
  obtain ⟨D, f, c', v, hD, hp, hf, hc, rv, fm, fresh⟩ := M.ex
  have LX := hix D hD
  have out : ∀ {b u}, H1 b = some u → H2 b = some u := fun {b u} e => by
    rw [sea.else_ b fun y c ey z => by rw [z, hn y c ey] at e; cases e]
    exact e
  have lt1 : Lt X.K m' H1 m' H2 := ⟨⟨[], (List.append_nil _).symm⟩, fun a vs s => sqT_of (fun b u xs e _ => by rw [out e, e]) s⟩
  have R2 : Rel X.K T m' h' H2 := by
    refine ⟨R1.len, R1.nd, fun j a o e1 e2 => ?_, fun Q hQ => ?_, fun q hq => ?_⟩
    · have kx := R1.obj j a o e1 e2
      obtain ⟨u, hu, _⟩ := kx.some
      exact kx.mono0 lt1 (fun b φ e => out e) (by rw [out hu, hu])
    · obtain ⟨qs, e, kq⟩ := R1.tg Q hQ
      exact ⟨qs, out e, kq⟩
    · obtain ⟨qs, e, kq, hcd⟩ := R1.tl q hq
      refine ⟨qs, out e, kq, fun pos cv z => ?_⟩
      obtain ⟨c, e1, e2⟩ := hcd pos cv z
      exact ⟨c, e1, out e2⟩
  have cm : ∀ q ∈ cloFrom X.env.cells D.scope.names [], X.env.cells.lookup q.1 = some q.2 ∧ X.env.scope.names.lookup q.1 = some .cell := fun q hq => by
    have hfr : q.1 ∈ D.free := by
      rw [LX.free]
      have : q.1 ∈ (cloFrom X.env.cells D.scope.names []).map (·.1) := List.mem_map.mpr ⟨q, hq, rfl⟩
      rw [cloFrom_names] at this
      simpa using this
    have hk := LX.cell q.1 hfr
    obtain ⟨c, ec⟩ := hcell q.1 hk
    rcases cloFrom_mem (n := q.1) (c := q.2) hq with z | ⟨_, z⟩
    · cases z
    · rw [ec] at z
      exact ⟨by rw [ec, z]; rfl, hk⟩
  have nm : (cloFrom X.env.cells D.scope.names []).map (·.1) = D.free := by
    rw [cloFrom_names, LX.free]
    simp
  have l2 : Le X.K m H (m' ++ [f]) H2 := by
    obtain ⟨t, et⟩ := l.pre
    refine ⟨⟨t ++ [f], by rw [et, List.append_assoc]⟩, fun a vs s => lt1.tup a vs (l.tup a vs s), fun b o eb nt nb => ?_, fun b o u eb => out (l.frz b o u eb), fun b φ eb => out (l.ext b φ eb)⟩
    obtain ⟨z1, z2⟩ := l.oth b o eb nt nb
    refine ⟨out z1, fun z => ?_⟩
    rcases List.mem_append.mp z with z | z
    · exact z2 z
    · exact fresh b o eb nt nb (by simpa using z)
  have lt2 : Lt X.K m' H2 (m' ++ [f]) H2 := ⟨⟨[f], rfl⟩, fun _ _ s => s⟩
  have S2 : RelS X.K m' H2 sl σ := ⟨S1.len, fun i w e => let ⟨v, e1, r⟩ := S1.get i w e; ⟨v, e1, r.mono0 lt1⟩⟩
  have rc := caps_rel (K := X.K) (m := m') sea S2 (cl := cloFrom X.env.cells D.scope.names []) (fun q hq => (cm q hq).1) (fun q hq => (cm q hq).2) (by rw [nm]; exact LX.ix) (by rw [nm]; exact LX.nd) ec
  have R3 : Rel X.K T (m' ++ [f]) (h' ++ [.lam kk cs]) H2 := R2.adopt fm ⟨D, _, c', hD, out hf, out hc, by rw [← nm]; exact rc.mono0 lt2 (fun _ _ z => z)⟩
  refine P0 (m' ++ [f]) H2 (.ref pp) l2 R3 (.tup (SqT.of (out hp)) (.cons (.ref ?_) (.cons ((rv.mono0 lt1).mono0 lt2) .nil)))
  rw [← R1.len]
  simp
theorem calRv {mN : Nat} {ixs : List (List Nat)} {fb : FR} (hg : mg x = some (.ref (He.fAd K p))) (hf : ∃ fd, FunD K x qual (defArgs st) (defBody st) (defScope st) [] [] (He.fAd K p) fd) (S : FnScope N ps (defScope st)) (hb : BindOk x qual st ps) (hn : n = ps.length) (hN : N.length = mN)
    (hix : ∀ (kk : Nat) D ix, T.lams[kk]? = some D → ixs[kk]? = some ix → LamIx N (defScope st) D ix)
    (body : ∀ (A : Around) (outer : List Env) (s : Shared) (H : Hp) (E : XK), Room k (A.deeper (envOfC qual (defScope st) s.heap.objs.size (He.fAd K p) (.ref (He.codeOf K p)))) →
      PRv (bx ar P w K mg base N qual st p A outer s H E) T (fun cls d _ H => E cls d H) (defBody st) fb) : CalX ar P w K mg base (k + 1) x (spF K T n (runR mN ixs fb)) := by
  subst hN
  refine calR hg hf S hb (fun vs H Q E z => ?_) fun A outer s H vs Q E hr z => ?_
  · obtain ⟨m, h0, ws, R1, rs, hl, _⟩ := z
    rw [← rs.length, hl, hn]
  obtain ⟨m, h0, ws, R1, rs, hl, P0⟩ := z
  refine ⟨_, (body A outer s H E hr).pr, m, h0, sl0 N.length ws, R1, relS_start rs, ?_⟩
  unfold runR at P0
  cases er : fb (sl0 N.length ws) h0 with
  | bad => rw [er] at P0; exact P0.elim
  | nx _ _ => rw [er] at P0; exact P0.elim
  | ex cn pp sl' h' => rw [er] at P0; exact fun m' H' σ' l R' S' => P0 m' H' l R'
  | rl kk ww sl' h' =>
    rw [er] at P0
    dsimp only at P0
    intro m' H' σ' pp l R' S' M
    cases ei : ixs[kk]? with
    | none => rw [ei] at P0; exact P0.elim
    | some ix =>
      rw [ei] at P0
      cases ec : caps ix sl' with
      | none => simp only [ec] at P0; exact P0.elim
      | some cs =>
        simp only [ec] at P0
        exact seal_lam (fun y hy => cell_has hy) l R' S' M (fun D hD => hix kk D ix hD ei) ec P0
end
end Fv
set_option Elab.async false
set_option linter.all false
set_option maxRecDepth 100000
set_option maxHeartbeats 4000000
namespace Fv
open PySem PySem.Spec PyProof.Rows L2 Fh LamX
/-- the free names of a lambda's scope, last first -/
def freeOf (sc : Scope) : List Str := ((sc.names.filter fun y => y.2 == .free).map (·.1)).reverse
/-- the lambdas that a body hands out, in their order -/
def lamsIn (q : Str) : Nat → List Stmt → List LamDat
  | 0, _ => []
  | _ + 1, [] => []
  | n + 1, .Return (some (.Tuple [.Lambda ps b sc _, _] _ _)) _ :: r => ⟨q, ps, b, sc, freeOf sc⟩ :: lamsIn q n r
  | n + 1, .If _ a b _ :: r => lamsIn q n a ++ (lamsIn q n b ++ lamsIn q n r)
  | n + 1, _ :: r => lamsIn q n r
def nodupB : List Str → Bool
  | [] => true
  | x :: r => !(r.contains x) && nodupB r
theorem nodupB_ok : ∀ {l : List Str}, nodupB l = true → l.Nodup
  | [], _ => List.nodup_nil
  | x :: r, h => by
    unfold nodupB at h
    rw [Bool.and_eq_true] at h
    refine List.nodup_cons.mpr ⟨fun z => ?_, nodupB_ok h.2⟩
    have := h.1
    simp [z] at this
def lamIxB (N : List Str) (sc : Scope) (D : LamDat) (ix : List Nat) : Bool :=
  D.free == freeOf D.scope && (D.free.all fun x => sc.names.lookup x == some .cell) && (ix.map (fun i => N[i]?) == D.free.map some) && nodupB D.free
theorem lamIx_by {N : List Str} {sc : Scope} {D : LamDat} {ix : List Nat} (h : lamIxB N sc D ix = true) : LamIx N sc D ix := by
  unfold lamIxB at h
  simp only [Bool.and_eq_true] at h
  obtain ⟨⟨⟨h1, h2⟩, h3⟩, h4⟩ := h
  have h1 : D.free = freeOf D.scope := by simpa using h1
  refine ⟨h1, fun x hx => ?_, by simpa using h3, nodupB_ok h4⟩
  have := List.all_eq_true.mp h2 x hx
  simpa using this
def lamDSB (D : LamDat) : Bool := D.scope.kind == .function && !D.scope.isCoroutine && !D.scope.isGenerator && (D.scope.names.all fun y => !(y.2 == .local) && !(y.2 == .cell)) && (D.free == freeOf D.scope) && nodupB D.free
theorem lamDS_by {D : LamDat} (h : lamDSB D = true) : LamDS D := by
  unfold lamDSB at h
  simp only [Bool.and_eq_true] at h
  obtain ⟨⟨⟨⟨⟨h1, h2⟩, h3⟩, h4⟩, h5⟩, h6⟩ := h
  refine ⟨by simpa using h1, by simpa using h2, by simpa using h3, fun y hy => ?_, fun y hy e => ?_, nodupB_ok h6⟩
  · have := List.all_eq_true.mp h4 y hy
    rw [Bool.and_eq_true] at this
    exact ⟨by simpa using this.1, by simpa using this.2⟩
  · have h5 : D.free = freeOf D.scope := by simpa using h5
    rw [h5, freeOf]
    simp only [List.mem_reverse, List.mem_map, List.mem_filter]
    exact ⟨y, ⟨hy, by rw [e]; rfl⟩, rfl⟩
end Fv
namespace Fv
open PySem PySem.Spec PyProof.Rows L2 Fh LamX
def lamIxsB (N : List Str) (sc : Scope) : List LamDat → List (List Nat) → Bool
  | D :: r, ix :: s => lamIxB N sc D ix && lamIxsB N sc r s
  | _, _ => true
theorem lamIxs_by {N : List Str} {sc : Scope} : ∀ {Ds : List LamDat} {ixs : List (List Nat)}, lamIxsB N sc Ds ixs = true → ∀ (k : Nat) D ix, Ds[k]? = some D → ixs[k]? = some ix → LamIx N sc D ix
  | [], _, _, _, _, _, e, _ => by simp at e
  | _ :: _, [], _, _, _, _, _, e => by simp at e
  | D :: r, ix :: s, h, 0, D', ix', e1, e2 => by
    simp at e1 e2
    subst e1 e2
    unfold lamIxsB at h
    rw [Bool.and_eq_true] at h
    exact lamIx_by h.1
  | D :: r, ix :: s, h, k + 1, D', ix', e1, e2 => by
    unfold lamIxsB at h
    rw [Bool.and_eq_true] at h
    exact lamIxs_by h.2 k D' ix' (by simpa using e1) (by simpa using e2)
end Fv
set_option Elab.async false
set_option linter.all false
namespace Fv
open PySem PySem.Spec PyProof.Rows L2
/-- the top has left no list -/
def noLstB (K : PySem.W.Frag) : Bool := K.all fun p => match p.2.cls with
  | .type n => !(n == "list")
  | _ => true
theorem noLstB_ok {K : PySem.W.Frag} (h : noLstB K = true) {a : Addr} {o : Obj} (e : K.lookup a = some o) : o.cls ≠ .type "list" := fun z => by
  have m : ∀ {K : PySem.W.Frag}, K.lookup a = some o → ∃ b, (b, o) ∈ K := by
    intro K
    induction K with
    | nil => intro e; cases e
    | cons p r ih =>
      intro e
      obtain ⟨b, u⟩ := p
      unfold List.lookup at e
      split at e
      · cases e; exact ⟨b, List.mem_cons_self⟩
      · obtain ⟨c, hc⟩ := ih e; exact ⟨c, List.mem_cons_of_mem _ hc⟩
  obtain ⟨b, hb⟩ := m e
  have := List.all_eq_true.mp h _ hb
  simp [z] at this
theorem sqL_rd {K : PySem.W.Frag} (h : noLstB K = true) {H : Hp} {a : Addr} {xs : List V} (s : SqL K H a xs) : H a = some (.lst xs) ∨ ∃ o, H a = some (.frz o (.lst xs)) := by
  rcases s with s | ⟨o, its, n, e, c, _⟩
  · exact s
  · exact absurd c (noLstB_ok h e)
end Fv
set_option Elab.async false
set_option linter.all false
set_option maxRecDepth 100000
set_option maxHeartbeats 0
namespace K27
open PySem PySem.Spec PyProof.Rows L2
def top (i : Nat) : Stmt := PySem.Challenge.pw_fixturehall_k27_a_desk_and_its_deeds.main.body.getD i (.Pass ⟨0, 0, 0, 0⟩)
abbrev s_wall : Stmt := top 0
abbrev s_first_met : Stmt := top 11
abbrev s_is_word : Stmt := top 14
abbrev s_is_count : Stmt := top 15
abbrev s_is_name : Stmt := top 16
abbrev s_read : Stmt := top 18
abbrev s_doubled : Stmt := top 19
abbrev s_read_game : Stmt := top 20
abbrev s_told : Stmt := top 21
abbrev s_told_table : Stmt := top 22
abbrev s_check_teams : Stmt := top 24
abbrev s_circle : Stmt := top 25
abbrev s_twice : Stmt := top 26
abbrev s_law_dice : Stmt := top 30
abbrev s_law_roll : Stmt := top 31
abbrev s_law_rounds : Stmt := top 32
abbrev s_law_told : Stmt := top 33
abbrev s_law_deed : Stmt := top 34
abbrev s_law_table : Stmt := top 35
abbrev s_law : Stmt := top 36
abbrev s_BadText_d_initd_ : Stmt := inClass (top 6) 0
abbrev s_Table_d_initd_ : Stmt := inClass (top 10) 0
abbrev s_Table_game : Stmt := inClass (top 10) 1
abbrev s_Table_mark : Stmt := inClass (top 10) 2
abbrev s_Table_take : Stmt := inClass (top 10) 3
abbrev s_Table_sums : Stmt := inClass (top 10) 4
abbrev s_Table_worth_by : Stmt := inClass (top 10) 5
abbrev s_Table_ranked : Stmt := inClass (top 10) 6
abbrev s_Table_parted : Stmt := inClass (top 10) 7
abbrev s_Table_place : Stmt := inClass (top 10) 8
abbrev s_Table_to_play : Stmt := inClass (top 10) 9
abbrev s_Season_d_initd_ : Stmt := inClass (top 17) 0
abbrev s_Season_lay : Stmt := inClass (top 17) 1
abbrev s_Season_table : Stmt := inClass (top 17) 2
abbrev s_Season_up_to : Stmt := inClass (top 17) 3
abbrev s_Season_unplayed : Stmt := inClass (top 17) 4
abbrev s_Season_put : Stmt := inClass (top 17) 5
abbrev s_Desk_d_initd_ : Stmt := inClass (top 28) 0
abbrev s_Desk_note : Stmt := inClass (top 28) 1
abbrev s_Desk_begin : Stmt := inClass (top 28) 2
abbrev s_Desk_put : Stmt := inClass (top 28) 3
abbrev s_Desk_table : Stmt := inClass (top 28) 4
abbrev s_Desk_undo : Stmt := inClass (top 28) 5
abbrev s_Desk_redo : Stmt := inClass (top 28) 6
/-! ### the head's data -/
def dd_wall : He.DefD := ⟨("_wall", none), "_wall", "_wall", defArgs s_wall, defBody s_wall, defScope s_wall, [], []⟩
def dd_first_met : He.DefD := ⟨("first_met", none), "first_met", "first_met", defArgs s_first_met, defBody s_first_met, defScope s_first_met, [], []⟩
def dd_is_word : He.DefD := ⟨("is_word", none), "is_word", "is_word", defArgs s_is_word, defBody s_is_word, defScope s_is_word, [], []⟩
def dd_is_count : He.DefD := ⟨("is_count", none), "is_count", "is_count", defArgs s_is_count, defBody s_is_count, defScope s_is_count, [], []⟩
def dd_is_name : He.DefD := ⟨("is_name", none), "is_name", "is_name", defArgs s_is_name, defBody s_is_name, defScope s_is_name, [], []⟩
def dd_read : He.DefD := ⟨("read", none), "read", "read", defArgs s_read, defBody s_read, defScope s_read, [], []⟩
def dd_doubled : He.DefD := ⟨("doubled", none), "doubled", "doubled", defArgs s_doubled, defBody s_doubled, defScope s_doubled, [], []⟩
def dd_read_game : He.DefD := ⟨("read_game", none), "read_game", "read_game", defArgs s_read_game, defBody s_read_game, defScope s_read_game, [], []⟩
def dd_told : He.DefD := ⟨("told", none), "told", "told", defArgs s_told, defBody s_told, defScope s_told, [], []⟩
def dd_told_table : He.DefD := ⟨("told_table", none), "told_table", "told_table", defArgs s_told_table, defBody s_told_table, defScope s_told_table, [], []⟩
def dd_check_teams : He.DefD := ⟨("check_teams", none), "check_teams", "check_teams", defArgs s_check_teams, defBody s_check_teams, defScope s_check_teams, [], []⟩
def dd_circle : He.DefD := ⟨("circle", none), "circle", "circle", defArgs s_circle, defBody s_circle, defScope s_circle, [], []⟩
def dd_twice : He.DefD := ⟨("twice", none), "twice", "twice", defArgs s_twice, defBody s_twice, defScope s_twice, [], []⟩
def dd_law_dice : He.DefD := ⟨("_law_dice", none), "_law_dice", "_law_dice", defArgs s_law_dice, defBody s_law_dice, defScope s_law_dice, [], []⟩
def dd_law_roll : He.DefD := ⟨("_law_roll", none), "_law_roll", "_law_roll", defArgs s_law_roll, defBody s_law_roll, defScope s_law_roll, [], []⟩
def dd_law_rounds : He.DefD := ⟨("_law_rounds", none), "_law_rounds", "_law_rounds", defArgs s_law_rounds, defBody s_law_rounds, defScope s_law_rounds, [], []⟩
def dd_law_told : He.DefD := ⟨("_law_told", none), "_law_told", "_law_told", defArgs s_law_told, defBody s_law_told, defScope s_law_told, [], []⟩
def dd_law_deed : He.DefD := ⟨("_law_deed", none), "_law_deed", "_law_deed", defArgs s_law_deed, defBody s_law_deed, defScope s_law_deed, [], []⟩
def dd_law_table : He.DefD := ⟨("_law_table", none), "_law_table", "_law_table", defArgs s_law_table, defBody s_law_table, defScope s_law_table, [], []⟩
def dd_law : He.DefD := ⟨("law", none), "law", "law", defArgs s_law, defBody s_law, defScope s_law, [], []⟩
def dd_BadText_d_initd_ : He.DefD := ⟨("BadText", some "__init__"), "__init__", "BadText.__init__", defArgs s_BadText_d_initd_, defBody s_BadText_d_initd_, defScope s_BadText_d_initd_, [], []⟩
def dd_Table_d_initd_ : He.DefD := ⟨("Table", some "__init__"), "__init__", "Table.__init__", defArgs s_Table_d_initd_, defBody s_Table_d_initd_, defScope s_Table_d_initd_, [], []⟩
def dd_Table_game : He.DefD := ⟨("Table", some "game"), "game", "Table.game", defArgs s_Table_game, defBody s_Table_game, defScope s_Table_game, [], []⟩
def dd_Table_mark : He.DefD := ⟨("Table", some "mark"), "mark", "Table.mark", defArgs s_Table_mark, defBody s_Table_mark, defScope s_Table_mark, [], []⟩
def dd_Table_take : He.DefD := ⟨("Table", some "take"), "take", "Table.take", defArgs s_Table_take, defBody s_Table_take, defScope s_Table_take, [], []⟩
def dd_Table_sums : He.DefD := ⟨("Table", some "sums"), "sums", "Table.sums", defArgs s_Table_sums, defBody s_Table_sums, defScope s_Table_sums, [], []⟩
def dd_Table_worth_by : He.DefD := ⟨("Table", some "worth_by"), "worth_by", "Table.worth_by", defArgs s_Table_worth_by, defBody s_Table_worth_by, defScope s_Table_worth_by, [], []⟩
def dd_Table_ranked : He.DefD := ⟨("Table", some "ranked"), "ranked", "Table.ranked", defArgs s_Table_ranked, defBody s_Table_ranked, defScope s_Table_ranked, [], []⟩
def dd_Table_parted : He.DefD := ⟨("Table", some "parted"), "parted", "Table.parted", defArgs s_Table_parted, defBody s_Table_parted, defScope s_Table_parted, [], []⟩
def dd_Table_place : He.DefD := ⟨("Table", some "place"), "place", "Table.place", defArgs s_Table_place, defBody s_Table_place, defScope s_Table_place, [], []⟩
def dd_Table_to_play : He.DefD := ⟨("Table", some "to_play"), "to_play", "Table.to_play", defArgs s_Table_to_play, defBody s_Table_to_play, defScope s_Table_to_play, [], []⟩
def dd_Season_d_initd_ : He.DefD := ⟨("Season", some "__init__"), "__init__", "Season.__init__", defArgs s_Season_d_initd_, defBody s_Season_d_initd_, defScope s_Season_d_initd_, [], []⟩
def dd_Season_lay : He.DefD := ⟨("Season", some "lay"), "lay", "Season.lay", defArgs s_Season_lay, defBody s_Season_lay, defScope s_Season_lay, [], []⟩
def dd_Season_table : He.DefD := ⟨("Season", some "table"), "table", "Season.table", defArgs s_Season_table, defBody s_Season_table, defScope s_Season_table, [], []⟩
def dd_Season_up_to : He.DefD := ⟨("Season", some "up_to"), "up_to", "Season.up_to", defArgs s_Season_up_to, defBody s_Season_up_to, defScope s_Season_up_to, [], []⟩
def dd_Season_unplayed : He.DefD := ⟨("Season", some "unplayed"), "unplayed", "Season.unplayed", defArgs s_Season_unplayed, defBody s_Season_unplayed, defScope s_Season_unplayed, [], []⟩
def dd_Season_put : He.DefD := ⟨("Season", some "put"), "put", "Season.put", defArgs s_Season_put, defBody s_Season_put, defScope s_Season_put, [], []⟩
def dd_Desk_d_initd_ : He.DefD := ⟨("Desk", some "__init__"), "__init__", "Desk.__init__", defArgs s_Desk_d_initd_, defBody s_Desk_d_initd_, defScope s_Desk_d_initd_, [], []⟩
def dd_Desk_note : He.DefD := ⟨("Desk", some "note"), "note", "Desk.note", defArgs s_Desk_note, defBody s_Desk_note, defScope s_Desk_note, [], []⟩
def dd_Desk_begin : He.DefD := ⟨("Desk", some "begin"), "begin", "Desk.begin", defArgs s_Desk_begin, defBody s_Desk_begin, defScope s_Desk_begin, [], []⟩
def dd_Desk_put : He.DefD := ⟨("Desk", some "put"), "put", "Desk.put", defArgs s_Desk_put, defBody s_Desk_put, defScope s_Desk_put, [], []⟩
def dd_Desk_table : He.DefD := ⟨("Desk", some "table"), "table", "Desk.table", defArgs s_Desk_table, defBody s_Desk_table, defScope s_Desk_table, [], []⟩
def dd_Desk_undo : He.DefD := ⟨("Desk", some "undo"), "undo", "Desk.undo", defArgs s_Desk_undo, defBody s_Desk_undo, defScope s_Desk_undo, [], []⟩
def dd_Desk_redo : He.DefD := ⟨("Desk", some "redo"), "redo", "Desk.redo", defArgs s_Desk_redo, defBody s_Desk_redo, defScope s_Desk_redo, [], []⟩
def fn : List He.DefD := [dd_wall, dd_first_met, dd_is_word, dd_is_count, dd_is_name, dd_read, dd_doubled, dd_read_game, dd_told, dd_told_table, dd_check_teams, dd_circle, dd_twice, dd_law_dice, dd_law_roll, dd_law_rounds, dd_law_told, dd_law_deed, dd_law_table, dd_law, dd_Table_d_initd_, dd_Table_game, dd_Table_mark, dd_Table_take, dd_Table_sums, dd_Table_worth_by, dd_Table_ranked, dd_Table_parted, dd_Table_place, dd_Table_to_play, dd_Season_d_initd_, dd_Season_lay, dd_Season_table, dd_Season_up_to, dd_Season_unplayed, dd_Season_put, dd_Desk_d_initd_, dd_Desk_note, dd_Desk_begin, dd_Desk_put, dd_Desk_table, dd_Desk_undo, dd_Desk_redo]
def fa0 : List He.Fa := [.glo "_wall", .glo "first_met", .glo "is_word", .glo "is_count", .glo "is_name", .glo "read", .glo "doubled", .glo "read_game", .glo "told", .glo "told_table", .glo "check_teams", .glo "circle", .glo "twice", .glo "_law_dice", .glo "_law_roll", .glo "_law_rounds", .glo "_law_told", .glo "_law_deed", .glo "_law_table", .glo "law", .glo "FixtureFault", .glo "BadTeams", .glo "BadScore", .glo "BadRule", .glo "BadText", .glo "BadDeed", .glo "Table", .glo "Season", .glo "Desk", .free "ValueError"]
def fa1 : List He.Fa := [.free "abs", .free "all", .free "any", .free "enumerate", .free "int", .free "len", .free "list", .free "min", .free "range", .free "sorted", .free "str", .free "super", .free "tuple", .glo "RULES", .str "SAFE" "abcdefghijklmnopqrstuvwxyz0123456789_", .exc "FixtureFault", .exc "BadTeams", .exc "BadScore", .exc "BadRule", .exc "BadDeed", .cls "Table", .mkr "Table", .noat "Table" "games", .noat "Table" "marks", .noat "Table" "rules", .noat "Table" "taken", .noat "Table" "teams", .noat "Table" "worth", .meth "Table" "__init__", .meth "Table" "game"]
def fa2 : List He.Fa := [.meth "Table" "mark", .meth "Table" "take", .meth "Table" "sums", .meth "Table" "worth_by", .meth "Table" "ranked", .meth "Table" "parted", .meth "Table" "place", .meth "Table" "to_play", .cls "Season", .mkr "Season", .noat "Season" "rounds", .noat "Season" "rules", .noat "Season" "teams", .noat "Season" "worth", .meth "Season" "__init__", .meth "Season" "lay", .meth "Season" "table", .meth "Season" "up_to", .meth "Season" "unplayed", .meth "Season" "put", .cls "Desk", .mkr "Desk", .noat "Desk" "deeds", .noat "Desk" "shown", .noat "Desk" "undone", .meth "Desk" "__init__", .meth "Desk" "note", .meth "Desk" "begin", .meth "Desk" "put", .meth "Desk" "table"]
def fa3 : List He.Fa := [.meth "Desk" "undo", .meth "Desk" "redo", .exm "FixtureFault" "FixtureFault" true, .exm "FixtureFault" "BadTeams" false, .exm "FixtureFault" "BadScore" false, .exm "FixtureFault" "BadRule" false, .exm "FixtureFault" "BadText" false, .exm "FixtureFault" "BadDeed" false, .exm "BadTeams" "FixtureFault" true, .exm "BadTeams" "BadTeams" true, .exm "BadTeams" "BadScore" false, .exm "BadTeams" "BadRule" false, .exm "BadTeams" "BadText" false, .exm "BadTeams" "BadDeed" false, .exm "BadScore" "FixtureFault" true, .exm "BadScore" "BadTeams" false, .exm "BadScore" "BadScore" true, .exm "BadScore" "BadRule" false, .exm "BadScore" "BadText" false, .exm "BadScore" "BadDeed" false, .exm "BadRule" "FixtureFault" true, .exm "BadRule" "BadTeams" false, .exm "BadRule" "BadScore" false, .exm "BadRule" "BadRule" true, .exm "BadRule" "BadText" false, .exm "BadRule" "BadDeed" false, .exm "BadText" "FixtureFault" true, .exm "BadText" "BadTeams" false, .exm "BadText" "BadScore" false, .exm "BadText" "BadRule" false]
def fa4 : List He.Fa := [.exm "BadText" "BadText" true, .exm "BadText" "BadDeed" false, .exm "BadDeed" "FixtureFault" true, .exm "BadDeed" "BadTeams" false, .exm "BadDeed" "BadScore" false, .exm "BadDeed" "BadRule" false, .exm "BadDeed" "BadText" false, .exm "BadDeed" "BadDeed" true]
def fa : List He.Fa := fa0 ++ fa1 ++ fa2 ++ fa3 ++ fa4
def tf : List He.Defn := [("is_word", none), ("is_count", none), ("read", none), ("read_game", none), ("_law_deed", none), ("law", none), ("Table", some "__init__")]
def lo0 : List Str := ["_wall", "FixtureFault", "BadTeams", "BadScore", "BadRule", "BadText", "BadDeed", "RULES", "Table", "first_met", "SAFE", "is_word", "is_count", "is_name", "Season", "read", "doubled", "read_game", "told", "told_table", "check_teams", "circle", "twice", "Desk", "_law_dice", "_law_roll", "_law_rounds", "_law_told", "_law_deed", "_law_table"]
def loose : List Str := lo0
def lawIx : Nat := 36
def cf : List Fh.DefC := [⟨("BadText", some "__init__"), "BadText.__init__", defArgs s_BadText_d_initd_, defBody s_BadText_d_initd_, defScope s_BadText_d_initd_⟩]
abbrev file : Str := PySem.Challenge.pw_fixturehall_k27_a_desk_and_its_deeds.main.file
def ex (K : PySem.W.Frag) : Bool := Fv.noLstB K && (Fv.farB K tf && (Fv.tupB K "RULES" ["points", "goals", "scored", "wins", "away", "met points", "met goals", "met scored", "fair", "name"] && (Fh.supB K file "BadText" "row")))
abbrev R : PySem.W.OpenRow := PySem.W.OpenLaw.row PySem.Challenge.rw_fixturehall_k27_a_desk_and_its_deeds
abbrev hk : PySem.W.Hook := Fh.hookF 5 fa fn cf tf ex
def ob (s : PySem.W.SharedT) : Fh.AlF := Fh.obsF 5 fa fn cf tf ex (HandSHeadRun.getT s)
theorem ob_eq (s : PySem.W.SharedT) : ob s = hk.obs s.abs := Fh.obsF_eq (HandSHeadRun.getT_eq s)
theorem run (w : World) : HandSHeadRun.RunEq R (PySem.W.view R.prog [lawIx]) hk ob 12000 loose w := by
  intro os
  kernel_rfl
end K27
set_option Elab.async false
set_option linter.all false
set_option maxRecDepth 100000
set_option maxHeartbeats 4000000
namespace K27
open PySem PySem.Spec PyProof.Rows L2
/-- what the top has left -/
structure Txt (P : Program) (K : PySem.W.Frag) (mg : Str → Option Value) (base : Heap) : Prop where
  kin : K.In base
  glob : base.Ns mainGlobals mg
  d : He.SaysD fa fn K
  hd : ∀ p ∈ tf, PySem.W.codeHdIn K (He.cT K p).1 (He.cT K p).2 = true
  bm : ∀ p ∈ tf, base.BuiltinsAt mg (He.cT K p).2
  gp : ∀ p ∈ tf, mainGlobals ≠ (He.cT K p).2
  ne : ∀ p ∈ tf, ∀ q ∈ tf, p ≠ q → (He.cT K p).2 ≠ (He.cT K q).2
  tup_RULES : Fv.TupC K "RULES" ["points", "goals", "scored", "wins", "away", "met points", "met goals", "met scored", "fair", "name"]
  sup_BadText : ∃ fI, Fh.SupTxt P K mg "BadText" "row" (He.ga K "BadText") fI
section
variable {P : Program} {K : PySem.W.Frag} {mg : Str → Option Value} {base : Heap}
theorem Txt.g_wall (T : Txt P K mg base) : mg "_wall" = some (.ref (He.ga K "_wall")) := He.glo_ok T.kin T.glob (T.d.fact 0)
theorem Txt.g_first_met (T : Txt P K mg base) : mg "first_met" = some (.ref (He.ga K "first_met")) := He.glo_ok T.kin T.glob (T.d.fact 1)
theorem Txt.g_is_word (T : Txt P K mg base) : mg "is_word" = some (.ref (He.ga K "is_word")) := He.glo_ok T.kin T.glob (T.d.fact 2)
theorem Txt.g_is_count (T : Txt P K mg base) : mg "is_count" = some (.ref (He.ga K "is_count")) := He.glo_ok T.kin T.glob (T.d.fact 3)
theorem Txt.g_is_name (T : Txt P K mg base) : mg "is_name" = some (.ref (He.ga K "is_name")) := He.glo_ok T.kin T.glob (T.d.fact 4)
theorem Txt.g_read (T : Txt P K mg base) : mg "read" = some (.ref (He.ga K "read")) := He.glo_ok T.kin T.glob (T.d.fact 5)
theorem Txt.g_doubled (T : Txt P K mg base) : mg "doubled" = some (.ref (He.ga K "doubled")) := He.glo_ok T.kin T.glob (T.d.fact 6)
theorem Txt.g_read_game (T : Txt P K mg base) : mg "read_game" = some (.ref (He.ga K "read_game")) := He.glo_ok T.kin T.glob (T.d.fact 7)
theorem Txt.g_told (T : Txt P K mg base) : mg "told" = some (.ref (He.ga K "told")) := He.glo_ok T.kin T.glob (T.d.fact 8)
theorem Txt.g_told_table (T : Txt P K mg base) : mg "told_table" = some (.ref (He.ga K "told_table")) := He.glo_ok T.kin T.glob (T.d.fact 9)
theorem Txt.g_check_teams (T : Txt P K mg base) : mg "check_teams" = some (.ref (He.ga K "check_teams")) := He.glo_ok T.kin T.glob (T.d.fact 10)
theorem Txt.g_circle (T : Txt P K mg base) : mg "circle" = some (.ref (He.ga K "circle")) := He.glo_ok T.kin T.glob (T.d.fact 11)
theorem Txt.g_twice (T : Txt P K mg base) : mg "twice" = some (.ref (He.ga K "twice")) := He.glo_ok T.kin T.glob (T.d.fact 12)
theorem Txt.g_law_dice (T : Txt P K mg base) : mg "_law_dice" = some (.ref (He.ga K "_law_dice")) := He.glo_ok T.kin T.glob (T.d.fact 13)
theorem Txt.g_law_roll (T : Txt P K mg base) : mg "_law_roll" = some (.ref (He.ga K "_law_roll")) := He.glo_ok T.kin T.glob (T.d.fact 14)
theorem Txt.g_law_rounds (T : Txt P K mg base) : mg "_law_rounds" = some (.ref (He.ga K "_law_rounds")) := He.glo_ok T.kin T.glob (T.d.fact 15)
theorem Txt.g_law_told (T : Txt P K mg base) : mg "_law_told" = some (.ref (He.ga K "_law_told")) := He.glo_ok T.kin T.glob (T.d.fact 16)
theorem Txt.g_law_deed (T : Txt P K mg base) : mg "_law_deed" = some (.ref (He.ga K "_law_deed")) := He.glo_ok T.kin T.glob (T.d.fact 17)
theorem Txt.g_law_table (T : Txt P K mg base) : mg "_law_table" = some (.ref (He.ga K "_law_table")) := He.glo_ok T.kin T.glob (T.d.fact 18)
theorem Txt.g_law (T : Txt P K mg base) : mg "law" = some (.ref (He.ga K "law")) := He.glo_ok T.kin T.glob (T.d.fact 19)
theorem Txt.g_FixtureFault (T : Txt P K mg base) : mg "FixtureFault" = some (.ref (He.ga K "FixtureFault")) := He.glo_ok T.kin T.glob (T.d.fact 20)
theorem Txt.g_BadTeams (T : Txt P K mg base) : mg "BadTeams" = some (.ref (He.ga K "BadTeams")) := He.glo_ok T.kin T.glob (T.d.fact 21)
theorem Txt.g_BadScore (T : Txt P K mg base) : mg "BadScore" = some (.ref (He.ga K "BadScore")) := He.glo_ok T.kin T.glob (T.d.fact 22)
theorem Txt.g_BadRule (T : Txt P K mg base) : mg "BadRule" = some (.ref (He.ga K "BadRule")) := He.glo_ok T.kin T.glob (T.d.fact 23)
theorem Txt.g_BadText (T : Txt P K mg base) : mg "BadText" = some (.ref (He.ga K "BadText")) := He.glo_ok T.kin T.glob (T.d.fact 24)
theorem Txt.g_BadDeed (T : Txt P K mg base) : mg "BadDeed" = some (.ref (He.ga K "BadDeed")) := He.glo_ok T.kin T.glob (T.d.fact 25)
theorem Txt.g_Table (T : Txt P K mg base) : mg "Table" = some (.ref (He.ga K "Table")) := He.glo_ok T.kin T.glob (T.d.fact 26)
theorem Txt.g_Season (T : Txt P K mg base) : mg "Season" = some (.ref (He.ga K "Season")) := He.glo_ok T.kin T.glob (T.d.fact 27)
theorem Txt.g_Desk (T : Txt P K mg base) : mg "Desk" = some (.ref (He.ga K "Desk")) := He.glo_ok T.kin T.glob (T.d.fact 28)
theorem Txt.n_ValueError (T : Txt P K mg base) : mg "ValueError" = none := He.free_ok T.kin T.glob (T.d.fact 29)
theorem Txt.n_abs (T : Txt P K mg base) : mg "abs" = none := He.free_ok T.kin T.glob (T.d.fact 30)
theorem Txt.n_all (T : Txt P K mg base) : mg "all" = none := He.free_ok T.kin T.glob (T.d.fact 31)
theorem Txt.n_any (T : Txt P K mg base) : mg "any" = none := He.free_ok T.kin T.glob (T.d.fact 32)
theorem Txt.n_enumerate (T : Txt P K mg base) : mg "enumerate" = none := He.free_ok T.kin T.glob (T.d.fact 33)
theorem Txt.n_int (T : Txt P K mg base) : mg "int" = none := He.free_ok T.kin T.glob (T.d.fact 34)
theorem Txt.n_len (T : Txt P K mg base) : mg "len" = none := He.free_ok T.kin T.glob (T.d.fact 35)
theorem Txt.n_list (T : Txt P K mg base) : mg "list" = none := He.free_ok T.kin T.glob (T.d.fact 36)
theorem Txt.n_min (T : Txt P K mg base) : mg "min" = none := He.free_ok T.kin T.glob (T.d.fact 37)
theorem Txt.n_range (T : Txt P K mg base) : mg "range" = none := He.free_ok T.kin T.glob (T.d.fact 38)
theorem Txt.n_sorted (T : Txt P K mg base) : mg "sorted" = none := He.free_ok T.kin T.glob (T.d.fact 39)
theorem Txt.n_str (T : Txt P K mg base) : mg "str" = none := He.free_ok T.kin T.glob (T.d.fact 40)
theorem Txt.n_super (T : Txt P K mg base) : mg "super" = none := He.free_ok T.kin T.glob (T.d.fact 41)
theorem Txt.n_tuple (T : Txt P K mg base) : mg "tuple" = none := He.free_ok T.kin T.glob (T.d.fact 42)
theorem Txt.g_RULES (T : Txt P K mg base) : mg "RULES" = some (.ref (He.ga K "RULES")) := He.glo_ok T.kin T.glob (T.d.fact 43)
theorem Txt.c_SAFE (T : Txt P K mg base) : ∃ t, mg "SAFE" = some (.str "abcdefghijklmnopqrstuvwxyz0123456789_" t) := He.str_ok T.kin T.glob (T.d.fact 44)
theorem Txt.x_FixtureFault (T : Txt P K mg base) : Fh.ExcT K mg "FixtureFault" (He.ga K "FixtureFault") := have c := He.exc_ok (T.d.fact 45)
  ⟨T.g_FixtureFault, c.1, c.2.1, c.2.2.1, c.2.2.2⟩
theorem Txt.x_BadTeams (T : Txt P K mg base) : Fh.ExcT K mg "BadTeams" (He.ga K "BadTeams") := have c := He.exc_ok (T.d.fact 46)
  ⟨T.g_BadTeams, c.1, c.2.1, c.2.2.1, c.2.2.2⟩
theorem Txt.x_BadScore (T : Txt P K mg base) : Fh.ExcT K mg "BadScore" (He.ga K "BadScore") := have c := He.exc_ok (T.d.fact 47)
  ⟨T.g_BadScore, c.1, c.2.1, c.2.2.1, c.2.2.2⟩
theorem Txt.x_BadRule (T : Txt P K mg base) : Fh.ExcT K mg "BadRule" (He.ga K "BadRule") := have c := He.exc_ok (T.d.fact 48)
  ⟨T.g_BadRule, c.1, c.2.1, c.2.2.1, c.2.2.2⟩
theorem Txt.x_BadDeed (T : Txt P K mg base) : Fh.ExcT K mg "BadDeed" (He.ga K "BadDeed") := have c := He.exc_ok (T.d.fact 49)
  ⟨T.g_BadDeed, c.1, c.2.1, c.2.2.1, c.2.2.2⟩
theorem Txt.c_Table (T : Txt P K mg base) : Cls K (He.ga K "Table") := He.cls_ok (T.d.fact 50)
theorem Txt.k_Table (T : Txt P K mg base) : Mk K (He.ga K "Table") (He.ma K (He.ga K "Table") "__init__") := He.mkr_ok (T.d.fact 51)
theorem Txt.a_Table_games (T : Txt P K mg base) : NoAttr K (He.ga K "Table") "games" := He.noat_ok (T.d.fact 52)
theorem Txt.a_Table_marks (T : Txt P K mg base) : NoAttr K (He.ga K "Table") "marks" := He.noat_ok (T.d.fact 53)
theorem Txt.a_Table_rules (T : Txt P K mg base) : NoAttr K (He.ga K "Table") "rules" := He.noat_ok (T.d.fact 54)
theorem Txt.a_Table_taken (T : Txt P K mg base) : NoAttr K (He.ga K "Table") "taken" := He.noat_ok (T.d.fact 55)
theorem Txt.a_Table_teams (T : Txt P K mg base) : NoAttr K (He.ga K "Table") "teams" := He.noat_ok (T.d.fact 56)
theorem Txt.a_Table_worth (T : Txt P K mg base) : NoAttr K (He.ga K "Table") "worth" := He.noat_ok (T.d.fact 57)
theorem Txt.m_Table_d_initd_ (T : Txt P K mg base) : Meth K (He.ga K "Table") "__init__" (He.ma K (He.ga K "Table") "__init__") := He.meth_ok (T.d.fact 58)
theorem Txt.m_Table_game (T : Txt P K mg base) : Meth K (He.ga K "Table") "game" (He.ma K (He.ga K "Table") "game") := He.meth_ok (T.d.fact 59)
theorem Txt.m_Table_mark (T : Txt P K mg base) : Meth K (He.ga K "Table") "mark" (He.ma K (He.ga K "Table") "mark") := He.meth_ok (T.d.fact 60)
theorem Txt.m_Table_take (T : Txt P K mg base) : Meth K (He.ga K "Table") "take" (He.ma K (He.ga K "Table") "take") := He.meth_ok (T.d.fact 61)
theorem Txt.m_Table_sums (T : Txt P K mg base) : Meth K (He.ga K "Table") "sums" (He.ma K (He.ga K "Table") "sums") := He.meth_ok (T.d.fact 62)
theorem Txt.m_Table_worth_by (T : Txt P K mg base) : Meth K (He.ga K "Table") "worth_by" (He.ma K (He.ga K "Table") "worth_by") := He.meth_ok (T.d.fact 63)
theorem Txt.m_Table_ranked (T : Txt P K mg base) : Meth K (He.ga K "Table") "ranked" (He.ma K (He.ga K "Table") "ranked") := He.meth_ok (T.d.fact 64)
theorem Txt.m_Table_parted (T : Txt P K mg base) : Meth K (He.ga K "Table") "parted" (He.ma K (He.ga K "Table") "parted") := He.meth_ok (T.d.fact 65)
theorem Txt.m_Table_place (T : Txt P K mg base) : Meth K (He.ga K "Table") "place" (He.ma K (He.ga K "Table") "place") := He.meth_ok (T.d.fact 66)
theorem Txt.m_Table_to_play (T : Txt P K mg base) : Meth K (He.ga K "Table") "to_play" (He.ma K (He.ga K "Table") "to_play") := He.meth_ok (T.d.fact 67)
theorem Txt.c_Season (T : Txt P K mg base) : Cls K (He.ga K "Season") := He.cls_ok (T.d.fact 68)
theorem Txt.k_Season (T : Txt P K mg base) : Mk K (He.ga K "Season") (He.ma K (He.ga K "Season") "__init__") := He.mkr_ok (T.d.fact 69)
theorem Txt.a_Season_rounds (T : Txt P K mg base) : NoAttr K (He.ga K "Season") "rounds" := He.noat_ok (T.d.fact 70)
theorem Txt.a_Season_rules (T : Txt P K mg base) : NoAttr K (He.ga K "Season") "rules" := He.noat_ok (T.d.fact 71)
theorem Txt.a_Season_teams (T : Txt P K mg base) : NoAttr K (He.ga K "Season") "teams" := He.noat_ok (T.d.fact 72)
theorem Txt.a_Season_worth (T : Txt P K mg base) : NoAttr K (He.ga K "Season") "worth" := He.noat_ok (T.d.fact 73)
theorem Txt.m_Season_d_initd_ (T : Txt P K mg base) : Meth K (He.ga K "Season") "__init__" (He.ma K (He.ga K "Season") "__init__") := He.meth_ok (T.d.fact 74)
theorem Txt.m_Season_lay (T : Txt P K mg base) : Meth K (He.ga K "Season") "lay" (He.ma K (He.ga K "Season") "lay") := He.meth_ok (T.d.fact 75)
theorem Txt.m_Season_table (T : Txt P K mg base) : Meth K (He.ga K "Season") "table" (He.ma K (He.ga K "Season") "table") := He.meth_ok (T.d.fact 76)
theorem Txt.m_Season_up_to (T : Txt P K mg base) : Meth K (He.ga K "Season") "up_to" (He.ma K (He.ga K "Season") "up_to") := He.meth_ok (T.d.fact 77)
theorem Txt.m_Season_unplayed (T : Txt P K mg base) : Meth K (He.ga K "Season") "unplayed" (He.ma K (He.ga K "Season") "unplayed") := He.meth_ok (T.d.fact 78)
theorem Txt.m_Season_put (T : Txt P K mg base) : Meth K (He.ga K "Season") "put" (He.ma K (He.ga K "Season") "put") := He.meth_ok (T.d.fact 79)
theorem Txt.c_Desk (T : Txt P K mg base) : Cls K (He.ga K "Desk") := He.cls_ok (T.d.fact 80)
theorem Txt.k_Desk (T : Txt P K mg base) : Mk K (He.ga K "Desk") (He.ma K (He.ga K "Desk") "__init__") := He.mkr_ok (T.d.fact 81)
theorem Txt.a_Desk_deeds (T : Txt P K mg base) : NoAttr K (He.ga K "Desk") "deeds" := He.noat_ok (T.d.fact 82)
theorem Txt.a_Desk_shown (T : Txt P K mg base) : NoAttr K (He.ga K "Desk") "shown" := He.noat_ok (T.d.fact 83)
theorem Txt.a_Desk_undone (T : Txt P K mg base) : NoAttr K (He.ga K "Desk") "undone" := He.noat_ok (T.d.fact 84)
theorem Txt.m_Desk_d_initd_ (T : Txt P K mg base) : Meth K (He.ga K "Desk") "__init__" (He.ma K (He.ga K "Desk") "__init__") := He.meth_ok (T.d.fact 85)
theorem Txt.m_Desk_note (T : Txt P K mg base) : Meth K (He.ga K "Desk") "note" (He.ma K (He.ga K "Desk") "note") := He.meth_ok (T.d.fact 86)
theorem Txt.m_Desk_begin (T : Txt P K mg base) : Meth K (He.ga K "Desk") "begin" (He.ma K (He.ga K "Desk") "begin") := He.meth_ok (T.d.fact 87)
theorem Txt.m_Desk_put (T : Txt P K mg base) : Meth K (He.ga K "Desk") "put" (He.ma K (He.ga K "Desk") "put") := He.meth_ok (T.d.fact 88)
theorem Txt.m_Desk_table (T : Txt P K mg base) : Meth K (He.ga K "Desk") "table" (He.ma K (He.ga K "Desk") "table") := He.meth_ok (T.d.fact 89)
theorem Txt.m_Desk_undo (T : Txt P K mg base) : Meth K (He.ga K "Desk") "undo" (He.ma K (He.ga K "Desk") "undo") := He.meth_ok (T.d.fact 90)
theorem Txt.m_Desk_redo (T : Txt P K mg base) : Meth K (He.ga K "Desk") "redo" (He.ma K (He.ga K "Desk") "redo") := He.meth_ok (T.d.fact 91)
theorem Txt.e_FixtureFault_FixtureFault (T : Txt P K mg base) : PySem.W.exmOne K (.ref (He.ga K "FixtureFault")) (.ref (He.ga K "FixtureFault")) = some true := He.exm_ok (T.d.fact 92)
theorem Txt.e_FixtureFault_BadTeams (T : Txt P K mg base) : PySem.W.exmOne K (.ref (He.ga K "FixtureFault")) (.ref (He.ga K "BadTeams")) = some false := He.exm_ok (T.d.fact 93)
theorem Txt.e_FixtureFault_BadScore (T : Txt P K mg base) : PySem.W.exmOne K (.ref (He.ga K "FixtureFault")) (.ref (He.ga K "BadScore")) = some false := He.exm_ok (T.d.fact 94)
theorem Txt.e_FixtureFault_BadRule (T : Txt P K mg base) : PySem.W.exmOne K (.ref (He.ga K "FixtureFault")) (.ref (He.ga K "BadRule")) = some false := He.exm_ok (T.d.fact 95)
theorem Txt.e_FixtureFault_BadText (T : Txt P K mg base) : PySem.W.exmOne K (.ref (He.ga K "FixtureFault")) (.ref (He.ga K "BadText")) = some false := He.exm_ok (T.d.fact 96)
theorem Txt.e_FixtureFault_BadDeed (T : Txt P K mg base) : PySem.W.exmOne K (.ref (He.ga K "FixtureFault")) (.ref (He.ga K "BadDeed")) = some false := He.exm_ok (T.d.fact 97)
theorem Txt.e_BadTeams_FixtureFault (T : Txt P K mg base) : PySem.W.exmOne K (.ref (He.ga K "BadTeams")) (.ref (He.ga K "FixtureFault")) = some true := He.exm_ok (T.d.fact 98)
theorem Txt.e_BadTeams_BadTeams (T : Txt P K mg base) : PySem.W.exmOne K (.ref (He.ga K "BadTeams")) (.ref (He.ga K "BadTeams")) = some true := He.exm_ok (T.d.fact 99)
theorem Txt.e_BadTeams_BadScore (T : Txt P K mg base) : PySem.W.exmOne K (.ref (He.ga K "BadTeams")) (.ref (He.ga K "BadScore")) = some false := He.exm_ok (T.d.fact 100)
theorem Txt.e_BadTeams_BadRule (T : Txt P K mg base) : PySem.W.exmOne K (.ref (He.ga K "BadTeams")) (.ref (He.ga K "BadRule")) = some false := He.exm_ok (T.d.fact 101)
theorem Txt.e_BadTeams_BadText (T : Txt P K mg base) : PySem.W.exmOne K (.ref (He.ga K "BadTeams")) (.ref (He.ga K "BadText")) = some false := He.exm_ok (T.d.fact 102)
theorem Txt.e_BadTeams_BadDeed (T : Txt P K mg base) : PySem.W.exmOne K (.ref (He.ga K "BadTeams")) (.ref (He.ga K "BadDeed")) = some false := He.exm_ok (T.d.fact 103)
theorem Txt.e_BadScore_FixtureFault (T : Txt P K mg base) : PySem.W.exmOne K (.ref (He.ga K "BadScore")) (.ref (He.ga K "FixtureFault")) = some true := He.exm_ok (T.d.fact 104)
theorem Txt.e_BadScore_BadTeams (T : Txt P K mg base) : PySem.W.exmOne K (.ref (He.ga K "BadScore")) (.ref (He.ga K "BadTeams")) = some false := He.exm_ok (T.d.fact 105)
theorem Txt.e_BadScore_BadScore (T : Txt P K mg base) : PySem.W.exmOne K (.ref (He.ga K "BadScore")) (.ref (He.ga K "BadScore")) = some true := He.exm_ok (T.d.fact 106)
theorem Txt.e_BadScore_BadRule (T : Txt P K mg base) : PySem.W.exmOne K (.ref (He.ga K "BadScore")) (.ref (He.ga K "BadRule")) = some false := He.exm_ok (T.d.fact 107)
theorem Txt.e_BadScore_BadText (T : Txt P K mg base) : PySem.W.exmOne K (.ref (He.ga K "BadScore")) (.ref (He.ga K "BadText")) = some false := He.exm_ok (T.d.fact 108)
theorem Txt.e_BadScore_BadDeed (T : Txt P K mg base) : PySem.W.exmOne K (.ref (He.ga K "BadScore")) (.ref (He.ga K "BadDeed")) = some false := He.exm_ok (T.d.fact 109)
theorem Txt.e_BadRule_FixtureFault (T : Txt P K mg base) : PySem.W.exmOne K (.ref (He.ga K "BadRule")) (.ref (He.ga K "FixtureFault")) = some true := He.exm_ok (T.d.fact 110)
theorem Txt.e_BadRule_BadTeams (T : Txt P K mg base) : PySem.W.exmOne K (.ref (He.ga K "BadRule")) (.ref (He.ga K "BadTeams")) = some false := He.exm_ok (T.d.fact 111)
theorem Txt.e_BadRule_BadScore (T : Txt P K mg base) : PySem.W.exmOne K (.ref (He.ga K "BadRule")) (.ref (He.ga K "BadScore")) = some false := He.exm_ok (T.d.fact 112)
theorem Txt.e_BadRule_BadRule (T : Txt P K mg base) : PySem.W.exmOne K (.ref (He.ga K "BadRule")) (.ref (He.ga K "BadRule")) = some true := He.exm_ok (T.d.fact 113)
theorem Txt.e_BadRule_BadText (T : Txt P K mg base) : PySem.W.exmOne K (.ref (He.ga K "BadRule")) (.ref (He.ga K "BadText")) = some false := He.exm_ok (T.d.fact 114)
theorem Txt.e_BadRule_BadDeed (T : Txt P K mg base) : PySem.W.exmOne K (.ref (He.ga K "BadRule")) (.ref (He.ga K "BadDeed")) = some false := He.exm_ok (T.d.fact 115)
theorem Txt.e_BadText_FixtureFault (T : Txt P K mg base) : PySem.W.exmOne K (.ref (He.ga K "BadText")) (.ref (He.ga K "FixtureFault")) = some true := He.exm_ok (T.d.fact 116)
theorem Txt.e_BadText_BadTeams (T : Txt P K mg base) : PySem.W.exmOne K (.ref (He.ga K "BadText")) (.ref (He.ga K "BadTeams")) = some false := He.exm_ok (T.d.fact 117)
theorem Txt.e_BadText_BadScore (T : Txt P K mg base) : PySem.W.exmOne K (.ref (He.ga K "BadText")) (.ref (He.ga K "BadScore")) = some false := He.exm_ok (T.d.fact 118)
theorem Txt.e_BadText_BadRule (T : Txt P K mg base) : PySem.W.exmOne K (.ref (He.ga K "BadText")) (.ref (He.ga K "BadRule")) = some false := He.exm_ok (T.d.fact 119)
theorem Txt.e_BadText_BadText (T : Txt P K mg base) : PySem.W.exmOne K (.ref (He.ga K "BadText")) (.ref (He.ga K "BadText")) = some true := He.exm_ok (T.d.fact 120)
theorem Txt.e_BadText_BadDeed (T : Txt P K mg base) : PySem.W.exmOne K (.ref (He.ga K "BadText")) (.ref (He.ga K "BadDeed")) = some false := He.exm_ok (T.d.fact 121)
theorem Txt.e_BadDeed_FixtureFault (T : Txt P K mg base) : PySem.W.exmOne K (.ref (He.ga K "BadDeed")) (.ref (He.ga K "FixtureFault")) = some true := He.exm_ok (T.d.fact 122)
theorem Txt.e_BadDeed_BadTeams (T : Txt P K mg base) : PySem.W.exmOne K (.ref (He.ga K "BadDeed")) (.ref (He.ga K "BadTeams")) = some false := He.exm_ok (T.d.fact 123)
theorem Txt.e_BadDeed_BadScore (T : Txt P K mg base) : PySem.W.exmOne K (.ref (He.ga K "BadDeed")) (.ref (He.ga K "BadScore")) = some false := He.exm_ok (T.d.fact 124)
theorem Txt.e_BadDeed_BadRule (T : Txt P K mg base) : PySem.W.exmOne K (.ref (He.ga K "BadDeed")) (.ref (He.ga K "BadRule")) = some false := He.exm_ok (T.d.fact 125)
theorem Txt.e_BadDeed_BadText (T : Txt P K mg base) : PySem.W.exmOne K (.ref (He.ga K "BadDeed")) (.ref (He.ga K "BadText")) = some false := He.exm_ok (T.d.fact 126)
theorem Txt.e_BadDeed_BadDeed (T : Txt P K mg base) : PySem.W.exmOne K (.ref (He.ga K "BadDeed")) (.ref (He.ga K "BadDeed")) = some true := He.exm_ok (T.d.fact 127)
theorem Txt.f_wall (T : Txt P K mg base) : ∃ fd, FunD K "_wall" "_wall" (defArgs s_wall) (defBody s_wall) (defScope s_wall) [] [] (He.fAd K ("_wall", none)) fd := T.d.def_ 0
abbrev N_wall : List Str := ["k"]
abbrev ps_wall : List Str := ["k"]
theorem sc_wall : FnScope N_wall ps_wall (defScope s_wall) := C8.fnScope_by (by decide +kernel)
theorem b_wall (kV doc pm : Value) (an : Option Addr) (cdv ct : Value) (us : List Value) (hl : us.length = ps_wall.length) : bindArgs (PySem.W.fnOf "_wall" "_wall" (defArgs s_wall) (defBody s_wall) (defScope s_wall) .none kV doc pm an cdv ct) ⟨us, []⟩ = pure (ps_wall.zip us) := match us, hl with | [_], _ => rfl
theorem Txt.f_first_met (T : Txt P K mg base) : ∃ fd, FunD K "first_met" "first_met" (defArgs s_first_met) (defBody s_first_met) (defScope s_first_met) [] [] (He.fAd K ("first_met", none)) fd := T.d.def_ 1
abbrev N_first_met : List Str := ["rules", "k", "rule"]
abbrev ps_first_met : List Str := ["rules"]
theorem sc_first_met : FnScope N_first_met ps_first_met (defScope s_first_met) := C8.fnScope_by (by decide +kernel)
theorem b_first_met (kV doc pm : Value) (an : Option Addr) (cdv ct : Value) (us : List Value) (hl : us.length = ps_first_met.length) : bindArgs (PySem.W.fnOf "first_met" "first_met" (defArgs s_first_met) (defBody s_first_met) (defScope s_first_met) .none kV doc pm an cdv ct) ⟨us, []⟩ = pure (ps_first_met.zip us) := match us, hl with | [_], _ => rfl
theorem Txt.f_is_word (T : Txt P K mg base) : ∃ fd, FunD K "is_word" "is_word" (defArgs s_is_word) (defBody s_is_word) (defScope s_is_word) [] [] (He.fAd K ("is_word", none)) fd := T.d.def_ 2
abbrev N_is_word : List Str := ["text", "sign"]
abbrev ps_is_word : List Str := ["text"]
theorem sc_is_word : FnScope N_is_word ps_is_word (defScope s_is_word) := C8.fnScope_by (by decide +kernel)
theorem b_is_word (kV doc pm : Value) (an : Option Addr) (cdv ct : Value) (us : List Value) (hl : us.length = ps_is_word.length) : bindArgs (PySem.W.fnOf "is_word" "is_word" (defArgs s_is_word) (defBody s_is_word) (defScope s_is_word) .none kV doc pm an cdv ct) ⟨us, []⟩ = pure (ps_is_word.zip us) := match us, hl with | [_], _ => rfl
theorem Txt.f_is_count (T : Txt P K mg base) : ∃ fd, FunD K "is_count" "is_count" (defArgs s_is_count) (defBody s_is_count) (defScope s_is_count) [] [] (He.fAd K ("is_count", none)) fd := T.d.def_ 3
abbrev N_is_count : List Str := ["word", "sign"]
abbrev ps_is_count : List Str := ["word"]
theorem sc_is_count : FnScope N_is_count ps_is_count (defScope s_is_count) := C8.fnScope_by (by decide +kernel)
theorem b_is_count (kV doc pm : Value) (an : Option Addr) (cdv ct : Value) (us : List Value) (hl : us.length = ps_is_count.length) : bindArgs (PySem.W.fnOf "is_count" "is_count" (defArgs s_is_count) (defBody s_is_count) (defScope s_is_count) .none kV doc pm an cdv ct) ⟨us, []⟩ = pure (ps_is_count.zip us) := match us, hl with | [_], _ => rfl
theorem Txt.f_is_name (T : Txt P K mg base) : ∃ fd, FunD K "is_name" "is_name" (defArgs s_is_name) (defBody s_is_name) (defScope s_is_name) [] [] (He.fAd K ("is_name", none)) fd := T.d.def_ 4
abbrev N_is_name : List Str := ["word"]
abbrev ps_is_name : List Str := ["word"]
theorem sc_is_name : FnScope N_is_name ps_is_name (defScope s_is_name) := C8.fnScope_by (by decide +kernel)
theorem b_is_name (kV doc pm : Value) (an : Option Addr) (cdv ct : Value) (us : List Value) (hl : us.length = ps_is_name.length) : bindArgs (PySem.W.fnOf "is_name" "is_name" (defArgs s_is_name) (defBody s_is_name) (defScope s_is_name) .none kV doc pm an cdv ct) ⟨us, []⟩ = pure (ps_is_name.zip us) := match us, hl with | [_], _ => rfl
theorem Txt.f_read (T : Txt P K mg base) : ∃ fd, FunD K "read" "read" (defArgs s_read) (defBody s_read) (defScope s_read) [] [] (He.fAd K ("read", none)) fd := T.d.def_ 5
abbrev N_read : List Str := ["text", "rows", "season", "k", "row", "words", "names", "one"]
abbrev ps_read : List Str := ["text"]
theorem sc_read : FnScope N_read ps_read (defScope s_read) := C8.fnScope_by (by decide +kernel)
theorem b_read (kV doc pm : Value) (an : Option Addr) (cdv ct : Value) (us : List Value) (hl : us.length = ps_read.length) : bindArgs (PySem.W.fnOf "read" "read" (defArgs s_read) (defBody s_read) (defScope s_read) .none kV doc pm an cdv ct) ⟨us, []⟩ = pure (ps_read.zip us) := match us, hl with | [_], _ => rfl
theorem Txt.f_doubled (T : Txt P K mg base) : ∃ fd, FunD K "doubled" "doubled" (defArgs s_doubled) (defBody s_doubled) (defScope s_doubled) [] [] (He.fAd K ("doubled", none)) fd := T.d.def_ 6
abbrev N_doubled : List Str := ["names", "one"]
abbrev ps_doubled : List Str := ["names"]
theorem sc_doubled : FnScope N_doubled ps_doubled (defScope s_doubled) := C8.fnScope_by (by decide +kernel)
theorem b_doubled (kV doc pm : Value) (an : Option Addr) (cdv ct : Value) (us : List Value) (hl : us.length = ps_doubled.length) : bindArgs (PySem.W.fnOf "doubled" "doubled" (defArgs s_doubled) (defBody s_doubled) (defScope s_doubled) .none kV doc pm an cdv ct) ⟨us, []⟩ = pure (ps_doubled.zip us) := match us, hl with | [_], _ => rfl
theorem Txt.f_read_game (T : Txt P K mg base) : ∃ fd, FunD K "read_game" "read_game" (defArgs s_read_game) (defBody s_read_game) (defScope s_read_game) [] [] (He.fAd K ("read_game", none)) fd := T.d.def_ 7
abbrev N_read_game : List Str := ["season", "words", "row", "good", "one", "game", "goals"]
abbrev ps_read_game : List Str := ["season", "words", "row"]
theorem sc_read_game : FnScope N_read_game ps_read_game (defScope s_read_game) := C8.fnScope_by (by decide +kernel)
theorem b_read_game (kV doc pm : Value) (an : Option Addr) (cdv ct : Value) (us : List Value) (hl : us.length = ps_read_game.length) : bindArgs (PySem.W.fnOf "read_game" "read_game" (defArgs s_read_game) (defBody s_read_game) (defScope s_read_game) .none kV doc pm an cdv ct) ⟨us, []⟩ = pure (ps_read_game.zip us) := match us, hl with | [_, _, _], _ => rfl
theorem Txt.f_told (T : Txt P K mg base) : ∃ fd, FunD K "told" "told" (defArgs s_told) (defBody s_told) (defScope s_told) [] [] (He.fAd K ("told", none)) fd := T.d.def_ 8
abbrev N_told : List Str := ["season", "found", "one", "games", "home", "away", "other"]
abbrev ps_told : List Str := ["season"]
theorem sc_told : FnScope N_told ps_told (defScope s_told) := C8.fnScope_by (by decide +kernel)
theorem b_told (kV doc pm : Value) (an : Option Addr) (cdv ct : Value) (us : List Value) (hl : us.length = ps_told.length) : bindArgs (PySem.W.fnOf "told" "told" (defArgs s_told) (defBody s_told) (defScope s_told) .none kV doc pm an cdv ct) ⟨us, []⟩ = pure (ps_told.zip us) := match us, hl with | [_], _ => rfl
theorem Txt.f_told_table (T : Txt P K mg base) : ∃ fd, FunD K "told_table" "told_table" (defArgs s_told_table) (defBody s_told_table) (defScope s_told_table) [] [] (He.fAd K ("told_table", none)) fd := T.d.def_ 9
abbrev N_told_table : List Str := ["table", "found", "place", "group", "team", "row", "goals", "words", "one"]
abbrev ps_told_table : List Str := ["table"]
theorem sc_told_table : FnScope N_told_table ps_told_table (defScope s_told_table) := C8.fnScope_by (by decide +kernel)
theorem b_told_table (kV doc pm : Value) (an : Option Addr) (cdv ct : Value) (us : List Value) (hl : us.length = ps_told_table.length) : bindArgs (PySem.W.fnOf "told_table" "told_table" (defArgs s_told_table) (defBody s_told_table) (defScope s_told_table) .none kV doc pm an cdv ct) ⟨us, []⟩ = pure (ps_told_table.zip us) := match us, hl with | [_], _ => rfl
theorem Txt.f_check_teams (T : Txt P K mg base) : ∃ fd, FunD K "check_teams" "check_teams" (defArgs s_check_teams) (defBody s_check_teams) (defScope s_check_teams) [] [] (He.fAd K ("check_teams", none)) fd := T.d.def_ 10
abbrev N_check_teams : List Str := ["teams", "team"]
abbrev ps_check_teams : List Str := ["teams"]
theorem sc_check_teams : FnScope N_check_teams ps_check_teams (defScope s_check_teams) := C8.fnScope_by (by decide +kernel)
theorem b_check_teams (kV doc pm : Value) (an : Option Addr) (cdv ct : Value) (us : List Value) (hl : us.length = ps_check_teams.length) : bindArgs (PySem.W.fnOf "check_teams" "check_teams" (defArgs s_check_teams) (defBody s_check_teams) (defScope s_check_teams) .none kV doc pm an cdv ct) ⟨us, []⟩ = pure (ps_check_teams.zip us) := match us, hl with | [_], _ => rfl
theorem Txt.f_circle (T : Txt P K mg base) : ∃ fd, FunD K "circle" "circle" (defArgs s_circle) (defBody s_circle) (defScope s_circle) [] [] (He.fAd K ("circle", none)) fd := T.d.def_ 11
abbrev N_circle : List Str := ["teams", "row", "many", "found", "turn", "games", "k", "one", "other"]
abbrev ps_circle : List Str := ["teams"]
theorem sc_circle : FnScope N_circle ps_circle (defScope s_circle) := C8.fnScope_by (by decide +kernel)
theorem b_circle (kV doc pm : Value) (an : Option Addr) (cdv ct : Value) (us : List Value) (hl : us.length = ps_circle.length) : bindArgs (PySem.W.fnOf "circle" "circle" (defArgs s_circle) (defBody s_circle) (defScope s_circle) .none kV doc pm an cdv ct) ⟨us, []⟩ = pure (ps_circle.zip us) := match us, hl with | [_], _ => rfl
theorem Txt.f_twice (T : Txt P K mg base) : ∃ fd, FunD K "twice" "twice" (defArgs s_twice) (defBody s_twice) (defScope s_twice) [] [] (He.fAd K ("twice", none)) fd := T.d.def_ 12
abbrev N_twice : List Str := ["rounds", "home", "away", "games"]
abbrev ps_twice : List Str := ["rounds"]
theorem sc_twice : FnScope N_twice ps_twice (defScope s_twice) := C8.fnScope_by (by decide +kernel)
theorem b_twice (kV doc pm : Value) (an : Option Addr) (cdv ct : Value) (us : List Value) (hl : us.length = ps_twice.length) : bindArgs (PySem.W.fnOf "twice" "twice" (defArgs s_twice) (defBody s_twice) (defScope s_twice) .none kV doc pm an cdv ct) ⟨us, []⟩ = pure (ps_twice.zip us) := match us, hl with | [_], _ => rfl
theorem Txt.f_law_dice (T : Txt P K mg base) : ∃ fd, FunD K "_law_dice" "_law_dice" (defArgs s_law_dice) (defBody s_law_dice) (defScope s_law_dice) [] [] (He.fAd K ("_law_dice", none)) fd := T.d.def_ 13
abbrev N_law_dice : List Str := ["cell"]
abbrev ps_law_dice : List Str := ["cell"]
theorem sc_law_dice : FnScope N_law_dice ps_law_dice (defScope s_law_dice) := C8.fnScope_by (by decide +kernel)
theorem b_law_dice (kV doc pm : Value) (an : Option Addr) (cdv ct : Value) (us : List Value) (hl : us.length = ps_law_dice.length) : bindArgs (PySem.W.fnOf "_law_dice" "_law_dice" (defArgs s_law_dice) (defBody s_law_dice) (defScope s_law_dice) .none kV doc pm an cdv ct) ⟨us, []⟩ = pure (ps_law_dice.zip us) := match us, hl with | [_], _ => rfl
theorem Txt.f_law_roll (T : Txt P K mg base) : ∃ fd, FunD K "_law_roll" "_law_roll" (defArgs s_law_roll) (defBody s_law_roll) (defScope s_law_roll) [] [] (He.fAd K ("_law_roll", none)) fd := T.d.def_ 14
abbrev N_law_roll : List Str := ["dice", "many", "found"]
abbrev ps_law_roll : List Str := ["dice", "many"]
theorem sc_law_roll : FnScope N_law_roll ps_law_roll (defScope s_law_roll) := C8.fnScope_by (by decide +kernel)
theorem b_law_roll (kV doc pm : Value) (an : Option Addr) (cdv ct : Value) (us : List Value) (hl : us.length = ps_law_roll.length) : bindArgs (PySem.W.fnOf "_law_roll" "_law_roll" (defArgs s_law_roll) (defBody s_law_roll) (defScope s_law_roll) .none kV doc pm an cdv ct) ⟨us, []⟩ = pure (ps_law_roll.zip us) := match us, hl with | [_, _], _ => rfl
theorem Txt.f_law_rounds (T : Txt P K mg base) : ∃ fd, FunD K "_law_rounds" "_law_rounds" (defArgs s_law_rounds) (defBody s_law_rounds) (defScope s_law_rounds) [] [] (He.fAd K ("_law_rounds", none)) fd := T.d.def_ 15
abbrev N_law_rounds : List Str := ["script", "most", "cells", "cell"]
abbrev ps_law_rounds : List Str := ["script", "most"]
theorem sc_law_rounds : FnScope N_law_rounds ps_law_rounds (defScope s_law_rounds) := C8.fnScope_by (by decide +kernel)
theorem b_law_rounds (kV doc pm : Value) (an : Option Addr) (cdv ct : Value) (us : List Value) (hl : us.length = ps_law_rounds.length) : bindArgs (PySem.W.fnOf "_law_rounds" "_law_rounds" (defArgs s_law_rounds) (defBody s_law_rounds) (defScope s_law_rounds) .none kV doc pm an cdv ct) ⟨us, []⟩ = pure (ps_law_rounds.zip us) := match us, hl with | [_, _], _ => rfl
theorem Txt.f_law_told (T : Txt P K mg base) : ∃ fd, FunD K "_law_told" "_law_told" (defArgs s_law_told) (defBody s_law_told) (defScope s_law_told) [] [] (He.fAd K ("_law_told", none)) fd := T.d.def_ 16
abbrev N_law_told : List Str := ["what"]
abbrev ps_law_told : List Str := ["what"]
theorem sc_law_told : FnScope N_law_told ps_law_told (defScope s_law_told) := C8.fnScope_by (by decide +kernel)
theorem b_law_told (kV doc pm : Value) (an : Option Addr) (cdv ct : Value) (us : List Value) (hl : us.length = ps_law_told.length) : bindArgs (PySem.W.fnOf "_law_told" "_law_told" (defArgs s_law_told) (defBody s_law_told) (defScope s_law_told) .none kV doc pm an cdv ct) ⟨us, []⟩ = pure (ps_law_told.zip us) := match us, hl with | [_], _ => rfl
theorem Txt.f_law_deed (T : Txt P K mg base) : ∃ fd, FunD K "_law_deed" "_law_deed" (defArgs s_law_deed) (defBody s_law_deed) (defScope s_law_deed) [] [] (He.fAd K ("_law_deed", none)) fd := T.d.def_ 17
abbrev N_law_deed : List Str := ["desk", "dice", "now", "teams", "double", "season", "rounds", "k", "one", "other", "home", "away", "due"]
abbrev ps_law_deed : List Str := ["desk", "dice", "now"]
theorem sc_law_deed : FnScope N_law_deed ps_law_deed (defScope s_law_deed) := C8.fnScope_by (by decide +kernel)
theorem b_law_deed (kV doc pm : Value) (an : Option Addr) (cdv ct : Value) (us : List Value) (hl : us.length = ps_law_deed.length) : bindArgs (PySem.W.fnOf "_law_deed" "_law_deed" (defArgs s_law_deed) (defBody s_law_deed) (defScope s_law_deed) .none kV doc pm an cdv ct) ⟨us, []⟩ = pure (ps_law_deed.zip us) := match us, hl with | [_, _, _], _ => rfl
theorem Txt.f_law_table (T : Txt P K mg base) : ∃ fd, FunD K "_law_table" "_law_table" (defArgs s_law_table) (defBody s_law_table) (defScope s_law_table) [] [] (He.fAd K ("_law_table", none)) fd := T.d.def_ 18
abbrev N_law_table : List Str := ["text"]
abbrev ps_law_table : List Str := ["text"]
theorem sc_law_table : FnScope N_law_table ps_law_table (defScope s_law_table) := C8.fnScope_by (by decide +kernel)
theorem b_law_table (kV doc pm : Value) (an : Option Addr) (cdv ct : Value) (us : List Value) (hl : us.length = ps_law_table.length) : bindArgs (PySem.W.fnOf "_law_table" "_law_table" (defArgs s_law_table) (defBody s_law_table) (defScope s_law_table) .none kV doc pm an cdv ct) ⟨us, []⟩ = pure (ps_law_table.zip us) := match us, hl with | [_], _ => rfl
theorem Txt.f_law (T : Txt P K mg base) : ∃ fd, FunD K "law" "law" (defArgs s_law) (defBody s_law) (defScope s_law) [] [] (He.fAd K ("law", none)) fd := T.d.def_ 19
abbrev N_law : List Str := ["script", "dice", "desk", "past", "place", "step", "now", "side", "fine", "reply", "deed", "due"]
abbrev ps_law : List Str := ["script"]
theorem sc_law : FnScope N_law ps_law (defScope s_law) := C8.fnScope_by (by decide +kernel)
theorem b_law (kV doc pm : Value) (an : Option Addr) (cdv ct : Value) (us : List Value) (hl : us.length = ps_law.length) : bindArgs (PySem.W.fnOf "law" "law" (defArgs s_law) (defBody s_law) (defScope s_law) .none kV doc pm an cdv ct) ⟨us, []⟩ = pure (ps_law.zip us) := match us, hl with | [_], _ => rfl
theorem Txt.f_Table_d_initd_ (T : Txt P K mg base) : ∃ fd, FunD K "__init__" "Table.__init__" (defArgs s_Table_d_initd_) (defBody s_Table_d_initd_) (defScope s_Table_d_initd_) [] [] (He.fAd K ("Table", some "__init__")) fd := T.d.def_ 20
abbrev N_Table_d_initd_ : List Str := ["self", "teams", "worth", "rules", "team", "rule"]
abbrev ps_Table_d_initd_ : List Str := ["self", "teams", "worth", "rules"]
theorem sc_Table_d_initd_ : FnScope N_Table_d_initd_ ps_Table_d_initd_ (defScope s_Table_d_initd_) := C8.fnScope_by (by decide +kernel)
theorem b_Table_d_initd_ (kV doc pm : Value) (an : Option Addr) (cdv ct : Value) (us : List Value) (hl : us.length = ps_Table_d_initd_.length) : bindArgs (PySem.W.fnOf "__init__" "Table.__init__" (defArgs s_Table_d_initd_) (defBody s_Table_d_initd_) (defScope s_Table_d_initd_) .none kV doc pm an cdv ct) ⟨us, []⟩ = pure (ps_Table_d_initd_.zip us) := match us, hl with | [_, _, _, _], _ => rfl
theorem Txt.f_Table_game (T : Txt P K mg base) : ∃ fd, FunD K "game" "Table.game" (defArgs s_Table_game) (defBody s_Table_game) (defScope s_Table_game) [] [] (He.fAd K ("Table", some "game")) fd := T.d.def_ 21
abbrev N_Table_game : List Str := ["self", "home", "away", "one", "other"]
abbrev ps_Table_game : List Str := ["self", "home", "away", "one", "other"]
theorem sc_Table_game : FnScope N_Table_game ps_Table_game (defScope s_Table_game) := C8.fnScope_by (by decide +kernel)
theorem b_Table_game (kV doc pm : Value) (an : Option Addr) (cdv ct : Value) (us : List Value) (hl : us.length = ps_Table_game.length) : bindArgs (PySem.W.fnOf "game" "Table.game" (defArgs s_Table_game) (defBody s_Table_game) (defScope s_Table_game) .none kV doc pm an cdv ct) ⟨us, []⟩ = pure (ps_Table_game.zip us) := match us, hl with | [_, _, _, _, _], _ => rfl
theorem Txt.f_Table_mark (T : Txt P K mg base) : ∃ fd, FunD K "mark" "Table.mark" (defArgs s_Table_mark) (defBody s_Table_mark) (defScope s_Table_mark) [] [] (He.fAd K ("Table", some "mark")) fd := T.d.def_ 22
abbrev N_Table_mark : List Str := ["self", "team", "count"]
abbrev ps_Table_mark : List Str := ["self", "team", "count"]
theorem sc_Table_mark : FnScope N_Table_mark ps_Table_mark (defScope s_Table_mark) := C8.fnScope_by (by decide +kernel)
theorem b_Table_mark (kV doc pm : Value) (an : Option Addr) (cdv ct : Value) (us : List Value) (hl : us.length = ps_Table_mark.length) : bindArgs (PySem.W.fnOf "mark" "Table.mark" (defArgs s_Table_mark) (defBody s_Table_mark) (defScope s_Table_mark) .none kV doc pm an cdv ct) ⟨us, []⟩ = pure (ps_Table_mark.zip us) := match us, hl with | [_, _, _], _ => rfl
theorem Txt.f_Table_take (T : Txt P K mg base) : ∃ fd, FunD K "take" "Table.take" (defArgs s_Table_take) (defBody s_Table_take) (defScope s_Table_take) [] [] (He.fAd K ("Table", some "take")) fd := T.d.def_ 23
abbrev N_Table_take : List Str := ["self", "team", "count"]
abbrev ps_Table_take : List Str := ["self", "team", "count"]
theorem sc_Table_take : FnScope N_Table_take ps_Table_take (defScope s_Table_take) := C8.fnScope_by (by decide +kernel)
theorem b_Table_take (kV doc pm : Value) (an : Option Addr) (cdv ct : Value) (us : List Value) (hl : us.length = ps_Table_take.length) : bindArgs (PySem.W.fnOf "take" "Table.take" (defArgs s_Table_take) (defBody s_Table_take) (defScope s_Table_take) .none kV doc pm an cdv ct) ⟨us, []⟩ = pure (ps_Table_take.zip us) := match us, hl with | [_, _, _], _ => rfl
theorem Txt.f_Table_sums (T : Txt P K mg base) : ∃ fd, FunD K "sums" "Table.sums" (defArgs s_Table_sums) (defBody s_Table_sums) (defScope s_Table_sums) [] [] (He.fAd K ("Table", some "sums")) fd := T.d.def_ 24
abbrev N_Table_sums : List Str := ["self", "team", "among", "found", "home", "away", "one", "other", "mine", "theirs", "sort"]
abbrev ps_Table_sums : List Str := ["self", "team", "among"]
theorem sc_Table_sums : FnScope N_Table_sums ps_Table_sums (defScope s_Table_sums) := C8.fnScope_by (by decide +kernel)
theorem b_Table_sums (kV doc pm : Value) (an : Option Addr) (cdv ct : Value) (us : List Value) (hl : us.length = ps_Table_sums.length) : bindArgs (PySem.W.fnOf "sums" "Table.sums" (defArgs s_Table_sums) (defBody s_Table_sums) (defScope s_Table_sums) .none kV doc pm an cdv ct) ⟨us, []⟩ = pure (ps_Table_sums.zip us) := match us, hl with | [_, _, _], _ => rfl
theorem Txt.f_Table_worth_by (T : Txt P K mg base) : ∃ fd, FunD K "worth_by" "Table.worth_by" (defArgs s_Table_worth_by) (defBody s_Table_worth_by) (defScope s_Table_worth_by) [] [] (He.fAd K ("Table", some "worth_by")) fd := T.d.def_ 25
abbrev N_Table_worth_by : List Str := ["self", "team", "rule", "among", "row", "met"]
abbrev ps_Table_worth_by : List Str := ["self", "team", "rule", "among"]
theorem sc_Table_worth_by : FnScope N_Table_worth_by ps_Table_worth_by (defScope s_Table_worth_by) := C8.fnScope_by (by decide +kernel)
theorem b_Table_worth_by (kV doc pm : Value) (an : Option Addr) (cdv ct : Value) (us : List Value) (hl : us.length = ps_Table_worth_by.length) : bindArgs (PySem.W.fnOf "worth_by" "Table.worth_by" (defArgs s_Table_worth_by) (defBody s_Table_worth_by) (defScope s_Table_worth_by) .none kV doc pm an cdv ct) ⟨us, []⟩ = pure (ps_Table_worth_by.zip us) := match us, hl with | [_, _, _, _], _ => rfl
theorem Txt.f_Table_ranked (T : Txt P K mg base) : ∃ fd, FunD K "ranked" "Table.ranked" (defArgs s_Table_ranked) (defBody s_Table_ranked) (defScope s_Table_ranked) [] [] (He.fAd K ("Table", some "ranked")) fd := T.d.def_ 26
abbrev N_Table_ranked : List Str := ["self"]
abbrev ps_Table_ranked : List Str := ["self"]
theorem sc_Table_ranked : FnScope N_Table_ranked ps_Table_ranked (defScope s_Table_ranked) := C8.fnScope_by (by decide +kernel)
theorem b_Table_ranked (kV doc pm : Value) (an : Option Addr) (cdv ct : Value) (us : List Value) (hl : us.length = ps_Table_ranked.length) : bindArgs (PySem.W.fnOf "ranked" "Table.ranked" (defArgs s_Table_ranked) (defBody s_Table_ranked) (defScope s_Table_ranked) .none kV doc pm an cdv ct) ⟨us, []⟩ = pure (ps_Table_ranked.zip us) := match us, hl with | [_], _ => rfl
theorem Txt.f_Table_parted (T : Txt P K mg base) : ∃ fd, FunD K "parted" "Table.parted" (defArgs s_Table_parted) (defBody s_Table_parted) (defScope s_Table_parted) [] [] (He.fAd K ("Table", some "parted")) fd := T.d.def_ 27
abbrev N_Table_parted : List Str := ["self", "row", "k", "rule", "worths", "team", "found", "worth", "one", "group", "again"]
abbrev ps_Table_parted : List Str := ["self", "row", "k"]
theorem sc_Table_parted : FnScope N_Table_parted ps_Table_parted (defScope s_Table_parted) := C8.fnScope_by (by decide +kernel)
theorem b_Table_parted (kV doc pm : Value) (an : Option Addr) (cdv ct : Value) (us : List Value) (hl : us.length = ps_Table_parted.length) : bindArgs (PySem.W.fnOf "parted" "Table.parted" (defArgs s_Table_parted) (defBody s_Table_parted) (defScope s_Table_parted) .none kV doc pm an cdv ct) ⟨us, []⟩ = pure (ps_Table_parted.zip us) := match us, hl with | [_, _, _], _ => rfl
theorem Txt.f_Table_place (T : Txt P K mg base) : ∃ fd, FunD K "place" "Table.place" (defArgs s_Table_place) (defBody s_Table_place) (defScope s_Table_place) [] [] (He.fAd K ("Table", some "place")) fd := T.d.def_ 28
abbrev N_Table_place : List Str := ["self", "team", "ahead", "row"]
abbrev ps_Table_place : List Str := ["self", "team"]
theorem sc_Table_place : FnScope N_Table_place ps_Table_place (defScope s_Table_place) := C8.fnScope_by (by decide +kernel)
theorem b_Table_place (kV doc pm : Value) (an : Option Addr) (cdv ct : Value) (us : List Value) (hl : us.length = ps_Table_place.length) : bindArgs (PySem.W.fnOf "place" "Table.place" (defArgs s_Table_place) (defBody s_Table_place) (defScope s_Table_place) .none kV doc pm an cdv ct) ⟨us, []⟩ = pure (ps_Table_place.zip us) := match us, hl with | [_, _], _ => rfl
theorem Txt.f_Table_to_play (T : Txt P K mg base) : ∃ fd, FunD K "to_play" "Table.to_play" (defArgs s_Table_to_play) (defBody s_Table_to_play) (defScope s_Table_to_play) [] [] (He.fAd K ("Table", some "to_play")) fd := T.d.def_ 29
abbrev N_Table_to_play : List Str := ["self", "each"]
abbrev ps_Table_to_play : List Str := ["self", "each"]
theorem sc_Table_to_play : FnScope N_Table_to_play ps_Table_to_play (defScope s_Table_to_play) := C8.fnScope_by (by decide +kernel)
theorem b_Table_to_play (kV doc pm : Value) (an : Option Addr) (cdv ct : Value) (us : List Value) (hl : us.length = ps_Table_to_play.length) : bindArgs (PySem.W.fnOf "to_play" "Table.to_play" (defArgs s_Table_to_play) (defBody s_Table_to_play) (defScope s_Table_to_play) .none kV doc pm an cdv ct) ⟨us, []⟩ = pure (ps_Table_to_play.zip us) := match us, hl with | [_, _], _ => rfl
theorem Txt.f_Season_d_initd_ (T : Txt P K mg base) : ∃ fd, FunD K "__init__" "Season.__init__" (defArgs s_Season_d_initd_) (defBody s_Season_d_initd_) (defScope s_Season_d_initd_) [] [] (He.fAd K ("Season", some "__init__")) fd := T.d.def_ 30
abbrev N_Season_d_initd_ : List Str := ["self", "teams", "worth", "rules"]
abbrev ps_Season_d_initd_ : List Str := ["self", "teams", "worth", "rules"]
theorem sc_Season_d_initd_ : FnScope N_Season_d_initd_ ps_Season_d_initd_ (defScope s_Season_d_initd_) := C8.fnScope_by (by decide +kernel)
theorem b_Season_d_initd_ (kV doc pm : Value) (an : Option Addr) (cdv ct : Value) (us : List Value) (hl : us.length = ps_Season_d_initd_.length) : bindArgs (PySem.W.fnOf "__init__" "Season.__init__" (defArgs s_Season_d_initd_) (defBody s_Season_d_initd_) (defScope s_Season_d_initd_) .none kV doc pm an cdv ct) ⟨us, []⟩ = pure (ps_Season_d_initd_.zip us) := match us, hl with | [_, _, _, _], _ => rfl
theorem Txt.f_Season_lay (T : Txt P K mg base) : ∃ fd, FunD K "lay" "Season.lay" (defArgs s_Season_lay) (defBody s_Season_lay) (defScope s_Season_lay) [] [] (He.fAd K ("Season", some "lay")) fd := T.d.def_ 31
abbrev N_Season_lay : List Str := ["self", "rounds", "game", "games"]
abbrev ps_Season_lay : List Str := ["self", "rounds"]
theorem sc_Season_lay : FnScope N_Season_lay ps_Season_lay (defScope s_Season_lay) := C8.fnScope_by (by decide +kernel)
theorem b_Season_lay (kV doc pm : Value) (an : Option Addr) (cdv ct : Value) (us : List Value) (hl : us.length = ps_Season_lay.length) : bindArgs (PySem.W.fnOf "lay" "Season.lay" (defArgs s_Season_lay) (defBody s_Season_lay) (defScope s_Season_lay) .none kV doc pm an cdv ct) ⟨us, []⟩ = pure (ps_Season_lay.zip us) := match us, hl with | [_, _], _ => rfl
theorem Txt.f_Season_table (T : Txt P K mg base) : ∃ fd, FunD K "table" "Season.table" (defArgs s_Season_table) (defBody s_Season_table) (defScope s_Season_table) [] [] (He.fAd K ("Season", some "table")) fd := T.d.def_ 32
abbrev N_Season_table : List Str := ["self", "found", "games", "home", "away", "one", "other"]
abbrev ps_Season_table : List Str := ["self"]
theorem sc_Season_table : FnScope N_Season_table ps_Season_table (defScope s_Season_table) := C8.fnScope_by (by decide +kernel)
theorem b_Season_table (kV doc pm : Value) (an : Option Addr) (cdv ct : Value) (us : List Value) (hl : us.length = ps_Season_table.length) : bindArgs (PySem.W.fnOf "table" "Season.table" (defArgs s_Season_table) (defBody s_Season_table) (defScope s_Season_table) .none kV doc pm an cdv ct) ⟨us, []⟩ = pure (ps_Season_table.zip us) := match us, hl with | [_], _ => rfl
theorem Txt.f_Season_up_to (T : Txt P K mg base) : ∃ fd, FunD K "up_to" "Season.up_to" (defArgs s_Season_up_to) (defBody s_Season_up_to) (defScope s_Season_up_to) [] [] (He.fAd K ("Season", some "up_to")) fd := T.d.def_ 33
abbrev N_Season_up_to : List Str := ["self", "many"]
abbrev ps_Season_up_to : List Str := ["self", "many"]
theorem sc_Season_up_to : FnScope N_Season_up_to ps_Season_up_to (defScope s_Season_up_to) := C8.fnScope_by (by decide +kernel)
theorem b_Season_up_to (kV doc pm : Value) (an : Option Addr) (cdv ct : Value) (us : List Value) (hl : us.length = ps_Season_up_to.length) : bindArgs (PySem.W.fnOf "up_to" "Season.up_to" (defArgs s_Season_up_to) (defBody s_Season_up_to) (defScope s_Season_up_to) .none kV doc pm an cdv ct) ⟨us, []⟩ = pure (ps_Season_up_to.zip us) := match us, hl with | [_, _], _ => rfl
theorem Txt.f_Season_unplayed (T : Txt P K mg base) : ∃ fd, FunD K "unplayed" "Season.unplayed" (defArgs s_Season_unplayed) (defBody s_Season_unplayed) (defScope s_Season_unplayed) [] [] (He.fAd K ("Season", some "unplayed")) fd := T.d.def_ 34
abbrev N_Season_unplayed : List Str := ["self"]
abbrev ps_Season_unplayed : List Str := ["self"]
theorem sc_Season_unplayed : FnScope N_Season_unplayed ps_Season_unplayed (defScope s_Season_unplayed) := C8.fnScope_by (by decide +kernel)
theorem b_Season_unplayed (kV doc pm : Value) (an : Option Addr) (cdv ct : Value) (us : List Value) (hl : us.length = ps_Season_unplayed.length) : bindArgs (PySem.W.fnOf "unplayed" "Season.unplayed" (defArgs s_Season_unplayed) (defBody s_Season_unplayed) (defScope s_Season_unplayed) .none kV doc pm an cdv ct) ⟨us, []⟩ = pure (ps_Season_unplayed.zip us) := match us, hl with | [_], _ => rfl
theorem Txt.f_Season_put (T : Txt P K mg base) : ∃ fd, FunD K "put" "Season.put" (defArgs s_Season_put) (defBody s_Season_put) (defScope s_Season_put) [] [] (He.fAd K ("Season", some "put")) fd := T.d.def_ 35
abbrev N_Season_put : List Str := ["self", "k", "home", "away", "one", "other", "games", "j", "row"]
abbrev ps_Season_put : List Str := ["self", "k", "home", "away", "one", "other"]
theorem sc_Season_put : FnScope N_Season_put ps_Season_put (defScope s_Season_put) := C8.fnScope_by (by decide +kernel)
theorem b_Season_put (kV doc pm : Value) (an : Option Addr) (cdv ct : Value) (us : List Value) (hl : us.length = ps_Season_put.length) : bindArgs (PySem.W.fnOf "put" "Season.put" (defArgs s_Season_put) (defBody s_Season_put) (defScope s_Season_put) .none kV doc pm an cdv ct) ⟨us, []⟩ = pure (ps_Season_put.zip us) := match us, hl with | [_, _, _, _, _, _], _ => rfl
theorem Txt.f_Desk_d_initd_ (T : Txt P K mg base) : ∃ fd, FunD K "__init__" "Desk.__init__" (defArgs s_Desk_d_initd_) (defBody s_Desk_d_initd_) (defScope s_Desk_d_initd_) [] [] (He.fAd K ("Desk", some "__init__")) fd := T.d.def_ 36
abbrev N_Desk_d_initd_ : List Str := ["self"]
abbrev ps_Desk_d_initd_ : List Str := ["self"]
theorem sc_Desk_d_initd_ : FnScope N_Desk_d_initd_ ps_Desk_d_initd_ (defScope s_Desk_d_initd_) := C8.fnScope_by (by decide +kernel)
theorem b_Desk_d_initd_ (kV doc pm : Value) (an : Option Addr) (cdv ct : Value) (us : List Value) (hl : us.length = ps_Desk_d_initd_.length) : bindArgs (PySem.W.fnOf "__init__" "Desk.__init__" (defArgs s_Desk_d_initd_) (defBody s_Desk_d_initd_) (defScope s_Desk_d_initd_) .none kV doc pm an cdv ct) ⟨us, []⟩ = pure (ps_Desk_d_initd_.zip us) := match us, hl with | [_], _ => rfl
theorem Txt.f_Desk_note (T : Txt P K mg base) : ∃ fd, FunD K "note" "Desk.note" (defArgs s_Desk_note) (defBody s_Desk_note) (defScope s_Desk_note) [] [] (He.fAd K ("Desk", some "note")) fd := T.d.def_ 37
abbrev N_Desk_note : List Str := ["self", "shown"]
abbrev ps_Desk_note : List Str := ["self", "shown"]
theorem sc_Desk_note : FnScope N_Desk_note ps_Desk_note (defScope s_Desk_note) := C8.fnScope_by (by decide +kernel)
theorem b_Desk_note (kV doc pm : Value) (an : Option Addr) (cdv ct : Value) (us : List Value) (hl : us.length = ps_Desk_note.length) : bindArgs (PySem.W.fnOf "note" "Desk.note" (defArgs s_Desk_note) (defBody s_Desk_note) (defScope s_Desk_note) .none kV doc pm an cdv ct) ⟨us, []⟩ = pure (ps_Desk_note.zip us) := match us, hl with | [_, _], _ => rfl
theorem Txt.f_Desk_begin (T : Txt P K mg base) : ∃ fd, FunD K "begin" "Desk.begin" (defArgs s_Desk_begin) (defBody s_Desk_begin) (defScope s_Desk_begin) [] [] (He.fAd K ("Desk", some "begin")) fd := T.d.def_ 38
abbrev N_Desk_begin : List Str := ["self", "teams", "is_twice", "rounds", "season", "text"]
abbrev ps_Desk_begin : List Str := ["self", "teams", "is_twice"]
theorem sc_Desk_begin : FnScope N_Desk_begin ps_Desk_begin (defScope s_Desk_begin) := C8.fnScope_by (by decide +kernel)
theorem b_Desk_begin (kV doc pm : Value) (an : Option Addr) (cdv ct : Value) (us : List Value) (hl : us.length = ps_Desk_begin.length) : bindArgs (PySem.W.fnOf "begin" "Desk.begin" (defArgs s_Desk_begin) (defBody s_Desk_begin) (defScope s_Desk_begin) .none kV doc pm an cdv ct) ⟨us, []⟩ = pure (ps_Desk_begin.zip us) := match us, hl with | [_, _, _], _ => rfl
theorem Txt.f_Desk_put (T : Txt P K mg base) : ∃ fd, FunD K "put" "Desk.put" (defArgs s_Desk_put) (defBody s_Desk_put) (defScope s_Desk_put) [] [] (He.fAd K ("Desk", some "put")) fd := T.d.def_ 39
abbrev N_Desk_put : List Str := ["self", "k", "home", "away", "one", "other", "season"]
abbrev ps_Desk_put : List Str := ["self", "k", "home", "away", "one", "other"]
theorem sc_Desk_put : FnScope N_Desk_put ps_Desk_put (defScope s_Desk_put) := C8.fnScope_by (by decide +kernel)
theorem b_Desk_put (kV doc pm : Value) (an : Option Addr) (cdv ct : Value) (us : List Value) (hl : us.length = ps_Desk_put.length) : bindArgs (PySem.W.fnOf "put" "Desk.put" (defArgs s_Desk_put) (defBody s_Desk_put) (defScope s_Desk_put) .none kV doc pm an cdv ct) ⟨us, []⟩ = pure (ps_Desk_put.zip us) := match us, hl with | [_, _, _, _, _, _], _ => rfl
theorem Txt.f_Desk_table (T : Txt P K mg base) : ∃ fd, FunD K "table" "Desk.table" (defArgs s_Desk_table) (defBody s_Desk_table) (defScope s_Desk_table) [] [] (He.fAd K ("Desk", some "table")) fd := T.d.def_ 40
abbrev N_Desk_table : List Str := ["self"]
abbrev ps_Desk_table : List Str := ["self"]
theorem sc_Desk_table : FnScope N_Desk_table ps_Desk_table (defScope s_Desk_table) := C8.fnScope_by (by decide +kernel)
theorem b_Desk_table (kV doc pm : Value) (an : Option Addr) (cdv ct : Value) (us : List Value) (hl : us.length = ps_Desk_table.length) : bindArgs (PySem.W.fnOf "table" "Desk.table" (defArgs s_Desk_table) (defBody s_Desk_table) (defScope s_Desk_table) .none kV doc pm an cdv ct) ⟨us, []⟩ = pure (ps_Desk_table.zip us) := match us, hl with | [_], _ => rfl
theorem Txt.f_Desk_undo (T : Txt P K mg base) : ∃ fd, FunD K "undo" "Desk.undo" (defArgs s_Desk_undo) (defBody s_Desk_undo) (defScope s_Desk_undo) [] [] (He.fAd K ("Desk", some "undo")) fd := T.d.def_ 41
abbrev N_Desk_undo : List Str := ["self", "deed"]
abbrev ps_Desk_undo : List Str := ["self"]
theorem sc_Desk_undo : FnScope N_Desk_undo ps_Desk_undo (defScope s_Desk_undo) := C8.fnScope_by (by decide +kernel)
theorem b_Desk_undo (kV doc pm : Value) (an : Option Addr) (cdv ct : Value) (us : List Value) (hl : us.length = ps_Desk_undo.length) : bindArgs (PySem.W.fnOf "undo" "Desk.undo" (defArgs s_Desk_undo) (defBody s_Desk_undo) (defScope s_Desk_undo) .none kV doc pm an cdv ct) ⟨us, []⟩ = pure (ps_Desk_undo.zip us) := match us, hl with | [_], _ => rfl
theorem Txt.f_Desk_redo (T : Txt P K mg base) : ∃ fd, FunD K "redo" "Desk.redo" (defArgs s_Desk_redo) (defBody s_Desk_redo) (defScope s_Desk_redo) [] [] (He.fAd K ("Desk", some "redo")) fd := T.d.def_ 42
abbrev N_Desk_redo : List Str := ["self", "deed"]
abbrev ps_Desk_redo : List Str := ["self"]
theorem sc_Desk_redo : FnScope N_Desk_redo ps_Desk_redo (defScope s_Desk_redo) := C8.fnScope_by (by decide +kernel)
theorem b_Desk_redo (kV doc pm : Value) (an : Option Addr) (cdv ct : Value) (us : List Value) (hl : us.length = ps_Desk_redo.length) : bindArgs (PySem.W.fnOf "redo" "Desk.redo" (defArgs s_Desk_redo) (defBody s_Desk_redo) (defScope s_Desk_redo) .none kV doc pm an cdv ct) ⟨us, []⟩ = pure (ps_Desk_redo.zip us) := match us, hl with | [_], _ => rfl
theorem tf_is_word : (("is_word", none) : He.Defn) ∈ tf := List.mem_of_getElem? (i := 0) rfl
theorem tf_is_count : (("is_count", none) : He.Defn) ∈ tf := List.mem_of_getElem? (i := 1) rfl
theorem tf_read : (("read", none) : He.Defn) ∈ tf := List.mem_of_getElem? (i := 2) rfl
theorem tf_read_game : (("read_game", none) : He.Defn) ∈ tf := List.mem_of_getElem? (i := 3) rfl
theorem tf_law_deed : (("_law_deed", none) : He.Defn) ∈ tf := List.mem_of_getElem? (i := 4) rfl
theorem tf_law : (("law", none) : He.Defn) ∈ tf := List.mem_of_getElem? (i := 5) rfl
theorem tf_Table_d_initd_ : (("Table", some "__init__") : He.Defn) ∈ tf := List.mem_of_getElem? (i := 6) rfl
theorem Txt.gx (T : Txt P K mg base) {p : He.Defn} (h : p ∈ tf) : GxR.TabB base mg (He.cT K p).1 (He.cT K p).2 := ⟨PySem.W.codeHd_of_K T.kin (T.hd p h), T.bm p h, T.gp p h⟩
theorem Txt.lx (T : Txt P K mg base) {p : He.Defn} (h : p ∈ tf) : LamX.TabB base mg (He.cT K p).1 (He.cT K p).2 := ⟨PySem.W.codeHd_of_K T.kin (T.hd p h), T.bm p h, T.gp p h⟩
end
/-- the tables: of generator expressions, of lambdas -/
def kept : List Fv.LamDat := Fv.lamsIn (("_law_deed.<locals>." : Str) ++ "<lambda>") 30 (defBody s_law_deed)
def tbs (K : PySem.W.Frag) : Fv.Tbs := ⟨[(He.cT K ("is_word", none)).2, (He.cT K ("is_count", none)).2, (He.cT K ("read", none)).2, (He.cT K ("read_game", none)).2, (He.cT K ("Table", some "__init__")).2], [((He.cT K ("_law_deed", none)).2, (("_law_deed.<locals>." : Str) ++ "<lambda>")), ((He.cT K ("law", none)).2, (("law.<locals>." : Str) ++ "<lambda>"))], kept⟩
end K27
set_option Elab.async false
set_option linter.all false
set_option maxRecDepth 100000
set_option maxHeartbeats 4000000
namespace K27
open PySem PySem.Spec PyProof.Rows L2 Fh Fv
section
variable {ar : Air} {P : Program} {w : World} {K : PySem.W.Frag} {mg : Str → Option Value} {base : Heap}
theorem hP_is_word (K : PySem.W.Frag) : (He.cT K ("is_word", none)).2 ∈ (tbs K).tg := List.mem_of_getElem? (i := 0) rfl
theorem hl_is_word (T : Txt P K mg base) : ∀ p ∈ (tbs K).tl, p.1 ≠ (He.cT K ("is_word", none)).2 := fun p hp => by
  have hp : p ∈ [((He.cT K ("_law_deed", none)).2, (("_law_deed.<locals>." : Str) ++ "<lambda>")), ((He.cT K ("law", none)).2, (("law.<locals>." : Str) ++ "<lambda>"))] := hp
  simp only [List.mem_cons, List.not_mem_nil, or_false] at hp
  rcases hp with rfl | rfl
  · exact T.ne _ tf_law_deed _ tf_is_word (by decide)
  · exact T.ne _ tf_law _ tf_is_word (by decide)
theorem hP_is_count (K : PySem.W.Frag) : (He.cT K ("is_count", none)).2 ∈ (tbs K).tg := List.mem_of_getElem? (i := 1) rfl
theorem hl_is_count (T : Txt P K mg base) : ∀ p ∈ (tbs K).tl, p.1 ≠ (He.cT K ("is_count", none)).2 := fun p hp => by
  have hp : p ∈ [((He.cT K ("_law_deed", none)).2, (("_law_deed.<locals>." : Str) ++ "<lambda>")), ((He.cT K ("law", none)).2, (("law.<locals>." : Str) ++ "<lambda>"))] := hp
  simp only [List.mem_cons, List.not_mem_nil, or_false] at hp
  rcases hp with rfl | rfl
  · exact T.ne _ tf_law_deed _ tf_is_count (by decide)
  · exact T.ne _ tf_law _ tf_is_count (by decide)
theorem hP_read (K : PySem.W.Frag) : (He.cT K ("read", none)).2 ∈ (tbs K).tg := List.mem_of_getElem? (i := 2) rfl
theorem hl_read (T : Txt P K mg base) : ∀ p ∈ (tbs K).tl, p.1 ≠ (He.cT K ("read", none)).2 := fun p hp => by
  have hp : p ∈ [((He.cT K ("_law_deed", none)).2, (("_law_deed.<locals>." : Str) ++ "<lambda>")), ((He.cT K ("law", none)).2, (("law.<locals>." : Str) ++ "<lambda>"))] := hp
  simp only [List.mem_cons, List.not_mem_nil, or_false] at hp
  rcases hp with rfl | rfl
  · exact T.ne _ tf_law_deed _ tf_read (by decide)
  · exact T.ne _ tf_law _ tf_read (by decide)
theorem hP_read_game (K : PySem.W.Frag) : (He.cT K ("read_game", none)).2 ∈ (tbs K).tg := List.mem_of_getElem? (i := 3) rfl
theorem hl_read_game (T : Txt P K mg base) : ∀ p ∈ (tbs K).tl, p.1 ≠ (He.cT K ("read_game", none)).2 := fun p hp => by
  have hp : p ∈ [((He.cT K ("_law_deed", none)).2, (("_law_deed.<locals>." : Str) ++ "<lambda>")), ((He.cT K ("law", none)).2, (("law.<locals>." : Str) ++ "<lambda>"))] := hp
  simp only [List.mem_cons, List.not_mem_nil, or_false] at hp
  rcases hp with rfl | rfl
  · exact T.ne _ tf_law_deed _ tf_read_game (by decide)
  · exact T.ne _ tf_law _ tf_read_game (by decide)
theorem hP_Table_d_initd_ (K : PySem.W.Frag) : (He.cT K ("Table", some "__init__")).2 ∈ (tbs K).tg := List.mem_of_getElem? (i := 4) rfl
theorem hl_Table_d_initd_ (T : Txt P K mg base) : ∀ p ∈ (tbs K).tl, p.1 ≠ (He.cT K ("Table", some "__init__")).2 := fun p hp => by
  have hp : p ∈ [((He.cT K ("_law_deed", none)).2, (("_law_deed.<locals>." : Str) ++ "<lambda>")), ((He.cT K ("law", none)).2, (("law.<locals>." : Str) ++ "<lambda>"))] := hp
  simp only [List.mem_cons, List.not_mem_nil, or_false] at hp
  rcases hp with rfl | rfl
  · exact T.ne _ tf_law_deed _ tf_Table_d_initd_ (by decide)
  · exact T.ne _ tf_law _ tf_Table_d_initd_ (by decide)
theorem hlt_law_deed (K : PySem.W.Frag) : ((He.cT K ("_law_deed", none)).2, (("_law_deed.<locals>." : Str) ++ "<lambda>")) ∈ (tbs K).tl := List.mem_of_getElem? (i := 0) rfl
theorem hng_law_deed (T : Txt P K mg base) : (He.cT K ("_law_deed", none)).2 ∉ (tbs K).tg := fun hp => by
  have hp : (He.cT K ("_law_deed", none)).2 ∈ [(He.cT K ("is_word", none)).2, (He.cT K ("is_count", none)).2, (He.cT K ("read", none)).2, (He.cT K ("read_game", none)).2, (He.cT K ("Table", some "__init__")).2] := hp
  simp only [List.mem_cons, List.not_mem_nil, or_false] at hp
  rcases hp with hp | hp | hp | hp | hp
  · exact T.ne _ tf_law_deed _ tf_is_word (by decide) hp
  · exact T.ne _ tf_law_deed _ tf_is_count (by decide) hp
  · exact T.ne _ tf_law_deed _ tf_read (by decide) hp
  · exact T.ne _ tf_law_deed _ tf_read_game (by decide) hp
  · exact T.ne _ tf_law_deed _ tf_Table_d_initd_ (by decide) hp
theorem hlu_law_deed (T : Txt P K mg base) : ∀ p ∈ (tbs K).tl, p.1 = (He.cT K ("_law_deed", none)).2 → p.2 = (("_law_deed.<locals>." : Str) ++ "<lambda>") := fun p hp e => by
  have hp : p ∈ [((He.cT K ("_law_deed", none)).2, (("_law_deed.<locals>." : Str) ++ "<lambda>")), ((He.cT K ("law", none)).2, (("law.<locals>." : Str) ++ "<lambda>"))] := hp
  simp only [List.mem_cons, List.not_mem_nil, or_false] at hp
  rcases hp with rfl | rfl
  · rfl
  · exact absurd e (T.ne _ tf_law _ tf_law_deed (by decide))
theorem hlt_law (K : PySem.W.Frag) : ((He.cT K ("law", none)).2, (("law.<locals>." : Str) ++ "<lambda>")) ∈ (tbs K).tl := List.mem_of_getElem? (i := 1) rfl
theorem hng_law (T : Txt P K mg base) : (He.cT K ("law", none)).2 ∉ (tbs K).tg := fun hp => by
  have hp : (He.cT K ("law", none)).2 ∈ [(He.cT K ("is_word", none)).2, (He.cT K ("is_count", none)).2, (He.cT K ("read", none)).2, (He.cT K ("read_game", none)).2, (He.cT K ("Table", some "__init__")).2] := hp
  simp only [List.mem_cons, List.not_mem_nil, or_false] at hp
  rcases hp with hp | hp | hp | hp | hp
  · exact T.ne _ tf_law _ tf_is_word (by decide) hp
  · exact T.ne _ tf_law _ tf_is_count (by decide) hp
  · exact T.ne _ tf_law _ tf_read (by decide) hp
  · exact T.ne _ tf_law _ tf_read_game (by decide) hp
  · exact T.ne _ tf_law _ tf_Table_d_initd_ (by decide) hp
theorem hlu_law (T : Txt P K mg base) : ∀ p ∈ (tbs K).tl, p.1 = (He.cT K ("law", none)).2 → p.2 = (("law.<locals>." : Str) ++ "<lambda>") := fun p hp e => by
  have hp : p ∈ [((He.cT K ("_law_deed", none)).2, (("_law_deed.<locals>." : Str) ++ "<lambda>")), ((He.cT K ("law", none)).2, (("law.<locals>." : Str) ++ "<lambda>"))] := hp
  simp only [List.mem_cons, List.not_mem_nil, or_false] at hp
  rcases hp with rfl | rfl
  · exact absurd e (T.ne _ tf_law_deed _ tf_law (by decide))
  · rfl
def sub_BadDeed : Str → Option Bool := fun c => ([("FixtureFault", false), ("BadTeams", false), ("BadScore", false), ("BadRule", false), ("BadText", false), ("BadDeed", true)] : List (Str × Bool)).lookup c
theorem hx_BadDeed (T : Txt P K mg base) : ∀ cn b, sub_BadDeed cn = some b → PySem.W.exmOne K (.ref (He.ga K cn)) (.ref (He.ga K "BadDeed")) = some b := exm_of (exm_cons T.e_FixtureFault_BadDeed (exm_cons T.e_BadTeams_BadDeed (exm_cons T.e_BadScore_BadDeed (exm_cons T.e_BadRule_BadDeed (exm_cons T.e_BadText_BadDeed (exm_cons T.e_BadDeed_BadDeed exm_nil))))))
def sub_FixtureFault : Str → Option Bool := fun c => ([("FixtureFault", true), ("BadTeams", true), ("BadScore", true), ("BadRule", true), ("BadText", true), ("BadDeed", true)] : List (Str × Bool)).lookup c
theorem hx_FixtureFault (T : Txt P K mg base) : ∀ cn b, sub_FixtureFault cn = some b → PySem.W.exmOne K (.ref (He.ga K cn)) (.ref (He.ga K "FixtureFault")) = some b := exm_of (exm_cons T.e_FixtureFault_FixtureFault (exm_cons T.e_BadTeams_FixtureFault (exm_cons T.e_BadScore_FixtureFault (exm_cons T.e_BadRule_FixtureFault (exm_cons T.e_BadText_FixtureFault (exm_cons T.e_BadDeed_FixtureFault exm_nil))))))
def F_check_teams : FS := (sIf (bOr (tV (f2 ltW (fB lenW (aCons (fVar 0) aNil)) (fC (.int 2)))) (tV (f2 (eqW true) (fB lenW (aCons (fDc (iSq (fVar 0)) [1] (.nm 1) bYes (fVar 1) (fC (.bl true))) aNil)) (fB lenW (aCons (fVar 0) aNil))))) (sRaise "BadTeams") sNx)
abbrev f_check_teams : List W → M W := runF 2 F_check_teams
theorem ok_check_teams (T : Txt P K mg base) : CalX ar P w K mg base 3 "check_teams" (spF K (tbs K) 1 f_check_teams) := by
  have nd := sc_check_teams.nd
  refine calV (p := ("check_teams", none)) T.g_check_teams T.f_check_teams sc_check_teams b_check_teams rfl rfl (k := 2) (N := N_check_teams) (fb := F_check_teams) (T := tbs K) fun A outer s H E hr => ?_
  exact (sv_one (sv_if (PWv.pt (wv_or (tv_cmp v_lt (ev_callB v_len T.n_len (by decide +kernel) (av_cons (ev_v 0) av_nil)) ev_int) (wv_or1 (tv_cmp (v_ne hr) (ev_callB v_len T.n_len (by decide +kernel) (av_cons (ev_dc (own := [("team", 1)]) (fi := (iSq (fVar 0))) (pt := (.nm 1)) (ft := bYes) (fk := (fVar 1)) (fe := (fC (.bl true))) nd (iv_sq (ev_v 0)) (blkOk_by (N := N_check_teams) (sc := defScope s_check_teams) (by decide +kernel)) (fun _ _ _ _ _ => (gv_n 1 nd)) (fun _ _ _ _ _ => tsv_nil) (fun _ _ _ _ _ => (ev_v 1)) (fun _ _ _ _ _ => ev_bl)) av_nil)) (ev_callB v_len T.n_len (by decide +kernel) (av_cons (ev_v 0) av_nil)))))) (sv_one (sv_raise T.x_BadTeams ar.cx)) sv_nil))
def F_circle : FS := (sSeq (sE (fCall 1 (f_check_teams) (aCons (fVar 0) aNil))) (sSeq (sSet 1 (f2 addW (fB listW (aCons (fVar 0) aNil)) (fIf (tV (f2 (eqW false) (f2 modW (fB lenW (aCons (fVar 0) aNil)) (fC (.int 2))) (fC (.int 1)))) (fLst (aCons (fC .non) aNil)) (fLst aNil)))) (sSeq (sPar 2 3 (aCons (fB lenW (aCons (fVar 1) aNil)) (aCons (fLst aNil) aNil))) (sSeq (sFor (iRg rng1 (aCons (f2 subW (fVar 2) (fC (.int 1))) aNil)) (.nm 4) (sSeq (sSet 5 (fLst aNil)) (sSeq (sFor (iRg rng1 (aCons (f2 divW (fVar 2) (fC (.int 2))) aNil)) (.nm 6) (sSeq (sPar 7 8 (aCons (f2 ixW (fVar 1) (fVar 6)) (aCons (f2 ixW (fVar 1) (f2 subW (f2 subW (fVar 2) (fC (.int 1))) (fVar 6))) aNil))) (sSeq (sIf (bOr (bAnd (tV (f2 (eqW false) (fVar 6) (fC (.int 0)))) (tV (f2 (eqW false) (f2 modW (fVar 4) (fC (.int 2))) (fC (.int 1))))) (bAnd (tV (f2 gtW (fVar 6) (fC (.int 0)))) (tV (f2 (eqW false) (f2 modW (fVar 6) (fC (.int 2))) (fC (.int 1)))))) (sPar 7 8 (aCons (fVar 8) (aCons (fVar 7) aNil))) sNx) (sIf (bAnd (tV (fIsN true (fVar 7))) (tV (fIsN true (fVar 8)))) (sE (fM .list appendW (fVar 5) (aCons (fTup (aCons (fVar 7) (aCons (fVar 8) aNil))) aNil))) sNx)))) (sSeq (sE (fM .list appendW (fVar 3) (aCons (fB tupleW (aCons (fVar 5) aNil)) aNil))) (sSet 1 (f2 addW (f2 addW (fSl (fVar 1) (oSome (fNeg (fC (.int 2)))) (oSome (fNeg (fC (.int 1))))) (fSl (fVar 1) oNone (oSome (fNeg (fC (.int 2)))))) (fSl (fVar 1) (oSome (fNeg (fC (.int 1)))) oNone))))))) (sRt (fB tupleW (aCons (fVar 3) aNil)))))))
abbrev f_circle : List W → M W := runF 9 F_circle
theorem ok_circle (T : Txt P K mg base) : CalX ar P w K mg base 6 "circle" (spF K (tbs K) 1 f_circle) := by
  have nd := sc_circle.nd
  refine calV (p := ("circle", none)) T.g_circle T.f_circle sc_circle b_circle rfl rfl (k := 5) (N := N_circle) (fb := F_circle) (T := tbs K) fun A outer s H E hr => ?_
  exact (sv_cons (sv_expr (ev_call (ok_check_teams T) hr (by decide) ar.cx (av_cons (ev_v 0) av_nil))) (sv_cons (sv_s 1 nd (ev_op v_add (ev_callTy v_list T.n_list (by decide +kernel) (av_cons (ev_v 0) av_nil)) (ev_if (tv_cmp (v_eq hr) (ev_op v_mod (ev_callB v_len T.n_len (by decide +kernel) (av_cons (ev_v 0) av_nil)) ev_int) ev_int) (ev_lst (av_cons ev_non av_nil)) (ev_lst av_nil)))) (sv_cons (sv_par (i := 2) (j := 3) (by rfl) nd rfl rfl (by decide) rfl rfl (av_cons (ev_callB v_len T.n_len (by decide +kernel) (av_cons (ev_v 1) av_nil)) (av_cons (ev_lst av_nil) av_nil)) (by rfl)) (sv_cons (sv_for owB (iv_range1 T.n_range (av_cons (ev_op v_sub (ev_v 2) ev_int) av_nil)) (gv_n 4 nd) (sv_cons (sv_s 5 nd (ev_lst av_nil)) (sv_cons (sv_for owB (iv_range1 T.n_range (av_cons (ev_op v_div (ev_v 2) ev_int) av_nil)) (gv_n 6 nd) (sv_cons (sv_par (i := 7) (j := 8) (by rfl) nd rfl rfl (by decide) rfl rfl (av_cons (ev_ix hr (ev_v 1) (ev_v 6)) (av_cons (ev_ix hr (ev_v 1) (ev_op v_sub (ev_op v_sub (ev_v 2) ev_int) (ev_v 6))) av_nil)) (by rfl)) (sv_cons (sv_if (PWv.pt (wv_or (PWv.pt (wv_and (tv_cmp (v_eq hr) (ev_v 6) ev_int) (wv_and1 (tv_cmp (v_eq hr) (ev_op v_mod (ev_v 4) ev_int) ev_int)))) (wv_or1 (PWv.pt (wv_and (tv_cmp v_gt (ev_v 6) ev_int) (wv_and1 (tv_cmp (v_eq hr) (ev_op v_mod (ev_v 6) ev_int) ev_int))))))) (sv_one (sv_par (i := 7) (j := 8) (by rfl) nd rfl rfl (by decide) rfl rfl (av_cons (ev_v 8) (av_cons (ev_v 7) av_nil)) (by rfl))) sv_nil) (sv_one (sv_if (PWv.pt (wv_and (tv_notN (ev_v 7)) (wv_and1 (tv_notN (ev_v 8))))) (sv_one (sv_expr (ev_bm (t := .list) v_append PySem.F.plainAttrs_list PySem.F.slot_list_append PySem.F.type_list_append (ev_v 5) (av_cons (ev_tup (av_cons (ev_v 7) (av_cons (ev_v 8) av_nil))) av_nil)))) sv_nil))))) (sv_cons (sv_expr (ev_bm (t := .list) v_append PySem.F.plainAttrs_list PySem.F.slot_list_append PySem.F.type_list_append (ev_v 3) (av_cons (ev_callTy v_tuple T.n_tuple (by decide +kernel) (av_cons (ev_v 5) av_nil)) av_nil))) (sv_one (sv_s 1 nd (ev_op v_add (ev_op v_add (ev_slice (ev_v 1) (ov_some (ev_neg ev_int)) (ov_some (ev_neg ev_int))) (ev_slice (ev_v 1) ov_none (ov_some (ev_neg ev_int)))) (ev_slice (ev_v 1) (ov_some (ev_neg ev_int)) ov_none)))))))) (sv_one (sv_ret (ev_callTy v_tuple T.n_tuple (by decide +kernel) (av_cons (ev_v 3) av_nil))))))))
def F_twice : FS := (sRt (f2 addW (fB tupleW (aCons (fVar 0) aNil)) (fB tupleW (aCons (fLc (iSq (fVar 0)) [3] (.nm 3) bYes (fB tupleW (aCons (fLc (iSq (fVar 3)) [1, 2] (.tp [1, 2]) bYes (fTup (aCons (fVar 2) (aCons (fVar 1) aNil)))) aNil))) aNil))))
abbrev f_twice : List W → M W := runF 4 F_twice
theorem ok_twice (T : Txt P K mg base) : CalX ar P w K mg base 3 "twice" (spF K (tbs K) 1 f_twice) := by
  have nd := sc_twice.nd
  refine calV (p := ("twice", none)) T.g_twice T.f_twice sc_twice b_twice rfl rfl (k := 2) (N := N_twice) (fb := F_twice) (T := tbs K) fun A outer s H E hr => ?_
  exact (sv_one (sv_ret (ev_op v_add (ev_callTy v_tuple T.n_tuple (by decide +kernel) (av_cons (ev_v 0) av_nil)) (ev_callTy v_tuple T.n_tuple (by decide +kernel) (av_cons (ev_lc (own := [("games", 3)]) (fi := (iSq (fVar 0))) (pt := (.nm 3)) (ft := bYes) (fe := (fB tupleW (aCons (fLc (iSq (fVar 3)) [1, 2] (.tp [1, 2]) bYes (fTup (aCons (fVar 2) (aCons (fVar 1) aNil)))) aNil))) nd (iv_sq (ev_v 0)) (blkOk_by (N := N_twice) (sc := defScope s_twice) (by decide +kernel)) (fun _ _ _ _ _ => (gv_n 3 nd)) (fun _ _ _ _ _ => tsv_nil) (fun _ _ _ _ _ => (ev_callTy v_tuple T.n_tuple (by decide +kernel) (av_cons (ev_lc (own := [("home", 1), ("away", 2)]) (fi := (iSq (fVar 3))) (pt := (.tp [1, 2])) (ft := bYes) (fe := (fTup (aCons (fVar 2) (aCons (fVar 1) aNil)))) nd (iv_sq (ev_v 3)) (blkOk_by (by kernel_rfl)) (fun _ _ _ _ _ => (gv_tp (is := [1, 2]) (pg_tup rfl (pgs_cons (pg_n 1 nd) (pgs_cons (pg_n 2 nd) pgs_nil))))) (fun _ _ _ _ _ => tsv_nil) (fun _ _ _ _ _ => (ev_tup (av_cons (ev_v 2) (av_cons (ev_v 1) av_nil))))) av_nil)))) av_nil)))))
def F_is_word : FS := (sRt (vAnd (f2 (eqW true) (fVar 0) (fC (.str ""))) (fAny false (iSq (fVar 0)) [1] (.nm 1) bYes (f2 (inW false) (fVar 1) (fC (.str "abcdefghijklmnopqrstuvwxyz0123456789_"))))))
abbrev f_is_word : List W → M W := runF 2 F_is_word
theorem ok_is_word (T : Txt P K mg base) : CalX ar P w K mg base 3 "is_word" (spF K (tbs K) 1 f_is_word) := by
  have nd := sc_is_word.nd
  refine calV (p := ("is_word", none)) T.g_is_word T.f_is_word sc_is_word b_is_word rfl rfl (k := 2) (N := N_is_word) (fb := F_is_word) (T := tbs K) fun A outer s H E hr => ?_
  exact (sv_one (sv_ret (ev_and (ev_cmp (v_ne hr) (ev_v 0) ev_str) (ev_one (ev_all (own := [("sign", 1)]) (fi := (iSq (fVar 0))) (pt := (.nm 1)) (ft := bYes) (fe := (f2 (inW false) (fVar 1) (fC (.str "abcdefghijklmnopqrstuvwxyz0123456789_")))) (hP_is_word K) (hl_is_word T) hr T.n_all (T.gx tf_is_word) rfl nd (blkOk_by (N := N_is_word) (sc := defScope s_is_word) (by decide +kernel)) (by decide +kernel) rfl rfl (iv_sq (ev_v 0)) (fun _ _ _ _ _ _ _ r => (gv_n 1 nd)) (fun _ _ _ _ _ _ _ r => tsv_nil) (fun _ _ _ _ _ _ _ r => (ev_cmp (v_in r) (ev_v 1) (ev_gstr T.c_SAFE))))))))
def F_is_count : FS := (sRt (vAnd (fChain ltW ltW (fC (.int 0)) (fB lenW (aCons (fVar 0) aNil)) (fC (.int 7))) (fAny false (iSq (fVar 0)) [1] (.nm 1) bYes (f2 (inW false) (fVar 1) (fC (.str "0123456789"))))))
abbrev f_is_count : List W → M W := runF 2 F_is_count
theorem ok_is_count (T : Txt P K mg base) : CalX ar P w K mg base 3 "is_count" (spF K (tbs K) 1 f_is_count) := by
  have nd := sc_is_count.nd
  refine calV (p := ("is_count", none)) T.g_is_count T.f_is_count sc_is_count b_is_count rfl rfl (k := 2) (N := N_is_count) (fb := F_is_count) (T := tbs K) fun A outer s H E hr => ?_
  exact (sv_one (sv_ret (ev_and (ev_chain v_lt v_lt ev_int (ev_callB v_len T.n_len (by decide +kernel) (av_cons (ev_v 0) av_nil)) ev_int) (ev_one (ev_all (own := [("sign", 1)]) (fi := (iSq (fVar 0))) (pt := (.nm 1)) (ft := bYes) (fe := (f2 (inW false) (fVar 1) (fC (.str "0123456789")))) (hP_is_count K) (hl_is_count T) hr T.n_all (T.gx tf_is_count) rfl nd (blkOk_by (N := N_is_count) (sc := defScope s_is_count) (by decide +kernel)) (by decide +kernel) rfl rfl (iv_sq (ev_v 0)) (fun _ _ _ _ _ _ _ r => (gv_n 1 nd)) (fun _ _ _ _ _ _ _ r => tsv_nil) (fun _ _ _ _ _ _ _ r => (ev_cmp (v_in r) (ev_v 1) ev_str)))))))
def F_is_name : FS := (sRt (vAnd (fCall 1 (f_is_word) (aCons (fVar 0) aNil)) (f2 (inW true) (fVar 0) (fTup (aCons (fC (.str "teams")) (aCons (fC (.str "points")) (aCons (fC (.str "rules")) (aCons (fC (.str "round")) aNil))))))))
abbrev f_is_name : List W → M W := runF 1 F_is_name
theorem ok_is_name (T : Txt P K mg base) : CalX ar P w K mg base 6 "is_name" (spF K (tbs K) 1 f_is_name) := by
  have nd := sc_is_name.nd
  refine calV (p := ("is_name", none)) T.g_is_name T.f_is_name sc_is_name b_is_name rfl rfl (k := 5) (N := N_is_name) (fb := F_is_name) (T := tbs K) fun A outer s H E hr => ?_
  exact (sv_one (sv_ret (ev_and (ev_call (ok_is_word T) hr (by decide) ar.cx (av_cons (ev_v 0) av_nil)) (ev_one (ev_cmp (v_notin hr) (ev_v 0) (ev_tup (av_cons ev_str (av_cons ev_str (av_cons ev_str (av_cons ev_str av_nil))))))))))
def F_doubled : FS := (sRt (f2 (eqW true) (fB lenW (aCons (fDc (iSq (fVar 0)) [1] (.nm 1) bYes (fVar 1) (fC (.bl true))) aNil)) (fB lenW (aCons (fVar 0) aNil))))
abbrev f_doubled : List W → M W := runF 2 F_doubled
theorem ok_doubled (T : Txt P K mg base) : CalX ar P w K mg base 3 "doubled" (spF K (tbs K) 1 f_doubled) := by
  have nd := sc_doubled.nd
  refine calV (p := ("doubled", none)) T.g_doubled T.f_doubled sc_doubled b_doubled rfl rfl (k := 2) (N := N_doubled) (fb := F_doubled) (T := tbs K) fun A outer s H E hr => ?_
  exact (sv_one (sv_ret (ev_cmp (v_ne hr) (ev_callB v_len T.n_len (by decide +kernel) (av_cons (ev_dc (own := [("one", 1)]) (fi := (iSq (fVar 0))) (pt := (.nm 1)) (ft := bYes) (fk := (fVar 1)) (fe := (fC (.bl true))) nd (iv_sq (ev_v 0)) (blkOk_by (N := N_doubled) (sc := defScope s_doubled) (by decide +kernel)) (fun _ _ _ _ _ => (gv_n 1 nd)) (fun _ _ _ _ _ => tsv_nil) (fun _ _ _ _ _ => (ev_v 1)) (fun _ _ _ _ _ => ev_bl)) av_nil)) (ev_callB v_len T.n_len (by decide +kernel) (av_cons (ev_v 0) av_nil)))))
def F_Season_d_initd_ : FS := (sSeq (sIf (tV (f2 (eqW false) (fB lenW (aCons (fVar 3) aNil)) (fC (.int 0)))) (sRaise "BadRule") sNx) (sSeq (sFldS ["Season"] "teams" (fB tupleW (aCons (fVar 1) aNil)) (fVar 0)) (sSeq (sFldS ["Season"] "worth" (fB tupleW (aCons (fVar 2) aNil)) (fVar 0)) (sSeq (sFldS ["Season"] "rules" (fB tupleW (aCons (fVar 3) aNil)) (fVar 0)) (sFldS ["Season"] "rounds" (fLst aNil) (fVar 0))))))
abbrev f_Season_d_initd_ : List W → M W := runF 4 F_Season_d_initd_
theorem ok_Season_d_initd_ (T : Txt P K mg base) : MakX ar P w K mg base 3 "Season" (He.ga K "Season") (spF K (tbs K) 4 f_Season_d_initd_) := by
  have nd := sc_Season_d_initd_.nd
  refine makV (p := ("Season", some "__init__")) T.g_Season T.k_Season T.f_Season_d_initd_ sc_Season_d_initd_ b_Season_d_initd_ rfl rfl (k := 2) (N := N_Season_d_initd_) (fb := F_Season_d_initd_) (T := tbs K) fun A outer s H E hr => ?_
  exact (sv_cons (sv_if (tv_cmp (v_eq hr) (ev_callB v_len T.n_len (by decide +kernel) (av_cons (ev_v 3) av_nil)) ev_int) (sv_one (sv_raise T.x_BadRule ar.cx)) sv_nil) (sv_cons (sv_fld (fld_cons T.c_Season T.a_Season_teams fld_nil) (ev_callTy v_tuple T.n_tuple (by decide +kernel) (av_cons (ev_v 1) av_nil)) (ev_v 0)) (sv_cons (sv_fld (fld_cons T.c_Season T.a_Season_worth fld_nil) (ev_callTy v_tuple T.n_tuple (by decide +kernel) (av_cons (ev_v 2) av_nil)) (ev_v 0)) (sv_cons (sv_fld (fld_cons T.c_Season T.a_Season_rules fld_nil) (ev_callTy v_tuple T.n_tuple (by decide +kernel) (av_cons (ev_v 3) av_nil)) (ev_v 0)) (sv_one (sv_fld (fld_cons T.c_Season T.a_Season_rounds fld_nil) (ev_lst av_nil) (ev_v 0)))))))
def F_Season_lay : FS := (sFldS ["Season"] "rounds" (fLc (iSq (fVar 1)) [3] (.nm 3) bYes (fB tupleW (aCons (fLc (iSq (fVar 3)) [2] (.nm 2) bYes (f2 addW (fB tupleW (aCons (fVar 2) aNil)) (fTup (aCons (fC .non) (aCons (fC .non) aNil))))) aNil))) (fVar 0))
abbrev f_Season_lay : List W → M W := runF 4 F_Season_lay
theorem ok_Season_lay (T : Txt P K mg base) : MetX ar P w K mg base 3 (He.ga K "Season") "lay" (spF K (tbs K) 2 f_Season_lay) := by
  have nd := sc_Season_lay.nd
  refine metV (p := ("Season", some "lay")) T.c_Season T.m_Season_lay T.f_Season_lay sc_Season_lay b_Season_lay rfl rfl (k := 2) (N := N_Season_lay) (fb := F_Season_lay) (T := tbs K) fun A outer s H E hr => ?_
  exact (sv_one (sv_fld (fld_cons T.c_Season T.a_Season_rounds fld_nil) (ev_lc (own := [("games", 3)]) (fi := (iSq (fVar 1))) (pt := (.nm 3)) (ft := bYes) (fe := (fB tupleW (aCons (fLc (iSq (fVar 3)) [2] (.nm 2) bYes (f2 addW (fB tupleW (aCons (fVar 2) aNil)) (fTup (aCons (fC .non) (aCons (fC .non) aNil))))) aNil))) nd (iv_sq (ev_v 1)) (blkOk_by (N := N_Season_lay) (sc := defScope s_Season_lay) (by decide +kernel)) (fun _ _ _ _ _ => (gv_n 3 nd)) (fun _ _ _ _ _ => tsv_nil) (fun _ _ _ _ _ => (ev_callTy v_tuple T.n_tuple (by decide +kernel) (av_cons (ev_lc (own := [("game", 2)]) (fi := (iSq (fVar 3))) (pt := (.nm 2)) (ft := bYes) (fe := (f2 addW (fB tupleW (aCons (fVar 2) aNil)) (fTup (aCons (fC .non) (aCons (fC .non) aNil))))) nd (iv_sq (ev_v 3)) (blkOk_by (by kernel_rfl)) (fun _ _ _ _ _ => (gv_n 2 nd)) (fun _ _ _ _ _ => tsv_nil) (fun _ _ _ _ _ => (ev_op v_add (ev_callTy v_tuple T.n_tuple (by decide +kernel) (av_cons (ev_v 2) av_nil)) (ev_tup (av_cons ev_non (av_cons ev_non av_nil)))))) av_nil)))) (ev_v 0)))
def F_Season_put : FS := (sSeq (sIf (bOr (bNot (tV (fChain leW ltW (fC (.int 0)) (fVar 1) (fB lenW (aCons (fFld ["Season"] "rounds" (fVar 0)) aNil))))) (bOr (bNot (tV (fChain leW leW (fC (.int 0)) (fVar 4) (fC (.int 999999))))) (bNot (tV (fChain leW leW (fC (.int 0)) (fVar 5) (fC (.int 999999))))))) (sRaise "BadRule") sNx) (sSeq (sSet 6 (fB listW (aCons (f2 ixW (fFld ["Season"] "rounds" (fVar 0)) (fVar 1)) aNil))) (sSeq (sFor (iEn (aCons (fB listW (aCons (fVar 6) aNil)) aNil)) (.tp [7, 8]) (sIf (bAnd (tV (f2 (eqW false) (fSl (fVar 8) oNone (oSome (fC (.int 2)))) (fTup (aCons (fVar 2) (aCons (fVar 3) aNil))))) (tV (fIsN false (f2 ixW (fVar 8) (fC (.int 2)))))) (sSeq (sSub (fTup (aCons (fVar 2) (aCons (fVar 3) (aCons (fVar 4) (aCons (fVar 5) aNil))))) (fVar 6) (fVar 7) setL) (sSeq (sSub (fB tupleW (aCons (fVar 6) aNil)) (fFld ["Season"] "rounds" (fVar 0)) (fVar 1) setL) sRtN)) sNx)) (sRaise "BadRule"))))
abbrev f_Season_put : List W → M W := runF 9 F_Season_put
theorem ok_Season_put (T : Txt P K mg base) : MetX ar P w K mg base 3 (He.ga K "Season") "put" (spF K (tbs K) 6 f_Season_put) := by
  have nd := sc_Season_put.nd
  refine metV (p := ("Season", some "put")) T.c_Season T.m_Season_put T.f_Season_put sc_Season_put b_Season_put rfl rfl (k := 2) (N := N_Season_put) (fb := F_Season_put) (T := tbs K) fun A outer s H E hr => ?_
  exact (sv_cons (sv_if (PWv.pt (wv_or (tv_not (tv_chain v_le v_lt ev_int (ev_v 1) (ev_callB v_len T.n_len (by decide +kernel) (av_cons (ev_fld (fld_cons T.c_Season T.a_Season_rounds fld_nil) (ev_v 0)) av_nil)))) (wv_or (tv_not (tv_chain v_le v_le ev_int (ev_v 4) ev_int)) (wv_or1 (tv_not (tv_chain v_le v_le ev_int (ev_v 5) ev_int)))))) (sv_one (sv_raise T.x_BadRule ar.cx)) sv_nil) (sv_cons (sv_s 6 nd (ev_callTy v_list T.n_list (by decide +kernel) (av_cons (ev_ix hr (ev_fld (fld_cons T.c_Season T.a_Season_rounds fld_nil) (ev_v 0)) (ev_v 1)) av_nil))) (sv_cons (sv_for owB (iv_enum T.n_enumerate (av_cons (ev_callTy v_list T.n_list (by decide +kernel) (av_cons (ev_v 6) av_nil)) av_nil)) (gv_tp (is := [7, 8]) (pg_tup rfl (pgs_cons (pg_n 7 nd) (pgs_cons (pg_n 8 nd) pgs_nil)))) (sv_one (sv_if (PWv.pt (wv_and (tv_cmp (v_eq hr) (ev_slice (ev_v 8) ov_none (ov_some ev_int)) (ev_tup (av_cons (ev_v 2) (av_cons (ev_v 3) av_nil)))) (wv_and1 (tv_isN (ev_ix hr (ev_v 8) ev_int))))) (sv_cons (sv_sub (ev_tup (av_cons (ev_v 2) (av_cons (ev_v 3) (av_cons (ev_v 4) (av_cons (ev_v 5) av_nil))))) (ev_v 6) (ev_v 7)) (sv_cons (sv_sub (ev_callTy v_tuple T.n_tuple (by decide +kernel) (av_cons (ev_v 6) av_nil)) (ev_fld (fld_cons T.c_Season T.a_Season_rounds fld_nil) (ev_v 0)) (ev_v 1)) (sv_one sv_retN))) sv_nil))) (sv_one (sv_raise T.x_BadRule ar.cx)))))
def F_read_game : FS := (sSeq (sSet 3 (vAnd (f2 (inW false) (fB lenW (aCons (fVar 1) aNil)) (fTup (aCons (fC (.int 3)) (aCons (fC (.int 5)) aNil)))) (vAnd (f2 (eqW false) (f2 ixW (fVar 1) (fC (.int 1))) (fC (.str "-"))) (vAnd (f2 (inW false) (f2 ixW (fVar 1) (fC (.int 0))) (fFld ["Season"] "teams" (fVar 0))) (f2 (inW false) (f2 ixW (fVar 1) (fC (.int 2))) (fFld ["Season"] "teams" (fVar 0))))))) (sSeq (sIf (bOr (bNot (tV (fVar 3))) (bOr (tV (f2 (eqW false) (f2 ixW (fVar 1) (fC (.int 0))) (f2 ixW (fVar 1) (fC (.int 2))))) (bOr (tV (f2 (eqW false) (fFld ["Season"] "rounds" (fVar 0)) (fLst aNil))) (tV (fAny true (iSq (fSl (fVar 1) (oSome (fC (.int 3))) oNone)) [4] (.nm 4) bYes (vNot (fCall 1 (f_is_count) (aCons (fVar 4) aNil)))))))) (sRaiseF "BadText" "row" (fVar 2)) sNx) (sSeq (sIf (tV (fAny true (iSq (f2 ixW (fFld ["Season"] "rounds" (fVar 0)) (fNeg (fC (.int 1))))) [5] (.nm 5) bYes (vOr (f2 (inW false) (f2 ixW (fVar 1) (fC (.int 0))) (fSl (fVar 5) oNone (oSome (fC (.int 2))))) (f2 (inW false) (f2 ixW (fVar 1) (fC (.int 2))) (fSl (fVar 5) oNone (oSome (fC (.int 2)))))))) (sRaiseF "BadText" "row" (fVar 2)) sNx) (sSeq (sSet 6 (fIf (tV (f2 (eqW false) (fB lenW (aCons (fVar 1) aNil)) (fC (.int 5)))) (fTup (aCons (fB intW (aCons (f2 ixW (fVar 1) (fC (.int 3))) aNil)) (aCons (fB intW (aCons (f2 ixW (fVar 1) (fC (.int 4))) aNil)) aNil))) (fTup (aCons (fC .non) (aCons (fC .non) aNil))))) (sSub (f2 addW (f2 ixW (fFld ["Season"] "rounds" (fVar 0)) (fNeg (fC (.int 1)))) (fTup (aCons (f2 addW (fTup (aCons (f2 ixW (fVar 1) (fC (.int 0))) (aCons (f2 ixW (fVar 1) (fC (.int 2))) aNil))) (fVar 6)) aNil))) (fFld ["Season"] "rounds" (fVar 0)) (fNeg (fC (.int 1))) setL)))))
abbrev f_read_game : List W → M W := runF 7 F_read_game
theorem ok_read_game (T : Txt P K mg base) : CalX ar P w K mg base 6 "read_game" (spF K (tbs K) 3 f_read_game) := by
  obtain ⟨fI_BadText, TS_BadText⟩ := T.sup_BadText
  have nd := sc_read_game.nd
  refine calV (p := ("read_game", none)) T.g_read_game T.f_read_game sc_read_game b_read_game rfl rfl (k := 5) (N := N_read_game) (fb := F_read_game) (T := tbs K) fun A outer s H E hr => ?_
  exact (sv_cons (sv_s 3 nd (ev_and (ev_cmp (v_in hr) (ev_callB v_len T.n_len (by decide +kernel) (av_cons (ev_v 1) av_nil)) (ev_tup (av_cons ev_int (av_cons ev_int av_nil)))) (ev_and (ev_cmp (v_eq hr) (ev_ix hr (ev_v 1) ev_int) ev_str) (ev_and (ev_cmp (v_in hr) (ev_ix hr (ev_v 1) ev_int) (ev_fld (fld_cons T.c_Season T.a_Season_teams fld_nil) (ev_v 0))) (ev_one (ev_cmp (v_in hr) (ev_ix hr (ev_v 1) ev_int) (ev_fld (fld_cons T.c_Season T.a_Season_teams fld_nil) (ev_v 0)))))))) (sv_cons (sv_if (PWv.pt (wv_or (tv_not (tv_val (ev_v 3))) (wv_or (tv_cmp (v_eq hr) (ev_ix hr (ev_v 1) ev_int) (ev_ix hr (ev_v 1) ev_int)) (wv_or (tv_cmp (v_eq hr) (ev_fld (fld_cons T.c_Season T.a_Season_rounds fld_nil) (ev_v 0)) (ev_lst av_nil)) (wv_or1 (tv_val (ev_any (own := [("one", 4)]) (fi := (iSq (fSl (fVar 1) (oSome (fC (.int 3))) oNone))) (pt := (.nm 4)) (ft := bYes) (fe := (vNot (fCall 1 (f_is_count) (aCons (fVar 4) aNil)))) (hP_read_game K) (hl_read_game T) hr T.n_any (T.gx tf_read_game) rfl nd (blkOk_by (N := N_read_game) (sc := defScope s_read_game) (by decide +kernel)) (by decide +kernel) rfl rfl (iv_sq (ev_slice (ev_v 1) (ov_some ev_int) ov_none)) (fun _ _ _ _ _ _ _ r => (gv_n 4 nd)) (fun _ _ _ _ _ _ _ r => tsv_nil) (fun _ _ _ _ _ _ _ r => (ev_not (ev_call (ok_is_count T) r (by decide) ar.zero (av_cons (ev_v 4) av_nil))))))))))) (sv_one (sv_raiseF TS_BadText hr ar.cx (ev_v 2))) sv_nil) (sv_cons (sv_if (tv_val (ev_any (own := [("game", 5)]) (fi := (iSq (f2 ixW (fFld ["Season"] "rounds" (fVar 0)) (fNeg (fC (.int 1)))))) (pt := (.nm 5)) (ft := bYes) (fe := (vOr (f2 (inW false) (f2 ixW (fVar 1) (fC (.int 0))) (fSl (fVar 5) oNone (oSome (fC (.int 2))))) (f2 (inW false) (f2 ixW (fVar 1) (fC (.int 2))) (fSl (fVar 5) oNone (oSome (fC (.int 2))))))) (hP_read_game K) (hl_read_game T) hr T.n_any (T.gx tf_read_game) rfl nd (blkOk_by (N := N_read_game) (sc := defScope s_read_game) (by decide +kernel)) (by decide +kernel) rfl rfl (iv_sq (ev_ix hr (ev_fld (fld_cons T.c_Season T.a_Season_rounds fld_nil) (ev_v 0)) (ev_neg ev_int))) (fun _ _ _ _ _ _ _ r => (gv_n 5 nd)) (fun _ _ _ _ _ _ _ r => tsv_nil) (fun _ _ _ _ _ _ _ r => (ev_or (ev_cmp (v_in r) (ev_ix r (ev_v 1) ev_int) (ev_slice (ev_v 5) ov_none (ov_some ev_int))) (ev_one (ev_cmp (v_in r) (ev_ix r (ev_v 1) ev_int) (ev_slice (ev_v 5) ov_none (ov_some ev_int)))))))) (sv_one (sv_raiseF TS_BadText hr ar.cx (ev_v 2))) sv_nil) (sv_cons (sv_s 6 nd (ev_if (tv_cmp (v_eq hr) (ev_callB v_len T.n_len (by decide +kernel) (av_cons (ev_v 1) av_nil)) ev_int) (ev_tup (av_cons (ev_callTy v_int T.n_int (by decide +kernel) (av_cons (ev_ix hr (ev_v 1) ev_int) av_nil)) (av_cons (ev_callTy v_int T.n_int (by decide +kernel) (av_cons (ev_ix hr (ev_v 1) ev_int) av_nil)) av_nil))) (ev_tup (av_cons ev_non (av_cons ev_non av_nil))))) (sv_one (sv_sub (ev_op v_add (ev_ix hr (ev_fld (fld_cons T.c_Season T.a_Season_rounds fld_nil) (ev_v 0)) (ev_neg ev_int)) (ev_tup (av_cons (ev_op v_add (ev_tup (av_cons (ev_ix hr (ev_v 1) ev_int) (av_cons (ev_ix hr (ev_v 1) ev_int) av_nil))) (ev_v 6)) av_nil))) (ev_fld (fld_cons T.c_Season T.a_Season_rounds fld_nil) (ev_v 0)) (ev_neg ev_int)))))))
def F_read : FS := (sSeq (sSet 1 (fM .str splitW (fVar 0) (aCons (fC (.str "\n")) aNil))) (sSeq (sSet 2 (fMake "Season" 4 f_Season_d_initd_ (aCons (fTup aNil) (aCons (fTup (aCons (fC (.int 3)) (aCons (fC (.int 1)) (aCons (fC (.int 0)) aNil)))) (aCons (fTup (aCons (fC (.str "points")) (aCons (fC (.str "name")) aNil))) aNil))))) (sSeq (sFor (iEn (aCons (fVar 1) aNil)) (.tp [3, 4]) (sSeq (sSet 5 (fM .str splitW (fVar 4) aNil)) (sSeq (sIf (tV (f2 (eqW false) (fVar 5) (fLst aNil))) sCt sNx) (sIf (tV (f2 (eqW false) (f2 ixW (fVar 5) (fC (.int 0))) (fC (.str "teams")))) (sSeq (sSet 6 (fSl (fVar 5) (oSome (fC (.int 1))) oNone)) (sSeq (sIf (bOr (tV (f2 (eqW true) (fFld ["Season"] "teams" (fVar 2)) (fTup aNil))) (bOr (tV (f2 ltW (fB lenW (aCons (fVar 6) aNil)) (fC (.int 2)))) (bOr (tV (fAny true (iSq (fVar 6)) [7] (.nm 7) bYes (vNot (fCall 1 (f_is_name) (aCons (fVar 7) aNil))))) (tV (fCall 1 (f_doubled) (aCons (fVar 6) aNil)))))) (sRaiseF "BadText" "row" (f2 addW (fVar 3) (fC (.int 1)))) sNx) (sFldS ["Season"] "teams" (fB tupleW (aCons (fVar 6) aNil)) (fVar 2)))) (sIf (tV (f2 (eqW false) (f2 ixW (fVar 5) (fC (.int 0))) (fC (.str "points")))) (sSeq (sIf (bOr (tV (f2 (eqW true) (fB lenW (aCons (fVar 5) aNil)) (fC (.int 4)))) (bOr (tV (fAny true (iSq (fSl (fVar 5) (oSome (fC (.int 1))) oNone)) [7] (.nm 7) bYes (vNot (fCall 1 (f_is_count) (aCons (fVar 7) aNil))))) (tV (f2 (eqW true) (fFld ["Season"] "rounds" (fVar 2)) (fLst aNil))))) (sRaiseF "BadText" "row" (f2 addW (fVar 3) (fC (.int 1)))) sNx) (sFldS ["Season"] "worth" (fB tupleW (aCons (fLc (iSq (fSl (fVar 5) (oSome (fC (.int 1))) oNone)) [7] (.nm 7) bYes (fB intW (aCons (fVar 7) aNil))) aNil)) (fVar 2))) (sIf (tV (f2 (eqW false) (f2 ixW (fVar 5) (fC (.int 0))) (fC (.str "rules")))) (sSeq (sSet 6 (fM .str splitW (fM .str joinW (fC (.str " ")) (aCons (fSl (fVar 5) (oSome (fC (.int 1))) oNone) aNil)) (aCons (fC (.str ", ")) aNil))) (sSeq (sIf (bOr (tV (fAny true (iSq (fVar 6)) [7] (.nm 7) bYes (f2 (inW true) (fVar 7) (fC (.tup ((["points", "goals", "scored", "wins", "away", "met points", "met goals", "met scored", "fair", "name"] : List Str).map W.str)))))) (tV (f2 (eqW true) (fFld ["Season"] "rounds" (fVar 2)) (fLst aNil)))) (sRaiseF "BadText" "row" (f2 addW (fVar 3) (fC (.int 1)))) sNx) (sFldS ["Season"] "rules" (fB tupleW (aCons (fVar 6) aNil)) (fVar 2)))) (sIf (tV (f2 (eqW false) (fVar 5) (fLst (aCons (fC (.str "round")) aNil)))) (sE (fM .list appendW (fFld ["Season"] "rounds" (fVar 2)) (aCons (fTup aNil) aNil))) (sE (fCall 3 (f_read_game) (aCons (fVar 2) (aCons (fVar 5) (aCons (f2 addW (fVar 3) (fC (.int 1))) aNil)))))))))))) (sSeq (sIf (tV (f2 (eqW false) (fFld ["Season"] "teams" (fVar 2)) (fTup aNil))) (sRaiseF "BadText" "row" (fB lenW (aCons (fVar 1) aNil))) sNx) (sRt (fVar 2))))))
abbrev f_read : List W → M W := runF 8 F_read
theorem ok_read (T : Txt P K mg base) : CalX ar P w K mg base 9 "read" (spF K (tbs K) 1 f_read) := by
  obtain ⟨fI_BadText, TS_BadText⟩ := T.sup_BadText
  have nd := sc_read.nd
  refine calV (p := ("read", none)) T.g_read T.f_read sc_read b_read rfl rfl (k := 8) (N := N_read) (fb := F_read) (T := tbs K) fun A outer s H E hr => ?_
  exact (sv_cons (sv_s 1 nd (ev_bm (t := .str) v_split PySem.F.plainAttrs_str PySem.F.slot_str_split PySem.F.type_str_split (ev_v 0) (av_cons ev_str av_nil))) (sv_cons (sv_s 2 nd (ev_make (ok_Season_d_initd_ T) hr (by decide) ar.cx (av_cons (ev_tup av_nil) (av_cons (ev_tup (av_cons ev_int (av_cons ev_int (av_cons ev_int av_nil)))) (av_cons (ev_tup (av_cons ev_str (av_cons ev_str av_nil))) av_nil))))) (sv_cons (sv_for owB (iv_enum T.n_enumerate (av_cons (ev_v 1) av_nil)) (gv_tp (is := [3, 4]) (pg_tup rfl (pgs_cons (pg_n 3 nd) (pgs_cons (pg_n 4 nd) pgs_nil)))) (sv_cons (sv_s 5 nd (ev_bm0 (t := .str) v_split PySem.F.plainAttrs_str PySem.F.slot_str_split PySem.F.type_str_split (ev_v 4))) (sv_cons (sv_if (tv_cmp (v_eq hr) (ev_v 5) (ev_lst av_nil)) (sv_one sv_continue) sv_nil) (sv_one (sv_if (tv_cmp (v_eq hr) (ev_ix hr (ev_v 5) ev_int) ev_str) (sv_cons (sv_s 6 nd (ev_slice (ev_v 5) (ov_some ev_int) ov_none)) (sv_cons (sv_if (PWv.pt (wv_or (tv_cmp (v_ne hr) (ev_fld (fld_cons T.c_Season T.a_Season_teams fld_nil) (ev_v 2)) (ev_tup av_nil)) (wv_or (tv_cmp v_lt (ev_callB v_len T.n_len (by decide +kernel) (av_cons (ev_v 6) av_nil)) ev_int) (wv_or (tv_val (ev_any (own := [("one", 7)]) (fi := (iSq (fVar 6))) (pt := (.nm 7)) (ft := bYes) (fe := (vNot (fCall 1 (f_is_name) (aCons (fVar 7) aNil)))) (hP_read K) (hl_read T) hr T.n_any (T.gx tf_read) rfl nd (blkOk_by (N := N_read) (sc := defScope s_read) (by decide +kernel)) (by decide +kernel) rfl rfl (iv_sq (ev_v 6)) (fun _ _ _ _ _ _ _ r => (gv_n 7 nd)) (fun _ _ _ _ _ _ _ r => tsv_nil) (fun _ _ _ _ _ _ _ r => (ev_not (ev_call (ok_is_name T) r (by decide) ar.zero (av_cons (ev_v 7) av_nil)))))) (wv_or1 (tv_val (ev_call (ok_doubled T) hr (by decide) ar.cx (av_cons (ev_v 6) av_nil)))))))) (sv_one (sv_raiseF TS_BadText hr ar.cx (ev_op v_add (ev_v 3) ev_int))) sv_nil) (sv_one (sv_fld (fld_cons T.c_Season T.a_Season_teams fld_nil) (ev_callTy v_tuple T.n_tuple (by decide +kernel) (av_cons (ev_v 6) av_nil)) (ev_v 2))))) (sv_one (sv_if (tv_cmp (v_eq hr) (ev_ix hr (ev_v 5) ev_int) ev_str) (sv_cons (sv_if (PWv.pt (wv_or (tv_cmp (v_ne hr) (ev_callB v_len T.n_len (by decide +kernel) (av_cons (ev_v 5) av_nil)) ev_int) (wv_or (tv_val (ev_any (own := [("one", 7)]) (fi := (iSq (fSl (fVar 5) (oSome (fC (.int 1))) oNone))) (pt := (.nm 7)) (ft := bYes) (fe := (vNot (fCall 1 (f_is_count) (aCons (fVar 7) aNil)))) (hP_read K) (hl_read T) hr T.n_any (T.gx tf_read) rfl nd (blkOk_by (N := N_read) (sc := defScope s_read) (by decide +kernel)) (by decide +kernel) rfl rfl (iv_sq (ev_slice (ev_v 5) (ov_some ev_int) ov_none)) (fun _ _ _ _ _ _ _ r => (gv_n 7 nd)) (fun _ _ _ _ _ _ _ r => tsv_nil) (fun _ _ _ _ _ _ _ r => (ev_not (ev_call (ok_is_count T) r (by decide) ar.zero (av_cons (ev_v 7) av_nil)))))) (wv_or1 (tv_cmp (v_ne hr) (ev_fld (fld_cons T.c_Season T.a_Season_rounds fld_nil) (ev_v 2)) (ev_lst av_nil)))))) (sv_one (sv_raiseF TS_BadText hr ar.cx (ev_op v_add (ev_v 3) ev_int))) sv_nil) (sv_one (sv_fld (fld_cons T.c_Season T.a_Season_worth fld_nil) (ev_callTy v_tuple T.n_tuple (by decide +kernel) (av_cons (ev_lc (own := [("one", 7)]) (fi := (iSq (fSl (fVar 5) (oSome (fC (.int 1))) oNone))) (pt := (.nm 7)) (ft := bYes) (fe := (fB intW (aCons (fVar 7) aNil))) nd (iv_sq (ev_slice (ev_v 5) (ov_some ev_int) ov_none)) (blkOk_by (N := N_read) (sc := defScope s_read) (by decide +kernel)) (fun _ _ _ _ _ => (gv_n 7 nd)) (fun _ _ _ _ _ => tsv_nil) (fun _ _ _ _ _ => (ev_callTy v_int T.n_int (by decide +kernel) (av_cons (ev_v 7) av_nil)))) av_nil)) (ev_v 2)))) (sv_one (sv_if (tv_cmp (v_eq hr) (ev_ix hr (ev_v 5) ev_int) ev_str) (sv_cons (sv_s 6 nd (ev_bm (t := .str) v_split PySem.F.plainAttrs_str PySem.F.slot_str_split PySem.F.type_str_split (ev_bm (t := .str) v_join PySem.F.plainAttrs_str PySem.F.slot_str_join PySem.F.type_str_join ev_str (av_cons (ev_slice (ev_v 5) (ov_some ev_int) ov_none) av_nil)) (av_cons ev_str av_nil))) (sv_cons (sv_if (PWv.pt (wv_or (tv_val (ev_any (own := [("one", 7)]) (fi := (iSq (fVar 6))) (pt := (.nm 7)) (ft := bYes) (fe := (f2 (inW true) (fVar 7) (fC (.tup ((["points", "goals", "scored", "wins", "away", "met points", "met goals", "met scored", "fair", "name"] : List Str).map W.str))))) (hP_read K) (hl_read T) hr T.n_any (T.gx tf_read) rfl nd (blkOk_by (N := N_read) (sc := defScope s_read) (by decide +kernel)) (by decide +kernel) rfl rfl (iv_sq (ev_v 6)) (fun _ _ _ _ _ _ _ r => (gv_n 7 nd)) (fun _ _ _ _ _ _ _ r => tsv_nil) (fun _ _ _ _ _ _ _ r => (ev_cmp (v_notin r) (ev_v 7) (ev_gtup T.g_RULES T.tup_RULES))))) (wv_or1 (tv_cmp (v_ne hr) (ev_fld (fld_cons T.c_Season T.a_Season_rounds fld_nil) (ev_v 2)) (ev_lst av_nil))))) (sv_one (sv_raiseF TS_BadText hr ar.cx (ev_op v_add (ev_v 3) ev_int))) sv_nil) (sv_one (sv_fld (fld_cons T.c_Season T.a_Season_rules fld_nil) (ev_callTy v_tuple T.n_tuple (by decide +kernel) (av_cons (ev_v 6) av_nil)) (ev_v 2))))) (sv_one (sv_if (tv_cmp (v_eq hr) (ev_v 5) (ev_lst (av_cons ev_str av_nil))) (sv_one (sv_expr (ev_bm (t := .list) v_append PySem.F.plainAttrs_list PySem.F.slot_list_append PySem.F.type_list_append (ev_fld (fld_cons T.c_Season T.a_Season_rounds fld_nil) (ev_v 2)) (av_cons (ev_tup av_nil) av_nil)))) (sv_one (sv_expr (ev_call (ok_read_game T) hr (by decide) ar.cx (av_cons (ev_v 2) (av_cons (ev_v 5) (av_cons (ev_op v_add (ev_v 3) ev_int) av_nil))))))))))))))))) (sv_cons (sv_if (tv_cmp (v_eq hr) (ev_fld (fld_cons T.c_Season T.a_Season_teams fld_nil) (ev_v 2)) (ev_tup av_nil)) (sv_one (sv_raiseF TS_BadText hr ar.cx (ev_callB v_len T.n_len (by decide +kernel) (av_cons (ev_v 1) av_nil)))) sv_nil) (sv_one (sv_ret (ev_v 2)))))))
def F_told : FS := (sSeq (sSet 1 (fLst (aCons (f2 addW (fC (.str "teams ")) (fM .str joinW (fC (.str " ")) (aCons (fFld ["Season"] "teams" (fVar 0)) aNil))) (aCons (f2 addW (fC (.str "points ")) (fM .str joinW (fC (.str " ")) (aCons (fLc (iSq (fFld ["Season"] "worth" (fVar 0))) [2] (.nm 2) bYes (fB strW (aCons (fVar 2) aNil))) aNil))) aNil)))) (sSeq (sE (fM .list appendW (fVar 1) (aCons (f2 addW (fC (.str "rules ")) (fM .str joinW (fC (.str ", ")) (aCons (fFld ["Season"] "rules" (fVar 0)) aNil))) aNil))) (sSeq (sFor (iSq (fFld ["Season"] "rounds" (fVar 0))) (.nm 3) (sSeq (sE (fM .list appendW (fVar 1) (aCons (fC (.str "round")) aNil))) (sFor (iSq (fVar 3)) (.tp [4, 5, 2, 6]) (sE (fM .list appendW (fVar 1) (aCons (f2 addW (f2 addW (f2 addW (fVar 4) (fC (.str " - "))) (fVar 5)) (fIf (tV (fIsN false (fVar 2))) (fC (.str "")) (f2 addW (f2 addW (f2 addW (fC (.str " ")) (fB strW (aCons (fVar 2) aNil))) (fC (.str " "))) (fB strW (aCons (fVar 6) aNil))))) aNil)))))) (sRt (fM .str joinW (fC (.str "\n")) (aCons (fVar 1) aNil))))))
abbrev f_told : List W → M W := runF 7 F_told
theorem ok_told (T : Txt P K mg base) : CalX ar P w K mg base 3 "told" (spF K (tbs K) 1 f_told) := by
  have nd := sc_told.nd
  refine calV (p := ("told", none)) T.g_told T.f_told sc_told b_told rfl rfl (k := 2) (N := N_told) (fb := F_told) (T := tbs K) fun A outer s H E hr => ?_
  exact (sv_cons (sv_s 1 nd (ev_lst (av_cons (ev_op v_add ev_str (ev_bm (t := .str) v_join PySem.F.plainAttrs_str PySem.F.slot_str_join PySem.F.type_str_join ev_str (av_cons (ev_fld (fld_cons T.c_Season T.a_Season_teams fld_nil) (ev_v 0)) av_nil))) (av_cons (ev_op v_add ev_str (ev_bm (t := .str) v_join PySem.F.plainAttrs_str PySem.F.slot_str_join PySem.F.type_str_join ev_str (av_cons (ev_lc (own := [("one", 2)]) (fi := (iSq (fFld ["Season"] "worth" (fVar 0)))) (pt := (.nm 2)) (ft := bYes) (fe := (fB strW (aCons (fVar 2) aNil))) nd (iv_sq (ev_fld (fld_cons T.c_Season T.a_Season_worth fld_nil) (ev_v 0))) (blkOk_by (N := N_told) (sc := defScope s_told) (by decide +kernel)) (fun _ _ _ _ _ => (gv_n 2 nd)) (fun _ _ _ _ _ => tsv_nil) (fun _ _ _ _ _ => (ev_callTy v_str T.n_str (by decide +kernel) (av_cons (ev_v 2) av_nil)))) av_nil))) av_nil)))) (sv_cons (sv_expr (ev_bm (t := .list) v_append PySem.F.plainAttrs_list PySem.F.slot_list_append PySem.F.type_list_append (ev_v 1) (av_cons (ev_op v_add ev_str (ev_bm (t := .str) v_join PySem.F.plainAttrs_str PySem.F.slot_str_join PySem.F.type_str_join ev_str (av_cons (ev_fld (fld_cons T.c_Season T.a_Season_rules fld_nil) (ev_v 0)) av_nil))) av_nil))) (sv_cons (sv_for owB (iv_sq (ev_fld (fld_cons T.c_Season T.a_Season_rounds fld_nil) (ev_v 0))) (gv_n 3 nd) (sv_cons (sv_expr (ev_bm (t := .list) v_append PySem.F.plainAttrs_list PySem.F.slot_list_append PySem.F.type_list_append (ev_v 1) (av_cons ev_str av_nil))) (sv_one (sv_for owB (iv_sq (ev_v 3)) (gv_tp (is := [4, 5, 2, 6]) (pg_tup rfl (pgs_cons (pg_n 4 nd) (pgs_cons (pg_n 5 nd) (pgs_cons (pg_n 2 nd) (pgs_cons (pg_n 6 nd) pgs_nil)))))) (sv_one (sv_expr (ev_bm (t := .list) v_append PySem.F.plainAttrs_list PySem.F.slot_list_append PySem.F.type_list_append (ev_v 1) (av_cons (ev_op v_add (ev_op v_add (ev_op v_add (ev_v 4) ev_str) (ev_v 5)) (ev_if (tv_isN (ev_v 2)) ev_str (ev_op v_add (ev_op v_add (ev_op v_add ev_str (ev_callTy v_str T.n_str (by decide +kernel) (av_cons (ev_v 2) av_nil))) ev_str) (ev_callTy v_str T.n_str (by decide +kernel) (av_cons (ev_v 6) av_nil))))) av_nil)))))))) (sv_one (sv_ret (ev_bm (t := .str) v_join PySem.F.plainAttrs_str PySem.F.slot_str_join PySem.F.type_str_join ev_str (av_cons (ev_v 1) av_nil)))))))
end
end K27
set_option Elab.async false
set_option linter.all false
set_option maxRecDepth 100000
set_option maxHeartbeats 4000000
namespace K27
open PySem PySem.Spec PyProof.Rows L2 Fh Fv
section
variable {ar : Air} {P : Program} {w : World} {K : PySem.W.Frag} {mg : Str → Option Value} {base : Heap}
def F_Table_d_initd_ : FS := (sSeq (sIf (bOr (tV (f2 ltW (fB lenW (aCons (fVar 1) aNil)) (fC (.int 2)))) (tV (f2 (eqW true) (fB lenW (aCons (fDc (iSq (fVar 1)) [4] (.nm 4) bYes (fVar 4) (fC (.bl true))) aNil)) (fB lenW (aCons (fVar 1) aNil))))) (sRaise "BadTeams") sNx) (sSeq (sIf (bOr (tV (fAny true (iSq (fVar 3)) [5] (.nm 5) bYes (f2 (inW true) (fVar 5) (fC (.tup ((["points", "goals", "scored", "wins", "away", "met points", "met goals", "met scored", "fair", "name"] : List Str).map W.str)))))) (tV (f2 (eqW true) (fB lenW (aCons (fVar 2) aNil)) (fC (.int 3))))) (sRaise "BadRule") sNx) (sSeq (sFldS ["Table"] "teams" (fB tupleW (aCons (fVar 1) aNil)) (fVar 0)) (sSeq (sFldS ["Table"] "worth" (fB tupleW (aCons (fVar 2) aNil)) (fVar 0)) (sSeq (sFldS ["Table"] "rules" (fB tupleW (aCons (fVar 3) aNil)) (fVar 0)) (sSeq (sFldS ["Table"] "games" (fLst aNil) (fVar 0)) (sSeq (sFldS ["Table"] "marks" (fDc (iSq (fVar 1)) [4] (.nm 4) bYes (fVar 4) (fC (.int 0))) (fVar 0)) (sFldS ["Table"] "taken" (fDc (iSq (fVar 1)) [4] (.nm 4) bYes (fVar 4) (fC (.int 0))) (fVar 0)))))))))
abbrev f_Table_d_initd_ : List W → M W := runF 6 F_Table_d_initd_
theorem ok_Table_d_initd_ (T : Txt P K mg base) : MakX ar P w K mg base 3 "Table" (He.ga K "Table") (spF K (tbs K) 4 f_Table_d_initd_) := by
  have nd := sc_Table_d_initd_.nd
  refine makV (p := ("Table", some "__init__")) T.g_Table T.k_Table T.f_Table_d_initd_ sc_Table_d_initd_ b_Table_d_initd_ rfl rfl (k := 2) (N := N_Table_d_initd_) (fb := F_Table_d_initd_) (T := tbs K) fun A outer s H E hr => ?_
  exact (sv_cons (sv_if (PWv.pt (wv_or (tv_cmp v_lt (ev_callB v_len T.n_len (by decide +kernel) (av_cons (ev_v 1) av_nil)) ev_int) (wv_or1 (tv_cmp (v_ne hr) (ev_callB v_len T.n_len (by decide +kernel) (av_cons (ev_dc (own := [("team", 4)]) (fi := (iSq (fVar 1))) (pt := (.nm 4)) (ft := bYes) (fk := (fVar 4)) (fe := (fC (.bl true))) nd (iv_sq (ev_v 1)) (blkOk_by (N := N_Table_d_initd_) (sc := defScope s_Table_d_initd_) (by decide +kernel)) (fun _ _ _ _ _ => (gv_n 4 nd)) (fun _ _ _ _ _ => tsv_nil) (fun _ _ _ _ _ => (ev_v 4)) (fun _ _ _ _ _ => ev_bl)) av_nil)) (ev_callB v_len T.n_len (by decide +kernel) (av_cons (ev_v 1) av_nil)))))) (sv_one (sv_raise T.x_BadTeams ar.cx)) sv_nil) (sv_cons (sv_if (PWv.pt (wv_or (tv_val (ev_any (own := [("rule", 5)]) (fi := (iSq (fVar 3))) (pt := (.nm 5)) (ft := bYes) (fe := (f2 (inW true) (fVar 5) (fC (.tup ((["points", "goals", "scored", "wins", "away", "met points", "met goals", "met scored", "fair", "name"] : List Str).map W.str))))) (hP_Table_d_initd_ K) (hl_Table_d_initd_ T) hr T.n_any (T.gx tf_Table_d_initd_) rfl nd (blkOk_by (N := N_Table_d_initd_) (sc := defScope s_Table_d_initd_) (by decide +kernel)) (by decide +kernel) rfl rfl (iv_sq (ev_v 3)) (fun _ _ _ _ _ _ _ r => (gv_n 5 nd)) (fun _ _ _ _ _ _ _ r => tsv_nil) (fun _ _ _ _ _ _ _ r => (ev_cmp (v_notin r) (ev_v 5) (ev_gtup T.g_RULES T.tup_RULES))))) (wv_or1 (tv_cmp (v_ne hr) (ev_callB v_len T.n_len (by decide +kernel) (av_cons (ev_v 2) av_nil)) ev_int)))) (sv_one (sv_raise T.x_BadRule ar.cx)) sv_nil) (sv_cons (sv_fld (fld_cons T.c_Table T.a_Table_teams fld_nil) (ev_callTy v_tuple T.n_tuple (by decide +kernel) (av_cons (ev_v 1) av_nil)) (ev_v 0)) (sv_cons (sv_fld (fld_cons T.c_Table T.a_Table_worth fld_nil) (ev_callTy v_tuple T.n_tuple (by decide +kernel) (av_cons (ev_v 2) av_nil)) (ev_v 0)) (sv_cons (sv_fld (fld_cons T.c_Table T.a_Table_rules fld_nil) (ev_callTy v_tuple T.n_tuple (by decide +kernel) (av_cons (ev_v 3) av_nil)) (ev_v 0)) (sv_cons (sv_fld (fld_cons T.c_Table T.a_Table_games fld_nil) (ev_lst av_nil) (ev_v 0)) (sv_cons (sv_fld (fld_cons T.c_Table T.a_Table_marks fld_nil) (ev_dc (own := [("team", 4)]) (fi := (iSq (fVar 1))) (pt := (.nm 4)) (ft := bYes) (fk := (fVar 4)) (fe := (fC (.int 0))) nd (iv_sq (ev_v 1)) (blkOk_by (N := N_Table_d_initd_) (sc := defScope s_Table_d_initd_) (by decide +kernel)) (fun _ _ _ _ _ => (gv_n 4 nd)) (fun _ _ _ _ _ => tsv_nil) (fun _ _ _ _ _ => (ev_v 4)) (fun _ _ _ _ _ => ev_int)) (ev_v 0)) (sv_one (sv_fld (fld_cons T.c_Table T.a_Table_taken fld_nil) (ev_dc (own := [("team", 4)]) (fi := (iSq (fVar 1))) (pt := (.nm 4)) (ft := bYes) (fk := (fVar 4)) (fe := (fC (.int 0))) nd (iv_sq (ev_v 1)) (blkOk_by (N := N_Table_d_initd_) (sc := defScope s_Table_d_initd_) (by decide +kernel)) (fun _ _ _ _ _ => (gv_n 4 nd)) (fun _ _ _ _ _ => tsv_nil) (fun _ _ _ _ _ => (ev_v 4)) (fun _ _ _ _ _ => ev_int)) (ev_v 0))))))))))
def F_Table_game : FS := (sSeq (sIf (bOr (tV (f2 (eqW false) (fVar 1) (fVar 2))) (bOr (tV (f2 (inW true) (fVar 1) (fFld ["Table"] "teams" (fVar 0)))) (tV (f2 (inW true) (fVar 2) (fFld ["Table"] "teams" (fVar 0)))))) (sRaise "BadTeams") sNx) (sSeq (sIf (bOr (tV (f2 ltW (fVar 3) (fC (.int 0)))) (tV (f2 ltW (fVar 4) (fC (.int 0))))) (sRaise "BadScore") sNx) (sE (fM .list appendW (fFld ["Table"] "games" (fVar 0)) (aCons (fTup (aCons (fVar 1) (aCons (fVar 2) (aCons (fVar 3) (aCons (fVar 4) aNil))))) aNil)))))
abbrev f_Table_game : List W → M W := runF 5 F_Table_game
theorem ok_Table_game (T : Txt P K mg base) : MetX ar P w K mg base 3 (He.ga K "Table") "game" (spF K (tbs K) 5 f_Table_game) := by
  have nd := sc_Table_game.nd
  refine metV (p := ("Table", some "game")) T.c_Table T.m_Table_game T.f_Table_game sc_Table_game b_Table_game rfl rfl (k := 2) (N := N_Table_game) (fb := F_Table_game) (T := tbs K) fun A outer s H E hr => ?_
  exact (sv_cons (sv_if (PWv.pt (wv_or (tv_cmp (v_eq hr) (ev_v 1) (ev_v 2)) (wv_or (tv_cmp (v_notin hr) (ev_v 1) (ev_fld (fld_cons T.c_Table T.a_Table_teams fld_nil) (ev_v 0))) (wv_or1 (tv_cmp (v_notin hr) (ev_v 2) (ev_fld (fld_cons T.c_Table T.a_Table_teams fld_nil) (ev_v 0))))))) (sv_one (sv_raise T.x_BadTeams ar.cx)) sv_nil) (sv_cons (sv_if (PWv.pt (wv_or (tv_cmp v_lt (ev_v 3) ev_int) (wv_or1 (tv_cmp v_lt (ev_v 4) ev_int)))) (sv_one (sv_raise T.x_BadScore ar.cx)) sv_nil) (sv_one (sv_expr (ev_bm (t := .list) v_append PySem.F.plainAttrs_list PySem.F.slot_list_append PySem.F.type_list_append (ev_fld (fld_cons T.c_Table T.a_Table_games fld_nil) (ev_v 0)) (av_cons (ev_tup (av_cons (ev_v 1) (av_cons (ev_v 2) (av_cons (ev_v 3) (av_cons (ev_v 4) av_nil))))) av_nil))))))
def F_Table_sums : FS := (sSeq (sSet 3 (f2 mulW (fLst (aCons (fC (.int 0)) aNil)) (fC (.int 8)))) (sSeq (sFor (iSq (fFld ["Table"] "games" (fVar 0))) (.tp [4, 5, 6, 7]) (sIf (bAnd (tV (f2 (inW false) (fVar 1) (fTup (aCons (fVar 4) (aCons (fVar 5) aNil))))) (bAnd (tV (f2 (inW false) (fVar 4) (fVar 2))) (tV (f2 (inW false) (fVar 5) (fVar 2))))) (sSeq (sAsg (.tp [8, 9]) (fIf (tV (f2 (eqW false) (fVar 1) (fVar 4))) (fTup (aCons (fVar 6) (aCons (fVar 7) aNil))) (fTup (aCons (fVar 7) (aCons (fVar 6) aNil))))) (sSeq (sSet 10 (fIf (tV (f2 gtW (fVar 8) (fVar 9))) (fC (.int 1)) (fIf (tV (f2 (eqW false) (fVar 8) (fVar 9))) (fC (.int 2)) (fC (.int 3))))) (sSeq (sAugS (fVar 3) (fC (.int 0)) (fC (.int 1)) iaddW) (sSeq (sAugS (fVar 3) (fVar 10) (fC (.int 1)) iaddW) (sSeq (sAugS (fVar 3) (fC (.int 4)) (fVar 8) iaddW) (sSeq (sAugS (fVar 3) (fC (.int 5)) (fVar 9) iaddW) (sSeq (sAugS (fVar 3) (fC (.int 6)) (f2 ixW (fFld ["Table"] "worth" (fVar 0)) (f2 subW (fVar 10) (fC (.int 1)))) iaddW) (sAugS (fVar 3) (fC (.int 7)) (fB intW (aCons (vAnd (f2 (eqW false) (fVar 10) (fC (.int 1))) (f2 (eqW false) (fVar 1) (fVar 5))) aNil)) iaddW)))))))) sNx)) (sRt (fB tupleW (aCons (fVar 3) aNil)))))
abbrev f_Table_sums : List W → M W := runF 11 F_Table_sums
theorem ok_Table_sums (T : Txt P K mg base) : MetX ar P w K mg base 3 (He.ga K "Table") "sums" (spF K (tbs K) 3 f_Table_sums) := by
  have nd := sc_Table_sums.nd
  refine metV (p := ("Table", some "sums")) T.c_Table T.m_Table_sums T.f_Table_sums sc_Table_sums b_Table_sums rfl rfl (k := 2) (N := N_Table_sums) (fb := F_Table_sums) (T := tbs K) fun A outer s H E hr => ?_
  exact (sv_cons (sv_s 3 nd (ev_op v_mul (ev_lst (av_cons ev_int av_nil)) ev_int)) (sv_cons (sv_for owB (iv_sq (ev_fld (fld_cons T.c_Table T.a_Table_games fld_nil) (ev_v 0))) (gv_tp (is := [4, 5, 6, 7]) (pg_tup rfl (pgs_cons (pg_n 4 nd) (pgs_cons (pg_n 5 nd) (pgs_cons (pg_n 6 nd) (pgs_cons (pg_n 7 nd) pgs_nil)))))) (sv_one (sv_if (PWv.pt (wv_and (tv_cmp (v_in hr) (ev_v 1) (ev_tup (av_cons (ev_v 4) (av_cons (ev_v 5) av_nil)))) (wv_and (tv_cmp (v_in hr) (ev_v 4) (ev_v 2)) (wv_and1 (tv_cmp (v_in hr) (ev_v 5) (ev_v 2)))))) (sv_cons (sv_asg (ev_if (tv_cmp (v_eq hr) (ev_v 1) (ev_v 4)) (ev_tup (av_cons (ev_v 6) (av_cons (ev_v 7) av_nil))) (ev_tup (av_cons (ev_v 7) (av_cons (ev_v 6) av_nil)))) (gv_tp (is := [8, 9]) (pg_tup rfl (pgs_cons (pg_n 8 nd) (pgs_cons (pg_n 9 nd) pgs_nil))))) (sv_cons (sv_s 10 nd (ev_if (tv_cmp v_gt (ev_v 8) (ev_v 9)) ev_int (ev_if (tv_cmp (v_eq hr) (ev_v 8) (ev_v 9)) ev_int ev_int))) (sv_cons (sv_augS v_iadd (ev_v 3) ev_int ev_int) (sv_cons (sv_augS v_iadd (ev_v 3) (ev_v 10) ev_int) (sv_cons (sv_augS v_iadd (ev_v 3) ev_int (ev_v 8)) (sv_cons (sv_augS v_iadd (ev_v 3) ev_int (ev_v 9)) (sv_cons (sv_augS v_iadd (ev_v 3) ev_int (ev_ix hr (ev_fld (fld_cons T.c_Table T.a_Table_worth fld_nil) (ev_v 0)) (ev_op v_sub (ev_v 10) ev_int))) (sv_one (sv_augS v_iadd (ev_v 3) ev_int (ev_callTy v_int T.n_int (by decide +kernel) (av_cons (ev_and (ev_cmp (v_eq hr) (ev_v 10) ev_int) (ev_one (ev_cmp (v_eq hr) (ev_v 1) (ev_v 5)))) av_nil))))))))))) sv_nil))) (sv_one (sv_ret (ev_callTy v_tuple T.n_tuple (by decide +kernel) (av_cons (ev_v 3) av_nil))))))
def F_Table_worth_by : FS := (sSeq (sSet 4 (fMeth "Table" "sums" 3 f_Table_sums (fVar 0) (aCons (fVar 1) (aCons (fFld ["Table"] "teams" (fVar 0)) aNil)))) (sSeq (sIf (tV (f2 (eqW false) (fVar 2) (fC (.str "points")))) (sRt (f2 subW (f2 ixW (fVar 4) (fC (.int 6))) (f2 ixW (fFld ["Table"] "taken" (fVar 0)) (fVar 1)))) sNx) (sSeq (sIf (tV (f2 (inW false) (fVar 2) (fTup (aCons (fC (.str "goals")) (aCons (fC (.str "scored")) (aCons (fC (.str "wins")) (aCons (fC (.str "away")) aNil))))))) (sRt (f2 ixW (fDisp [((fC (.str "goals")), (f2 subW (f2 ixW (fVar 4) (fC (.int 4))) (f2 ixW (fVar 4) (fC (.int 5))))), ((fC (.str "scored")), (f2 ixW (fVar 4) (fC (.int 4)))), ((fC (.str "wins")), (f2 ixW (fVar 4) (fC (.int 1)))), ((fC (.str "away")), (f2 ixW (fVar 4) (fC (.int 7))))]) (fVar 2))) sNx) (sSeq (sIf (tV (f2 (eqW false) (fVar 2) (fC (.str "fair")))) (sRt (fNeg (f2 ixW (fFld ["Table"] "marks" (fVar 0)) (fVar 1)))) sNx) (sSeq (sIf (tV (f2 (eqW false) (fVar 2) (fC (.str "name")))) (sRt (fNeg (fM .list indexW (fB sortedTW (aCons (fFld ["Table"] "teams" (fVar 0)) aNil)) (aCons (fVar 1) aNil)))) sNx) (sSeq (sSet 5 (fMeth "Table" "sums" 3 f_Table_sums (fVar 0) (aCons (fVar 1) (aCons (fVar 3) aNil)))) (sRt (f2 ixW (fDisp [((fC (.str "met points")), (f2 ixW (fVar 5) (fC (.int 6)))), ((fC (.str "met goals")), (f2 subW (f2 ixW (fVar 5) (fC (.int 4))) (f2 ixW (fVar 5) (fC (.int 5))))), ((fC (.str "met scored")), (f2 ixW (fVar 5) (fC (.int 4))))]) (fVar 2)))))))))
abbrev f_Table_worth_by : List W → M W := runF 6 F_Table_worth_by
theorem ok_Table_worth_by (T : Txt P K mg base) : MetX ar P w K mg base 6 (He.ga K "Table") "worth_by" (spF K (tbs K) 4 f_Table_worth_by) := by
  have nd := sc_Table_worth_by.nd
  refine metV (p := ("Table", some "worth_by")) T.c_Table T.m_Table_worth_by T.f_Table_worth_by sc_Table_worth_by b_Table_worth_by rfl rfl (k := 5) (N := N_Table_worth_by) (fb := F_Table_worth_by) (T := tbs K) fun A outer s H E hr => ?_
  exact (sv_cons (sv_s 4 nd (ev_meth (ok_Table_sums T) hr (by decide) ar.cx (ev_v 0) (av_cons (ev_v 1) (av_cons (ev_fld (fld_cons T.c_Table T.a_Table_teams fld_nil) (ev_v 0)) av_nil)))) (sv_cons (sv_if (tv_cmp (v_eq hr) (ev_v 2) ev_str) (sv_one (sv_ret (ev_op v_sub (ev_ix hr (ev_v 4) ev_int) (ev_ix hr (ev_fld (fld_cons T.c_Table T.a_Table_taken fld_nil) (ev_v 0)) (ev_v 1))))) sv_nil) (sv_cons (sv_if (tv_cmp (v_in hr) (ev_v 2) (ev_tup (av_cons ev_str (av_cons ev_str (av_cons ev_str (av_cons ev_str av_nil)))))) (sv_one (sv_ret (ev_ix hr (ev_disp (.cons ev_str (ev_op v_sub (ev_ix hr (ev_v 4) ev_int) (ev_ix hr (ev_v 4) ev_int)) (.cons ev_str (ev_ix hr (ev_v 4) ev_int) (.cons ev_str (ev_ix hr (ev_v 4) ev_int) (.cons ev_str (ev_ix hr (ev_v 4) ev_int) .nil))))) (ev_v 2)))) sv_nil) (sv_cons (sv_if (tv_cmp (v_eq hr) (ev_v 2) ev_str) (sv_one (sv_ret (ev_neg (ev_ix hr (ev_fld (fld_cons T.c_Table T.a_Table_marks fld_nil) (ev_v 0)) (ev_v 1))))) sv_nil) (sv_cons (sv_if (tv_cmp (v_eq hr) (ev_v 2) ev_str) (sv_one (sv_ret (ev_neg (ev_bm (t := .list) (v_index hr) PySem.F.plainAttrs_list PySem.F.slot_list_index PySem.F.type_list_index (ev_callB v_sortedT T.n_sorted PyProof.Rows.boot_sorted (av_cons (ev_fld (fld_cons T.c_Table T.a_Table_teams fld_nil) (ev_v 0)) av_nil)) (av_cons (ev_v 1) av_nil))))) sv_nil) (sv_cons (sv_s 5 nd (ev_meth (ok_Table_sums T) hr (by decide) ar.cx (ev_v 0) (av_cons (ev_v 1) (av_cons (ev_v 3) av_nil)))) (sv_one (sv_ret (ev_ix hr (ev_disp (.cons ev_str (ev_ix hr (ev_v 5) ev_int) (.cons ev_str (ev_op v_sub (ev_ix hr (ev_v 5) ev_int) (ev_ix hr (ev_v 5) ev_int)) (.cons ev_str (ev_ix hr (ev_v 5) ev_int) .nil)))) (ev_v 2))))))))))
def F_first_met : FS := (sRt (fB minW (aCons (fLc (iEn (aCons (fVar 0) aNil)) [1, 2] (.tp [1, 2]) (tV (f2 (eqW false) (fSl (fVar 2) oNone (oSome (fC (.int 4)))) (fC (.str "met ")))) (fVar 1)) aNil)))
abbrev f_first_met : List W → M W := runF 3 F_first_met
theorem ok_first_met (T : Txt P K mg base) : CalX ar P w K mg base 3 "first_met" (spF K (tbs K) 1 f_first_met) := by
  have nd := sc_first_met.nd
  refine calV (p := ("first_met", none)) T.g_first_met T.f_first_met sc_first_met b_first_met rfl rfl (k := 2) (N := N_first_met) (fb := F_first_met) (T := tbs K) fun A outer s H E hr => ?_
  exact (sv_one (sv_ret (ev_callB (v_min rfl) T.n_min (by decide +kernel) (av_cons (ev_lc (own := [("k", 1), ("rule", 2)]) (fi := (iEn (aCons (fVar 0) aNil))) (pt := (.tp [1, 2])) (ft := (tV (f2 (eqW false) (fSl (fVar 2) oNone (oSome (fC (.int 4)))) (fC (.str "met "))))) (fe := (fVar 1)) nd (iv_enum T.n_enumerate (av_cons (ev_v 0) av_nil)) (blkOk_by (N := N_first_met) (sc := defScope s_first_met) (by decide +kernel)) (fun _ _ _ _ _ => (gv_tp (is := [1, 2]) (pg_tup rfl (pgs_cons (pg_n 1 nd) (pgs_cons (pg_n 2 nd) pgs_nil))))) (fun _ _ _ _ _ => (tsv_one (tv_cmp (v_eq hr) (ev_slice (ev_v 2) ov_none (ov_some ev_int)) ev_str))) (fun _ _ _ _ _ => (ev_v 1))) av_nil))))
def F_Table_parted (rec : List W → M W) : FS := (sSeq (sIf (bOr (tV (f2 (eqW false) (fB lenW (aCons (fVar 1) aNil)) (fC (.int 1)))) (tV (f2 (eqW false) (fVar 2) (fB lenW (aCons (fFld ["Table"] "rules" (fVar 0)) aNil))))) (sRt (fLst (aCons (fVar 1) aNil))) sNx) (sSeq (sSet 3 (f2 ixW (fFld ["Table"] "rules" (fVar 0)) (fVar 2))) (sSeq (sSet 4 (fDc (iSq (fVar 1)) [5] (.nm 5) bYes (fVar 5) (fMeth "Table" "worth_by" 4 f_Table_worth_by (fVar 0) (aCons (fVar 5) (aCons (fVar 3) (aCons (fVar 1) aNil)))))) (sSeq (sSet 6 (fLst aNil)) (sSeq (sFor (iSq (fSortedDR (fLock (fVar 4) (fDc (iDc .vals (fVar 4)) [8] (.nm 8) bYes (fVar 8) (fC (.bl true)))))) (.nm 7) (sSeq (sSet 9 (fB tupleW (aCons (fLc (iSq (fVar 1)) [5] (.nm 5) (tV (f2 (eqW false) (f2 ixW (fVar 4) (fVar 5)) (fVar 7))) (fVar 5)) aNil))) (sSeq (sSet 10 (vAnd (f2 (eqW false) (fSl (fVar 3) oNone (oSome (fC (.int 4)))) (fC (.str "met "))) (f2 ltW (fB lenW (aCons (fVar 9) aNil)) (fB lenW (aCons (fVar 1) aNil))))) (sE (fM .list extendW (fVar 6) (aCons (fMeth "Table" "parted" 3 rec (fVar 0) (aCons (fVar 9) (aCons (fIf (tV (fVar 10)) (fCall 1 (f_first_met) (aCons (fFld ["Table"] "rules" (fVar 0)) aNil)) (f2 addW (fVar 2) (fC (.int 1)))) aNil))) aNil)))))) (sRt (fVar 6)))))))
def f_Table_parted : Nat → List W → M W
  | 0 => runF 11 sNo
  | n + 1 => runF 11 (F_Table_parted (f_Table_parted n))
theorem ok_Table_parted (T : Txt P K mg base) : ∀ n, MetX ar P w K mg base (3 * n + 12) (He.ga K "Table") "parted" (spF K (tbs K) 3 (f_Table_parted n)) := by
  have nd := sc_Table_parted.nd
  intro n
  induction n with
  | zero => exact metV (p := ("Table", some "parted")) T.c_Table T.m_Table_parted T.f_Table_parted sc_Table_parted b_Table_parted rfl rfl (k := 11) (N := N_Table_parted) (fb := sNo) (T := tbs K) fun A outer s H E hr => sv_no
  | succ n ih =>
    refine metV (p := ("Table", some "parted")) T.c_Table T.m_Table_parted T.f_Table_parted sc_Table_parted b_Table_parted rfl rfl (k := 3 * n + 14) (N := N_Table_parted) (fb := F_Table_parted (f_Table_parted n)) (T := tbs K) fun A outer s H E hr => ?_
    exact (sv_cons (sv_if (PWv.pt (wv_or (tv_cmp (v_eq hr) (ev_callB v_len T.n_len (by decide +kernel) (av_cons (ev_v 1) av_nil)) ev_int) (wv_or1 (tv_cmp (v_eq hr) (ev_v 2) (ev_callB v_len T.n_len (by decide +kernel) (av_cons (ev_fld (fld_cons T.c_Table T.a_Table_rules fld_nil) (ev_v 0)) av_nil)))))) (sv_one (sv_ret (ev_lst (av_cons (ev_v 1) av_nil)))) sv_nil) (sv_cons (sv_s 3 nd (ev_ix hr (ev_fld (fld_cons T.c_Table T.a_Table_rules fld_nil) (ev_v 0)) (ev_v 2))) (sv_cons (sv_s 4 nd (ev_dc (own := [("team", 5)]) (fi := (iSq (fVar 1))) (pt := (.nm 5)) (ft := bYes) (fk := (fVar 5)) (fe := (fMeth "Table" "worth_by" 4 f_Table_worth_by (fVar 0) (aCons (fVar 5) (aCons (fVar 3) (aCons (fVar 1) aNil))))) nd (iv_sq (ev_v 1)) (blkOk_by (N := N_Table_parted) (sc := defScope s_Table_parted) (by decide +kernel)) (fun _ _ _ _ _ => (gv_n 5 nd)) (fun _ _ _ _ _ => tsv_nil) (fun _ _ _ _ _ => (ev_v 5)) (fun _ _ _ _ _ => (ev_meth (ok_Table_worth_by T) hr (by omega) ar.zero (ev_v 0) (av_cons (ev_v 5) (av_cons (ev_v 3) (av_cons (ev_v 1) av_nil))))))) (sv_cons (sv_s 6 nd (ev_lst av_nil)) (sv_cons (sv_for owB (iv_sq (ev_sortedDR T.n_sorted (ev_lock (fd := (fVar 4)) (ev_dc (own := [("one", 8)]) (fi := (iDc .vals (fVar 4))) (pt := (.nm 8)) (ft := bYes) (fk := (fVar 8)) (fe := (fC (.bl true))) nd (iv_values (ev_v 4)) (blkOk_by (N := N_Table_parted) (sc := defScope s_Table_parted) (by decide +kernel)) (fun _ _ _ _ _ => (gv_n 8 nd)) (fun _ _ _ _ _ => tsv_nil) (fun _ _ _ _ _ => (ev_v 8)) (fun _ _ _ _ _ => ev_bl))))) (gv_n 7 nd) (sv_cons (sv_s 9 nd (ev_callTy v_tuple T.n_tuple (by decide +kernel) (av_cons (ev_lc (own := [("team", 5)]) (fi := (iSq (fVar 1))) (pt := (.nm 5)) (ft := (tV (f2 (eqW false) (f2 ixW (fVar 4) (fVar 5)) (fVar 7)))) (fe := (fVar 5)) nd (iv_sq (ev_v 1)) (blkOk_by (N := N_Table_parted) (sc := defScope s_Table_parted) (by decide +kernel)) (fun _ _ _ _ _ => (gv_n 5 nd)) (fun _ _ _ _ _ => (tsv_one (tv_cmp (v_eq hr) (ev_ix hr (ev_v 4) (ev_v 5)) (ev_v 7)))) (fun _ _ _ _ _ => (ev_v 5))) av_nil))) (sv_cons (sv_s 10 nd (ev_and (ev_cmp (v_eq hr) (ev_slice (ev_v 3) ov_none (ov_some ev_int)) ev_str) (ev_one (ev_cmp v_lt (ev_callB v_len T.n_len (by decide +kernel) (av_cons (ev_v 9) av_nil)) (ev_callB v_len T.n_len (by decide +kernel) (av_cons (ev_v 1) av_nil)))))) (sv_one (sv_expr (ev_bm (t := .list) v_extend PySem.F.plainAttrs_list PySem.F.slot_list_extend PySem.F.type_list_extend (ev_v 6) (av_cons (ev_meth ih hr (by omega) ar.cx (ev_v 0) (av_cons (ev_v 9) (av_cons (ev_if (tv_val (ev_v 10)) (ev_call (ok_first_met T) hr (by omega) ar.cx (av_cons (ev_fld (fld_cons T.c_Table T.a_Table_rules fld_nil) (ev_v 0)) av_nil)) (ev_op v_add (ev_v 2) ev_int)) av_nil))) av_nil))))))) (sv_one (sv_ret (ev_v 6))))))))
def F_Table_ranked : FS := (sRt (fB tupleW (aCons (fMeth "Table" "parted" 3 (f_Table_parted 6) (fVar 0) (aCons (fB tupleW (aCons (fB sortedTW (aCons (fFld ["Table"] "teams" (fVar 0)) aNil)) aNil)) (aCons (fC (.int 0)) aNil))) aNil)))
abbrev f_Table_ranked : List W → M W := runF 1 F_Table_ranked
theorem ok_Table_ranked (T : Txt P K mg base) : MetX ar P w K mg base 33 (He.ga K "Table") "ranked" (spF K (tbs K) 1 f_Table_ranked) := by
  have nd := sc_Table_ranked.nd
  refine metV (p := ("Table", some "ranked")) T.c_Table T.m_Table_ranked T.f_Table_ranked sc_Table_ranked b_Table_ranked rfl rfl (k := 32) (N := N_Table_ranked) (fb := F_Table_ranked) (T := tbs K) fun A outer s H E hr => ?_
  exact (sv_one (sv_ret (ev_callTy v_tuple T.n_tuple (by decide +kernel) (av_cons (ev_meth (ok_Table_parted T 6) hr (by decide) ar.cx (ev_v 0) (av_cons (ev_callTy v_tuple T.n_tuple (by decide +kernel) (av_cons (ev_callB v_sortedT T.n_sorted PyProof.Rows.boot_sorted (av_cons (ev_fld (fld_cons T.c_Table T.a_Table_teams fld_nil) (ev_v 0)) av_nil)) av_nil)) (av_cons ev_int av_nil))) av_nil))))
def F_Season_table : FS := (sSeq (sSet 1 (fMake "Table" 4 f_Table_d_initd_ (aCons (fFld ["Season"] "teams" (fVar 0)) (aCons (fFld ["Season"] "worth" (fVar 0)) (aCons (fFld ["Season"] "rules" (fVar 0)) aNil))))) (sSeq (sFor (iSq (fFld ["Season"] "rounds" (fVar 0))) (.nm 2) (sFor (iSq (fVar 2)) (.tp [3, 4, 5, 6]) (sIf (tV (fIsN true (fVar 5))) (sE (fMeth "Table" "game" 5 f_Table_game (fVar 1) (aCons (fVar 3) (aCons (fVar 4) (aCons (fVar 5) (aCons (fVar 6) aNil)))))) sNx))) (sRt (fVar 1))))
abbrev f_Season_table : List W → M W := runF 7 F_Season_table
theorem ok_Season_table (T : Txt P K mg base) : MetX ar P w K mg base 7 (He.ga K "Season") "table" (spF K (tbs K) 1 f_Season_table) := by
  have nd := sc_Season_table.nd
  refine metV (p := ("Season", some "table")) T.c_Season T.m_Season_table T.f_Season_table sc_Season_table b_Season_table rfl rfl (k := 6) (N := N_Season_table) (fb := F_Season_table) (T := tbs K) fun A outer s H E hr => ?_
  exact (sv_cons (sv_s 1 nd (ev_make (ok_Table_d_initd_ T) hr (by decide) ar.cx (av_cons (ev_fld (fld_cons T.c_Season T.a_Season_teams fld_nil) (ev_v 0)) (av_cons (ev_fld (fld_cons T.c_Season T.a_Season_worth fld_nil) (ev_v 0)) (av_cons (ev_fld (fld_cons T.c_Season T.a_Season_rules fld_nil) (ev_v 0)) av_nil))))) (sv_cons (sv_for owB (iv_sq (ev_fld (fld_cons T.c_Season T.a_Season_rounds fld_nil) (ev_v 0))) (gv_n 2 nd) (sv_one (sv_for owB (iv_sq (ev_v 2)) (gv_tp (is := [3, 4, 5, 6]) (pg_tup rfl (pgs_cons (pg_n 3 nd) (pgs_cons (pg_n 4 nd) (pgs_cons (pg_n 5 nd) (pgs_cons (pg_n 6 nd) pgs_nil)))))) (sv_one (sv_if (tv_notN (ev_v 5)) (sv_one (sv_expr (ev_meth (ok_Table_game T) hr (by decide) ar.cx (ev_v 1) (av_cons (ev_v 3) (av_cons (ev_v 4) (av_cons (ev_v 5) (av_cons (ev_v 6) av_nil))))))) sv_nil))))) (sv_one (sv_ret (ev_v 1)))))
def F_told_table : FS := (sSeq (sPar 1 2 (aCons (fLst aNil) (aCons (fC (.int 1)) aNil))) (sSeq (sFor (iSq (fMeth "Table" "ranked" 1 f_Table_ranked (fVar 0) aNil)) (.nm 3) (sSeq (sFor (iSq (fVar 3)) (.nm 4) (sSeq (sSet 5 (fMeth "Table" "sums" 3 f_Table_sums (fVar 0) (aCons (fVar 4) (aCons (fFld ["Table"] "teams" (fVar 0)) aNil)))) (sSeq (sSet 6 (f2 addW (f2 addW (fB strW (aCons (f2 ixW (fVar 5) (fC (.int 4))) aNil)) (fC (.str "-"))) (fB strW (aCons (f2 ixW (fVar 5) (fC (.int 5))) aNil)))) (sSeq (sSet 7 (f2 addW (f2 addW (fLst (aCons (fB strW (aCons (fVar 2) aNil)) (aCons (fVar 4) aNil))) (fLc (iSq (fSl (fVar 5) oNone (oSome (fC (.int 4))))) [8] (.nm 8) bYes (fB strW (aCons (fVar 8) aNil)))) (fLst (aCons (fVar 6) (aCons (fB strW (aCons (f2 subW (f2 ixW (fVar 5) (fC (.int 6))) (f2 ixW (fFld ["Table"] "taken" (fVar 0)) (fVar 4))) aNil)) aNil))))) (sE (fM .list appendW (fVar 1) (aCons (fM .str joinW (fC (.str " ")) (aCons (fVar 7) aNil)) aNil))))))) (sAug 2 iaddW (fB lenW (aCons (fVar 3) aNil))))) (sRt (fM .str joinW (fC (.str "\n")) (aCons (fVar 1) aNil)))))
abbrev f_told_table : List W → M W := runF 9 F_told_table
theorem ok_told_table (T : Txt P K mg base) : CalX ar P w K mg base 36 "told_table" (spF K (tbs K) 1 f_told_table) := by
  have nd := sc_told_table.nd
  refine calV (p := ("told_table", none)) T.g_told_table T.f_told_table sc_told_table b_told_table rfl rfl (k := 35) (N := N_told_table) (fb := F_told_table) (T := tbs K) fun A outer s H E hr => ?_
  exact (sv_cons (sv_par (i := 1) (j := 2) (by rfl) nd rfl rfl (by decide) rfl rfl (av_cons (ev_lst av_nil) (av_cons ev_int av_nil)) (by rfl)) (sv_cons (sv_for owB (iv_sq (ev_meth0 (ok_Table_ranked T) hr (by decide) ar.cx (ev_v 0))) (gv_n 3 nd) (sv_cons (sv_for owB (iv_sq (ev_v 3)) (gv_n 4 nd) (sv_cons (sv_s 5 nd (ev_meth (ok_Table_sums T) hr (by decide) ar.cx (ev_v 0) (av_cons (ev_v 4) (av_cons (ev_fld (fld_cons T.c_Table T.a_Table_teams fld_nil) (ev_v 0)) av_nil)))) (sv_cons (sv_s 6 nd (ev_op v_add (ev_op v_add (ev_callTy v_str T.n_str (by decide +kernel) (av_cons (ev_ix hr (ev_v 5) ev_int) av_nil)) ev_str) (ev_callTy v_str T.n_str (by decide +kernel) (av_cons (ev_ix hr (ev_v 5) ev_int) av_nil)))) (sv_cons (sv_s 7 nd (ev_op v_add (ev_op v_add (ev_lst (av_cons (ev_callTy v_str T.n_str (by decide +kernel) (av_cons (ev_v 2) av_nil)) (av_cons (ev_v 4) av_nil))) (ev_lc (own := [("one", 8)]) (fi := (iSq (fSl (fVar 5) oNone (oSome (fC (.int 4)))))) (pt := (.nm 8)) (ft := bYes) (fe := (fB strW (aCons (fVar 8) aNil))) nd (iv_sq (ev_slice (ev_v 5) ov_none (ov_some ev_int))) (blkOk_by (N := N_told_table) (sc := defScope s_told_table) (by decide +kernel)) (fun _ _ _ _ _ => (gv_n 8 nd)) (fun _ _ _ _ _ => tsv_nil) (fun _ _ _ _ _ => (ev_callTy v_str T.n_str (by decide +kernel) (av_cons (ev_v 8) av_nil))))) (ev_lst (av_cons (ev_v 6) (av_cons (ev_callTy v_str T.n_str (by decide +kernel) (av_cons (ev_op v_sub (ev_ix hr (ev_v 5) ev_int) (ev_ix hr (ev_fld (fld_cons T.c_Table T.a_Table_taken fld_nil) (ev_v 0)) (ev_v 4))) av_nil)) av_nil))))) (sv_one (sv_expr (ev_bm (t := .list) v_append PySem.F.plainAttrs_list PySem.F.slot_list_append PySem.F.type_list_append (ev_v 1) (av_cons (ev_bm (t := .str) v_join PySem.F.plainAttrs_str PySem.F.slot_str_join PySem.F.type_str_join ev_str (av_cons (ev_v 7) av_nil)) av_nil)))))))) (sv_one (sv_ag 2 nd v_iadd (ev_callB v_len T.n_len (by decide +kernel) (av_cons (ev_v 3) av_nil)))))) (sv_one (sv_ret (ev_bm (t := .str) v_join PySem.F.plainAttrs_str PySem.F.slot_str_join PySem.F.type_str_join ev_str (av_cons (ev_v 1) av_nil))))))
def F_Desk_d_initd_ : FS := (sSeq (sFldS ["Desk"] "shown" (fC (.str "")) (fVar 0)) (sSeq (sFldS ["Desk"] "deeds" (fLst aNil) (fVar 0)) (sFldS ["Desk"] "undone" (fLst aNil) (fVar 0))))
abbrev f_Desk_d_initd_ : List W → M W := runF 1 F_Desk_d_initd_
theorem ok_Desk_d_initd_ (T : Txt P K mg base) : MakX ar P w K mg base 3 "Desk" (He.ga K "Desk") (spF K (tbs K) 1 f_Desk_d_initd_) := by
  have nd := sc_Desk_d_initd_.nd
  refine makV (p := ("Desk", some "__init__")) T.g_Desk T.k_Desk T.f_Desk_d_initd_ sc_Desk_d_initd_ b_Desk_d_initd_ rfl rfl (k := 2) (N := N_Desk_d_initd_) (fb := F_Desk_d_initd_) (T := tbs K) fun A outer s H E hr => ?_
  exact (sv_cons (sv_fld (fld_cons T.c_Desk T.a_Desk_shown fld_nil) ev_str (ev_v 0)) (sv_cons (sv_fld (fld_cons T.c_Desk T.a_Desk_deeds fld_nil) (ev_lst av_nil) (ev_v 0)) (sv_one (sv_fld (fld_cons T.c_Desk T.a_Desk_undone fld_nil) (ev_lst av_nil) (ev_v 0)))))
def F_Desk_note : FS := (sSeq (sIf (bOr (tV (f2 (eqW false) (fVar 1) (fFld ["Desk"] "shown" (fVar 0)))) (tV (f2 gtW (fB lenW (aCons (fVar 1) aNil)) (fC (.int 4000))))) (sRaise "BadDeed") sNx) (sSeq (sE (fM .list appendW (fFld ["Desk"] "deeds" (fVar 0)) (aCons (fTup (aCons (fFld ["Desk"] "shown" (fVar 0)) (aCons (fVar 1) aNil))) aNil))) (sSeq (sFldS ["Desk"] "undone" (fLst aNil) (fVar 0)) (sFldS ["Desk"] "shown" (fVar 1) (fVar 0)))))
abbrev f_Desk_note : List W → M W := runF 2 F_Desk_note
theorem ok_Desk_note (T : Txt P K mg base) : MetX ar P w K mg base 3 (He.ga K "Desk") "note" (spF K (tbs K) 2 f_Desk_note) := by
  have nd := sc_Desk_note.nd
  refine metV (p := ("Desk", some "note")) T.c_Desk T.m_Desk_note T.f_Desk_note sc_Desk_note b_Desk_note rfl rfl (k := 2) (N := N_Desk_note) (fb := F_Desk_note) (T := tbs K) fun A outer s H E hr => ?_
  exact (sv_cons (sv_if (PWv.pt (wv_or (tv_cmp (v_eq hr) (ev_v 1) (ev_fld (fld_cons T.c_Desk T.a_Desk_shown fld_nil) (ev_v 0))) (wv_or1 (tv_cmp v_gt (ev_callB v_len T.n_len (by decide +kernel) (av_cons (ev_v 1) av_nil)) ev_int)))) (sv_one (sv_raise T.x_BadDeed ar.cx)) sv_nil) (sv_cons (sv_expr (ev_bm (t := .list) v_append PySem.F.plainAttrs_list PySem.F.slot_list_append PySem.F.type_list_append (ev_fld (fld_cons T.c_Desk T.a_Desk_deeds fld_nil) (ev_v 0)) (av_cons (ev_tup (av_cons (ev_fld (fld_cons T.c_Desk T.a_Desk_shown fld_nil) (ev_v 0)) (av_cons (ev_v 1) av_nil))) av_nil))) (sv_cons (sv_fld (fld_cons T.c_Desk T.a_Desk_undone fld_nil) (ev_lst av_nil) (ev_v 0)) (sv_one (sv_fld (fld_cons T.c_Desk T.a_Desk_shown fld_nil) (ev_v 1) (ev_v 0))))))
def F_Desk_begin : FS := (sSeq (sTry sub_FixtureFault (sSeq (sSet 3 (fCall 1 (f_circle) (aCons (fVar 1) aNil))) (sSeq (sSet 4 (fMake "Season" 4 f_Season_d_initd_ (aCons (fVar 1) (aCons (fTup (aCons (fC (.int 3)) (aCons (fC (.int 1)) (aCons (fC (.int 0)) aNil)))) (aCons (fTup (aCons (fC (.str "points")) (aCons (fC (.str "goals")) (aCons (fC (.str "scored")) (aCons (fC (.str "name")) aNil))))) aNil))))) (sSeq (sE (fMeth "Season" "lay" 2 f_Season_lay (fVar 4) (aCons (fIf (tV (fVar 2)) (fCall 1 (f_twice) (aCons (fVar 3) aNil)) (fVar 3)) aNil))) (sSeq (sSet 5 (fCall 1 (f_told) (aCons (fVar 4) aNil))) (sE (fCall 1 (f_read) (aCons (fVar 5) aNil))))))) (sRaise "BadDeed")) (sE (fMeth "Desk" "note" 2 f_Desk_note (fVar 0) (aCons (fVar 5) aNil))))
abbrev f_Desk_begin : List W → M W := runF 6 F_Desk_begin
theorem ok_Desk_begin (T : Txt P K mg base) : MetX air P w K mg base 12 (He.ga K "Desk") "begin" (spF K (tbs K) 3 f_Desk_begin) := by
  have nd := sc_Desk_begin.nd
  refine metV (p := ("Desk", some "begin")) T.c_Desk T.m_Desk_begin T.f_Desk_begin sc_Desk_begin b_Desk_begin rfl rfl (k := 11) (N := N_Desk_begin) (fb := F_Desk_begin) (T := tbs K) fun A outer s H E hr => ?_
  exact (sv_cons (sv_tryX sub_FixtureFault ⟨rfl, by decide, .inl T.g_FixtureFault⟩ (L2H.passesAt_of rfl) air.cx (hx_FixtureFault T) (fun W pn xe tk ow => (sv_cons (sv_s 3 nd (ev_call (ok_circle T) hr (by decide) (takesN tk) (av_cons (ev_v 1) av_nil))) (sv_cons (sv_s 4 nd (ev_make (ok_Season_d_initd_ T) hr (by decide) (takesN tk) (av_cons (ev_v 1) (av_cons (ev_tup (av_cons ev_int (av_cons ev_int (av_cons ev_int av_nil)))) (av_cons (ev_tup (av_cons ev_str (av_cons ev_str (av_cons ev_str (av_cons ev_str av_nil))))) av_nil))))) (sv_cons (sv_expr (ev_meth (ok_Season_lay T) hr (by decide) (takesN tk) (ev_v 4) (av_cons (ev_if (tv_val (ev_v 2)) (ev_call (ok_twice T) hr (by decide) (takesN tk) (av_cons (ev_v 3) av_nil)) (ev_v 3)) av_nil))) (sv_cons (sv_s 5 nd (ev_call (ok_told T) hr (by decide) (takesN tk) (av_cons (ev_v 4) av_nil))) (sv_one (sv_expr (ev_call (ok_read T) hr (by decide) (takesN tk) (av_cons (ev_v 5) av_nil))))))))) (fun a oe pn tk hot => (sv_one (sv_raiseH T.x_BadDeed hot tk)))) (sv_one (sv_expr (ev_meth (ok_Desk_note T) hr (by decide) air.cx (ev_v 0) (av_cons (ev_v 5) av_nil)))))
def F_Desk_put : FS := (sSeq (sTry sub_FixtureFault (sSeq (sSet 6 (fCall 1 (f_read) (aCons (fFld ["Desk"] "shown" (fVar 0)) aNil))) (sE (fMeth "Season" "put" 6 f_Season_put (fVar 6) (aCons (fVar 1) (aCons (fVar 2) (aCons (fVar 3) (aCons (fVar 4) (aCons (fVar 5) aNil)))))))) (sRaise "BadDeed")) (sE (fMeth "Desk" "note" 2 f_Desk_note (fVar 0) (aCons (fCall 1 (f_told) (aCons (fVar 6) aNil)) aNil))))
abbrev f_Desk_put : List W → M W := runF 7 F_Desk_put
theorem ok_Desk_put (T : Txt P K mg base) : MetX air P w K mg base 12 (He.ga K "Desk") "put" (spF K (tbs K) 6 f_Desk_put) := by
  have nd := sc_Desk_put.nd
  refine metV (p := ("Desk", some "put")) T.c_Desk T.m_Desk_put T.f_Desk_put sc_Desk_put b_Desk_put rfl rfl (k := 11) (N := N_Desk_put) (fb := F_Desk_put) (T := tbs K) fun A outer s H E hr => ?_
  exact (sv_cons (sv_tryX sub_FixtureFault ⟨rfl, by decide, .inl T.g_FixtureFault⟩ (L2H.passesAt_of rfl) air.cx (hx_FixtureFault T) (fun W pn xe tk ow => (sv_cons (sv_s 6 nd (ev_call (ok_read T) hr (by decide) (takesN tk) (av_cons (ev_fld (fld_cons T.c_Desk T.a_Desk_shown fld_nil) (ev_v 0)) av_nil))) (sv_one (sv_expr (ev_meth (ok_Season_put T) hr (by decide) (takesN tk) (ev_v 6) (av_cons (ev_v 1) (av_cons (ev_v 2) (av_cons (ev_v 3) (av_cons (ev_v 4) (av_cons (ev_v 5) av_nil)))))))))) (fun a oe pn tk hot => (sv_one (sv_raiseH T.x_BadDeed hot tk)))) (sv_one (sv_expr (ev_meth (ok_Desk_note T) hr (by decide) air.cx (ev_v 0) (av_cons (ev_call (ok_told T) hr (by decide) air.cx (av_cons (ev_v 6) av_nil)) av_nil)))))
def F_Desk_table : FS := (sTry sub_FixtureFault (sRt (fCall 1 (f_told_table) (aCons (fMeth "Season" "table" 1 f_Season_table (fCall 1 (f_read) (aCons (fFld ["Desk"] "shown" (fVar 0)) aNil)) aNil) aNil))) (sRaise "BadDeed"))
abbrev f_Desk_table : List W → M W := runF 1 F_Desk_table
theorem ok_Desk_table (T : Txt P K mg base) : MetX air P w K mg base 39 (He.ga K "Desk") "table" (spF K (tbs K) 1 f_Desk_table) := by
  have nd := sc_Desk_table.nd
  refine metV (p := ("Desk", some "table")) T.c_Desk T.m_Desk_table T.f_Desk_table sc_Desk_table b_Desk_table rfl rfl (k := 38) (N := N_Desk_table) (fb := F_Desk_table) (T := tbs K) fun A outer s H E hr => ?_
  exact (sv_one (sv_tryX sub_FixtureFault ⟨rfl, by decide, .inl T.g_FixtureFault⟩ (L2H.passesAt_of rfl) air.cx (hx_FixtureFault T) (fun W pn xe tk ow => (sv_one (sv_ret (ev_call (ok_told_table T) hr (by decide) (takesN tk) (av_cons (ev_meth0 (ok_Season_table T) hr (by decide) (takesN tk) (ev_call (ok_read T) hr (by decide) (takesN tk) (av_cons (ev_fld (fld_cons T.c_Desk T.a_Desk_shown fld_nil) (ev_v 0)) av_nil))) av_nil))))) (fun a oe pn tk hot => (sv_one (sv_raiseH T.x_BadDeed hot tk)))))
def F_Desk_undo : FS := (sSeq (sIf (tV (f2 (eqW false) (fFld ["Desk"] "deeds" (fVar 0)) (fLst aNil))) (sRaise "BadDeed") sNx) (sSeq (sSet 1 (fM .list popW (fFld ["Desk"] "deeds" (fVar 0)) aNil)) (sSeq (sE (fM .list appendW (fFld ["Desk"] "undone" (fVar 0)) (aCons (fVar 1) aNil))) (sFldS ["Desk"] "shown" (f2 ixW (fVar 1) (fC (.int 0))) (fVar 0)))))
abbrev f_Desk_undo : List W → M W := runF 2 F_Desk_undo
theorem ok_Desk_undo (T : Txt P K mg base) : MetX ar P w K mg base 3 (He.ga K "Desk") "undo" (spF K (tbs K) 1 f_Desk_undo) := by
  have nd := sc_Desk_undo.nd
  refine metV (p := ("Desk", some "undo")) T.c_Desk T.m_Desk_undo T.f_Desk_undo sc_Desk_undo b_Desk_undo rfl rfl (k := 2) (N := N_Desk_undo) (fb := F_Desk_undo) (T := tbs K) fun A outer s H E hr => ?_
  exact (sv_cons (sv_if (tv_cmp (v_eq hr) (ev_fld (fld_cons T.c_Desk T.a_Desk_deeds fld_nil) (ev_v 0)) (ev_lst av_nil)) (sv_one (sv_raise T.x_BadDeed ar.cx)) sv_nil) (sv_cons (sv_s 1 nd (ev_bm0 (t := .list) v_pop PySem.F.plainAttrs_list PySem.F.slot_list_pop PySem.F.type_list_pop (ev_fld (fld_cons T.c_Desk T.a_Desk_deeds fld_nil) (ev_v 0)))) (sv_cons (sv_expr (ev_bm (t := .list) v_append PySem.F.plainAttrs_list PySem.F.slot_list_append PySem.F.type_list_append (ev_fld (fld_cons T.c_Desk T.a_Desk_undone fld_nil) (ev_v 0)) (av_cons (ev_v 1) av_nil))) (sv_one (sv_fld (fld_cons T.c_Desk T.a_Desk_shown fld_nil) (ev_ix hr (ev_v 1) ev_int) (ev_v 0))))))
def F_Desk_redo : FS := (sSeq (sIf (tV (f2 (eqW false) (fFld ["Desk"] "undone" (fVar 0)) (fLst aNil))) (sRaise "BadDeed") sNx) (sSeq (sSet 1 (fM .list popW (fFld ["Desk"] "undone" (fVar 0)) aNil)) (sSeq (sE (fM .list appendW (fFld ["Desk"] "deeds" (fVar 0)) (aCons (fVar 1) aNil))) (sFldS ["Desk"] "shown" (f2 ixW (fVar 1) (fC (.int 1))) (fVar 0)))))
abbrev f_Desk_redo : List W → M W := runF 2 F_Desk_redo
theorem ok_Desk_redo (T : Txt P K mg base) : MetX ar P w K mg base 3 (He.ga K "Desk") "redo" (spF K (tbs K) 1 f_Desk_redo) := by
  have nd := sc_Desk_redo.nd
  refine metV (p := ("Desk", some "redo")) T.c_Desk T.m_Desk_redo T.f_Desk_redo sc_Desk_redo b_Desk_redo rfl rfl (k := 2) (N := N_Desk_redo) (fb := F_Desk_redo) (T := tbs K) fun A outer s H E hr => ?_
  exact (sv_cons (sv_if (tv_cmp (v_eq hr) (ev_fld (fld_cons T.c_Desk T.a_Desk_undone fld_nil) (ev_v 0)) (ev_lst av_nil)) (sv_one (sv_raise T.x_BadDeed ar.cx)) sv_nil) (sv_cons (sv_s 1 nd (ev_bm0 (t := .list) v_pop PySem.F.plainAttrs_list PySem.F.slot_list_pop PySem.F.type_list_pop (ev_fld (fld_cons T.c_Desk T.a_Desk_undone fld_nil) (ev_v 0)))) (sv_cons (sv_expr (ev_bm (t := .list) v_append PySem.F.plainAttrs_list PySem.F.slot_list_append PySem.F.type_list_append (ev_fld (fld_cons T.c_Desk T.a_Desk_deeds fld_nil) (ev_v 0)) (av_cons (ev_v 1) av_nil))) (sv_one (sv_fld (fld_cons T.c_Desk T.a_Desk_shown fld_nil) (ev_ix hr (ev_v 1) ev_int) (ev_v 0))))))
def F_law_dice : FS := (sSeq (sIf (tV (fChain ltW ltW (f2 subW (fC (.int 0)) (fC (.int 10))) (fVar 0) (fC (.int 10)))) (sRt (fLst (aCons (fB absW (aCons (fVar 0) aNil)) (aCons (fC (.int 0)) (aCons (fC (.int 2)) aNil))))) sNx) (sRt (fLst (aCons (fVar 0) (aCons (f2 addW (fC (.int 1)) (f2 modW (fB intW (aCons (fVar 0) aNil)) (fC (.int 1009)))) (aCons (fB intW (aCons (f2 geW (fVar 0) (f2 powW (fC (.int 10)) (fC (.int 18)))) aNil)) aNil))))))
abbrev f_law_dice : List W → M W := runF 1 F_law_dice
theorem ok_law_dice (T : Txt P K mg base) : CalX ar P w K mg base 3 "_law_dice" (spF K (tbs K) 1 f_law_dice) := by
  have nd := sc_law_dice.nd
  refine calV (p := ("_law_dice", none)) T.g_law_dice T.f_law_dice sc_law_dice b_law_dice rfl rfl (k := 2) (N := N_law_dice) (fb := F_law_dice) (T := tbs K) fun A outer s H E hr => ?_
  exact (sv_cons (sv_if (tv_chain v_lt v_lt (ev_op v_sub ev_int ev_int) (ev_v 0) ev_int) (sv_one (sv_ret (ev_lst (av_cons (ev_callB v_abs T.n_abs (by decide +kernel) (av_cons (ev_v 0) av_nil)) (av_cons ev_int (av_cons ev_int av_nil)))))) sv_nil) (sv_one (sv_ret (ev_lst (av_cons (ev_v 0) (av_cons (ev_op v_add ev_int (ev_op v_mod (ev_callTy v_int T.n_int (by decide +kernel) (av_cons (ev_v 0) av_nil)) ev_int)) (av_cons (ev_callTy v_int T.n_int (by decide +kernel) (av_cons (ev_cmp v_ge (ev_v 0) (ev_op v_pow ev_int ev_int)) av_nil)) av_nil)))))))
def F_law_roll : FS := (sSeq (sIf (bOr (tV (f2 (eqW false) (f2 ixW (fVar 0) (fC (.int 2))) (fC (.int 2)))) (bAnd (tV (f2 (eqW false) (f2 ixW (fVar 0) (fC (.int 2))) (fC (.int 1)))) (tV (f2 gtW (f2 ixW (fVar 0) (fC (.int 0))) (fC (.int 0)))))) (sSeq (sSet 2 (f2 modW (fB intW (aCons (f2 ixW (fVar 0) (fC (.int 0))) aNil)) (fVar 1))) (sSeq (sSub (f2 divW (f2 ixW (fVar 0) (fC (.int 0))) (fVar 1)) (fVar 0) (fC (.int 0)) setL) (sRt (fVar 2)))) sNx) (sSeq (sSub (fC (.int 0)) (fVar 0) (fC (.int 2)) setL) (sSeq (sSub (f2 modW (fB intW (aCons (f2 addW (f2 addW (f2 mulW (f2 ixW (fVar 0) (fC (.int 0))) (fC (.int 48271))) (f2 mulW (f2 ixW (fVar 0) (fC (.int 1))) (fC (.int 69621)))) (fC (.int 11))) aNil)) (fC (.int 2147483647))) (fVar 0) (fC (.int 0)) setL) (sSeq (sSub (f2 addW (f2 ixW (fVar 0) (fC (.int 1))) (fC (.int 1))) (fVar 0) (fC (.int 1)) setL) (sRt (f2 modW (fB intW (aCons (f2 addW (f2 divW (f2 ixW (fVar 0) (fC (.int 0))) (fC (.int 7))) (f2 ixW (fVar 0) (fC (.int 0)))) aNil)) (fVar 1)))))))
abbrev f_law_roll : List W → M W := runF 3 F_law_roll
theorem ok_law_roll (T : Txt P K mg base) : CalX ar P w K mg base 3 "_law_roll" (spF K (tbs K) 2 f_law_roll) := by
  have nd := sc_law_roll.nd
  refine calV (p := ("_law_roll", none)) T.g_law_roll T.f_law_roll sc_law_roll b_law_roll rfl rfl (k := 2) (N := N_law_roll) (fb := F_law_roll) (T := tbs K) fun A outer s H E hr => ?_
  exact (sv_cons (sv_if (PWv.pt (wv_or (tv_cmp (v_eq hr) (ev_ix hr (ev_v 0) ev_int) ev_int) (wv_or1 (PWv.pt (wv_and (tv_cmp (v_eq hr) (ev_ix hr (ev_v 0) ev_int) ev_int) (wv_and1 (tv_cmp v_gt (ev_ix hr (ev_v 0) ev_int) ev_int))))))) (sv_cons (sv_s 2 nd (ev_op v_mod (ev_callTy v_int T.n_int (by decide +kernel) (av_cons (ev_ix hr (ev_v 0) ev_int) av_nil)) (ev_v 1))) (sv_cons (sv_sub (ev_op v_div (ev_ix hr (ev_v 0) ev_int) (ev_v 1)) (ev_v 0) ev_int) (sv_one (sv_ret (ev_v 2))))) sv_nil) (sv_cons (sv_sub ev_int (ev_v 0) ev_int) (sv_cons (sv_sub (ev_op v_mod (ev_callTy v_int T.n_int (by decide +kernel) (av_cons (ev_op v_add (ev_op v_add (ev_op v_mul (ev_ix hr (ev_v 0) ev_int) ev_int) (ev_op v_mul (ev_ix hr (ev_v 0) ev_int) ev_int)) ev_int) av_nil)) ev_int) (ev_v 0) ev_int) (sv_cons (sv_sub (ev_op v_add (ev_ix hr (ev_v 0) ev_int) ev_int) (ev_v 0) ev_int) (sv_one (sv_ret (ev_op v_mod (ev_callTy v_int T.n_int (by decide +kernel) (av_cons (ev_op v_add (ev_op v_div (ev_ix hr (ev_v 0) ev_int) ev_int) (ev_ix hr (ev_v 0) ev_int)) av_nil)) (ev_v 1))))))))
def F_law_rounds : FS := (sSeq (sSet 2 (fSl (fVar 0) oNone (oSome (fVar 1)))) (sSeq (sIf (tV (f2 (eqW false) (fVar 2) (fLst aNil))) (sSet 2 (fLst (aCons (fC (.int 0)) aNil))) sNx) (sRt (fLc (iSq (fVar 2)) [3] (.nm 3) bYes (fCall 1 (f_law_dice) (aCons (fVar 3) aNil))))))
abbrev f_law_rounds : List W → M W := runF 4 F_law_rounds
theorem ok_law_rounds (T : Txt P K mg base) : CalX ar P w K mg base 6 "_law_rounds" (spF K (tbs K) 2 f_law_rounds) := by
  have nd := sc_law_rounds.nd
  refine calV (p := ("_law_rounds", none)) T.g_law_rounds T.f_law_rounds sc_law_rounds b_law_rounds rfl rfl (k := 5) (N := N_law_rounds) (fb := F_law_rounds) (T := tbs K) fun A outer s H E hr => ?_
  exact (sv_cons (sv_s 2 nd (ev_slice (ev_v 0) ov_none (ov_some (ev_v 1)))) (sv_cons (sv_if (tv_cmp (v_eq hr) (ev_v 2) (ev_lst av_nil)) (sv_one (sv_s 2 nd (ev_lst (av_cons ev_int av_nil)))) sv_nil) (sv_one (sv_ret (ev_lc (own := [("cell", 3)]) (fi := (iSq (fVar 2))) (pt := (.nm 3)) (ft := bYes) (fe := (fCall 1 (f_law_dice) (aCons (fVar 3) aNil))) nd (iv_sq (ev_v 2)) (blkOk_by (N := N_law_rounds) (sc := defScope s_law_rounds) (by decide +kernel)) (fun _ _ _ _ _ => (gv_n 3 nd)) (fun _ _ _ _ _ => tsv_nil) (fun _ _ _ _ _ => (ev_call (ok_law_dice T) hr (by decide) ar.zero (av_cons (ev_v 3) av_nil))))))))
def F_law_table : FS := (sTry sub_FixtureFault (sRt (fCall 1 (f_told_table) (aCons (fMeth "Season" "table" 1 f_Season_table (fCall 1 (f_read) (aCons (fVar 0) aNil)) aNil) aNil))) (nxS (sRt (fC (.str "due")))))
abbrev f_law_table : List W → M W := runF 1 F_law_table
theorem ok_law_table (T : Txt P K mg base) : CalX air P w K mg base 42 "_law_table" (spF K (tbs K) 1 f_law_table) := by
  have nd := sc_law_table.nd
  refine calV (p := ("_law_table", none)) T.g_law_table T.f_law_table sc_law_table b_law_table rfl rfl (k := 41) (N := N_law_table) (fb := F_law_table) (T := tbs K) fun A outer s H E hr => ?_
  exact (sv_one (sv_try sub_FixtureFault ⟨rfl, by decide, .inl T.g_FixtureFault⟩ air.cx (hx_FixtureFault T) (fun W pn xe tk ow => (sv_one (sv_ret (ev_call (ok_told_table T) hr (by decide) (takesL tk) (av_cons (ev_meth0 (ok_Season_table T) hr (by decide) (takesL tk) (ev_call (ok_read T) hr (by decide) (takesL tk) (av_cons (ev_v 0) av_nil))) av_nil))))) (fun a oe pn => (sv_one (sv_ret ev_str)))))
end
end K27
set_option Elab.async false
set_option linter.all false
set_option maxRecDepth 100000
set_option maxHeartbeats 4000000
namespace K27
open PySem PySem.Spec PyProof.Rows L2 Fh Fv
section
variable {ar : Air} {P : Program} {w : World} {K : PySem.W.Frag} {mg : Str → Option Value} {base : Heap}
def F_law_deed : FR := (rIf (tV (f2 (eqW false) (fCall 2 (f_law_roll) (aCons (fVar 1) (aCons (fC (.int 3)) aNil))) (fC (.int 0)))) (rSeq (sAsg (.tp [3, 4]) (fTup (aCons (f2 ixW (fLst (aCons (fLst (aCons (fC (.str "a")) (aCons (fC (.str "b")) aNil))) (aCons (fLst (aCons (fC (.str "a")) (aCons (fC (.str "b")) (aCons (fC (.str "c")) aNil)))) (aCons (fLst (aCons (fC (.str "a")) aNil)) aNil)))) (fCall 2 (f_law_roll) (aCons (fVar 1) (aCons (fC (.int 3)) aNil)))) (aCons (f2 (eqW false) (fCall 2 (f_law_roll) (aCons (fVar 1) (aCons (fC (.int 2)) aNil))) (fC (.int 1))) aNil)))) (rIf (tV (f2 ltW (fB lenW (aCons (fVar 3) aNil)) (fC (.int 2)))) (rLam 0 (fVar 2)) rNx (rSeq (sSet 5 (fMake "Season" 4 f_Season_d_initd_ (aCons (fVar 3) (aCons (fTup (aCons (fC (.int 3)) (aCons (fC (.int 1)) (aCons (fC (.int 0)) aNil)))) (aCons (fTup (aCons (fC (.str "points")) (aCons (fC (.str "goals")) (aCons (fC (.str "scored")) (aCons (fC (.str "name")) aNil))))) aNil))))) (rSeq (sSet 6 (fIf (tV (fVar 4)) (fCall 1 (f_twice) (aCons (fCall 1 (f_circle) (aCons (fVar 3) aNil)) aNil)) (fCall 1 (f_circle) (aCons (fVar 3) aNil)))) (rSeq (sE (fMeth "Season" "lay" 2 f_Season_lay (fVar 5) (aCons (fVar 6) aNil))) (rLam 1 (fCall 1 (f_told) (aCons (fVar 5) aNil)))))))) rNx (rSeq (sAsg (.tp [7, 8, 9]) (fTup (aCons (fCall 2 (f_law_roll) (aCons (fVar 1) (aCons (fC (.int 3)) aNil))) (aCons (fCall 2 (f_law_roll) (aCons (fVar 1) (aCons (fC (.int 3)) aNil))) (aCons (fCall 2 (f_law_roll) (aCons (fVar 1) (aCons (fC (.int 3)) aNil))) aNil))))) (rSeq (sAsg (.tp [10, 11]) (fTup (aCons (f2 ixW (fC (.str "abc")) (fCall 2 (f_law_roll) (aCons (fVar 1) (aCons (fC (.int 3)) aNil)))) (aCons (f2 ixW (fC (.str "abc")) (fCall 2 (f_law_roll) (aCons (fVar 1) (aCons (fC (.int 3)) aNil)))) aNil)))) (rSeq (sTry sub_FixtureFault (sSeq (sSet 5 (fCall 1 (f_read) (aCons (fVar 2) aNil))) (sSeq (sE (fMeth "Season" "put" 6 f_Season_put (fVar 5) (aCons (fVar 7) (aCons (fVar 10) (aCons (fVar 11) (aCons (fVar 8) (aCons (fVar 9) aNil))))))) (sSet 12 (fCall 1 (f_told) (aCons (fVar 5) aNil))))) (nxS (sSet 12 (fVar 2)))) (rLam 2 (fVar 12))))))
def ix_law_deed : List (List Nat) := (kept.map fun D => D.free.map fun y => N_law_deed.idxOf y)
theorem lix_law_deed : ∀ (k : Nat) D ix, kept[k]? = some D → ix_law_deed[k]? = some ix → LamIx N_law_deed (defScope s_law_deed) D ix := lamIxs_by (by decide +kernel)
abbrev f_law_deed : List W → M W := runR 13 ix_law_deed F_law_deed
theorem ok_law_deed (T : Txt P K mg base) : CalX air P w K mg base 15 "_law_deed" (spF K (tbs K) 3 f_law_deed) := by
  have nd := sc_law_deed.nd
  refine calRv (p := ("_law_deed", none)) T.g_law_deed T.f_law_deed sc_law_deed b_law_deed rfl rfl (k := 14) (N := N_law_deed) (fb := F_law_deed) (T := tbs K) lix_law_deed fun A outer s H E hr => ?_
  exact (rv_if (tv_cmp (v_eq hr) (ev_call (ok_law_roll T) hr (by decide) air.cx (av_cons (ev_v 1) (av_cons ev_int av_nil))) ev_int) (rv_cons (sv_asg (ev_tup (av_cons (ev_ix hr (ev_lst (av_cons (ev_lst (av_cons ev_str (av_cons ev_str av_nil))) (av_cons (ev_lst (av_cons ev_str (av_cons ev_str (av_cons ev_str av_nil)))) (av_cons (ev_lst (av_cons ev_str av_nil)) av_nil)))) (ev_call (ok_law_roll T) hr (by decide) air.cx (av_cons (ev_v 1) (av_cons ev_int av_nil)))) (av_cons (ev_cmp (v_eq hr) (ev_call (ok_law_roll T) hr (by decide) air.cx (av_cons (ev_v 1) (av_cons ev_int av_nil))) ev_int) av_nil))) (gv_tp (is := [3, 4]) (pg_tup rfl (pgs_cons (pg_n 3 nd) (pgs_cons (pg_n 4 nd) pgs_nil))))) (rv_if (tv_cmp v_lt (ev_callB v_len T.n_len (by decide +kernel) (av_cons (ev_v 3) av_nil)) ev_int) (rv_lam (k := 0) (free := ["teams", "double", "desk"]) (by kernel_rfl) (T.lx tf_law_deed) rfl (LamX.lamS_by (sc := defScope s_law_deed) (by decide +kernel)) (hlt_law_deed K) (hng_law_deed T) (hlu_law_deed T) (ev_v 2)) rv_nil (rv_cons (sv_s 5 nd (ev_make (ok_Season_d_initd_ T) hr (by decide) air.cx (av_cons (ev_v 3) (av_cons (ev_tup (av_cons ev_int (av_cons ev_int (av_cons ev_int av_nil)))) (av_cons (ev_tup (av_cons ev_str (av_cons ev_str (av_cons ev_str (av_cons ev_str av_nil))))) av_nil))))) (rv_cons (sv_s 6 nd (ev_if (tv_val (ev_v 4)) (ev_call (ok_twice T) hr (by decide) air.cx (av_cons (ev_call (ok_circle T) hr (by decide) air.cx (av_cons (ev_v 3) av_nil)) av_nil)) (ev_call (ok_circle T) hr (by decide) air.cx (av_cons (ev_v 3) av_nil)))) (rv_cons (sv_expr (ev_meth (ok_Season_lay T) hr (by decide) air.cx (ev_v 5) (av_cons (ev_v 6) av_nil))) (rv_lam (k := 1) (free := ["teams", "double", "desk"]) (by kernel_rfl) (T.lx tf_law_deed) rfl (LamX.lamS_by (sc := defScope s_law_deed) (by decide +kernel)) (hlt_law_deed K) (hng_law_deed T) (hlu_law_deed T) (ev_call (ok_told T) hr (by decide) air.cx (av_cons (ev_v 5) av_nil)))))))) rv_nil (rv_cons (sv_asg (ev_tup (av_cons (ev_call (ok_law_roll T) hr (by decide) air.cx (av_cons (ev_v 1) (av_cons ev_int av_nil))) (av_cons (ev_call (ok_law_roll T) hr (by decide) air.cx (av_cons (ev_v 1) (av_cons ev_int av_nil))) (av_cons (ev_call (ok_law_roll T) hr (by decide) air.cx (av_cons (ev_v 1) (av_cons ev_int av_nil))) av_nil)))) (gv_tp (is := [7, 8, 9]) (pg_tup rfl (pgs_cons (pg_n 7 nd) (pgs_cons (pg_n 8 nd) (pgs_cons (pg_n 9 nd) pgs_nil)))))) (rv_cons (sv_asg (ev_tup (av_cons (ev_ix hr ev_str (ev_call (ok_law_roll T) hr (by decide) air.cx (av_cons (ev_v 1) (av_cons ev_int av_nil)))) (av_cons (ev_ix hr ev_str (ev_call (ok_law_roll T) hr (by decide) air.cx (av_cons (ev_v 1) (av_cons ev_int av_nil)))) av_nil))) (gv_tp (is := [10, 11]) (pg_tup rfl (pgs_cons (pg_n 10 nd) (pgs_cons (pg_n 11 nd) pgs_nil))))) (rv_cons (sv_try sub_FixtureFault ⟨rfl, by decide, .inl T.g_FixtureFault⟩ air.cx (hx_FixtureFault T) (fun W pn xe tk ow => (sv_cons (sv_s 5 nd (ev_call (ok_read T) hr (by decide) (takesL tk) (av_cons (ev_v 2) av_nil))) (sv_cons (sv_expr (ev_meth (ok_Season_put T) hr (by decide) (takesL tk) (ev_v 5) (av_cons (ev_v 7) (av_cons (ev_v 10) (av_cons (ev_v 11) (av_cons (ev_v 8) (av_cons (ev_v 9) av_nil))))))) (sv_one (sv_s 12 nd (ev_call (ok_told T) hr (by decide) (takesL tk) (av_cons (ev_v 5) av_nil))))))) (fun a oe pn => (sv_one (sv_s 12 nd (ev_v 2))))) (rv_lam (k := 2) (free := ["other", "one", "k", "home", "desk", "away"]) (by kernel_rfl) (T.lx tf_law_deed) rfl (LamX.lamS_by (sc := defScope s_law_deed) (by decide +kernel)) (hlt_law_deed K) (hng_law_deed T) (hlu_law_deed T) (ev_v 12))))))
end
end K27
set_option Elab.async false
set_option linter.all false
set_option maxRecDepth 100000
set_option maxHeartbeats 400000
namespace K27
open PySem PySem.Spec PyProof.Rows L2 Fh Fv
section
variable {ar : Air} {P : Program} {w : World} {K : PySem.W.Frag} {mg : Str → Option Value} {base : Heap}
theorem told_law_told (T : Txt P K mg base) : ToldF P w K mg base "_law_told" sub_BadDeed "due" :=
  ⟨s_law_told, ("_law_told", none), .ref (He.ga K "BadDeed"), T.g_law_told, T.f_law_told, sc_law_told, b_law_told, Or.inl rfl, hx_BadDeed T,
    fun cd A outer s H E act hact => pss_one (ps_try_only (tb := fun W => tRet (act W)) (ts := fun _ _ _ => tRet (tC (.str "due"))) rfl rfl ⟨rfl, by decide, .inl T.g_BadDeed⟩ (L2.takes_of rfl rfl rfl rfl) (fun W pn xe tk _ => pss_one (ps_ret (hact pn xe W _ _ tk))) (fun a oe cls d pn _ _ => pss_one (ps_ret pe_str)))⟩
/-- what the kept lambdas do -/
def fe_kept : Nat → Sl → M W
  | 0 => fMeth "Desk" "begin" 3 f_Desk_begin (fVar 2) (aCons (fVar 0) (aCons (fVar 1) aNil))
  | 1 => fMeth "Desk" "begin" 3 f_Desk_begin (fVar 2) (aCons (fVar 0) (aCons (fVar 1) aNil))
  | _ => fMeth "Desk" "put" 6 f_Desk_put (fVar 4) (aCons (fVar 2) (aCons (fVar 3) (aCons (fVar 5) (aCons (fVar 1) (aCons (fVar 0) aNil)))))
theorem lams_ok (T : Txt P K mg base) {kk : Nat} (hk : 12 ≤ kk) : LamsOk P w K mg base (tbs K) kk fe_kept := by
  intro k D e
  have e : kept[k]? = some D := e
  match k, e with
  | 0, e =>
    obtain rfl := Option.some.inj e
    exact ⟨lamDS_by (by decide +kernel), fun cl pm cv ctv => rfl, fun cl A outer s H E f c' hr => ev_meth (ok_Desk_begin T) hr (by omega) (L2.takes_of rfl rfl rfl rfl) (ev_v 2) (av_cons (ev_v 0) (av_cons (ev_v 1) av_nil))⟩
  | 1, e =>
    obtain rfl := Option.some.inj e
    exact ⟨lamDS_by (by decide +kernel), fun cl pm cv ctv => rfl, fun cl A outer s H E f c' hr => ev_meth (ok_Desk_begin T) hr (by omega) (L2.takes_of rfl rfl rfl rfl) (ev_v 2) (av_cons (ev_v 0) (av_cons (ev_v 1) av_nil))⟩
  | 2, e =>
    obtain rfl := Option.some.inj e
    exact ⟨lamDS_by (by decide +kernel), fun cl pm cv ctv => rfl, fun cl A outer s H E f c' hr => ev_meth (ok_Desk_put T) hr (by omega) (L2.takes_of rfl rfl rfl rfl) (ev_v 4) (av_cons (ev_v 2) (av_cons (ev_v 3) (av_cons (ev_v 5) (av_cons (ev_v 1) (av_cons (ev_v 0) av_nil)))))⟩
  | k + 3, e => exact absurd e (by simp [show kept[k + 3]? = none from rfl])
end
end K27
set_option Elab.async false
set_option linter.all false
set_option maxRecDepth 100000
set_option maxHeartbeats 4000000
namespace K27
open PySem PySem.Spec PyProof.Rows L2 Fh Fv
section
variable {ar : Air} {P : Program} {w : World} {K : PySem.W.Frag} {mg : Str → Option Value} {base : Heap}
def F_law : FS := (sSeq (sFor (iSq (fCall 2 (f_law_rounds) (aCons (fVar 0) (aCons (fC (.int 1)) aNil)))) (.nm 1) (sSeq (sAsg (.tp [2, 3, 4]) (fTup (aCons (fMake "Desk" 1 f_Desk_d_initd_ aNil) (aCons (fLst (aCons (fC (.str "")) aNil)) (aCons (fC (.int 0)) aNil))))) (sSeq (sFor (iRg rng1 (aCons (fCall 2 (f_law_roll) (aCons (fVar 1) (aCons (fC (.int 10)) aNil))) aNil)) (.nm 5) (sSeq (sSet 6 (f2 ixW (fVar 3) (fVar 4))) (sSeq (sIf (tV (f2 (eqW false) (fCall 2 (f_law_roll) (aCons (fVar 1) (aCons (fC (.int 5)) aNil))) (fC (.int 0)))) (sSeq (sSet 7 (f2 ixW (fLst (aCons (f2 subW (fC (.int 0)) (fC (.int 1))) (aCons (fC (.int 1)) aNil))) (fCall 2 (f_law_roll) (aCons (fVar 1) (aCons (fC (.int 2)) aNil))))) (sSeq (sSet 8 (fChain leW ltW (fC (.int 0)) (f2 addW (fVar 4) (fVar 7)) (fB lenW (aCons (fVar 3) aNil)))) (sSeq (sIf (tV (f2 ltW (fVar 7) (fC (.int 0)))) (sSet 9 (fTold sub_BadDeed "due" (fMeth "Desk" "undo" 1 f_Desk_undo (fVar 2) aNil))) (sSet 9 (fTold sub_BadDeed "due" (fMeth "Desk" "redo" 1 f_Desk_redo (fVar 2) aNil)))) (sSet 4 (f2 addW (fVar 4) (f2 mulW (fVar 7) (fB intW (aCons (fVar 8) aNil)))))))) (sSeq (sAsg (.tp [10, 11]) (fCall 3 (f_law_deed) (aCons (fVar 2) (aCons (fVar 1) (aCons (fVar 6) aNil))))) (sSeq (sSet 9 (fToldC sub_BadDeed "due" fe_kept (fVar 10))) (sSeq (sSet 8 (f2 (eqW true) (fVar 11) (fVar 6))) (sIf (tV (fVar 8)) (sPar 3 4 (aCons (f2 addW (fSl (fVar 3) oNone (oSome (f2 addW (fVar 4) (fC (.int 1))))) (fLst (aCons (fVar 11) aNil))) (aCons (f2 addW (fVar 4) (fC (.int 1))) aNil))) sNx))))) (sIf (bOr (tV (f2 (eqW true) (fVar 9) (fIf (tV (fVar 8)) (fC .non) (fC (.str "due"))))) (tV (f2 (eqW true) (fFld ["Desk"] "shown" (fVar 2)) (f2 ixW (fVar 3) (fVar 4))))) (sRt (fC (.bl false))) sNx)))) (sIf (tV (f2 (eqW true) (fTold sub_BadDeed "due" (fMeth "Desk" "table" 1 f_Desk_table (fVar 2) aNil)) (fCall 1 (f_law_table) (aCons (f2 ixW (fVar 3) (fVar 4)) aNil)))) (sRt (fC (.bl false))) sNx)))) (sRt (fC (.bl true))))
abbrev f_law : List W → M W := runF 12 F_law
theorem bd_law (T : Txt P K mg base) : BodyV air P w K mg base N_law "law" s_law ("law", none) 44 (tbs K) F_law := by
  have nd := sc_law.nd
  intro A outer s H E hr
  exact (sv_cons (sv_for owB (iv_sq (ev_call (ok_law_rounds T) hr (by decide) air.cx (av_cons (ev_v 0) (av_cons ev_int av_nil)))) (gv_n 1 nd) (sv_cons (sv_asg (ev_tup (av_cons (ev_make0 (ok_Desk_d_initd_ T) hr (by decide) air.cx) (av_cons (ev_lst (av_cons ev_str av_nil)) (av_cons ev_int av_nil)))) (gv_tp (is := [2, 3, 4]) (pg_tup rfl (pgs_cons (pg_n 2 nd) (pgs_cons (pg_n 3 nd) (pgs_cons (pg_n 4 nd) pgs_nil)))))) (sv_cons (sv_for owB (iv_range1 T.n_range (av_cons (ev_call (ok_law_roll T) hr (by decide) air.cx (av_cons (ev_v 1) (av_cons ev_int av_nil))) av_nil)) (gv_n 5 nd) (sv_cons (sv_s 6 nd (ev_ix hr (ev_v 3) (ev_v 4))) (sv_cons (sv_if (tv_cmp (v_eq hr) (ev_call (ok_law_roll T) hr (by decide) air.cx (av_cons (ev_v 1) (av_cons ev_int av_nil))) ev_int) (sv_cons (sv_s 7 nd (ev_ix hr (ev_lst (av_cons (ev_op v_sub ev_int ev_int) (av_cons ev_int av_nil))) (ev_call (ok_law_roll T) hr (by decide) air.cx (av_cons (ev_v 1) (av_cons ev_int av_nil))))) (sv_cons (sv_s 8 nd (ev_chain v_le v_lt ev_int (ev_op v_add (ev_v 4) (ev_v 7)) (ev_callB v_len T.n_len (by decide +kernel) (av_cons (ev_v 3) av_nil)))) (sv_cons (sv_if (tv_cmp v_lt (ev_v 7) ev_int) (sv_one (sv_s 9 nd (ev_told (told_law_told T) hr air.cx (T.lx tf_law) rfl (LamX.lamS_by (sc := defScope s_law) (by decide +kernel)) (fun _ _ _ => rfl) (hlt_law K) (hng_law T) (hlu_law T) (fun _ _ _ _ _ _ _ r => (ev_meth0 (ok_Desk_undo T) r (by decide) (show Air.T air _ _ from L2.takes_of rfl rfl rfl rfl) (ev_v 2)))))) (sv_one (sv_s 9 nd (ev_told (told_law_told T) hr air.cx (T.lx tf_law) rfl (LamX.lamS_by (sc := defScope s_law) (by decide +kernel)) (fun _ _ _ => rfl) (hlt_law K) (hng_law T) (hlu_law T) (fun _ _ _ _ _ _ _ r => (ev_meth0 (ok_Desk_redo T) r (by decide) (show Air.T air _ _ from L2.takes_of rfl rfl rfl rfl) (ev_v 2))))))) (sv_one (sv_s 4 nd (ev_op v_add (ev_v 4) (ev_op v_mul (ev_v 7) (ev_callTy v_int T.n_int (by decide +kernel) (av_cons (ev_v 8) av_nil))))))))) (sv_cons (sv_asg (ev_call (ok_law_deed T) hr (by decide) air.cx (av_cons (ev_v 2) (av_cons (ev_v 1) (av_cons (ev_v 6) av_nil)))) (gv_tp (is := [10, 11]) (pg_tup rfl (pgs_cons (pg_n 10 nd) (pgs_cons (pg_n 11 nd) pgs_nil))))) (sv_cons (sv_s 9 nd (ev_toldC (told_law_told T) (lams_ok T (by decide)) hr air.cx (ev_v 10))) (sv_cons (sv_s 8 nd (ev_cmp (v_ne hr) (ev_v 11) (ev_v 6))) (sv_one (sv_if (tv_val (ev_v 8)) (sv_one (sv_par (i := 3) (j := 4) (by rfl) nd rfl rfl (by decide) rfl rfl (av_cons (ev_op v_add (ev_slice (ev_v 3) ov_none (ov_some (ev_op v_add (ev_v 4) ev_int))) (ev_lst (av_cons (ev_v 11) av_nil))) (av_cons (ev_op v_add (ev_v 4) ev_int) av_nil)) (by rfl))) sv_nil)))))) (sv_one (sv_if (PWv.pt (wv_or (tv_cmp (v_ne hr) (ev_v 9) (ev_if (tv_val (ev_v 8)) ev_non ev_str)) (wv_or1 (tv_cmp (v_ne hr) (ev_fld (fld_cons T.c_Desk T.a_Desk_shown fld_nil) (ev_v 2)) (ev_ix hr (ev_v 3) (ev_v 4)))))) (sv_one (sv_ret ev_bl)) sv_nil))))) (sv_one (sv_if (tv_cmp (v_ne hr) (ev_told (told_law_told T) hr air.cx (T.lx tf_law) rfl (LamX.lamS_by (sc := defScope s_law) (by decide +kernel)) (fun _ _ _ => rfl) (hlt_law K) (hng_law T) (hlu_law T) (fun _ _ _ _ _ _ _ r => (ev_meth0 (ok_Desk_table T) r (by decide) (show Air.T air _ _ from L2.takes_of rfl rfl rfl rfl) (ev_v 2)))) (ev_call (ok_law_table T) hr (by decide) air.cx (av_cons (ev_ix hr (ev_v 3) (ev_v 4)) av_nil))) (sv_one (sv_ret ev_bl)) sv_nil))))) (sv_one (sv_ret ev_bl)))
end
end K27
set_option Elab.async false
set_option linter.all false
set_option maxRecDepth 100000
set_option maxHeartbeats 4000000
namespace K27
open PySem PySem.Spec PyProof.Rows L2 Fh Fv
section
variable {K : PySem.W.Frag} {mg : Str → Option Value} {base h : Heap}
theorem supT_of (KX : K.In base) (G : base.Ns mainGlobals mg) (nS : mg "super" = none) (e : fnC K ("BadText", some "__init__") = DefC.val ⟨("BadText", some "__init__"), "BadText.__init__", defArgs s_BadText_d_initd_, defBody s_BadText_d_initd_, defScope s_BadText_d_initd_⟩) (h : supB K file "BadText" "row" = true) :
    ∃ fI, SupTxt R.prog K mg "BadText" "row" (He.ga K "BadText") fI := by
  obtain ⟨h1, h⟩ := He.ba h
  obtain ⟨h2, h⟩ := He.ba h
  obtain ⟨h3, h⟩ := He.ba h
  obtain ⟨h4, h⟩ := He.ba h
  obtain ⟨h5, h⟩ := He.ba h
  obtain ⟨h6, h⟩ := He.ba h
  obtain ⟨h7, h⟩ := He.ba h
  obtain ⟨h8, h⟩ := He.ba h
  obtain ⟨h9, h⟩ := He.ba h
  obtain ⟨h10, h⟩ := He.ba h
  obtain ⟨h11, h⟩ := He.ba h
  obtain ⟨h12, h13⟩ := He.ba h
  obtain ⟨oc, od, kV, doc, pm, an, cda, cc, ct, osl, ccl, cl, cdd, cld, vs, ccs, csl, fl, tk, lk, hcd, hcode, hvs, hfile, hcell⟩ := codeB_ok (d := ⟨("BadText", some "__init__"), "BadText.__init__", defArgs s_BadText_d_initd_, defBody s_BadText_d_initd_, defScope s_BadText_d_initd_⟩) e h13
  refine ⟨_, ⟨PySem.W.mg_of KX G (He.eqO_ok h2), supCls_ok h1, He.eqO_ok h3, He.eqO_ok h4, He.eqO_ok h5, of_decide_eq_true h6, h7, of_decide_eq_true h8, of_decide_eq_true h9, of_decide_eq_true h10, of_decide_eq_true h11, He.eqO_ok h12, nS,
    ⟨oc, od, .none, kV, doc, pm, an, cda, cc, ct, osl, "BadText.__init__", "bad text", _, _, _, _, _, _, _, _, _, _, _, _, ccl, cl, cdd, cld, vs, ccs, csl, fl, tk, lk, hcd, hcode, hvs, hfile, hcell, fun a b => rfl, ⟨_, fun env => rfl⟩, fun env => rfl, fun env => rfl⟩, by decide +kernel, by decide, by decide, by decide, by decide⟩⟩
theorem txt_of (KX : K.In base) (G : base.Ns mainGlobals mg) (c : SaysF fa fn cf tf ex h K) (tb : ∀ p ∈ tf.map (He.cT K), LamX.TabB base mg p.1 p.2) : Txt R.prog K mg base := by
  obtain ⟨_, m⟩ := He.ba c.more
  obtain ⟨h1, m⟩ := He.ba m
  obtain ⟨h2, h3⟩ := He.ba m
  have nS : mg "super" = none := He.free_ok KX G (c.d.fact 41)
  exact ⟨KX, G, c.d, c.hd, fun p hp => (tb _ (List.mem_map.mpr ⟨p, hp, rfl⟩)).bm, fun p hp => (tb _ (List.mem_map.mpr ⟨p, hp, rfl⟩)).gP, farB_ok h1, tupB_ok h2, supT_of KX G nS (c.c _ (List.mem_of_getElem? (i := 0) rfl)) h3⟩
theorem relInts {K : PySem.W.Frag} {m : List Addr} {H : Hp} : ∀ {ns : List Int}, RelWs K m H (ns.map W.int) (ns.map V.int)
  | [] => .nil
  | _ :: _ => .cons (.int _) relInts
theorem lawAt (plain : ∀ ns : List Int, ns.length ≤ 63 → (∀ z ∈ ns, Builtin.Int.intBits z ≤ 1048576) → (∃ h, f_law [.ref 0] [.lst (ns.map W.int)] = .ok (.bl true) h) ∧ ∃ h, f_law [.ref 0] [.rd (ns.map W.int)] = .ok (.bl true) h) (w : World) (mg : Str → Option Value) (fa : Addr) (h : Heap) (Y : hk.says w h) (G : h.Ns mainGlobals mg) (hm : mg "law" = some (.ref fa)) :
    ∃ K : PySem.W.Frag, K.In h ∧ LamX.LawAtS PySem.Challenge.rw_fixturehall_k27_a_desk_and_its_deeds w K (L2.CX PySem.Challenge.pw_fixturehall_k27_a_desk_and_its_deeds w) 45 63 "script" mg fa h := by
  obtain ⟨K, KX, c⟩ := Y
  have eg : mg "law" = some (.ref (He.ga K "law")) := He.glo_ok KX G (c.d.fact 19)
  have ef : fa = He.fAd K ("law", none) := by
    rw [eg] at hm
    injection hm with z
    injection z with z
    exact z.symm
  subst ef
  obtain ⟨fd, F⟩ : ∃ fd, FunD K "law" "law" (defArgs s_law) (defBody s_law) (defScope s_law) [] [] (He.fAd K ("law", none)) fd := c.d.def_ 19
  have G2 := He5.fun_of F
  obtain ⟨oc, od, kV, doc, pm, an, cdv, ct, osl, rfl, lk, hcd⟩ := G2.ex
  refine ⟨K, KX, PySem.W.fnOf "law" "law" (defArgs s_law) (defBody s_law) (defScope s_law) .none kV doc pm an cdv ct, tf.map (He.cT K), spF K (tbs K) 1 f_law, fun p hp => ?_, fun p hp => ?_, fun p hp => ?_, fun s u => ?_, fun H a ns hl hb hT hS => ?_, fun base KB GB tb => ?_⟩
  · obtain ⟨q, hq, rfl⟩ := List.mem_map.mp hp
    exact c.empty q hq
  · obtain ⟨q, hq, rfl⟩ := List.mem_map.mp hp
    exact c.out q hq
  · obtain ⟨q, hq, rfl⟩ := List.mem_map.mp hp
    exact PySem.W.codeHd_of_K KX (c.hd q hq)
  · exact BindsTo.of_eq (b_law kV doc pm an cdv ct [u] rfl)
  · have t0 : ∀ p ∈ tf, H (He.cT K p).2 = some (.tbl #[]) := fun p hp => hT _ (List.mem_map.mpr ⟨p, hp, rfl⟩)
    have tg0 : ∀ Q ∈ (tbs K).tg, GxR.TabG H Q := fun Q hQ => by
      have hQ : Q ∈ [(He.cT K ("is_word", none)).2, (He.cT K ("is_count", none)).2, (He.cT K ("read", none)).2, (He.cT K ("read_game", none)).2, (He.cT K ("Table", some "__init__")).2] := hQ
      obtain ⟨q, hq, rfl⟩ : ∃ q ∈ tf, Q = (He.cT K q).2 := by
        simp only [List.mem_cons, List.not_mem_nil, or_false] at hQ
        rcases hQ with rfl | rfl | rfl | rfl | rfl
        all_goals exact ⟨_, by decide, rfl⟩
      exact ⟨_, t0 q hq, trivial⟩
    have tl0 : ∀ p ∈ (tbs K).tl, LamX.TabS H p.1 p.2 := fun p hp => by
      have hp : p ∈ [((He.cT K ("_law_deed", none)).2, (("_law_deed.<locals>." : Str) ++ "<lambda>")), ((He.cT K ("law", none)).2, (("law.<locals>." : Str) ++ "<lambda>"))] := hp
      simp only [List.mem_cons, List.not_mem_nil, or_false] at hp
      rcases hp with rfl | rfl
      · exact LamX.TabS.nil (t0 _ tf_law_deed)
      · exact LamX.TabS.nil (t0 _ tf_law)
    obtain ⟨⟨h1, e1⟩, ⟨h2, e2⟩⟩ := plain ns hl hb
    rcases sqL_rd (He.ba c.more).1 hS with ha | ⟨o, ha⟩
    · refine ⟨[a], [.lst (ns.map W.int)], [.ref 0], ⟨rfl, by simp, fun i b o e1 e2 => ?_, tg0, tl0⟩, .cons (.ref rfl) .nil, rfl, ?_⟩
      · match i, e1, e2 with
        | 0, e1, e2 =>
          cases e1
          cases e2
          exact ⟨_, ha, relInts⟩
      · rw [e1]
        intro m' H' v _ _ rv
        cases rv
        rfl
    · refine ⟨[a], [.rd (ns.map W.int)], [.ref 0], ⟨rfl, by simp, fun i b o e1 e2 => ?_, tg0, tl0⟩, .cons (.ref rfl) .nil, rfl, ?_⟩
      · match i, e1, e2 with
        | 0, e1, e2 =>
          cases e1
          cases e2
          exact ⟨_, _, ha, relInts⟩
      · rw [e2]
        intro m' H' v _ _ rv
        cases rv
        rfl
  · obtain ⟨cd, rfl⟩ := He.codeIn_ref hcd
    have ec : He.codeOf K ("law", none) = cd := He.codeOf_eq lk rfl
    subst ec
    exact fn_of lk hcd sc_law (fun vs H Q E z => by obtain ⟨_, _, _, _, rs, l1, _⟩ := z; rw [← rs.length, l1]; rfl) (bodyV (bd_law (txt_of KB GB c tb)))
end
end K27
set_option Elab.async false
set_option linter.all false
set_option maxRecDepth 100000
set_option maxHeartbeats 400000
/-! Px: what the plain functions answer: rules told as equations that simp follows -/
namespace Fv
open PySem PySem.Spec PyProof.Rows L2 Fh
abbrev EQ := Str → Option (Str × W) → LH → Prop
def Tr {α : Type} (x : R α) (Q : α → LH → Prop) (E : EQ) : Prop := match x with
  | .ok a h => Q a h
  | .ex c p h => E c p h
  | .bad => False
structure De where
  nx : Sl → LH → Prop
  rt : W → LH → Prop
  bk : Sl → LH → Prop
  ct : Sl → LH → Prop
  ex : Str → Option (Str × W) → Sl → LH → Prop
def TrS (r : RS) (D : De) : Prop := match r with
  | .nx sl h => D.nx sl h
  | .rt w h => D.rt w h
  | .bk sl h => D.bk sl h
  | .ct sl h => D.ct sl h
  | .ex c p sl h => D.ex c p sl h
  | .bad => False
def nEx : EQ := fun _ _ _ => False
def toR {α : Type} : Option (α × LH) → R α
  | some (a, h) => .ok a h
  | none => .bad
theorem Tr_congr {α : Type} {x y : R α} {Q : α → LH → Prop} {E : EQ} (e : x = y) : Tr x Q E = Tr y Q E := by rw [e]
theorem TrS_congr {x y : RS} {D : De} (e : x = y) : TrS x D = TrS y D := by rw [e]
section
variable {α β : Type} {Q Q' : α → LH → Prop} {E E' : EQ} {h : LH} {sl : Sl} {D D' : De}
theorem Tr.imp {x : R α} (t : Tr x Q E) (q : ∀ a h, Q a h → Q' a h) (e : ∀ c p h, E c p h → E' c p h) : Tr x Q' E' := by
  cases x with
  | ok a h => exact q _ _ t
  | ex c p h => exact e _ _ _ t
  | bad => exact t
theorem Tr.ok {x : R α} (t : Tr x Q nEx) (q : ∀ a h, Q a h → Q' a h) : Tr x Q' E' := t.imp q fun _ _ _ z => z.elim
theorem TrS.imp {x : RS} (t : TrS x D) (a : ∀ s h, D.nx s h → D'.nx s h) (b : ∀ s h, D.rt s h → D'.rt s h) (c : ∀ s h, D.bk s h → D'.bk s h) (d : ∀ s h, D.ct s h → D'.ct s h) (e : ∀ c p s h, D.ex c p s h → D'.ex c p s h) : TrS x D' := by
  cases x with
  | nx => exact a _ _ t
  | rt => exact b _ _ t
  | bk => exact c _ _ t
  | ct => exact d _ _ t
  | ex => exact e _ _ _ _ t
  | bad => exact t
theorem Tr.eq {x : R α} (t : Tr x Q nEx) : ∃ a h, x = .ok a h ∧ Q a h := by
  cases x with
  | ok a h => exact ⟨a, h, rfl, t⟩
  | ex c p h => exact t.elim
  | bad => exact t.elim
@[simp ↓] theorem Tr_okV {a : α} : Tr (.ok a h) Q E = Q a h := rfl
@[simp ↓] theorem Tr_exV {c p} : Tr (.ex c p h : R α) Q E = E c p h := rfl
@[simp ↓] theorem Tr_badV : Tr (.bad : R α) Q E = False := rfl
@[simp ↓] theorem Tr_bnd {x : M β} {f : β → M α} : Tr (bnd x f h) Q E = Tr (x h) (fun a h' => Tr (f a h') Q E) E := by
  unfold Fv.bnd
  cases x h <;> rfl
@[simp ↓] theorem Tr_ret {a : α} : Tr (ret a h) Q E = Q a h := rfl
@[simp] theorem Tr_opt {a : α} : Tr (opt (some a) h) Q E = Q a h := rfl
@[simp] theorem Tr_opt_ite {c : Prop} [Decidable c] {o : Option α} : Tr (opt (if c then o else none) h) Q E = (c ∧ Tr (opt o h) Q E) := by
  by_cases z : c <;> simp [z, opt, Tr]
@[simp] theorem Tr_opt0 : Tr (opt (none : Option α) h) Q E = False := rfl
@[simp ↓] theorem Tr_opt2 {g : LH → Option (α × LH)} : Tr (opt2 g h) Q E = Tr (toR (g h)) Q E := by
  unfold opt2 toR
  cases g h <;> rfl
@[simp] theorem Tr_toR {a : α} : Tr (toR (some (a, h))) Q E = Q a h := rfl
@[simp] theorem Tr_toR_ite {c : Prop} [Decidable c] {o : Option (α × LH)} : Tr (toR (if c then o else none)) Q E = (c ∧ Tr (toR o) Q E) := by
  by_cases z : c <;> simp [z, toR, Tr]
@[simp] theorem Tr_toR_map {o : Option β} {f : β → α × LH} {b : β} : Tr (toR (Option.map f (some b))) Q E = Tr (toR (some (f b))) Q E := rfl
@[simp] theorem Tr_toR0 : Tr (toR (none : Option (α × LH))) Q E = False := rfl
/-! expressions -/
variable {QW : W → LH → Prop} {QB : Bool → LH → Prop} {QL : List W → LH → Prop} {QN : Option Int → LH → Prop} {QI : Itw → LH → Prop}
@[simp ↓] theorem Tr_var {i : Nat} : Tr (fVar i sl h) QW E = Tr (opt (sl[i]?.getD none) h) QW E := rfl
@[simp ↓] theorem Tr_c {w : W} : Tr (fC w sl h) QW E = QW w h := rfl
@[simp ↓] theorem Tr_nil : Tr (aNil sl h) QL E = QL [] h := rfl
@[simp ↓] theorem Tr_cons {f : Sl → M W} {g : Sl → M (List W)} : Tr (aCons f g sl h) QL E = Tr (f sl h) (fun x h => Tr (g sl h) (fun xs h => QL (x :: xs) h) E) E := by
  unfold aCons; rw [Tr_bnd]; congr; funext a h'; rw [Tr_bnd]; rfl
@[simp ↓] theorem Tr_f2 {g : O2} {fa fb : Sl → M W} : Tr (f2 g fa fb sl h) QW E = Tr (fa sl h) (fun x h => Tr (fb sl h) (fun y h => Tr (toR (g x y h)) QW E) E) E := by
  unfold f2; rw [Tr_bnd]; congr; funext a h'; rw [Tr_bnd]; congr <;> (funext b h''; rw [Tr_opt2])
@[simp ↓] theorem Tr_tV {f : Sl → M W} : Tr (tV f sl h) QB E = Tr (f sl h) (fun x h => Tr (opt (asB x) h) QB E) E := by
  unfold tV; rw [Tr_bnd]
@[simp ↓] theorem Tr_bNot {f : Sl → M Bool} : Tr (bNot f sl h) QB E = Tr (f sl h) (fun b h => QB (!b) h) E := by
  unfold bNot; rw [Tr_bnd]; rfl
@[simp ↓] theorem Tr_bAnd {f g : Sl → M Bool} : Tr (bAnd f g sl h) QB E = Tr (f sl h) (fun b h => (b = true → Tr (g sl h) QB E) ∧ (b = false → QB false h)) E := by
  unfold bAnd; rw [Tr_bnd]; congr; funext b h'; cases b <;> simp [Tr, ret]
@[simp ↓] theorem Tr_bOr {f g : Sl → M Bool} : Tr (bOr f g sl h) QB E = Tr (f sl h) (fun b h => (b = true → QB true h) ∧ (b = false → Tr (g sl h) QB E)) E := by
  unfold bOr; rw [Tr_bnd]; congr; funext b h'; cases b <;> simp [Tr, ret]
@[simp ↓] theorem Tr_bYes : Tr (bYes sl h) QB E = QB true h := rfl
@[simp ↓] theorem Tr_vNot {f : Sl → M W} : Tr (vNot f sl h) QW E = Tr (f sl h) (fun x h => Tr (opt (asB x) h) (fun b h => QW (.bl (!b)) h) E) E := by
  unfold vNot; rw [Tr_bnd]; congr; funext x h'
  cases asB x <;> rfl
@[simp ↓] theorem Tr_vAnd {f g : Sl → M W} : Tr (vAnd f g sl h) QW E = Tr (f sl h) (fun x h => Tr (opt (asB x) h) (fun b h => (b = true → Tr (g sl h) QW E) ∧ (b = false → QW (.bl false) h)) E) E := by
  unfold vAnd; rw [Tr_bnd]; congr; funext x h'
  rw [Tr_bnd]
  congr; funext b h'; cases b <;> simp [Tr, ret]
@[simp ↓] theorem Tr_vOr {f g : Sl → M W} : Tr (vOr f g sl h) QW E = Tr (f sl h) (fun x h => Tr (opt (asB x) h) (fun b h => (b = true → QW (.bl true) h) ∧ (b = false → Tr (g sl h) QW E)) E) E := by
  unfold vOr; rw [Tr_bnd]; congr; funext x h'
  rw [Tr_bnd]
  congr; funext b h'; cases b <;> simp [Tr, ret]
@[simp ↓] theorem Tr_fIf {c : Sl → M Bool} {f g : Sl → M W} : Tr (fIf c f g sl h) QW E = Tr (c sl h) (fun b h => (b = true → Tr (f sl h) QW E) ∧ (b = false → Tr (g sl h) QW E)) E := by
  unfold fIf; rw [Tr_bnd]; congr; funext b h'; cases b <;> simp
@[simp ↓] theorem Tr_fTup {f : Sl → M (List W)} : Tr (fTup f sl h) QW E = Tr (f sl h) (fun xs h => xs.length ≤ LIM ∧ QW (.tup xs) h) E := by
  unfold fTup; rw [Tr_bnd]; congr; funext xs h'
  rw [Tr_opt2]
  by_cases z : xs.length ≤ LIM <;> simp [z]
@[simp ↓] theorem Tr_fLst {f : Sl → M (List W)} : Tr (fLst f sl h) QW E = Tr (f sl h) (fun xs h => xs.length ≤ LIM ∧ QW (.ref h.length) (h ++ [.lst xs])) E := by
  unfold fLst; rw [Tr_bnd]; congr; funext xs h'
  rw [Tr_opt2]
  by_cases z : xs.length ≤ LIM <;> simp [z]
@[simp ↓] theorem Tr_fChain {g g' : O2} {fa fb fc : Sl → M W} : Tr (fChain g g' fa fb fc sl h) QW E = Tr (fa sl h) (fun x h => Tr (fb sl h) (fun y h => Tr (toR (g x y h)) (fun z h => Tr (opt (asB z) h) (fun k h => (k = true → Tr (fc sl h) (fun u h => Tr (toR (g' y u h)) QW E) E) ∧ (k = false → QW (.bl false) h)) E) E) E) E := by
  unfold fChain; rw [Tr_bnd]; congr; funext x h'
  rw [Tr_bnd]; congr; funext x h'
  rw [Tr_bnd, Tr_opt2]; congr; funext x h'
  rw [Tr_bnd]; congr; funext k h'
  cases k
  · simp [Tr, ret]
  · simp only [if_pos, Tr_bnd, Tr_opt2, forall_const, reduceCtorEq, false_implies, and_true, true_implies]
@[simp ↓] theorem Tr_fIsN {n : Bool} {f : Sl → M W} : Tr (fIsN n f sl h) QW E = Tr (f sl h) (fun x h => QW (isN n x) h) E := by
  unfold fIsN; rw [Tr_bnd]; rfl
@[simp ↓] theorem Tr_oNone : Tr (oNone sl h) QN E = QN none h := rfl
@[simp ↓] theorem Tr_oSome {f : Sl → M W} : Tr (oSome f sl h) QN E = Tr (f sl h) (fun x h => Tr (opt (asI x) h) QN E) E := by
  unfold oSome; rw [Tr_bnd]
@[simp ↓] theorem Tr_fSl {fa : Sl → M W} {fl fh : Sl → M (Option Int)} : Tr (fSl fa fl fh sl h) QW E = Tr (fa sl h) (fun x h => Tr (fl sl h) (fun lo h => Tr (fh sl h) (fun hi h => Tr (toR (slW x lo hi h)) QW E) E) E) E := by
  unfold fSl; rw [Tr_bnd]; congr; funext x h'
  rw [Tr_bnd]; congr; funext x h'
  rw [Tr_bnd]; congr <;> (funext x h'; rw [Tr_opt2])
@[simp ↓] theorem Tr_fB {g : OL} {fa : Sl → M (List W)} : Tr (fB g fa sl h) QW E = Tr (fa sl h) (fun ws h => Tr (toR (g ws h)) QW E) E := by
  unfold fB; rw [Tr_bnd]; congr <;> (funext x h'; rw [Tr_opt2])
@[simp ↓] theorem Tr_fNeg {fa : Sl → M W} : Tr (fNeg fa sl h) QW E = Tr (fa sl h) (fun x h => Tr (opt (negW x) h) QW E) E := by
  unfold fNeg; rw [Tr_bnd]
@[simp ↓] theorem Tr_fM {t : Ty} {g : OM} {fo : Sl → M W} {fa : Sl → M (List W)} : Tr (fM t g fo fa sl h) QW E = Tr (fo sl h) (fun o h => tyW t o h = true ∧ Tr (fa sl h) (fun ws h => Tr (toR (g o ws h)) QW E) E) E := by
  unfold fM; rw [Tr_bnd]; congr; funext o h'
  rw [Tr_bnd]
  unfold chk
  rw [Tr_opt2]
  by_cases z : tyW t o h' = true
  · simp only [z, if_true, Tr_toR, true_and, Tr_bnd, Tr_opt2]
  · simp [z]
@[simp ↓] theorem Tr_fCall {n : Nat} {F : List W → M W} {fa : Sl → M (List W)} : Tr (fCall n F fa sl h) QW E = Tr (fa sl h) (fun ws h => ws.length = n ∧ Tr (F ws h) QW E) E := by
  unfold fCall; rw [Tr_bnd]; congr; funext ws h'
  by_cases z : ws.length = n <;> simp [z]
@[simp ↓] theorem Tr_fMeth {c m : Str} {n : Nat} {F : List W → M W} {fo : Sl → M W} {fa : Sl → M (List W)} : Tr (fMeth c m n F fo fa sl h) QW E = Tr (fo sl h) (fun o h => isI c o h m = true ∧ Tr (fa sl h) (fun ws h => ws.length + 1 = n ∧ Tr (F (o :: ws) h) QW E) E) E := by
  unfold fMeth; rw [Tr_bnd]; congr; funext o h'
  rw [Tr_bnd]
  unfold chkI
  rw [Tr_opt2]
  by_cases z : isI c o h' m = true
  · simp only [z, if_true, Tr_toR, true_and, Tr_bnd]
    congr; funext ws h'
    by_cases z : ws.length + 1 = n <;> simp [z]
  · simp [z]
theorem Tr_made {F : M W} {r : W} : Tr (match F h with
  | .ok .non h' => .ok r h'
  | .ok _ _ => .bad
  | .ex c p h' => .ex c p h'
  | .bad => .bad) QW E = Tr (F h) (fun w h => w = .non ∧ QW r h) E := by
  cases e : F h with
  | ok a h' => cases a <;> simp
  | ex c p h' => rfl
  | bad => rfl
@[simp ↓] theorem Tr_fMake {c : Str} {n : Nat} {F : List W → M W} {fa : Sl → M (List W)} : Tr (fMake c n F fa sl h) QW E = Tr (fa sl h) (fun ws h => ws.length + 1 = n ∧ Tr (F (.ref h.length :: ws) (h ++ [.ins c []])) (fun w h' => w = .non ∧ QW (.ref h.length) h') E) E := by
  unfold fMake; rw [Tr_bnd]; congr; funext ws h'
  by_cases z : ws.length + 1 = n
  · simp only [z, if_true, true_and]
    exact Tr_made
  · simp [z]
@[simp ↓] theorem Tr_fFld {cs : List Str} {f : Str} {fo : Sl → M W} : Tr (fFld cs f fo sl h) QW E = Tr (fo sl h) (fun o h => Tr (toR (fldW cs f o h)) QW E) E := by
  unfold fFld; rw [Tr_bnd]; congr <;> (funext x h'; rw [Tr_opt2])
@[simp ↓] theorem Tr_iSq {f : Sl → M W} : Tr (iSq f sl h) QI E = Tr (f sl h) (fun w h => Tr (match w with
  | .str x => opt (itStr (.str x)) h
  | w => toR (itSeq w h)) QI E) E := by
  unfold iSq; rw [Tr_bnd]; congr; funext w h'
  cases w <;> first | rfl | rw [Tr_opt2]
@[simp ↓] theorem Tr_iRg {g : List W → Option Itw} {fa : Sl → M (List W)} : Tr (iRg g fa sl h) QI E = Tr (fa sl h) (fun ws h => Tr (opt (g ws) h) QI E) E := by
  unfold iRg; rw [Tr_bnd]
@[simp ↓] theorem Tr_iEn {fa : Sl → M (List W)} : Tr (iEn fa sl h) QI E = Tr (fa sl h) (fun ws h => Tr (match ws with
  | [w] => toR (itEnum w h)
  | _ => .bad) QI E) E := by
  unfold iEn; rw [Tr_bnd]; congr; funext ws h'
  match ws with
  | [] => rfl
  | [w] => exact Tr_opt2
  | _ :: _ :: _ => rfl
@[simp ↓] theorem Tr_iDc {vw : Vw} {f : Sl → M W} : Tr (iDc vw f sl h) QI E = Tr (f sl h) (fun w h => Tr (toR (itDct vw w h)) QI E) E := by
  unfold iDc; rw [Tr_bnd]; congr <;> (funext x h'; rw [Tr_opt2])
@[simp ↓] theorem Tr_nx1 {x : M α} : Tr (nx1 x h) Q E = Tr (x h) Q nEx := by
  unfold nx1
  cases x h <;> rfl
@[simp ↓] theorem Tr_fTold {sub : Str → Option Bool} {txt : Str} {fe : Sl → M W} : Tr (fTold sub txt fe sl h) QW E = Tr (fe sl h) QW (fun c p h => match sub c with
  | some true => QW (.str txt) h
  | some false => E c p h
  | none => False) := by
  unfold fTold
  cases fe sl h with
  | ok a h => rfl
  | bad => rfl
  | ex c p h =>
    simp only [Tr]
    cases sub c with
    | none => rfl
    | some b => cases b <;> rfl
/-! statements -/
@[simp ↓] theorem TrS_nxV : TrS (.nx sl h) D = D.nx sl h := rfl
@[simp ↓] theorem TrS_rtV {w} : TrS (.rt w h) D = D.rt w h := rfl
@[simp ↓] theorem TrS_bkV : TrS (.bk sl h) D = D.bk sl h := rfl
@[simp ↓] theorem TrS_ctV : TrS (.ct sl h) D = D.ct sl h := rfl
@[simp ↓] theorem TrS_exV {c p} : TrS (.ex c p sl h) D = D.ex c p sl h := rfl
@[simp ↓] theorem TrS_badV : TrS .bad D = False := rfl
@[simp ↓] theorem TrS_eS {f : Sl → M α} {k : α → FS} : TrS (eS f k sl h) D = Tr (f sl h) (fun a h => TrS (k a sl h) D) (fun c p h => D.ex c p sl h) := by
  unfold eS
  cases f sl h <;> rfl
@[simp ↓] theorem TrS_nx : TrS (sNx sl h) D = D.nx sl h := rfl
@[simp ↓] theorem TrS_seq {f g : FS} : TrS (sSeq f g sl h) D = TrS (f sl h) { D with nx := fun sl h => TrS (g sl h) D } := by
  unfold sSeq
  cases f sl h <;> rfl
@[simp ↓] theorem TrS_no : TrS (sNo sl h) D = False := rfl
@[simp ↓] theorem TrS_bk : TrS (sBk sl h) D = D.bk sl h := rfl
@[simp ↓] theorem TrS_ct : TrS (sCt sl h) D = D.ct sl h := rfl
@[simp ↓] theorem TrS_e {f : Sl → M W} : TrS (sE f sl h) D = Tr (f sl h) (fun _ h => D.nx sl h) (fun c p h => D.ex c p sl h) := by
  unfold sE; rw [TrS_eS]; rfl
@[simp ↓] theorem TrS_rt {f : Sl → M W} : TrS (sRt f sl h) D = Tr (f sl h) D.rt (fun c p h => D.ex c p sl h) := by
  unfold sRt; rw [TrS_eS]; rfl
@[simp ↓] theorem TrS_rtN : TrS (sRtN sl h) D = D.rt .non h := rfl
@[simp ↓] theorem TrS_if {c : Sl → M Bool} {f g : FS} : TrS (sIf c f g sl h) D = Tr (c sl h) (fun b h => (b = true → TrS (f sl h) D) ∧ (b = false → TrS (g sl h) D)) (fun c p h => D.ex c p sl h) := by
  unfold sIf; rw [TrS_eS]; congr; funext b h'; cases b <;> simp
@[simp ↓] theorem TrS_set {i : Nat} {f : Sl → M W} : TrS (sSet i f sl h) D = Tr (f sl h) (fun w h => D.nx (sl.set i (some w)) h) (fun c p h => D.ex c p sl h) := by
  unfold sSet; rw [TrS_eS]; rfl
def optS (o : Option Sl) (h : LH) : RS := match o with
  | some sl => .nx sl h
  | none => .bad
@[simp] theorem TrS_optS {h : LH} : TrS (optS (some sl) h) D = D.nx sl h := rfl
@[simp] theorem TrS_optS_ite {c : Prop} [Decidable c] {o : Option Sl} {h : LH} : TrS (optS (if c then o else none) h) D = (c ∧ TrS (optS o h) D) := by
  by_cases z : c <;> simp [z, optS, TrS]
@[simp] theorem TrS_optS0 {h : LH} : TrS (optS none h) D = False := rfl
@[simp ↓] theorem TrS_asg {p : Pat} {f : Sl → M W} : TrS (sAsg p f sl h) D = Tr (f sl h) (fun w h => TrS (optS (bindP p w sl) h) D) (fun c p h => D.ex c p sl h) := by
  unfold sAsg; rw [TrS_eS]; rfl
@[simp ↓] theorem TrS_par {i j : Nat} {f : Sl → M (List W)} : TrS (sPar i j f sl h) D = Tr (f sl h) (fun ws h => match ws with
  | [v, w] => D.nx ((sl.set i (some v)).set j (some w)) h
  | _ => False) (fun c p h => D.ex c p sl h) := by
  unfold sPar; rw [TrS_eS]; congr; funext ws h'
  match ws with
  | [] => rfl
  | [_] => rfl
  | [_, _] => rfl
  | _ :: _ :: _ :: _ => rfl
@[simp ↓] theorem TrS_aug {i : Nat} {g : O2} {f : Sl → M W} : TrS (sAug i g f sl h) D = Tr (opt (sl[i]?.getD none) h) (fun x h => Tr (f sl h) (fun y h => Tr (toR (g x y h)) (fun z h => D.nx (sl.set i (some z)) h) (fun c p h => D.ex c p sl h)) (fun c p h => D.ex c p sl h)) (fun c p h => D.ex c p sl h) := by
  unfold sAug; rw [TrS_eS]; congr; funext x h'; rw [TrS_eS]; congr; funext y h'; rw [TrS_eS, Tr_opt2]; rfl
def optH (o : Option LH) (sl : Sl) : RS := match o with
  | some h => .nx sl h
  | none => .bad
@[simp] theorem TrS_optH {h : LH} : TrS (optH (some h) sl) D = D.nx sl h := rfl
@[simp] theorem TrS_optH_ite {c : Prop} [Decidable c] {o : Option LH} : TrS (optH (if c then o else none) sl) D = (c ∧ TrS (optH o sl) D) := by
  by_cases z : c <;> simp [z, optH, TrS]
@[simp] theorem TrS_optH0 : TrS (optH none sl) D = False := rfl
@[simp ↓] theorem TrS_sub {fv fo fi : Sl → M W} {g : W → W → W → LH → Option LH} : TrS (sSub fv fo fi g sl h) D = Tr (fv sl h) (fun v h => Tr (fo sl h) (fun o h => Tr (fi sl h) (fun i h => TrS (optH (g o i v h) sl) D) (fun c p h => D.ex c p sl h)) (fun c p h => D.ex c p sl h)) (fun c p h => D.ex c p sl h) := by
  unfold sSub; rw [TrS_eS]; congr; funext x h'; rw [TrS_eS]; congr; funext x h'; rw [TrS_eS]; congr
@[simp ↓] theorem TrS_augS {fo fi fe : Sl → M W} {g : O2} : TrS (sAugS fo fi fe g sl h) D = Tr (fo sl h) (fun o h => Tr (fi sl h) (fun i h => Tr (toR (ixL o i h)) (fun x h => Tr (fe sl h) (fun y h => Tr (toR (g x y h)) (fun z h => TrS (optH (setL o i z h) sl) D) (fun c p h => D.ex c p sl h)) (fun c p h => D.ex c p sl h)) (fun c p h => D.ex c p sl h)) (fun c p h => D.ex c p sl h)) (fun c p h => D.ex c p sl h) := by
  unfold sAugS; rw [TrS_eS]; congr; funext x h'; rw [TrS_eS]; congr; funext x h'; rw [TrS_eS, Tr_opt2]; congr; funext x h'; rw [TrS_eS]; congr; funext x h'; rw [TrS_eS, Tr_opt2]; congr
@[simp ↓] theorem TrS_fldS {cs : List Str} {f : Str} {fv fo : Sl → M W} : TrS (sFldS cs f fv fo sl h) D = Tr (fv sl h) (fun v h => Tr (fo sl h) (fun o h => TrS (optH (setF cs f o v h) sl) D) (fun c p h => D.ex c p sl h)) (fun c p h => D.ex c p sl h) := by
  unfold sFldS; rw [TrS_eS]; congr; funext x h'; rw [TrS_eS]; congr
@[simp ↓] theorem TrS_for {fi : Sl → M Itw} {p : Pat} {b : FS} : TrS (sFor fi p b sl h) D = Tr (fi sl h) (fun it h => TrS (forL it.gd p b it.ws sl h) D) (fun c p h => D.ex c p sl h) := by
  unfold sFor; rw [TrS_eS]
@[simp ↓] theorem TrS_raise {x : Str} : TrS (sRaise x sl h) D = D.ex x none sl h := rfl
@[simp ↓] theorem TrS_raiseF {x f : Str} {fa : Sl → M W} : TrS (sRaiseF x f fa sl h) D = Tr (fa sl h) (fun w h => D.ex x (some (f, w)) sl h) (fun c p h => D.ex c p sl h) := by
  unfold sRaiseF; rw [TrS_eS]; rfl
@[simp ↓] theorem TrS_try {sub : Str → Option Bool} {fb fs : FS} : TrS (sTry sub fb fs sl h) D = TrS (fb sl h) { D with ex := fun c p sl h => match sub c with
  | some true => TrS (fs sl h) D
  | some false => D.ex c p sl h
  | none => False } := by
  unfold sTry
  cases fb sl h with
  | ex c p sl h =>
    simp only [TrS]
    cases sub c with
    | none => rfl
    | some b => cases b <;> rfl
  | _ => rfl
@[simp ↓] theorem TrS_nxS {f : FS} : TrS (nxS f sl h) D = TrS (f sl h) { D with ex := fun _ _ _ _ => False } := by
  unfold nxS
  cases f sl h <;> rfl
theorem Tr_run {N : Nat} {fb : FS} {ws : List W} : Tr (runF N fb ws h) QW E = TrS (fb (sl0 N ws) h) ⟨fun _ h => QW .non h, QW, fun _ _ => False, fun _ _ => False, fun c p _ h => E c p h⟩ := by
  unfold runF
  cases fb (sl0 N ws) h <;> rfl
end
end Fv
set_option Elab.async false
set_option linter.all false
set_option maxRecDepth 100000
set_option maxHeartbeats 400000
/-! Px1: primitives, heaps, loops -/
namespace Fv
open PySem PySem.Spec PyProof.Rows L2 Fh
/-! ### names and texts of the program -/
theorem ofS_inj {a b : String} : Str.ofString a = Str.ofString b ↔ a = b := by
  constructor
  · intro e
    rw [Str.ofString_eq_toList, Str.ofString_eq_toList] at e
    have e : a.toList.map Char.toNat = b.toList.map Char.toNat := by
      have := congrArg (fun x : Str => x.cps.toList) e
      simpa using this
    have inj : ∀ (x y : List Char), x.map Char.toNat = y.map Char.toNat → x = y := by
      intro x
      induction x with
      | nil => intro y h; cases y <;> simp_all
      | cons c r ih =>
        intro y h
        cases y with
        | nil => simp at h
        | cons d t =>
          simp only [List.map_cons, List.cons.injEq] at h
          rw [ih t h.2, Char.toNat_inj.mp h.1]
    exact String.toList_inj.mp (inj _ _ e)
  · intro e; rw [e]
@[simp] theorem ofS_eq {a b : String} : (Str.ofString a = Str.ofString b) = (a = b) := propext ofS_inj
@[simp] theorem ofS_beq {a b : String} : (Str.ofString a == Str.ofString b) = decide (a = b) := by
  by_cases h : a = b
  · subst h; simp
  · rw [decide_eq_false h]
    exact beq_eq_false_iff_ne.mpr fun e => h (ofS_inj.mp e)
@[simp] theorem lookup_c {a b : Str} {v : W} {r : List (Str × W)} : List.lookup a ((b, v) :: r) = if a = b then some v else r.lookup a := by
  by_cases z : a = b
  · subst z; simp
  · have : (a == b) = false := by simpa using z
    rw [List.lookup_cons, this, if_neg z]
/-! ### heaps -/
theorem look_app {h t : LH} {i : Nat} (e : (h[i]?).isSome = true) : (h ++ t)[i]? = h[i]? := by
  obtain ⟨o, e⟩ := Option.isSome_iff_exists.mp e
  exact List.getElem?_append_left (List.getElem?_eq_some_iff.mp e).1
theorem look_set {h : LH} {i : Nat} {o : LO} (e : (h[i]?).isSome = true) : (h.set i o)[i]? = some o := by
  obtain ⟨o, e⟩ := Option.isSome_iff_exists.mp e
  exact List.getElem?_set_self (List.getElem?_eq_some_iff.mp e).1
theorem look_ne {h : LH} {i j : Nat} {o : LO} (e : i ≠ j) : (h.set i o)[j]? = h[j]? := List.getElem?_set_ne e
theorem lt_of_look {h : LH} {i : Nat} {o : LO} (e : h[i]? = some o) : i < h.length := (List.getElem?_eq_some_iff.mp e).1
/-- old things stay but those of S; new ones may be added -/
structure Ch (S : List Nat) (h h' : LH) : Prop where
  len : h.length ≤ h'.length
  keep : ∀ i, i < h.length → i ∉ S → h'[i]? = h[i]?
section
variable {S S' : List Nat} {h h' h1 h2 : LH} {i : Nat} {o : LO}
theorem Ch.refl : Ch S h h := ⟨Nat.le_refl _, fun _ _ _ => rfl⟩
theorem Ch.trans (a : Ch S h h1) (b : Ch S' h1 h2) (s : ∀ i ∈ S', i ∈ S ∨ h.length ≤ i) : Ch S h h2 := ⟨Nat.le_trans a.len b.len, fun i hi n => by
  rw [b.keep i (Nat.lt_of_lt_of_le hi a.len) (fun z => (s i z).elim n (by omega)), a.keep i hi n]⟩
theorem Ch.tr (a : Ch S h h1) (b : Ch S h1 h2) : Ch S h h2 := a.trans b fun _ z => .inl z
theorem Ch.tr0 (a : Ch S h h1) (b : Ch [] h1 h2) : Ch S h h2 := a.trans b fun _ z => by cases z
theorem Ch.app {t : LH} : Ch S h (h ++ t) := ⟨by simp, fun i hi _ => List.getElem?_append_left hi⟩
theorem Ch.push (a : Ch S h h1) {t : LH} : Ch S h (h1 ++ t) := a.trans (S' := []) .app fun _ z => by cases z
theorem Ch.set (s : i ∈ S) : Ch S h (h.set i o) := ⟨by simp, fun j hj n => List.getElem?_set_ne fun e => n (by rw [← e]; exact s)⟩
theorem Ch.put (a : Ch S h h1) (s : i ∈ S ∨ h.length ≤ i) : Ch S h (h1.set i o) := a.trans (S' := [i]) (.set (by simp)) fun j z => by
  cases List.mem_singleton.mp z
  exact s
theorem Ch.look (a : Ch S h h1) (e : (h[i]?).isSome = true) (n : i ∉ S) : h1[i]? = h[i]? := by
  obtain ⟨o, e⟩ := Option.isSome_iff_exists.mp e
  exact a.keep i (lt_of_look e) n
theorem Ch.at (a : Ch S h h1) (e : h[i]? = some o) (n : i ∉ S := by simp) : h1[i]? = some o := (a.look (by rw [e]; rfl) n).trans e
theorem Ch.look0 (a : Ch [] h h1) (i : Nat) (e : (h[i]?).isSome = true) : h1[i]? = h[i]? := a.look e (by simp)
theorem Ch.mono (a : Ch S h h1) (s : ∀ i ∈ S, i ∈ S' ∨ h.length ≤ i) : Ch S' h h1 := (Ch.refl (S := S')).trans a s
end
/-! ### slots -/
@[simp] theorem asB_bl {b : Bool} : asB (.bl b) = some b := rfl
@[simp] theorem asI_int {b : Int} : asI (.int b) = some (some b) := rfl
@[simp] theorem isN_non {b : Bool} : isN b .non = .bl (!b) := rfl
@[simp] theorem isN_int {b : Bool} {i} : isN b (.int i) = .bl b := rfl
@[simp] theorem isN_str {b : Bool} {i} : isN b (.str i) = .bl b := rfl
@[simp] theorem isN_tup {b : Bool} {i} : isN b (.tup i) = .bl b := rfl
@[simp] theorem isN_ref {b : Bool} {i} : isN b (.ref i) = .bl b := rfl
@[simp] theorem bindP_nm {i : Nat} {w : W} {sl : Sl} : bindP (.nm i) w sl = some (sl.set i (some w)) := rfl
@[simp] theorem bindP_tp {is : List Nat} {ws : List W} {sl : Sl} : bindP (.tp is) (.tup ws) sl = if ws.length = is.length then some (setAll is ws sl) else none := rfl
@[simp] theorem setAll_c {i : Nat} {is : List Nat} {w : W} {ws : List W} {sl : Sl} : setAll (i :: is) (w :: ws) sl = setAll is ws (sl.set i (some w)) := rfl
@[simp] theorem setAll_n {ws : List W} {sl : Sl} : setAll [] ws sl = sl := by cases ws <;> rfl
@[simp] theorem sl0_eq {N : Nat} {ws : List W} : sl0 N ws = ws.map some ++ List.replicate (N - ws.length) none := rfl
@[simp] theorem wipeW_n {sl : Sl} : wipeW sl [] = sl := rfl
@[simp] theorem wipeW_c {sl : Sl} {v vs} : wipeW sl (v :: vs) = (wipeW sl vs).set v none := rfl
@[simp] theorem LIM_eq : LIM = 100000 := rfl
/-! ### operations -/
section
variable {h : LH} {i j : Int} {a b : Str} {xs ys : List W}
@[simp] theorem addW_int : addW (.int i) (.int j) h = some (.int (i + j), h) := rfl
@[simp] theorem addW_str : addW (.str a) (.str b) h = if a.length + b.length ≤ LIM then some (.str (a ++ b), h) else none := rfl
@[simp] theorem addW_tup : addW (.tup xs) (.tup ys) h = if xs.length + ys.length ≤ LIM then some (.tup (xs ++ ys), h) else none := rfl
@[simp] theorem addW_ref {i j : Nat} : addW (.ref i) (.ref j) h = match h[i]?, h[j]? with
    | some (.lst xs), some (.lst ys) => if xs.length + ys.length ≤ LIM then some (.ref h.length, h ++ [.lst (xs ++ ys)]) else none
    | _, _ => none := rfl
@[simp] theorem subW_int : subW (.int i) (.int j) h = some (.int (i - j), h) := rfl
@[simp] theorem iaddW_int : iaddW (.int i) (.int j) h = some (.int (i + j), h) := rfl
@[simp] theorem mulW_int : mulW (.int i) (.int j) h = if (-(2 ^ 64) < i ∧ i < 2 ^ 64) ∨ (-(2 ^ 64) < j ∧ j < 2 ^ 64) then some (.int (i * j), h) else none := rfl
@[simp] theorem mulW_ref {j : Nat} {k : Int} : mulW (.ref j) (.int k) h = match h[j]? with
    | some (.lst xs) => if -(2 ^ 62) ≤ k ∧ k < 2 ^ 62 ∧ xs.length * k.toNat ≤ LIM then some (.ref h.length, h ++ [.lst (List.replicate k.toNat xs).flatten]) else none
    | _ => none := rfl
theorem mulW_r (l : -(2 ^ 64) < j ∧ j < 2 ^ 64) : mulW (.int i) (.int j) h = some (.int (i * j), h) := if_pos (.inr l)
theorem mulW_l (l : -(2 ^ 64) < i ∧ i < 2 ^ 64) : mulW (.int i) (.int j) h = some (.int (i * j), h) := if_pos (.inl l)
@[simp] theorem divW_int : divW (.int i) (.int j) h = if 0 < j ∧ j < 1073741824 then some (.int (i / j), h) else none := rfl
@[simp] theorem modW_int : modW (.int i) (.int j) h = if 0 < j then some (.int (i % j), h) else none := rfl
@[simp] theorem powW_18 : powW (.int 10) (.int 18) h = some (.int (10 ^ 18), h) := rfl
@[simp] theorem cmpI_int {p : Int → Int → Bool} : cmpI p (.int i) (.int j) h = some (.bl (p i j), h) := rfl
@[simp] theorem negW_int : negW (.int i) = some (.int (-i)) := rfl
@[simp] theorem intW_int : intW [.int i] h = some (.int i, h) := rfl
@[simp] theorem intW_bl {b : Bool} : intW [.bl b] h = some (.int (if b then 1 else 0), h) := rfl
@[simp] theorem absW_int : absW [.int i] h = some (.int (if i < 0 then -i else i), h) := rfl
def numS (n : Nat) : Str := Str.ofString (toString (n : Int))
@[simp] theorem strW_nat {n : Nat} : strW [.int (n : Int)] h = if n < 1000000000000 then some (.str (numS n), h) else none := rfl
theorem strW_int : strW [.int i] h = if i.natAbs < 1000000000000 then some (.str (toString i), h) else none := rfl
@[simp] theorem lenW_str : lenW [.str a] h = if a.length ≤ LIM then some (.int a.length, h) else none := rfl
@[simp] theorem lenW_tup : lenW [.tup xs] h = some (.int xs.length, h) := rfl
@[simp] theorem lenW_ref {i : Nat} : lenW [.ref i] h = match h[i]? with
    | some (.lst xs) => some (.int (xs.length : Nat), h)
    | some (.rd xs) => some (.int (xs.length : Nat), h)
    | some (.dct kvs) => some (.int (kvs.length : Nat), h)
    | _ => none := rfl
@[simp] theorem seqW_tup : seqW h (.tup xs) = some xs := rfl
@[simp] theorem seqW_ref {i : Nat} : seqW h (.ref i) = match h[i]? with
    | some (.lst xs) => some xs
    | some (.rd xs) => some xs
    | _ => none := rfl
@[simp] theorem tupleW_tup : tupleW [.tup xs] h = some (.tup xs, h) := rfl
@[simp] theorem tupleW_ref {i : Nat} : tupleW [.ref i] h = (seqW h (.ref i)).map fun xs => (.tup xs, h) := rfl
@[simp] theorem listW_tup : listW [.tup xs] h = some (.ref h.length, h ++ [.lst xs]) := rfl
@[simp] theorem listW_ref {i : Nat} : listW [.ref i] h = (seqW h (.ref i)).map fun xs => (.ref h.length, h ++ [.lst xs]) := rfl
/-! .. items -/
@[simp] theorem atI_nat {α : Type} {xs : List α} {n : Nat} : atI xs (n : Int) = xs[n]? := by
  unfold atI ixN
  rw [if_pos (by omega)]
  split
  · simp
  · simp only [Option.bind_none]
    symm
    exact List.getElem?_eq_none_iff.mpr (by omega)
@[simp] theorem atI_lit {α : Type} {xs : List α} {n : Nat} : atI xs (no_index (OfNat.ofNat n) : Int) = xs[n]? := atI_nat (n := n)
@[simp] theorem atI_0 {α : Type} {xs : List α} : atI xs (0 : Int) = xs[0]? := atI_nat (n := 0)
@[simp] theorem atI_1 {α : Type} {xs : List α} : atI xs (1 : Int) = xs[1]? := atI_nat (n := 1)
theorem atI_last {α : Type} {xs : List α} {x : α} : atI (xs ++ [x]) (-1) = some x := by
  unfold atI ixN
  rw [if_neg (by omega), if_pos (by simp; omega)]
  have : ((-1 : Int) + ((xs ++ [x]).length : Nat)).toNat = xs.length := by simp; omega
  rw [this]
  simp
theorem atI_of {α : Type} {xs : List α} {i : Int} {x : α} (h0 : 0 ≤ i) (e : xs[i.toNat]? = some x) : atI xs i = some x := by
  obtain ⟨n, rfl⟩ := Int.eq_ofNat_of_zero_le h0
  simpa using e
theorem ixS_tup {i : Int} : ixS (.tup xs) (.int i) h = (atI xs i).map fun w => (w, h) := rfl
@[simp] theorem ixW_tup {i : Int} : ixW (.tup xs) (.int i) h = (atI xs i).map fun w => (w, h) := rfl
theorem ixW_str {z : Str} {i : Int} (l : z.length ≤ LIM) : ixW (.str z) (.int i) h = (atI z.cps.toList i).map fun c => (.str ⟨#[c]⟩, h) := if_pos l
@[simp] theorem ixW_ref {j : Nat} {w : W} : ixW (.ref j) w h = match h[j]? with
    | some (.dct kvs) => (keyW w).bind fun k => (valW kvs k).map fun w => (w, h)
    | some (.dcl kvs) => (keyW w).bind fun k => (valW kvs k).map fun w => (w, h)
    | some (.lst xs) => (match w with
      | .int i => (atI xs i).map fun w => (w, h)
      | _ => none)
    | some (.rd xs) => (match w with
      | .int i => (atI xs i).map fun w => (w, h)
      | _ => none)
    | _ => none := by
  simp only [ixW, ixD, ixS, seqW]
  cases e : h[j]? with
  | none => cases w <;> rfl
  | some o => cases o <;> first | (cases w <;> first | rfl | simp) | rfl
@[simp] theorem ixL_ref {j : Nat} {i : Int} : ixL (.ref j) (.int i) h = (seqW h (.ref j)).bind fun xs => (atI xs i).map fun w => (w, h) := rfl
@[simp] theorem keyW_int : keyW (.int i) = some (.inl i) := rfl
@[simp] theorem keyW_str : keyW (.str a) = some (.inr a) := rfl
@[simp] theorem fldW_ref {j : Nat} {cs : List Str} {f : Str} : fldW cs f (.ref j) h = match h[j]? with
    | some (.ins c fs) => if c ∈ cs then (fs.lookup f).map fun v => (v, h) else none
    | _ => none := rfl
@[simp] theorem isI_ref {j : Nat} {f c : Str} : isI c (.ref j) h f = match h[j]? with
    | some (.ins c' fs) => decide (c' = c) && (fs.lookup f).isNone
    | _ => false := rfl
@[simp] theorem setF_ref {j : Nat} {cs : List Str} {f : Str} {v : W} : setF cs f (.ref j) v h = match h[j]? with
    | some (.ins c fs) => if c ∈ cs ∧ fs.length < 100 then some (h.set j (.ins c (putFW f v fs))) else none
    | _ => none := rfl
@[simp] theorem putFW_n {f : Str} {v : W} : putFW f v [] = [(f, v)] := rfl
@[simp] theorem putFW_c {f g : Str} {v x : W} {r} : putFW f v ((g, x) :: r) = if g = f then (g, v) :: r else (g, x) :: putFW f v r := rfl
@[simp] theorem setL_ref {j : Nat} {i : Int} {v : W} : setL (.ref j) (.int i) v h = match h[j]? with
    | some (.lst xs) => (ixN xs.length i).map fun k => h.set j (.lst (xs.set k v))
    | _ => none := rfl
@[simp] theorem setD_ref {j : Nat} {k v : W} : setD (.ref j) k v h = match h[j]? with
    | some (.dct kvs) => if kvs.length < LIM then (keyW k).map fun k => h.set j (.dct (putW kvs k v)) else none
    | _ => none := rfl
@[simp] theorem ixN_nat {n k : Nat} : ixN n (k : Int) = if k < n then some k else none := by
  unfold ixN
  rw [if_pos (by omega)]
  by_cases z : k < n
  · rw [if_pos (by omega), if_pos z]; rfl
  · rw [if_neg (by omega), if_neg z]
@[simp] theorem ixN_lit {n k : Nat} : ixN n (no_index (OfNat.ofNat k) : Int) = if k < n then some k else none := ixN_nat (n := n) (k := k)
@[simp] theorem ixN_0 {n : Nat} : ixN n (0 : Int) = if 0 < n then some 0 else none := ixN_nat (n := n) (k := 0)
@[simp] theorem ixN_1 {n : Nat} : ixN n (1 : Int) = if 1 < n then some 1 else none := ixN_nat (n := n) (k := 1)
theorem ixN_of {n : Nat} {i : Int} (h0 : 0 ≤ i) (h1 : i < n) : ixN n i = some i.toNat := by
  unfold ixN
  rw [if_pos h0, if_pos h1]
theorem ixN_last {n : Nat} (h0 : 0 < n) : ixN n (-1) = some (n - 1) := by
  unfold ixN
  rw [if_neg (by omega), if_pos (by omega)]
  congr 1
  omega
@[simp] theorem appendW_ref {j : Nat} {w : W} : appendW (.ref j) [w] h = match h[j]? with
    | some (.lst xs) => if xs.length < LIM then some (.non, h.set j (.lst (xs ++ [w]))) else none
    | _ => none := rfl
@[simp] theorem extendW_ref {j k : Nat} : extendW (.ref j) [.ref k] h = match h[j]?, h[k]? with
    | some (.lst xs), some (.lst ys) => if xs.length + ys.length ≤ LIM then some (.non, h.set j (.lst (xs ++ ys))) else none
    | _, _ => none := rfl
@[simp] theorem popW_ref {j : Nat} : popW (.ref j) [] h = match h[j]? with
    | some (.lst xs) => (xs[xs.length - 1]?).map fun w => (w, h.set j (.lst xs.dropLast))
    | _ => none := rfl
@[simp] theorem tyW_str : tyW .str (.str a) h = true := rfl
@[simp] theorem tyW_ref {j : Nat} : tyW .list (.ref j) h = match h[j]? with
    | some (.lst _) => true
    | some (.rd _) => true
    | _ => false := rfl
@[simp] theorem tyW_dct {j : Nat} : tyW .dict (.ref j) h = match h[j]? with
    | some (.dct _) => true
    | _ => false := rfl
@[simp] theorem txts_map : ∀ ss : List Str, txts (ss.map W.str) = some ss
  | [] => rfl
  | s :: r => by rw [List.map_cons, txts, txts_map r]; rfl
@[simp] theorem nums_map : ∀ ss : List Int, nums (ss.map W.int) = some ss
  | [] => rfl
  | s :: r => by rw [List.map_cons, nums, nums_map r]; rfl
@[simp] theorem joinW_def {w : W} : joinW (.str a) [w] h = ((seqW h w).bind txts).bind fun ys => if (ys.map Str.length).sum + ys.length * a.length ≤ LIM then some (.str (Txt.join a ys), h) else none := rfl
@[simp] theorem splitW_at : splitW (.str a) [.str b] h = if (b.length == 0) = false ∧ a.length + 2 ≤ LIM then some (.ref h.length, h ++ [.lst ((Txt.split a b).map W.str)]) else none := rfl
@[simp] theorem splitW_sp : splitW (.str a) [] h = if a.length + 2 ≤ LIM then some (.ref h.length, h ++ [.lst ((Txt.words a).map W.str)]) else none := rfl
@[simp] theorem slW_tup {lo hi} : slW (.tup xs) lo hi h = some (.tup (cutW xs lo hi), h) := rfl
@[simp] theorem slW_ref {i : Nat} {lo hi} : slW (.ref i) lo hi h = (seqW h (.ref i)).map fun xs => (.ref h.length, h ++ [.lst (cutW xs lo hi)]) := rfl
@[simp] theorem slW_str {lo hi} : slW (.str a) lo hi h = if a.length ≤ LIM then some (.str (cutS a lo hi), h) else none := rfl
theorem joinW_of {w : W} {ss : List Str} (e : seqW h w = some (ss.map W.str)) (l : (ss.map (·.length)).sum + ss.length * a.length ≤ LIM) : joinW (.str a) [w] h = some (.str (Txt.join a ss), h) := by
  simp only [joinW, e, Option.bind_some, txts_map, l, if_true]
end
/-! ### equal or not -/
mutual
/-- plain: no number of a thing in it, no truth value -/
def pw : Nat → W → Bool
  | _, .non => true
  | _, .bl _ => false
  | _, .int _ => true
  | _, .str x => PyData.strOk x
  | 0, .tup _ => false
  | n + 1, .tup xs => pws n xs
  | _, .ref _ => false
def pws : Nat → List W → Bool
  | _, [] => true
  | n, x :: xs => pw n x && pws n xs
end
mutual
def pD : W → PyData
  | .non => .none
  | .bl b => .bool b
  | .int i => .int i
  | .str x => .str x
  | .tup xs => .tuple (pDs xs)
  | .ref _ => .none
def pDs : List W → List PyData
  | [] => []
  | x :: xs => pD x :: pDs xs
end
mutual
theorem toD_pw {h : LH} : ∀ {n : Nat} {w : W}, pw n w = true → toD (n + 1) h w = some (pD w) ∧ (pD w).canLay0 = true ∧ (pD w).depth ≤ n
  | _, .non, _ => ⟨rfl, rfl, by simp [pD, PyData.depth]⟩
  | _, .int _, _ => ⟨rfl, rfl, by simp [pD, PyData.depth]⟩
  | _, .str x, e => ⟨rfl, by unfold pw at e; simpa [pD, PyData.canLay0] using e, by simp [pD, PyData.depth]⟩
  | 0, .tup xs, e => by unfold pw at e; cases e
  | n + 1, .tup xs, e => by
    unfold pw at e
    obtain ⟨h1, h2, h3⟩ := toDs_pw (h := h) e
    refine ⟨?_, by simpa [pD, PyData.canLay0] using h2, by simp only [pD, PyData.depth]; omega⟩
    rw [toD, h1]
    rfl
theorem toDs_pw {h : LH} : ∀ {n : Nat} {ws : List W}, pws n ws = true → ws.mapM (toD (n + 1) h) = some (pDs ws) ∧ PyData.canLayAll0 (pDs ws) = true ∧ PyData.depthAll (pDs ws) ≤ n
  | _, [], _ => ⟨rfl, rfl, by simp [pDs, PyData.depthAll]⟩
  | n, w :: ws, e => by
    unfold pws at e
    obtain ⟨e1, e2⟩ := Bool.and_eq_true_iff.mp e
    obtain ⟨a1, a2, a3⟩ := toD_pw (h := h) e1
    obtain ⟨b1, b2, b3⟩ := toDs_pw (h := h) e2
    refine ⟨?_, by simp [pDs, PyData.canLayAll0, a2, b2], by simp only [pDs, PyData.depthAll]; omega⟩
    rw [List.mapM_cons, a1, b1]
    rfl
end
theorem toD_up {h : LH} : ∀ {n : Nat} {w : W} {d : PyData}, toD n h w = some d → toD (n + 1) h w = some d := by
  intro n
  induction n with
  | zero => intro w d e; cases e
  | succ n ih =>
    intro w d e
    have key : ∀ (xs : List W) (ds : List PyData), xs.mapM (toD n h) = some ds → xs.mapM (toD (n + 1) h) = some ds := by
      intro xs
      induction xs with
      | nil => intro ds e; exact e
      | cons x xs ih2 =>
        intro ds e
        rw [List.mapM_cons] at e ⊢
        cases e1 : toD n h x with
        | none => rw [e1] at e; cases e
        | some d1 =>
          cases e2 : xs.mapM (toD n h) with
          | none => rw [e1, e2] at e; cases e
          | some d2 => rw [e1, e2] at e; rw [ih e1, ih2 _ e2]; exact e
    cases w with
    | tup xs =>
      rw [toD] at e ⊢
      cases e1 : xs.mapM (toD n h) with
      | none => rw [e1] at e; cases e
      | some ds => rw [e1] at e; rw [key _ _ e1]; exact e
    | ref i =>
      rw [toD] at e ⊢
      cases e0 : h[i]? with
      | none => rw [e0] at e; cases e
      | some o =>
        rw [e0] at e
        cases o <;> first | (cases e; done) | skip
        all_goals
          rename_i xs
          simp only at e ⊢
          cases e1 : xs.mapM (toD n h) with
          | none => rw [e1] at e; cases e
          | some ds => rw [e1] at e; rw [key _ _ e1]; exact e
    | _ => exact e
theorem toD_le {h : LH} {n m : Nat} {w : W} {d : PyData} (l : n ≤ m) (e : toD n h w = some d) : toD m h w = some d := by
  induction l with
  | refl => exact e
  | step _ ih => exact toD_up ih
mutual
theorem eqv_pw : ∀ {n m : Nat} {a b : W}, pw n a = true → pw m b = true → PyData.eqv (pD a) (pD b) = beqW a b
  | _, _, .non, b, _, hb => by cases b <;> first | rfl | (unfold pw at hb; cases hb; done) | simp [pD, PyData.eqv, beqW]
  | _, _, .int i, b, _, hb => by cases b <;> first | rfl | (unfold pw at hb; cases hb; done) | simp [pD, PyData.eqv, beqW]
  | _, _, .str x, b, _, hb => by cases b <;> first | rfl | (unfold pw at hb; cases hb; done) | simp [pD, PyData.eqv, beqW]
  | 0, _, .tup xs, b, ha, _ => by unfold pw at ha; cases ha
  | n + 1, m, .tup xs, b, ha, hb => by
    cases b with
    | tup ys =>
      cases m with
      | zero => unfold pw at hb; cases hb
      | succ m =>
        unfold pw at ha hb
        simp only [pD, PyData.eqv, beqW]
        exact eqvs_pw ha hb
    | bl => unfold pw at hb; cases hb
    | ref => unfold pw at hb; cases hb
    | _ => simp [pD, PyData.eqv, beqW]
theorem eqvs_pw : ∀ {n m : Nat} {a b : List W}, pws n a = true → pws m b = true → PyData.eqvAll (pDs a) (pDs b) = beqWs a b
  | _, _, [], b, _, _ => by cases b <;> simp [pDs, PyData.eqvAll, beqWs]
  | _, _, _ :: _, [], _, _ => by simp [pDs, PyData.eqvAll, beqWs]
  | n, m, a :: as, b :: bs, ha, hb => by
    unfold pws at ha hb
    obtain ⟨a1, a2⟩ := Bool.and_eq_true_iff.mp ha
    obtain ⟨b1, b2⟩ := Bool.and_eq_true_iff.mp hb
    simp only [pDs, PyData.eqvAll, beqWs]
    rw [eqv_pw a1 b1, eqvs_pw a2 b2]
end
@[simp] theorem beqW_str {a b : Str} : beqW (.str a) (.str b) = (a == b) := by simp [beqW]
@[simp] theorem beqW_int {a b : Int} : beqW (.int a) (.int b) = (a == b) := by simp [beqW]
@[simp] theorem beqW_tup {a b : List W} : beqW (.tup a) (.tup b) = beqWs a b := by simp [beqW]
@[simp] theorem beqW_nn : beqW .non .non = true := by simp [beqW]
@[simp] theorem beqW_ns {a : Str} : beqW .non (.str a) = false := by simp [beqW]
@[simp] theorem beqW_sn {a : Str} : beqW (.str a) .non = false := by simp [beqW]
@[simp] theorem beqW_nt {a} : beqW .non (.tup a) = false := by simp [beqW]
@[simp] theorem beqW_tn {a} : beqW (.tup a) .non = false := by simp [beqW]
@[simp] theorem beqW_st {a b} : beqW (.str a) (.tup b) = false := by simp [beqW]
@[simp] theorem beqW_ts {a b} : beqW (.tup a) (.str b) = false := by simp [beqW]
@[simp] theorem beqW_in {a} : beqW (.int a) .non = false := by simp [beqW]
@[simp] theorem beqW_ni {a} : beqW .non (.int a) = false := by simp [beqW]
@[simp] theorem beqWs_nn : beqWs [] [] = true := by simp [beqWs]
@[simp] theorem beqWs_cn {a as} : beqWs (a :: as) [] = false := by simp [beqWs]
@[simp] theorem beqWs_nc {a as} : beqWs [] (a :: as) = false := by simp [beqWs]
@[simp] theorem beqWs_cc {a as b bs} : beqWs (a :: as) (b :: bs) = (beqW a b && beqWs as bs) := by simp [beqWs]
theorem beqWs_nil {xs : List W} : beqWs xs [] = xs.isEmpty := by cases xs <;> simp
@[simp] theorem pw_non {n} : pw n .non = true := by unfold pw; rfl
@[simp] theorem pw_int {n i} : pw n (.int i) = true := by unfold pw; rfl
@[simp] theorem pw_str {n x} : pw n (.str x) = PyData.strOk x := by unfold pw; rfl
@[simp] theorem pw_tup {n xs} : pw (n + 1) (.tup xs) = pws n xs := by simp [pw]
@[simp] theorem pws_nil {n} : pws n [] = true := by unfold pws; rfl
@[simp] theorem pws_cons {n x xs} : pws n (x :: xs) = (pw n x && pws n xs) := by simp [pws]
theorem pws_all {n : Nat} : ∀ {xs : List W}, pws n xs = xs.all (pw n)
  | [] => by simp
  | x :: xs => by rw [pws_cons, List.all_cons, pws_all]
theorem shaped_of {d : PyData} {n : Nat} (a : d.canLay0 = true) (b : d.depth ≤ n) (l : n ≤ 64) : SeqAt.shaped d = true := by
  unfold SeqAt.shaped
  rw [a, decide_eq_true (by omega)]
  rfl
/-- what a value is to be compared as -/
def datW (h : LH) : W → Option (Bool × List W ⊕ W)
  | .ref i => match h[i]? with
    | some (.lst xs) => some (.inl (true, xs))
    | some (.rd xs) => some (.inl (true, xs))
    | _ => none
  | w => some (.inr w)
@[simp] theorem eqW_pw {neg : Bool} {a b : W} {h : LH} (ha : pw 8 a = true) (hb : pw 8 b = true) : eqW neg a b h = some (.bl (if neg = true then !beqW a b else beqW a b), h) := by
  obtain ⟨a1, a2, a3⟩ := toD_pw (h := h) ha
  obtain ⟨b1, b2, b3⟩ := toD_pw (h := h) hb
  unfold eqW
  rw [a1, b1]
  simp only [shaped_of a2 a3 (by omega), shaped_of b2 b3 (by omega), and_self, if_true, eqv_pw ha hb]
theorem eqW_lst {neg : Bool} {i j : Nat} {xs ys : List W} {h : LH} (ei : seqW h (.ref i) = some xs) (ej : seqW h (.ref j) = some ys) (ha : pws 7 xs = true) (hb : pws 7 ys = true) : eqW neg (.ref i) (.ref j) h = some (.bl (if neg = true then !beqWs xs ys else beqWs xs ys), h) := by
  obtain ⟨a1, a2, a3⟩ := toDs_pw (h := h) ha
  obtain ⟨b1, b2, b3⟩ := toDs_pw (h := h) hb
  have k : ∀ {i : Nat} {xs : List W}, seqW h (.ref i) = some xs → xs.mapM (toD 8 h) = some (pDs xs) → toD 9 h (.ref i) = some (.list (pDs xs)) := by
    intro i xs e m
    unfold seqW at e
    simp only at e
    rw [toD]
    cases e0 : h[i]? with
    | none => rw [e0] at e; cases e
    | some o =>
      rw [e0] at e
      cases o <;> first | (cases e; done) | skip
      all_goals
        cases e
        simp only [m]
        rfl
  unfold eqW
  rw [k ei a1, k ej b1]
  have s1 : SeqAt.shaped (.list (pDs xs)) = true := shaped_of (n := 8) (by simpa [PyData.canLay0] using a2) (by simp only [PyData.depth]; omega) (by omega)
  have s2 : SeqAt.shaped (.list (pDs ys)) = true := shaped_of (n := 8) (by simpa [PyData.canLay0] using b2) (by simp only [PyData.depth]; omega) (by omega)
  simp only [s1, s2, and_self, if_true, PyData.eqv, eqvs_pw ha hb]
theorem any_pD {n m : Nat} {x : W} (hx : pw n x = true) : ∀ {ys : List W}, pws m ys = true → ((pDs ys).any fun z => PyData.eqv z (pD x)) = ys.any fun z => beqW z x
  | [], _ => rfl
  | y :: ys, h => by
    obtain ⟨a1, a2⟩ := Bool.and_eq_true_iff.mp (by rw [← pws_cons]; exact h)
    rw [pDs, List.any_cons, List.any_cons, eqv_pw a1 hx, any_pD hx a2]
@[simp] theorem inW_tup {neg : Bool} {x : W} {ys : List W} {h : LH} (hx : pw 8 x = true) (hy : pws 7 ys = true) : inW neg x (.tup ys) h = some (.bl (if neg = true then !ys.any fun z => beqW z x else ys.any fun z => beqW z x), h) := by
  obtain ⟨a1, a2, a3⟩ := toD_pw (h := h) hx
  obtain ⟨b1, b2, b3⟩ := toDs_pw (h := h) hy
  have e : toD 9 h (.tup ys) = some (.tuple (pDs ys)) := by rw [toD, b1]; rfl
  have s2 : SeqAt.shaped (.tuple (pDs ys)) = true := shaped_of (n := 8) (by simpa [PyData.canLay0] using b2) (by simp only [PyData.depth]; omega) (by omega)
  simp only [inW, a1, e, shaped_of a2 a3 (by omega), s2, and_self, if_true, any_pD hx hy]
theorem inW_lst {neg : Bool} {x : W} {i : Nat} {ys : List W} {h : LH} (ei : seqW h (.ref i) = some ys) (hx : pw 8 x = true) (hy : pws 7 ys = true) : inW neg x (.ref i) h = some (.bl (if neg = true then !ys.any fun z => beqW z x else ys.any fun z => beqW z x), h) := by
  obtain ⟨a1, a2, a3⟩ := toD_pw (h := h) hx
  obtain ⟨b1, b2, b3⟩ := toDs_pw (h := h) hy
  have e : toD 9 h (.ref i) = some (.list (pDs ys)) := by
    unfold seqW at ei
    simp only at ei
    rw [toD]
    cases e0 : h[i]? with
    | none => rw [e0] at ei; cases ei
    | some o =>
      rw [e0] at ei
      cases o <;> first | (cases ei; done) | skip
      all_goals
        cases ei
        simp only [b1]
        rfl
  have s2 : SeqAt.shaped (.list (pDs ys)) = true := shaped_of (n := 8) (by simpa [PyData.canLay0] using b2) (by simp only [PyData.depth]; omega) (by omega)
  simp only [inW, a1, e, shaped_of a2 a3 (by omega), s2, and_self, if_true, any_pD hx hy]
@[simp] theorem eqW_ref {neg : Bool} {i j : Nat} {h : LH} (ha : (seqW h (.ref i)).any (pws 7) = true) (hb : (seqW h (.ref j)).any (pws 7) = true) :
    eqW neg (.ref i) (.ref j) h = some (.bl (if neg = true then !beqWs ((seqW h (.ref i)).getD []) ((seqW h (.ref j)).getD []) else beqWs ((seqW h (.ref i)).getD []) ((seqW h (.ref j)).getD [])), h) := by
  cases e1 : seqW h (.ref i) with
  | none => rw [e1] at ha; cases ha
  | some xs =>
    cases e2 : seqW h (.ref j) with
    | none => rw [e2] at hb; cases hb
    | some ys =>
      rw [e1] at ha
      rw [e2] at hb
      exact eqW_lst e1 e2 ha hb
@[simp] theorem inW_ref {neg : Bool} {x : W} {i : Nat} {h : LH} (hx : pw 8 x = true) (ha : (seqW h (.ref i)).any (pws 7) = true) :
    inW neg x (.ref i) h = some (.bl (if neg = true then !((seqW h (.ref i)).getD []).any (fun z => beqW z x) else ((seqW h (.ref i)).getD []).any fun z => beqW z x), h) := by
  cases e1 : seqW h (.ref i) with
  | none => rw [e1] at ha; cases ha
  | some xs =>
    rw [e1] at ha
    exact inW_lst e1 hx ha
@[simp] theorem pws_ints {n : Nat} {ms : List Int} : pws n (ms.map W.int) = true := by rw [pws_all]; simp
theorem pws_strs {n : Nat} {ss : List Str} (h : ∀ s ∈ ss, PyData.strOk s = true) : pws n (ss.map W.str) = true := by rw [pws_all]; simpa using h
theorem beqWs_map_nil {α : Type} {f : α → W} {xs : List α} : beqWs (xs.map f) [] = xs.isEmpty := by cases xs <;> simp
end Fv
set_option Elab.async false
set_option linter.all false
set_option maxRecDepth 100000
set_option maxHeartbeats 400000
/-! Px2: loops, comprehensions -/
namespace Fv
open PySem PySem.Spec PyProof.Rows L2 Fh
section
variable {α : Type} {gd : LH → Bool} {p : Pat} {body : FS} {D : De} {h : LH} {sl : Sl}
/-- a loop by what holds behind the items done -/
theorem for_map {f : α → W} {xs : List α} (I : List α → Sl → LH → Prop) (hI : I [] sl h) (gdI : ∀ d sl h, I d sl h → gd h = true)
    (step : ∀ d x r sl h, d ++ x :: r = xs → I d sl h → ∃ sl1, bindP p (f x) sl = some sl1 ∧ TrS (body sl1 h) { D with nx := I (d ++ [x]), ct := I (d ++ [x]), bk := D.nx })
    (done : ∀ sl h, I xs sl h → D.nx sl h) : TrS (forL gd p body (xs.map f) sl h) D := by
  have key : ∀ (r d : List α) sl h, d ++ r = xs → I d sl h → TrS (forL gd p body (r.map f) sl h) D := by
    intro r
    induction r with
    | nil =>
      intro d sl h e i
      rw [List.append_nil] at e
      subst e
      show TrS (if gd h = true then .nx sl h else .bad) D
      rw [if_pos (gdI _ _ _ i)]
      exact done _ _ i
    | cons x r ih =>
      intro d sl h e i
      obtain ⟨sl1, eb, t⟩ := step d x r sl h e i
      have e2 : (d ++ [x]) ++ r = xs := by rw [List.append_assoc]; exact e
      simp only [List.map_cons, forL, gdI _ _ _ i, if_true, eb]
      cases eb2 : body sl1 h with
      | nx sl2 h2 => rw [eb2] at t; exact ih _ _ _ e2 t
      | ct sl2 h2 => rw [eb2] at t; exact ih _ _ _ e2 t
      | bk sl2 h2 => rw [eb2] at t; exact t
      | rt w h2 => rw [eb2] at t; exact t
      | ex c q s2 h2 => rw [eb2] at t; exact t
      | bad => rw [eb2] at t; exact t
  exact key xs [] sl h rfl hI
theorem for_ws {ws : List W} (I : List W → Sl → LH → Prop) (hI : I [] sl h) (gdI : ∀ d sl h, I d sl h → gd h = true)
    (step : ∀ d x r sl h, d ++ x :: r = ws → I d sl h → ∃ sl1, bindP p x sl = some sl1 ∧ TrS (body sl1 h) { D with nx := I (d ++ [x]), ct := I (d ++ [x]), bk := D.nx })
    (done : ∀ sl h, I ws sl h → D.nx sl h) : TrS (forL gd p body ws sl h) D := by
  have := for_map (f := fun w : W => w) (xs := ws) I hI gdI step done
  rwa [List.map_id' ws] at this
theorem forL_nil : TrS (forL gd p body [] sl h) D = if gd h = true then D.nx sl h else False := by
  show TrS (if gd h = true then .nx sl h else .bad) D = _
  by_cases z : gd h = true <;> simp [z]
theorem forL_cons {w : W} {r : List W} : TrS (forL gd p body (w :: r) sl h) D = (gd h = true ∧ ∃ sl1, bindP p w sl = some sl1 ∧ TrS (body sl1 h) { D with nx := fun sl h => TrS (forL gd p body r sl h) D, ct := fun sl h => TrS (forL gd p body r sl h) D, bk := D.nx }) := by
  simp only [forL]
  by_cases z : gd h = true
  · simp only [z, if_true, true_and]
    cases e : bindP p w sl with
    | none => simp
    | some sl1 =>
      simp only [Option.some.injEq, exists_eq_left']
      cases body sl1 h <;> rfl
  · simp [z]
@[simp] theorem filter_yes {xs : List α} : xs.filter (fun _ => true) = xs := by simp
theorem gdL_eq {j : Nat} {ws : List W} (e : seqW h (.ref j) = some ws) : gdL j ws h = true := by
  simp only [gdL, e, beqWs_rfl]
@[simp] theorem itSeq_tup {ws : List W} : itSeq (.tup ws) h = some (⟨ws, fun _ => true⟩, h) := rfl
theorem itSeq_ref {j : Nat} {ws : List W} (e : seqW h (.ref j) = some ws) : itSeq (.ref j) h = some (⟨ws, gdL j ws⟩, h) := by simp only [itSeq, e, Option.map_some]
@[simp] theorem itSeq_r {j : Nat} : itSeq (.ref j) h = (seqW h (.ref j)).map fun ws => (⟨ws, gdL j ws⟩, h) := rfl
@[simp] theorem itEnum_r {j : Nat} : itEnum (.ref j) h = (seqW h (.ref j)).map fun ws => (⟨enumW 0 ws, gdL j ws⟩, h) := rfl
@[simp] theorem itEnum_tup {ws : List W} : itEnum (.tup ws) h = some (⟨enumW 0 ws, fun _ => true⟩, h) := rfl
theorem itEnum_ref {j : Nat} {ws : List W} (e : seqW h (.ref j) = some ws) : itEnum (.ref j) h = some (⟨enumW 0 ws, gdL j ws⟩, h) := by simp only [itEnum, e, Option.map_some]
theorem rng1_of {j : Int} (l : 0 ≤ j ∧ j ≤ 100000) : rng1 [.int j] = some ⟨rngW 0 j.toNat, fun _ => true⟩ := if_pos ⟨by omega, l.2⟩
theorem enumW_map {f : α → W} : ∀ {xs : List α} {n : Nat}, enumW n (xs.map f) = (xs.zipIdx n).map fun p => .tup [.int (p.2 : Nat), f p.1]
  | [], _ => rfl
  | x :: xs, n => by rw [List.map_cons, enumW, enumW_map, List.zipIdx_cons, List.map_cons]
/-! while -/
theorem whl_inv {c : Sl → M Bool} (μ : Sl → LH → Nat) (I : Sl → LH → Prop) {n : Nat} (hI : I sl h) (hn : μ sl h < n)
    (step : ∀ sl h, I sl h → Tr (c sl h) (fun b h1 => (b = true → TrS (body sl h1) { D with nx := fun s h' => I s h' ∧ μ s h' < μ sl h, ct := fun s h' => I s h' ∧ μ s h' < μ sl h, bk := D.nx }) ∧ (b = false → D.nx sl h1)) (fun c q h => D.ex c q sl h)) : TrS (whl c body n sl h) D := by
  induction n generalizing sl h with
  | zero => omega
  | succ n ih =>
    have t := step sl h hI
    simp only [whl]
    cases e : c sl h with
    | bad => rw [e] at t; exact t
    | ex c q h1 => rw [e] at t; exact t
    | ok b h1 =>
      rw [e] at t
      cases b with
      | false => exact t.2 rfl
      | true =>
        have t := t.1 rfl
        simp only
        cases e2 : body sl h1 with
        | nx s2 h2 => rw [e2] at t; obtain ⟨i, l⟩ := t; exact ih i (by omega)
        | ct s2 h2 => rw [e2] at t; obtain ⟨i, l⟩ := t; exact ih i (by omega)
        | bk s2 h2 => rw [e2] at t; exact t
        | rt w h2 => rw [e2] at t; exact t
        | ex c q s2 h2 => rw [e2] at t; exact t
        | bad => rw [e2] at t; exact t
/-! ### comprehensions -/
variable {tst : Sl → M Bool} {elt kx vx : Sl → M W} {Q : W → LH → Prop} {E : EQ}
theorem lc_map {f g : α → W} {xs : List α} (t : α → Bool) (I : LH → Prop) {acc : List W} (hI : I h) (gdI : ∀ h, I h → gd h = true) (hl : acc.length + xs.length ≤ LIM)
    (step : ∀ x ∈ xs, ∀ h, I h → ∃ sl1, bindP p (f x) sl = some sl1 ∧ Tr (tst sl1 h) (fun b h => b = t x ∧ I h ∧ (t x = true → Tr (elt sl1 h) (fun y h => y = g x ∧ I h) nEx)) nEx)
    (done : ∀ h, I h → Q (.ref h.length) (h ++ [.lst (acc ++ (xs.filter t).map g)])) : Tr (lcA gd p tst elt sl acc (xs.map f) h) Q E := by
  have lim : LIM = 100000 := rfl
  induction xs generalizing acc h with
  | nil =>
    show Tr (if gd h = true then _ else _) Q E
    rw [if_pos (gdI _ hI)]
    have := done h hI
    simpa using this
  | cons x xs ih =>
    obtain ⟨sl1, eb, tt⟩ := step x (by simp) h hI
    simp only [List.length_cons] at hl
    simp only [List.map_cons, lcA, gdI _ hI, true_and, eb, if_pos (show acc.length < LIM by omega), Tr_bnd, Tr_nx1]
    refine tt.ok fun b h1 ⟨e, i1, t2⟩ => ?_
    subst e
    by_cases z : t x = true
    · simp only [z, if_true, Tr_bnd, Tr_nx1]
      refine (t2 z).ok fun y h2 ⟨e, i2⟩ => ?_
      subst e
      refine ih i2 (by simp; omega) (fun x hx => step x (List.mem_cons_of_mem _ hx)) fun h3 i3 => ?_
      have := done h3 i3
      simpa [z] using this
    · simp only [z, if_false, Bool.false_eq_true]
      refine ih i1 (by omega) (fun x hx => step x (List.mem_cons_of_mem _ hx)) fun h3 i3 => ?_
      have := done h3 i3
      simpa [z] using this
theorem any_map {f : α → W} {xs : List α} (t k : α → Bool) {stop : Bool} (I : LH → Prop) (hI : I h) (gdI : ∀ h, I h → gd h = true)
    (step : ∀ x ∈ xs, ∀ h, I h → ∃ sl1, bindP p (f x) sl = some sl1 ∧ Tr (tst sl1 h) (fun b h => b = t x ∧ I h ∧ (t x = true → Tr (elt sl1 h) (fun y h => y = .bl (k x) ∧ I h) nEx)) nEx)
    (done : ∀ h, I h → Q (.bl (if (xs.any fun x => t x && (k x == stop)) = true then stop else !stop)) h) : Tr (anyA stop gd p tst elt sl (xs.map f) h) Q E := by
  induction xs generalizing h with
  | nil =>
    show Tr (if gd h = true then _ else _) Q E
    rw [if_pos (gdI _ hI)]
    have := done h hI
    simpa using this
  | cons x xs ih =>
    obtain ⟨sl1, eb, tt⟩ := step x (by simp) h hI
    simp only [List.map_cons, anyA, gdI _ hI, eb, if_true, Tr_bnd, Tr_nx1]
    refine tt.ok fun b h1 ⟨e, i1, t2⟩ => ?_
    subst e
    by_cases z : t x = true
    · simp only [z, if_true, Tr_bnd, Tr_nx1]
      refine (t2 z).ok fun y h2 ⟨e, i2⟩ => ?_
      subst e
      simp only [asB_bl, Tr_opt]
      by_cases y : k x = stop
      · simp only [y, if_true, Tr_ret]
        have := done h2 i2
        simpa [z, y] using this
      · rw [if_neg y]
        refine ih i2 (fun x hx => step x (List.mem_cons_of_mem _ hx)) fun h3 i3 => ?_
        have := done h3 i3
        simpa [z, y] using this
    · simp only [z, if_false, Bool.false_eq_true]
      refine ih i1 (fun x hx => step x (List.mem_cons_of_mem _ hx)) fun h3 i3 => ?_
      have := done h3 i3
      simpa [z] using this
theorem putW_len {kvs : List (Key × W)} {k : Key} {v : W} : (putW kvs k v).length ≤ kvs.length + 1 := by
  unfold putW
  split <;> simp
theorem dc_map {f : α → W} {key : α → Key} {val : α → W} {xs : List α} (t : α → Bool) (I : LH → Prop) {acc : List (Key × W)} (hI : I h) (gdI : ∀ h, I h → gd h = true) (hl : acc.length + xs.length ≤ LIM)
    (step : ∀ x ∈ xs, ∀ h, I h → ∃ sl1, bindP p (f x) sl = some sl1 ∧ Tr (tst sl1 h) (fun b h => b = t x ∧ I h ∧ (t x = true → Tr (kx sl1 h) (fun y h => keyW y = some (key x) ∧ I h ∧ Tr (vx sl1 h) (fun z h => z = val x ∧ I h) nEx) nEx)) nEx)
    (done : ∀ h, I h → Q (.ref h.length) (h ++ [.dct ((xs.filter t).foldl (fun a x => putW a (key x) (val x)) acc)])) : Tr (dcA gd p tst kx vx sl acc (xs.map f) h) Q E := by
  have lim : LIM = 100000 := rfl
  induction xs generalizing acc h with
  | nil =>
    show Tr (if gd h = true then _ else _) Q E
    rw [if_pos (gdI _ hI)]
    have := done h hI
    simpa using this
  | cons x xs ih =>
    obtain ⟨sl1, eb, tt⟩ := step x (by simp) h hI
    simp only [List.length_cons] at hl
    simp only [List.map_cons, dcA, gdI _ hI, true_and, eb, if_pos (show acc.length < LIM by omega), Tr_bnd, Tr_nx1]
    refine tt.ok fun b h1 ⟨e, i1, t2⟩ => ?_
    subst e
    by_cases z : t x = true
    · simp only [z, if_true, Tr_bnd, Tr_nx1]
      refine (t2 z).ok fun y h2 ⟨ek, i2, t3⟩ => ?_
      refine t3.ok fun v h3 ⟨ev, i3⟩ => ?_
      subst ev
      rw [ek]
      simp only [Tr_opt]
      refine ih i3 (by have := putW_len (kvs := acc) (k := key x) (v := val x); omega) (fun x hx => step x (List.mem_cons_of_mem _ hx)) fun h3 i3 => ?_
      have := done h3 i3
      simpa [z] using this
    · simp only [z, if_false, Bool.false_eq_true]
      refine ih i1 (by omega) (fun x hx => step x (List.mem_cons_of_mem _ hx)) fun h3 i3 => ?_
      have := done h3 i3
      simpa [z] using this
@[simp ↓] theorem Tr_fLc {fi : Sl → M Itw} {vs : List Nat} : Tr (fLc fi vs p tst elt sl h) Q E = Tr (fi sl h) (fun it h => Tr (lcA it.gd p tst elt (wipeW sl vs) [] it.ws h) Q E) E := by
  unfold fLc; rw [Tr_bnd]
@[simp ↓] theorem Tr_fAny {fi : Sl → M Itw} {vs : List Nat} {stop : Bool} : Tr (fAny stop fi vs p tst elt sl h) Q E = Tr (fi sl h) (fun it h => Tr (anyA stop it.gd p tst elt (wipeW sl vs) it.ws h) Q E) E := by
  unfold fAny; rw [Tr_bnd]
@[simp ↓] theorem Tr_fDc {fi : Sl → M Itw} {vs : List Nat} : Tr (fDc fi vs p tst kx vx sl h) Q E = Tr (fi sl h) (fun it h => Tr (dcA it.gd p tst kx vx (wipeW sl vs) [] it.ws h) Q E) E := by
  unfold fDc; rw [Tr_bnd]
end
end Fv
set_option Elab.async false
set_option linter.all false
set_option maxRecDepth 100000
set_option maxHeartbeats 400000
/-! Px3: texts: words, lines, numbers -/
namespace Fv
open PySem PySem.Spec PyProof.Rows L2 Fh TL
theorem ofS_tl {x : String} : tl (Str.ofString x) = x.toList.map Char.toNat := by
  rw [Str.ofString_eq_toList]
theorem strOk_app {a b : Str} : PyData.strOk (a ++ b) = (PyData.strOk a && PyData.strOk b) := by
  have : ∀ x : Str, PyData.strOk x = (tl x).all fun c => decide (c < 0x110000) := fun x => by
    unfold PyData.strOk tl
    rw [Array.all_toList]
  rw [this, this, this, tl_append, List.all_append]
theorem strOk_tl {x : Str} : PyData.strOk x = (tl x).all fun c => decide (c < 0x110000) := by
  unfold PyData.strOk tl
  rw [Array.all_toList]
/-! ### words -/
theorem words_join {ss : List Str} (h : ss ≠ []) (hs : ∀ s ∈ ss, tl s ≠ [] ∧ ∀ c ∈ tl s, Unicode.isSpace c = false) : Txt.words (Txt.join " " ss) = ss := by
  refine map_tl_inj ?_
  rw [words_tl, join_eq, tl_join]
  have e : tl (Str.ofString " ") = [32] := by decide +kernel
  rw [e, wfold_join (ss.map tl) [] (by simpa using h) (by
    intro p hp
    obtain ⟨s, hs2, rfl⟩ := List.mem_map.mp hp
    exact hs s hs2)]
  rfl
theorem join_cons {y : Str} {x : Str} {ss : List Str} (h : ss ≠ []) : Txt.join y (x :: ss) = x ++ y ++ Txt.join y ss := by
  rw [join_eq, join_eq]
  cases ss with
  | nil => exact absurd rfl h
  | cons z r => rfl
theorem split_lines {ss : List Str} (h : ss ≠ []) (hs : ∀ s ∈ ss, 10 ∉ tl s) : Txt.split (Txt.join "\n" ss) "\n" = ss :=
  split_join (s := 10) (S := []) (by decide +kernel) (by decide +kernel) h hs
theorem tl_joinL {y : Str} {c : Nat} : ∀ {ss : List Str}, c ∈ tl (Txt.join y ss) → c ∈ tl y ∨ ∃ s ∈ ss, c ∈ tl s
  | [], h => by rw [join_eq] at h; exact absurd h (by simp [Str.join, Str.empty, tl])
  | [s], h => .inr ⟨s, by simp, by rw [join_eq] at h; exact h⟩
  | s :: t :: r, h => by
    rw [join_cons (by simp), tl_append, tl_append] at h
    rcases List.mem_append.mp h with h | h
    · rcases List.mem_append.mp h with h | h
      · exact .inr ⟨s, by simp, h⟩
      · exact .inl h
    · rcases tl_joinL h with h | ⟨z, hz, h⟩
      · exact .inl h
      · exact .inr ⟨z, List.mem_cons_of_mem _ hz, h⟩
/-! ### numbers -/
theorem tl_numS (n : Nat) : tl (numS n) = numL n := tl_num n
theorem numS_dig {n : Nat} {c : Nat} (h : c ∈ tl (numS n)) : 48 ≤ c ∧ c ≤ 57 := by
  rw [tl_numS] at h
  exact numL_digits n c h
theorem numS_ne (n : Nat) : tl (numS n) ≠ [] := by rw [tl_numS]; exact numL_ne n
theorem int_numS {n : Nat} (h : (numS n).length ≤ 4300) : intText? (numS n) = some (n : Int) := int_num (by rw [len_tl, tl_numS] at h; exact h)
theorem strOk_numS (n : Nat) : PyData.strOk (numS n) = true := by
  rw [strOk_tl]
  exact List.all_eq_true.mpr fun c hc => by have := numS_dig hc; exact decide_eq_true (by omega)
theorem numS_len {n : Nat} (h : n ≤ 999999) : (numS n).length ≤ 6 := by
  have := PyProof.Rows.toString_length_le (v := (n : Int)) (k := 6) (by omega) (by omega) (by omega)
  exact this
theorem space_dig {c : Nat} (h : 48 ≤ c ∧ c ≤ 57) : Unicode.isSpace c = false := by
  have : ∀ c ∈ (List.range 58), 48 ≤ c → Unicode.isSpace c = false := by decide +kernel
  exact this c (List.mem_range.mpr (by omega)) h.1
/-! ### words of small letters, figures and low strokes -/
def safeCs : List Nat := tl (Str.ofString "abcdefghijklmnopqrstuvwxyz0123456789_")
def NameOk (x : Str) : Prop := tl x ≠ [] ∧ (∀ c ∈ tl x, c ∈ safeCs) ∧ x ≠ Str.ofString "teams" ∧ x ≠ Str.ofString "points" ∧ x ≠ Str.ofString "rules" ∧ x ≠ Str.ofString "round"
def nameB (x : Str) : Bool := !(tl x).isEmpty && ((tl x).all fun c => safeCs.contains c) && (x != Str.ofString "teams" && (x != Str.ofString "points" && (x != Str.ofString "rules" && x != Str.ofString "round")))
theorem nameOk_of {x : Str} (h : nameB x = true) : NameOk x := by
  simp only [nameB, Bool.and_eq_true, bne_iff_ne, List.all_eq_true, List.contains_eq_mem, decide_eq_true_eq, Bool.not_eq_true', List.isEmpty_eq_false_iff] at h
  exact ⟨h.1.1, h.1.2, h.2.1, h.2.2.1, h.2.2.2.1, h.2.2.2.2⟩
theorem safe_sp {c : Nat} (h : c ∈ safeCs) : Unicode.isSpace c = false := (by decide +kernel : ∀ c ∈ safeCs, Unicode.isSpace c = false) c h
theorem safe_lt {c : Nat} (h : c ∈ safeCs) : c < 0x110000 := (by decide +kernel : ∀ c ∈ safeCs, c < 0x110000) c h
theorem safe_nl {c : Nat} (h : c ∈ safeCs) : c ≠ 10 := (by decide +kernel : ∀ c ∈ safeCs, c ≠ 10) c h
theorem NameOk.ok {x : Str} (h : NameOk x) : PyData.strOk x = true := by
  rw [strOk_tl]
  exact List.all_eq_true.mpr fun c hc => decide_eq_true (safe_lt (h.2.1 c hc))
/-- a sign in a text -/
theorem inW_sign {c : Nat} {y : Str} {neg : Bool} {h : LH} : inW neg (.str ⟨#[c]⟩) (.str y) h = some (.bl (if neg = true then !(!(Builtin.Str.occurrences y ⟨#[c]⟩ 0 y.length 1).isEmpty) else !(Builtin.Str.occurrences y ⟨#[c]⟩ 0 y.length 1).isEmpty), h) := rfl
theorem in_safe {c : Nat} (h : c ∈ safeCs) : (!(Builtin.Str.occurrences (Str.ofString "abcdefghijklmnopqrstuvwxyz0123456789_") ⟨#[c]⟩ 0 (Str.ofString "abcdefghijklmnopqrstuvwxyz0123456789_").length 1).isEmpty) = true :=
  (by decide +kernel : ∀ c ∈ safeCs, (!(Builtin.Str.occurrences (Str.ofString "abcdefghijklmnopqrstuvwxyz0123456789_") ⟨#[c]⟩ 0 (Str.ofString "abcdefghijklmnopqrstuvwxyz0123456789_").length 1).isEmpty) = true) c h
theorem in_dig {c : Nat} (h : 48 ≤ c ∧ c ≤ 57) : (!(Builtin.Str.occurrences (Str.ofString "0123456789") ⟨#[c]⟩ 0 (Str.ofString "0123456789").length 1).isEmpty) = true :=
  (by decide +kernel : ∀ c ∈ List.range 58, 48 ≤ c → (!(Builtin.Str.occurrences (Str.ofString "0123456789") ⟨#[c]⟩ 0 (Str.ofString "0123456789").length 1).isEmpty) = true) c (List.mem_range.mpr (by omega)) h.1
/-! ### slices -/
@[simp] theorem cutW_to {xs : List W} {k : Nat} : cutW xs none (some (k : Int)) = xs.take k := by
  unfold cutW
  rw [HT.sIx_none, HT.sIx_nat, List.drop_zero, Nat.sub_zero]
  by_cases z : k ≤ xs.length
  · rw [Nat.min_eq_left z]
  · rw [Nat.min_eq_right (by omega), List.take_of_length_le (by omega), List.take_of_length_le (by omega)]
@[simp] theorem cutW_toL {xs : List W} {k : Nat} : cutW xs none (some (no_index (OfNat.ofNat k) : Int)) = xs.take k := cutW_to (k := k)
@[simp] theorem cutW_to1 {xs : List W} : cutW xs none (some (1 : Int)) = xs.take 1 := cutW_to (k := 1)
@[simp] theorem cutW_from {xs : List W} {k : Nat} : cutW xs (some (k : Int)) none = xs.drop k := by
  unfold cutW
  rw [HT.sIx_none, HT.sIx_nat]
  by_cases z : k ≤ xs.length
  · rw [Nat.min_eq_left z, List.take_of_length_le (by simp)]
  · rw [Nat.min_eq_right (by omega), List.drop_of_length_le (by omega), List.drop_of_length_le (by omega)]
    simp
@[simp] theorem cutW_fromL {xs : List W} {k : Nat} : cutW xs (some (no_index (OfNat.ofNat k) : Int)) none = xs.drop k := cutW_from (k := k)
@[simp] theorem cutW_from1 {xs : List W} : cutW xs (some (1 : Int)) none = xs.drop 1 := cutW_from (k := 1)
/-! ### membership -/
theorem anyS {ss : List Str} {x : Str} : (ss.map W.str).any (fun z => beqW z (.str x)) = decide (x ∈ ss) := by
  rw [List.any_map]
  by_cases z : x ∈ ss
  · rw [decide_eq_true z]
    exact List.any_eq_true.mpr ⟨x, z, by simp⟩
  · rw [decide_eq_false z]
    refine List.any_eq_false.mpr fun y hy => ?_
    simp only [Function.comp, beqW_str, beq_iff_eq]
    exact fun e => z (e ▸ hy)
@[simp] theorem anyS2 {ss : List Str} {x : Str} : ss.any ((fun z => beqW z (.str x)) ∘ W.str) = decide (x ∈ ss) := by
  rw [← anyS, List.any_map]
@[simp] theorem beqWs_app {xs ys : List W} {y : W} : beqWs (xs ++ y :: ys) [] = false := by cases xs <;> simp
theorem pws_app {n : Nat} {xs ys : List W} : pws n (xs ++ ys) = (pws n xs && pws n ys) := by rw [pws_all, pws_all, pws_all, List.all_append]
@[simp] theorem gdL_def {j : Nat} {ws : List W} {h : LH} : gdL j ws h = (match seqW h (.ref j) with
    | some xs => beqWs xs ws
    | none => false) := rfl
@[simp] theorem beqWs_self {xs : List W} : beqWs xs xs = true := beqWs_rfl xs
@[simp] theorem atI_m1 {xs : List W} {x : W} : atI (xs ++ [x]) (-1) = some x := atI_last
@[simp] theorem ixN_m1 {n : Nat} : ixN (n + 1) (-1) = some n := ixN_last (by omega)
@[simp] theorem intW_num {n : Nat} {h : LH} : intW [.str (numS n)] h = if (numS n).length ≤ 640 then some (.int n, h) else none := by
  show (if (numS n).length ≤ 640 then (intText? (numS n)).map fun n => (W.int n, h) else none) = _
  by_cases z : (numS n).length ≤ 640
  · rw [if_pos z, if_pos z, int_numS (by omega)]; rfl
  · rw [if_neg z, if_neg z]
theorem enumW_app {xs ys : List W} : ∀ {n : Nat}, enumW n (xs ++ ys) = enumW n xs ++ enumW (n + xs.length) ys := by
  induction xs with
  | nil => intro n; rfl
  | cons x xs ih =>
    intro n
    rw [List.cons_append, enumW, enumW, ih, List.cons_append, List.length_cons]
    congr 3
    omega
@[simp] theorem anyA_nil {gd : LH → Bool} {p : Pat} {tst : Sl → M Bool} {elt : Sl → M W} {sl : Sl} {h : LH} {stop : Bool} {Q : W → LH → Prop} {E : EQ} : Tr (anyA stop gd p tst elt sl [] h) Q E = (gd h = true ∧ Q (.bl (!stop)) h) := by
  show Tr (if gd h = true then _ else _) Q E = _
  by_cases z : gd h = true <;> simp [z]
/-- put in a dict all names that differ -/
theorem put_new {kvs : List (Key × W)} {k : Key} {v : W} (h : k ∉ kvs.map (·.1)) : putW kvs k v = kvs ++ [(k, v)] := by
  unfold putW
  rw [if_neg]
  simp only [List.any_eq_true, decide_eq_true_eq, not_exists, not_and]
  intro q hq e
  exact h (List.mem_map.mpr ⟨q, hq, e⟩)
theorem fold_new {α : Type} {key : α → Key} {val : α → W} : ∀ {xs : List α} {acc : List (Key × W)}, (acc.map (·.1) ++ xs.map key).Nodup → xs.foldl (fun a x => putW a (key x) (val x)) acc = acc ++ xs.map fun x => (key x, val x)
  | [], _, _ => by simp
  | x :: xs, acc, h => by
    have hx : key x ∉ acc.map (·.1) := fun z => by
      have := (List.nodup_append.mp h).2.2 _ z _ (List.mem_map.mpr ⟨x, by simp, rfl⟩)
      exact this rfl
    rw [List.foldl_cons, put_new hx, fold_new (by simpa using h)]
    simp
end Fv
set_option Elab.async false
set_option linter.all false
set_option maxRecDepth 100000
set_option maxHeartbeats 1000000
namespace K27
open PySem PySem.Spec PyProof.Rows L2 Fh Fv
/-- dice -/
def Dice (h : LH) (i : Nat) : Prop := ∃ a b c : Int, h[i]? = some (.lst [.int a, .int b, .int c])
theorem p_law_roll {h : LH} {i : Nat} {n : Int} (hd : Dice h i) (h0 : 0 < n) (h1 : n < 1073741824) :
    Tr (f_law_roll [.ref i, .int n] h) (fun w h' => ∃ r, w = .int r ∧ 0 ≤ r ∧ r < n ∧ Dice h' i ∧ Ch [i] h h' ∧ h'.length = h.length) nEx := by
  obtain ⟨a, b, c, e⟩ := hd
  have eq1 : ∀ z : Int, eqW false (.int c) (.int z) h = some (.bl (c == z), h) := fun z => eqW_pw (by simp) (by simp)
  have fin : ∀ x y z, Dice (h.set i (.lst [.int x, .int y, .int z])) i := fun x y z => ⟨x, y, z, look_set (by rw [e]; rfl)⟩
  have ch : ∀ o, Ch [i] h (h.set i o) := fun o => .set (by simp)
  have lk : ∀ o, (h.set i o)[i]? = some o := fun o => look_set (by rw [e]; rfl)
  have m0 : ∀ z : Int, 0 ≤ z % n := fun z => Int.emod_nonneg _ (by omega)
  have m1 : ∀ z : Int, z % n < n := fun z => Int.emod_lt_of_pos _ h0
  rw [Tr_run]
  simp [F_law_roll, e, lk, eq1, h0, h1, ch, fin, List.set_set, m0, m1]
theorem p_law_dice {h : LH} {c : Int} :
    Tr (f_law_dice [.int c] h) (fun w h' => ∃ i : Nat, w = .ref i ∧ h.length ≤ i ∧ Dice h' i ∧ Ch [] h h') nEx := by
  have d : ∀ (x y z : Int), Dice (h ++ [.lst [.int x, .int y, .int z]]) h.length := fun x y z => ⟨x, y, z, by simp⟩
  have c : ∀ t, Ch [] h (h ++ t) := fun t => .app
  rw [Tr_run]
  simp [F_law_dice, d, c]
def GotDice (n : Nat) (h : LH) (w : W) (h' : LH) : Prop := ∃ (j : Nat) (ds : List Nat), w = .ref j ∧ h'[j]? = some (.lst (ds.map W.ref)) ∧ ds.length ≤ n ∧ (∀ d ∈ ds, Dice h' d) ∧ (∀ d ∈ ds, h.length ≤ d ∧ d ≠ j) ∧ ds.Nodup ∧ Ch [] h h'
theorem Dice.ch {S : List Nat} {h h' : LH} {i : Nat} (d : Dice h i) (c : Ch S h h') (n : i ∉ S) : Dice h' i := by
  obtain ⟨a, b, e, z⟩ := d
  exact ⟨a, b, e, c.at z n⟩
theorem Dice.lt {h : LH} {i : Nat} (d : Dice h i) : i < h.length := by
  obtain ⟨a, b, c, e⟩ := d
  exact lt_of_look e
theorem p_law_rounds {h : LH} {i : Nat} {ns : List Int} {n : Nat} (e : h[i]? = some (.lst (ns.map W.int)) ∨ h[i]? = some (.rd (ns.map W.int))) (hn : 0 < n) (hn2 : n < 1000) (hl : ns.length ≤ 63) :
    Tr (f_law_rounds [.ref i, .int n] h) (GotDice n h) nEx := by
  have key : ∀ (ms : List Int) (h1 : LH) (gd : LH → Bool) (a : List Nat) sl, Ch [] h h1 → (∀ h2, Ch [] h1 h2 → gd h2 = true) → a.length + ms.length ≤ n → (∀ d ∈ a, Dice h1 d) → (∀ d ∈ a, h.length ≤ d) → a.Nodup → 3 < sl.length →
      Tr (lcA gd (.nm 3) bYes (fCall 1 (f_law_dice) (aCons (fVar 3) aNil)) sl (a.map W.ref) (ms.map W.int) h1) (GotDice n h) nEx := by
    intro ms
    induction ms with
    | nil =>
      intro h1 gd a sl c g l d1 d2 nd hs
      show Tr (if gd h1 = true then _ else _) _ _
      rw [if_pos (g _ .refl)]
      exact ⟨h1.length, a, rfl, by simp, by simpa using l, fun d hd => (d1 d hd).ch (S := []) .app (by simp), fun d hd => ⟨d2 d hd, Nat.ne_of_lt (d1 d hd).lt⟩, nd, c.push⟩
    | cons m ms ih =>
      intro h1 gd a sl c g l d1 d2 nd hs
      simp only [List.length_cons] at l
      have l2 : a.length < 100000 := by omega
      simp only [List.map_cons, lcA, g _ .refl, true_and, List.length_map, LIM_eq, l2, if_true, bindP_nm, Tr_bnd, Tr_nx1, Tr_bYes, Tr_fCall, Tr_cons, Tr_var, Tr_nil, List.getElem?_set_self hs, Option.getD_some, Tr_opt, List.length_singleton, List.length_cons, List.length_nil, Nat.zero_add]
      refine p_law_dice.ok fun w h2 ⟨j, ew, hj, dj, c2⟩ => ?_
      subst ew
      have := ih h2 gd (a ++ [j]) sl (c.tr c2) (fun h3 c3 => g h3 (c2.tr c3)) (by simp; omega) ?_ ?_ ?_ hs
      · simpa using this
      · intro d hd
        rcases List.mem_append.mp hd with hd | hd
        · exact (d1 d hd).ch c2 (by simp)
        · rw [List.mem_singleton.mp hd]; exact dj
      · intro d hd
        rcases List.mem_append.mp hd with hd | hd
        · exact d2 d hd
        · rw [List.mem_singleton.mp hd]; have := c.len; omega
      · refine List.nodup_append.mpr ⟨nd, by simp, fun x hx y hy => ?_⟩
        rw [List.mem_singleton.mp hy]
        have := (d1 x hx).lt
        omega
  have key2 : ∀ (ms : List Int) (h1 : LH) (j : Nat) sl, Ch [] h h1 → h1[j]? = some (.lst (ms.map W.int)) → ms.length ≤ n → 3 < sl.length → Tr (lcA (gdL j (ms.map W.int)) (.nm 3) bYes (fCall 1 (f_law_dice) (aCons (fVar 3) aNil)) sl [] (ms.map W.int) h1) (GotDice n h) nEx := by
    intro ms h1 j sl c ej l hs
    refine key ms h1 _ [] sl c (fun h2 c2 => gdL_eq (by simp [c2.at ej])) (by simpa using l) (by simp) (by simp) (by simp) hs
  obtain ⟨ms, cut, hms⟩ : ∃ ms : List Int, cutW (ns.map W.int) none (some (n : Int)) = ms.map W.int ∧ ms.length ≤ n := by
    refine ⟨ns.take n, ?_, by simp; omega⟩
    unfold cutW
    rw [HT.sIx_none, HT.sIx_nat, List.length_map, List.drop_zero, Nat.sub_zero, ← List.map_take]
    congr 1
    by_cases z : n ≤ ns.length
    · rw [Nat.min_eq_left z]
    · rw [Nat.min_eq_right (by omega), List.take_of_length_le (by omega), List.take_of_length_le (by omega)]
  rw [Tr_run]
  have c : ∀ t, Ch [] h (h ++ t) := fun t => .app
  have e : ∃ o, h[i]? = some o ∧ (o = .lst (ns.map W.int) ∨ o = .rd (ns.map W.int)) := by rcases e with e | e <;> exact ⟨_, e, by simp⟩
  obtain ⟨o, e, eo⟩ := e
  rcases eo with rfl | rfl
  all_goals
    simp [F_law_rounds, e, cut, beqWs_map_nil, -cutW_to]
    refine ⟨fun _ => ?_, fun _ => ?_⟩
    · refine key2 [0] _ _ _ (c _) ?_ ?_ ?_ <;> simp
      omega
    · refine key2 ms _ _ _ (c _) ?_ hms ?_ <;> simp
end K27
set_option Elab.async false
set_option linter.all false
set_option maxRecDepth 100000
set_option maxHeartbeats 1000000
namespace K27
open PySem PySem.Spec PyProof.Rows L2 Fh Fv
/-! a season: its text, told -/
structure Game where
  home : Str
  away : Str
  sc : Option (Nat × Nat)
def Game.one (g : Game) : W := match g.sc with
  | none => .non
  | some p => .int (p.1 : Nat)
def Game.other (g : Game) : W := match g.sc with
  | none => .non
  | some p => .int (p.2 : Nat)
def Game.w (g : Game) : W := .tup [.str g.home, .str g.away, g.one, g.other]
def roundW (gs : List Game) : W := .tup (gs.map Game.w)
def scS : Option (Nat × Nat) → Str
  | none => ""
  | some p => (" " ++ numS p.1) ++ " " ++ numS p.2
def Game.s (g : Game) : Str := g.home ++ " - " ++ g.away ++ scS g.sc
structure Sea where
  teams : List Str
  worth : List Nat
  rules : List Str
  rounds : List (List Game)
abbrev wI (ns : List Nat) : List W := ns.map fun n => W.int (n : Nat)
abbrev wS (ss : List Str) : List W := ss.map W.str
def Sea.fs (s : Sea) (j : Nat) : List (Str × W) := [("teams", .tup (wS s.teams)), ("worth", .tup (wI s.worth)), ("rules", .tup (wS s.rules)), ("rounds", .ref j)]
def SeaAt (h : LH) (i j : Nat) (s : Sea) : Prop := h[i]? = some (.ins "Season" (s.fs j)) ∧ h[j]? = some (.lst (s.rounds.map roundW))
def rowsOf (rs : List (List Game)) : List Str := (rs.map fun gs => ("round" : Str) :: gs.map Game.s).flatten
def Sea.rows (s : Sea) : List Str := [("teams " : Str) ++ Txt.join " " s.teams, ("points " : Str) ++ Txt.join " " (s.worth.map numS), ("rules " : Str) ++ Txt.join ", " s.rules] ++ rowsOf s.rounds
def Sea.text (s : Sea) : Str := Txt.join "\n" s.rows
structure Sm (s : Sea) : Prop where
  t : s.teams.length ≤ 8
  tl : ∀ x ∈ s.teams, x.length ≤ 8
  w : s.worth.length ≤ 4
  wl : ∀ x ∈ s.worth, x ≤ 999999
  r : s.rules.length ≤ 10
  rl : ∀ x ∈ s.rules, x.length ≤ 12
  n : s.rounds.length ≤ 16
  g : ∀ gs ∈ s.rounds, gs.length ≤ 4
  gl : ∀ gs ∈ s.rounds, ∀ g ∈ gs, g.home.length ≤ 8 ∧ g.away.length ≤ 8 ∧ ∀ p, g.sc = some p → p.1 ≤ 999999 ∧ p.2 ≤ 999999
theorem len_lit {x : String} {n : Nat} (h : decide ((Str.ofString x).length = n) = true) : (Str.ofString x).length = n := of_decide_eq_true h
theorem sum_le {α : Type} (f : α → Nat) (c : Nat) : ∀ {xs : List α}, (∀ x ∈ xs, f x ≤ c) → (xs.map f).sum ≤ xs.length * c
  | [], _ => by simp
  | x :: xs, h => by
    have := sum_le f c (xs := xs) fun y hy => h y (List.mem_cons_of_mem _ hy)
    have h0 := h x (by simp)
    simp only [List.map_cons, List.sum_cons, List.length_cons, Nat.add_mul]
    omega
theorem scS_len {o : Option (Nat × Nat)} (h : ∀ p, o = some p → p.1 ≤ 999999 ∧ p.2 ≤ 999999) : (scS o).length ≤ 14 := by
  cases o with
  | none => decide +kernel
  | some p =>
    obtain ⟨h1, h2⟩ := h p rfl
    have := numS_len h1
    have := numS_len h2
    have : (Str.ofString " ").length = 1 := by decide +kernel
    simp only [scS, Str.length_append]
    omega
theorem join_len (y : Str) (ss : List Str) : (Txt.join y ss).length ≤ (ss.map Str.length).sum + ss.length * y.length := by
  rw [TL.join_eq]
  exact StrLaws.join_length_le y ss
theorem rowsOf_len {rs : List (List Game)} (h : ∀ gs ∈ rs, gs.length ≤ 4) : (rowsOf rs).length ≤ rs.length * 5 := by
  unfold rowsOf
  rw [List.length_flatten, List.map_map]
  refine sum_le _ 5 fun gs hg => ?_
  have := h gs hg
  simp only [Function.comp, List.length_cons, List.length_map]
  omega
theorem gameS_len {g : Game} (h : g.home.length ≤ 8 ∧ g.away.length ≤ 8 ∧ ∀ p, g.sc = some p → p.1 ≤ 999999 ∧ p.2 ≤ 999999) : g.s.length ≤ 40 := by
  obtain ⟨h1, h2, h3⟩ := h
  have := scS_len h3
  have : (Str.ofString " - ").length = 3 := by decide +kernel
  simp only [Game.s, Str.length_append]
  omega
theorem rowsOf_sum {rs : List (List Game)} (h : ∀ gs ∈ rs, ∀ g ∈ gs, g.home.length ≤ 8 ∧ g.away.length ≤ 8 ∧ ∀ p, g.sc = some p → p.1 ≤ 999999 ∧ p.2 ≤ 999999) : ((rowsOf rs).map Str.length).sum ≤ (rowsOf rs).length * 40 := by
  refine sum_le _ 40 fun x hx => ?_
  unfold rowsOf at hx
  obtain ⟨l, hl, hx⟩ := List.mem_flatten.mp hx
  obtain ⟨gs, hg, rfl⟩ := List.mem_map.mp hl
  rcases List.mem_cons.mp hx with rfl | hx
  · exact Nat.le_of_ble_eq_true (by decide +kernel)
  · obtain ⟨g, hg2, rfl⟩ := List.mem_map.mp hx
    exact gameS_len (h gs hg g hg2)
theorem rowsOf_snoc {d : List (List Game)} {gs : List Game} : rowsOf (d ++ [gs]) = rowsOf d ++ ("round" : Str) :: gs.map Game.s := by
  unfold rowsOf; simp
theorem p_told {h : LH} {i j : Nat} {s : Sea} (hs : SeaAt h i j s) (sm : Sm s) :
    Tr (f_told [.ref i] h) (fun w h' => w = .str s.text ∧ Ch [] h h') nEx := by
  obtain ⟨ei, ej⟩ := hs
  have lit1 : (Str.ofString " ").length = 1 := by decide +kernel
  have lit2 : (Str.ofString ", ").length = 2 := by decide +kernel
  have lit3 : (Str.ofString "teams ").length = 6 := by decide +kernel
  have lit4 : (Str.ofString "points ").length = 7 := by decide +kernel
  have lit5 : (Str.ofString "rules ").length = 6 := by decide +kernel
  have t1 := sum_le Str.length 8 sm.tl
  have t2 := join_len " " s.teams
  have t3 := sm.t
  have w1 := sum_le Str.length 6 (xs := s.worth.map numS) (by intro x hx; obtain ⟨n, hn, rfl⟩ := List.mem_map.mp hx; exact numS_len (sm.wl n hn))
  have w2 := join_len " " (s.worth.map numS)
  have w3 := sm.w
  have r1 := sum_le Str.length 12 sm.rl
  have r2 := join_len ", " s.rules
  have r3 := sm.r
  rw [List.length_map] at w1
  rw [List.length_map] at w2
  rw [lit1] at t2 w2
  rw [lit2] at r2
  rw [Tr_run]
  simp [F_told, ei, ej, Sea.fs, look_app, lit1, lit2, lit3, lit4, lit5]
  refine ⟨by omega, by omega, ?_⟩
  refine lc_map (f := fun n : Nat => W.int n) (g := fun n => .str (numS n)) (fun _ => true) (fun h1 => h1 = h) rfl (fun _ _ => rfl) (by simp; omega) (fun n hn h1 e => ?_) fun h1 e => ?_
  · subst e
    have := sm.wl n hn
    refine ⟨_, rfl, ?_⟩
    simp
    omega
  subst e
  have fl : (s.worth.filter fun _ => true) = s.worth := by simp
  have wm : (s.worth.map fun n => W.str (numS n)) = (s.worth.map numS).map W.str := by simp
  simp only [fl, List.nil_append, wm]
  simp [F_told, ei, ej, Sea.fs, look_app, lit1, lit2, lit3, lit4, lit5, -List.map_map]
  refine ⟨by omega, by omega, by omega, by omega, ?_⟩
  have lt1 : ∀ x : List Str, x = [Str.ofString "teams " ++ Txt.join (Str.ofString " ") s.teams, Str.ofString "points " ++ Txt.join (Str.ofString " ") (s.worth.map numS), Str.ofString "rules " ++ Txt.join (Str.ofString ", ") s.rules] → x.map W.str = [W.str (Str.ofString "teams " ++ Txt.join (Str.ofString " ") s.teams), W.str (Str.ofString "points " ++ Txt.join (Str.ofString " ") (s.worth.map numS)), W.str (Str.ofString "rules " ++ Txt.join (Str.ofString ", ") s.rules)] := by
    rintro _ rfl; rfl
  generalize hdd : [Str.ofString "teams " ++ Txt.join (Str.ofString " ") s.teams, Str.ofString "points " ++ Txt.join (Str.ofString " ") (s.worth.map numS), Str.ofString "rules " ++ Txt.join (Str.ofString ", ") s.rules] = hd at lt1
  rw [← lt1 hd rfl]
  have hlen : hd.length = 3 := by rw [← hdd]; rfl
  have hsum : (hd.map Str.length).sum ≤ 400 := by
    rw [← hdd]
    simp only [List.map_cons, List.map_nil, List.sum_cons, List.sum_nil, Str.length_append, lit3, lit4, lit5]
    omega
  have nj : h1.length + 1 ≠ j := by have := lt_of_look ej; omega
  have ni : h1.length + 1 ≠ i := by have := lt_of_look ei; omega
  have lit6 : (Str.ofString " - ").length = 3 := by decide +kernel
  have lit7 : (Str.ofString "\n").length = 1 := by decide +kernel
  have lit8 : (Str.ofString "").length = 0 := by decide +kernel
  have dg : ∀ {d : List (List Game)} {gs : List Game} {r}, d ++ gs :: r = s.rounds → (rowsOf d).length ≤ 80 ∧ gs ∈ s.rounds := by
    intro d gs r e
    have a := rowsOf_len (rs := d) fun g hg => sm.g g (by rw [← e]; simp [hg])
    have b := sm.n
    rw [← e, List.length_append] at b
    exact ⟨by omega, by rw [← e]; simp⟩
  refine for_map (f := roundW) (fun d sl h' => ∃ a b c e f, sl = [some (.ref i), some (.ref (h1.length + 1)), a, b, c, e, f] ∧ h'[h1.length + 1]? = some (.lst ((hd ++ rowsOf d).map W.str)) ∧ Ch [] h1 h') ⟨_, _, _, _, _, rfl, by simp [rowsOf], .app⟩ (fun d sl h' ⟨_, _, _, _, _, _, _, c⟩ => gdL_eq (by simp [c.at ej])) (fun d gs r sl h' ed ⟨_, _, _, _, _, esl, en, c⟩ => ?_) (fun sl h' ⟨_, _, _, _, _, esl, en, c⟩ => ?_)
  · subst esl
    obtain ⟨dl, gm⟩ := dg ed
    refine ⟨_, rfl, ?_⟩
    simp [en, roundW]
    refine ⟨by omega, ?_⟩
    refine for_map (f := Game.w) (fun d2 sl h' => ∃ a b c e f, sl = [some (.ref i), some (.ref (h1.length + 1)), a, b, c, e, f] ∧ h'[h1.length + 1]? = some (.lst ((hd ++ (rowsOf d ++ ("round" : Str) :: d2.map Game.s)).map W.str)) ∧ Ch [] h1 h') ⟨_, _, _, _, _, rfl, ?_, ?_⟩ (fun _ _ _ _ => rfl) (fun d2 g r2 sl h' ed2 ⟨_, _, _, _, _, esl, en, c⟩ => ?_) (fun sl h' ⟨_, _, _, _, _, esl, en, c⟩ => ?_)
    · simpa using look_set (by rw [en]; rfl)
    · exact c.put (.inr (by omega))
    · subst esl
      have gm2 : g ∈ gs := by rw [← ed2]; simp
      have d2l : d2.length ≤ 4 := by have := sm.g gs gm; rw [← ed2, List.length_append] at this; omega
      obtain ⟨g1, g2, g3⟩ := sm.gl gs gm g gm2
      refine ⟨_, rfl, ?_⟩
      cases esc : g.sc with
      | none =>
        simp [Game.w, Game.one, Game.other, esc, lit6, lit8, en, Str.length_append]
        and_intros <;> first | omega | exact c.put (.inr (by omega)) | skip
        rw [look_set (by rw [en]; rfl)]
        simp [Game.s, scS, esc]
      | some p =>
        obtain ⟨p1, p2⟩ := g3 p esc
        have := numS_len p1
        have := numS_len p2
        simp [Game.w, Game.one, Game.other, esc, lit6, lit1, en, Str.length_append]
        and_intros <;> first | omega | exact c.put (.inr (by omega)) | skip
        rw [look_set (by rw [en]; rfl)]
        simp [Game.s, scS, esc]
    · subst esl
      exact ⟨⟨_, _, _, _, _, rfl⟩, by rw [en, rowsOf_snoc]; simp, c⟩
  · subst esl
    simp [en, -List.map_append]
    have a := rowsOf_len sm.g
    have b := rowsOf_sum sm.gl
    have := sm.n
    rw [List.map_append, List.sum_append, lit7]
    refine ⟨by omega, ?_, c⟩
    rw [Sea.text, Sea.rows, hdd]
end K27
set_option Elab.async false
set_option linter.all false
set_option maxRecDepth 100000
set_option maxHeartbeats 1000000
namespace K27
open PySem PySem.Spec PyProof.Rows L2 Fh Fv TL
/-! words looked at -/
theorem p_is_count {h : LH} {n : Nat} (hn : n ≤ 999999) : Tr (f_is_count [.str (numS n)] h) (fun w h' => w = .bl true ∧ h' = h) nEx := by
  have l := numS_len hn
  have l0 : 0 < (numS n).length := by
    have := numS_ne n
    rw [len_tl]
    exact List.length_pos_iff.mpr this
  rw [Tr_run]
  simp [F_is_count, l0]
  refine ⟨by omega, fun _ => ?_, by omega⟩
  simp [itStr, Fv.signs]
  refine any_map (fun _ => true) (fun _ => true) (fun h1 => h1 = h) rfl (fun _ _ => rfl) (fun c hc h1 e => ?_) fun h1 e => ?_
  · subst e
    refine ⟨_, rfl, ?_⟩
    have := in_dig (numS_dig hc)
    simpa [inW_sign] using this
  · subst e
    simp
theorem p_is_word {h : LH} {x : Str} (hx : NameOk x) (hl : x.length ≤ 1000) : Tr (f_is_word [.str x] h) (fun w h' => w = .bl true ∧ h' = h) nEx := by
  have ne : x ≠ Str.ofString "" := fun e => hx.1 (by rw [e]; decide +kernel)
  have s0 : PyData.strOk (Str.ofString "") = true := by decide +kernel
  rw [Tr_run]
  simp [F_is_word, hx.ok, s0, ne, itStr, Fv.signs]
  refine any_map (fun _ => true) (fun _ => true) (fun h1 => h1 = h) rfl (fun _ _ => rfl) (fun c hc h1 e => ?_) fun h1 e => ?_
  · subst e
    refine ⟨_, rfl, ?_⟩
    have := in_safe (hx.2.1 c hc)
    simpa [inW_sign] using this
  · subst e
    simp
theorem p_is_name {h : LH} {x : Str} (hx : NameOk x) (hl : x.length ≤ 1000) : Tr (f_is_name [.str x] h) (fun w h' => w = .bl true ∧ h' = h) nEx := by
  have s1 : PyData.strOk (Str.ofString "teams") = true := by decide +kernel
  have s2 : PyData.strOk (Str.ofString "points") = true := by decide +kernel
  have s3 : PyData.strOk (Str.ofString "rules") = true := by decide +kernel
  have s4 : PyData.strOk (Str.ofString "round") = true := by decide +kernel
  rw [Tr_run]
  simp [F_is_name]
  refine (p_is_word hx hl).ok fun w h1 ⟨e1, e2⟩ => ?_
  subst e1 e2
  simp [hx.ok, s1, s2, s3, s4, Ne.symm hx.2.2.1, Ne.symm hx.2.2.2.1, Ne.symm hx.2.2.2.2.1, Ne.symm hx.2.2.2.2.2]
theorem p_doubled {h : LH} {i : Nat} {ss : List Str} (e : h[i]? = some (.lst (wS ss))) (nd : ss.Nodup) (l : ss.length ≤ 1000) : Tr (f_doubled [.ref i] h) (fun w h' => w = .bl false ∧ Ch [] h h') nEx := by
  rw [Tr_run]
  simp [F_doubled, e]
  refine dc_map (key := fun s => .inr s) (val := fun _ => .bl true) (fun _ => true) (fun h1 => h1 = h) rfl (fun h1 e1 => gdL_eq (by rw [e1]; simp [e])) (by simp; omega) (fun s hs h1 e1 => ?_) fun h1 e1 => ?_
  · subst e1
    exact ⟨_, rfl, by simp⟩
  · subst e1
    rw [fold_new (by simpa [List.Nodup, List.pairwise_map] using nd)]
    have := Ch.app (S := []) (h := h1) (t := [.dct (ss.map fun s => (.inr s, W.bl true))])
    simp [e, look_app, this]
end K27
set_option Elab.async false
set_option linter.all false
set_option maxRecDepth 100000
set_option maxHeartbeats 1000000
namespace K27
open PySem PySem.Spec PyProof.Rows L2 Fh Fv TL
def scWs : Option (Nat × Nat) → List Str
  | none => []
  | some p => [numS p.1, numS p.2]
def Game.ws (g : Game) : List Str := [g.home, ("-" : Str), g.away] ++ scWs g.sc
structure GOk (teams : List Str) (g : Game) : Prop where
  h : g.home ∈ teams
  a : g.away ∈ teams
  ne : g.home ≠ g.away
  sc : ∀ p, g.sc = some p → p.1 ≤ 999999 ∧ p.2 ≤ 999999
def Apart (g g' : Game) : Prop := g.home ≠ g'.home ∧ g.home ≠ g'.away ∧ g.away ≠ g'.home ∧ g.away ≠ g'.away
def InT (teams : List Str) (rounds : List (List Game)) : Prop := ∀ gs ∈ rounds, ∀ g ∈ gs, g.home ∈ teams ∧ g.away ∈ teams
theorem game_pw {g : Game} {n : Nat} (h : PyData.strOk g.home = true) (a : PyData.strOk g.away = true) : pw (n + 1) g.w = true := by
  cases esc : g.sc <;> simp [Game.w, Game.one, Game.other, esc, h, a]
theorem rounds_pws {teams : List Str} {rounds : List (List Game)} (h : InT teams rounds) (tn : ∀ x ∈ teams, NameOk x) : pws 7 (rounds.map roundW) = true := by
  rw [pws_all]
  simp only [List.all_map, List.all_eq_true, Function.comp]
  intro gs hg
  simp only [roundW, pw_tup, pws_all, List.all_map, List.all_eq_true, Function.comp]
  intro g hg2
  obtain ⟨h1, h2⟩ := h gs hg g hg2
  exact game_pw (tn _ h1).ok (tn _ h2).ok
theorem p_read_game {h : LH} {i j k : Nat} {n : Int} {s : Sea} {g : Game} {done : List (List Game)} {cur : List Game} (hs : SeaAt h i j { s with rounds := done ++ [cur] }) (hk : h[k]? = some (.lst (wS g.ws))) (hg : GOk s.teams g)
    (tn : ∀ x ∈ s.teams, NameOk x) (ap : ∀ g' ∈ cur, Apart g g') (it : InT s.teams (done ++ [cur])) (hd : done.length ≤ 100) (hc : cur.length ≤ 100) :
    Tr (f_read_game [.ref i, .ref k, .int n] h) (fun w h' => w = .non ∧ SeaAt h' i j { s with rounds := done ++ [cur ++ [g]] } ∧ Ch [j] h h') nEx := by
  obtain ⟨ei, ej⟩ := hs
  have o1 := (tn _ hg.h).ok
  have o2 := (tn _ hg.a).ok
  have o3 : PyData.strOk (Str.ofString "-") = true := by decide +kernel
  have po : pws 7 (wS s.teams) = true := pws_strs fun x hx => (tn x hx).ok
  have pr := rounds_pws it tn
  have ir := it cur (by simp)
  rw [List.map_append, List.map_cons, List.map_nil] at pr ej
  have ij : j ≠ i := fun z => by subst z; rw [ei] at ej; cases ej
  rw [Tr_run]
  have app2 : ∀ g' ∈ cur, PyData.strOk g'.home = true ∧ PyData.strOk g'.away = true ∧ ¬ g'.home = g.home ∧ ¬ g'.away = g.home ∧ ¬ g'.home = g.away ∧ ¬ g'.away = g.away := fun g' hg' =>
    ⟨(tn _ (ir g' hg').1).ok, (tn _ (ir g' hg').2).ok, Ne.symm (ap g' hg').1, Ne.symm (ap g' hg').2.1, Ne.symm (ap g' hg').2.2.1, Ne.symm (ap g' hg').2.2.2⟩
  cases esc : g.sc with
  | none =>
    simp [F_read_game, ei, ej, hk, Game.ws, esc, scWs, o1, o2, o3, po, Sea.fs, pr, hg.h, hg.a, hg.ne, look_app]
    refine any_map (f := Game.w) (fun _ => true) (fun _ => false) (fun h1 => h1 = h ++ [.lst [], .lst []]) rfl (fun _ _ => rfl) (fun g' hg' h1 e => ?_) fun h1 e => ?_
    · subst e
      obtain ⟨q1, q2, q3, q4, q5, q6⟩ := app2 g' hg'
      refine ⟨_, rfl, ?_⟩
      simp [hk, Game.ws, Game.w, look_app, q1, q2, q3, q4, q5, q6, o1, o2]
    · subst e
      simp [F_read_game, ei, ej, hk, Game.ws, esc, scWs, o1, o2, o3, po, Sea.fs, pr, hg.h, hg.a, hg.ne, look_app, roundW]
      and_intros
      · omega
      · rw [look_ne ij, look_app (by rw [ei]; rfl), ei]; rfl
      · rw [look_set (by rw [look_app (by rw [ej]; rfl), ej]; rfl)]
        simp [roundW, Game.w, Game.one, Game.other, esc]
      · exact Ch.app.put (.inl (by simp))
  | some p =>
    obtain ⟨p1, p2⟩ := hg.sc p esc
    have l1 := numS_len p1
    have l2 := numS_len p2
    simp [F_read_game, ei, ej, hk, Game.ws, esc, scWs, o1, o2, o3, po, Sea.fs, pr, hg.h, hg.a, hg.ne, look_app]
    refine any_map (f := fun n : Nat => W.str (numS n)) (xs := [p.1, p.2]) (fun _ => true) (fun _ => false) (fun h1 => h1 = h ++ [.lst [], .lst [.str (numS p.1), .str (numS p.2)]]) rfl (fun h1 e => by subst e; simp) (fun m hm h1 e => ?_) fun h1 e => ?_
    · subst e
      refine ⟨_, rfl, ?_⟩
      have hm2 : m ≤ 999999 := by
        rcases List.mem_cons.mp hm with rfl | hm
        · exact p1
        · rw [List.mem_singleton.mp hm]; exact p2
      simp
      refine (p_is_count hm2).ok fun w h2 ⟨e1, e2⟩ => ?_
      subst e1 e2
      simp
    · subst e
      simp [F_read_game, ei, ej, hk, Game.ws, esc, scWs, o1, o2, o3, po, Sea.fs, pr, hg.h, hg.a, hg.ne, look_app, roundW]
      refine any_map (f := Game.w) (fun _ => true) (fun _ => false) (fun h1 => h1 = h ++ [.lst [], .lst [.str (numS p.1), .str (numS p.2)]]) rfl (fun _ _ => rfl) (fun g' hg' h1 e => ?_) fun h1 e => ?_
      · subst e
        obtain ⟨q1, q2, q3, q4, q5, q6⟩ := app2 g' hg'
        refine ⟨_, rfl, ?_⟩
        simp [hk, Game.ws, Game.w, look_app, q1, q2, q3, q4, q5, q6, o1, o2]
      · subst e
        simp [F_read_game, ei, ej, hk, Game.ws, esc, scWs, o1, o2, o3, po, Sea.fs, pr, hg.h, hg.a, hg.ne, look_app, roundW]
        and_intros
        · omega
        · omega
        · omega
        · rw [look_ne ij, look_app (by rw [ei]; rfl), ei]; rfl
        · rw [look_set (by rw [look_app (by rw [ej]; rfl), ej]; rfl)]
          simp [roundW, Game.w, Game.one, Game.other, esc]
        · exact Ch.app.put (.inl (by simp))
end K27
set_option Elab.async false
set_option linter.all false
set_option maxRecDepth 100000
set_option maxHeartbeats 1000000
namespace K27
open PySem PySem.Spec PyProof.Rows L2 Fh Fv TL
/-- rules as they stand in a text -/
structure RulesOk (rules : List Str) (ws : List Str) : Prop where
  w : Txt.words ((("rules " : Str) ++ Txt.join ", " rules)) = Str.ofString "rules" :: ws
  s : Txt.split (Txt.join " " ws) ", " = rules
  l : (Txt.join " " ws).length ≤ 1000
  ln : (ws.map Str.length).sum + ws.length ≤ 1000
  wo : ∀ x ∈ ws, PyData.strOk x = true
  nl : 10 ∉ tl ((("rules " : Str) ++ Txt.join ", " rules))
  ok : ∀ x ∈ rules, x ∈ (["points", "goals", "scored", "wins", "away", "met points", "met goals", "met scored", "fair", "name"] : List Str)
structure Gd (s : Sea) : Prop where
  sm : Sm s
  t2 : 2 ≤ s.teams.length
  nd : s.teams.Nodup
  tn : ∀ x ∈ s.teams, NameOk x
  w3 : s.worth.length = 3
  rs : ∃ ws, RulesOk s.rules ws
  gs : ∀ gs ∈ s.rounds, ∀ g ∈ gs, GOk s.teams g
  ap : ∀ gs ∈ s.rounds, ∀ a g b g', gs = a ++ g :: b → g' ∈ a → Apart g g'
def B_read : FS := (sSeq (sSet 5 (fM .str splitW (fVar 4) aNil)) (sSeq (sIf (tV (f2 (eqW false) (fVar 5) (fLst aNil))) sCt sNx) (sIf (tV (f2 (eqW false) (f2 ixW (fVar 5) (fC (.int 0))) (fC (.str "teams")))) (sSeq (sSet 6 (fSl (fVar 5) (oSome (fC (.int 1))) oNone)) (sSeq (sIf (bOr (tV (f2 (eqW true) (fFld ["Season"] "teams" (fVar 2)) (fTup aNil))) (bOr (tV (f2 ltW (fB lenW (aCons (fVar 6) aNil)) (fC (.int 2)))) (bOr (tV (fAny true (iSq (fVar 6)) [7] (.nm 7) bYes (vNot (fCall 1 (f_is_name) (aCons (fVar 7) aNil))))) (tV (fCall 1 (f_doubled) (aCons (fVar 6) aNil)))))) (sRaiseF "BadText" "row" (f2 addW (fVar 3) (fC (.int 1)))) sNx) (sFldS ["Season"] "teams" (fB tupleW (aCons (fVar 6) aNil)) (fVar 2)))) (sIf (tV (f2 (eqW false) (f2 ixW (fVar 5) (fC (.int 0))) (fC (.str "points")))) (sSeq (sIf (bOr (tV (f2 (eqW true) (fB lenW (aCons (fVar 5) aNil)) (fC (.int 4)))) (bOr (tV (fAny true (iSq (fSl (fVar 5) (oSome (fC (.int 1))) oNone)) [7] (.nm 7) bYes (vNot (fCall 1 (f_is_count) (aCons (fVar 7) aNil))))) (tV (f2 (eqW true) (fFld ["Season"] "rounds" (fVar 2)) (fLst aNil))))) (sRaiseF "BadText" "row" (f2 addW (fVar 3) (fC (.int 1)))) sNx) (sFldS ["Season"] "worth" (fB tupleW (aCons (fLc (iSq (fSl (fVar 5) (oSome (fC (.int 1))) oNone)) [7] (.nm 7) bYes (fB intW (aCons (fVar 7) aNil))) aNil)) (fVar 2))) (sIf (tV (f2 (eqW false) (f2 ixW (fVar 5) (fC (.int 0))) (fC (.str "rules")))) (sSeq (sSet 6 (fM .str splitW (fM .str joinW (fC (.str " ")) (aCons (fSl (fVar 5) (oSome (fC (.int 1))) oNone) aNil)) (aCons (fC (.str ", ")) aNil))) (sSeq (sIf (bOr (tV (fAny true (iSq (fVar 6)) [7] (.nm 7) bYes (f2 (inW true) (fVar 7) (fC (.tup ((["points", "goals", "scored", "wins", "away", "met points", "met goals", "met scored", "fair", "name"] : List Str).map W.str)))))) (tV (f2 (eqW true) (fFld ["Season"] "rounds" (fVar 2)) (fLst aNil)))) (sRaiseF "BadText" "row" (f2 addW (fVar 3) (fC (.int 1)))) sNx) (sFldS ["Season"] "rules" (fB tupleW (aCons (fVar 6) aNil)) (fVar 2)))) (sIf (tV (f2 (eqW false) (fVar 5) (fLst (aCons (fC (.str "round")) aNil)))) (sE (fM .list appendW (fFld ["Season"] "rounds" (fVar 2)) (aCons (fTup aNil) aNil))) (sE (fCall 3 (f_read_game) (aCons (fVar 2) (aCons (fVar 5) (aCons (f2 addW (fVar 3) (fC (.int 1))) aNil)))))))))))
theorem ws_ok {g : Game} {teams : List Str} (tn : ∀ x ∈ teams, NameOk x) (hg : GOk teams g) : ∀ s ∈ g.ws, tl s ≠ [] ∧ ∀ c ∈ tl s, Unicode.isSpace c = false := by
  have nm : ∀ x ∈ teams, tl x ≠ [] ∧ ∀ c ∈ tl x, Unicode.isSpace c = false := fun x hx => ⟨(tn x hx).1, fun c hc => safe_sp ((tn x hx).2.1 c hc)⟩
  have nu : ∀ n : Nat, tl (numS n) ≠ [] ∧ ∀ c ∈ tl (numS n), Unicode.isSpace c = false := fun n => ⟨numS_ne n, fun c hc => space_dig (numS_dig hc)⟩
  have da : tl (Str.ofString "-") ≠ [] ∧ ∀ c ∈ tl (Str.ofString "-"), Unicode.isSpace c = false := by decide +kernel
  intro s hs
  unfold Game.ws at hs
  rcases List.mem_append.mp hs with hs | hs
  · simp only [List.mem_cons, List.not_mem_nil, or_false] at hs
    rcases hs with rfl | rfl | rfl
    · exact nm _ hg.h
    · exact da
    · exact nm _ hg.a
  · cases esc : g.sc with
    | none => rw [esc] at hs; cases hs
    | some p =>
      rw [esc] at hs
      simp only [scWs, List.mem_cons, List.not_mem_nil, or_false] at hs
      rcases hs with rfl | rfl <;> exact nu _
theorem game_join {g : Game} : g.s = Txt.join " " g.ws := by
  refine map_tl_inj (l := [g.s]) (m := [_]) ?_ |> fun e => (List.cons.inj e).1
  rw [join_eq]
  have e1 : tl (Str.ofString " - ") = [32, 45, 32] := by decide +kernel
  have e2 : tl (Str.ofString " ") = [32] := by decide +kernel
  have e3 : tl (Str.ofString "-") = [45] := by decide +kernel
  have e4 : tl (Str.ofString "") = [] := by decide +kernel
  cases esc : g.sc with
  | none => simp only [Game.s, Game.ws, esc, scWs, scS, List.map_cons, List.map_nil, List.cons_append, List.nil_append, Str.join, tl_append, e1, e2, e3, e4, List.append_nil, List.append_assoc]
  | some p => simp only [Game.s, Game.ws, esc, scWs, scS, List.map_cons, List.map_nil, List.cons_append, List.nil_append, Str.join, tl_append, e1, e2, e3, e4, List.append_nil, List.append_assoc]
theorem words_game {g : Game} {teams : List Str} (tn : ∀ x ∈ teams, NameOk x) (hg : GOk teams g) : Txt.words g.s = g.ws := by
  rw [game_join]
  exact words_join (by simp [Game.ws]) (ws_ok tn hg)
theorem SeaAt.ch {S : List Nat} {h h' : LH} {i j : Nat} {s : Sea} (a : SeaAt h i j s) (c : Ch S h h') (ni : i ∉ S) (nj : j ∉ S) : SeaAt h' i j s := ⟨c.at a.1 ni, c.at a.2 nj⟩
/-- a season half read -/
def St (h : LH) (text : Str) (rows : List Str) (i j k : Nat) (s : Sea) (sl : Sl) (h' : LH) : Prop := ∃ a b c d e, sl = [some (.str text), some (.ref k), some (.ref i), a, b, c, d, e] ∧ h'[k]? = some (.lst (wS rows)) ∧ SeaAt h' i j s ∧ Ch [] h h' ∧ k ≠ i ∧ k ≠ j ∧ h.length ≤ i ∧ h.length ≤ j
variable {h : LH} {text : Str} {rows : List Str} {i j k : Nat} {s : Sea}
theorem step_game {done : List (List Game)} {cur : List Game} {g : Game} {n : Int} {sl sl1 : Sl} {h' : LH} {D : De} (tn : ∀ x ∈ s.teams, NameOk x) (hg : GOk s.teams g) (gl : g.s.length ≤ 40) (ap : ∀ g' ∈ cur, Apart g g') (it : InT s.teams (done ++ [cur])) (hd : done.length ≤ 100) (hc : cur.length ≤ 100)
    (st : St h text rows i j k { s with rounds := done ++ [cur] } sl h') (e1 : bindP (.tp [3, 4]) (.tup [.int n, .str g.s]) sl = some sl1)
    (fin : ∀ sl h', St h text rows i j k { s with rounds := done ++ [cur ++ [g]] } sl h' → D.nx sl h') : TrS (B_read sl1 h') D := by
  obtain ⟨a, b, c, d, e, rfl, ek, sa, ch, ki, kj, hi, hj⟩ := st
  simp at e1
  subst e1
  have w := words_game tn hg
  have o1 := (tn _ hg.h).ok
  have o2 := (tn _ hg.a).ok
  have n1 := (tn _ hg.h).2.2
  have lit1 : PyData.strOk (Str.ofString "teams") = true := by decide +kernel
  have lit2 : PyData.strOk (Str.ofString "points") = true := by decide +kernel
  have lit3 : PyData.strOk (Str.ofString "rules") = true := by decide +kernel
  have lit4 : PyData.strOk (Str.ofString "round") = true := by decide +kernel
  have lit5 : PyData.strOk (Str.ofString "-") = true := by decide +kernel
  have wo : pws 7 (wS g.ws) = true := pws_strs fun x hx => by
    unfold Game.ws at hx
    rcases List.mem_append.mp hx with hx | hx
    · simp only [List.mem_cons, List.not_mem_nil, or_false] at hx
      rcases hx with rfl | rfl | rfl
      · exact o1
      · exact lit5
      · exact o2
    · cases esc : g.sc with
      | none => rw [esc] at hx; cases hx
      | some p =>
        rw [esc] at hx
        simp only [scWs, List.mem_cons, List.not_mem_nil, or_false] at hx
        rcases hx with rfl | rfl <;> exact strOk_numS _
  have nb : beqWs (wS g.ws) [] = false := by simp [Game.ws]
  have nr : beqWs (wS g.ws) [.str (Str.ofString "round")] = false := by simp [Game.ws]
  have w0 : (wS g.ws)[0]? = some (.str g.home) := by simp [Game.ws]
  simp [B_read, w, wo, nb, nr, w0, o1, n1.1, n1.2.1, n1.2.2.1, lit1, lit2, lit3, lit4]
  refine ⟨by omega, ?_⟩
  refine (p_read_game (done := done) (cur := cur) (g := g) (s := s) (sa.ch (S := []) .app (by simp) (by simp)) (by simp) hg tn ap it hd hc).ok fun w h2 ⟨ew, s2, c2⟩ => ?_
  have kl := lt_of_look ek
  have c3 : Ch [j] h' h2 := Ch.trans (S' := [j]) .app c2 (by simp)
  exact fin _ _ ⟨_, _, _, _, _, rfl, c3.at ek (by simp; omega), s2, ch.trans c3 (by simp; omega), ki, kj, hi, hj⟩
theorem step_round {done : List (List Game)} {n : Int} {sl sl1 : Sl} {h' : LH} {D : De} (tn : ∀ x ∈ s.teams, NameOk x) (hd : done.length ≤ 100)
    (st : St h text rows i j k { s with rounds := done } sl h') (e1 : bindP (.tp [3, 4]) (.tup [.int n, .str (Str.ofString "round")]) sl = some sl1)
    (fin : ∀ sl h', St h text rows i j k { s with rounds := done ++ [[]] } sl h' → D.nx sl h') : TrS (B_read sl1 h') D := by
  obtain ⟨a, b, c, d, e, rfl, ek, sa, ch, ki, kj, hi, hj⟩ := st
  simp at e1
  subst e1
  have lit1 : PyData.strOk (Str.ofString "teams") = true := by decide +kernel
  have lit2 : PyData.strOk (Str.ofString "points") = true := by decide +kernel
  have lit3 : PyData.strOk (Str.ofString "rules") = true := by decide +kernel
  have lit4 : PyData.strOk (Str.ofString "round") = true := by decide +kernel
  have lit5 : (Str.ofString "round").length = 5 := by decide +kernel
  have w : Txt.words (Str.ofString "round") = [Str.ofString "round"] := by decide +kernel
  obtain ⟨ei, ej⟩ := sa
  have ij : j ≠ i := fun z => by subst z; rw [ei] at ej; cases ej
  simp [B_read, w, lit1, lit2, lit3, lit4, lit5, ei, ej, Sea.fs, look_app]
  refine ⟨by omega, fin _ _ ⟨_, _, _, _, _, rfl, ?_, ⟨?_, ?_⟩, ?_, ki, kj, hi, hj⟩⟩
  · rw [look_ne (Ne.symm kj), look_app (by rw [ek]; rfl), ek]
  · rw [look_ne ij, look_app (by rw [ei]; rfl), ei]; rfl
  · rw [look_set (by rw [look_app (by rw [ej]; rfl), ej]; rfl)]
    simp [roundW]
  · exact ch.push.put (.inr hj)
end K27
set_option Elab.async false
set_option linter.all false
set_option maxRecDepth 100000
set_option maxHeartbeats 1000000
namespace K27
open PySem PySem.Spec PyProof.Rows L2 Fh Fv TL
variable {h : LH} {text : Str} {rows : List Str} {i j k : Nat} {s : Sea}
theorem words_hd {x y : String} {ss : List Str} (e : Str.ofString x = Str.ofString y ++ Str.ofString " ") (hy : tl (Str.ofString y) ≠ [] ∧ ∀ c ∈ tl (Str.ofString y), Unicode.isSpace c = false) (h : ss ≠ []) (hs : ∀ s ∈ ss, tl s ≠ [] ∧ ∀ c ∈ tl s, Unicode.isSpace c = false) :
    Txt.words (Str.ofString x ++ Txt.join " " ss) = Str.ofString y :: ss := by
  rw [e, ← join_cons h]
  exact words_join (by simp) fun s z => by
    rcases List.mem_cons.mp z with rfl | z
    · exact hy
    · exact hs s z
theorem step_teams {ts : List Str} {wo : List Nat} {ru : List Str} {n : Int} {sl sl1 : Sl} {h' : LH} {D : De} (t2 : 2 ≤ ts.length) (t8 : ts.length ≤ 8) (tn : ∀ x ∈ ts, NameOk x) (tl8 : ∀ x ∈ ts, x.length ≤ 8) (nd : ts.Nodup)
    (st : St h text rows i j k ⟨[], wo, ru, []⟩ sl h') (e1 : bindP (.tp [3, 4]) (.tup [.int n, .str (("teams " : Str) ++ Txt.join " " ts)]) sl = some sl1)
    (fin : ∀ sl h', St h text rows i j k ⟨ts, wo, ru, []⟩ sl h' → D.nx sl h') : TrS (B_read sl1 h') D := by
  obtain ⟨a, b, c, d, e, rfl, ek, sa, ch, ki, kj, hi, hj⟩ := st
  simp at e1
  subst e1
  have lit1 : PyData.strOk (Str.ofString "teams") = true := by decide +kernel
  have w : Txt.words (Str.ofString "teams " ++ Txt.join (Str.ofString " ") ts) = Str.ofString "teams" :: ts := words_hd (by decide +kernel) (by decide +kernel) (by intro z; subst z; simp at t2) fun x hx => ⟨(tn x hx).1, fun c hc => safe_sp ((tn x hx).2.1 c hc)⟩
  have lit5 : (Str.ofString "teams ").length = 6 := by decide +kernel
  have po : pws 7 (wS ts) = true := pws_strs fun x hx => (tn x hx).ok
  have a1 := sum_le Str.length 8 tl8
  have a2 := join_len " " ts
  have a3 : (Str.ofString " ").length = 1 := by decide +kernel
  rw [a3] at a2
  obtain ⟨ei, ej⟩ := sa
  have ij : j ≠ i := fun z => by subst z; rw [ei] at ej; cases ej
  simp [B_read, w, lit1, lit5, ei, ej, Sea.fs, look_app, po, Str.length_append]
  refine ⟨by omega, ?_⟩
  refine ⟨fun z => by omega, fun _ => ?_⟩
  have ch2 := ch.push (t := [LO.lst (W.str (Str.ofString "teams") :: List.map W.str ts), LO.lst [], LO.lst (List.map W.str ts)])
  have l2 : (h' ++ [LO.lst (W.str (Str.ofString "teams") :: List.map W.str ts), LO.lst [], LO.lst (List.map W.str ts)])[h'.length + 2]? = some (.lst (wS ts)) := by simp
  have lk : ∀ x, (h'[x]?).isSome = true → (h' ++ [LO.lst (W.str (Str.ofString "teams") :: List.map W.str ts), LO.lst [], LO.lst (List.map W.str ts)])[x]? = h'[x]? := fun x e => look_app e
  generalize (h' ++ [LO.lst (W.str (Str.ofString "teams") :: List.map W.str ts), LO.lst [], LO.lst (List.map W.str ts)]) = h2 at *
  have ei2 : h2[i]? = some _ := (lk i (by rw [ei]; rfl)).trans ei
  have ej2 : h2[j]? = some _ := (lk j (by rw [ej]; rfl)).trans ej
  have ek2 : h2[k]? = some _ := (lk k (by rw [ek]; rfl)).trans ek
  refine any_map (f := W.str) (fun _ => true) (fun _ => false) (fun h1 => h1 = h2) rfl (fun h1 e => by subst e; simp [l2]) (fun x hx h1 e => ?_) fun h1 e => ?_
  · subst e
    refine ⟨_, rfl, ?_⟩
    simp
    refine (p_is_name (tn x hx) (by have := tl8 x hx; omega)).ok fun w h2 ⟨e1, e2⟩ => ?_
    subst e1 e2
    simp
  · subst e
    simp
    refine (p_doubled l2 nd (by omega)).ok fun w h3 ⟨e1, c3⟩ => ?_
    subst e1
    have ei3 := c3.at ei2
    have ej3 := c3.at ej2
    have ek3 := c3.at ek2
    have l3 := c3.at l2
    simp [l3, ei3, Sea.fs]
    refine fin _ _ ⟨_, _, _, _, _, rfl, ?_, ⟨?_, ?_⟩, ?_, ki, kj, hi, hj⟩
    · rw [look_ne (Ne.symm ki), ek3]
    · rw [look_set (by rw [ei3]; rfl)]; rfl
    · rw [look_ne (Ne.symm ij), ej3]
    · exact (ch2.tr0 c3).put (.inr hi)
theorem step_points {ts : List Str} {wo ws : List Nat} {ru : List Str} {n : Int} {sl sl1 : Sl} {h' : LH} {D : De} (w3 : ws.length = 3) (wl : ∀ x ∈ ws, x ≤ 999999)
    (st : St h text rows i j k ⟨ts, wo, ru, []⟩ sl h') (e1 : bindP (.tp [3, 4]) (.tup [.int n, .str (("points " : Str) ++ Txt.join " " (ws.map numS))]) sl = some sl1)
    (fin : ∀ sl h', St h text rows i j k ⟨ts, ws, ru, []⟩ sl h' → D.nx sl h') : TrS (B_read sl1 h') D := by
  obtain ⟨a, b, c, d, e, rfl, ek, sa, ch, ki, kj, hi, hj⟩ := st
  simp at e1
  subst e1
  have lit1 : PyData.strOk (Str.ofString "teams") = true := by decide +kernel
  have lit2 : PyData.strOk (Str.ofString "points") = true := by decide +kernel
  have w : Txt.words (Str.ofString "points " ++ Txt.join (Str.ofString " ") (ws.map numS)) = Str.ofString "points" :: ws.map numS := words_hd (by decide +kernel) (by decide +kernel) (by intro z; have := congrArg List.length z; simp at this; rw [this] at w3; simp at w3) fun x hx => by
    obtain ⟨m, _, rfl⟩ := List.mem_map.mp hx
    exact ⟨numS_ne m, fun c hc => space_dig (numS_dig hc)⟩
  have lit5 : (Str.ofString "points ").length = 7 := by decide +kernel
  have po : pws 7 (wS (ws.map numS)) = true := pws_strs fun x hx => by
    obtain ⟨m, _, rfl⟩ := List.mem_map.mp hx
    exact strOk_numS m
  have a1 := sum_le Str.length 6 (xs := ws.map numS) (fun x hx => by
    obtain ⟨m, hm, rfl⟩ := List.mem_map.mp hx
    exact numS_len (wl m hm))
  have a2 := join_len " " (ws.map numS)
  have a3 : (Str.ofString " ").length = 1 := by decide +kernel
  rw [a3] at a2
  rw [List.length_map] at a1 a2
  obtain ⟨ei, ej⟩ := sa
  have ij : j ≠ i := fun z => by subst z; rw [ei] at ej; cases ej
  generalize hwt : ws.map numS = wt at *
  have wtl : wt.length = 3 := by rw [← hwt]; simpa using w3
  simp [B_read, w, lit1, lit2, lit5, ei, ej, Sea.fs, look_app, po, Str.length_append, wtl]
  refine ⟨by omega, ?_⟩
  have ch2 := ch.push (t := [LO.lst (W.str (Str.ofString "points") :: List.map W.str wt), LO.lst [], LO.lst (List.map W.str wt)])
  have l2 : (h' ++ [LO.lst (W.str (Str.ofString "points") :: List.map W.str wt), LO.lst [], LO.lst (List.map W.str wt)])[h'.length + 2]? = some (.lst (wS wt)) := by simp
  have l0 : (h' ++ [LO.lst (W.str (Str.ofString "points") :: List.map W.str wt), LO.lst [], LO.lst (List.map W.str wt)])[h'.length]? = some (.lst (W.str (Str.ofString "points") :: List.map W.str wt)) := by simp
  have lk : ∀ x, (h'[x]?).isSome = true → (h' ++ [LO.lst (W.str (Str.ofString "points") :: List.map W.str wt), LO.lst [], LO.lst (List.map W.str wt)])[x]? = h'[x]? := fun x e => look_app e
  generalize (h' ++ [LO.lst (W.str (Str.ofString "points") :: List.map W.str wt), LO.lst [], LO.lst (List.map W.str wt)]) = h2 at *
  have ei2 : h2[i]? = some _ := (lk i (by rw [ei]; rfl)).trans ei
  have ej2 : h2[j]? = some _ := (lk j (by rw [ej]; rfl)).trans ej
  have ek2 : h2[k]? = some _ := (lk k (by rw [ek]; rfl)).trans ek
  have em : wt.map W.str = ws.map fun n => W.str (numS n) := by rw [← hwt]; simp
  rw [show wS wt = ws.map (fun n => W.str (numS n)) from em] at l2
  rw [em]
  refine any_map (f := fun n => W.str (numS n)) (xs := ws) (fun _ => true) (fun _ => false) (fun h1 => h1 = h2) rfl (fun h1 e => by subst e; simp [l2]) (fun x hx h1 e => ?_) fun h1 e => ?_
  · subst e
    refine ⟨_, rfl, ?_⟩
    simp
    refine (p_is_count (wl x hx)).ok fun w h2 ⟨e1, e2⟩ => ?_
    subst e1 e2
    simp
  · subst e
    rw [em] at l0
    simp [ei2, ej2, Sea.fs, l0, look_app]
    refine lc_map (f := fun n => W.str (numS n)) (g := fun n => W.int (n : Nat)) (xs := ws) (fun _ => true) (fun h2 => h2 = h1 ++ [.lst [], .lst (ws.map fun n => W.str (numS n))]) rfl (fun h2 e => by subst e; simp) (by simp; omega) (fun x hx h2 e => ?_) fun h2 e => ?_
    · subst e
      refine ⟨_, rfl, ?_⟩
      have := numS_len (wl x hx)
      simp
      omega
    · subst e
      simp [ei2, Sea.fs, look_app]
      refine fin _ _ ⟨_, _, _, _, _, rfl, ?_, ⟨?_, ?_⟩, ?_, ki, kj, hi, hj⟩
      · rw [look_ne (Ne.symm ki), look_app (by rw [ek2]; rfl), ek2]
      · rw [look_set (by rw [look_app (by rw [ei2]; rfl), ei2]; rfl)]; rfl
      · rw [look_ne (Ne.symm ij), look_app (by rw [ej2]; rfl), ej2]
      · exact ch2.push.put (.inr hi)
theorem step_rules {ts : List Str} {wo : List Nat} {ru rules rw : List Str} {n : Int} {sl sl1 : Sl} {h' : LH} {D : De} (rk : RulesOk rules rw) (r10 : rules.length ≤ 10) (rl : ∀ x ∈ rules, x.length ≤ 12)
    (st : St h text rows i j k ⟨ts, wo, ru, []⟩ sl h') (e1 : bindP (.tp [3, 4]) (.tup [.int n, .str (("rules " : Str) ++ Txt.join ", " rules)]) sl = some sl1)
    (fin : ∀ sl h', St h text rows i j k ⟨ts, wo, rules, []⟩ sl h' → D.nx sl h') : TrS (B_read sl1 h') D := by
  obtain ⟨a, b, c, d, e, rfl, ek, sa, ch, ki, kj, hi, hj⟩ := st
  simp at e1
  subst e1
  have lit1 : PyData.strOk (Str.ofString "teams") = true := by decide +kernel
  have lit2 : PyData.strOk (Str.ofString "points") = true := by decide +kernel
  have lit3 : PyData.strOk (Str.ofString "rules") = true := by decide +kernel
  have lit5 : (Str.ofString "rules ").length = 6 := by decide +kernel
  have lit6 : (Str.ofString ", ").length = 2 := by decide +kernel
  have lit7 : (Str.ofString " ").length = 1 := by decide +kernel
  have a1 := sum_le Str.length 12 rl
  have a2 := join_len ", " rules
  rw [lit6] at a2
  have w := rk.w
  have w2 := rk.s
  have ln := rk.ln
  have l1 := rk.l
  obtain ⟨ei, ej⟩ := sa
  have ij : j ≠ i := fun z => by subst z; rw [ei] at ej; cases ej
  have rok : ∀ x ∈ (["points", "goals", "scored", "wins", "away", "met points", "met goals", "met scored", "fair", "name"] : List Str), PyData.strOk x = true := by decide +kernel
  have po : pws 7 (wS rw) = true := pws_strs rk.wo
  have po2 : pws 7 (wS rules) = true := pws_strs fun x hx => rok x (rk.ok x hx)
  have p0 : ∀ (h : LH) (p : Nat), 0 < 1 := fun _ _ => by omega
  simp [B_read, w, w2, lit1, lit2, lit3, lit5, lit6, lit7, ei, ej, Sea.fs, look_app, Str.length_append, po]
  refine ⟨by omega, by omega, by omega, ?_⟩
  have ch2 := ch.push (t := [LO.lst (W.str (Str.ofString "rules") :: List.map W.str rw), LO.lst [], LO.lst (List.map W.str rw), LO.lst (List.map W.str rules)])
  have l2 : (h' ++ [LO.lst (W.str (Str.ofString "rules") :: List.map W.str rw), LO.lst [], LO.lst (List.map W.str rw), LO.lst (List.map W.str rules)])[h'.length + 3]? = some (.lst (wS rules)) := by simp
  have lk : ∀ x, (h'[x]?).isSome = true → (h' ++ [LO.lst (W.str (Str.ofString "rules") :: List.map W.str rw), LO.lst [], LO.lst (List.map W.str rw), LO.lst (List.map W.str rules)])[x]? = h'[x]? := fun x e => look_app e
  generalize (h' ++ [LO.lst (W.str (Str.ofString "rules") :: List.map W.str rw), LO.lst [], LO.lst (List.map W.str rw), LO.lst (List.map W.str rules)]) = h2 at *
  have ei2 : h2[i]? = some _ := (lk i (by rw [ei]; rfl)).trans ei
  have ej2 : h2[j]? = some _ := (lk j (by rw [ej]; rfl)).trans ej
  have ek2 : h2[k]? = some _ := (lk k (by rw [ek]; rfl)).trans ek
  refine any_map (f := W.str) (xs := rules) (fun _ => true) (fun _ => false) (fun h1 => h1 = h2) rfl (fun h1 e => by subst e; simp [l2]) (fun x hx h1 e => ?_) fun h1 e => ?_
  · subst e
    refine ⟨_, rfl, ?_⟩
    have h1 := rk.ok x hx
    have h2 := rok x h1
    have e : ∀ h, inW true (.str x) (.tup (wS (["points", "goals", "scored", "wins", "away", "met points", "met goals", "met scored", "fair", "name"] : List Str))) h = some (.bl false, h) := fun h => by
      rw [inW_tup (by simpa using h2) (pws_strs rok), anyS, decide_eq_true h1]
      rfl
    simp only [wS, List.map_cons, List.map_nil] at e
    simp [e]
  · subst e
    simp [ei2, ej2, Sea.fs, l2, look_app]
    refine fin _ _ ⟨_, _, _, _, _, rfl, ?_, ⟨?_, ?_⟩, ?_, ki, kj, hi, hj⟩
    · rw [look_ne (Ne.symm ki), look_app (by rw [ek2]; rfl), ek2]
    · rw [look_set (by rw [look_app (by rw [ei2]; rfl), ei2]; rfl)]; rfl
    · rw [look_ne (Ne.symm ij), look_app (by rw [ej2]; rfl), ej2]
    · exact ch2.push.put (.inr hi)
/-! the loop over the rows -/
theorem read_games {D : De} {rest : List W} {done : List (List Game)} (tn : ∀ x ∈ s.teams, NameOk x) (hd : done.length ≤ 100) (dt : InT s.teams done) :
    ∀ (gs cur : List Game) (n : Nat) (sl : Sl) (h' : LH), cur.length + gs.length ≤ 100 → (∀ g ∈ cur, g.home ∈ s.teams ∧ g.away ∈ s.teams) → (∀ g ∈ gs, GOk s.teams g ∧ g.s.length ≤ 40) → (∀ a g b g', cur ++ gs = a ++ g :: b → g' ∈ a → Apart g g') →
      St h text rows i j k { s with rounds := done ++ [cur] } sl h' →
      (∀ sl h', St h text rows i j k { s with rounds := done ++ [cur ++ gs] } sl h' → TrS (forL (gdL k (wS rows)) (.tp [3, 4]) B_read (enumW (n + gs.length) rest) sl h') D) →
      TrS (forL (gdL k (wS rows)) (.tp [3, 4]) B_read (enumW n (gs.map (fun g => W.str g.s) ++ rest)) sl h') D := by
  intro gs
  induction gs with
  | nil =>
    intro cur n sl h' _ _ _ _ st fin
    have := fin sl h' (by simpa using st)
    simpa using this
  | cons g gs ih =>
    intro cur n sl h' hl hc hg ap st fin
    simp only [List.length_cons] at hl
    have st0 := st
    obtain ⟨a, b, c, d, e, rfl, ek, sa, ch, ki, kj, hi, hj⟩ := st
    rw [List.map_cons, List.cons_append, enumW, forL_cons]
    refine ⟨by simp [ek], _, rfl, ?_⟩
    obtain ⟨g1, g2⟩ := hg g (by simp)
    refine step_game (done := done) (cur := cur) tn g1 g2 (fun g' hg' => ap cur g gs g' rfl hg') (fun q hq => ?_) hd (by omega) st0 rfl fun sl2 h2 st2 => ?_
    · rcases List.mem_append.mp hq with hq | hq
      · exact dt q hq
      · rw [List.mem_singleton.mp hq]; exact hc
    · refine ih (cur ++ [g]) (n + 1) sl2 h2 (by simp; omega) (fun q hq => ?_) (fun q hq => hg q (List.mem_cons_of_mem _ hq)) (fun a q b q' e => ap a q b q' (by rw [← e]; simp)) st2 fun sl3 h3 st3 => ?_
      · rcases List.mem_append.mp hq with hq | hq
        · exact hc q hq
        · rw [List.mem_singleton.mp hq]; exact ⟨g1.h, g1.a⟩
      · have := fin sl3 h3 (by simpa using st3)
        have e : n + 1 + gs.length = n + (g :: gs).length := by simp; omega
        rw [e]
        exact this
theorem read_rounds {D : De} (tn : ∀ x ∈ s.teams, NameOk x) :
    ∀ (rs done : List (List Game)) (n : Nat) (sl : Sl) (h' : LH), done.length + rs.length ≤ 100 → InT s.teams done → (∀ gs ∈ rs, gs.length ≤ 4 ∧ (∀ g ∈ gs, GOk s.teams g ∧ g.s.length ≤ 40) ∧ ∀ a g b g', gs = a ++ g :: b → g' ∈ a → Apart g g') →
      St h text rows i j k { s with rounds := done } sl h' →
      (∀ sl h', St h text rows i j k { s with rounds := done ++ rs } sl h' → D.nx sl h') →
      TrS (forL (gdL k (wS rows)) (.tp [3, 4]) B_read (enumW n (wS (rowsOf rs))) sl h') D := by
  intro rs
  induction rs with
  | nil =>
    intro done n sl h' _ _ _ st fin
    obtain ⟨a, b, c, d, e, rfl, ek, sa, ch, ki, kj, hi, hj⟩ := id st
    show TrS (forL _ _ _ (enumW n (wS [])) _ _) D
    rw [show enumW n (wS []) = [] from rfl, forL_nil, if_pos (by simp [ek])]
    exact fin _ _ (by simpa using st)
  | cons gs rs ih =>
    intro done n sl h' hl dt hg st fin
    simp only [List.length_cons] at hl
    obtain ⟨g1, g2, g3⟩ := hg gs (by simp)
    obtain ⟨a, b, c, d, e, _, ek, _⟩ := id st
    have er : wS (rowsOf (gs :: rs)) = .str (Str.ofString "round") :: (gs.map (fun g => W.str g.s) ++ wS (rowsOf rs)) := by
      simp [rowsOf, wS]
    rw [er, enumW, forL_cons]
    obtain ⟨_, _, _, _, _, rfl, _⟩ := id st
    refine ⟨by simp [ek], _, rfl, ?_⟩
    refine step_round tn (by omega) st rfl fun sl2 h2 st2 => ?_
    refine read_games (done := done) tn (by omega) dt gs [] (n + 1) sl2 h2 (by simp; omega) (by simp) g2 (by simpa using g3) st2 fun sl3 h3 st3 => ?_
    refine ih (done ++ [gs]) _ sl3 h3 (by simp; omega) (fun q hq => ?_) (fun q hq => hg q (List.mem_cons_of_mem _ hq)) (by simpa using st3) fun sl4 h4 st4 => fin _ _ (by simpa using st4)
    rcases List.mem_append.mp hq with hq | hq
    · exact dt q hq
    · rw [List.mem_singleton.mp hq]
      exact fun g hg => ⟨(g2 g hg).1.h, (g2 g hg).1.a⟩
end K27
set_option Elab.async false
set_option linter.all false
set_option maxRecDepth 100000
set_option maxHeartbeats 1000000
namespace K27
open PySem PySem.Spec PyProof.Rows L2 Fh Fv TL
theorem nl_words {ss : List Str} {y : String} (hy : 10 ∉ tl (Str.ofString y)) (hs : ∀ s ∈ ss, ∀ c ∈ tl s, c ≠ 10) : 10 ∉ tl (Txt.join y ss) := fun z => by
  rcases tl_joinL z with z | ⟨s, hs2, z⟩
  · exact hy z
  · exact hs s hs2 10 z rfl
theorem rows_nl {s : Sea} (gd : Gd s) : ∀ r ∈ s.rows, 10 ∉ tl r := by
  have nm : ∀ x ∈ s.teams, ∀ c ∈ tl x, c ≠ 10 := fun x hx c hc => safe_nl ((gd.tn x hx).2.1 c hc)
  have nu : ∀ n : Nat, ∀ c ∈ tl (numS n), c ≠ 10 := fun n c hc => by have := numS_dig hc; omega
  obtain ⟨ws, rk⟩ := gd.rs
  intro r hr
  unfold Sea.rows at hr
  rcases List.mem_append.mp hr with hr | hr
  · simp only [List.mem_cons, List.not_mem_nil, or_false] at hr
    rcases hr with rfl | rfl | rfl
    · rw [tl_append]
      intro z
      rcases List.mem_append.mp z with z | z
      · exact absurd z (by decide +kernel)
      · exact nl_words (by decide +kernel) nm z
    · rw [tl_append]
      intro z
      rcases List.mem_append.mp z with z | z
      · exact absurd z (by decide +kernel)
      · exact nl_words (by decide +kernel) (fun x hx => by obtain ⟨n, _, rfl⟩ := List.mem_map.mp hx; exact nu n) z
    · exact rk.nl
  · obtain ⟨l, hl, hr⟩ := List.mem_flatten.mp hr
    obtain ⟨gs, hg, rfl⟩ := List.mem_map.mp hl
    rcases List.mem_cons.mp hr with rfl | hr
    · decide +kernel
    · obtain ⟨g, hg2, rfl⟩ := List.mem_map.mp hr
      have go := gd.gs gs hg g hg2
      rw [game_join]
      refine nl_words (by decide +kernel) fun x hx c hc e => ?_
      have := (ws_ok gd.tn go x hx).2 c hc
      rw [e] at this
      exact absurd this (by decide +kernel)
theorem text_len {s : Sea} (sm : Sm s) : s.text.length ≤ 4000 := by
  have lit1 : (Str.ofString " ").length = 1 := by decide +kernel
  have lit2 : (Str.ofString ", ").length = 2 := by decide +kernel
  have lit3 : (Str.ofString "teams ").length = 6 := by decide +kernel
  have lit4 : (Str.ofString "points ").length = 7 := by decide +kernel
  have lit5 : (Str.ofString "rules ").length = 6 := by decide +kernel
  have lit7 : (Str.ofString "\n").length = 1 := by decide +kernel
  have t1 := sum_le Str.length 8 sm.tl
  have t2 := join_len " " s.teams
  have t3 := sm.t
  have w1 := sum_le Str.length 6 (xs := s.worth.map numS) (by intro x hx; obtain ⟨n, hn, rfl⟩ := List.mem_map.mp hx; exact numS_len (sm.wl n hn))
  have w2 := join_len " " (s.worth.map numS)
  have w3 := sm.w
  have r1 := sum_le Str.length 12 sm.rl
  have r2 := join_len ", " s.rules
  have r3 := sm.r
  rw [List.length_map] at w1
  rw [List.length_map] at w2
  rw [lit1] at t2 w2
  rw [lit2] at r2
  have a := rowsOf_len sm.g
  have b := rowsOf_sum sm.gl
  have c := sm.n
  have d := join_len "\n" s.rows
  rw [lit7] at d
  have e1 : s.rows.length = 3 + (rowsOf s.rounds).length := by simp [Sea.rows]; omega
  have e2 : (s.rows.map Str.length).sum = (6 + (Txt.join " " s.teams).length) + ((7 + (Txt.join " " (s.worth.map numS)).length) + ((6 + (Txt.join ", " s.rules).length) + ((rowsOf s.rounds).map Str.length).sum)) := by
    unfold Sea.rows
    rw [List.map_append, List.sum_append]
    simp only [List.map_cons, List.map_nil, List.sum_cons, List.sum_nil, Str.length_append, lit3, lit4, lit5]
    omega
  unfold Sea.text
  omega
theorem p_read {h : LH} {s : Sea} (gd : Gd s) : Tr (f_read [.str s.text] h) (fun w h' => ∃ i j, w = .ref i ∧ SeaAt h' i j s ∧ h.length ≤ i ∧ h.length ≤ j ∧ Ch [] h h') nEx := by
  obtain ⟨ws, rk⟩ := gd.rs
  have tl := text_len gd.sm
  have sp : Txt.split s.text (Str.ofString "\n") = s.rows := split_lines (by simp [Sea.rows]) (rows_nl gd)
  have lit7 : (Str.ofString "\n").length = 1 := by decide +kernel
  have t2 := gd.t2
  have er : List.map W.str s.rows = .str (("teams " : Str) ++ Txt.join " " s.teams) :: .str (("points " : Str) ++ Txt.join " " (s.worth.map numS)) :: .str (("rules " : Str) ++ Txt.join ", " s.rules) :: wS (rowsOf s.rounds) := by
    simp [Sea.rows]
  rw [Tr_run]
  simp [F_read, look_app, Tr_run (N := 4) (fb := F_Season_d_initd_), F_Season_d_initd_, sp, lit7, List.set_append]
  refine ⟨by omega, ?_⟩
  have ew : enumW 0 (wS s.rows) = .tup [.int (0 : Nat), .str (("teams " : Str) ++ Txt.join " " s.teams)] :: .tup [.int (1 : Nat), .str (("points " : Str) ++ Txt.join " " (s.worth.map numS))] :: .tup [.int (2 : Nat), .str (("rules " : Str) ++ Txt.join ", " s.rules)] :: enumW 3 (wS (rowsOf s.rounds)) := by
    rw [show wS s.rows = _ from er]; rfl
  generalize hD : De.mk _ _ _ _ _ = D
  have st0 : ∀ H, H = h ++ [LO.lst (wS s.rows), LO.ins "Season" (Sea.fs ⟨[], [3, 1, 0], ["points", "name"], []⟩ (h.length + 2)), LO.lst []] → St h s.text s.rows (h.length + 1) (h.length + 2) h.length ⟨[], [3, 1, 0], ["points", "name"], []⟩ [some (.str s.text), some (.ref h.length), some (.ref (h.length + 1)), none, none, none, none, none] H := fun H e => by
    subst e
    exact ⟨_, _, _, _, _, rfl, by simp, ⟨by simp, by simp⟩, .app, by omega, by omega, by omega, by omega⟩
  specialize st0 _ rfl
  change TrS (forL (gdL h.length (wS s.rows)) (.tp [3, 4]) B_read (enumW 0 (wS s.rows)) _ (h ++ [LO.lst (wS s.rows), LO.ins "Season" (Sea.fs ⟨[], [3, 1, 0], ["points", "name"], []⟩ (h.length + 2)), LO.lst []])) D
  generalize (h ++ [LO.lst (wS s.rows), LO.ins "Season" (Sea.fs ⟨[], [3, 1, 0], ["points", "name"], []⟩ (h.length + 2)), LO.lst []]) = H0 at st0 ⊢
  rw [ew, forL_cons]
  have gk : ∀ {s' sl h'}, St h s.text s.rows (h.length + 1) (h.length + 2) h.length s' sl h' → gdL h.length (wS s.rows) h' = true := fun ⟨_, _, _, _, _, _, ek, _⟩ => by simp [ek]
  have sb : ∀ {s' sl h' n x}, St h s.text s.rows (h.length + 1) (h.length + 2) h.length s' sl h' → ∃ sl1, bindP (.tp [3, 4]) (.tup [.int n, .str x]) sl = some sl1 := fun ⟨_, _, _, _, _, e, _⟩ => by subst e; exact ⟨_, rfl⟩
  obtain ⟨sl1, e1⟩ := sb (n := (0 : Nat)) (x := ("teams " : Str) ++ Txt.join " " s.teams) st0
  refine ⟨gk st0, sl1, e1, ?_⟩
  refine step_teams gd.t2 gd.sm.t gd.tn gd.sm.tl gd.nd st0 e1 fun sl2 h2 st2 => ?_
  simp only
  rw [forL_cons]
  obtain ⟨sl3, e3⟩ := sb (n := (1 : Nat)) (x := ("points " : Str) ++ Txt.join " " (s.worth.map numS)) st2
  refine ⟨gk st2, sl3, e3, ?_⟩
  refine step_points gd.w3 gd.sm.wl st2 e3 fun sl4 h4 st4 => ?_
  simp only
  rw [forL_cons]
  obtain ⟨sl5, e5⟩ := sb (n := (2 : Nat)) (x := ("rules " : Str) ++ Txt.join ", " s.rules) st4
  refine ⟨gk st4, sl5, e5, ?_⟩
  refine step_rules rk gd.sm.r gd.sm.rl st4 e5 fun sl6 h6 st6 => ?_
  simp only
  refine read_rounds (s := s) gd.tn s.rounds [] 3 sl6 h6 (by have := gd.sm.n; simp; omega) (by intro x hx; cases hx) (fun gs hg => ⟨gd.sm.g gs hg, fun g hg2 => ⟨gd.gs gs hg g hg2, gameS_len (gd.sm.gl gs hg g hg2)⟩, gd.ap gs hg⟩) st6 fun sl7 h7 st7 => ?_
  obtain ⟨a, b, c, d, e, rfl, ek, sa, ch, ki, kj, hi, hj⟩ := st7
  subst hD
  have po : pws 7 (wS s.teams) = true := pws_strs fun x hx => (gd.tn x hx).ok
  have nb : beqWs (wS s.teams) [] = false := by
    cases z : s.teams with
    | nil => rw [z] at t2; simp at t2
    | cons => simp
  simp only [wS] at po nb
  have e1 := sa.1
  simp [e1, Sea.fs, po, nb]
  exact ⟨_, sa, by omega, ch⟩
end K27
set_option Elab.async false
set_option linter.all false
set_option maxRecDepth 100000
set_option maxHeartbeats 1000000
namespace K27
open PySem PySem.Spec PyProof.Rows L2 Fh Fv TL
def hit (ho aw : Str) (g : Game) : Bool := decide (g.home = ho) && (decide (g.away = aw) && g.sc.isNone)
def putR (ho aw : Str) (a b : Nat) : List Game → Option (List Game)
  | [] => none
  | g :: r => if hit ho aw g = true then some ({ g with sc := some (a, b) } :: r) else (putR ho aw a b r).map (g :: ·)
def putS (s : Sea) (k : Nat) (ho aw : Str) (a b : Nat) : Option Sea := match s.rounds[k]? with
  | none => none
  | some gs => (putR ho aw a b gs).map fun gs' => { s with rounds := s.rounds.set k gs' }
theorem putR_hit {ho aw : Str} {a b : Nat} {g : Game} {r : List Game} (hg : hit ho aw g = true) : ∀ {d : List Game}, (∀ x ∈ d, hit ho aw x = false) → putR ho aw a b (d ++ g :: r) = some (d ++ { g with sc := some (a, b) } :: r)
  | [], _ => by simp [putR, hg]
  | x :: d, h => by
    rw [List.cons_append, putR, h x (by simp), if_neg (by simp), putR_hit hg (fun y hy => h y (List.mem_cons_of_mem _ hy))]
    rfl
theorem putR_none {ho aw : Str} {a b : Nat} : ∀ {d : List Game}, (∀ x ∈ d, hit ho aw x = false) → putR ho aw a b d = none
  | [], _ => rfl
  | x :: d, h => by
    rw [putR, h x (by simp), if_neg (by simp), putR_none (fun y hy => h y (List.mem_cons_of_mem _ hy))]
    rfl
theorem zip_split {gs : List Game} {d : List (Game × Nat)} {g : Game} {n : Nat} {r : List (Game × Nat)} (e : d ++ (g, n) :: r = gs.zipIdx) : gs = d.map Prod.fst ++ g :: r.map Prod.fst ∧ n = d.length := by
  have e1 : (gs.zipIdx).map Prod.fst = gs := List.zipIdx_map_fst 0 gs
  have e2 : (gs.zipIdx)[d.length]? = some (g, n) := by rw [← e]; simp
  rw [← e] at e1
  refine ⟨by rw [← e1]; simp, ?_⟩
  rw [List.getElem?_zipIdx] at e2
  cases z : gs[d.length]? with
  | none => rw [z] at e2; cases e2
  | some q => rw [z] at e2; cases e2; omega
theorem p_put {h : LH} {i j : Nat} {s : Sea} {k a b : Nat} {ho aw : Str} (hs : SeaAt h i j s) (gd : Gd s) (oh : PyData.strOk ho = true) (oa : PyData.strOk aw = true) (la : a ≤ 999999) (lb : b ≤ 999999) :
    Tr (f_Season_put [.ref i, .int k, .str ho, .str aw, .int a, .int b] h) (fun w h' => ∃ s', putS s k ho aw a b = some s' ∧ w = .non ∧ SeaAt h' i j s' ∧ Ch [j] h h') (fun c p h' => putS s k ho aw a b = none ∧ c = Str.ofString "BadRule" ∧ Ch [] h h') := by
  obtain ⟨ei, ej⟩ := hs
  have ij : j ≠ i := fun z => by subst z; rw [ei] at ej; cases ej
  have la' : (a : Int) ≤ 999999 := by omega
  have lb' : (b : Int) ≤ 999999 := by omega
  have rn := gd.sm.n
  rw [Tr_run]
  simp [F_Season_put, ei, ej, Sea.fs, look_app, la', lb']
  constructor
  · intro hk
    refine ⟨?_, .refl⟩
    rw [putS, List.getElem?_eq_none (by omega)]
  · intro hk
    obtain ⟨gs, eg⟩ : ∃ gs, s.rounds[k]? = some gs := ⟨_, List.getElem?_eq_getElem (by omega)⟩
    have gm : gs ∈ s.rounds := List.mem_of_getElem? eg
    have gl := gd.sm.g gs gm
    simp [eg, roundW, enumW_map]
    refine for_map (f := fun p : Game × Nat => W.tup [W.int (p.2 : Nat), p.1.w]) (fun d sl h' => h' = h ++ [LO.lst (gs.map Game.w), LO.lst (gs.map Game.w)] ∧ (∃ x y, sl = [some (W.ref i), some (W.int (k : Nat)), some (W.str ho), some (W.str aw), some (W.int (a : Nat)), some (W.int (b : Nat)), some (W.ref h.length), x, y]) ∧ ∀ p ∈ d, hit ho aw p.1 = false) ⟨rfl, ⟨_, _, rfl⟩, by simp⟩ (fun d sl h' ⟨e, _⟩ => by subst e; simp) (fun d p r sl h' ed ⟨eh, ⟨x, y, es⟩, hd⟩ => ?_) (fun sl h' ⟨eh, _, hd⟩ => ?_)
    · obtain ⟨g, n⟩ := p
      obtain ⟨eq1, eq2⟩ := zip_split ed
      subst eh es eq2
      refine ⟨_, rfl, ?_⟩
      have gmem : g ∈ gs := by rw [eq1]; simp
      have go := gd.gs gs gm g gmem
      have o1 := (gd.tn _ go.h).ok
      have o2 := (gd.tn _ go.a).ok
      have dl : d.length < gs.length := by have := congrArg List.length eq1; simp at this; omega
      have miss : hit ho aw g = false → ∀ p ∈ d ++ [(g, d.length)], hit ho aw p.1 = false := fun z p hp => by
        rcases List.mem_append.mp hp with hp | hp
        · exact hd p hp
        · rw [List.mem_singleton.mp hp]; exact z
      have found : hit ho aw g = true → putS s k ho aw a b = some { s with rounds := s.rounds.set k (gs.set d.length { g with sc := some (a, b) }) } := fun z => by
        have e3 : gs.set d.length { g with sc := some (a, b) } = d.map Prod.fst ++ { g with sc := some (a, b) } :: r.map Prod.fst := by
          conv => lhs; rw [eq1]
          rw [List.set_append_right _ _ (by simp)]
          simp
        rw [e3]
        simp only [putS, eg]
        conv => lhs; rw [eq1]
        rw [putR_hit z (fun x hx => by obtain ⟨p, hp, rfl⟩ := List.mem_map.mp hx; exact hd p hp)]
        rfl
      cases esc : g.sc with
      | some p =>
        have z : hit ho aw g = false := by simp [hit, esc]
        simp [Game.w, Game.one, Game.other, esc, oh, oa, o1, o2]
        have := miss z
        grind
      | none =>
        simp [Game.w, Game.one, Game.other, esc, oh, oa, o1, o2, look_app, ei, ej, Sea.fs]
        constructor
        · intro e1 e2
          refine ⟨dl, hk, _, found (by simp [hit, esc, e1, e2]), ⟨?_, ?_⟩, Ch.app.put (.inl (by simp))⟩
          · rw [look_ne ij, look_app (by rw [ei]; rfl), ei]; rfl
          · rw [look_set (by rw [look_app (by rw [ej]; rfl), ej]; rfl)]
            simp only [List.map_set, roundW]
            simp [Game.w, Game.one, Game.other, e1, e2]
        · intro z
          have z : hit ho aw g = false := by
            simp only [hit, esc, Option.isNone_none, Bool.and_true, Bool.and_eq_false_iff, decide_eq_false_iff_not]
            by_cases e : g.home = ho
            · exact .inr (z e)
            · exact .inl e
          have := miss z
          grind
    · simp only
      refine ⟨?_, ?_⟩
      · simp only [putS, eg]
        rw [putR_none fun x hx => ?_]
        · rfl
        · obtain ⟨n, hn, rfl⟩ := List.getElem_of_mem hx
          exact hd (gs[n], n) (List.mem_iff_getElem?.mpr ⟨n, by rw [List.getElem?_zipIdx, List.getElem?_eq_getElem hn]; simp⟩)
      · subst eh; exact .app
/-- a season stays good -/
theorem putR_some {ho aw : Str} {a b : Nat} : ∀ {gs gs' : List Game}, putR ho aw a b gs = some gs' → ∃ x g y, gs = x ++ g :: y ∧ gs' = x ++ { g with sc := some (a, b) } :: y
  | [], _, e => by cases e
  | g :: r, gs', e => by
    rw [putR] at e
    by_cases z : hit ho aw g = true
    · rw [if_pos z] at e
      cases e
      exact ⟨[], g, r, rfl, rfl⟩
    · rw [if_neg z] at e
      cases e2 : putR ho aw a b r with
      | none => rw [e2] at e; cases e
      | some r' =>
        rw [e2] at e
        cases e
        obtain ⟨x, g2, y, e3, e4⟩ := putR_some e2
        exact ⟨g :: x, g2, y, by rw [e3]; rfl, by rw [e4]; rfl⟩
theorem putS_gd {s s' : Sea} {k a b : Nat} {ho aw : Str} (gd : Gd s) (la : a ≤ 999999) (lb : b ≤ 999999) (e : putS s k ho aw a b = some s') : Gd s' := by
  unfold putS at e
  cases eg : s.rounds[k]? with
  | none => rw [eg] at e; cases e
  | some gs =>
    rw [eg] at e
    simp only at e
    cases er : putR ho aw a b gs with
    | none => rw [er] at e; cases e
    | some gs' =>
      rw [er] at e
      cases e
      have gm : gs ∈ s.rounds := List.mem_of_getElem? eg
      obtain ⟨x, g, y, e1, e2⟩ := putR_some er
      have mem : ∀ q ∈ s.rounds.set k gs', q = gs' ∨ q ∈ s.rounds := fun q hq => by
        rcases List.mem_or_eq_of_mem_set hq with h | h
        · exact .inr h
        · exact .inl h
      have gin : g ∈ gs := by rw [e1]; simp
      have each : ∀ q ∈ gs', q ∈ gs ∨ (q.home = g.home ∧ q.away = g.away ∧ q.sc = some (a, b)) := fun q hq => by
        rw [e2] at hq
        rcases List.mem_append.mp hq with hq | hq
        · exact .inl (by rw [e1]; simp [hq])
        · rcases List.mem_cons.mp hq with rfl | hq
          · exact .inr ⟨rfl, rfl, rfl⟩
          · exact .inl (by rw [e1]; simp [hq])
      have names : gs'.map (fun g => (g.home, g.away)) = gs.map (fun g => (g.home, g.away)) := by rw [e1, e2]; simp
      refine ⟨⟨gd.sm.t, gd.sm.tl, gd.sm.w, gd.sm.wl, gd.sm.r, gd.sm.rl, by simpa using gd.sm.n, fun q hq => ?_, fun q hq z hz => ?_⟩, gd.t2, gd.nd, gd.tn, gd.w3, gd.rs, fun q hq z hz => ?_, fun q hq u v w z e3 hz => ?_⟩
      · rcases mem q hq with rfl | hq
        · have := gd.sm.g gs gm
          have l := congrArg List.length names
          simp only [List.length_map] at l
          omega
        · exact gd.sm.g q hq
      · rcases mem q hq with rfl | hq
        · rcases each z hz with hz | ⟨h1, h2, h3⟩
          · exact gd.sm.gl gs gm z hz
          · obtain ⟨q1, q2, _⟩ := gd.sm.gl gs gm g gin
            exact ⟨by rw [h1]; exact q1, by rw [h2]; exact q2, fun p hp => by rw [h3] at hp; cases hp; exact ⟨la, lb⟩⟩
        · exact gd.sm.gl q hq z hz
      · rcases mem q hq with rfl | hq
        · rcases each z hz with hz | ⟨h1, h2, h3⟩
          · exact gd.gs gs gm z hz
          · have q1 := gd.gs gs gm g gin
            exact ⟨by rw [h1]; exact q1.h, by rw [h2]; exact q1.a, by rw [h1, h2]; exact q1.ne, fun p hp => by rw [h3] at hp; cases hp; exact ⟨la, lb⟩⟩
        · exact gd.gs q hq z hz
      · rcases mem q hq with rfl | hq
        · subst e3
          rw [List.map_append, List.map_cons] at names
          obtain ⟨l1, l2, e4, e5, e6⟩ := List.append_eq_map_iff.mp names
          obtain ⟨v', l3, e7, e8, e9⟩ := List.map_eq_cons_iff.mp e6
          rw [e4, e7] at gm
          obtain ⟨z', hz1, hz2⟩ : ∃ z' ∈ l1, (z'.home, z'.away) = (z.home, z.away) := by
            have : (z.home, z.away) ∈ u.map (fun g => (g.home, g.away)) := List.mem_map.mpr ⟨z, hz, rfl⟩
            rw [← e5] at this
            exact List.mem_map.mp this
          have := gd.ap _ gm l1 v' l3 z' rfl hz1
          simp only [Prod.mk.injEq] at e8 hz2
          unfold Apart at this ⊢
          rw [e8.1, e8.2, hz2.1, hz2.2] at this
          exact this
        · exact gd.ap q hq u v w z e3 hz
end K27
set_option Elab.async false
set_option linter.all false
set_option maxRecDepth 100000
set_option maxHeartbeats 400000
/-! Fw: what a plain function does on a small heap it does on any heap that holds the small one (other numbers, other things beside) -/
namespace Fv
open PySem PySem.Spec PyProof.Rows L2 Fh
mutual
def rnW (ρ : Nat → Nat) : W → W
  | .non => .non
  | .bl b => .bl b
  | .int i => .int i
  | .str x => .str x
  | .tup xs => .tup (rnWs ρ xs)
  | .ref i => .ref (ρ i)
def rnWs (ρ : Nat → Nat) : List W → List W
  | [] => []
  | x :: xs => rnW ρ x :: rnWs ρ xs
end
theorem rnWs_eq (ρ : Nat → Nat) : ∀ xs : List W, rnWs ρ xs = xs.map (rnW ρ)
  | [] => rfl
  | x :: xs => by rw [rnWs, rnWs_eq ρ xs]; rfl
def rnK (ρ : Nat → Nat) {α : Type} (kv : α × W) : α × W := (kv.1, rnW ρ kv.2)
def rnO (ρ : Nat → Nat) : LO → LO
  | .lst xs => .lst (xs.map (rnW ρ))
  | .rd xs => .rd (xs.map (rnW ρ))
  | .dct kvs => .dct (kvs.map (rnK ρ))
  | .dcl kvs => .dcl (kvs.map (rnK ρ))
  | .ins c fs => .ins c (fs.map (rnK ρ))
  | .lam _ _ => .dead
  | .dead => .dead
structure Emb where
  n : Nat
  ρ : Nat → Nat
  em : LH → LH
  get : ∀ {h : LH} {i : Nat} {o : LO}, n ≤ h.length → h[i]? = some o → (em h)[ρ i]? = some (rnO ρ o)
  set : ∀ {h : LH} {i : Nat} (o : LO), n ≤ h.length → i < h.length → em (h.set i o) = (em h).set (ρ i) (rnO ρ o)
  push : ∀ {h : LH} (o : LO), n ≤ h.length → em (h ++ [o]) = em h ++ [rnO ρ o]
  len : ∀ {h : LH}, n ≤ h.length → ρ h.length = (em h).length
abbrev Emb.w (E : Emb) : W → W := rnW E.ρ
abbrev Emb.o (E : Emb) : LO → LO := rnO E.ρ
def Emb.S (E : Emb) (sl sl' : Sl) : Prop := sl.length = sl'.length ∧ ∀ (i : Nat) (w : W), sl[i]? = some (some w) → sl'[i]? = some (some (E.w w))
variable {E : Emb}
theorem Emb.S.set {sl sl' : Sl} (s : E.S sl sl') (i : Nat) (w : W) : E.S (sl.set i (some w)) (sl'.set i (some (E.w w))) := by
  refine ⟨by simp [s.1], fun j x e => ?_⟩
  by_cases hj : i = j
  · subst hj
    have hi : i < sl.length := by have := (List.getElem?_eq_some_iff.mp e).1; simpa using this
    rw [List.getElem?_set_self hi] at e
    cases e
    exact List.getElem?_set_self (by rw [← s.1]; exact hi)
  · rw [List.getElem?_set_ne hj] at e
    rw [List.getElem?_set_ne hj]
    exact s.2 j x e
theorem Emb.S.no {sl sl' : Sl} (s : E.S sl sl') (i : Nat) (o : Option W) : E.S (sl.set i none) (sl'.set i o) := by
  refine ⟨by simp [s.1], fun j x e => ?_⟩
  by_cases hj : i = j
  · subst hj
    have hi : i < sl.length := by have := (List.getElem?_eq_some_iff.mp e).1; simpa using this
    rw [List.getElem?_set_self hi] at e
    cases e
  · rw [List.getElem?_set_ne hj] at e
    rw [List.getElem?_set_ne hj]
    exact s.2 j x e
def rnP (E : Emb) (p : Option (Str × W)) : Option (Str × W) := p.map (rnK E.ρ)
/-- answers alike; of none nothing is asked -/
def RM (E : Emb) {α β : Type} (RA : α → β → Prop) (x : R α) (y : R β) : Prop := match x with
  | .ok a h => E.n ≤ h.length ∧ ∃ b, y = .ok b (E.em h) ∧ RA a b
  | .ex c p h => E.n ≤ h.length ∧ y = .ex c (rnP E p) (E.em h)
  | .bad => True
section
variable {α β α' β' : Type} {RA : α → β → Prop} {RB : α' → β' → Prop}
theorem RM.bnd {x : M α} {y : M β} {f : α → M α'} {g : β → M β'} {h h' : LH} (hx : RM E RA (x h) (y h')) (hf : ∀ a b h1, RA a b → E.n ≤ h1.length → RM E RB (f a h1) (g b (E.em h1))) : RM E RB (bnd x f h) (bnd y g h') := by
  unfold Fv.bnd
  cases e : x h with
  | ok a h1 =>
    rw [e] at hx
    obtain ⟨l, b, e2, r⟩ := hx
    rw [e2]
    exact hf a b h1 r l
  | ex c p h1 =>
    rw [e] at hx
    obtain ⟨l, e2⟩ := hx
    rw [e2]
    exact ⟨l, rfl⟩
  | bad => trivial
theorem RM.ret {a : α} {b : β} {h : LH} (l : E.n ≤ h.length) (r : RA a b) : RM E RA (ret a h) (ret b (E.em h)) := ⟨l, b, rfl, r⟩
theorem RM.opt {a : Option α} {b : Option β} {h : LH} (l : E.n ≤ h.length) (r : ∀ x, a = some x → ∃ y, b = some y ∧ RA x y) : RM E RA (opt a h) (opt b (E.em h)) := by
  unfold Fv.opt
  cases e : a with
  | none => trivial
  | some x =>
    obtain ⟨y, e2, r2⟩ := r x e
    rw [e2]
    exact ⟨l, y, rfl, r2⟩
theorem RM.opt2 {f : LH → Option (α × LH)} {g : LH → Option (β × LH)} {h : LH} (r : ∀ x h1, f h = some (x, h1) → ∃ y, g (E.em h) = some (y, E.em h1) ∧ RA x y ∧ E.n ≤ h1.length) : RM E RA (opt2 f h) (opt2 g (E.em h)) := by
  unfold Fv.opt2
  cases e : f h with
  | none => trivial
  | some x =>
    obtain ⟨x, h1⟩ := x
    obtain ⟨y, e2, r2, l⟩ := r x h1 e
    rw [e2]
    exact ⟨l, y, rfl, r2⟩
end
abbrev Emb.RW (E : Emb) : W → W → Prop := fun a b => b = E.w a
abbrev Emb.RE (E : Emb) {α : Type} : α → α → Prop := fun a b => b = a
abbrev Emb.RL (E : Emb) : List W → List W → Prop := fun a b => b = a.map E.w
def Emb.RI (E : Emb) : Itw → Itw → Prop := fun a b => b.ws = a.ws.map E.w ∧ ∀ h : LH, E.n ≤ h.length → a.gd h = true → b.gd (E.em h) = true
class EvW (f : Sl → M W) : Prop where
  p : ∀ (E : Emb) sl sl' (h : LH), E.n ≤ h.length → E.S sl sl' → RM E E.RW (f sl h) (f sl' (E.em h))
class EvB (f : Sl → M Bool) : Prop where
  p : ∀ (E : Emb) sl sl' (h : LH), E.n ≤ h.length → E.S sl sl' → RM E E.RE (f sl h) (f sl' (E.em h))
class EvA (f : Sl → M (List W)) : Prop where
  p : ∀ (E : Emb) sl sl' (h : LH), E.n ≤ h.length → E.S sl sl' → RM E E.RL (f sl h) (f sl' (E.em h))
class EvN (f : Sl → M (Option Int)) : Prop where
  p : ∀ (E : Emb) sl sl' (h : LH), E.n ≤ h.length → E.S sl sl' → RM E E.RE (f sl h) (f sl' (E.em h))
class EvI (f : Sl → M Itw) : Prop where
  p : ∀ (E : Emb) sl sl' (h : LH), E.n ≤ h.length → E.S sl sl' → RM E E.RI (f sl h) (f sl' (E.em h))
/-- a def -/
class EvF (f : List W → M W) : Prop where
  p : ∀ (E : Emb) ws (h : LH), E.n ≤ h.length → RM E E.RW (f ws h) (f (ws.map E.w) (E.em h))
class EvO (g : O2) : Prop where
  p : ∀ (E : Emb) x y (h : LH) w h1, E.n ≤ h.length → g x y h = some (w, h1) → g (E.w x) (E.w y) (E.em h) = some (E.w w, E.em h1) ∧ E.n ≤ h1.length
class EvOL (g : OL) : Prop where
  p : ∀ (E : Emb) xs (h : LH) w h1, E.n ≤ h.length → g xs h = some (w, h1) → g (xs.map E.w) (E.em h) = some (E.w w, E.em h1) ∧ E.n ≤ h1.length
class EvOM (g : OM) : Prop where
  p : ∀ (E : Emb) x xs (h : LH) w h1, E.n ≤ h.length → g x xs h = some (w, h1) → g (E.w x) (xs.map E.w) (E.em h) = some (E.w w, E.em h1) ∧ E.n ≤ h1.length
class EvSet (g : W → W → W → LH → Option LH) : Prop where
  p : ∀ (E : Emb) x y z (h h1 : LH), E.n ≤ h.length → g x y z h = some h1 → g (E.w x) (E.w y) (E.w z) (E.em h) = some (E.em h1) ∧ E.n ≤ h1.length
/-- constants -/
class Still (w : W) : Prop where
  p : ∀ ρ, rnW ρ w = w
instance : Still .non := ⟨fun _ => rfl⟩
instance {b} : Still (.bl b) := ⟨fun _ => rfl⟩
instance {b} : Still (.int b) := ⟨fun _ => rfl⟩
instance {b} : Still (.str b) := ⟨fun _ => rfl⟩
theorem rnW_tup (ρ : Nat → Nat) (xs : List W) : rnW ρ (.tup xs) = .tup (xs.map (rnW ρ)) := by rw [rnW, rnWs_eq]
theorem map_strs (ρ : Nat → Nat) (ss : List Str) : (ss.map W.str).map (rnW ρ) = ss.map W.str := by
  rw [List.map_map]; exact List.map_congr_left fun _ _ => rfl
theorem map_ints (ρ : Nat → Nat) (ss : List Int) : (ss.map W.int).map (rnW ρ) = ss.map W.int := by
  rw [List.map_map]; exact List.map_congr_left fun _ _ => rfl
instance {ss : List Str} : Still (.tup (ss.map W.str)) := ⟨fun ρ => by rw [rnW_tup, map_strs]⟩
theorem Emb.pushed {h : LH} (l : E.n ≤ h.length) {o o' : LO} (e : o' = rnO E.ρ o) : (W.ref (E.em h).length, E.em h ++ [o']) = (E.w (.ref h.length), E.em (h ++ [o])) ∧ E.n ≤ (h ++ [o]).length := by
  subst e
  rw [E.push _ l, ← E.len l]
  exact ⟨rfl, by simp; omega⟩
/-! ### expressions -/
instance {i} : EvW (fVar i) := ⟨fun E sl sl' h l s => RM.opt l fun x e => by
  have e2 : sl[i]? = some (some x) := by
    cases e3 : sl[i]? with
    | none => rw [e3] at e; cases e
    | some y => rw [e3] at e; exact congrArg some e
  exact ⟨_, by rw [s.2 i x e2]; rfl, rfl⟩⟩
instance {w} [Still w] : EvW (fC w) := ⟨fun E sl sl' h l s => RM.ret l (Still.p _).symm⟩
instance : EvW fNo := ⟨fun E sl sl' h l s => trivial⟩
instance : EvA aNil := ⟨fun E sl sl' h l s => RM.ret l rfl⟩
instance {f g} [EvW f] [EvA g] : EvA (aCons f g) := ⟨fun E sl sl' h l s => RM.bnd (EvW.p E sl sl' h l s) fun a b h1 r l1 => RM.bnd (EvA.p E sl sl' h1 l1 s) fun a2 b2 h2 r2 l2 => RM.ret l2 (by cases r; cases r2; rfl)⟩
instance {g fa fb} [EvO g] [EvW fa] [EvW fb] : EvW (f2 g fa fb) := ⟨fun E sl sl' h l s => RM.bnd (EvW.p E sl sl' h l s) fun a b h1 r l1 => RM.bnd (EvW.p E sl sl' h1 l1 s) fun a2 b2 h2 r2 l2 => RM.opt2 fun x h3 e => by
  cases r; cases r2
  obtain ⟨q1, q2⟩ := EvO.p E _ _ _ _ _ l2 e
  exact ⟨_, q1, rfl, q2⟩⟩
theorem asB_rn {w : W} {b : Bool} {ρ : Nat → Nat} (e : asB w = some b) : asB (rnW ρ w) = some b := by
  cases w <;> first | exact e | cases e
theorem asI_rn {w : W} {b : Option Int} {ρ : Nat → Nat} (e : asI w = some b) : asI (rnW ρ w) = some b := by
  cases w <;> first | exact e | cases e
instance {f} [EvW f] : EvB (tV f) := ⟨fun E sl sl' h l s => RM.bnd (EvW.p E sl sl' h l s) fun a b h1 r l1 => RM.opt l1 fun x e => by cases r; exact ⟨_, asB_rn e, rfl⟩⟩
instance {f} [EvB f] : EvB (bNot f) := ⟨fun E sl sl' h l s => RM.bnd (EvB.p E sl sl' h l s) fun a b h1 r l1 => RM.ret l1 (by cases r; rfl)⟩
instance {f g} [EvB f] [EvB g] : EvB (bAnd f g) := ⟨fun E sl sl' h l s => RM.bnd (EvB.p E sl sl' h l s) fun a b h1 r l1 => by
  cases r; cases a
  · exact RM.ret l1 rfl
  · exact EvB.p E sl sl' h1 l1 s⟩
instance {f g} [EvB f] [EvB g] : EvB (bOr f g) := ⟨fun E sl sl' h l s => RM.bnd (EvB.p E sl sl' h l s) fun a b h1 r l1 => by
  cases r; cases a
  · exact EvB.p E sl sl' h1 l1 s
  · exact RM.ret l1 rfl⟩
instance : EvB bYes := ⟨fun E sl sl' h l s => RM.ret l rfl⟩
instance {f} [EvW f] : EvW (vNot f) := ⟨fun E sl sl' h l s => RM.bnd (EvW.p E sl sl' h l s) fun a b h1 r l1 => RM.opt l1 fun x e => by
  cases r
  cases e2 : asB a with
  | none => rw [e2] at e; cases e
  | some k => rw [e2] at e; cases e; exact ⟨_, by rw [asB_rn e2]; rfl, rfl⟩⟩
instance {f g} [EvW f] [EvW g] : EvW (vAnd f g) := ⟨fun E sl sl' h l s => RM.bnd (EvW.p E sl sl' h l s) fun a b h1 r l1 => RM.bnd (RA := E.RE) (RM.opt l1 fun x e => by cases r; exact ⟨_, asB_rn e, rfl⟩) fun k k2 h2 r2 l2 => by
  cases r2; cases k
  · exact RM.ret l2 rfl
  · exact EvW.p E sl sl' h2 l2 s⟩
instance {f g} [EvW f] [EvW g] : EvW (vOr f g) := ⟨fun E sl sl' h l s => RM.bnd (EvW.p E sl sl' h l s) fun a b h1 r l1 => RM.bnd (RA := E.RE) (RM.opt l1 fun x e => by cases r; exact ⟨_, asB_rn e, rfl⟩) fun k k2 h2 r2 l2 => by
  cases r2; cases k
  · exact EvW.p E sl sl' h2 l2 s
  · exact RM.ret l2 rfl⟩
instance {c f g} [EvB c] [EvW f] [EvW g] : EvW (fIf c f g) := ⟨fun E sl sl' h l s => RM.bnd (EvB.p E sl sl' h l s) fun a b h1 r l1 => by
  cases r; cases a
  · exact EvW.p E sl sl' h1 l1 s
  · exact EvW.p E sl sl' h1 l1 s⟩
instance {f} [EvA f] : EvW (fTup f) := ⟨fun E sl sl' h l s => RM.bnd (EvA.p E sl sl' h l s) fun a b h1 r l1 => RM.opt2 fun x h2 e => by
  cases r
  split at e
  · cases e
    exact ⟨_, by rw [if_pos (by rw [List.length_map]; assumption)], (rnW_tup _ _).symm, l1⟩
  · cases e⟩
instance {f} [EvA f] : EvW (fLst f) := ⟨fun E sl sl' h l s => RM.bnd (EvA.p E sl sl' h l s) fun a b h1 r l1 => RM.opt2 fun x h2 e => by
  cases r
  split at e
  · cases e
    obtain ⟨q1, q2⟩ := E.pushed l1 (o := .lst a) (o' := .lst (a.map E.w)) rfl
    exact ⟨_, by rw [if_pos (by rw [List.length_map]; assumption), q1], rfl, q2⟩
  · cases e⟩
instance {g g' fa fb fc} [EvO g] [EvO g'] [EvW fa] [EvW fb] [EvW fc] : EvW (fChain g g' fa fb fc) := ⟨fun E sl sl' h l s => RM.bnd (EvW.p E sl sl' h l s) fun a b h1 r l1 => RM.bnd (EvW.p E sl sl' h1 l1 s) fun a2 b2 h2 r2 l2 =>
  RM.bnd (RA := E.RW) (RM.opt2 fun x h3 e => by
    cases r; cases r2
    obtain ⟨q1, q2⟩ := EvO.p E _ _ _ _ _ l2 e
    exact ⟨_, q1, rfl, q2⟩) fun z z' h3 r3 l3 => RM.bnd (RA := E.RE) (RM.opt l3 fun x e => by cases r3; exact ⟨_, asB_rn e, rfl⟩) fun k k2 h4 r4 l4 => by
  cases r4; cases k
  · exact RM.ret l4 rfl
  · exact RM.bnd (EvW.p E sl sl' h4 l4 s) fun u u' h5 r5 l5 => RM.opt2 fun x h6 e => by
      cases r2; cases r5
      obtain ⟨q1, q2⟩ := EvO.p E _ _ _ _ _ l5 e
      exact ⟨_, q1, rfl, q2⟩⟩
theorem isN_rn {n : Bool} {w : W} {ρ : Nat → Nat} : isN n (rnW ρ w) = rnW ρ (isN n w) := by cases w <;> rfl
instance {n f} [EvW f] : EvW (fIsN n f) := ⟨fun E sl sl' h l s => RM.bnd (EvW.p E sl sl' h l s) fun a b h1 r l1 => RM.ret l1 (by cases r; exact isN_rn)⟩
instance : EvN oNone := ⟨fun E sl sl' h l s => RM.ret l rfl⟩
instance {f} [EvW f] : EvN (oSome f) := ⟨fun E sl sl' h l s => RM.bnd (EvW.p E sl sl' h l s) fun a b h1 r l1 => RM.opt l1 fun x e => by cases r; exact ⟨_, asI_rn e, rfl⟩⟩
theorem Emb.seq {h : LH} (l : E.n ≤ h.length) {w : W} {xs : List W} (e : seqW h w = some xs) : seqW (E.em h) (E.w w) = some (xs.map E.w) := by
  unfold seqW at e ⊢
  cases w with
  | tup ys => cases e; rw [Emb.w, rnW_tup]
  | ref i =>
    simp only at e
    cases e2 : h[i]? with
    | none => rw [e2] at e; cases e
    | some o =>
      rw [e2] at e
      have := E.get l e2
      cases o <;> cases e <;> (simp only [Emb.w, rnW, this, rnO])
  | _ => cases e
theorem cutW_rn {ρ : Nat → Nat} {xs : List W} {lo hi : Option Int} : cutW (xs.map (rnW ρ)) lo hi = (cutW xs lo hi).map (rnW ρ) := by
  unfold cutW
  rw [List.length_map, List.map_take, List.map_drop]
instance {fa fl fh} [EvW fa] [EvN fl] [EvN fh] : EvW (fSl fa fl fh) := ⟨fun E sl sl' h l s => RM.bnd (EvW.p E sl sl' h l s) fun a b h1 r l1 => RM.bnd (EvN.p E sl sl' h1 l1 s) fun a2 b2 h2 r2 l2 => RM.bnd (EvN.p E sl sl' h2 l2 s) fun a3 b3 h3 r3 l3 => RM.opt2 fun x h4 e => by
  cases r; cases r2; cases r3
  cases a with
  | str z =>
    simp only [slW] at e
    split at e
    · cases e
      refine ⟨_, ?_, rfl, l3⟩
      show (if z.length ≤ LIM then _ else none) = _
      rw [if_pos (by assumption)]
      rfl
    · cases e
  | tup xs =>
    cases e
    refine ⟨_, ?_, rfl, l3⟩
    show slW (rnW _ _) _ _ _ = some (rnW _ _, _)
    rw [rnW_tup, rnW_tup, ← cutW_rn]
    rfl
  | ref i =>
    simp only [slW] at e
    cases e2 : seqW h3 (.ref i) with
    | none => rw [e2] at e; cases e
    | some xs =>
      rw [e2] at e
      cases e
      obtain ⟨q1, q2⟩ := E.pushed l3 (o := .lst (cutW xs a2 a3)) rfl
      refine ⟨_, ?_, rfl, q2⟩
      show (seqW (E.em h3) (E.w (.ref i))).map _ = _
      rw [E.seq l3 e2, ← q1]
      show some (_, _ ++ [LO.lst (cutW (xs.map (rnW E.ρ)) a2 a3)]) = some _
      rw [cutW_rn]
      rfl
  | _ => cases e⟩
instance {g fa} [EvOL g] [EvA fa] : EvW (fB g fa) := ⟨fun E sl sl' h l s => RM.bnd (EvA.p E sl sl' h l s) fun a b h1 r l1 => RM.opt2 fun x h2 e => by
  cases r
  obtain ⟨q1, q2⟩ := EvOL.p E _ _ _ _ l1 e
  exact ⟨_, q1, rfl, q2⟩⟩
instance {fa} [EvW fa] : EvW (fNeg fa) := ⟨fun E sl sl' h l s => RM.bnd (EvW.p E sl sl' h l s) fun a b h1 r l1 => RM.opt l1 fun x e => by
  cases r
  cases a <;> first | (cases e; exact ⟨_, rfl, rfl⟩) | cases e⟩
theorem tyW_rn {t : Ty} {w : W} {h : LH} (l : E.n ≤ h.length) (e : tyW t w h = true) : tyW t (E.w w) (E.em h) = true := by
  cases t <;> cases w <;> first | exact e | (cases e; done) | skip
  all_goals
    rename_i i
    simp only [tyW] at e
    cases e2 : h[i]? with
    | none => rw [e2] at e; cases e
    | some o =>
      rw [e2] at e
      have := E.get l e2
      cases o <;> first | (cases e; done) | (simp only [Emb.w, rnW, tyW, this, rnO])
instance {t g fo fa} [EvOM g] [EvW fo] [EvA fa] : EvW (fM t g fo fa) := ⟨fun E sl sl' h l s => RM.bnd (EvW.p E sl sl' h l s) fun a b h1 r l1 => RM.bnd (RA := E.RE) (RM.opt2 fun x h2 e => by
    cases r
    split at e
    · cases e; exact ⟨_, if_pos (tyW_rn l1 (by assumption)), rfl, l1⟩
    · cases e) fun u u' h2 r2 l2 => RM.bnd (EvA.p E sl sl' h2 l2 s) fun a3 b3 h3 r3 l3 => RM.opt2 fun x h4 e => by
  cases r; cases r3
  obtain ⟨q1, q2⟩ := EvOM.p E _ _ _ _ _ l3 e
  exact ⟨_, q1, rfl, q2⟩⟩
instance {n F fa} [EvF F] [EvA fa] : EvW (fCall n F fa) := ⟨fun E sl sl' h l s => RM.bnd (EvA.p E sl sl' h l s) fun a b h1 r l1 => by
  cases r
  simp only [List.length_map]
  split
  · exact EvF.p E a h1 l1
  · trivial⟩
theorem lookup_rn {ρ : Nat → Nat} {f : Str} : ∀ {fs : List (Str × W)}, (fs.map (rnK ρ)).lookup f = (fs.lookup f).map (rnW ρ)
  | [] => rfl
  | (g, v) :: r => by
    show ((g, rnW ρ v) :: r.map (rnK ρ)).lookup f = _
    rw [List.lookup_cons, List.lookup_cons]
    cases f == g
    · exact lookup_rn
    · rfl
theorem isI_rn {c m : Str} {w : W} {h : LH} (l : E.n ≤ h.length) (e : isI c w h m = true) : isI c (E.w w) (E.em h) m = true := by
  cases w with
  | ref i =>
    simp only [isI] at e
    cases e2 : h[i]? with
    | none => rw [e2] at e; cases e
    | some o =>
      rw [e2] at e
      have := E.get l e2
      cases o with
      | ins c' fs =>
        simp only [Emb.w, rnW, isI, this, rnO, lookup_rn]
        simpa using e
      | _ => cases e
  | _ => cases e
instance {c m n F fo fa} [EvF F] [EvW fo] [EvA fa] : EvW (fMeth c m n F fo fa) := ⟨fun E sl sl' h l s => RM.bnd (EvW.p E sl sl' h l s) fun a b h1 r l1 => RM.bnd (RA := E.RE) (RM.opt2 fun x h2 e => by
    cases r
    split at e
    · cases e; exact ⟨_, if_pos (isI_rn l1 (by assumption)), rfl, l1⟩
    · cases e) fun u u' h2 r2 l2 => RM.bnd (EvA.p E sl sl' h2 l2 s) fun a3 b3 h3 r3 l3 => by
  cases r; cases r3
  simp only [List.length_map]
  split
  · exact EvF.p E (a :: a3) h3 l3
  · trivial⟩
instance {c n F fa} [EvF F] [EvA fa] : EvW (fMake c n F fa) := ⟨fun E sl sl' h l s => RM.bnd (EvA.p E sl sl' h l s) fun a b h1 r l1 => by
  cases r
  simp only [List.length_map]
  split
  · obtain ⟨q1, q2⟩ := E.pushed l1 (o := .ins c []) rfl
    have q3 : W.ref (E.em h1).length = E.w (.ref h1.length) := congrArg Prod.fst q1
    have q4 : E.em h1 ++ [LO.ins c []] = E.em (h1 ++ [LO.ins c []]) := congrArg Prod.snd q1
    have k := EvF.p (f := F) E (.ref h1.length :: a) (h1 ++ [.ins c []]) q2
    rw [q3, q4]
    rw [List.map_cons] at k
    cases e : F (.ref h1.length :: a) (h1 ++ [.ins c []]) with
    | ok w h2 =>
      rw [e] at k
      obtain ⟨l3, b, e2, r⟩ := k
      cases r
      cases w with
      | non => rw [e2]; exact ⟨l3, _, rfl, rfl⟩
      | _ => trivial
    | ex c p h2 =>
      rw [e] at k
      obtain ⟨l3, e2⟩ := k
      rw [e2]
      exact ⟨l3, rfl⟩
    | bad => trivial
  · trivial⟩
instance {cs f fo} [EvW fo] : EvW (fFld cs f fo) := ⟨fun E sl sl' h l s => RM.bnd (EvW.p E sl sl' h l s) fun a b h1 r l1 => RM.opt2 fun x h2 e => by
  cases r
  cases a with
  | ref i =>
    simp only [fldW] at e
    cases e2 : h1[i]? with
    | none => rw [e2] at e; cases e
    | some o =>
      rw [e2] at e
      have := E.get l1 e2
      cases o with
      | ins c' fs =>
        simp only at e
        split at e
        · cases e3 : fs.lookup f with
          | none => rw [e3] at e; cases e
          | some v =>
            rw [e3] at e
            cases e
            refine ⟨_, ?_, rfl, l1⟩
            simp only [Emb.w, rnW, fldW, this, rnO, lookup_rn, e3]
            rw [if_pos (by assumption)]
            rfl
        · cases e
      | _ => cases e
  | _ => cases e⟩
end Fv
set_option Elab.async false
set_option linter.all false
set_option maxRecDepth 100000
set_option maxHeartbeats 400000
namespace Fv
open PySem PySem.Spec PyProof.Rows L2 Fh
variable {E : Emb}
/-! ### primitives -/
theorem toD_rn : ∀ {n : Nat} {h : LH} {w : W} {d : PyData}, E.n ≤ h.length → toD n h w = some d → toD n (E.em h) (E.w w) = some d
  | 0, _, _, _, _, e => by cases e
  | n + 1, h, w, d, l, e => by
    have key : ∀ (xs : List W) (ds : List PyData), xs.mapM (toD n h) = some ds → (xs.map E.w).mapM (toD n (E.em h)) = some ds := by
      intro xs
      induction xs with
      | nil => intro ds e; exact e
      | cons x xs ih =>
        intro ds e
        rw [List.mapM_cons] at e
        rw [List.map_cons, List.mapM_cons]
        cases e1 : toD n h x with
        | none => rw [e1] at e; cases e
        | some d1 =>
          cases e2 : xs.mapM (toD n h) with
          | none => rw [e1, e2] at e; cases e
          | some ds2 =>
            rw [e1, e2] at e
            rw [toD_rn l e1, ih ds2 e2]
            exact e
    cases w with
    | tup xs =>
      rw [Emb.w, rnW_tup]
      simp only [toD] at e ⊢
      cases e2 : xs.mapM (toD n h) with
      | none => rw [e2] at e; cases e
      | some ds => rw [e2] at e; rw [key xs ds e2]; exact e
    | ref i =>
      simp only [toD] at e
      cases e2 : h[i]? with
      | none => rw [e2] at e; cases e
      | some o =>
        rw [e2] at e
        have g := E.get l e2
        cases o with
        | lst xs =>
          simp only at e
          cases e3 : xs.mapM (toD n h) with
          | none => rw [e3] at e; cases e
          | some ds => rw [e3] at e; simp only [Emb.w, rnW, toD, g, rnO]; rw [key xs ds e3]; exact e
        | rd xs =>
          simp only at e
          cases e3 : xs.mapM (toD n h) with
          | none => rw [e3] at e; cases e
          | some ds => rw [e3] at e; simp only [Emb.w, rnW, toD, g, rnO]; rw [key xs ds e3]; exact e
        | _ => cases e
    | _ => exact e
instance {b} : EvO (eqW b) := ⟨fun E x y h w h1 l e => by
  unfold eqW at e ⊢
  cases e1 : toD 9 h x with
  | none => rw [e1] at e; cases e
  | some d =>
    cases e2 : toD 9 h y with
    | none => rw [e1, e2] at e; cases e
    | some d2 =>
      rw [e1, e2] at e
      rw [toD_rn l e1, toD_rn l e2]
      simp only at e ⊢
      split at e
      · rename_i hc
        cases e
        rw [if_pos hc]
        exact ⟨rfl, l⟩
      · cases e⟩
instance {b} : EvO (inW b) := ⟨fun E x y h w h1 l e => by
  cases y with
  | str z =>
    cases x <;> first | (cases e; exact ⟨rfl, l⟩) | cases e
  | tup ys =>
    rw [show E.w (.tup ys) = .tup (ys.map E.w) from rnW_tup _ _]
    simp only [inW] at e ⊢
    rw [← show E.w (.tup ys) = .tup (ys.map E.w) from rnW_tup _ _]
    cases e1 : toD 9 h x with
    | none => rw [e1] at e; cases e
    | some d =>
      cases e2 : toD 9 h (.tup ys) with
      | none => rw [e1, e2] at e; cases e
      | some d2 =>
        rw [e1, e2] at e
        rw [toD_rn l e1, toD_rn l e2]
        cases d2 <;> simp only at e ⊢ <;> first | (cases e; done) | skip
        all_goals
          split at e
          · rename_i hc
            cases e
            rw [if_pos hc]
            exact ⟨rfl, l⟩
          · cases e
  | ref i =>
    simp only [inW] at e ⊢
    cases e1 : toD 9 h x with
    | none => rw [e1] at e; cases e
    | some d =>
      cases e2 : toD 9 h (.ref i) with
      | none => rw [e1, e2] at e; cases e
      | some d2 =>
        rw [e1, e2] at e
        show (match toD 9 (E.em h) (E.w x), toD 9 (E.em h) (E.w (.ref i)) with | some d, some (.tuple ds) => _ | some d, some (.list ds) => _ | _, _ => _) = _ ∧ _
        rw [toD_rn l e1, toD_rn l e2]
        cases d2 <;> simp only at e ⊢ <;> first | (cases e; done) | skip
        all_goals
          split at e
          · rename_i hc
            cases e
            rw [if_pos hc]
            exact ⟨rfl, l⟩
          · cases e
  | _ =>
    simp only [inW] at e
    cases e1 : toD 9 h x with
    | none => rw [e1] at e; cases e
    | some d => rw [e1] at e; cases e⟩
theorem two {h : LH} (l : E.n ≤ h.length) {w w' : W} (e : w' = E.w w) : (some (w', E.em h) = some (E.w w, E.em h)) ∧ E.n ≤ h.length := ⟨by rw [e], l⟩
instance {p} : EvO (cmpI p) := ⟨fun E x y h w h1 l e => by
  cases x <;> first | (cases e; done) | skip
  cases y <;> first | (cases e; done) | skip
  cases e
  exact ⟨rfl, l⟩⟩
instance : EvO subW := ⟨fun E x y h w h1 l e => by
  cases x <;> first | (cases e; done) | skip
  cases y <;> first | (cases e; done) | skip
  cases e
  exact ⟨rfl, l⟩⟩
instance : EvO iaddW := ⟨fun E x y h w h1 l e => by
  cases x <;> first | (cases e; done) | skip
  cases y <;> first | (cases e; done) | skip
  cases e
  exact ⟨rfl, l⟩⟩
theorem ite_some {c : Prop} [Decidable c] {α : Type} {a b : α} (e : (if c then some a else none) = some b) : c ∧ a = b := by
  split at e
  · cases e; exact ⟨by assumption, rfl⟩
  · cases e
instance : EvO divW := ⟨fun E x y h w h1 l e => by
  cases x <;> first | (cases e; done) | skip
  cases y <;> first | (cases e; done) | skip
  obtain ⟨c, e⟩ := ite_some e
  cases e
  exact ⟨if_pos c, l⟩⟩
instance : EvO modW := ⟨fun E x y h w h1 l e => by
  cases x <;> first | (cases e; done) | skip
  cases y <;> first | (cases e; done) | skip
  obtain ⟨c, e⟩ := ite_some e
  cases e
  exact ⟨if_pos c, l⟩⟩
instance : EvO powW := ⟨fun E x y h w h1 l e => by
  cases x <;> first | (cases e; done) | skip
  cases y <;> first | (cases e; done) | skip
  obtain ⟨c, e⟩ := ite_some e
  cases e
  exact ⟨if_pos c, l⟩⟩
instance : EvO addW := ⟨fun E x y h w h1 l e => by
  cases x <;> cases y <;> first | (cases e; done) | skip
  · cases e; exact ⟨rfl, l⟩
  · obtain ⟨c, e⟩ := ite_some e
    cases e
    exact ⟨if_pos c, l⟩
  · rename_i a b
    obtain ⟨c, e⟩ := ite_some e
    cases e
    simp only [Emb.w, rnW_tup, addW]
    rw [if_pos (by simpa using c), List.map_append]
    exact ⟨rfl, l⟩
  · rename_i i j
    simp only [addW] at e
    cases e1 : h[i]? with
    | none => rw [e1] at e; cases e
    | some o =>
      cases e2 : h[j]? with
      | none => rw [e1, e2] at e; cases o <;> cases e
      | some o2 =>
        rw [e1, e2] at e
        have g1 := E.get l e1
        have g2 := E.get l e2
        cases o <;> first | (cases e; done) | skip
        cases o2 <;> first | (cases e; done) | skip
        rename_i xs ys
        obtain ⟨c, e⟩ := ite_some e
        cases e
        obtain ⟨q1, q2⟩ := E.pushed l (o := .lst (xs ++ ys)) (o' := .lst (xs.map E.w ++ ys.map E.w)) (by simp [rnO])
        simp only [Emb.w, rnW, addW, g1, g2, rnO]
        rw [if_pos (by simpa using c)]
        exact ⟨congrArg some q1, q2⟩⟩
theorem flat_rn {ρ : Nat → Nat} {xs : List W} : ∀ k, (List.replicate k (xs.map (rnW ρ))).flatten = ((List.replicate k xs).flatten).map (rnW ρ) := fun k => by
  rw [List.map_flatten, List.map_replicate]
instance : EvO mulW := ⟨fun E x y h w h1 l e => by
  cases x <;> cases y <;> first | (cases e; done) | skip
  · obtain ⟨c, e⟩ := ite_some e
    cases e
    exact ⟨if_pos c, l⟩
  · rename_i i k
    simp only [mulW] at e
    cases e1 : h[i]? with
    | none => rw [e1] at e; cases e
    | some o =>
      rw [e1] at e
      have g1 := E.get l e1
      cases o <;> first | (cases e; done) | skip
      rename_i xs
      obtain ⟨c, e⟩ := ite_some e
      cases e
      obtain ⟨q1, q2⟩ := E.pushed l (o := .lst (List.replicate k.toNat xs).flatten) (o' := .lst (List.replicate k.toNat (xs.map E.w)).flatten) (by rw [flat_rn]; rfl)
      simp only [Emb.w, rnW, mulW, g1, rnO]
      rw [if_pos (by simpa using c)]
      exact ⟨congrArg some q1, q2⟩⟩
theorem keyW_rn {w : W} {k : Key} {ρ : Nat → Nat} (e : keyW w = some k) : keyW (rnW ρ w) = some k := by
  cases w <;> first | exact e | cases e
theorem valW_rn {ρ : Nat → Nat} {k : Key} {kvs : List (Key × W)} : valW (kvs.map (rnK ρ)) k = (valW kvs k).map (rnW ρ) := by
  unfold valW
  induction kvs with
  | nil => rfl
  | cons kv r ih =>
    rw [List.map_cons, List.find?_cons, List.find?_cons]
    show (match decide (kv.1 = k) with | true => _ | false => _ : Option (Key × W)).map _ = _
    cases decide (kv.1 = k)
    · exact ih
    · rfl
theorem putW_rn {ρ : Nat → Nat} {k : Key} {v : W} {kvs : List (Key × W)} : putW (kvs.map (rnK ρ)) k (rnW ρ v) = (putW kvs k v).map (rnK ρ) := by
  unfold putW
  have : ((kvs.map (rnK ρ)).any fun kv => decide (kv.1 = k)) = (kvs.any fun kv => decide (kv.1 = k)) := by rw [List.any_map]; rfl
  rw [this]
  split
  · rw [List.map_map, List.map_map]
    refine List.map_congr_left fun kv _ => ?_
    show (if kv.1 = k then _ else _) = rnK ρ (if kv.1 = k then _ else _)
    split <;> rfl
  · rw [List.map_append]; rfl
theorem atI_map {α β : Type} {f : α → β} {xs : List α} {i : Int} : atI (xs.map f) i = (atI xs i).map f := by
  unfold atI
  simp [Function.comp_def]
theorem ixS_rn {x y : W} {h : LH} {w : W} {h1 : LH} (l : E.n ≤ h.length) (e : ixS x y h = some (w, h1)) : ixS (E.w x) (E.w y) (E.em h) = some (E.w w, E.em h1) ∧ E.n ≤ h1.length := by
  cases y <;> first | (cases e; done) | skip
  rename_i i
  cases x with
  | str z =>
    simp only [ixS] at e
    split at e
    · rename_i hz
      cases e2 : atI z.cps.toList i with
      | none => rw [e2] at e; cases e
      | some c =>
        rw [e2] at e
        cases e
        refine ⟨?_, l⟩
        show (if z.length ≤ LIM then _ else _) = _
        rw [if_pos hz, e2]
        rfl
    · cases e
  | tup xs =>
    simp only [ixS, seqW] at e
    cases e2 : atI xs i with
    | none => rw [Option.bind_some, e2] at e; cases e
    | some c =>
      rw [Option.bind_some, e2] at e
      cases e
      refine ⟨?_, l⟩
      rw [show E.w (.tup xs) = .tup (xs.map E.w) from rnW_tup _ _]
      show (atI (xs.map E.w) i).map _ = _
      rw [atI_map, e2]
      rfl
  | ref j =>
    simp only [ixS] at e
    cases e3 : seqW h (.ref j) with
    | none => rw [e3] at e; cases e
    | some xs =>
      rw [e3, Option.bind_some] at e
      cases e2 : atI xs i with
      | none => rw [e2] at e; cases e
      | some c =>
        rw [e2] at e
        cases e
        refine ⟨?_, l⟩
        show (seqW (E.em h) (E.w (.ref j))).bind _ = _
        rw [E.seq l e3, Option.bind_some, atI_map, e2]
        rfl
  | _ => cases e
theorem ixD_rn {x y : W} {h : LH} {w : W} {h1 : LH} (l : E.n ≤ h.length) (e : ixD x y h = some (w, h1)) : ixD (E.w x) (E.w y) (E.em h) = some (E.w w, E.em h1) ∧ E.n ≤ h1.length := by
  cases x with
  | ref j =>
    simp only [ixD] at e
    cases e2 : h[j]? with
    | none => rw [e2] at e; cases e
    | some o =>
      rw [e2] at e
      have g := E.get l e2
      cases o <;> first | (cases e; done) | skip
      all_goals
        rename_i kvs
        simp only at e
        cases e3 : keyW y with
        | none => rw [e3] at e; cases e
        | some k =>
          rw [e3, Option.bind_some] at e
          cases e4 : valW kvs k with
          | none => rw [e4] at e; cases e
          | some v =>
            rw [e4] at e
            cases e
            refine ⟨?_, l⟩
            simp only [Emb.w, rnW, ixD, g, rnO, keyW_rn e3, Option.bind_some, valW_rn, e4, Option.map_some]
  | _ => cases e
instance : EvO ixW := ⟨fun E x y h w h1 l e => by
  cases x with
  | ref j =>
    simp only [ixW] at e
    cases e2 : h[j]? with
    | none =>
      rw [e2] at e
      cases y <;> first | (cases e; done) | skip
      simp only [ixS, seqW, e2] at e
      cases e
    | some o =>
      rw [e2] at e
      have g := E.get l e2
      cases o with
      | dct kvs => simp only [Emb.w, rnW, ixW, g, rnO]; exact ixD_rn l e
      | dcl kvs => simp only [Emb.w, rnW, ixW, g, rnO]; exact ixD_rn l e
      | lst kvs => simp only [Emb.w, rnW, ixW, g, rnO]; exact ixS_rn l e
      | rd kvs => simp only [Emb.w, rnW, ixW, g, rnO]; exact ixS_rn l e
      | ins c kvs => simp only [Emb.w, rnW, ixW, g, rnO]; exact ixS_rn l e
      | lam c kvs => simp only [Emb.w, rnW, ixW, g, rnO]; exact ixS_rn l e
      | dead => simp only [Emb.w, rnW, ixW, g, rnO]; exact ixS_rn l e
  | tup xs =>
    have : E.w (.tup xs) = .tup (xs.map E.w) := rnW_tup _ _
    have k := ixS_rn (E := E) (x := .tup xs) l e
    rw [this] at k ⊢
    exact k
  | str z => exact ixS_rn (E := E) (x := .str z) l e
  | non => exact ixS_rn (E := E) (x := .non) l e
  | bl z => exact ixS_rn (E := E) (x := .bl z) l e
  | int z => exact ixS_rn (E := E) (x := .int z) l e⟩
instance : EvO ixL := ⟨fun E x y h w h1 l e => by
  cases x <;> cases y <;> first | (cases e; done) | skip
  rename_i j i
  simp only [ixL] at e
  cases e3 : seqW h (.ref j) with
  | none => rw [e3] at e; cases e
  | some xs =>
    rw [e3, Option.bind_some] at e
    cases e2 : atI xs i with
    | none => rw [e2] at e; cases e
    | some c =>
      rw [e2] at e
      cases e
      refine ⟨?_, l⟩
      show (seqW (E.em h) (E.w (.ref j))).bind _ = _
      rw [E.seq l e3, Option.bind_some, atI_map, e2]
      rfl⟩
instance : EvO ixS := ⟨fun E x y h w h1 l e => ixS_rn l e⟩
instance : EvO ixD := ⟨fun E x y h w h1 l e => ixD_rn l e⟩
theorem list1 {α : Type} {P : List α → Prop} (h0 : P []) (h1 : ∀ x, P [x]) (h2 : ∀ x y r, P (x :: y :: r)) : ∀ xs, P xs
  | [] => h0
  | [x] => h1 x
  | x :: y :: r => h2 x y r
instance : EvOL lenW := ⟨fun E ws h w h1 l e => by
  match ws, e with
  | [.str z], e =>
    obtain ⟨c, e⟩ := ite_some e
    cases e
    exact ⟨if_pos c, l⟩
  | [.tup xs], e =>
    cases e
    simp only [List.map_cons, List.map_nil, Emb.w, rnW_tup, lenW, List.length_map]
    exact ⟨rfl, l⟩
  | [.ref i], e =>
    simp only [lenW] at e
    cases e2 : h[i]? with
    | none => rw [e2] at e; cases e
    | some o =>
      rw [e2] at e
      have g := E.get l e2
      cases o <;> first | (cases e; done) | skip
      all_goals
        cases e
        simp only [List.map_cons, List.map_nil, Emb.w, rnW, lenW, g, rnO, List.length_map]
        exact ⟨trivial, l⟩
  | [.non], e => cases e
  | [.bl _], e => cases e
  | [.int _], e => cases e
  | [], e => cases e
  | [a, b], e => cases a <;> cases e
  | a :: b :: c :: r, e => cases a <;> cases e⟩
theorem seq1 {g : List W → W × LH} {ws : List W} {h : LH} {f : OL} {w : W} {h1 : LH} (hf : f = fun ws h => match ws with | [w] => (seqW h w).map (fun xs => (g xs, h).1) | _ => none) : True := trivial
instance : EvOL tupleW := ⟨fun E ws h w h1 l e => by
  match ws, e with
  | [x], e =>
    simp only [tupleW] at e
    cases e2 : seqW h x with
    | none => rw [e2] at e; cases e
    | some xs =>
      rw [e2] at e
      cases e
      refine ⟨?_, l⟩
      show (seqW (E.em h) (E.w x)).map _ = _
      rw [E.seq l e2, Emb.w, rnW_tup]
      rfl
  | [], e => cases e
  | a :: b :: r, e => cases e⟩
instance : EvOL listW := ⟨fun E ws h w h1 l e => by
  match ws, e with
  | [x], e =>
    simp only [listW] at e
    cases e2 : seqW h x with
    | none => rw [e2] at e; cases e
    | some xs =>
      rw [e2] at e
      cases e
      obtain ⟨q1, q2⟩ := E.pushed l (o := .lst xs) rfl
      refine ⟨?_, q2⟩
      show (seqW (E.em h) (E.w x)).map _ = _
      rw [E.seq l e2, ← q1]
      rfl
  | [], e => cases e
  | a :: b :: r, e => cases e⟩
instance : EvOL intW := ⟨fun E ws h w h1 l e => by
  match ws, e with
  | [.int i], e => cases e; exact ⟨rfl, l⟩
  | [.bl i], e => cases e; exact ⟨rfl, l⟩
  | [.str z], e =>
    simp only [intW] at e
    split at e
    · rename_i hz
      cases e2 : PySem.intText? z with
      | none => rw [e2] at e; cases e
      | some n =>
        rw [e2] at e
        cases e
        refine ⟨?_, l⟩
        show (if z.length ≤ 640 then _ else _) = _
        rw [if_pos hz, e2]
        rfl
    · cases e
  | [.non], e => cases e
  | [.tup _], e => cases e
  | [.ref _], e => cases e
  | [], e => cases e
  | [a, b], e => cases a <;> cases e
  | a :: b :: c :: r, e => cases a <;> cases e⟩
instance : EvOL strW := ⟨fun E ws h w h1 l e => by
  match ws, e with
  | [.int i], e =>
    obtain ⟨c, e⟩ := ite_some e
    cases e
    exact ⟨if_pos c, l⟩
  | [.bl _], e => cases e
  | [.str _], e => cases e
  | [.non], e => cases e
  | [.tup _], e => cases e
  | [.ref _], e => cases e
  | [], e => cases e
  | [a, b], e => cases a <;> cases e
  | a :: b :: c :: r, e => cases a <;> cases e⟩
instance : EvOL absW := ⟨fun E ws h w h1 l e => by
  match ws, e with
  | [.int i], e => cases e; exact ⟨rfl, l⟩
  | [.bl _], e => cases e
  | [.str _], e => cases e
  | [.non], e => cases e
  | [.tup _], e => cases e
  | [.ref _], e => cases e
  | [], e => cases e
  | [a, b], e => cases a <;> cases e
  | a :: b :: c :: r, e => cases a <;> cases e⟩
theorem txts_rn {ρ : Nat → Nat} : ∀ {ws : List W} {ys : List Str}, txts ws = some ys → txts (ws.map (rnW ρ)) = some ys
  | [], _, e => e
  | .str x :: r, ys, e => by
    simp only [txts] at e
    cases e2 : txts r with
    | none => rw [e2] at e; cases e
    | some zs =>
      rw [e2] at e
      cases e
      simp only [List.map_cons, rnW, txts, txts_rn e2, Option.map_some]
  | .non :: _, _, e => by cases e
  | .bl _ :: _, _, e => by cases e
  | .int _ :: _, _, e => by cases e
  | .tup _ :: _, _, e => by cases e
  | .ref _ :: _, _, e => by cases e
theorem nums_rn {ρ : Nat → Nat} : ∀ {ws : List W} {ys : List Int}, nums ws = some ys → nums (ws.map (rnW ρ)) = some ys
  | [], _, e => e
  | .int x :: r, ys, e => by
    simp only [nums] at e
    cases e2 : nums r with
    | none => rw [e2] at e; cases e
    | some zs =>
      rw [e2] at e
      cases e
      simp only [List.map_cons, rnW, nums, nums_rn e2, Option.map_some]
  | .non :: _, _, e => by cases e
  | .bl _ :: _, _, e => by cases e
  | .str _ :: _, _, e => by cases e
  | .tup _ :: _, _, e => by cases e
  | .ref _ :: _, _, e => by cases e
instance : EvOL sortedTW := ⟨fun E ws h w h1 l e => by
  match ws, e with
  | [.tup xs], e =>
    simp only [sortedTW] at e
    cases e2 : txts xs with
    | none => rw [e2] at e; cases e
    | some ys =>
      rw [e2, Option.bind_some] at e
      obtain ⟨c, e⟩ := ite_some e
      cases e
      obtain ⟨q1, q2⟩ := E.pushed l (o := .lst ((isort leS ys).map W.str)) (o' := .lst ((isort leS ys).map W.str)) (by rw [rnO, map_strs])
      simp only [List.map_cons, List.map_nil, Emb.w, rnW_tup, sortedTW]
      rw [txts_rn e2, Option.bind_some, if_pos c]
      exact ⟨congrArg some q1, q2⟩
  | [.int _], e => cases e
  | [.bl _], e => cases e
  | [.str _], e => cases e
  | [.non], e => cases e
  | [.ref _], e => cases e
  | [], e => cases e
  | [a, b], e => cases a <;> cases e
  | a :: b :: c :: r, e => cases a <;> cases e⟩
instance : EvOL minW := ⟨fun E ws h w h1 l e => by
  match ws, e with
  | [.ref i], e =>
    simp only [minW] at e
    cases e2 : seqW h (.ref i) with
    | none => rw [e2] at e; cases e
    | some xs =>
      rw [e2, Option.bind_some] at e
      cases e3 : nums xs with
      | none => rw [e3] at e; cases e
      | some ys =>
        rw [e3, Option.bind_some] at e
        cases e4 : minL ys with
        | none => rw [e4] at e; cases e
        | some k =>
          rw [e4] at e
          cases e
          refine ⟨?_, l⟩
          show (seqW (E.em h) (E.w (.ref i))).bind _ = _
          rw [E.seq l e2, Option.bind_some, nums_rn e3, Option.bind_some, e4]
          rfl
  | [.int _], e => cases e
  | [.bl _], e => cases e
  | [.str _], e => cases e
  | [.non], e => cases e
  | [.tup _], e => cases e
  | [], e => cases e
  | [a, b], e => cases a <;> cases e
  | a :: b :: c :: r, e => cases a <;> cases e⟩
instance : EvOL sumW := ⟨fun E ws h w h1 l e => by
  match ws, e with
  | [.ref i], e =>
    simp only [sumW] at e
    cases e2 : seqW h (.ref i) with
    | none => rw [e2] at e; cases e
    | some xs =>
      rw [e2, Option.bind_some] at e
      cases e3 : nums xs with
      | none => rw [e3] at e; cases e
      | some ys =>
        rw [e3] at e
        cases e
        refine ⟨?_, l⟩
        show (seqW (E.em h) (E.w (.ref i))).bind _ = _
        rw [E.seq l e2, Option.bind_some, nums_rn e3]
        rfl
  | [.int _], e => cases e
  | [.bl _], e => cases e
  | [.str _], e => cases e
  | [.non], e => cases e
  | [.tup _], e => cases e
  | [], e => cases e
  | [a, b], e => cases a <;> cases e
  | a :: b :: c :: r, e => cases a <;> cases e⟩
theorem Emb.put {h : LH} (l : E.n ≤ h.length) {i : Nat} {o : LO} (e : h[i]? = some o) (o2 : LO) : (E.em h).set (E.ρ i) (rnO E.ρ o2) = E.em (h.set i o2) ∧ E.n ≤ (h.set i o2).length :=
  ⟨(E.set o2 l (List.getElem?_eq_some_iff.mp e).1).symm, by rw [List.length_set]; exact l⟩
instance : EvOM appendW := ⟨fun E o ws h w h1 l e => by
  match o, ws, e with
  | .ref i, [x], e =>
    simp only [appendW] at e
    cases e2 : h[i]? with
    | none => rw [e2] at e; cases e
    | some o =>
      rw [e2] at e
      have g := E.get l e2
      cases o <;> first | (cases e; done) | skip
      rename_i xs
      obtain ⟨c, e⟩ := ite_some e
      cases e
      obtain ⟨q1, q2⟩ := E.put l e2 (.lst (xs ++ [x]))
      simp only [List.map_cons, List.map_nil, Emb.w, rnW, appendW, g, rnO]
      rw [if_pos (by simpa using c), ← q1]
      refine ⟨by simp [rnO], q2⟩
  | .ref i, [], e => cases e
  | .ref i, a :: b :: r, e => cases e
  | .int _, _, e => cases e
  | .bl _, _, e => cases e
  | .str _, _, e => cases e
  | .non, _, e => cases e
  | .tup _, _, e => cases e⟩
instance : EvOM extendW := ⟨fun E o ws h w h1 l e => by
  match o, ws, e with
  | .ref i, [.ref j], e =>
    simp only [extendW] at e
    cases e2 : h[i]? with
    | none => rw [e2] at e; cases e
    | some o =>
      cases e3 : h[j]? with
      | none => rw [e2, e3] at e; cases o <;> cases e
      | some o2 =>
        rw [e2, e3] at e
        have g := E.get l e2
        have g2 := E.get l e3
        cases o <;> first | (cases e; done) | skip
        cases o2 <;> first | (cases e; done) | skip
        rename_i xs ys
        obtain ⟨c, e⟩ := ite_some e
        cases e
        obtain ⟨q1, q2⟩ := E.put l e2 (.lst (xs ++ ys))
        simp only [List.map_cons, List.map_nil, Emb.w, rnW, extendW, g, g2, rnO]
        rw [if_pos (by simpa using c), ← q1]
        refine ⟨by simp [rnO], q2⟩
  | .ref i, [], e => cases e
  | .ref i, [.int _], e => cases e
  | .ref i, [.bl _], e => cases e
  | .ref i, [.str _], e => cases e
  | .ref i, [.non], e => cases e
  | .ref i, [.tup _], e => cases e
  | .ref i, [a, b], e => cases a <;> cases e
  | .ref i, a :: b :: c :: r, e => cases a <;> cases e
  | .int _, _, e => cases e
  | .bl _, _, e => cases e
  | .str _, _, e => cases e
  | .non, _, e => cases e
  | .tup _, _, e => cases e⟩
instance : EvOM popW := ⟨fun E o ws h w h1 l e => by
  match o, ws, e with
  | .ref i, [], e =>
    simp only [popW] at e
    cases e2 : h[i]? with
    | none => rw [e2] at e; cases e
    | some o =>
      rw [e2] at e
      have g := E.get l e2
      cases o <;> first | (cases e; done) | skip
      rename_i xs
      simp only at e
      cases e3 : xs[xs.length - 1]? with
      | none => rw [e3] at e; cases e
      | some x =>
        rw [e3] at e
        cases e
        obtain ⟨q1, q2⟩ := E.put l e2 (.lst xs.dropLast)
        simp only [List.map_nil, Emb.w, rnW, popW, g, rnO]
        rw [← q1]
        refine ⟨by simp [rnO, e3, List.map_dropLast], q2⟩
  | .ref i, a :: b, e => cases e
  | .int _, _, e => cases e
  | .bl _, _, e => cases e
  | .str _, _, e => cases e
  | .non, _, e => cases e
  | .tup _, _, e => cases e⟩
instance : EvOM joinW := ⟨fun E o ws h w h1 l e => by
  match o, ws, e with
  | .str a, [x], e =>
    simp only [joinW] at e
    cases e2 : seqW h x with
    | none => rw [e2] at e; cases e
    | some xs =>
      rw [e2, Option.bind_some] at e
      cases e3 : txts xs with
      | none => rw [e3] at e; cases e
      | some ys =>
        rw [e3, Option.bind_some] at e
        obtain ⟨c, e⟩ := ite_some e
        cases e
        refine ⟨?_, l⟩
        show ((seqW (E.em h) (E.w x)).bind _).bind _ = _
        rw [E.seq l e2, Option.bind_some, txts_rn e3, Option.bind_some, if_pos c]
        rfl
  | .str a, [], e => cases e
  | .str a, x :: y :: r, e => cases e
  | .int _, _, e => cases e
  | .bl _, _, e => cases e
  | .ref _, _, e => cases e
  | .non, _, e => cases e
  | .tup _, _, e => cases e⟩
instance : EvOM splitW := ⟨fun E o ws h w h1 l e => by
  match o, ws, e with
  | .str a, [.str b], e =>
    obtain ⟨c, e⟩ := ite_some e
    cases e
    obtain ⟨q1, q2⟩ := E.pushed l (o := .lst ((Txt.split a b).map W.str)) (o' := .lst ((Txt.split a b).map W.str)) (by rw [rnO, map_strs])
    refine ⟨?_, q2⟩
    show (if _ then _ else _) = _
    rw [if_pos c, q1]
  | .str a, [], e =>
    obtain ⟨c, e⟩ := ite_some e
    cases e
    obtain ⟨q1, q2⟩ := E.pushed l (o := .lst ((Txt.words a).map W.str)) (o' := .lst ((Txt.words a).map W.str)) (by rw [rnO, map_strs])
    refine ⟨?_, q2⟩
    show (if _ then _ else _) = _
    rw [if_pos c, q1]
  | .str a, [.int _], e => cases e
  | .str a, [.bl _], e => cases e
  | .str a, [.non], e => cases e
  | .str a, [.tup _], e => cases e
  | .str a, [.ref _], e => cases e
  | .str a, [x, y], e => cases x <;> cases e
  | .str a, x :: y :: z :: r, e => cases x <;> cases e
  | .int _, _, e => cases e
  | .bl _, _, e => cases e
  | .ref _, _, e => cases e
  | .non, _, e => cases e
  | .tup _, _, e => cases e⟩
instance : EvOM indexW := ⟨fun E o ws h w h1 l e => by
  match o, ws, e with
  | .ref i, [x], e =>
    simp only [indexW] at e
    cases e2 : toD 9 h (.ref i) with
    | none => rw [e2] at e; cases e
    | some d =>
      cases e3 : toD 9 h x with
      | none => rw [e2, e3] at e; cases d <;> cases e
      | some d2 =>
        rw [e2, e3] at e
        have g1 := toD_rn (E := E) l e2
        have g2 := toD_rn (E := E) l e3
        cases d <;> first | (cases e; done) | skip
        rename_i ds
        simp only at e
        split at e
        · rename_i hc
          cases e4 : firstIx d2 ds 0 with
          | none => rw [e4] at e; cases e
          | some k =>
            rw [e4] at e
            cases e
            refine ⟨?_, l⟩
            show (match toD 9 (E.em h) (E.w (.ref i)), toD 9 (E.em h) (E.w x) with | some (.list ds), some d => _ | _, _ => _) = _
            rw [g1, g2]
            simp only
            rw [if_pos hc, e4]
            rfl
        · cases e
  | .ref _, [], e => cases e
  | .ref _, x :: y :: r, e => cases e
  | .int _, _, e => cases e
  | .bl _, _, e => cases e
  | .str _, _, e => cases e
  | .non, _, e => cases e
  | .tup _, _, e => cases e⟩
instance : EvSet setL := ⟨fun E o i v h h1 l e => by
  cases o <;> cases i <;> first | (cases e; done) | skip
  rename_i a k
  simp only [setL] at e
  cases e2 : h[a]? with
  | none => rw [e2] at e; cases e
  | some o =>
    rw [e2] at e
    have g := E.get l e2
    cases o <;> first | (cases e; done) | skip
    rename_i xs
    simp only at e
    cases e3 : ixN xs.length k with
    | none => rw [e3] at e; cases e
    | some j =>
      rw [e3] at e
      cases e
      obtain ⟨q1, q2⟩ := E.put l e2 (.lst (xs.set j v))
      simp only [Emb.w, rnW, setL, g, rnO, List.length_map, e3, Option.map_some]
      rw [← q1]
      refine ⟨by simp [rnO, List.map_set], q2⟩⟩
instance : EvSet setD := ⟨fun E o i v h h1 l e => by
  cases o <;> first | (cases e; done) | skip
  rename_i a
  simp only [setD] at e
  cases e2 : h[a]? with
  | none => rw [e2] at e; cases e
  | some o =>
    rw [e2] at e
    have g := E.get l e2
    cases o <;> first | (cases e; done) | skip
    rename_i kvs
    simp only at e
    split at e
    · rename_i hc
      cases e3 : keyW i with
      | none => rw [e3] at e; cases e
      | some k =>
        rw [e3] at e
        cases e
        obtain ⟨q1, q2⟩ := E.put l e2 (.dct (putW kvs k v))
        simp only [Emb.w, rnW, setD, g, rnO, List.length_map, keyW_rn e3, Option.map_some]
        rw [if_pos hc, ← q1, putW_rn]
        refine ⟨rfl, q2⟩
    · cases e⟩
theorem putFW_rn {ρ : Nat → Nat} {f : Str} {v : W} : ∀ {fs : List (Str × W)}, putFW f (rnW ρ v) (fs.map (rnK ρ)) = (putFW f v fs).map (rnK ρ)
  | [] => rfl
  | (g, x) :: r => by
    show (if g = f then _ else _) = ((if g = f then _ else _ : List (Str × W))).map _
    split
    · rfl
    · show (g, rnW ρ x) :: putFW f (rnW ρ v) (r.map (rnK ρ)) = _
      rw [putFW_rn]
      rfl
theorem setF_rn {cs : List Str} {f : Str} {o v : W} {h h1 : LH} (l : E.n ≤ h.length) (e : setF cs f o v h = some h1) : setF cs f (E.w o) (E.w v) (E.em h) = some (E.em h1) ∧ E.n ≤ h1.length := by
  cases o <;> first | (cases e; done) | skip
  rename_i a
  simp only [setF] at e
  cases e2 : h[a]? with
  | none => rw [e2] at e; cases e
  | some o =>
    rw [e2] at e
    have g := E.get l e2
    cases o <;> first | (cases e; done) | skip
    rename_i c fs
    obtain ⟨hc, e⟩ := ite_some e
    cases e
    obtain ⟨q1, q2⟩ := E.put l e2 (.ins c (putFW f v fs))
    simp only [Emb.w, rnW, setF, g, rnO, List.length_map]
    rw [if_pos hc, ← q1, putFW_rn]
    exact ⟨rfl, q2⟩
end Fv
set_option Elab.async false
set_option linter.all false
set_option maxRecDepth 100000
set_option maxHeartbeats 400000
namespace Fv
open PySem PySem.Spec PyProof.Rows L2 Fh
variable {E : Emb}
/-! ### statements -/
def RMS (E : Emb) (x y : RS) : Prop := match x with
  | .nx sl h => E.n ≤ h.length ∧ ∃ sl', y = .nx sl' (E.em h) ∧ E.S sl sl'
  | .rt w h => E.n ≤ h.length ∧ y = .rt (E.w w) (E.em h)
  | .bk sl h => E.n ≤ h.length ∧ ∃ sl', y = .bk sl' (E.em h) ∧ E.S sl sl'
  | .ct sl h => E.n ≤ h.length ∧ ∃ sl', y = .ct sl' (E.em h) ∧ E.S sl sl'
  | .ex c p sl h => E.n ≤ h.length ∧ ∃ sl', y = .ex c (rnP E p) sl' (E.em h) ∧ E.S sl sl'
  | .bad => True
class EvS (f : FS) : Prop where
  p : ∀ (E : Emb) sl sl' (h : LH), E.n ≤ h.length → E.S sl sl' → RMS E (f sl h) (f sl' (E.em h))
theorem RMS.eS {α β : Type} {RA : α → β → Prop} {f : Sl → M α} {g : Sl → M β} {k : α → FS} {k' : β → FS} {sl sl' : Sl} {h : LH} (s : E.S sl sl') (x : RM E RA (f sl h) (g sl' (E.em h))) (hk : ∀ a b h1, RA a b → E.n ≤ h1.length → RMS E (k a sl h1) (k' b sl' (E.em h1))) : RMS E (eS f k sl h) (eS g k' sl' (E.em h)) := by
  unfold Fv.eS
  cases e : f sl h with
  | ok a h1 =>
    rw [e] at x
    obtain ⟨l, b, e2, r⟩ := x
    rw [e2]
    exact hk a b h1 r l
  | ex c p h1 =>
    rw [e] at x
    obtain ⟨l, e2⟩ := x
    rw [e2]
    exact ⟨l, sl', rfl, s⟩
  | bad => trivial
theorem RMS.nx {sl sl' : Sl} {h : LH} (l : E.n ≤ h.length) (s : E.S sl sl') : RMS E (.nx sl h) (.nx sl' (E.em h)) := ⟨l, sl', rfl, s⟩
instance : EvS sNx := ⟨fun E sl sl' h l s => .nx l s⟩
instance : EvS sNo := ⟨fun E sl sl' h l s => trivial⟩
instance : EvS sBk := ⟨fun E sl sl' h l s => ⟨l, sl', rfl, s⟩⟩
instance : EvS sCt := ⟨fun E sl sl' h l s => ⟨l, sl', rfl, s⟩⟩
instance : EvS sRtN := ⟨fun E sl sl' h l s => ⟨l, rfl⟩⟩
instance {f g} [EvS f] [EvS g] : EvS (sSeq f g) := ⟨fun E sl sl' h l s => by
  have x := EvS.p (f := f) E sl sl' h l s
  unfold sSeq
  cases e : f sl h with
  | nx s1 h1 =>
    rw [e] at x
    obtain ⟨l1, s2, e2, q⟩ := x
    rw [e2]
    exact EvS.p E s1 s2 h1 l1 q
  | rt w h1 => rw [e] at x; obtain ⟨l1, e2⟩ := x; rw [e2]; exact ⟨l1, rfl⟩
  | bk s1 h1 => rw [e] at x; obtain ⟨l1, s2, e2, q⟩ := x; rw [e2]; exact ⟨l1, s2, rfl, q⟩
  | ct s1 h1 => rw [e] at x; obtain ⟨l1, s2, e2, q⟩ := x; rw [e2]; exact ⟨l1, s2, rfl, q⟩
  | ex c p s1 h1 => rw [e] at x; obtain ⟨l1, s2, e2, q⟩ := x; rw [e2]; exact ⟨l1, s2, rfl, q⟩
  | bad => trivial⟩
instance {f} [EvW f] : EvS (sE f) := ⟨fun E sl sl' h l s => .eS s (EvW.p E sl sl' h l s) fun a b h1 r l1 => .nx l1 s⟩
instance {f} [EvW f] : EvS (sRt f) := ⟨fun E sl sl' h l s => .eS s (EvW.p E sl sl' h l s) fun a b h1 r l1 => ⟨l1, by cases r; rfl⟩⟩
instance {c f g} [EvB c] [EvS f] [EvS g] : EvS (sIf c f g) := ⟨fun E sl sl' h l s => .eS s (EvB.p E sl sl' h l s) fun a b h1 r l1 => by
  cases r; cases a
  · exact EvS.p (f := g) E sl sl' h1 l1 s
  · exact EvS.p (f := f) E sl sl' h1 l1 s⟩
instance {i f} [EvW f] : EvS (sSet i f) := ⟨fun E sl sl' h l s => .eS s (EvW.p E sl sl' h l s) fun a b h1 r l1 => by cases r; exact .nx l1 (s.set i a)⟩
theorem setAll_rn : ∀ {is : List Nat} {ws : List W} {sl sl' : Sl}, E.S sl sl' → E.S (setAll is ws sl) (setAll is (ws.map E.w) sl')
  | i :: is, w :: ws, sl, sl', s => setAll_rn (is := is) (ws := ws) (s.set i w)
  | [], [], _, _, s => s
  | [], _ :: _, _, _, s => s
  | _ :: _, [], _, _, s => s
theorem bindP_rn {p : Pat} {w : W} {sl sl' sl1 : Sl} (s : E.S sl sl') (e : bindP p w sl = some sl1) : ∃ sl2, bindP p (E.w w) sl' = some sl2 ∧ E.S sl1 sl2 := by
  cases p with
  | nm i => cases e; exact ⟨_, rfl, s.set i w⟩
  | tp is =>
    cases w with
    | tup ws =>
      simp only [bindP] at e
      split at e
      · cases e
        refine ⟨_, ?_, setAll_rn s⟩
        simp only [Emb.w, rnW_tup, bindP]
        rw [if_pos (by rw [List.length_map]; assumption)]
      · cases e
    | _ => cases e
instance {p f} [EvW f] : EvS (sAsg p f) := ⟨fun E sl sl' h l s => .eS s (EvW.p E sl sl' h l s) fun a b h1 r l1 => by
  cases r
  cases e : bindP p a sl with
  | none => trivial
  | some sl1 =>
    obtain ⟨sl2, e2, q⟩ := bindP_rn s e
    simp only [e2]
    exact .nx l1 q⟩
instance {i j f} [EvA f] : EvS (sPar i j f) := ⟨fun E sl sl' h l s => .eS s (EvA.p E sl sl' h l s) fun a b h1 r l1 => by
  cases r
  match a with
  | [] => trivial
  | [_] => trivial
  | [v, w] => exact .nx l1 ((s.set i v).set j w)
  | _ :: _ :: _ :: _ => trivial⟩
theorem opt2_O {g : O2} [EvO g] {x y : W} {h : LH} (l : E.n ≤ h.length) : RM E E.RW (opt2 (g x y) h) (opt2 (g (E.w x) (E.w y)) (E.em h)) := RM.opt2 fun w h1 e => by
  obtain ⟨q1, q2⟩ := EvO.p E _ _ _ _ _ l e
  exact ⟨_, q1, rfl, q2⟩
instance {i g f} [EvO g] [EvW f] : EvS (sAug i g f) := ⟨fun E sl sl' h l s => .eS s (EvW.p (f := fVar i) E sl sl' h l s) fun a b h1 r l1 => .eS s (EvW.p E sl sl' h1 l1 s) fun a2 b2 h2 r2 l2 => by
  cases r; cases r2
  exact .eS (f := fun _ => opt2 (g a a2)) (g := fun _ => opt2 (g (E.w a) (E.w a2))) s (opt2_O l2) fun a3 b3 h3 r3 l3 => by cases r3; exact .nx l3 (s.set i a3)⟩
instance {fv fo fi g} [EvW fv] [EvW fo] [EvW fi] [EvSet g] : EvS (sSub fv fo fi g) := ⟨fun E sl sl' h l s => .eS s (EvW.p E sl sl' h l s) fun a b h1 r l1 => .eS s (EvW.p E sl sl' h1 l1 s) fun a2 b2 h2 r2 l2 => .eS s (EvW.p E sl sl' h2 l2 s) fun a3 b3 h3 r3 l3 => by
  cases r; cases r2; cases r3
  cases e : g a2 a3 a h3 with
  | none => trivial
  | some h4 =>
    obtain ⟨q1, q2⟩ := EvSet.p E _ _ _ _ _ l3 e
    simp only [q1]
    exact .nx q2 s⟩
instance {fo fi fe g} [EvW fo] [EvW fi] [EvW fe] [EvO g] : EvS (sAugS fo fi fe g) := ⟨fun E sl sl' h l s => .eS s (EvW.p E sl sl' h l s) fun a b h1 r l1 => .eS s (EvW.p E sl sl' h1 l1 s) fun a2 b2 h2 r2 l2 => by
  cases r; cases r2
  refine .eS (f := fun _ => opt2 (ixL a a2)) (g := fun _ => opt2 (ixL (E.w a) (E.w a2))) s (opt2_O l2) fun a3 b3 h3 r3 l3 => .eS s (EvW.p E sl sl' h3 l3 s) fun a4 b4 h4 r4 l4 => ?_
  cases r3; cases r4
  refine .eS (f := fun _ => opt2 (g a3 a4)) (g := fun _ => opt2 (g (E.w a3) (E.w a4))) s (opt2_O l4) fun a5 b5 h5 r5 l5 => ?_
  cases r5
  cases e : setL a a2 a5 h5 with
  | none => trivial
  | some h6 =>
    obtain ⟨q1, q2⟩ := EvSet.p (g := setL) E _ _ _ _ _ l5 e
    simp only [q1]
    exact .nx q2 s⟩
instance {cs f fv fo} [EvW fv] [EvW fo] : EvS (sFldS cs f fv fo) := ⟨fun E sl sl' h l s => .eS s (EvW.p E sl sl' h l s) fun a b h1 r l1 => .eS s (EvW.p E sl sl' h1 l1 s) fun a2 b2 h2 r2 l2 => by
  cases r; cases r2
  cases e : setF cs f a2 a h2 with
  | none => trivial
  | some h4 =>
    obtain ⟨q1, q2⟩ := setF_rn l2 e
    simp only [q1]
    exact .nx q2 s⟩
instance {x} : EvS (sRaise x) := ⟨fun E sl sl' h l s => ⟨l, sl', rfl, s⟩⟩
instance {x f fa} [EvW fa] : EvS (sRaiseF x f fa) := ⟨fun E sl sl' h l s => .eS s (EvW.p E sl sl' h l s) fun a b h1 r l1 => by cases r; exact ⟨l1, sl', rfl, s⟩⟩
instance {sub fb fs} [EvS fb] [EvS fs] : EvS (sTry sub fb fs) := ⟨fun E sl sl' h l s => by
  have x := EvS.p (f := fb) E sl sl' h l s
  unfold sTry
  cases e : fb sl h with
  | nx s1 h1 => rw [e] at x; obtain ⟨l1, s2, e2, q⟩ := x; rw [e2]; exact ⟨l1, s2, rfl, q⟩
  | rt w h1 => rw [e] at x; obtain ⟨l1, e2⟩ := x; rw [e2]; exact ⟨l1, rfl⟩
  | bk s1 h1 => rw [e] at x; obtain ⟨l1, s2, e2, q⟩ := x; rw [e2]; exact ⟨l1, s2, rfl, q⟩
  | ct s1 h1 => rw [e] at x; obtain ⟨l1, s2, e2, q⟩ := x; rw [e2]; exact ⟨l1, s2, rfl, q⟩
  | ex c p s1 h1 =>
    rw [e] at x
    obtain ⟨l1, s2, e2, q⟩ := x
    rw [e2]
    simp only
    cases sub c with
    | none => trivial
    | some b =>
      cases b
      · exact ⟨l1, s2, rfl, q⟩
      · exact EvS.p E s1 s2 h1 l1 q
  | bad => trivial⟩
instance {f} [EvS f] : EvS (nxS f) := ⟨fun E sl sl' h l s => by
  have x := EvS.p (f := f) E sl sl' h l s
  unfold nxS
  cases e : f sl h with
  | nx s1 h1 => rw [e] at x; obtain ⟨l1, s2, e2, q⟩ := x; rw [e2]; exact ⟨l1, s2, rfl, q⟩
  | rt w h1 => rw [e] at x; obtain ⟨l1, e2⟩ := x; rw [e2]; exact ⟨l1, rfl⟩
  | bk s1 h1 => rw [e] at x; obtain ⟨l1, s2, e2, q⟩ := x; rw [e2]; exact ⟨l1, s2, rfl, q⟩
  | ct s1 h1 => rw [e] at x; obtain ⟨l1, s2, e2, q⟩ := x; rw [e2]; exact ⟨l1, s2, rfl, q⟩
  | ex c p s1 h1 => trivial
  | bad => trivial⟩
/-! ### loops -/
theorem forL_rn {body : FS} [EvS body] {gd gd' : LH → Bool} {p : Pat} (hg : ∀ h : LH, E.n ≤ h.length → gd h = true → gd' (E.em h) = true) : ∀ (ws : List W) sl sl' (h : LH), E.n ≤ h.length → E.S sl sl' → RMS E (forL gd p body ws sl h) (forL gd' p body (ws.map E.w) sl' (E.em h)) := by
  intro ws
  induction ws with
  | nil =>
    intro sl sl' h l s
    simp only [List.map_nil, forL]
    by_cases z : gd h = true
    · rw [if_pos z, if_pos (hg h l z)]; exact .nx l s
    · rw [if_neg z]; trivial
  | cons w r ih =>
    intro sl sl' h l s
    simp only [List.map_cons, forL]
    by_cases z : gd h = true
    · rw [if_pos z, if_pos (hg h l z)]
      cases e : bindP p w sl with
      | none => trivial
      | some sl1 =>
        obtain ⟨sl2, e2, q⟩ := bindP_rn s e
        rw [e2]
        simp only
        have x := EvS.p (f := body) E sl1 sl2 h l q
        cases e3 : body sl1 h with
        | nx s1 h1 => rw [e3] at x; obtain ⟨l1, s2, e2, q⟩ := x; rw [e2]; exact ih _ _ _ l1 q
        | ct s1 h1 => rw [e3] at x; obtain ⟨l1, s2, e2, q⟩ := x; rw [e2]; exact ih _ _ _ l1 q
        | rt w h1 => rw [e3] at x; obtain ⟨l1, e2⟩ := x; rw [e2]; exact ⟨l1, rfl⟩
        | bk s1 h1 => rw [e3] at x; obtain ⟨l1, s2, e2, q⟩ := x; rw [e2]; exact ⟨l1, s2, rfl, q⟩
        | ex c p s1 h1 => rw [e3] at x; obtain ⟨l1, s2, e2, q⟩ := x; rw [e2]; exact ⟨l1, s2, rfl, q⟩
        | bad => trivial
    · rw [if_neg z]; trivial
instance {fi p body} [EvI fi] [EvS body] : EvS (sFor fi p body) := ⟨fun E sl sl' h l s => .eS s (EvI.p E sl sl' h l s) fun a b h1 r l1 => by
  obtain ⟨r1, r2⟩ := r
  have := forL_rn (E := E) (body := body) (gd := a.gd) (gd' := b.gd) (p := p) r2 a.ws sl sl' h1 l1 s
  rw [← r1] at this
  exact this⟩
theorem whl_rn {c : Sl → M Bool} {body : FS} [EvB c] [EvS body] : ∀ (n : Nat) sl sl' (h : LH), E.n ≤ h.length → E.S sl sl' → RMS E (whl c body n sl h) (whl c body n sl' (E.em h)) := by
  intro n
  induction n with
  | zero => intro sl sl' h l s; trivial
  | succ n ih =>
    intro sl sl' h l s
    have y := EvB.p (f := c) E sl sl' h l s
    simp only [whl]
    cases e : c sl h with
    | bad => trivial
    | ex k p h1 => rw [e] at y; obtain ⟨l1, e2⟩ := y; rw [e2]; exact ⟨l1, sl', rfl, s⟩
    | ok b h1 =>
      rw [e] at y
      obtain ⟨l1, b', e2, rb⟩ := y
      cases rb
      rw [e2]
      cases b with
      | false => exact .nx l1 s
      | true =>
        simp only
        have x := EvS.p (f := body) E sl sl' h1 l1 s
        cases e3 : body sl h1 with
        | nx s1 h1 => rw [e3] at x; obtain ⟨l1, s2, e2, q⟩ := x; rw [e2]; exact ih _ _ _ l1 q
        | ct s1 h1 => rw [e3] at x; obtain ⟨l1, s2, e2, q⟩ := x; rw [e2]; exact ih _ _ _ l1 q
        | rt w h1 => rw [e3] at x; obtain ⟨l1, e2⟩ := x; rw [e2]; exact ⟨l1, rfl⟩
        | bk s1 h1 => rw [e3] at x; obtain ⟨l1, s2, e2, q⟩ := x; rw [e2]; exact ⟨l1, s2, rfl, q⟩
        | ex c p s1 h1 => rw [e3] at x; obtain ⟨l1, s2, e2, q⟩ := x; rw [e2]; exact ⟨l1, s2, rfl, q⟩
        | bad => trivial
instance {c body n} [EvB c] [EvS body] : EvS (whl c body n) := ⟨fun E sl sl' h l s => whl_rn n sl sl' h l s⟩
/-! ### what is walked -/
theorem beqWs_map {ws vs : List W} (e : beqWs ws vs = true) : beqWs (ws.map E.w) (vs.map E.w) = true := by
  rw [beqWs_eq e]; exact beqWs_rfl _
theorem gdL_rn {j : Nat} {ws : List W} {h : LH} (l : E.n ≤ h.length) (e : gdL j ws h = true) : gdL (E.ρ j) (ws.map E.w) (E.em h) = true := by
  unfold gdL at e ⊢
  cases e2 : seqW h (.ref j) with
  | none => rw [e2] at e; cases e
  | some xs =>
    rw [e2] at e
    have := E.seq l e2
    rw [show E.w (.ref j) = .ref (E.ρ j) from rfl] at this
    rw [this]
    exact beqWs_map e
theorem itSeq_rn {w : W} {h : LH} {a : Itw} {h1 : LH} (l : E.n ≤ h.length) (e : itSeq w h = some (a, h1)) : ∃ b, itSeq (E.w w) (E.em h) = some (b, E.em h1) ∧ E.RI a b ∧ E.n ≤ h1.length := by
  cases w with
  | tup ws =>
    cases e
    exact ⟨⟨ws.map E.w, fun _ => true⟩, by rw [Emb.w, rnW_tup]; rfl, ⟨rfl, fun _ _ _ => rfl⟩, l⟩
  | ref j =>
    simp only [itSeq] at e
    cases e2 : seqW h (.ref j) with
    | none => rw [e2] at e; cases e
    | some ws =>
      rw [e2] at e
      cases e
      refine ⟨⟨ws.map E.w, gdL (E.ρ j) (ws.map E.w)⟩, ?_, ⟨rfl, fun h2 l2 g => gdL_rn l2 g⟩, l⟩
      have := E.seq l e2
      rw [show E.w (.ref j) = .ref (E.ρ j) from rfl] at this ⊢
      simp only [itSeq, this, Option.map_some]
  | _ => cases e
theorem signs_rn {x : Str} : (Fv.signs x).map E.w = Fv.signs x := by
  unfold Fv.signs
  rw [List.map_map]
  rfl
theorem iSq_rn {a : W} {h1 : LH} (l1 : E.n ≤ h1.length) : RM E E.RI ((match a with
    | .str x => opt (itStr (.str x))
    | w => opt2 (itSeq w) : M Itw) h1) ((match E.w a with
    | .str x => opt (itStr (.str x))
    | w => opt2 (itSeq w) : M Itw) (E.em h1)) := by
  cases a with
  | str x => exact ⟨l1, ⟨Fv.signs x, fun _ => true⟩, rfl, ⟨signs_rn.symm, fun _ _ _ => rfl⟩⟩
  | tup ws =>
    have := RM.opt2 (E := E) (RA := E.RI) (f := itSeq (.tup ws)) (g := itSeq (E.w (.tup ws))) (h := h1) (fun x h2 e => (by
      obtain ⟨b, q1, q2, q3⟩ := itSeq_rn l1 e
      exact ⟨b, q1, q2, q3⟩))
    rw [Emb.w, rnW_tup] at this ⊢
    exact this
  | ref j => exact RM.opt2 (E := E) (RA := E.RI) (f := itSeq (.ref j)) (g := itSeq (E.w (.ref j))) (h := h1) (fun x h2 e => (by
      obtain ⟨b, q1, q2, q3⟩ := itSeq_rn (w := .ref j) l1 e
      exact ⟨b, q1, q2, q3⟩))
  | non => trivial
  | bl _ => trivial
  | int _ => trivial
instance {f} [EvW f] : EvI (iSq f) := ⟨fun E sl sl' h l s => RM.bnd (EvW.p E sl sl' h l s) fun a b h1 r l1 => (by
  cases r
  exact iSq_rn l1)⟩
class EvR (g : List W → Option Itw) : Prop where
  p : ∀ (E : Emb) ws a, g ws = some a → ∃ b, g (ws.map E.w) = some b ∧ E.RI a b
theorem rngW_rn {lo : Int} {n : Nat} : (rngW lo n).map E.w = rngW lo n := by
  unfold rngW
  rw [List.map_map]
  rfl
instance : EvR rng1 := ⟨fun E ws a e => by
  match ws, e with
  | [.int j], e =>
    simp only [rng1] at e
    obtain ⟨c, e⟩ := ite_some e
    subst e
    exact ⟨_, if_pos c, ⟨rngW_rn.symm, fun _ _ _ => rfl⟩⟩
  | [], e => cases e
  | [.non], e => cases e
  | [.bl _], e => cases e
  | [.str _], e => cases e
  | [.tup _], e => cases e
  | [.ref _], e => cases e
  | a :: b :: r, e => cases a <;> cases e⟩
instance : EvR rng2 := ⟨fun E ws a e => by
  match ws, e with
  | [.int i, .int j], e =>
    simp only [rng2] at e
    obtain ⟨c, e⟩ := ite_some e
    subst e
    exact ⟨_, if_pos c, ⟨rngW_rn.symm, fun _ _ _ => rfl⟩⟩
  | [], e => cases e
  | [a], e => cases a <;> cases e
  | a :: b :: c :: r, e => cases a <;> cases b <;> cases e
  | [.int _, .non], e => cases e
  | [.int _, .bl _], e => cases e
  | [.int _, .str _], e => cases e
  | [.int _, .tup _], e => cases e
  | [.int _, .ref _], e => cases e
  | [.non, b], e => cases b <;> cases e
  | [.bl _, b], e => cases b <;> cases e
  | [.str _, b], e => cases b <;> cases e
  | [.tup _, b], e => cases b <;> cases e
  | [.ref _, b], e => cases b <;> cases e⟩
instance {g fa} [EvR g] [EvA fa] : EvI (iRg g fa) := ⟨fun E sl sl' h l s => RM.bnd (EvA.p E sl sl' h l s) fun a b h1 r l1 => RM.opt l1 fun x e => by
  cases r
  exact EvR.p E a x e⟩
theorem enumW_rn : ∀ {ws : List W} {n : Nat}, (enumW n ws).map E.w = enumW n (ws.map E.w)
  | [], _ => rfl
  | w :: ws, n => by
    rw [enumW, List.map_cons, List.map_cons, enumW, enumW_rn]
    rw [Emb.w, rnW_tup]
    rfl
instance {fa} [EvA fa] : EvI (iEn fa) := ⟨fun E sl sl' h l s => RM.bnd (EvA.p E sl sl' h l s) fun a b h1 r l1 => by
  cases r
  match a with
  | [] => trivial
  | _ :: _ :: _ => trivial
  | [w] =>
    refine RM.opt2 fun x h2 e => ?_
    cases w with
    | tup ws =>
      cases e
      exact ⟨⟨enumW 0 (ws.map E.w), fun _ => true⟩, by rw [Emb.w, rnW_tup]; rfl, ⟨enumW_rn.symm, fun _ _ _ => rfl⟩, l1⟩
    | ref j =>
      simp only [itEnum] at e
      cases e2 : seqW h1 (.ref j) with
      | none => rw [e2] at e; cases e
      | some ws =>
        rw [e2] at e
        cases e
        refine ⟨⟨enumW 0 (ws.map E.w), gdL (E.ρ j) (ws.map E.w)⟩, ?_, ⟨enumW_rn.symm, fun h2 l2 g => gdL_rn l2 g⟩, l1⟩
        have := E.seq l1 e2
        rw [show E.w (.ref j) = .ref (E.ρ j) from rfl] at this ⊢
        simp only [itEnum, this, Option.map_some]
    | _ => cases e⟩
theorem vwW_rn {vw : Vw} {kv : Key × W} : vwW vw (rnK E.ρ kv) = E.w (vwW vw kv) := by
  cases vw with
  | vals => rfl
  | keys => obtain ⟨k, v⟩ := kv; cases k <;> rfl
  | items => obtain ⟨k, v⟩ := kv; cases k <;> rfl
instance {vw f} [EvW f] : EvI (iDc vw f) := ⟨fun E sl sl' h l s => RM.bnd (EvW.p E sl sl' h l s) fun a b h1 r l1 => RM.opt2 fun x h2 e => by
  cases r
  cases a with
  | ref j =>
    simp only [itDct] at e
    cases e2 : h1[j]? with
    | none => rw [e2] at e; cases e
    | some o =>
      rw [e2] at e
      have g := E.get l1 e2
      cases o <;> first | (cases e; done) | skip
      rename_i kvs
      cases e
      refine ⟨⟨(kvs.map (rnK E.ρ)).map (vwW vw), fun _ => true⟩, ?_, ⟨?_, fun _ _ _ => rfl⟩, l1⟩
      · simp only [Emb.w, rnW, itDct, g, rnO]
      · rw [List.map_map, List.map_map]
        exact List.map_congr_left fun kv _ => vwW_rn
  | _ => cases e⟩
/-! ### comprehensions -/
theorem RM.nx1 {α β : Type} {RA : α → β → Prop} {x : M α} {y : M β} {h h' : LH} (hx : RM E RA (x h) (y h')) : RM E RA (nx1 x h) (nx1 y h') := by
  unfold Fv.nx1
  cases e : x h with
  | ok a h1 => rw [e] at hx; obtain ⟨l, b, e2, r⟩ := hx; rw [e2]; exact ⟨l, b, rfl, r⟩
  | ex c p h1 => trivial
  | bad => trivial
theorem wipeW_rn : ∀ {vs : List Nat} {sl sl' : Sl}, E.S sl sl' → E.S (wipeW sl vs) (wipeW sl' vs)
  | [], _, _, s => s
  | v :: vs, sl, sl', s => (wipeW_rn (vs := vs) s).no v none
section
variable {gd gd' : LH → Bool} {p : Pat} {tst : Sl → M Bool} {elt kx vx : Sl → M W} {sl sl' : Sl}
theorem lcA_rn [EvB tst] [EvW elt] (hg : ∀ h : LH, E.n ≤ h.length → gd h = true → gd' (E.em h) = true) (s : E.S sl sl') : ∀ (ws acc : List W) (h : LH), E.n ≤ h.length → RM E E.RW (lcA gd p tst elt sl acc ws h) (lcA gd' p tst elt sl' (acc.map E.w) (ws.map E.w) (E.em h)) := by
  intro ws
  induction ws with
  | nil =>
    intro acc h l
    simp only [List.map_nil, lcA]
    by_cases z : gd h = true
    · rw [if_pos z, if_pos (hg h l z)]
      obtain ⟨q1, q2⟩ := E.pushed l (o := .lst acc) (o' := .lst (acc.map E.w)) rfl
      have q3 : E.em h ++ [LO.lst (acc.map E.w)] = E.em (h ++ [LO.lst acc]) := congrArg Prod.snd q1
      exact ⟨q2, _, by rw [q3], congrArg Prod.fst q1⟩
    · rw [if_neg z]; trivial
  | cons w r ih =>
    intro acc h l
    simp only [List.map_cons, lcA]
    by_cases z : gd h = true ∧ acc.length < LIM
    · rw [if_pos z, if_pos ⟨hg h l z.1, by rw [List.length_map]; exact z.2⟩]
      cases e : bindP p w sl with
      | none => trivial
      | some sl1 =>
        obtain ⟨sl2, e2, q⟩ := bindP_rn s e
        rw [e2]
        refine RM.bnd (RM.nx1 (EvB.p E sl1 sl2 h l q)) fun b b2 h1 rb l1 => ?_
        cases rb
        cases b with
        | false => exact ih acc h1 l1
        | true =>
          refine RM.bnd (RM.nx1 (EvW.p E sl1 sl2 h1 l1 q)) fun y y2 h2 ry l2 => ?_
          cases ry
          have := ih (acc ++ [y]) h2 l2
          rw [List.map_append] at this
          exact this
    · rw [if_neg z]; trivial
theorem anyA_rn [EvB tst] [EvW elt] {stop : Bool} (hg : ∀ h : LH, E.n ≤ h.length → gd h = true → gd' (E.em h) = true) (s : E.S sl sl') : ∀ (ws : List W) (h : LH), E.n ≤ h.length → RM E E.RW (anyA stop gd p tst elt sl ws h) (anyA stop gd' p tst elt sl' (ws.map E.w) (E.em h)) := by
  intro ws
  induction ws with
  | nil =>
    intro h l
    simp only [List.map_nil, anyA]
    by_cases z : gd h = true
    · rw [if_pos z, if_pos (hg h l z)]
      exact ⟨l, _, rfl, rfl⟩
    · rw [if_neg z]; trivial
  | cons w r ih =>
    intro h l
    simp only [List.map_cons, anyA]
    by_cases z : gd h = true
    · rw [if_pos z, if_pos (hg h l z)]
      cases e : bindP p w sl with
      | none => trivial
      | some sl1 =>
        obtain ⟨sl2, e2, q⟩ := bindP_rn s e
        rw [e2]
        refine RM.bnd (RM.nx1 (EvB.p E sl1 sl2 h l q)) fun b b2 h1 rb l1 => ?_
        cases rb
        cases b with
        | false => exact ih h1 l1
        | true =>
          refine RM.bnd (RM.nx1 (EvW.p E sl1 sl2 h1 l1 q)) fun y y2 h2 ry l2 => RM.bnd (RA := E.RE) (RM.opt l2 fun x e => by cases ry; exact ⟨_, asB_rn e, rfl⟩) fun k k2 h3 rk l3 => ?_
          cases rk
          by_cases y : k = stop
          · rw [if_pos y, if_pos y]; exact RM.ret l3 rfl
          · rw [if_neg y, if_neg y]; exact ih h3 l3
    · rw [if_neg z]; trivial
theorem dcA_rn [EvB tst] [EvW kx] [EvW vx] (hg : ∀ h : LH, E.n ≤ h.length → gd h = true → gd' (E.em h) = true) (s : E.S sl sl') : ∀ (ws : List W) (acc : List (Key × W)) (h : LH), E.n ≤ h.length → RM E E.RW (dcA gd p tst kx vx sl acc ws h) (dcA gd' p tst kx vx sl' (acc.map (rnK E.ρ)) (ws.map E.w) (E.em h)) := by
  intro ws
  induction ws with
  | nil =>
    intro acc h l
    simp only [List.map_nil, dcA]
    by_cases z : gd h = true
    · rw [if_pos z, if_pos (hg h l z)]
      obtain ⟨q1, q2⟩ := E.pushed l (o := .dct acc) (o' := .dct (acc.map (rnK E.ρ))) rfl
      have q3 : E.em h ++ [LO.dct (acc.map (rnK E.ρ))] = E.em (h ++ [LO.dct acc]) := congrArg Prod.snd q1
      exact ⟨q2, _, by rw [q3], congrArg Prod.fst q1⟩
    · rw [if_neg z]; trivial
  | cons w r ih =>
    intro acc h l
    simp only [List.map_cons, dcA]
    by_cases z : gd h = true ∧ acc.length < LIM
    · rw [if_pos z, if_pos ⟨hg h l z.1, by rw [List.length_map]; exact z.2⟩]
      cases e : bindP p w sl with
      | none => trivial
      | some sl1 =>
        obtain ⟨sl2, e2, q⟩ := bindP_rn s e
        rw [e2]
        refine RM.bnd (RM.nx1 (EvB.p E sl1 sl2 h l q)) fun b b2 h1 rb l1 => ?_
        cases rb
        cases b with
        | false => exact ih acc h1 l1
        | true =>
          refine RM.bnd (RM.nx1 (EvW.p E sl1 sl2 h1 l1 q)) fun y y2 h2 ry l2 => RM.bnd (RM.nx1 (EvW.p E sl1 sl2 h2 l2 q)) fun v v2 h3 rv l3 => RM.bnd (RA := E.RE) (RM.opt l3 fun x e => by cases ry; exact ⟨_, keyW_rn e, rfl⟩) fun k k2 h4 rk l4 => ?_
          cases rk; cases rv
          have := ih (putW acc k v) h4 l4
          rw [← putW_rn] at this
          exact this
    · rw [if_neg z]; trivial
instance {fi vs} [EvI fi] [EvB tst] [EvW elt] : EvW (fLc fi vs p tst elt) := ⟨fun E sl sl' h l s => RM.bnd (EvI.p E sl sl' h l s) fun a b h1 r l1 => by
  obtain ⟨r1, r2⟩ := r
  have := lcA_rn (E := E) (gd := a.gd) (gd' := b.gd) (p := p) (tst := tst) (elt := elt) r2 (wipeW_rn (vs := vs) s) a.ws [] h1 l1
  rw [← r1] at this
  exact this⟩
instance {stop fi vs} [EvI fi] [EvB tst] [EvW elt] : EvW (fAny stop fi vs p tst elt) := ⟨fun E sl sl' h l s => RM.bnd (EvI.p E sl sl' h l s) fun a b h1 r l1 => by
  obtain ⟨r1, r2⟩ := r
  have := anyA_rn (E := E) (gd := a.gd) (gd' := b.gd) (p := p) (tst := tst) (elt := elt) (stop := stop) r2 (wipeW_rn (vs := vs) s) a.ws h1 l1
  rw [← r1] at this
  exact this⟩
instance {fi vs} [EvI fi] [EvB tst] [EvW kx] [EvW vx] : EvW (fDc fi vs p tst kx vx) := ⟨fun E sl sl' h l s => RM.bnd (EvI.p E sl sl' h l s) fun a b h1 r l1 => by
  obtain ⟨r1, r2⟩ := r
  have := dcA_rn (E := E) (gd := a.gd) (gd' := b.gd) (p := p) (tst := tst) (kx := kx) (vx := vx) r2 (wipeW_rn (vs := vs) s) a.ws [] h1 l1
  rw [← r1] at this
  exact this⟩
end
/-! ### defs -/
theorem sl0_rn {N : Nat} {ws : List W} : E.S (sl0 N ws) (sl0 N (ws.map E.w)) := by
  refine ⟨by simp [sl0], fun i w e => ?_⟩
  unfold sl0 at e ⊢
  by_cases hi : i < ws.length
  · rw [List.getElem?_append_left (by simpa using hi)] at e
    rw [List.getElem?_append_left (by simpa using hi)]
    rw [List.getElem?_map] at e ⊢
    rw [List.getElem?_map]
    cases z : ws[i]? with
    | none => rw [z] at e; cases e
    | some v => rw [z] at e; cases e; rfl
  · rw [List.getElem?_append_right (by simpa using hi)] at e
    have := List.mem_of_getElem? e
    rw [List.mem_replicate] at this
    exact absurd this.2 (by simp)
instance {N fb} [EvS fb] : EvF (runF N fb) := ⟨fun E ws h l => by
  have x := EvS.p (f := fb) E _ _ h l (sl0_rn (N := N) (ws := ws))
  unfold runF
  cases e : fb (sl0 N ws) h with
  | nx s1 h1 => rw [e] at x; obtain ⟨l1, s2, e2, q⟩ := x; rw [e2]; exact ⟨l1, _, rfl, rfl⟩
  | rt w h1 => rw [e] at x; obtain ⟨l1, e2⟩ := x; rw [e2]; exact ⟨l1, _, rfl, rfl⟩
  | bk s1 h1 => trivial
  | ct s1 h1 => trivial
  | ex c p s1 h1 => rw [e] at x; obtain ⟨l1, s2, e2, q⟩ := x; rw [e2]; exact ⟨l1, rfl⟩
  | bad => trivial⟩
/-! ### a place for a small heap in a large one -/
/-- nothing but new things -/
def Emb.new (h : LH) : Emb where
  n := 0
  ρ := fun i => h.length + i
  em := fun t => h ++ t.map (rnO fun i => h.length + i)
  get := fun {t i o} _ e => by
    rw [List.getElem?_append_right (by omega), Nat.add_sub_cancel_left, List.getElem?_map, e]; rfl
  set := fun {t i} o _ l => by
    rw [List.set_append_right _ _ (by omega), Nat.add_sub_cancel_left, List.map_set]
  push := fun {t} o _ => by rw [List.map_append, List.append_assoc]; rfl
  len := fun {t} _ => by simp
/-- the first thing stands at k -/
def Emb.one (h : LH) (k : Nat) (hk : k < h.length) : Emb where
  n := 1
  ρ := fun i => if i = 0 then k else h.length + (i - 1)
  em := fun t => match t with
    | [] => h
    | o :: r => h.set k (rnO (fun i => if i = 0 then k else h.length + (i - 1)) o) ++ r.map (rnO fun i => if i = 0 then k else h.length + (i - 1))
  get := fun {t i o} l e => by
    match t with
    | [] => cases e
    | p :: r =>
      match i with
      | 0 =>
        cases e
        simp only [if_true]
        rw [List.getElem?_append_left (by simpa using hk), List.getElem?_set_self hk]
      | i + 1 =>
        simp only [Nat.add_eq_zero_iff, Nat.one_ne_zero, and_false, if_false, Nat.add_sub_cancel]
        rw [List.getElem?_append_right (by simp), List.length_set, Nat.add_sub_cancel_left, List.getElem?_map]
        rw [List.getElem?_cons_succ] at e
        rw [e]
        rfl
  set := fun {t i} o l li => by
    match t with
    | [] => cases li
    | p :: r =>
      match i with
      | 0 =>
        simp only [List.set_cons_zero, if_true]
        rw [List.set_append_left _ _ (by simpa using hk), List.set_set]
      | i + 1 =>
        simp only [List.set_cons_succ, Nat.add_eq_zero_iff, Nat.one_ne_zero, and_false, if_false, Nat.add_sub_cancel]
        rw [List.set_append_right _ _ (by simp), List.length_set, Nat.add_sub_cancel_left, List.map_set]
  push := fun {t} o l => by
    match t with
    | [] => simp at l
    | p :: r => simp
  len := fun {t} l => by
    match t with
    | [] => simp at l
    | p :: r => simp
end Fv
set_option Elab.async false
set_option linter.all false
set_option maxRecDepth 100000
set_option maxHeartbeats 400000
/-! Fw3: runs on small heaps, carried over -/
namespace Fv
open PySem PySem.Spec PyProof.Rows L2 Fh
mutual
def noRef : W → Bool
  | .ref _ => false
  | .tup xs => noRefs xs
  | _ => true
def noRefs : List W → Bool
  | [] => true
  | x :: xs => noRef x && noRefs xs
end
mutual
theorem rn_no {ρ : Nat → Nat} : ∀ {w : W}, noRef w = true → rnW ρ w = w
  | .non, _ => rfl
  | .bl _, _ => rfl
  | .int _, _ => rfl
  | .str _, _ => rfl
  | .ref _, h => by unfold noRef at h; cases h
  | .tup xs, h => by unfold noRef at h; rw [rnW, rns_no h]
theorem rns_no {ρ : Nat → Nat} : ∀ {ws : List W}, noRefs ws = true → rnWs ρ ws = ws
  | [], _ => rfl
  | x :: xs, h => by
    unfold noRefs at h
    obtain ⟨a, b⟩ := Bool.and_eq_true_iff.mp h
    rw [rnWs, rn_no a, rns_no b]
end
theorem map_no {ρ : Nat → Nat} {ws : List W} (h : noRefs ws = true) : ws.map (rnW ρ) = ws := by rw [← rnWs_eq, rns_no h]
/-- the answer of a run is w, and the first thing is the list xs still -/
def okL (r : R W) (w : W) (xs : List W) : Bool := match r with
  | .ok a (.lst ys :: _) => beqW a w && beqWs ys xs
  | _ => false
/-- it is refused with an error of class c -/
def exL (r : R W) (c : Str) (xs : List W) : Bool := match r with
  | .ex d _ (.lst ys :: _) => decide (d = c) && beqWs ys xs
  | _ => false
def okN (r : R W) (w : W) : Bool := match r with
  | .ok a _ => beqW a w
  | _ => false
def exN (r : R W) (c : Str) : Bool := match r with
  | .ex d _ _ => decide (d = c)
  | _ => false
section
variable {f : List W → M W} [EvF f] {xs ws : List W} {w : W} {h : LH} {k : Nat}
theorem one_em (hk : k < h.length) (e : h[k]? = some (.lst xs)) (hx : noRefs xs = true) : (Emb.one h k hk).em [.lst xs] = h := by
  show h.set k (.lst (xs.map _)) ++ [] = h
  rw [map_no hx, List.append_nil]
  exact List.ext_getElem? fun i => by
    by_cases z : k = i
    · subst z; rw [List.getElem?_set_self hk, e]
    · rw [List.getElem?_set_ne z]
theorem one_ch (hk : k < h.length) (e : h[k]? = some (.lst xs)) (hx : noRefs xs = true) {t : LH} : Ch [] h ((Emb.one h k hk).em (.lst xs :: t)) := by
  show Ch [] h (h.set k (.lst (xs.map _)) ++ t.map _)
  rw [map_no hx]
  have : h.set k (.lst xs) = h := List.ext_getElem? fun i => by
    by_cases z : k = i
    · subst z; rw [List.getElem?_set_self hk, e]
    · rw [List.getElem?_set_ne z]
  rw [this]
  exact .app
theorem run1 (hx : noRefs xs = true) (hw : noRef w = true) (hs : noRefs ws = true) (c : okL (f (.ref 0 :: ws) [.lst xs]) w xs = true) (e : h[k]? = some (.lst xs)) : Tr (f (.ref k :: ws) h) (fun w' h' => w' = w ∧ Ch [] h h') nEx := by
  have hk := (List.getElem?_eq_some_iff.mp e).1
  have x := EvF.p (f := f) (Emb.one h k hk) (.ref 0 :: ws) [.lst xs] (by simp [Emb.one])
  rw [one_em hk e hx, List.map_cons, show ws.map (Emb.one h k hk).w = ws from map_no hs, show (Emb.one h k hk).w (.ref 0) = .ref k from rfl] at x
  cases e2 : f (.ref 0 :: ws) [.lst xs] with
  | ok a t =>
    rw [e2] at x c
    cases t with
    | nil => cases c
    | cons o t =>
      cases o with
      | lst ys =>
        obtain ⟨c1, c2⟩ := Bool.and_eq_true_iff.mp c
        cases beqW_eq c1
        cases beqWs_eq c2
        obtain ⟨_, b, e3, r⟩ := x
        rw [e3]
        exact ⟨by rw [r]; exact rn_no hw, one_ch hk e hx⟩
      | _ => cases c
  | ex _ _ _ => rw [e2] at c; cases c
  | bad => rw [e2] at c; cases c
theorem run1x {q : Str} (hx : noRefs xs = true) (hs : noRefs ws = true) (c : exL (f (.ref 0 :: ws) [.lst xs]) q xs = true) (e : h[k]? = some (.lst xs)) : Tr (f (.ref k :: ws) h) (fun _ _ => False) (fun d p h' => d = q ∧ Ch [] h h') := by
  have hk := (List.getElem?_eq_some_iff.mp e).1
  have x := EvF.p (f := f) (Emb.one h k hk) (.ref 0 :: ws) [.lst xs] (by simp [Emb.one])
  rw [one_em hk e hx, List.map_cons, show ws.map (Emb.one h k hk).w = ws from map_no hs, show (Emb.one h k hk).w (.ref 0) = .ref k from rfl] at x
  cases e2 : f (.ref 0 :: ws) [.lst xs] with
  | ex d p t =>
    rw [e2] at x c
    cases t with
    | nil => cases c
    | cons o t =>
      cases o with
      | lst ys =>
        obtain ⟨c1, c2⟩ := Bool.and_eq_true_iff.mp c
        cases beqWs_eq c2
        obtain ⟨_, e3⟩ := x
        rw [e3]
        exact ⟨of_decide_eq_true c1, one_ch hk e hx⟩
      | _ => cases c
  | ok _ _ => rw [e2] at c; cases c
  | bad => rw [e2] at c; cases c
theorem run0 (hw : noRef w = true) (hs : noRefs ws = true) (c : okN (f ws []) w = true) : Tr (f ws h) (fun w' h' => w' = w ∧ Ch [] h h') nEx := by
  have x := EvF.p (f := f) (Emb.new h) ws [] (by simp [Emb.new])
  rw [show ws.map (Emb.new h).w = ws from map_no hs, show (Emb.new h).em [] = h from List.append_nil h] at x
  cases e2 : f ws [] with
  | ok a t =>
    rw [e2] at x c
    cases beqW_eq c
    obtain ⟨_, b, e3, r⟩ := x
    rw [e3]
    exact ⟨by rw [r]; exact rn_no hw, .app⟩
  | ex _ _ _ => rw [e2] at c; cases c
  | bad => rw [e2] at c; cases c
theorem run0x {q : Str} (hs : noRefs ws = true) (c : exN (f ws []) q = true) : Tr (f ws h) (fun _ _ => False) (fun d p h' => d = q ∧ Ch [] h h') := by
  have x := EvF.p (f := f) (Emb.new h) ws [] (by simp [Emb.new])
  rw [show ws.map (Emb.new h).w = ws from map_no hs, show (Emb.new h).em [] = h from List.append_nil h] at x
  cases e2 : f ws [] with
  | ex d p t =>
    rw [e2] at x c
    obtain ⟨_, e3⟩ := x
    rw [e3]
    exact ⟨of_decide_eq_true c, .app⟩
  | ok _ _ => rw [e2] at c; cases c
  | bad => rw [e2] at c; cases c
end
end Fv
set_option Elab.async false
set_option linter.all false
set_option maxRecDepth 100000
set_option maxHeartbeats 1000000
set_option synthInstance.maxHeartbeats 1000000
set_option synthInstance.maxSize 100000
namespace K27
open PySem PySem.Spec PyProof.Rows L2 Fh Fv TL
instance : EvS F_check_teams := by unfold F_check_teams; infer_instance
instance : EvS F_circle := by unfold F_circle; infer_instance
instance : EvS F_twice := by unfold F_twice; infer_instance
def tA : List W := [.str "a"]
def tAB : List W := [.str "a", .str "b"]
def tABC : List W := [.str "a", .str "b", .str "c"]
def gm (a b : String) : W := .tup [.str (Str.ofString a), .str (Str.ofString b)]
def c2 : W := .tup [.tup [gm "a" "b"]]
def c3 : W := .tup [.tup [gm "c" "b"], .tup [gm "b" "a"], .tup [gm "a" "c"]]
theorem p_circle1 {h : LH} {k : Nat} (e : h[k]? = some (.lst tA)) : Tr (f_circle [.ref k] h) (fun _ _ => False) (fun d p h' => d = Str.ofString "BadTeams" ∧ Ch [] h h') :=
  run1x (by decide +kernel) (by decide +kernel) (by decide +kernel) e
theorem p_circle2 {h : LH} {k : Nat} (e : h[k]? = some (.lst tAB)) : Tr (f_circle [.ref k] h) (fun w h' => w = c2 ∧ Ch [] h h') nEx :=
  run1 (by decide +kernel) (by decide +kernel) (by decide +kernel) (by decide +kernel) e
theorem p_circle3 {h : LH} {k : Nat} (e : h[k]? = some (.lst tABC)) : Tr (f_circle [.ref k] h) (fun w h' => w = c3 ∧ Ch [] h h') nEx :=
  run1 (by decide +kernel) (by decide +kernel) (by decide +kernel) (by decide +kernel) e
end K27
set_option Elab.async false
set_option linter.all false
set_option maxRecDepth 100000
set_option maxHeartbeats 1000000
namespace K27
open PySem PySem.Spec PyProof.Rows L2 Fh Fv TL
def pairW (p : Str × Str) : W := .tup [.str p.1, .str p.2]
def layW (rs : List (List (Str × Str))) : W := .tup (rs.map fun gs => .tup (gs.map pairW))
def fresh (p : Str × Str) : Game := ⟨p.1, p.2, none⟩
theorem p_lay {h : LH} {i j : Nat} {s : Sea} {rs : List (List (Str × Str))} (hs : h[i]? = some (.ins "Season" (s.fs j))) (hl : rs.length ≤ 16) (hg : ∀ gs ∈ rs, gs.length ≤ 16) :
    Tr (f_Season_lay [.ref i, layW rs] h) (fun w h' => w = .non ∧ ∃ j', SeaAt h' i j' { s with rounds := rs.map fun gs => gs.map fresh } ∧ h.length ≤ j' ∧ Ch [i] h h') nEx := by
  have hi := lt_of_look hs
  rw [Tr_run]
  simp [F_Season_lay, layW]
  refine lc_map (f := fun gs : List (Str × Str) => W.tup (gs.map pairW)) (g := fun gs : List (Str × Str) => roundW (gs.map fresh)) (fun _ => true) (fun h1 => Ch [] h h1) .refl (fun _ _ => rfl) (by simp; omega) (fun gs hgs h1 c1 => ?_) fun h1 c1 => ?_
  · refine ⟨_, rfl, ?_⟩
    simp [c1]
    refine lc_map (f := pairW) (g := fun p => (fresh p).w) (fun _ => true) (fun h2 => Ch [] h h2) c1 (fun _ _ => rfl) (by have := hg gs hgs; simp; omega) (fun p hp h2 c2 => ?_) fun h2 c2 => ?_
    · refine ⟨_, rfl, ?_⟩
      simp [pairW, c2, Game.w, fresh, Game.one, Game.other]
    · simp [roundW, c2.push]
  · have e1 := (c1.push (t := [.lst (rs.map fun gs => roundW (gs.map fresh))])).at hs
    simp [e1, Sea.fs]
    have i1 : i < h1.length := Nat.lt_of_lt_of_le hi c1.len
    refine ⟨h1.length, ⟨look_set (by rw [e1]; rfl), ?_⟩, c1.len, (c1.mono (by simp)).push.put (.inl (by simp))⟩
    rw [look_ne (by omega)]
    simp
def rules4 : List Str := ["points", "goals", "scored", "name"]
theorem rules4_ok : RulesOk rules4 ["points,", "goals,", "scored,", "name"] :=
  ⟨by decide +kernel, by decide +kernel, by decide +kernel, by decide +kernel, by decide +kernel, by decide +kernel, by decide +kernel⟩
def prs : Bool → Bool → List (List (Str × Str))
  | false, false => [[("a", "b")]]
  | false, true => [[("a", "b")], [("b", "a")]]
  | true, false => [[("c", "b")], [("b", "a")], [("a", "c")]]
  | true, true => [[("c", "b")], [("b", "a")], [("a", "c")], [("b", "c")], [("a", "b")], [("c", "a")]]
def tms : Bool → List Str
  | false => ["a", "b"]
  | true => ["a", "b", "c"]
def sea0 (three double : Bool) : Sea := ⟨tms three, [3, 1, 0], rules4, (prs three double).map fun gs => gs.map fresh⟩
theorem tms_ok (b : Bool) : ∀ x ∈ tms b, NameOk x := by
  intro x hx
  cases b
  · simp only [tms, List.mem_cons, List.not_mem_nil, or_false] at hx
    rcases hx with rfl | rfl <;> exact nameOk_of (by decide +kernel)
  · simp only [tms, List.mem_cons, List.not_mem_nil, or_false] at hx
    rcases hx with rfl | rfl | rfl <;> exact nameOk_of (by decide +kernel)
theorem one_ap {p : Str × Str} {a b : List Game} {g g' : Game} (e : [fresh p] = a ++ g :: b) (h : g' ∈ a) : False := by
  have := congrArg List.length e
  simp at this
  have : a = [] := List.eq_nil_of_length_eq_zero (by omega)
  rw [this] at h
  cases h
theorem prs_one (b c : Bool) : ∀ gs ∈ prs b c, ∃ p, gs = [p] ∧ p.1 ∈ tms b ∧ p.2 ∈ tms b ∧ p.1 ≠ p.2 := by
  have : ∀ b c : Bool, ∀ gs ∈ prs b c, (match gs with
    | [p] => decide (p.1 ∈ tms b ∧ p.2 ∈ tms b ∧ p.1 ≠ p.2)
    | _ => false) = true := by decide +kernel
  intro gs hg
  have := this b c gs hg
  match gs, this with
  | [p], t => exact ⟨p, rfl, of_decide_eq_true t⟩
theorem tms_len (b : Bool) : ∀ x ∈ tms b, x.length ≤ 8 := by revert b; decide +kernel
theorem sea0_gd (b c : Bool) : Gd (sea0 b c) := by
  have pg : ∀ gs ∈ (sea0 b c).rounds, ∃ p, gs = [fresh p] ∧ p.1 ∈ tms b ∧ p.2 ∈ tms b ∧ p.1 ≠ p.2 := fun gs hg => by
    obtain ⟨q, hq, rfl⟩ := List.mem_map.mp hg
    obtain ⟨p, rfl, z⟩ := prs_one b c q hq
    exact ⟨p, rfl, z⟩
  refine ⟨⟨?_, tms_len b, by show 3 ≤ 4; omega, ?_, ?_, ?_, ?_, fun gs hg => ?_, fun gs hg g hgg => ?_⟩, ?_, ?_, tms_ok b, rfl, ⟨_, rules4_ok⟩, fun gs hg g hgg => ?_, fun gs hg a g r g' e h => ?_⟩
  · show (tms b).length ≤ 8; cases b <;> decide
  · show ∀ x ∈ [3, 1, 0], x ≤ 999999; decide
  · show rules4.length ≤ 10; decide
  · show ∀ x ∈ rules4, x.length ≤ 12; decide +kernel
  · show ((prs b c).map _).length ≤ 16; cases b <;> cases c <;> decide
  · obtain ⟨p, rfl, _⟩ := pg gs hg
    show 1 ≤ 4; omega
  · obtain ⟨p, rfl, h1, h2, _⟩ := pg gs hg
    cases List.mem_singleton.mp hgg
    exact ⟨tms_len b _ h1, tms_len b _ h2, fun p hp => by cases hp⟩
  · show 2 ≤ (tms b).length; cases b <;> decide
  · show (tms b).Nodup; cases b <;> decide +kernel
  · obtain ⟨p, rfl, h1, h2, h3⟩ := pg gs hg
    cases List.mem_singleton.mp hgg
    exact ⟨h1, h2, h3, fun p hp => by cases hp⟩
  · obtain ⟨p, rfl, _⟩ := pg gs hg
    exact (one_ap e h).elim
/-- circle and twice of the teams -/
theorem p_circle {h : LH} {k : Nat} {b : Bool} (e : h[k]? = some (.lst (wS (tms b)))) : Tr (f_circle [.ref k] h) (fun w h' => w = layW (prs b false) ∧ Ch [] h h') nEx := by
  cases b
  · exact run1 (by decide +kernel) (by decide +kernel) (by decide +kernel) (by decide +kernel) e
  · exact run1 (by decide +kernel) (by decide +kernel) (by decide +kernel) (by decide +kernel) e
theorem p_twice {h : LH} {b : Bool} : Tr (f_twice [layW (prs b false)] h) (fun w h' => w = layW (prs b true) ∧ Ch [] h h') nEx := by
  cases b
  · exact run0 (by decide +kernel) (by decide +kernel) (by decide +kernel)
  · exact run0 (by decide +kernel) (by decide +kernel) (by decide +kernel)
end K27
set_option Elab.async false
set_option linter.all false
set_option maxRecDepth 100000
set_option maxHeartbeats 1000000
namespace K27
open PySem PySem.Spec PyProof.Rows L2 Fh Fv TL
/-! tables -/
structure Gm where
  home : Str
  away : Str
  one : Nat
  other : Nat
def Gm.w (g : Gm) : W := .tup [.str g.home, .str g.away, .int (g.one : Nat), .int (g.other : Nat)]
structure Tab where
  teams : List Str
  worth : List Nat
  rules : List Str
  games : List Gm
structure TOk (t : Tab) : Prop where
  t2 : 2 ≤ t.teams.length
  t8 : t.teams.length ≤ 8
  nd : t.teams.Nodup
  tn : ∀ x ∈ t.teams, NameOk x
  w3 : t.worth.length = 3
  wl : ∀ x ∈ t.worth, x ≤ 999999
  rn : t.rules.length ≤ 10
  rs : ∀ x ∈ t.rules, x ∈ rules4
  gn : t.games.length ≤ 100
  gt : ∀ g ∈ t.games, g.home ∈ t.teams ∧ g.away ∈ t.teams ∧ g.home ≠ g.away
  gl : ∀ g ∈ t.games, g.one ≤ 999999 ∧ g.other ≤ 999999
def noughts (ts : List Str) : List (Key × W) := ts.map fun x => (.inr x, W.int 0)
def Tab.fs (t : Tab) (g m k : Nat) : List (Str × W) := [("teams", .tup (wS t.teams)), ("worth", .tup (wI t.worth)), ("rules", .tup (wS t.rules)), ("games", .ref g), ("marks", .ref m), ("taken", .ref k)]
structure TabAt (h : LH) (i g m k : Nat) (t : Tab) : Prop where
  ei : h[i]? = some (.ins "Table" (t.fs g m k))
  eg : h[g]? = some (.lst (t.games.map Gm.w))
  em : h[m]? = some (.dct (noughts t.teams))
  ek : h[k]? = some (.dct (noughts t.teams))
theorem TabAt.ch {S : List Nat} {h h' : LH} {i g m k : Nat} {t : Tab} (a : TabAt h i g m k t) (c : Ch S h h') (n : ∀ x ∈ S, x ≠ i ∧ x ≠ g ∧ x ≠ m ∧ x ≠ k) : TabAt h' i g m k t :=
  ⟨c.at a.ei (fun z => (n _ z).1 rfl), c.at a.eg (fun z => (n _ z).2.1 rfl), c.at a.em (fun z => (n _ z).2.2.1 rfl), c.at a.ek (fun z => (n _ z).2.2.2 rfl)⟩
theorem noughts_fold {ts : List Str} (nd : ts.Nodup) : ts.foldl (fun a x => putW a (.inr x) (W.int 0)) [] = noughts ts := by
  rw [fold_new (key := fun x => Sum.inr x) (val := fun _ => W.int 0) (by simpa [List.Nodup, List.pairwise_map] using nd)]
  rfl
theorem r10 : ∀ x ∈ rules4, PyData.strOk x = true ∧ x ∈ (["points", "goals", "scored", "wins", "away", "met points", "met goals", "met scored", "fair", "name"] : List Str) := by decide +kernel
theorem r10s : ∀ x ∈ (["points", "goals", "scored", "wins", "away", "met points", "met goals", "met scored", "fair", "name"] : List Str), PyData.strOk x = true := by decide +kernel
theorem in_rules {x : Str} (hx : x ∈ rules4) (h : LH) : inW true (.str x) (.tup [.str (Str.ofString "points"), .str (Str.ofString "goals"), .str (Str.ofString "scored"), .str (Str.ofString "wins"), .str (Str.ofString "away"), .str (Str.ofString "met points"), .str (Str.ofString "met goals"), .str (Str.ofString "met scored"), .str (Str.ofString "fair"), .str (Str.ofString "name")]) h = some (.bl false, h) := by
  have e : inW true (.str x) (.tup (wS (["points", "goals", "scored", "wins", "away", "met points", "met goals", "met scored", "fair", "name"] : List Str))) h = some (.bl false, h) := by
    rw [inW_tup (by simpa using (r10 x hx).1) (pws_strs r10s), anyS, decide_eq_true (r10 x hx).2]
    rfl
  exact e
theorem p_tab_init {h : LH} {i : Nat} {t : Tab} (ok : TOk t) (e : h[i]? = some (.ins "Table" [])) (eg : t.games = []) :
    Tr (f_Table_d_initd_ [.ref i, .tup (wS t.teams), .tup (wI t.worth), .tup (wS t.rules)] h) (fun w h' => w = .non ∧ ∃ g m k, TabAt h' i g m k t ∧ h.length ≤ g ∧ h.length ≤ m ∧ h.length ≤ k ∧ Ch [i] h h') nEx := by
  have hi := lt_of_look e
  have t2 := ok.t2
  have w3 := ok.w3
  have rn := ok.rn
  have lit1 : PyData.strOk (Str.ofString "teams") = true := by decide +kernel
  have t8 := ok.t8
  have nt : ¬ ((t.teams.length : Int) < 2) := by omega
  rw [Tr_run]
  simp [F_Table_d_initd_, nt]
  refine dc_map (key := fun x => .inr x) (val := fun _ => .bl true) (fun _ => true) (fun h1 => h1 = h) rfl (fun _ _ => rfl) (by simp; omega) (fun x hx h1 e1 => ?_) fun h1 e1 => ?_
  · subst e1; exact ⟨_, rfl, by simp⟩
  subst e1
  rw [filter_yes, fold_new (key := fun x => Sum.inr x) (val := fun _ => W.bl true) (by simpa [List.Nodup, List.pairwise_map] using ok.nd)]
  simp
  refine any_map (f := W.str) (fun _ => true) (fun _ => false) (fun h2 => h2 = h1 ++ [.dct (t.teams.map fun x => (.inr x, W.bl true))]) rfl (fun _ _ => rfl) (fun x hx h2 e1 => ?_) fun h2 e1 => ?_
  · subst e1; exact ⟨_, rfl, by simp [in_rules (ok.rs x hx)]⟩
  subst e1
  have c0 : Ch [] h1 (h1 ++ [.dct (t.teams.map fun x => (.inr x, W.bl true))]) := .app
  generalize h1 ++ [.dct (t.teams.map fun x => (.inr x, W.bl true))] = h2 at c0 ⊢
  have e2 := c0.at e
  have l2 := lt_of_look e2
  have lk : ∀ o, (h2.set i o)[i]? = some o := fun o => look_set (by rw [e2]; rfl)
  simp [w3, e2, lk, List.set_set, look_app]
  refine dc_map (key := fun x => .inr x) (val := fun _ => .int 0) (fun _ => true) (fun h3 => Ch [i] h1 h3 ∧ h3[i]? = some (.ins "Table" [("teams", .tup (wS t.teams)), ("worth", .tup (wI t.worth)), ("rules", .tup (wS t.rules)), ("games", .ref h2.length)]) ∧ h3[h2.length]? = some (.lst [])) ?_ (fun _ _ => rfl) (by simp; omega) (fun x hx h1 e1 => ?_) fun h3 ⟨c3, e3, g3⟩ => ?_
  · refine ⟨(((c0.mono (by simp)).put (.inl (by simp))).push).put (.inl (by simp)), look_set (by rw [look_app (by rw [lk]; rfl), lk]; rfl), ?_⟩
    rw [look_ne (by omega)]
    simp
  · exact ⟨_, rfl, by simp [e1]⟩
  rw [filter_yes, noughts_fold ok.nd]
  simp [e3, look_app]
  have l3 := lt_of_look e3
  have g3l := lt_of_look g3
  have c4 : Ch [i] h1 ((h3 ++ [LO.dct (noughts t.teams)]).set i (.ins "Table" [("teams", .tup (wS t.teams)), ("worth", .tup (wI t.worth)), ("rules", .tup (wS t.rules)), ("games", .ref h2.length), ("marks", .ref h3.length)])) := c3.push.put (.inl (by simp))
  have e4 : ((h3 ++ [LO.dct (noughts t.teams)]).set i (.ins "Table" [("teams", .tup (wS t.teams)), ("worth", .tup (wI t.worth)), ("rules", .tup (wS t.rules)), ("games", .ref h2.length), ("marks", .ref h3.length)]))[i]? = _ := look_set (by rw [look_app (by rw [e3]; rfl), e3]; rfl)
  have g4 : ((h3 ++ [LO.dct (noughts t.teams)]).set i (.ins "Table" [("teams", .tup (wS t.teams)), ("worth", .tup (wI t.worth)), ("rules", .tup (wS t.rules)), ("games", .ref h2.length), ("marks", .ref h3.length)]))[h2.length]? = some (.lst []) := by
    rw [look_ne (by omega), look_app (by rw [g3]; rfl), g3]
  have m4 : ((h3 ++ [LO.dct (noughts t.teams)]).set i (.ins "Table" [("teams", .tup (wS t.teams)), ("worth", .tup (wI t.worth)), ("rules", .tup (wS t.rules)), ("games", .ref h2.length), ("marks", .ref h3.length)]))[h3.length]? = some (.dct (noughts t.teams)) := by
    rw [look_ne (by omega)]; simp
  generalize ((h3 ++ [LO.dct (noughts t.teams)]).set i (.ins "Table" [("teams", .tup (wS t.teams)), ("worth", .tup (wI t.worth)), ("rules", .tup (wS t.rules)), ("games", .ref h2.length), ("marks", .ref h3.length)])) = h4 at c4 e4 g4 m4 ⊢
  refine dc_map (key := fun x => .inr x) (val := fun _ => .int 0) (fun _ => true) (fun h5 => h5 = h4) rfl (fun _ _ => rfl) (by simp; omega) (fun x hx h5 e5 => ?_) fun h5 e5 => ?_
  · subst e5; exact ⟨_, rfl, by simp⟩
  subst e5
  rw [filter_yes, noughts_fold ok.nd]
  have l4 := lt_of_look e4
  have g4l := lt_of_look g4
  have m4l := lt_of_look m4
  simp [e4, look_app]
  refine ⟨h2.length, h3.length, h5.length, ⟨look_set (by rw [look_app (by rw [e4]; rfl), e4]; rfl), ?_, ?_, ?_⟩, by have := c0.len; omega, c3.len, c4.len, c4.push.put (.inl (by simp))⟩
  · rw [look_ne (by omega), look_app (by rw [g4]; rfl), g4, eg]; rfl
  · rw [look_ne (by omega), look_app (by rw [m4]; rfl), m4]
  · rw [look_ne (by omega)]; simp
theorem p_tab_game {h : LH} {i g m k : Nat} {t : Tab} {q : Gm} (ta : TabAt h i g m k t) (ok : TOk t) (hq : q.home ∈ t.teams ∧ q.away ∈ t.teams ∧ q.home ≠ q.away) (gn : t.games.length < 100) (dg : g ≠ i ∧ g ≠ m ∧ g ≠ k) :
    Tr (f_Table_game [.ref i, .str q.home, .str q.away, .int (q.one : Nat), .int (q.other : Nat)] h) (fun w h' => w = .non ∧ TabAt h' i g m k { t with games := t.games ++ [q] } ∧ Ch [g] h h') nEx := by
  obtain ⟨ei, eg, em, ek⟩ := ta
  have o1 := (ok.tn _ hq.1).ok
  have o2 := (ok.tn _ hq.2.1).ok
  have po : pws 7 (wS t.teams) = true := pws_strs fun x hx => (ok.tn x hx).ok
  have n1 : ¬ ((q.one : Int) < 0) := by omega
  have n2 : ¬ ((q.other : Int) < 0) := by omega
  rw [Tr_run]
  simp [F_Table_game, ei, eg, Tab.fs, o1, o2, po, hq.1, hq.2.1, hq.2.2, n1, n2]
  refine ⟨by omega, ⟨?_, ?_, ?_, ?_⟩, .set (by simp)⟩
  · rw [look_ne dg.1, ei]; rfl
  · rw [look_set (by rw [eg]; rfl)]; simp [Gm.w]
  · rw [look_ne dg.2.1, em]
  · rw [look_ne dg.2.2, ek]
end K27
set_option Elab.async false
set_option linter.all false
set_option maxRecDepth 100000
set_option maxHeartbeats 1000000
namespace K27
open PySem PySem.Spec PyProof.Rows L2 Fh Fv TL
/-- a table in work -/
def InTab (h h' : LH) (ti : Nat) (s : Sea) (n : Nat) : Prop := ∃ g m k t, TabAt h' ti g m k t ∧ TOk t ∧ t.teams = s.teams ∧ t.worth = s.worth ∧ t.rules = s.rules ∧ t.games.length ≤ n ∧ h.length ≤ g ∧ (g ≠ ti ∧ g ≠ m ∧ g ≠ k) ∧ Ch [] h h'
theorem p_table {h : LH} {i j : Nat} {s : Sea} (sa : SeaAt h i j s) (gd : Gd s) (hr : ∀ x ∈ s.rules, x ∈ rules4) :
    Tr (f_Season_table [.ref i] h) (fun w h' => ∃ ti, w = .ref ti ∧ InTab h h' ti s 64) nEx := by
  obtain ⟨ei, ej⟩ := sa
  have ok0 : TOk ⟨s.teams, s.worth, s.rules, []⟩ := ⟨gd.t2, gd.sm.t, gd.nd, gd.tn, gd.w3, gd.sm.wl, gd.sm.r, hr, by simp, by simp, by simp⟩
  have rn := gd.sm.n
  rw [Tr_run]
  simp [F_Season_table, ei, Sea.fs]
  refine (p_tab_init (h := h ++ [.ins "Table" []]) (i := h.length) ok0 (by simp) rfl).ok fun w h1 ⟨ew, g, m, k, ta, hg, hm, hk, c1⟩ => ?_
  have c2 : Ch [] h h1 := Ch.app.trans (S' := [h.length]) c1 (by simp)
  have e1 := c2.at ei
  have e2 := c2.at ej
  simp at hg hm hk
  have gm : g ≠ m := fun z => by subst z; have := ta.eg; rw [ta.em] at this; cases this
  have gk : g ≠ k := fun z => by subst z; have := ta.eg; rw [ta.ek] at this; cases this
  simp [ew, e1, e2, Sea.fs]
  refine for_map (f := roundW) (fun d sl h' => (∃ a b c d e, sl = [some (.ref i), some (.ref h.length), a, b, c, d, e]) ∧ InTab h h' h.length s (d.length * 4)) ⟨⟨_, _, _, _, _, rfl⟩, g, m, k, _, ta, ok0, rfl, rfl, rfl, by simp, by omega, ⟨by omega, gm, gk⟩, c2⟩ (fun d sl h' ⟨_, g, m, k, t, _, _, _, _, _, _, _, _, c⟩ => by simp [c.at ej]) (fun d gs r sl h' ed ⟨⟨_, _, _, _, _, es⟩, it⟩ => ?_) (fun sl h' ⟨⟨_, _, _, _, _, es⟩, it⟩ => ?_)
  · subst es
    have gsm : gs ∈ s.rounds := by rw [← ed]; simp
    have dl : d.length < s.rounds.length := by rw [← ed]; simp
    have gl := gd.sm.g gs gsm
    refine ⟨_, rfl, ?_⟩
    simp [roundW]
    refine for_map (f := Game.w) (fun d2 sl h' => (∃ a b c d e, sl = [some (.ref i), some (.ref h.length), a, b, c, d, e]) ∧ InTab h h' h.length s (d.length * 4 + d2.length)) ⟨⟨_, _, _, _, _, rfl⟩, it⟩ (fun _ _ _ _ => rfl) (fun d2 q r2 sl h' ed2 ⟨⟨_, _, _, _, _, es⟩, it⟩ => ?_) (fun sl h' ⟨es, it⟩ => ?_)
    · subst es
      have qm : q ∈ gs := by rw [← ed2]; simp
      have d2l : d2.length < gs.length := by rw [← ed2]; simp
      have qo := gd.gs gs gsm q qm
      refine ⟨_, rfl, ?_⟩
      obtain ⟨g, m, k, t, ta, ok, et, ew2, er, gn, hg, dg, c⟩ := it
      cases esc : q.sc with
      | none =>
        simp [Game.w, Game.one, Game.other, esc]
        exact ⟨g, m, k, t, ta, ok, et, ew2, er, by omega, hg, dg, c⟩
      | some p =>
        have ps := qo.sc p esc
        have hq : q.home ∈ t.teams ∧ q.away ∈ t.teams ∧ q.home ≠ q.away := by rw [et]; exact ⟨qo.h, qo.a, qo.ne⟩
        simp [Game.w, Game.one, Game.other, esc, ta.ei, Tab.fs]
        refine (p_tab_game (q := ⟨q.home, q.away, p.1, p.2⟩) ta ok hq (by omega) dg).ok fun w h2 ⟨_, ta2, c2⟩ => ?_
        refine ⟨g, m, k, _, ta2, ⟨ok.t2, ok.t8, ok.nd, ok.tn, ok.w3, ok.wl, ok.rn, ok.rs, by simp; omega, fun z hz => ?_, fun z hz => ?_⟩, et, ew2, er, by simp; omega, hg, dg, c.trans c2 (by simpa using hg)⟩
        · rcases List.mem_append.mp hz with hz | hz
          · exact ok.gt z hz
          · rw [List.mem_singleton.mp hz]; exact hq
        · rcases List.mem_append.mp hz with hz | hz
          · exact ok.gl z hz
          · rw [List.mem_singleton.mp hz]; exact ps
    · refine ⟨es, ?_⟩
      obtain ⟨g, m, k, t, ta, ok, et, ew2, er, gn, hg, dg, c⟩ := it
      exact ⟨g, m, k, t, ta, ok, et, ew2, er, by omega, hg, dg, c⟩
  · subst es
    obtain ⟨g, m, k, t, ta, ok, et, ew2, er, gn, hg, dg, c⟩ := it
    simp
    exact ⟨g, m, k, t, ta, ok, et, ew2, er, by omega, hg, dg, c⟩
end K27
set_option Elab.async false
set_option linter.all false
set_option maxRecDepth 100000
set_option maxHeartbeats 2000000
namespace K27
open PySem PySem.Spec PyProof.Rows L2 Fh Fv TL
def Bd (n : Nat) (v : Int) : Prop := 0 ≤ v ∧ v ≤ n * 1000000
def Eight (h' : LH) (f n : Nat) : Prop := ∃ a b c d e x y z : Int, h'[f]? = some (.lst [.int a, .int b, .int c, .int d, .int e, .int x, .int y, .int z]) ∧ Bd n a ∧ Bd n b ∧ Bd n c ∧ Bd n d ∧ Bd n e ∧ Bd n x ∧ Bd n y ∧ Bd n z
theorem p_sums {h : LH} {i g m k : Nat} {t : Tab} {team : Str} {am : List Str} (ta : TabAt h i g m k t) (ok : TOk t) (ot : PyData.strOk team = true) (oa : ∀ x ∈ am, PyData.strOk x = true) :
    Tr (f_Table_sums [.ref i, .str team, .tup (wS am)] h) (fun w h' => ∃ a b c d e x y z : Int, w = .tup [.int a, .int b, .int c, .int d, .int e, .int x, .int y, .int z] ∧ (Bd 100 a ∧ Bd 100 b ∧ Bd 100 c ∧ Bd 100 d ∧ Bd 100 e ∧ Bd 100 x ∧ Bd 100 y ∧ Bd 100 z) ∧ Ch [] h h') nEx := by
  have po : pws 7 (wS am) = true := pws_strs oa
  obtain ⟨w0, w1, w2, ew⟩ : ∃ w0 w1 w2, t.worth = [w0, w1, w2] := by
    have := ok.w3
    match t.worth, this with
    | [a, b, c], _ => exact ⟨a, b, c, rfl⟩
  have wl := ok.wl
  rw [ew] at wl
  have q0 := wl w0 (by simp)
  have q1 := wl w1 (by simp)
  have q2 := wl w2 (by simp)
  have ei := ta.ei
  have eg := ta.eg
  have gn := ok.gn
  rw [Tr_run]
  simp [F_Table_sums, ei, eg, look_app, Tab.fs]
  refine for_map (f := Gm.w) (fun d sl h' => (∃ a b c e x y z, sl = [some (.ref i), some (.str team), some (.tup (wS am)), some (.ref (h.length + 1)), a, b, c, e, x, y, z]) ∧ Eight h' (h.length + 1) d.length ∧ Ch [] h h') ⟨⟨_, _, _, _, _, _, _, rfl⟩, ⟨0, 0, 0, 0, 0, 0, 0, 0, by simp [List.replicate], by unfold Bd; simp⟩, .app⟩ (fun d sl h' ⟨_, _, c⟩ => by simp [c.at eg]) (fun d q r sl h' ed ⟨⟨_, _, _, _, _, _, _, es⟩, ⟨a, b, c, d', e, x, y, z, ev, ba, bb, bc, bd, be, bx, by_, bz⟩, ch⟩ => ?_) (fun sl h' ⟨⟨_, _, _, _, _, _, _, es⟩, ⟨a, b, c, d', e, x, y, z, ev, ba, bb, bc, bd, be, bx, by_, bz⟩, ch⟩ => ?_)
  · subst es
    have qm : q ∈ t.games := by rw [← ed]; simp
    obtain ⟨g1, g2, g3⟩ := ok.gt q qm
    obtain ⟨l1, l2⟩ := ok.gl q qm
    have o1 := (ok.tn _ g1).ok
    have o2 := (ok.tn _ g2).ok
    have ni : h.length + 1 ≠ i := by have := lt_of_look ei; omega
    have e1 := ch.at ei
    have dl : (d ++ [q]).length = d.length + 1 := by simp
    have lk : ∀ (h' : LH) (o : LO), (h'[h.length + 1]?).isSome = true → (h'.set (h.length + 1) o)[h.length + 1]? = some o := fun h' o e => look_set e
    have lk2 : ∀ (h' : LH) (o : LO), (h'.set (h.length + 1) o)[i]? = h'[i]? := fun h' o => look_ne ni
    refine ⟨_, rfl, ?_⟩
    have cs : ∀ o, Ch [] h (h'.set (h.length + 1) o) := fun o => ch.put (.inr (by omega))
    have up : ∀ v, Bd d.length v → Bd (d.length + 1) v := fun v hv => ⟨hv.1, by have := hv.2; omega⟩
    have up1 : ∀ v u : Int, Bd d.length v → 0 ≤ u → u ≤ 1000000 → Bd (d.length + 1) (v + u) := fun v u hv h0 h1 => ⟨by have := hv.1; omega, by have := hv.2; omega⟩
    have fin : ∀ (h2 : LH) (a b c d' e x y z : Int), h2[h.length + 1]? = some (.lst [.int a, .int b, .int c, .int d', .int e, .int x, .int y, .int z]) → Bd (d.length + 1) a → Bd (d.length + 1) b → Bd (d.length + 1) c → Bd (d.length + 1) d' → Bd (d.length + 1) e → Bd (d.length + 1) x → Bd (d.length + 1) y → Bd (d.length + 1) z → Eight h2 (h.length + 1) (d.length + 1) := fun h2 a b c d' e x y z e0 b1 b2 b3 b4 b5 b6 b7 b8 => ⟨a, b, c, d', e, x, y, z, e0, b1, b2, b3, b4, b5, b6, b7, b8⟩
    simp [Gm.w, ot, o1, o2, po, ev, lk, lk2, e1, ew, Tab.fs, List.set_set, cs]
    have fs : ∀ a b c d' e x y z : Int, Bd (d.length + 1) a → Bd (d.length + 1) b → Bd (d.length + 1) c → Bd (d.length + 1) d' → Bd (d.length + 1) e → Bd (d.length + 1) x → Bd (d.length + 1) y → Bd (d.length + 1) z → Eight (h'.set (h.length + 1) (.lst [.int a, .int b, .int c, .int d', .int e, .int x, .int y, .int z])) (h.length + 1) (d.length + 1) :=
      fun a b c d' e x y z b1 b2 b3 b4 b5 b6 b7 b8 => fin _ _ _ _ _ _ _ _ _ (lk _ _ (by rw [ev]; rfl)) b1 b2 b3 b4 b5 b6 b7 b8
    have ite1 : ∀ p : Prop, ∀ [Decidable p], 0 ≤ (if p then (1 : Int) else 0) ∧ (if p then (1 : Int) else 0) ≤ 1000000 := fun p _ => by split <;> omega
    have same : Eight h' (h.length + 1) (d.length + 1) := fin _ _ _ _ _ _ _ _ _ ev (up _ ba) (up _ bb) (up _ bc) (up _ bd) (up _ be) (up _ bx) (up _ by_) (up _ bz)
    refine ⟨fun _ => ⟨fun _ => ⟨fun _ => ⟨fun _ => ⟨fun _ => ?_, fun _ => ⟨fun _ => ?_, fun _ => ?_⟩⟩, fun _ => ⟨fun _ => ?_, fun _ => ⟨fun _ => ?_, fun _ => ?_⟩⟩⟩, fun _ => ⟨same, ch⟩⟩, fun _ => ⟨same, ch⟩⟩, fun _ _ => ⟨same, ch⟩⟩
    all_goals
      refine fs _ _ _ _ _ _ _ _ ?_ ?_ ?_ ?_ ?_ ?_ ?_ ?_ <;> first | (apply up; assumption; done) | (refine up1 _ _ (by assumption) ?_ ?_ <;> first | omega | exact (ite1 _).1 | exact (ite1 _).2)
  · subst es
    simp [ev]
    have up : ∀ v, Bd t.games.length v → Bd 100 v := fun v hv => ⟨hv.1, by have := hv.2; omega⟩
    exact ⟨_, _, _, _, _, _, _, _, ⟨⟨rfl, rfl, rfl, rfl, rfl, rfl, rfl, rfl⟩, ⟨up _ ba, up _ bb, up _ bc, up _ bd, up _ be, up _ bx, up _ by_, up _ bz⟩, ch⟩⟩
end K27
set_option Elab.async false
set_option linter.all false
set_option maxRecDepth 100000
set_option maxHeartbeats 2000000
namespace K27
open PySem PySem.Spec PyProof.Rows L2 Fh Fv TL
theorem Tr_disp {fs : List ((Sl → M W) × (Sl → M W))} {sl : Sl} {h : LH} {Q : W → LH → Prop} {E : EQ} : Tr (fDisp fs sl h) Q E = Tr (dispA sl fs [] h) Q E := rfl
theorem Tr_dispC {fk fv : Sl → M W} {r : List ((Sl → M W) × (Sl → M W))} {acc : List (Key × W)} {sl : Sl} {h : LH} {Q : W → LH → Prop} {E : EQ} : Tr (dispA sl ((fk, fv) :: r) acc h) Q E = Tr (fk sl h) (fun k h => Tr (fv sl h) (fun v h => Tr (opt (keyW k) h) (fun kk h => Tr (dispA sl r (acc ++ [(kk, v)]) h) Q E) E) E) E := by
  simp only [dispA, Tr_bnd]
theorem Tr_dispN {acc : List (Key × W)} {sl : Sl} {h : LH} {Q : W → LH → Prop} {E : EQ} : Tr (dispA sl [] acc h) Q E = (acc.length ≤ 15 ∧ Q (.ref h.length) (h ++ [.dct (acc.foldl (fun a kv => putW a kv.1 kv.2) [])])) := by
  simp only [dispA]
  by_cases z : acc.length ≤ 15 <;> simp [z]
theorem valW_map {ts : List Str} {x : Str} (f : Str → W) (hx : x ∈ ts) : valW (ts.map fun y => (Sum.inr y, f y)) (.inr x) = some (f x) := by
  induction ts with
  | nil => cases hx
  | cons y ts ih =>
    unfold valW at ih ⊢
    by_cases z : y = x
    · subst z; simp
    · rw [List.map_cons, List.find?_cons_of_neg (by simpa using z)]
      rcases List.mem_cons.mp hx with rfl | hx
      · exact absurd rfl z
      · exact ih hx
theorem firstIx_some {x : Str} : ∀ {ss : List Str} {n : Nat}, x ∈ ss → ∃ m, firstIx (pD (.str x)) (pDs (wS ss)) n = some m
  | [], _, h => by cases h
  | s :: ss, n, h => by
    show ∃ m, (if PyData.eqv (pD (.str s)) (pD (.str x)) = true then some n else firstIx (pD (.str x)) (pDs (wS ss)) (n + 1)) = some m
    by_cases z : PyData.eqv (pD (.str s)) (pD (.str x)) = true
    · exact ⟨n, if_pos z⟩
    · rw [if_neg z]
      rcases List.mem_cons.mp h with rfl | h
      · simp [pD, PyData.eqv] at z
      · exact firstIx_some h
theorem indexW_S {h : LH} {i : Nat} {ss : List Str} {x : Str} (e : h[i]? = some (.lst (wS ss))) (ok : ∀ s ∈ ss, PyData.strOk s = true) (hx : x ∈ ss) : ∃ n : Nat, indexW (.ref i) [.str x] h = some (.int n, h) := by
  have po : pws 7 (wS ss) = true := pws_strs ok
  obtain ⟨b1, b2, b3⟩ := toDs_pw (h := h) po
  have e1 : toD 9 h (.ref i) = some (.list (pDs (wS ss))) := by
    rw [toD, e]
    simp only [b1]
    rfl
  have hx2 : pw 8 (.str x) = true := by simpa using ok x hx
  obtain ⟨a1, a2, a3⟩ := toD_pw (h := h) hx2
  have s2 : SeqAt.shaped (.list (pDs (wS ss))) = true := shaped_of (n := 8) (by simpa [PyData.canLay0] using b2) (by simp only [PyData.depth]; omega) (by omega)
  obtain ⟨m, hm⟩ := firstIx_some (x := x) (n := 0) hx
  refine ⟨m, ?_⟩
  simp only [indexW, e1, a1, s2, shaped_of a2 a3 (by omega), and_self, if_true, hm, Option.map_some]
theorem ins_mem {α : Type} {le : α → α → Bool} {x y : α} : ∀ {l : List α}, y ∈ ins le x l ↔ y = x ∨ y ∈ l
  | [] => by simp [ins]
  | z :: l => by
    unfold ins
    split
    · simp
    · rw [List.mem_cons, ins_mem]; simp; grind
theorem isort_mem {α : Type} {le : α → α → Bool} {y : α} : ∀ {l : List α}, y ∈ isort le l ↔ y ∈ l
  | [] => by simp [isort]
  | z :: l => by rw [isort, ins_mem, isort_mem]; simp
theorem ins_len {α : Type} {le : α → α → Bool} {x : α} : ∀ {l : List α}, (ins le x l).length = l.length + 1
  | [] => rfl
  | z :: l => by
    unfold ins
    split
    · rfl
    · rw [List.length_cons, ins_len]; rfl
theorem isort_len {α : Type} {le : α → α → Bool} : ∀ {l : List α}, (isort le l).length = l.length
  | [] => rfl
  | z :: l => by rw [isort, ins_len, isort_len]; rfl
theorem sortedTW_S {ss : List Str} {h : LH} : sortedTW [.tup (wS ss)] h = if ss.length < 64 then some (.ref h.length, h ++ [.lst (wS (isort leS ss))]) else none := by
  simp only [sortedTW, txts_map, Option.bind_some, wS]
theorem p_worth_by {h : LH} {i g m k : Nat} {t : Tab} {team rule : Str} {am : List Str} (ta : TabAt h i g m k t) (ok : TOk t) (ht : team ∈ t.teams) (hr : rule ∈ rules4) :
    Tr (f_Table_worth_by [.ref i, .str team, .str rule, .tup (wS am)] h) (fun w h' => ∃ v, w = .int v ∧ Ch [] h h') nEx := by
  have ot := (ok.tn _ ht).ok
  rw [Tr_run]
  simp [F_Table_worth_by, ta.ei, Tab.fs]
  refine (p_sums (am := t.teams) ta ok ot fun x hx => (ok.tn x hx).ok).ok fun w h1 ⟨a, b, c, d, e, x, y, z, ew, _, c1⟩ => ?_
  subst ew
  have ei := c1.at ta.ei
  have ek := c1.at ta.ek
  have ps : ∀ s ∈ (["points", "goals", "scored", "wins", "away", "fair", "name", "met points"] : List Str), PyData.strOk s = true := by decide +kernel
  have v0 : valW (noughts t.teams) (.inr team) = some (.int 0) := valW_map (fun _ => .int 0) ht
  have lit1 : PyData.strOk (Str.ofString "points") = true := by decide +kernel
  have lit2 : PyData.strOk (Str.ofString "goals") = true := by decide +kernel
  have lit3 : PyData.strOk (Str.ofString "scored") = true := by decide +kernel
  have lit4 : PyData.strOk (Str.ofString "wins") = true := by decide +kernel
  have lit5 : PyData.strOk (Str.ofString "away") = true := by decide +kernel
  have lit6 : PyData.strOk (Str.ofString "fair") = true := by decide +kernel
  have lit7 : PyData.strOk (Str.ofString "name") = true := by decide +kernel
  have t8 := ok.t8
  simp only [rules4, List.mem_cons, List.not_mem_nil, or_false] at hr
  rcases hr with rfl | rfl | rfl | rfl
  · simp [lit1, ei, ek, Tab.fs, v0, c1]
  · simp [lit1, lit2, lit3, lit4, lit5, ei, ek, Tab.fs, v0, c1, Tr_disp, Tr_dispC, Tr_dispN, putW, valW, Ch.push]
  · simp [lit1, lit2, lit3, lit4, lit5, ei, ek, Tab.fs, v0, c1, Tr_disp, Tr_dispC, Tr_dispN, putW, valW, Ch.push]
  · obtain ⟨n, en⟩ := indexW_S (h := h1 ++ [.lst (wS (isort leS t.teams))]) (i := h1.length) (ss := isort leS t.teams) (x := team) (by simp) (fun s hs => (ok.tn s (isort_mem.mp hs)).ok) (isort_mem.mpr ht)
    simp only [wS] at en
    simp [lit1, lit2, lit3, lit4, lit5, lit6, lit7, ei, ek, Tab.fs, v0, c1, sortedTW_S, en, Ch.push]
    omega
end K27
set_option Elab.async false
set_option linter.all false
set_option maxRecDepth 100000
set_option maxHeartbeats 2000000
namespace K27
open PySem PySem.Spec PyProof.Rows L2 Fh Fv TL
theorem Tr_lock {v i : Nat} {kvs : List (Key × W)} {f : Sl → M W} {sl : Sl} {h : LH} {Q : W → LH → Prop} {E : EQ} (e1 : sl[v]? = some (some (.ref i))) (e2 : h[i]? = some (.dct kvs))
    (t : Tr (f sl (h.set i (.dcl kvs))) (fun w h' => ∃ kvs', h'[i]? = some (.dcl kvs') ∧ Q w (h'.set i (.dct kvs'))) nEx) : Tr (fLock (fVar v) f sl h) Q E := by
  obtain ⟨a, h', e3, kvs', e4, q⟩ := t.eq
  have : fVar v sl h = .ok (.ref i) h := by simp [fVar, e1, opt]
  simp only [fLock, this, e2, e3, e4]
  exact q
@[simp ↓] theorem Tr_sortedDR {fa : Sl → M W} {sl : Sl} {h : LH} {Q : W → LH → Prop} {E : EQ} : Tr (fSortedDR fa sl h) Q E = Tr (fa sl h) (fun w h => Tr (toR (sortedDRW w h)) Q E) E := by
  unfold fSortedDR; rw [Tr_bnd]; simp only [Tr_opt2]
/-- a dict comprehension whose values are told by a property -/
theorem dc_ex {α : Type} [DecidableEq α] {gd : LH → Bool} {p : Pat} {tst : Sl → M Bool} {kx vx : Sl → M W} {sl : Sl} {Q : W → LH → Prop} {E : EQ} {f : α → W} {key : α → Key} {P : W → Prop} (I : LH → Prop) :
    ∀ {xs : List α} {acc : List (Key × W)} {h : LH}, I h → (∀ h, I h → gd h = true) → acc.length + xs.length ≤ 100000 → (acc.map (·.1) ++ xs.map key).Nodup → xs.Nodup →
    (∀ x ∈ xs, ∀ h, I h → ∃ sl1, bindP p (f x) sl = some sl1 ∧ Tr (tst sl1 h) (fun b h => b = true ∧ I h ∧ Tr (kx sl1 h) (fun y h => keyW y = some (key x) ∧ I h ∧ Tr (vx sl1 h) (fun z h => P z ∧ I h) nEx) nEx) nEx) →
    (∀ h (val : α → W), (∀ x ∈ xs, P (val x)) → I h → Q (.ref h.length) (h ++ [.dct (acc ++ xs.map fun x => (key x, val x))])) → Tr (dcA gd p tst kx vx sl acc (xs.map f) h) Q E := by
  intro xs
  induction xs with
  | nil =>
    intro acc h hI gdI _ _ _ _ done
    show Tr (if gd h = true then _ else _) Q E
    rw [if_pos (gdI _ hI)]
    have := done h (fun _ => .non) (by simp) hI
    simpa using this
  | cons x xs ih =>
    intro acc h hI gdI hl nd ndx step done
    obtain ⟨sl1, eb, tt⟩ := step x (by simp) h hI
    simp only [List.length_cons] at hl
    simp only [List.map_cons, dcA, gdI _ hI, true_and, eb, if_pos (show acc.length < LIM from (by show acc.length < 100000; omega)), Tr_bnd, Tr_nx1]
    refine tt.ok fun b h1 ⟨e, i1, t2⟩ => ?_
    subst e
    simp only [if_true, Tr_bnd, Tr_nx1]
    refine t2.ok fun y h2 ⟨ek, i2, t3⟩ => ?_
    refine t3.ok fun v h3 ⟨pv, i3⟩ => ?_
    rw [ek]
    simp only [Tr_opt]
    have kn : key x ∉ acc.map (·.1) := fun z => (List.nodup_append.mp nd).2.2 _ z _ (by simp) rfl
    rw [put_new kn]
    have nx : x ∉ xs := (List.nodup_cons.mp ndx).1
    refine ih i3 gdI (by simp; omega) (by simpa using nd) (List.nodup_cons.mp ndx).2 (fun y hy => step y (List.mem_cons_of_mem _ hy)) fun h4 val pval i4 => ?_
    have := done h4 (fun y => if y = x then v else val y) (fun y hy => by
      by_cases z : y = x
      · simp only [z, if_true]; exact pv
      · simp only [z, if_false]
        rcases List.mem_cons.mp hy with hy | hy
        · exact absurd hy z
        · exact pval y hy) i4
    have em : xs.map (fun y => (key y, if y = x then v else val y)) = xs.map fun y => (key y, val y) := List.map_congr_left fun y hy => by
      rw [if_neg (fun z : y = x => nx (by rw [← z]; exact hy))]
    simp only [List.map_cons, if_true, em] at this
    simpa using this
def uniq : List Int → List Int → List Int
  | us, [] => us
  | us, x :: xs => if x ∈ us then uniq us xs else uniq (us ++ [x]) xs
def trueW (us : List Int) : List (Key × W) := us.map fun x => (Sum.inl x, W.bl true)
theorem put_trueW {us : List Int} {x : Int} : putW (trueW us) (.inl x) (.bl true) = if x ∈ us then trueW us else trueW (us ++ [x]) := by
  by_cases z : x ∈ us
  · rw [if_pos z]
    unfold putW
    rw [if_pos (by simp [trueW]; exact z)]
    unfold trueW
    rw [List.map_map]
    exact List.map_congr_left fun y _ => by simp only [Function.comp]; split <;> rfl
  · rw [if_neg z, put_new (by simp [trueW]; exact z)]
    simp [trueW]
theorem fold_trueW : ∀ {xs us : List Int}, xs.foldl (fun a x => putW a (.inl x) (.bl true)) (trueW us) = trueW (uniq us xs)
  | [], _ => rfl
  | x :: xs, us => by
    rw [List.foldl_cons, put_trueW, uniq]
    split
    · exact fold_trueW
    · exact fold_trueW
theorem uniq_nd : ∀ {xs us : List Int}, us.Nodup → (uniq us xs).Nodup
  | [], _, h => h
  | x :: xs, us, h => by
    rw [uniq]
    split
    · exact uniq_nd h
    · refine uniq_nd (List.nodup_append.mpr ⟨h, by simp, fun a ha b hb => ?_⟩)
      rw [List.mem_singleton.mp hb]
      rintro rfl
      contradiction
theorem uniq_mem {y : Int} : ∀ {xs us : List Int}, y ∈ uniq us xs → y ∈ us ∨ y ∈ xs
  | [], _, h => .inl h
  | x :: xs, us, h => by
    rw [uniq] at h
    split at h
    · rcases uniq_mem h with h | h
      · exact .inl h
      · exact .inr (by simp [h])
    · rcases uniq_mem h with h | h
      · rcases List.mem_append.mp h with h | h
        · exact .inl h
        · exact .inr (by rw [List.mem_singleton.mp h]; simp)
      · exact .inr (by simp [h])
theorem uniq_len : ∀ {xs us : List Int}, (uniq us xs).length ≤ us.length + xs.length
  | [], _ => Nat.le_refl _
  | x :: xs, us => by
    rw [uniq]
    split
    · have := uniq_len (xs := xs) (us := us); simp; omega
    · have := uniq_len (xs := xs) (us := us ++ [x]); simp at this ⊢; omega
theorem mapM_keyI : ∀ {us : List Int}, (trueW us).mapM (fun kv => keyI kv.1) = some us
  | [] => rfl
  | u :: us => by
    show (List.mapM (fun kv => keyI kv.1) ((Sum.inl u, W.bl true) :: trueW us)) = _
    rw [List.mapM_cons, mapM_keyI]
    rfl
theorem sum_filter_le {f : Str → Int} : ∀ {row : List Str} {ws : List Int}, ws.Nodup → (ws.map fun w => (row.filter fun x => decide (f x = w)).length).sum ≤ row.length
  | [], ws, _ => by
    have : (ws.map fun w => (([] : List Str).filter fun x => decide (f x = w)).length) = ws.map fun _ => 0 := rfl
    rw [this]
    have z0 : ∀ l : List Int, (l.map fun _ => 0).sum = 0 := fun l => by
      induction l with
      | nil => rfl
      | cons _ _ ih => rw [List.map_cons, List.sum_cons, ih]
    rw [z0]
    exact Nat.zero_le _
  | x :: row, ws, nd => by
    have ih := sum_filter_le (f := f) (row := row) nd
    have key : ∀ vs : List Int, vs.Nodup → (vs.map fun w => ((x :: row).filter fun x => decide (f x = w)).length).sum = (vs.map fun w => (row.filter fun x => decide (f x = w)).length).sum + (if f x ∈ vs then 1 else 0) := by
      intro vs
      induction vs with
      | nil => intro _; simp
      | cons v vs ih2 =>
        intro nd2
        obtain ⟨n1, n2⟩ := List.nodup_cons.mp nd2
        simp only [List.map_cons, List.sum_cons]
        rw [ih2 n2]
        by_cases z : f x = v
        · have : f x ∉ vs := by rw [z]; exact n1
          have n1' : ¬ v ∈ vs := n1
          simp [List.filter_cons, z, n1']
          omega
        · simp [List.filter_cons, z]
          omega
    rw [key ws nd]
    simp only [List.length_cons]
    split <;> omega
end K27
set_option Elab.async false
set_option linter.all false
set_option maxRecDepth 100000
set_option maxHeartbeats 2000000
namespace K27
open PySem PySem.Spec PyProof.Rows L2 Fh Fv TL
def tupS (gs : List Str) : W := .tup (wS gs)
/-- rows of teams at j -/
def Parts (h' : LH) (j : Nat) (row : List Str) (n : Nat) : Prop := ∃ gss : List (List Str), h'[j]? = some (.lst (gss.map tupS)) ∧ (∀ gs ∈ gss, gs ≠ [] ∧ ∀ x ∈ gs, x ∈ row) ∧ (gss.map List.length).sum ≤ n
theorem len_le_sum : ∀ {gss : List (List Str)}, (∀ gs ∈ gss, gs ≠ []) → gss.length ≤ (gss.map List.length).sum
  | [], _ => Nat.le_refl _
  | gs :: gss, h => by
    have a := len_le_sum (gss := gss) fun g hg => h g (List.mem_cons_of_mem _ hg)
    have b : 0 < gs.length := List.length_pos_iff.mpr (h gs (by simp))
    simp only [List.length_cons, List.map_cons, List.sum_cons]
    omega
theorem met_not {x : Str} (hx : x ∈ rules4) : PyData.strOk (cutS x none (some 4)) = true ∧ (cutS x none (some 4) == Str.ofString "met ") = false ∧ x.length ≤ 100000 ∧ PyData.strOk x = true := by
  have : ∀ x ∈ rules4, (PyData.strOk (cutS x none (some 4)) && (!(cutS x none (some 4) == Str.ofString "met ") && (decide (x.length ≤ 100000) && PyData.strOk x))) = true := by decide +kernel
  have := this x hx
  simp only [Bool.and_eq_true, Bool.not_eq_true', decide_eq_true_eq] at this
  exact this
theorem p_parted {i g m k : Nat} {t : Tab} (ok : TOk t) : ∀ (n : Nat) (q : Nat) (row : List Str) (h : LH), TabAt h i g m k t → t.rules.length < n + q → q ≤ t.rules.length → row ≠ [] → row.length ≤ 8 → row.Nodup → (∀ x ∈ row, x ∈ t.teams) →
    Tr (f_Table_parted n [.ref i, tupS row, .int (q : Nat)] h) (fun w h' => ∃ j, w = .ref j ∧ Parts h' j row row.length ∧ Ch [] h h') nEx := by
  intro n
  induction n with
  | zero => intro q row h ta l1 l2; omega
  | succ n ih =>
    intro q row h ta l1 l2 ne l8 nd sub
    have litm : PyData.strOk (Str.ofString "met ") = true := by decide +kernel
    have lone : Parts (h ++ [LO.lst [W.tup (wS row)]]) h.length row row.length ∧ Ch [] h (h ++ [LO.lst [W.tup (wS row)]]) := ⟨⟨[row], by simp [tupS], by simpa using ne, by simp⟩, .app⟩
    show Tr (runF 11 (F_Table_parted (f_Table_parted n)) _ h) _ _
    rw [Tr_run]
    simp [F_Table_parted, ta.ei, Tab.fs, tupS]
    refine ⟨fun _ => lone, fun n1 => ⟨fun _ => lone, fun nq => ?_⟩⟩
    have ql : q < t.rules.length := by omega
    obtain ⟨rule, er⟩ : ∃ r, t.rules[q]? = some r := ⟨_, List.getElem?_eq_getElem ql⟩
    have rm : rule ∈ rules4 := ok.rs rule (List.mem_of_getElem? er)
    obtain ⟨mo, mn, ml, ro⟩ := met_not rm
    have er2 : t.rules[q] = rule := by rw [List.getElem?_eq_getElem ql] at er; exact Option.some.inj er
    simp [ql, er2]
    refine dc_ex (f := W.str) (key := fun x => Sum.inr x) (P := fun w => ∃ v, w = .int v) (fun h1 => Ch [] h h1) .refl (fun _ _ => rfl) (by simp; omega) (by simpa [List.Nodup, List.pairwise_map] using nd) nd (fun x hx h1 c1 => ?_) fun h1 val pv c1 => ?_
    · refine ⟨_, rfl, ?_⟩
      have tb := ta.ch c1 (by simp)
      simp [c1, tb.ei, Tab.fs]
      refine (p_worth_by (am := row) tb ok (sub x hx) rm).ok fun w h2 ⟨v, ev, c2⟩ => ?_
      exact ⟨⟨v, ev⟩, c1.tr c2⟩
    obtain ⟨f, hf⟩ : ∃ f : Str → Int, ∀ x ∈ row, val x = .int (f x) := by
      refine ⟨fun x => match val x with
        | .int v => v
        | _ => 0, fun x hx => ?_⟩
      obtain ⟨v, ev⟩ := pv x hx
      simp only [ev]
    have em : (row.map fun x => (Sum.inr x, val x) : List (Key × W)) = row.map fun x => (Sum.inr x, .int (f x)) := List.map_congr_left fun x hx => by rw [hf x hx]
    rw [List.nil_append, em]
    have cD : Ch [] h (h1 ++ [LO.dct (row.map fun x => (Sum.inr x, W.int (f x)))]) := c1.push
    have eD : (h1 ++ [LO.dct (row.map fun x => (Sum.inr x, W.int (f x)))])[h1.length]? = some (.dct (row.map fun x => (Sum.inr x, W.int (f x)))) := by simp
    generalize hH : h1 ++ [LO.dct (row.map fun x => (Sum.inr x, W.int (f x)))] = H1 at cD eD
    refine Tr_lock (i := h1.length) (kvs := row.map fun x => (Sum.inr x, W.int (f x))) rfl (by rw [look_app (by rw [eD]; rfl), eD]) ?_
    have eS : ((H1 ++ [LO.lst []]).set h1.length (.dcl (row.map fun x => (Sum.inr x, W.int (f x)))))[h1.length]? = some (.dcl (row.map fun x => (Sum.inr x, W.int (f x)))) := look_set (by rw [look_app (by rw [eD]; rfl), eD]; rfl)
    have lD := lt_of_look eD
    have eF : ((H1 ++ [LO.lst []]).set h1.length (.dcl (row.map fun x => (Sum.inr x, W.int (f x)))))[H1.length]? = some (.lst []) := by
      rw [look_ne (by omega)]; simp
    have cS : Ch [] h ((H1 ++ [LO.lst []]).set h1.length (.dcl (row.map fun x => (Sum.inr x, W.int (f x))))) := cD.push.put (.inr c1.len)
    generalize ((H1 ++ [LO.lst []]).set h1.length (.dcl (row.map fun x => (Sum.inr x, W.int (f x))))) = H2 at eS eF cS ⊢
    simp [itDct, eS]
    rw [show (List.map (vwW Vw.vals ∘ fun x => (Sum.inr x, W.int (f x))) row) = row.map (fun x => W.int (f x)) from rfl]
    refine dc_map (f := fun x => W.int (f x)) (key := fun x => Sum.inl (f x)) (val := fun _ => W.bl true) (fun _ => true) (fun h3 => h3 = H2) rfl (fun _ _ => rfl) (by simp; omega) (fun x hx h3 e3 => ?_) fun h3 e3 => ?_
    · subst e3; exact ⟨_, rfl, by simp⟩
    subst e3
    rw [filter_yes]
    have fe : row.foldl (fun a x => putW a (Sum.inl (f x)) (W.bl true)) [] = trueW (uniq [] (row.map f)) := by
      rw [← fold_trueW, List.foldl_map]; rfl
    rw [fe]
    have und : (uniq [] (row.map f)).Nodup := uniq_nd List.nodup_nil
    have ule : (uniq [] (row.map f)).length ≤ 8 := by have := uniq_len (xs := row.map f) (us := []); simp at this; omega
    have umem : ∀ y ∈ uniq [] (row.map f), ∃ x ∈ row, f x = y := fun y hy => by
      rcases uniq_mem hy with hy | hy
      · cases hy
      · exact List.mem_map.mp hy
    generalize uniq [] (row.map f) = us at *
    have inj1 : (isort geI us).Nodup := (isort_perm us).nodup_iff.mpr und
    have inj2 : ∀ y ∈ isort geI us, ∃ x ∈ row, f x = y := fun y hy => umem y (isort_mem.mp hy)
    have inj3 : (isort geI us).length ≤ 8 := by rw [isort_len]; exact ule
    have l3 := lt_of_look eS
    have l4 := lt_of_look eF
    refine ⟨row.map fun x => (Sum.inr x, W.int (f x)), by rw [look_app (by rw [eS]; rfl), eS], ?_⟩
    have eT : ((h3 ++ [LO.dct (trueW us)]).set h1.length (.dct (row.map fun x => (Sum.inr x, W.int (f x)))))[h3.length]? = some (.dct (trueW us)) := by
      rw [look_ne (by omega)]; simp
    have eD2 : ((h3 ++ [LO.dct (trueW us)]).set h1.length (.dct (row.map fun x => (Sum.inr x, W.int (f x)))))[h1.length]? = some (.dct (row.map fun x => (Sum.inr x, W.int (f x)))) := look_set (by rw [look_app (by rw [eS]; rfl), eS]; rfl)
    have eF2 : ((h3 ++ [LO.dct (trueW us)]).set h1.length (.dct (row.map fun x => (Sum.inr x, W.int (f x)))))[H1.length]? = some (.lst []) := by
      rw [look_ne (by omega), look_app (by rw [eF]; rfl), eF]
    have c3 : Ch [] h ((h3 ++ [LO.dct (trueW us)]).set h1.length (.dct (row.map fun x => (Sum.inr x, W.int (f x))))) := cS.push.put (.inr c1.len)
    generalize ((h3 ++ [LO.dct (trueW us)]).set h1.length (.dct (row.map fun x => (Sum.inr x, W.int (f x))))) = H3 at eT eD2 eF2 c3 ⊢
    have es : sortedDRW (.ref h3.length) H3 = some (.ref H3.length, H3 ++ [.lst ((isort geI us).map W.int)]) := by
      simp only [sortedDRW, eT, mapM_keyI, Option.bind_some]
      rw [if_pos (by omega)]
    simp only [es]
    simp
    have lf := lt_of_look eF2
    have ldd := lt_of_look eD2
    have hF : h.length ≤ H1.length := by rw [← hH]; simp; have := c1.len; omega
    generalize isort geI us = ws at *
    refine for_map (f := W.int) (fun d sl h' => (∃ a b c d' e, sl = [some (.ref i), some (.tup (wS row)), some (.int (q : Nat)), some (.str rule), some (.ref h1.length), a, some (.ref H1.length), b, c, d', e]) ∧ h'[h1.length]? = some (.dct (row.map fun x => (Sum.inr x, W.int (f x)))) ∧ h'[H3.length]? = some (.lst (ws.map W.int)) ∧ Parts h' H1.length row (d.map fun w => (row.filter fun x => decide (f x = w)).length).sum ∧ Ch [] h h') ⟨⟨_, _, _, _, _, rfl⟩, by rw [look_app (by rw [eD2]; rfl), eD2], by simp, ⟨[], by rw [look_app (by rw [eF2]; rfl), eF2]; rfl, by simp, by simp⟩, c3.push⟩ (fun d sl h' ⟨_, _, e, _⟩ => by simp [e]) (fun d w r sl h' ed ⟨⟨_, _, _, _, _, esl⟩, e1, e2, ⟨gss, e3, gm, gl⟩, c4⟩ => ?_) (fun sl h' ⟨⟨_, _, _, _, _, esl⟩, e1, e2, pa, c4⟩ => ?_)
    · subst esl
      refine ⟨_, rfl, ?_⟩
      have wm : w ∈ ws := by rw [← ed]; simp
      obtain ⟨x0, hx0, hf0⟩ := inj2 w wm
      have gsum : (gss.map List.length).sum ≤ 8 := by
        have := sum_filter_le (f := f) (row := row) (ws := d) (by rw [← ed] at inj1; exact (List.nodup_append.mp inj1).1)
        omega
      have glen : gss.length ≤ 8 := Nat.le_trans (len_le_sum fun gs hg => (gm gs hg).1) gsum
      simp
      refine lc_map (f := W.str) (g := W.str) (fun x => decide (f x = w)) (fun h2 => h2 = h') rfl (fun _ _ => rfl) (by simp; omega) (fun x hx h2 e => ?_) fun h2 e => ?_
      · subst e
        refine ⟨_, rfl, ?_⟩
        have := valW_map (ts := row) (fun x => W.int (f x)) hx
        simp [e1, this]
        by_cases z : f x = w <;> simp [z]
      subst e
      simp [mo, mn, ml, ro, litm]
      have ta2 := (ta.ch (c4.push (t := [LO.lst (List.map W.str (row.filter fun x => decide (f x = w)))])) (by simp))
      simp [ta2.ei, Tab.fs, e3, look_app]
      have gne : row.filter (fun x => decide (f x = w)) ≠ [] := fun z => by
        have : x0 ∈ row.filter (fun x => decide (f x = w)) := List.mem_filter.mpr ⟨hx0, decide_eq_true hf0⟩
        rw [z] at this
        cases this
      have grow : (row.filter fun x => decide (f x = w)).length ≤ row.length := List.length_filter_le _ _
      have := ih (q + 1) (row.filter fun x => decide (f x = w)) _ ta2 (by omega) (by omega) gne (by omega) (nd.filter _) (fun x hx => sub x (List.mem_filter.mp hx).1)
      rw [show ((q + 1 : Nat) : Int) = (q : Int) + 1 by omega] at this
      simp only [tupS, wS] at this
      refine Tr.ok this fun w2 h4 ⟨j, ew, ⟨gss2, e4, gm2, gl2⟩, c5⟩ => ?_
      subst ew
      have e5 := c5.at (o := .lst (gss.map tupS)) (i := H1.length) (by rw [look_app (by rw [e3]; rfl), e3])
      have glen2 : gss2.length ≤ 8 := by have := len_le_sum fun gs hg => (gm2 gs hg).1; omega
      have e6 := c5.at (o := .lst (ws.map W.int)) (i := H3.length) (by rw [look_app (by rw [e2]; rfl), e2])
      have e7 := c5.at (o := .dct (row.map fun x => (Sum.inr x, W.int (f x)))) (i := h1.length) (by rw [look_app (by rw [e1]; rfl), e1])
      simp [e4, e5]
      have nw := lt_of_look e1
      refine ⟨by omega, ?_, ?_, ⟨gss ++ gss2, ?_, ?_, ?_⟩, (c4.push.tr0 c5).put (.inr hF)⟩
      · rw [look_ne (by omega), e7]
      · rw [look_ne (by omega), e6]
      · rw [look_set (by rw [e5]; rfl)]; simp
      · intro gs hg
        rcases List.mem_append.mp hg with hg | hg
        · exact gm gs hg
        · exact ⟨(gm2 gs hg).1, fun x hx => (List.mem_filter.mp ((gm2 gs hg).2 x hx)).1⟩
      · simp; omega
    · subst esl
      obtain ⟨gss, e3, gm, gl⟩ := pa
      exact ⟨H1.length, rfl, ⟨gss, e3, gm, Nat.le_trans gl (sum_filter_le inj1)⟩, c4⟩
end K27
set_option Elab.async false
set_option linter.all false
set_option maxRecDepth 100000
set_option maxHeartbeats 2000000
namespace K27
open PySem PySem.Spec PyProof.Rows L2 Fh Fv TL
theorem p_ranked {h : LH} {i g m k : Nat} {t : Tab} (ta : TabAt h i g m k t) (ok : TOk t) (r4 : t.rules.length ≤ 5) :
    Tr (f_Table_ranked [.ref i] h) (fun w h' => ∃ gss : List (List Str), w = .tup (gss.map tupS) ∧ (∀ gs ∈ gss, gs ≠ [] ∧ ∀ x ∈ gs, x ∈ t.teams) ∧ (gss.map List.length).sum ≤ 8 ∧ Ch [] h h') nEx := by
  have t8 := ok.t8
  rw [Tr_run]
  simp [F_Table_ranked, ta.ei, Tab.fs, sortedTW_S, look_app]
  refine ⟨by omega, ?_⟩
  have ta2 := ta.ch (Ch.app (S := []) (t := [.lst (wS (isort leS t.teams))])) (by simp)
  have nz : isort leS t.teams ≠ [] := fun z => by
    have := isort_len (le := leS) (l := t.teams)
    rw [z] at this
    have := ok.t2
    simp at *
    omega
  refine Tr.ok (p_parted ok 6 0 (isort leS t.teams) _ ta2 (by omega) (by omega) nz (by rw [isort_len]; exact t8) ((isort_perm t.teams).nodup_iff.mpr ok.nd) (fun x hx => isort_mem.mp hx)) fun w h' ⟨j, ew, ⟨gss, e, gm, gl⟩, c⟩ => ?_
  subst ew
  simp [e]
  rw [isort_len] at gl
  exact ⟨gss, rfl, fun gs hg => ⟨(gm gs hg).1, fun x hx => isort_mem.mp ((gm gs hg).2 x hx)⟩, by omega, Ch.app.tr0 c⟩
theorem numS_len9 {n : Nat} (h : n < 1000000000) : (numS n).length ≤ 9 := by
  have := PyProof.Rows.toString_length_le (v := (n : Int)) (k := 9) (by omega) (by omega) (by omega)
  exact this
def Rows (h' : LH) (f n : Nat) : Prop := ∃ rs : List Str, h'[f]? = some (.lst (wS rs)) ∧ rs.length ≤ n ∧ ∀ r ∈ rs, r.length ≤ 200 ∧ PyData.strOk r = true
theorem strOk_join {y : Str} (hy : PyData.strOk y = true) {ss : List Str} (h : ∀ s ∈ ss, PyData.strOk s = true) : PyData.strOk (Txt.join y ss) = true := by
  rw [strOk_tl] at hy ⊢
  refine List.all_eq_true.mpr fun c hc => ?_
  rcases tl_joinL hc with hc | ⟨s, hs, hc⟩
  · exact List.all_eq_true.mp hy c hc
  · have := h s hs
    rw [strOk_tl] at this
    exact List.all_eq_true.mp this c hc
theorem p_told_table {h : LH} {i g m k : Nat} {t : Tab} (ta : TabAt h i g m k t) (ok : TOk t) (r4 : t.rules.length ≤ 5) (tl8 : ∀ x ∈ t.teams, x.length ≤ 8) :
    Tr (f_told_table [.ref i] h) (fun w h' => ∃ x, w = .str x ∧ PyData.strOk x = true ∧ Ch [] h h') nEx := by
  have lit1 : (Str.ofString " ").length = 1 := by decide +kernel
  have lit2 : (Str.ofString "-").length = 1 := by decide +kernel
  have lit3 : (Str.ofString "\n").length = 1 := by decide +kernel
  have ok1 : PyData.strOk (Str.ofString " ") = true := by decide +kernel
  have ok2 : PyData.strOk (Str.ofString "-") = true := by decide +kernel
  have ok3 : PyData.strOk (Str.ofString "\n") = true := by decide +kernel
  rw [Tr_run]
  simp [F_told_table, ta.ei, Tab.fs, look_app]
  have ta2 := ta.ch (Ch.app (S := []) (t := [.lst []])) (by simp)
  refine (p_ranked ta2 ok r4).ok fun w h1 ⟨gss, ew, gm, gl, c1⟩ => ?_
  subst ew
  have cc : Ch [] h h1 := Ch.app.tr0 c1
  have f1 := c1.at (o := .lst []) (i := h.length) (by simp)
  simp
  refine for_map (f := tupS) (fun d sl h' => (∃ p a b c d' e x, sl = [some (.ref i), some (.ref h.length), some (.int (p : Nat)), a, b, c, d', e, x] ∧ p ≤ 1 + (d.map List.length).sum) ∧ Rows h' h.length (d.map List.length).sum ∧ Ch [] h h') ⟨⟨1, _, _, _, _, _, _, rfl, by simp⟩, ⟨[], by rw [f1]; rfl, by simp, by simp⟩, cc⟩ (fun _ _ _ _ => rfl) (fun d gs r sl h' ed ⟨⟨p, _, _, _, _, _, _, esl, pl⟩, ro, c⟩ => ?_) (fun sl h' ⟨⟨p, _, _, _, _, _, _, esl, pl⟩, ⟨rs, e, rl, rk⟩, c⟩ => ?_)
  · subst esl
    have gsm : gs ∈ gss := by rw [← ed]; simp
    obtain ⟨g1, g2⟩ := gm gs gsm
    have dsum : (d.map List.length).sum + gs.length ≤ 8 := by
      rw [← ed] at gl
      simp at gl
      omega
    refine ⟨_, rfl, ?_⟩
    simp [tupS]
    refine for_map (f := W.str) (fun d2 sl h' => (∃ b c d' e x, sl = [some (.ref i), some (.ref h.length), some (.int (p : Nat)), some (.tup (wS gs)), b, c, d', e, x]) ∧ Rows h' h.length ((d.map List.length).sum + d2.length) ∧ Ch [] h h') ⟨⟨_, _, _, _, _, rfl⟩, ro, c⟩ (fun _ _ _ _ => rfl) (fun d2 x r2 sl h' ed2 ⟨⟨_, _, _, _, _, esl⟩, ⟨rs, e, rl, rk⟩, c⟩ => ?_) (fun sl h' ⟨⟨_, _, _, _, _, esl⟩, ⟨rs, e, rl, rk⟩, c⟩ => ?_)
    · subst esl
      refine ⟨_, rfl, ?_⟩
      have xm : x ∈ gs := by rw [← ed2]; simp
      have d2l : d2.length < gs.length := by rw [← ed2]; simp
      have xt := g2 x xm
      have ox := (ok.tn _ xt).ok
      have xl := tl8 _ xt
      have tb := ta.ch c (by simp)
      simp [tb.ei, Tab.fs]
      refine (p_sums (am := t.teams) tb ok ox fun x hx => (ok.tn x hx).ok).ok fun w h2 ⟨a, b, c', d', e', x', y, z, ew, ⟨ba, bb, bc, bd, be, bx, by_, bz⟩, c2⟩ => ?_
      subst ew
      unfold Bd at *
      obtain ⟨a, rfl⟩ := Int.eq_ofNat_of_zero_le ba.1
      obtain ⟨b, rfl⟩ := Int.eq_ofNat_of_zero_le bb.1
      obtain ⟨c', rfl⟩ := Int.eq_ofNat_of_zero_le bc.1
      obtain ⟨d', rfl⟩ := Int.eq_ofNat_of_zero_le bd.1
      obtain ⟨e', rfl⟩ := Int.eq_ofNat_of_zero_le be.1
      obtain ⟨x', rfl⟩ := Int.eq_ofNat_of_zero_le bx.1
      obtain ⟨y, rfl⟩ := Int.eq_ofNat_of_zero_le by_.1
      have ce := c.tr0 c2
      have tb2 := ta.ch ce (by simp)
      have e2 := c2.at e
      simp [tb2.ei, tb2.ek, Tab.fs, lit2, look_app]
      have na := numS_len9 (n := a) (by omega)
      have nb := numS_len9 (n := b) (by omega)
      have nc := numS_len9 (n := c') (by omega)
      have nd := numS_len9 (n := d') (by omega)
      have ne := numS_len9 (n := e') (by omega)
      have nx := numS_len9 (n := x') (by omega)
      have ny := numS_len9 (n := y) (by omega)
      have np := numS_len9 (n := p) (by omega)
      have v0 : valW (noughts t.teams) (.inr x) = some (.int 0) := valW_map (fun _ => .int 0) xt
      refine ⟨by omega, by omega, by omega, by simp only [Str.length_append, lit2]; omega, by omega, ?_⟩
      refine lc_map (f := fun n : Nat => W.int n) (g := fun n => .str (numS n)) (xs := [a, b, c', d']) (fun _ => true) (fun h3 => h3 = h2 ++ [LO.lst [W.str (numS p), W.str x]]) rfl (fun _ _ => rfl) (by simp) (fun n hn h3 e3 => ?_) fun h3 e3 => ?_
      · subst e3
        refine ⟨_, rfl, ?_⟩
        simp only [List.mem_cons, List.not_mem_nil, or_false] at hn
        simp
        rcases hn with rfl | rfl | rfl | rfl <;> omega
      subst e3
      rw [filter_yes]
      simp [tb2.ei, tb2.ek, Tab.fs, lit1, look_app, v0, e2, Nat.add_assoc, txts]
      and_intros <;> first | omega | (simp only [Str.length_append, lit2]; omega) | exact (ce.push).put (.inr (by omega)) | skip
      refine ⟨rs ++ [Txt.join (Str.ofString " ") [numS p, x, numS a, numS b, numS c', numS d', numS e' ++ Str.ofString "-" ++ numS x', numS y]], ?_, by simp; omega, fun r hr => ?_⟩
      · rw [look_set (by rw [look_app (by rw [e2]; rfl), e2]; rfl)]
        simp
      · rcases List.mem_append.mp hr with hr | hr
        · exact rk r hr
        · rw [List.mem_singleton.mp hr]
          have jl := join_len " " [numS p, x, numS a, numS b, numS c', numS d', numS e' ++ Str.ofString "-" ++ numS x', numS y]
          simp only [List.map_cons, List.map_nil, List.sum_cons, List.sum_nil, Str.length_append, List.length_cons, List.length_nil, lit1, lit2] at jl
          refine ⟨by omega, strOk_join ok1 fun s hs => ?_⟩
          simp only [List.mem_cons, List.not_mem_nil, or_false] at hs
          have so := strOk_numS
          rcases hs with rfl | rfl | rfl | rfl | rfl | rfl | rfl | rfl
          · exact so _
          · exact ox
          · exact so _
          · exact so _
          · exact so _
          · exact so _
          · rw [strOk_app, strOk_app, so, so, ok2]; rfl
          · exact so _
    · subst esl
      simp
      refine ⟨⟨p + gs.length, by simp, by omega⟩, ⟨rs, e, by omega, rk⟩, c⟩
  · subst esl
    simp [e, lit3]
    have := sum_le Str.length 200 (xs := rs) (fun r hr => (rk r hr).1)
    exact ⟨by omega, strOk_join ok3 fun r hr => (rk r hr).2, c⟩
end K27
set_option Elab.async false
set_option linter.all false
set_option maxRecDepth 100000
set_option maxHeartbeats 400000
/-! Fw4: more rules; no run makes a lambda -/
namespace Fv
open PySem PySem.Spec PyProof.Rows L2 Fh
variable {E : Emb}
class EvP (fs : List ((Sl → M W) × (Sl → M W))) : Prop where
  p : ∀ (E : Emb) sl sl' (acc : List (Key × W)) (h : LH), E.n ≤ h.length → E.S sl sl' → RM E E.RW (dispA sl fs acc h) (dispA sl' fs (acc.map (rnK E.ρ)) (E.em h))
theorem foldPut_rn {ρ : Nat → Nat} : ∀ {acc a : List (Key × W)}, (acc.map (rnK ρ)).foldl (fun a kv => putW a kv.1 kv.2) (a.map (rnK ρ)) = (acc.foldl (fun a kv => putW a kv.1 kv.2) a).map (rnK ρ)
  | [], _ => rfl
  | kv :: acc, a => by
    rw [List.map_cons, List.foldl_cons, List.foldl_cons]
    show List.foldl _ (putW (a.map (rnK ρ)) kv.1 (rnW ρ kv.2)) _ = _
    rw [putW_rn, foldPut_rn]
instance : EvP [] := ⟨fun E sl sl' acc h l s => by
  simp only [dispA, List.length_map]
  split
  · obtain ⟨q1, q2⟩ := E.pushed l (o := .dct (acc.foldl (fun a kv => putW a kv.1 kv.2) [])) (o' := .dct ((acc.map (rnK E.ρ)).foldl (fun a kv => putW a kv.1 kv.2) [])) (by rw [show ([] : List (Key × W)) = [].map (rnK E.ρ) from rfl, foldPut_rn]; rfl)
    have q3 := congrArg Prod.snd q1
    simp only at q3
    exact ⟨q2, _, by rw [q3], congrArg Prod.fst q1⟩
  · trivial⟩
instance {fk fv r} [EvW fk] [EvW fv] [EvP r] : EvP ((fk, fv) :: r) := ⟨fun E sl sl' acc h l s => RM.bnd (EvW.p E sl sl' h l s) fun a b h1 ra l1 => RM.bnd (EvW.p E sl sl' h1 l1 s) fun a2 b2 h2 r2 l2 => RM.bnd (RA := E.RE) (RM.opt l2 fun x e => by cases ra; exact ⟨_, keyW_rn e, rfl⟩) fun k k2 h3 rk l3 => by
  cases rk; cases r2
  have := EvP.p (fs := r) E sl sl' (acc ++ [(k, a2)]) h3 l3 s
  rw [List.map_append] at this
  exact this⟩
instance {fs} [EvP fs] : EvW (fDisp fs) := ⟨fun E sl sl' h l s => EvP.p (fs := fs) E sl sl' [] h l s⟩
instance : EvW fDct0 := ⟨fun E sl sl' h l s => RM.opt2 fun x h1 e => by
  cases e
  obtain ⟨q1, q2⟩ := E.pushed l (o := .dct []) (o' := .dct []) rfl
  exact ⟨_, by rw [q1], rfl, q2⟩⟩
theorem mapM_key_rn {ρ : Nat → Nat} : ∀ {kvs : List (Key × W)}, (kvs.map (rnK ρ)).mapM (fun kv => keyI kv.1) = kvs.mapM fun kv => keyI kv.1
  | [] => rfl
  | kv :: kvs => by
    rw [List.map_cons, List.mapM_cons, List.mapM_cons, mapM_key_rn]
    rfl
instance {fa} [EvW fa] : EvW (fSortedDR fa) := ⟨fun E sl sl' h l s => RM.bnd (EvW.p E sl sl' h l s) fun a b h1 r l1 => RM.opt2 fun x h2 e => by
  cases r
  cases a with
  | ref i =>
    simp only [sortedDRW] at e
    cases e2 : h1[i]? with
    | none => rw [e2] at e; cases e
    | some o =>
      rw [e2] at e
      have g := E.get l1 e2
      cases o <;> first | (cases e; done) | skip
      rename_i kvs
      simp only at e
      cases e3 : kvs.mapM (fun kv => keyI kv.1) with
      | none => rw [e3] at e; cases e
      | some ks =>
        rw [e3, Option.bind_some] at e
        obtain ⟨c, e⟩ := ite_some e
        cases e
        obtain ⟨q1, q2⟩ := E.pushed l1 (o := .lst ((isort geI ks).map W.int)) (o' := .lst ((isort geI ks).map W.int)) (by simp only [rnO]; rw [map_ints])
        refine ⟨_, ?_, rfl, q2⟩
        simp only [Emb.w, rnW, sortedDRW, g, rnO, mapM_key_rn, e3, Option.bind_some]
        rw [if_pos c, q1]
        rfl
  | _ => cases e⟩
instance {fd f} [EvW fd] [EvW f] : EvW (fLock fd f) := ⟨fun E sl sl' h l s => by
  have x := EvW.p (f := fd) E sl sl' h l s
  unfold fLock
  cases e : fd sl h with
  | bad => trivial
  | ex _ _ _ => trivial
  | ok w h0 =>
    rw [e] at x
    obtain ⟨l0, b, e2, r⟩ := x
    cases r
    rw [e2]
    cases w <;> try trivial
    rename_i i
    simp only [Emb.w, rnW]
    cases e3 : h[i]? with
    | none => trivial
    | some o =>
      have g := E.get l e3
      cases o <;> try trivial
      rename_i kvs
      simp only [g, rnO]
      obtain ⟨q1, q2⟩ := E.put l e3 (.dcl kvs)
      have y := EvW.p (f := f) E sl sl' (h.set i (.dcl kvs)) q2 s
      rw [← q1] at y
      simp only [rnO] at y
      cases e4 : f sl (h.set i (.dcl kvs)) with
      | bad => trivial
      | ex _ _ _ => trivial
      | ok w1 h1 =>
        rw [e4] at y
        obtain ⟨l1, b1, e5, r1⟩ := y
        cases r1
        rw [e5]
        simp only
        cases e6 : h1[i]? with
        | none => trivial
        | some o1 =>
          have g1 := E.get l1 e6
          cases o1 <;> try trivial
          rename_i kvs1
          simp only [g1, rnO]
          obtain ⟨q3, q4⟩ := E.put l1 e6 (.dct kvs1)
          simp only [rnO] at q3
          exact ⟨q4, _, by rw [← q3], rfl⟩⟩
instance {sub txt fe} [EvW fe] : EvW (fTold sub txt fe) := ⟨fun E sl sl' h l s => by
  have x := EvW.p (f := fe) E sl sl' h l s
  unfold fTold
  cases e : fe sl h with
  | bad => trivial
  | ok w h1 => rw [e] at x; obtain ⟨l1, b, e2, r⟩ := x; rw [e2]; exact ⟨l1, b, rfl, r⟩
  | ex c p h1 =>
    rw [e] at x
    obtain ⟨l1, e2⟩ := x
    rw [e2]
    simp only
    cases sub c with
    | none => trivial
    | some b =>
      cases b
      · exact ⟨l1, rfl⟩
      · exact ⟨l1, _, rfl, rfl⟩⟩
/-! ### no lambdas -/
mutual
theorem rn_id : ∀ w : W, rnW id w = w
  | .non => rfl
  | .bl _ => rfl
  | .int _ => rfl
  | .str _ => rfl
  | .ref _ => rfl
  | .tup xs => by rw [rnW, rns_id]
theorem rns_id : ∀ ws : List W, rnWs id ws = ws
  | [] => rfl
  | x :: xs => by rw [rnWs, rn_id, rns_id]
end
theorem map_id2 (ws : List W) : ws.map (rnW id) = ws := by rw [← rnWs_eq, rns_id]
theorem mapK_id {α : Type} (ws : List (α × W)) : ws.map (rnK id) = ws := by
  conv => rhs; rw [← List.map_id ws]
  exact List.map_congr_left fun kv _ => by unfold rnK; rw [rn_id]; rfl
theorem rnO_id {o : LO} (h : ∀ k ws, o ≠ .lam k ws) : rnO id o = o := by
  cases o <;> simp only [rnO, map_id2, mapK_id] 
  exact absurd rfl (h _ _)
def Emb.calm : Emb where
  n := 0
  ρ := id
  em := fun t => t.map (rnO id)
  get := fun _ e => by rw [id, List.getElem?_map, e]; rfl
  set := fun o _ _ => by rw [id, List.map_set]
  push := fun o _ => by rw [List.map_append]; rfl
  len := fun _ => by simp
theorem calm_em {h : LH} (n : noLam h = true) : Emb.calm.em h = h := by
  show h.map (rnO id) = h
  conv => rhs; rw [← List.map_id h]
  refine List.map_congr_left fun o ho => rnO_id fun k ws e => ?_
  have := List.all_eq_true.mp n o ho
  subst e
  cases this
theorem calm_no {h : LH} (e : Emb.calm.em h = h) : noLam h = true := by
  refine List.all_eq_true.mpr fun o ho => ?_
  have e : h.map (rnO id) = h := e
  obtain ⟨i, hi, rfl⟩ := List.getElem_of_mem ho
  have := congrArg (fun l : LH => l[i]?) e
  simp only [List.getElem?_map, List.getElem?_eq_getElem hi, Option.map_some, Option.some.injEq] at this
  cases z : h[i] with
  | lam k ws => rw [z] at this; cases this
  | _ => rfl
theorem Tr.calm {f : List W → M W} [EvF f] {ws : List W} {h : LH} {Q : W → LH → Prop} {X : EQ} (t : Tr (f ws h) Q X) (n : noLam h = true) :
    Tr (f ws h) (fun w h' => Q w h' ∧ noLam h' = true) (fun c p h' => X c p h' ∧ noLam h' = true) := by
  have x := EvF.p (f := f) Emb.calm ws h (Nat.zero_le _)
  rw [calm_em n, show ws.map Emb.calm.w = ws from map_id2 ws] at x
  cases e : f ws h with
  | bad => rw [e] at t; exact t
  | ok w h1 =>
    rw [e] at t x
    obtain ⟨_, b, e2, r⟩ := x
    injection e2 with _ e3
    exact ⟨t, calm_no e3.symm⟩
  | ex c p h1 =>
    rw [e] at t x
    obtain ⟨_, e2⟩ := x
    injection e2 with _ _ e3
    exact ⟨t, calm_no e3.symm⟩
end Fv
set_option Elab.async false
set_option linter.all false
set_option maxRecDepth 100000
set_option maxHeartbeats 2000000
set_option synthInstance.maxHeartbeats 2000000
set_option synthInstance.maxSize 100000
namespace K27
open PySem PySem.Spec PyProof.Rows L2 Fh Fv TL
instance : EvS F_is_word := by unfold F_is_word; infer_instance
instance : EvS F_is_count := by unfold F_is_count; infer_instance
instance : EvS F_is_name := by unfold F_is_name; infer_instance
instance : EvS F_doubled := by unfold F_doubled; infer_instance
instance : EvS F_Season_d_initd_ := by unfold F_Season_d_initd_; infer_instance
instance : EvS F_Season_lay := by unfold F_Season_lay; infer_instance
instance : EvS F_Season_put := by unfold F_Season_put; infer_instance
instance : EvS F_read_game := by unfold F_read_game; infer_instance
instance : EvS F_read := by unfold F_read; infer_instance
instance : EvS F_told := by unfold F_told; infer_instance
instance : EvS F_Table_d_initd_ := by unfold F_Table_d_initd_; infer_instance
instance : EvS F_Table_game := by unfold F_Table_game; infer_instance
instance : EvS F_Table_sums := by unfold F_Table_sums; infer_instance
instance : EvS F_Table_worth_by := by unfold F_Table_worth_by; infer_instance
instance : EvS F_first_met := by unfold F_first_met; infer_instance
instance {rec : List W → M W} [EvF rec] : EvS (F_Table_parted rec) := by unfold F_Table_parted; infer_instance
theorem ev_Table_parted : ∀ n, EvF (f_Table_parted n)
  | 0 => by unfold f_Table_parted; infer_instance
  | n + 1 => by have := ev_Table_parted n; unfold f_Table_parted; infer_instance
instance {n : Nat} : EvF (f_Table_parted n) := ev_Table_parted n
instance : EvS F_Table_ranked := by unfold F_Table_ranked; infer_instance
instance : EvS F_Season_table := by unfold F_Season_table; infer_instance
instance : EvS F_told_table := by unfold F_told_table; infer_instance
instance : EvS F_Desk_d_initd_ := by unfold F_Desk_d_initd_; infer_instance
instance : EvS F_Desk_note := by unfold F_Desk_note; infer_instance
instance : EvS F_Desk_begin := by unfold F_Desk_begin; infer_instance
instance : EvS F_Desk_put := by unfold F_Desk_put; infer_instance
instance : EvS F_Desk_table := by unfold F_Desk_table; infer_instance
instance : EvS F_Desk_undo := by unfold F_Desk_undo; infer_instance
instance : EvS F_Desk_redo := by unfold F_Desk_redo; infer_instance
instance : EvS F_law_dice := by unfold F_law_dice; infer_instance
instance : EvS F_law_roll := by unfold F_law_roll; infer_instance
instance : EvS F_law_rounds := by unfold F_law_rounds; infer_instance
instance : EvS F_law_table := by unfold F_law_table; infer_instance
end K27
set_option Elab.async false
set_option linter.all false
set_option maxRecDepth 100000
set_option maxHeartbeats 2000000
namespace K27
open PySem PySem.Spec PyProof.Rows L2 Fh Fv TL
theorem sF1 : sub_FixtureFault (Str.ofString "BadText") = some true := by decide +kernel
theorem sF2 : sub_FixtureFault (Str.ofString "BadRule") = some true := by decide +kernel
theorem sF3 : sub_FixtureFault (Str.ofString "BadTeams") = some true := by decide +kernel
theorem sB1 : sub_BadDeed (Str.ofString "BadDeed") = some true := by decide +kernel
/-- texts shown -/
def IsSea (t : Str) (s : Sea) : Prop := Gd s ∧ s.rules = rules4 ∧ t = s.text
def Good (t : Str) : Prop := t = Str.ofString "" ∨ ∃ s, IsSea t s
open Classical in
noncomputable def seaOf (t : Str) : Option Sea := if h : ∃ s, IsSea t s then some h.choose else none
theorem seaOf_some {t : Str} {s : Sea} (e : seaOf t = some s) : IsSea t s := by
  unfold seaOf at e
  split at e
  · rename_i h; cases e; exact h.choose_spec
  · cases e
theorem seaOf_none {t : Str} (g : Good t) (e : seaOf t = none) : t = Str.ofString "" := by
  unfold seaOf at e
  split at e
  · cases e
  · rename_i h
    rcases g with g | g
    · exact g
    · exact absurd g h
theorem text_ok {s : Sea} (gd : Gd s) (r4 : s.rules = rules4) : PyData.strOk s.text = true := by
  refine strOk_join (by decide +kernel) fun r hr => ?_
  unfold Sea.rows at hr
  rcases List.mem_append.mp hr with hr | hr
  · simp only [List.mem_cons, List.not_mem_nil, or_false] at hr
    rcases hr with rfl | rfl | rfl
    · rw [strOk_app, strOk_join (by decide +kernel) fun x hx => (gd.tn x hx).ok]; decide +kernel
    · rw [strOk_app, strOk_join (by decide +kernel) fun x hx => by obtain ⟨n, _, rfl⟩ := List.mem_map.mp hx; exact strOk_numS n]; decide +kernel
    · rw [strOk_app, strOk_join (by decide +kernel) fun x hx => by rw [r4] at hx; exact (r10 x hx).1]; decide +kernel
  · obtain ⟨l, hl, hr⟩ := List.mem_flatten.mp hr
    obtain ⟨gs, hg, rfl⟩ := List.mem_map.mp hl
    rcases List.mem_cons.mp hr with rfl | hr
    · decide +kernel
    · obtain ⟨g, hg2, rfl⟩ := List.mem_map.mp hr
      have go := gd.gs gs hg g hg2
      rw [game_join]
      refine strOk_join (by decide +kernel) fun x hx => ?_
      unfold Game.ws at hx
      rcases List.mem_append.mp hx with hx | hx
      · simp only [List.mem_cons, List.not_mem_nil, or_false] at hx
        rcases hx with rfl | rfl | rfl
        · exact (gd.tn _ go.h).ok
        · decide +kernel
        · exact (gd.tn _ go.a).ok
      · cases esc : g.sc with
        | none => rw [esc] at hx; cases hx
        | some p =>
          rw [esc] at hx
          simp only [scWs, List.mem_cons, List.not_mem_nil, or_false] at hx
          rcases hx with rfl | rfl <;> exact strOk_numS _
theorem Good.ok {t : Str} (g : Good t) : PyData.strOk t = true ∧ t.length ≤ 4000 := by
  rcases g with rfl | ⟨s, gd, r4, rfl⟩
  · exact ⟨by decide +kernel, by have : (Str.ofString "").length = 0 := by decide +kernel
                                 omega⟩
  · exact ⟨text_ok gd r4, text_len gd.sm⟩
theorem p_read0 {h : LH} : Tr (f_read [.str (Str.ofString "")] h) (fun _ _ => False) (fun d p h' => d = Str.ofString "BadText" ∧ Ch [] h h') := run0x (by decide +kernel) (by decide +kernel)
theorem p_readT {h : LH} {t : Str} (g : Good t) : Tr (f_read [.str t] h) (fun w h' => ∃ s i j, seaOf t = some s ∧ w = .ref i ∧ SeaAt h' i j s ∧ h.length ≤ i ∧ h.length ≤ j ∧ Ch [] h h') (fun d p h' => seaOf t = none ∧ d = Str.ofString "BadText" ∧ Ch [] h h') := by
  cases e : seaOf t with
  | none =>
    rw [seaOf_none g e]
    exact p_read0.imp (fun _ _ z => z.elim) fun _ _ _ z => ⟨rfl, z⟩
  | some s =>
    obtain ⟨gd, r4, rfl⟩ := seaOf_some e
    exact (p_read gd).ok fun w h' ⟨i, j, z⟩ => ⟨s, i, j, rfl, z⟩
/-- the text of the table -/
def C_tab : FS := sRt (fCall 1 (f_told_table) (aCons (fMeth "Season" "table" 1 f_Season_table (fCall 1 (f_read) (aCons (fVar 0) aNil)) aNil) aNil))
instance : EvS C_tab := by unfold C_tab; infer_instance
theorem p_tab0 {h : LH} {t : Str} (g : Good t) : Tr (runF 1 C_tab [.str t] h) (fun w h' => ∃ x, w = .str x ∧ PyData.strOk x = true ∧ seaOf t ≠ none ∧ Ch [] h h') (fun d p h' => seaOf t = none ∧ d = Str.ofString "BadText" ∧ Ch [] h h') := by
  rw [Tr_run]
  simp [C_tab]
  refine (p_readT g).imp (fun w h1 ⟨s, i, j, e, ew, sa, hi, hj, c1⟩ => ?_) fun _ _ _ z => z
  obtain ⟨gd, r4, _⟩ := seaOf_some e
  subst ew
  simp [sa.1, Sea.fs]
  refine (p_table sa gd (by rw [r4]; exact fun _ z => z)).ok fun w h2 ⟨ti, ew, g, m, k, tb, ta, ok, et, ew2, er, gn, hg, dg, c2⟩ => ?_
  subst ew
  refine (p_told_table ta ok (by rw [er, r4]; decide) (by rw [et]; exact gd.sm.tl)).ok fun w h3 ⟨x, ew, ox, c3⟩ => ?_
  subst ew
  exact ⟨x, rfl, ox, by rw [e]; simp, (c1.tr c2).tr c3⟩
theorem p_tab {t : Str} (g : Good t) : ∃ X : Option Str, (∀ x, X = some x → PyData.strOk x = true) ∧ ∀ h : LH, Tr (runF 1 C_tab [.str t] h) (fun w h' => ∃ x, X = some x ∧ w = .str x ∧ Ch [] h h') (fun d p h' => X = none ∧ d = Str.ofString "BadText" ∧ Ch [] h h') := by
  cases e : seaOf t with
  | none =>
    refine ⟨none, by simp, fun h => (p_tab0 g).imp (fun w h' ⟨x, _, _, n, _⟩ => absurd e n) fun d p h' z => ⟨rfl, z.2⟩⟩
  | some s =>
    have k := p_tab0 (h := []) g
    cases r : runF 1 C_tab [.str t] [] with
    | bad => rw [r] at k; exact k.elim
    | ex d p h' => rw [r] at k; rw [k.1] at e; cases e
    | ok w h' =>
      rw [r] at k
      obtain ⟨x, rfl, ox, _, _⟩ := k
      refine ⟨some x, fun y hy => by cases hy; exact ox, fun h => ?_⟩
      exact (run0 (f := runF 1 C_tab) (w := .str x) (ws := [.str t]) rfl rfl (by rw [r]; simp [okN])).ok fun w h' ⟨e1, c⟩ => ⟨x, rfl, e1, c⟩
end K27
set_option Elab.async false
set_option linter.all false
set_option maxRecDepth 100000
set_option maxHeartbeats 2000000
namespace K27
open PySem PySem.Spec PyProof.Rows L2 Fh Fv TL
structure DeskAt (h : LH) (i d u : Nat) (shown : Str) (deeds undone : List (Str × Str)) : Prop where
  ei : h[i]? = some (.ins "Desk" [("shown", .str shown), ("deeds", .ref d), ("undone", .ref u)])
  ed : h[d]? = some (.lst (deeds.map pairW))
  eu : h[u]? = some (.lst (undone.map pairW))
  ne : d ≠ u
  od : ∀ p ∈ deeds, PyData.strOk p.1 = true ∧ PyData.strOk p.2 = true
  ou : ∀ p ∈ undone, PyData.strOk p.1 = true ∧ PyData.strOk p.2 = true
  ld : deeds.length ≤ 100
  lu : undone.length ≤ 100
theorem DeskAt.ch {S : List Nat} {h h' : LH} {i d u : Nat} {x : Str} {a b : List (Str × Str)} (k : DeskAt h i d u x a b) (c : Ch S h h') (n : ∀ z ∈ S, z ≠ i ∧ z ≠ d ∧ z ≠ u) : DeskAt h' i d u x a b :=
  ⟨c.at k.ei (fun z => (n _ z).1 rfl), c.at k.ed (fun z => (n _ z).2.1 rfl), c.at k.eu (fun z => (n _ z).2.2 rfl), k.ne, k.od, k.ou, k.ld, k.lu⟩
theorem DeskAt.nei {h : LH} {i d u : Nat} {x : Str} {a b : List (Str × Str)} (k : DeskAt h i d u x a b) : i ≠ d ∧ i ≠ u := ⟨fun z => (by subst z; have := k.ei; rw [k.ed] at this; cases this), fun z => (by subst z; have := k.ei; rw [k.eu] at this; cases this)⟩
theorem pairs_pw {ps : List (Str × Str)} (h : ∀ p ∈ ps, PyData.strOk p.1 = true ∧ PyData.strOk p.2 = true) : pws 7 (ps.map pairW) = true := by
  rw [pws_all, List.all_map, List.all_eq_true]
  intro p hp
  simp [pairW, h p hp]
variable {h : LH} {i d u : Nat} {shown : Str} {deeds undone : List (Str × Str)}
/-- noted: a deed done -/
def Noted (h : LH) (i d u : Nat) (shown x : Str) (deeds : List (Str × Str)) (h' : LH) : Prop := shown ≠ x ∧ ∃ u', DeskAt h' i d u' x (deeds ++ [(shown, x)]) [] ∧ h.length ≤ u' ∧ Ch [i, d] h h'
theorem p_note {x : Str} (k : DeskAt h i d u shown deeds undone) (os : PyData.strOk shown = true) (ox : PyData.strOk x = true) (lx : x.length ≤ 4000) (l : deeds.length < 100) :
    Tr (f_Desk_note [.ref i, .str x] h) (fun w h' => w = .non ∧ Noted h i d u shown x deeds h') (fun c p h' => shown = x ∧ c = Str.ofString "BadDeed" ∧ Ch [] h h') := by
  obtain ⟨n1, n2⟩ := k.nei
  have ei := k.ei
  have ed := k.ed
  have lk : ∀ o, (h.set d o)[i]? = h[i]? := fun o => look_ne (Ne.symm n1)
  have lx2 : ¬ (4000 < x.length) := by omega
  rw [Tr_run]
  simp [F_Desk_note, ei, ed, os, ox, lk, look_app]
  refine ⟨fun e => ⟨e.symm, .refl⟩, fun ne => ⟨by omega, fun z => absurd z (by omega), fun _ => ⟨by omega, ?_⟩⟩⟩
  have l0 := lt_of_look ei
  have l1 := lt_of_look ed
  have e1 : ∀ t, ((h.set d (.lst (deeds.map pairW ++ [.tup [.str shown, .str x]]))) ++ t)[i]? = h[i]? := fun t => by rw [look_app (by rw [lk, ei]; rfl), lk]
  have e2 : ∀ t o, (((h.set d (.lst (deeds.map pairW ++ [.tup [.str shown, .str x]]))) ++ t).set i o)[i]? = some o := fun t o => look_set (by rw [e1, ei]; rfl)
  simp [e1, e2, ei, List.set_set]
  refine ⟨fun z => ne z.symm, h.length, ⟨look_set (by rw [e1, ei]; rfl), ?_, ?_, by omega, fun p hp => ?_, by simp, by simp; omega, by simp⟩, Nat.le_refl _, (Ch.set (by simp)).push.put (.inl (by simp))⟩
  · rw [look_ne n1, look_app (by rw [look_set (by rw [ed]; rfl)]; rfl), look_set (by rw [ed]; rfl)]
    simp [pairW]
  · rw [look_ne (by omega)]; simp
  · rcases List.mem_append.mp hp with hp | hp
    · exact k.od p hp
    · rw [List.mem_singleton.mp hp]; exact ⟨os, ox⟩
theorem lay_tell {b c : Bool} {q : Nat} {H : LH} {R : W → LH → Prop} {E : EQ} (eS : H[q]? = some (.ins "Season" ((sea0 b c).fs (q + 1)))) (cH : Ch [] h H) (hq : h.length ≤ q) (fin : ∀ h2, Ch [] h h2 → R (.str (sea0 b c).text) h2) :
    Tr (f_Season_lay [.ref q, layW (prs b c)] H) (fun _ h2 => Tr (f_told [.ref q] h2) R E) E := by
  refine (p_lay (s := sea0 b c) eS (by cases b <;> cases c <;> decide) (fun gs hg => by obtain ⟨p, rfl, _⟩ := prs_one b c gs hg; simp)).ok fun w h3 ⟨ew, j', sa, _, c3⟩ => ?_
  have ch := cH.trans c3 (by simp; exact hq)
  refine (p_told sa (sea0_gd b c).sm).ok fun w h4 ⟨ew, c4⟩ => ?_
  subst ew
  exact fin _ (ch.tr c4)
theorem p_begin {b c : Bool} {tk : Nat} (k : DeskAt h i d u shown deeds undone) (os : PyData.strOk shown = true) (l : deeds.length < 100) (et : h[tk]? = some (.lst (wS (tms b)))) :
    Tr (f_Desk_begin [.ref i, .ref tk, .bl c] h) (fun w h' => w = .non ∧ Noted h i d u shown (sea0 b c).text deeds h') (fun c' p h' => shown = (sea0 b c).text ∧ c' = Str.ofString "BadDeed" ∧ Ch [] h h') := by
  have gd := sea0_gd b c
  rw [Tr_run]
  simp [F_Desk_begin]
  refine (p_circle et).ok fun w h1 ⟨ew, c1⟩ => ?_
  subst ew
  have e1 := c1.at et
  simp [e1, look_app, Tr_run (N := 4) (fb := F_Season_d_initd_), F_Season_d_initd_, List.set_append]
  have R : ∀ c h3, Ch [] h h3 → Tr (f_read [.str (sea0 b c).text] h3) (fun x h_4 =>
      (match h_4[i]? with
        | some (LO.ins c' fs) => decide (c' = Str.ofString "Desk") && (List.lookup (Str.ofString "note") fs).isNone
        | x => false) = true ∧ Tr (f_Desk_note [W.ref i, .str (sea0 b c).text] h_4) (fun w h_5 => Noted h i d u shown (sea0 b c).text deeds h_5)
          fun c_1 p h_5 => shown = (sea0 b c).text ∧ c_1 = Str.ofString "BadDeed" ∧ Ch [] h h_5) nEx := fun c h3 c3 => by
    have gd := sea0_gd b c
    refine (p_read gd).ok fun w h4 ⟨_, _, _, _, _, _, c4⟩ => ?_
    have c5 := c3.tr c4
    have k5 := k.ch c5 (by simp)
    simp [k5.ei]
    refine (p_note k5 os (text_ok gd rfl) (text_len gd.sm) l).imp (fun w h6 ⟨_, n1, u', k6, hu, c6⟩ => ⟨n1, u', k6, Nat.le_trans c5.len hu, (c5.mono (by simp)).tr c6⟩) fun c' p h6 ⟨e, e2, c6⟩ => ⟨e, e2, c5.tr c6⟩
  refine ⟨fun hc => ?_, fun hc => ?_⟩
  · subst hc
    refine p_twice.ok fun w h2 ⟨ew, c2⟩ => ?_
    subst ew
    have cH : Ch [] h h2 := c1.push.tr c2
    have eS : h2[h1.length]? = some (.ins "Season" ((sea0 b true).fs (h1.length + 1))) := c2.at (by simp [Sea.fs, sea0, rules4])
    exact lay_tell eS cH c1.len fun h3 c3 => (R true h3 c3).ok fun _ _ z => z
  · subst hc
    exact lay_tell (by simp [Sea.fs, sea0, rules4]) c1.push c1.len fun h3 c3 => (R false h3 c3).ok fun _ _ z => z
theorem p_begin1 {tk : Nat} {c : Bool} (k : DeskAt h i d u shown deeds undone) (et : h[tk]? = some (.lst tA)) :
    Tr (f_Desk_begin [.ref i, .ref tk, .bl c] h) (fun _ _ => False) (fun c' p h' => c' = Str.ofString "BadDeed" ∧ Ch [] h h') := by
  rw [Tr_run]
  simp [F_Desk_begin]
  refine (p_circle1 et).imp (fun _ _ z => z.elim) fun c' p h1 ⟨e, c1⟩ => ?_
  subst e
  simp [sF3, c1]
/-- what putting goals in makes of a text -/
noncomputable def putT (t : Str) (k : Nat) (ho aw : Str) (a b : Nat) : Option Str := (seaOf t).bind fun s => (putS s k ho aw a b).map Sea.text
theorem putS_rules {s s' : Sea} {k a b : Nat} {ho aw : Str} (e : putS s k ho aw a b = some s') : s'.rules = s.rules := by
  unfold putS at e
  cases eg : s.rounds[k]? with
  | none => rw [eg] at e; cases e
  | some gs =>
    rw [eg] at e
    simp only at e
    cases er : putR ho aw a b gs with
    | none => rw [er] at e; cases e
    | some gs' => rw [er] at e; cases e; rfl
theorem putT_good {t x : Str} {k a b : Nat} {ho aw : Str} (la : a ≤ 999999) (lb : b ≤ 999999) (e : putT t k ho aw a b = some x) : Good x := by
  unfold putT at e
  cases es : seaOf t with
  | none => rw [es] at e; cases e
  | some s =>
    rw [es, Option.bind_some] at e
    cases ep : putS s k ho aw a b with
    | none => rw [ep] at e; cases e
    | some s' =>
      rw [ep] at e
      cases e
      obtain ⟨gd, r4, _⟩ := seaOf_some es
      exact .inr ⟨s', putS_gd gd la lb ep, by rw [putS_rules ep, r4], rfl⟩
/-- read, put and told -/
theorem p_rput {t : Str} {k a b : Nat} {ho aw : Str} {R : W → LH → Prop} {X : EQ} (g : Good t) (oh : PyData.strOk ho = true) (oa : PyData.strOk aw = true) (la : a ≤ 999999) (lb : b ≤ 999999)
    (fin : ∀ x si sj s' h1, putT t k ho aw a b = some x → x = s'.text → Gd s' → SeaAt h1 si sj s' → h.length ≤ si → h.length ≤ sj → Ch [] h h1 → R (.ref si) h1)
    (bad : ∀ c p h1, putT t k ho aw a b = none → c = Str.ofString "BadText" ∨ c = Str.ofString "BadRule" → Ch [] h h1 → X c p h1) :
    Tr (f_read [.str t] h) (fun w h1 => ∃ si sj s, w = .ref si ∧ SeaAt h1 si sj s ∧ Tr (f_Season_put [w, .int (k : Nat), .str ho, .str aw, .int (a : Nat), .int (b : Nat)] h1) (fun _ h2 => R w h2) X) X := by
  refine (p_readT g).imp (fun w h1 ⟨s, si, sj, es, ew, sa, hi, hj, c1⟩ => ?_) fun c p h1 ⟨e, ec, c1⟩ => bad c p h1 (by unfold putT; rw [e]; rfl) (.inl ec) c1
  subst ew
  obtain ⟨gd, r4, rfl⟩ := seaOf_some es
  refine ⟨si, sj, s, rfl, sa, (p_put sa gd oh oa la lb).imp (fun w h2 ⟨s', ep, ew, sa2, c2⟩ => ?_) fun c p h2 ⟨ep, ec, c2⟩ => bad c p h2 (by unfold putT; rw [es, Option.bind_some, ep]; rfl) (.inr ec) (c1.tr c2)⟩
  exact fin s'.text si sj s' h2 (by unfold putT; rw [es, Option.bind_some, ep]; rfl) rfl (putS_gd gd la lb ep) sa2 hi hj (c1.trans c2 (by simpa using hj))
theorem p_dput {k a b : Nat} {ho aw : Str} (dk : DeskAt h i d u shown deeds undone) (g : Good shown) (oh : PyData.strOk ho = true) (oa : PyData.strOk aw = true) (la : a ≤ 999999) (lb : b ≤ 999999) (l : deeds.length < 100) :
    Tr (f_Desk_put [.ref i, .int (k : Nat), .str ho, .str aw, .int (a : Nat), .int (b : Nat)] h) (fun w h' => ∃ x, putT shown k ho aw a b = some x ∧ w = .non ∧ Noted h i d u shown x deeds h') (fun c' p h' => (putT shown k ho aw a b = none ∨ putT shown k ho aw a b = some shown) ∧ c' = Str.ofString "BadDeed" ∧ Ch [] h h') := by
  have os := g.ok.1
  rw [Tr_run]
  simp [F_Desk_put, dk.ei]
  refine (p_rput (k := k) (a := a) (b := b) (ho := ho) (aw := aw) g oh oa la lb
    (R := fun w h1 => (match h1[i]? with
        | some (LO.ins c' fs) => decide (c' = Str.ofString "Desk") && (List.lookup (Str.ofString "note") fs).isNone
        | x => false) = true ∧ Tr (f_told [w] h1) (fun w h_4 => Tr (f_Desk_note [W.ref i, w] h_4) (fun w h_5 => ∃ x, putT shown k ho aw a b = some x ∧ Noted h i d u shown x deeds h_5)
          fun c_1 p h_5 => (putT shown k ho aw a b = none ∨ putT shown k ho aw a b = some shown) ∧ c_1 = Str.ofString "BadDeed" ∧ Ch [] h h_5) nEx)
    (X := fun c p h1 => (c = Str.ofString "BadText" ∨ c = Str.ofString "BadRule") ∧ putT shown k ho aw a b = none ∧ Ch [] h h1)
    (fun x si sj s' h1 ep ex gd sa hi hj c1 => ?_) (fun c p h1 e ec c1 => ⟨ec, e, c1⟩)).imp (fun w h1 ⟨si, sj, s, ew, sa, t⟩ => ?_) fun c p h1 ⟨ec, e, c1⟩ => ?_
  · refine ⟨by simp [(dk.ch c1 (by simp)).ei], ?_⟩
    refine (p_told sa gd.sm).ok fun w h2 ⟨ew, c2⟩ => ?_
    subst ew
    have c5 := c1.tr c2
    have k5 := dk.ch c5 (by simp)
    have gx := putT_good la lb ep
    subst ex
    refine (p_note k5 os gx.ok.1 gx.ok.2 l).imp (fun w h6 ⟨_, n1, u', k6, hu, c6⟩ => ⟨_, ep, n1, u', k6, Nat.le_trans c5.len hu, (c5.mono (by simp)).tr c6⟩) fun c' p h6 ⟨e, e2, c6⟩ => ⟨.inr (by rw [ep, e]), e2, c5.tr c6⟩
  · subst ew
    simp [sa.1, Sea.fs]
    refine t.imp (fun w h2 r => ?_) fun c p h2 ⟨ec, e, c2⟩ => ?_
    · exact ⟨r.1, Tr.ok r.2 fun _ _ z => z⟩
    · rcases ec with rfl | rfl
      · simp [sF1, e, c2]
      · simp [sF2, e, c2]
  · rcases ec with rfl | rfl
    · simp [sF1, e, c1]
    · simp [sF2, e, c1]
theorem p_undo (k : DeskAt h i d u shown deeds undone) (lu : undone.length < 100) :
    Tr (f_Desk_undo [.ref i] h) (fun w h' => w = .non ∧ ∃ ds p, deeds = ds ++ [p] ∧ DeskAt h' i d u p.1 ds (undone ++ [p]) ∧ Ch [i, d, u] h h') (fun c' p h' => deeds = [] ∧ c' = Str.ofString "BadDeed" ∧ Ch [] h h') := by
  obtain ⟨n1, n2⟩ := k.nei
  have po := pairs_pw k.od
  have nu := k.lu
  rw [Tr_run]
  rcases List.eq_nil_or_concat deeds with e | ⟨ds, p, e⟩
  · simp [F_Desk_undo, k.ei, k.ed, e, look_app]
    exact .app
  · rw [List.concat_eq_append] at e
    have nn := k.ne
    have e0 := k.ed
    rw [e, List.map_append] at e0 po
    simp only [List.map_cons, List.map_nil] at e0 po
    have lkd : ∀ o, ((h ++ [LO.lst []]).set d o)[i]? = some _ := fun o => by rw [look_ne (Ne.symm n1), look_app (by rw [k.ei]; rfl), k.ei]
    have lku : ∀ o, ((h ++ [LO.lst []]).set d o)[u]? = some _ := fun o => by rw [look_ne nn, look_app (by rw [k.eu]; rfl), k.eu]
    have lkd2 : ∀ o o2, (((h ++ [LO.lst []]).set d o).set u o2)[i]? = some _ := fun o o2 => by rw [look_ne (Ne.symm n2), lkd o]
    have e02 : h[d]? = some (.lst (ds.map pairW ++ [.tup [.str p.1, .str p.2]])) := e0
    have po2 : pws 7 (ds.map pairW ++ [.tup [.str p.1, .str p.2]]) = true := po
    simp [F_Desk_undo, k.ei, e02, e, look_app, po2, lkd, lku, lkd2, pairW, List.dropLast_concat]
    have ld := k.ld
    rw [e] at ld
    simp at ld
    have pok := k.od p (by rw [e]; simp)
    refine ⟨by omega, ds, p.1, p.2, ⟨rfl, rfl⟩, ⟨look_set (by rw [lkd2]; rfl), ?_, ?_, k.ne, fun q hq => k.od q (by rw [e]; simp [hq]), fun q hq => ?_, by omega, by simp; omega⟩, ((Ch.app.put (.inl (by simp))).put (.inl (by simp))).put (.inl (by simp))⟩
    · rw [look_ne n1, look_ne (Ne.symm nn), look_set (by rw [look_app (by rw [e02]; rfl), e02]; rfl)]
    · rw [look_ne n2, look_set (by rw [lku]; rfl)]
      simp [pairW]
    · rcases List.mem_append.mp hq with hq | hq
      · exact k.ou q hq
      · rw [List.mem_singleton.mp hq]; exact pok
theorem p_redo (k : DeskAt h i d u shown deeds undone) (lu : deeds.length < 100) :
    Tr (f_Desk_redo [.ref i] h) (fun w h' => w = .non ∧ ∃ ds p, undone = ds ++ [p] ∧ DeskAt h' i d u p.2 (deeds ++ [p]) ds ∧ Ch [i, d, u] h h') (fun c' p h' => undone = [] ∧ c' = Str.ofString "BadDeed" ∧ Ch [] h h') := by
  obtain ⟨n1, n2⟩ := k.nei
  have po := pairs_pw k.ou
  have nu := k.ld
  rw [Tr_run]
  rcases List.eq_nil_or_concat undone with e | ⟨ds, p, e⟩
  · simp [F_Desk_redo, k.ei, k.eu, e, look_app]
    exact .app
  · rw [List.concat_eq_append] at e
    have nn := k.ne
    have e0 := k.eu
    rw [e, List.map_append] at e0 po
    simp only [List.map_cons, List.map_nil] at e0 po
    have lkd : ∀ o, ((h ++ [LO.lst []]).set u o)[i]? = some _ := fun o => by rw [look_ne (Ne.symm n2), look_app (by rw [k.ei]; rfl), k.ei]
    have lku : ∀ o, ((h ++ [LO.lst []]).set u o)[d]? = some _ := fun o => by rw [look_ne (Ne.symm nn), look_app (by rw [k.ed]; rfl), k.ed]
    have lkd2 : ∀ o o2, (((h ++ [LO.lst []]).set u o).set d o2)[i]? = some _ := fun o o2 => by rw [look_ne (Ne.symm n1), lkd o]
    have e02 : h[u]? = some (.lst (ds.map pairW ++ [.tup [.str p.1, .str p.2]])) := e0
    have po2 : pws 7 (ds.map pairW ++ [.tup [.str p.1, .str p.2]]) = true := po
    simp [F_Desk_redo, k.ei, e02, e, look_app, po2, lkd, lku, lkd2, pairW, List.dropLast_concat]
    have ld := k.lu
    rw [e] at ld
    simp at ld
    have pok := k.ou p (by rw [e]; simp)
    refine ⟨by omega, ds, p.1, p.2, ⟨rfl, rfl⟩, ⟨look_set (by rw [lkd2]; rfl), ?_, ?_, k.ne, fun q hq => ?_, fun q hq => k.ou q (by rw [e]; simp [hq]), by simp; omega, by omega⟩, ((Ch.app.put (.inl (by simp))).put (.inl (by simp))).put (.inl (by simp))⟩
    · rw [look_ne n1, look_set (by rw [lku]; rfl)]
      simp [pairW]
    · rw [look_ne n2, look_ne nn, look_set (by rw [look_app (by rw [e02]; rfl), e02]; rfl)]
    · rcases List.mem_append.mp hq with hq | hq
      · exact k.od q hq
      · rw [List.mem_singleton.mp hq]; exact pok
end K27
set_option Elab.async false
set_option linter.all false
set_option maxRecDepth 100000
set_option maxHeartbeats 2000000
namespace Fv
open PySem PySem.Spec PyProof.Rows L2 Fh
structure DeR where
  nx : Sl → LH → Prop
  rl : Nat → W → Sl → LH → Prop
  ex : Str → Option (Str × W) → Sl → LH → Prop
def TrR (r : RR) (D : DeR) : Prop := match r with
  | .nx sl h => D.nx sl h
  | .rl k w sl h => D.rl k w sl h
  | .ex c p sl h => D.ex c p sl h
  | .bad => False
theorem TrR_congr {x y : RR} {D : DeR} (e : x = y) : TrR x D = TrR y D := by rw [e]
section
variable {sl : Sl} {h : LH} {D : DeR}
@[simp ↓] theorem TrR_nx : TrR (rNx sl h) D = D.nx sl h := rfl
@[simp ↓] theorem TrR_seq {f : FS} {g : FR} : TrR (rSeq f g sl h) D = TrS (f sl h) ⟨fun sl h => TrR (g sl h) D, fun _ _ => False, fun _ _ => False, fun _ _ => False, D.ex⟩ := by
  unfold rSeq
  cases f sl h <;> rfl
@[simp ↓] theorem TrR_if {c : Sl → M Bool} {f g k : FR} : TrR (rIf c f g k sl h) D = Tr (c sl h) (fun b h => (b = true → TrR (f sl h) { D with nx := fun sl h => TrR (k sl h) D }) ∧ (b = false → TrR (g sl h) { D with nx := fun sl h => TrR (k sl h) D })) (fun c p h => D.ex c p sl h) := by
  unfold rIf
  cases e : c sl h with
  | bad => rfl
  | ex _ _ _ => rfl
  | ok b h1 =>
    cases b
    · simp only [Tr, Bool.false_eq_true, if_false, false_implies, true_and, true_implies, reduceCtorEq]
      cases g sl h1 <;> rfl
    · simp only [Tr, if_true, false_implies, and_true, true_implies, reduceCtorEq, forall_const]
      cases f sl h1 <;> rfl
@[simp ↓] theorem TrR_lam {k : Nat} {fe : Sl → M W} : TrR (rLam k fe sl h) D = Tr (fe sl h) (fun w h => D.rl k w sl h) (fun c p h => D.ex c p sl h) := by
  unfold rLam
  cases fe sl h <;> rfl
theorem Tr_runR {N : Nat} {ixs : List (List Nat)} {fb : FR} {ws : List W} {Q : W → LH → Prop} {E : EQ} (t : TrR (fb (sl0 N ws) h) ⟨fun _ _ => False, fun k w sl h' => ∃ ix cs, ixs[k]? = some ix ∧ caps ix sl = some cs ∧ Q (.tup [.ref h'.length, w]) (h' ++ [.lam k cs]), fun c p _ h => E c p h⟩) : Tr (runR N ixs fb ws h) Q E := by
  unfold runR
  cases e : fb (sl0 N ws) h with
  | nx _ _ => rw [e] at t; exact t.elim
  | bad => rw [e] at t; exact t
  | ex _ _ _ _ => rw [e] at t; exact t
  | rl k w sl h' =>
    rw [e] at t
    obtain ⟨ix, cs, e1, e2, q⟩ := t
    simp only [e1, e2]
    exact q
end
/-! no lambdas but the one handed out -/
theorem calmS {sl : Sl} : Emb.calm.S sl sl := ⟨rfl, fun i w e => by rw [e, show Emb.calm.w w = w from rn_id w]⟩
theorem noLamW {f : Sl → M W} [EvW f] {sl : Sl} {h h' : LH} {w : W} (n : noLam h = true) (e : f sl h = .ok w h') : noLam h' = true := by
  have x := EvW.p (f := f) Emb.calm sl sl h (Nat.zero_le _) calmS
  rw [calm_em n, e] at x
  obtain ⟨_, b, e2, _⟩ := x
  injection e2 with _ e3
  exact calm_no e3.symm
theorem noLamB {f : Sl → M Bool} [EvB f] {sl : Sl} {h h' : LH} {w : Bool} (n : noLam h = true) (e : f sl h = .ok w h') : noLam h' = true := by
  have x := EvB.p (f := f) Emb.calm sl sl h (Nat.zero_le _) calmS
  rw [calm_em n, e] at x
  obtain ⟨_, b, e2, _⟩ := x
  injection e2 with _ e3
  exact calm_no e3.symm
theorem noLamS {f : FS} [EvS f] {sl sl' : Sl} {h h' : LH} (n : noLam h = true) (e : f sl h = .nx sl' h') : noLam h' = true := by
  have x := EvS.p (f := f) Emb.calm sl sl h (Nat.zero_le _) calmS
  rw [calm_em n, e] at x
  obtain ⟨_, b, e2, _⟩ := x
  injection e2 with _ e3
  exact calm_no e3.symm
def LamOut (r : RR) : Prop := match r with
  | .nx _ h => noLam h = true
  | .rl _ _ _ h => noLam h = true
  | _ => True
class EvRR (f : FR) : Prop where
  p : ∀ sl h, noLam h = true → LamOut (f sl h)
instance : EvRR rNx := ⟨fun sl h n => n⟩
instance {f g} [EvS f] [EvRR g] : EvRR (rSeq f g) := ⟨fun sl h n => by
  unfold rSeq
  cases e : f sl h with
  | nx sl' h' => exact EvRR.p _ _ (noLamS n e)
  | _ => trivial⟩
instance {c f g k} [EvB c] [EvRR f] [EvRR g] [EvRR k] : EvRR (rIf c f g k) := ⟨fun sl h n => by
  unfold rIf
  cases e : c sl h with
  | bad => trivial
  | ex _ _ _ => trivial
  | ok b h1 =>
    have n1 := noLamB n e
    have key : LamOut ((if b = true then f else g) sl h1) := by
      cases b
      · exact EvRR.p (f := g) _ _ n1
      · exact EvRR.p (f := f) _ _ n1
    simp only
    cases e2 : (if b = true then f else g) sl h1 with
    | nx sl' h' => rw [e2] at key; exact EvRR.p _ _ key
    | rl _ _ _ _ => rw [e2] at key; exact key
    | _ => trivial⟩
instance {k fe} [EvW fe] : EvRR (rLam k fe) := ⟨fun sl h n => by
  unfold rLam
  cases e : fe sl h with
  | ok w h' => exact noLamW n e
  | _ => trivial⟩
theorem runR_last {N : Nat} {ixs : List (List Nat)} {fb : FR} [EvRR fb] {ws : List W} {h h' : LH} {w : W} (n : noLam h = true) (e : runR N ixs fb ws h = .ok w h') : ∃ h2 k cs w2, h' = h2 ++ [.lam k cs] ∧ noLam h2 = true ∧ w = .tup [.ref h2.length, w2] := by
  have x := EvRR.p (f := fb) (sl0 N ws) h n
  unfold runR at e
  cases e2 : fb (sl0 N ws) h with
  | nx _ _ => rw [e2] at e; cases e
  | bad => rw [e2] at e; cases e
  | ex _ _ _ _ => rw [e2] at e; cases e
  | rl k w2 sl h2 =>
    rw [e2] at e x
    simp only at e
    cases e3 : ixs[k]? with
    | none => rw [e3] at e; cases e
    | some ix =>
      rw [e3] at e
      simp only at e
      cases e4 : caps ix sl with
      | none => rw [e4] at e; cases e
      | some cs =>
        rw [e4] at e
        cases e
        exact ⟨h2, k, cs, w2, rfl, x, rfl⟩
theorem Tr_toldC {sub : Str → Option Bool} {txt : Str} {F : Nat → Sl → M W} {fa : Sl → M W} {sl : Sl} {h : LH} {Q : W → LH → Prop} {E : EQ} {i k : Nat} {ws : List W}
    (t : Tr (fa sl h) (fun w h => w = .ref i ∧ h[i]? = some (.lam k ws) ∧ noLam (h.set i .dead) = true ∧ Tr (F k (ws.map some) (h.set i .dead)) Q (fun c p h' => match sub c with
      | some true => Q (.str txt) h'
      | some false => E c p h'
      | none => False)) E) : Tr (fToldC sub txt F fa sl h) Q E := by
  unfold fToldC
  rw [Tr_bnd]
  refine t.imp (fun w h1 ⟨ew, e1, n, q⟩ => ?_) fun _ _ _ z => z
  subst ew
  simp only [e1, n, if_true]
  cases e : F k (ws.map some) (h1.set i .dead) with
  | ok w h' => rw [e] at q; exact q
  | bad => rw [e] at q; exact q
  | ex c p h' =>
    rw [e] at q
    simp only [Tr] at q ⊢
    cases z : sub c with
    | none => rw [z] at q; exact q.elim
    | some b => rw [z] at q; cases b <;> exact q
end Fv
set_option Elab.async false
set_option linter.all false
set_option maxRecDepth 100000
set_option maxHeartbeats 2000000
set_option synthInstance.maxHeartbeats 2000000
set_option synthInstance.maxSize 100000
namespace K27
open PySem PySem.Spec PyProof.Rows L2 Fh Fv TL
instance : EvRR F_law_deed := by unfold F_law_deed; infer_instance
def R_deed1 : FR := (rIf (tV (f2 ltW (fB lenW (aCons (fVar 3) aNil)) (fC (.int 2)))) (rLam 0 (fVar 2)) rNx (rSeq (sSet 5 (fMake "Season" 4 f_Season_d_initd_ (aCons (fVar 3) (aCons (fTup (aCons (fC (.int 3)) (aCons (fC (.int 1)) (aCons (fC (.int 0)) aNil)))) (aCons (fTup (aCons (fC (.str "points")) (aCons (fC (.str "goals")) (aCons (fC (.str "scored")) (aCons (fC (.str "name")) aNil))))) aNil))))) (rSeq (sSet 6 (fIf (tV (fVar 4)) (fCall 1 (f_twice) (aCons (fCall 1 (f_circle) (aCons (fVar 3) aNil)) aNil)) (fCall 1 (f_circle) (aCons (fVar 3) aNil)))) (rSeq (sE (fMeth "Season" "lay" 2 f_Season_lay (fVar 5) (aCons (fVar 6) aNil))) (rLam 1 (fCall 1 (f_told) (aCons (fVar 5) aNil)))))))
def R_deed3 : FR := (rSeq (sTry sub_FixtureFault (sSeq (sSet 5 (fCall 1 (f_read) (aCons (fVar 2) aNil))) (sSeq (sE (fMeth "Season" "put" 6 f_Season_put (fVar 5) (aCons (fVar 7) (aCons (fVar 10) (aCons (fVar 11) (aCons (fVar 8) (aCons (fVar 9) aNil))))))) (sSet 12 (fCall 1 (f_told) (aCons (fVar 5) aNil))))) (nxS (sSet 12 (fVar 2)))) (rLam 2 (fVar 12)))
def R_deed2 : FR := (rSeq (sAsg (.tp [7, 8, 9]) (fTup (aCons (fCall 2 (f_law_roll) (aCons (fVar 1) (aCons (fC (.int 3)) aNil))) (aCons (fCall 2 (f_law_roll) (aCons (fVar 1) (aCons (fC (.int 3)) aNil))) (aCons (fCall 2 (f_law_roll) (aCons (fVar 1) (aCons (fC (.int 3)) aNil))) aNil))))) (rSeq (sAsg (.tp [10, 11]) (fTup (aCons (f2 ixW (fC (.str "abc")) (fCall 2 (f_law_roll) (aCons (fVar 1) (aCons (fC (.int 3)) aNil)))) (aCons (f2 ixW (fC (.str "abc")) (fCall 2 (f_law_roll) (aCons (fVar 1) (aCons (fC (.int 3)) aNil)))) aNil)))) R_deed3))
theorem F_deed_eq : F_law_deed = (rIf (tV (f2 (eqW false) (fCall 2 (f_law_roll) (aCons (fVar 1) (aCons (fC (.int 3)) aNil))) (fC (.int 0)))) (rSeq (sAsg (.tp [3, 4]) (fTup (aCons (f2 ixW (fLst (aCons (fLst (aCons (fC (.str "a")) (aCons (fC (.str "b")) aNil))) (aCons (fLst (aCons (fC (.str "a")) (aCons (fC (.str "b")) (aCons (fC (.str "c")) aNil)))) (aCons (fLst (aCons (fC (.str "a")) aNil)) aNil)))) (fCall 2 (f_law_roll) (aCons (fVar 1) (aCons (fC (.int 3)) aNil)))) (aCons (f2 (eqW false) (fCall 2 (f_law_roll) (aCons (fVar 1) (aCons (fC (.int 2)) aNil))) (fC (.int 1))) aNil)))) R_deed1) rNx R_deed2) := rfl
/-- the deed handed out -/
def Deed (h' : LH) (i lf : Nat) (now due : Str) : Prop :=
  (∃ kk b c tk, kk ≤ 1 ∧ h'[lf]? = some (.lam kk [.ref tk, .bl c, .ref i]) ∧ h'[tk]? = some (.lst (wS (tms b))) ∧ due = (sea0 b c).text) ∨
  (∃ c tk, h'[lf]? = some (.lam 0 [.ref tk, .bl c, .ref i]) ∧ h'[tk]? = some (.lst tA) ∧ due = now) ∨
  (∃ a b k : Nat, ∃ ho aw, h'[lf]? = some (.lam 2 [.int (b : Nat), .int (a : Nat), .int (k : Nat), .str ho, .ref i, .str aw]) ∧ a ≤ 2 ∧ b ≤ 2 ∧ PyData.strOk ho = true ∧ PyData.strOk aw = true ∧ due = (putT now k ho aw a b).getD now)
theorem roll3 {r : Int} (h0 : 0 ≤ r) (h1 : r < 3) : r = 0 ∨ r = 1 ∨ r = 2 := by omega
theorem abc_len : (Str.ofString "abc").length = 3 := by decide +kernel
theorem abc_at {r : Int} (h0 : 0 ≤ r) (h1 : r < 3) : ∃ c, atI (Str.ofString "abc").cps.toList r = some c ∧ PyData.strOk ⟨#[c]⟩ = true := by
  rcases roll3 h0 h1 with rfl | rfl | rfl
  · exact ⟨97, by decide +kernel, by decide +kernel⟩
  · exact ⟨98, by decide +kernel, by decide +kernel⟩
  · exact ⟨99, by decide +kernel, by decide +kernel⟩
theorem ix_eq : ix_law_deed = [[3, 4, 0], [3, 4, 0], [9, 8, 7, 10, 0, 11]] := by decide +kernel
def DeedD (h : LH) (i q : Nat) (now : Str) : DeR := ⟨fun _ _ => False, fun k w sl h' => ∃ ix cs, ix_law_deed[k]? = some ix ∧ caps ix sl = some cs ∧ ∃ lf due, W.tup [.ref h'.length, w] = .tup [.ref lf, .str due] ∧ Good due ∧ Deed (h' ++ [.lam k cs]) i lf now due ∧ Dice (h' ++ [.lam k cs]) q ∧ Ch [q] h (h' ++ [.lam k cs]), fun c p _ h => nEx c p h⟩
theorem deed1 {h H : LH} {i q tk : Nat} {now : Str} {b c : Bool} (e : H[tk]? = some (.lst (wS (tms b)))) (hd : Dice H q) (ch : Ch [q] h H) :
    TrR (R_deed1 [some (.ref i), some (.ref q), some (.str now), some (.ref tk), some (.bl c), none, none, none, none, none, none, none, none] H) (DeedD h i q now) := by
  have lt : ¬ (((tms b).length : Int) < 2) := by cases b <;> decide
  have gd := sea0_gd b c
  simp [R_deed1, e, lt, look_app, Tr_run (N := 4) (fb := F_Season_d_initd_), F_Season_d_initd_, List.set_append]
  have fin : ∀ (c : Bool) (w : W) (h2 : LH), Ch [] H h2 → (DeedD h i q now).rl 1 (.str (sea0 b c).text) [some (W.ref i), some (W.ref q), some (W.str now), some (W.ref tk), some (W.bl c), some (W.ref (List.length H)), some w, none, none, none, none, none, none] h2 := fun c w h2 c2 => by
    refine ⟨[3, 4, 0], [.ref tk, .bl c, .ref i], by rw [ix_eq]; rfl, rfl, h2.length, _, rfl, .inr ⟨_, sea0_gd b c, rfl, rfl⟩, .inl ⟨1, b, c, tk, by omega, by simp, by rw [look_app (by rw [c2.at e]; rfl)]; exact c2.at e, rfl⟩, (hd.ch c2 (by simp)).ch (S := []) .app (by simp), (ch.tr0 c2).push⟩
  have c0 : Ch [] H (H ++ [LO.ins (Str.ofString "Season") [(Str.ofString "teams", W.tup (wS (tms b))), (Str.ofString "worth", W.tup [W.int 3, W.int 1, W.int 0]), (Str.ofString "rules", W.tup [W.str (Str.ofString "points"), W.str (Str.ofString "goals"), W.str (Str.ofString "scored"), W.str (Str.ofString "name")]), (Str.ofString "rounds", W.ref (List.length H + 1))], LO.lst []]) := .app
  have eS : (H ++ [LO.ins (Str.ofString "Season") [(Str.ofString "teams", W.tup (wS (tms b))), (Str.ofString "worth", W.tup [W.int 3, W.int 1, W.int 0]), (Str.ofString "rules", W.tup [W.str (Str.ofString "points"), W.str (Str.ofString "goals"), W.str (Str.ofString "scored"), W.str (Str.ofString "name")]), (Str.ofString "rounds", W.ref (List.length H + 1))], LO.lst []])[H.length]? = some (.ins "Season" ((sea0 b c).fs (H.length + 1))) := by simp [Sea.fs, sea0, rules4]
  generalize (H ++ [LO.ins (Str.ofString "Season") [(Str.ofString "teams", W.tup (wS (tms b))), (Str.ofString "worth", W.tup [W.int 3, W.int 1, W.int 0]), (Str.ofString "rules", W.tup [W.str (Str.ofString "points"), W.str (Str.ofString "goals"), W.str (Str.ofString "scored"), W.str (Str.ofString "name")]), (Str.ofString "rounds", W.ref (List.length H + 1))], LO.lst []]) = H2 at c0 eS ⊢
  refine ⟨fun hc => ?_, fun hc => ?_⟩
  · subst hc
    refine (p_circle (c0.at e)).ok fun w h2 ⟨ew, c2⟩ => ?_
    subst ew
    refine p_twice.ok fun w h3 ⟨ew, c3⟩ => ?_
    subst ew
    have cc := (c0.tr c2).tr c3
    have e3 := (c2.tr c3).at eS
    refine ⟨by simp [e3, Sea.fs], ?_⟩
    exact lay_tell (h := H) e3 cc (Nat.le_refl _) fun h4 c4 => fin true _ h4 c4
  · subst hc
    refine (p_circle (c0.at e)).ok fun w h2 ⟨ew, c2⟩ => ?_
    subst ew
    have e3 := c2.at eS
    refine ⟨by simp [e3, Sea.fs], ?_⟩
    exact lay_tell (h := H) e3 (c0.tr c2) (Nat.le_refl _) fun h4 c4 => fin false _ h4 c4
theorem deed3 {h H : LH} {i q k a b : Nat} {now ho aw : Str} {x3 x4 x5 x6 : Option W} (g : Good now) (hd : Dice H q) (ch : Ch [q] h H) (la : a ≤ 2) (lb : b ≤ 2) (oh : PyData.strOk ho = true) (oa : PyData.strOk aw = true) :
    TrR (R_deed3 [some (.ref i), some (.ref q), some (.str now), x3, x4, x5, x6, some (.int (k : Nat)), some (.int (a : Nat)), some (.int (b : Nat)), some (.str ho), some (.str aw), none] H) (DeedD h i q now) := by
  have fin : ∀ (due : Str) (y5 : Option W) (h2 : LH), Ch [] H h2 → due = (putT now k ho aw a b).getD now → Good due → (DeedD h i q now).rl 2 (.str due) [some (.ref i), some (.ref q), some (.str now), x3, x4, y5, x6, some (.int (k : Nat)), some (.int (a : Nat)), some (.int (b : Nat)), some (.str ho), some (.str aw), some (.str due)] h2 := fun due y5 h2 c2 e gd => by
    refine ⟨[9, 8, 7, 10, 0, 11], [.int (b : Nat), .int (a : Nat), .int (k : Nat), .str ho, .ref i, .str aw], by rw [ix_eq]; rfl, rfl, h2.length, due, rfl, gd, .inr (.inr ⟨a, b, k, ho, aw, by simp, la, lb, oh, oa, e⟩), (hd.ch c2 (by simp)).ch (S := []) .app (by simp), (ch.tr0 c2).push⟩
  simp [R_deed3]
  refine (p_rput (h := H) (k := k) (a := a) (b := b) (ho := ho) (aw := aw) g oh oa (by omega) (by omega)
    (R := fun w h1 => Tr (f_told [w] h1) (fun w h2 => ∃ x, w = .str x ∧ putT now k ho aw a b = some x ∧ Good x ∧ Ch [] H h2) nEx)
    (X := fun c p h1 => (c = Str.ofString "BadText" ∨ c = Str.ofString "BadRule") ∧ putT now k ho aw a b = none ∧ Ch [] H h1)
    (fun x si sj s' h1 ep ex gd sa hi hj c1 => ?_) (fun c p h1 e ec c1 => ⟨ec, e, c1⟩)).imp (fun w h1 ⟨si, sj, s, ew, sa, t⟩ => ?_) fun c p h1 ⟨ec, e, c1⟩ => ?_
  · refine (p_told sa gd.sm).ok fun w h2 ⟨ew, c2⟩ => ?_
    subst ew
    have gx := putT_good (by omega) (by omega) ep
    subst ex
    exact ⟨_, rfl, ep, gx, c1.tr c2⟩
  · subst ew
    simp [sa.1, Sea.fs]
    refine t.imp (fun w h2 r => ?_) fun c p h2 ⟨ec, e, c2⟩ => ?_
    · refine Tr.ok r fun w h3 ⟨x, ew, ep, gx, c3⟩ => ?_
      subst ew
      exact fin x _ h3 c3 (by rw [ep]; rfl) gx
    · have := fin now (some (.ref si)) h2 c2 (by rw [e]; rfl) g
      rcases ec with rfl | rfl
      · simpa [sF1] using this
      · simpa [sF2] using this
  · have := fin now x5 h1 c1 (by rw [e]; rfl) g
    rcases ec with rfl | rfl
    · simpa [sF1] using this
    · simpa [sF2] using this
theorem deed2 {h H : LH} {i q : Nat} {now : Str} {x3 x4 x5 x6 : Option W} (g : Good now) (hd : Dice H q) (ch : Ch [q] h H) :
    TrR (R_deed2 [some (.ref i), some (.ref q), some (.str now), x3, x4, x5, x6, none, none, none, none, none, none] H) (DeedD h i q now) := by
  simp [R_deed2]
  refine (p_law_roll hd (by omega) (by omega)).ok fun w h1 ⟨r1, ew, r10, r13, hd1, c1, _⟩ => ?_
  subst ew
  refine (p_law_roll hd1 (by omega) (by omega)).ok fun w h2 ⟨r2, ew, r20, r23, hd2, c2, _⟩ => ?_
  subst ew
  refine (p_law_roll hd2 (by omega) (by omega)).ok fun w h3 ⟨r3, ew, r30, r33, hd3, c3, _⟩ => ?_
  subst ew
  try simp
  refine (p_law_roll hd3 (by omega) (by omega)).ok fun w h4 ⟨r4, ew, r40, r43, hd4, c4, _⟩ => ?_
  subst ew
  obtain ⟨ho, eh, oh⟩ := abc_at r40 r43
  simp [ixW_str (z := Str.ofString "abc") (by rw [abc_len]; decide), eh]
  refine (p_law_roll hd4 (by omega) (by omega)).ok fun w h5 ⟨r5, ew, r50, r53, hd5, c5, _⟩ => ?_
  subst ew
  obtain ⟨aw, ea, oa⟩ := abc_at r50 r53
  simp [ixW_str (z := Str.ofString "abc") (by rw [abc_len]; decide), ea]
  obtain ⟨k, rfl⟩ := Int.eq_ofNat_of_zero_le r10
  obtain ⟨a, rfl⟩ := Int.eq_ofNat_of_zero_le r20
  obtain ⟨b, rfl⟩ := Int.eq_ofNat_of_zero_le r30
  exact deed3 g hd5 (ch.tr (c1.tr (c2.tr (c3.tr (c4.tr c5))))) (by omega) (by omega) oh oa
theorem deedA {h H : LH} {i q tk : Nat} {now : Str} {c : Bool} (e : H[tk]? = some (.lst tA)) (g : Good now) (hd : Dice H q) (ch : Ch [q] h H) :
    TrR (R_deed1 [some (.ref i), some (.ref q), some (.str now), some (.ref tk), some (.bl c), none, none, none, none, none, none, none, none] H) (DeedD h i q now) := by
  simp [R_deed1, e, tA]
  refine ⟨[3, 4, 0], [.ref tk, .bl c, .ref i], by rw [ix_eq]; rfl, rfl, H.length, now, rfl, g, .inr (.inl ⟨c, tk, by simp, by rw [look_app (by rw [e]; rfl)]; exact e, rfl⟩), hd.ch (S := []) .app (by simp), ch.push⟩
theorem TrR.up {h : LH} {i q : Nat} {now : Str} {r : RR} {n : Sl → LH → Prop} (t : TrR r (DeedD h i q now)) : TrR r ⟨n, (DeedD h i q now).rl, (DeedD h i q now).ex⟩ := by
  cases r with
  | nx _ _ => exact t.elim
  | rl _ _ _ _ => exact t
  | ex _ _ _ _ => exact t
  | bad => exact t
theorem p_law_deed {h : LH} {i q : Nat} {now : Str} (hd : Dice h q) (g : Good now) :
    Tr (f_law_deed [.ref i, .ref q, .str now] h) (fun w h' => ∃ lf due, w = .tup [.ref lf, .str due] ∧ Good due ∧ Deed h' i lf now due ∧ Dice h' q ∧ Ch [q] h h') nEx := by
  refine Tr_runR ?_
  show TrR (F_law_deed _ h) (DeedD h i q now)
  simp [F_deed_eq]
  refine (p_law_roll hd (by omega) (by omega)).ok fun w h1 ⟨r, ew, r0, r3, hd1, c1, _⟩ => ?_
  subst ew
  simp
  refine ⟨fun _ => ?_, fun _ => ?_⟩
  · refine (p_law_roll (hd1.ch (S := []) .app (by simp)) (by omega) (by omega)).ok fun w h2 ⟨r2, ew, r20, r23, hd2, c2, _⟩ => ?_
    subst ew
    have hq := hd1.lt
    have l0 := c2.at (i := h1.length) (o := .lst (wS (tms false))) (by simp [tms]) (by simp; omega)
    have l1 := c2.at (i := h1.length + 1) (o := .lst (wS (tms true))) (by simp [tms]) (by simp; omega)
    have l2 := c2.at (i := h1.length + 2) (o := .lst tA) (by simp [tA]) (by simp; omega)
    have l3 := c2.at (i := h1.length + 3) (o := .lst [.ref h1.length, .ref (h1.length + 1), .ref (h1.length + 2)]) (by simp) (by simp; omega)
    have cc : Ch [q] h h2 := (c1.push).tr c2
    have three := roll3 r20 r23
    rcases three with rfl | rfl | rfl
    · simp [l3]
      refine (p_law_roll hd2 (by omega) (by omega)).ok fun w h3 ⟨r3, ew, r30, r33, hd3, c3, _⟩ => ?_
      subst ew
      simp
      exact TrR.up (deed1 (c3.at l0 (by simp; omega)) hd3 (cc.tr c3))
    · simp [l3]
      refine (p_law_roll hd2 (by omega) (by omega)).ok fun w h3 ⟨r3, ew, r30, r33, hd3, c3, _⟩ => ?_
      subst ew
      simp
      exact TrR.up (deed1 (c3.at l1 (by simp; omega)) hd3 (cc.tr c3))
    · simp [l3]
      refine (p_law_roll hd2 (by omega) (by omega)).ok fun w h3 ⟨r3, ew, r30, r33, hd3, c3, _⟩ => ?_
      subst ew
      simp
      exact TrR.up (deedA (c3.at l2 (by simp; omega)) g hd3 (cc.tr c3))
  · exact deed2 g hd1 c1
end K27
set_option Elab.async false
set_option linter.all false
set_option maxRecDepth 100000
set_option maxHeartbeats 2000000
namespace K27
open PySem PySem.Spec PyProof.Rows L2 Fh Fv TL
def B_side : FS := (sSeq (sSet 7 (f2 ixW (fLst (aCons (f2 subW (fC (.int 0)) (fC (.int 1))) (aCons (fC (.int 1)) aNil))) (fCall 2 (f_law_roll) (aCons (fVar 1) (aCons (fC (.int 2)) aNil))))) (sSeq (sSet 8 (fChain leW ltW (fC (.int 0)) (f2 addW (fVar 4) (fVar 7)) (fB lenW (aCons (fVar 3) aNil)))) (sSeq (sIf (tV (f2 ltW (fVar 7) (fC (.int 0)))) (sSet 9 (fTold sub_BadDeed "due" (fMeth "Desk" "undo" 1 f_Desk_undo (fVar 2) aNil))) (sSet 9 (fTold sub_BadDeed "due" (fMeth "Desk" "redo" 1 f_Desk_redo (fVar 2) aNil)))) (sSet 4 (f2 addW (fVar 4) (f2 mulW (fVar 7) (fB intW (aCons (fVar 8) aNil))))))))
def B_deed : FS := (sSeq (sAsg (.tp [10, 11]) (fCall 3 (f_law_deed) (aCons (fVar 2) (aCons (fVar 1) (aCons (fVar 6) aNil))))) (sSeq (sSet 9 (fToldC sub_BadDeed "due" fe_kept (fVar 10))) (sSeq (sSet 8 (f2 (eqW true) (fVar 11) (fVar 6))) (sIf (tV (fVar 8)) (sPar 3 4 (aCons (f2 addW (fSl (fVar 3) oNone (oSome (f2 addW (fVar 4) (fC (.int 1))))) (fLst (aCons (fVar 11) aNil))) (aCons (f2 addW (fVar 4) (fC (.int 1))) aNil))) sNx))))
def B_look : FS := (sIf (bOr (tV (f2 (eqW true) (fVar 9) (fIf (tV (fVar 8)) (fC .non) (fC (.str "due"))))) (tV (f2 (eqW true) (fFld ["Desk"] "shown" (fVar 2)) (f2 ixW (fVar 3) (fVar 4))))) (sRt (fC (.bl false))) sNx)
def B_step : FS := (sSeq (sSet 6 (f2 ixW (fVar 3) (fVar 4))) (sSeq (sIf (tV (f2 (eqW false) (fCall 2 (f_law_roll) (aCons (fVar 1) (aCons (fC (.int 5)) aNil))) (fC (.int 0)))) B_side B_deed) B_look))
def B_end : FS := (sIf (tV (f2 (eqW true) (fTold sub_BadDeed "due" (fMeth "Desk" "table" 1 f_Desk_table (fVar 2) aNil)) (fCall 1 (f_law_table) (aCons (f2 ixW (fVar 3) (fVar 4)) aNil)))) (sRt (fC (.bl false))) sNx)
theorem F_law_eq : F_law = (sSeq (sFor (iSq (fCall 2 (f_law_rounds) (aCons (fVar 0) (aCons (fC (.int 1)) aNil)))) (.nm 1) (sSeq (sAsg (.tp [2, 3, 4]) (fTup (aCons (fMake "Desk" 1 f_Desk_d_initd_ aNil) (aCons (fLst (aCons (fC (.str "")) aNil)) (aCons (fC (.int 0)) aNil))))) (sSeq (sFor (iRg rng1 (aCons (fCall 2 (f_law_roll) (aCons (fVar 1) (aCons (fC (.int 10)) aNil))) aNil)) (.nm 5) B_step) B_end))) (sRt (fC (.bl true)))) := rfl
/-- where the law stands -/
structure Sit (h0 h' : LH) (q i d u pa : Nat) (sh : Str) (past : List Str) (place : Nat) (deeds undone : List (Str × Str)) : Prop where
  dice : Dice h' q
  desk : DeskAt h' i d u sh deeds undone
  ep : h'[pa]? = some (.lst (wS past))
  good : ∀ t ∈ past, Good t
  es : past[place]? = some sh
  ld : deeds.length = place
  dp : ∀ n p, deeds[n]? = some p → past[n]? = some p.1 ∧ past[n + 1]? = some p.2
  lu : undone.length + place + 1 = past.length
  up : ∀ n p, undone[n]? = some p → past[past.length - 2 - n]? = some p.1 ∧ past[past.length - 1 - n]? = some p.2
  nl : noLam h' = true
  ch : Ch [q] h0 h'
  hi : h0.length ≤ i
  hd : h0.length ≤ d
  hu : h0.length ≤ u
  l10 : past.length ≤ 50
theorem Sit.ne {h0 h' : LH} {q i d u pa : Nat} {sh : Str} {past : List Str} {place : Nat} {deeds undone : List (Str × Str)} (s : Sit h0 h' q i d u pa sh past place deeds undone) : (q ≠ i ∧ q ≠ d ∧ q ≠ u) ∧ (pa ≠ i ∧ pa ≠ d ∧ pa ≠ u) ∧ pa ≠ q := by
  obtain ⟨a, b, c, e⟩ := s.dice
  have pn : past ≠ [] := fun z => by have := s.es; rw [z] at this; cases this
  obtain ⟨x, r, ep⟩ := List.exists_cons_of_ne_nil pn
  have e2 := s.ep
  rw [ep] at e2
  have e3 := s.desk.ei
  have e4 := s.desk.ed
  have e5 := s.desk.eu
  refine ⟨⟨fun z => ?_, fun z => ?_, fun z => ?_⟩, ⟨fun z => ?_, fun z => ?_, fun z => ?_⟩, fun z => ?_⟩ <;> subst z
  · rw [e] at e3; cases e3
  · rw [e] at e4; cases deeds <;> cases e4
  · rw [e] at e5; cases undone <;> cases e5
  · rw [e2] at e3; cases e3
  · rw [e2] at e4; cases deeds <;> cases e4
  · rw [e2] at e5; cases undone <;> cases e5
  · rw [e2] at e; cases e
theorem Sit.roll {h0 h' h2 : LH} {q i d u pa : Nat} {sh : Str} {past : List Str} {place : Nat} {deeds undone : List (Str × Str)} (s : Sit h0 h' q i d u pa sh past place deeds undone) (c : Ch [q] h' h2) (hd : Dice h2 q) (n : noLam h2 = true) : Sit h0 h2 q i d u pa sh past place deeds undone := by
  obtain ⟨⟨n1, n2, n3⟩, _, n4⟩ := s.ne
  exact ⟨hd, s.desk.ch c (by simp; exact ⟨n1, n2, n3⟩), c.at s.ep (by simp; exact n4), s.good, s.es, s.ld, s.dp, s.lu, s.up, n, s.ch.tr c, s.hi, s.hd, s.hu, s.l10⟩
theorem Sit.more {h0 h' h2 : LH} {q i d u pa : Nat} {sh : Str} {past : List Str} {place : Nat} {deeds undone : List (Str × Str)} (s : Sit h0 h' q i d u pa sh past place deeds undone) (c : Ch [] h' h2) (n : noLam h2 = true) : Sit h0 h2 q i d u pa sh past place deeds undone :=
  ⟨s.dice.ch c (by simp), s.desk.ch c (by simp), c.at s.ep, s.good, s.es, s.ld, s.dp, s.lu, s.up, n, s.ch.tr0 c, s.hi, s.hd, s.hu, s.l10⟩
theorem p_roll {h : LH} {q : Nat} {n : Int} (hd : Dice h q) (nl : noLam h = true) (h0 : 0 < n) (h1 : n < 1073741824) :
    Tr (f_law_roll [.ref q, .int n] h) (fun w h' => (∃ r, w = .int r ∧ 0 ≤ r ∧ r < n ∧ Dice h' q ∧ Ch [q] h h' ∧ h'.length = h.length) ∧ noLam h' = true) nEx :=
  ((p_law_roll hd h0 h1).calm nl).imp (fun _ _ z => z) fun _ _ _ z => z.1
theorem Sit.back {h0 h' h2 : LH} {q i d u pa : Nat} {sh : Str} {past : List Str} {place : Nat} {deeds undone ds : List (Str × Str)} {p : Str × Str} (s : Sit h0 h' q i d u pa sh past place deeds undone) (e : deeds = ds ++ [p]) (k : DeskAt h2 i d u p.1 ds (undone ++ [p])) (c : Ch [i, d, u] h' h2) (n : noLam h2 = true) :
    place = ds.length + 1 ∧ Sit h0 h2 q i d u pa p.1 past ds.length ds (undone ++ [p]) := by
  obtain ⟨⟨n1, n2, n3⟩, ⟨m1, m2, m3⟩, n4⟩ := s.ne
  have ld := s.ld
  rw [e] at ld
  simp at ld
  have hp := s.dp ds.length p (by rw [e]; simp)
  have lu := s.lu
  refine ⟨ld.symm, s.dice.ch c (by simp; exact ⟨n1, n2, n3⟩), k, c.at s.ep (by simp; exact ⟨m1, m2, m3⟩), s.good, hp.1, rfl, fun m x hm => ?_, by simp; omega, fun m x hm => ?_, n, s.ch.trans c (fun z hz => ?_), s.hi, s.hd, s.hu, s.l10⟩
  · have lt := (List.getElem?_eq_some_iff.mp hm).1
    exact s.dp m x (by rw [e, List.getElem?_append_left lt]; exact hm)
  · by_cases z : m < undone.length
    · rw [List.getElem?_append_left z] at hm
      exact s.up m x hm
    · have lt := (List.getElem?_eq_some_iff.mp hm).1
      simp at lt
      obtain rfl : m = undone.length := by omega
      simp at hm
      subst hm
      have e1 : past.length - 2 - undone.length = ds.length := by omega
      have e2 : past.length - 1 - undone.length = ds.length + 1 := by omega
      rw [e1, e2]
      exact hp
  · simp only [List.mem_cons, List.not_mem_nil, or_false] at hz
    rcases hz with rfl | rfl | rfl
    · exact .inr s.hi
    · exact .inr s.hd
    · exact .inr s.hu
theorem Sit.forth {h0 h' h2 : LH} {q i d u pa : Nat} {sh : Str} {past : List Str} {place : Nat} {deeds undone ds : List (Str × Str)} {p : Str × Str} (s : Sit h0 h' q i d u pa sh past place deeds undone) (e : undone = ds ++ [p]) (k : DeskAt h2 i d u p.2 (deeds ++ [p]) ds) (c : Ch [i, d, u] h' h2) (n : noLam h2 = true) :
    place + 1 < past.length ∧ Sit h0 h2 q i d u pa p.2 past (place + 1) (deeds ++ [p]) ds := by
  obtain ⟨⟨n1, n2, n3⟩, ⟨m1, m2, m3⟩, n4⟩ := s.ne
  have lu := s.lu
  rw [e] at lu
  simp at lu
  have ld := s.ld
  have hp := s.up ds.length p (by rw [e]; simp)
  have e1 : past.length - 2 - ds.length = place := by omega
  have e2 : past.length - 1 - ds.length = place + 1 := by omega
  rw [e1, e2] at hp
  refine ⟨by omega, s.dice.ch c (by simp; exact ⟨n1, n2, n3⟩), k, c.at s.ep (by simp; exact ⟨m1, m2, m3⟩), s.good, hp.2, by simp [ld], fun m x hm => ?_, by omega, fun m x hm => ?_, n, s.ch.trans c (fun z hz => ?_), s.hi, s.hd, s.hu, s.l10⟩
  · by_cases z : m < deeds.length
    · rw [List.getElem?_append_left z] at hm
      exact s.dp m x hm
    · have lt := (List.getElem?_eq_some_iff.mp hm).1
      simp at lt
      obtain rfl : m = deeds.length := by omega
      simp at hm
      subst hm
      rw [ld]
      exact hp
  · have lt := (List.getElem?_eq_some_iff.mp hm).1
    exact s.up m x (by rw [e, List.getElem?_append_left lt]; exact hm)
  · simp only [List.mem_cons, List.not_mem_nil, or_false] at hz
    rcases hz with rfl | rfl | rfl
    · exact .inr s.hi
    · exact .inr s.hd
    · exact .inr s.hu
theorem s_side {h0 h : LH} {q i d u pa : Nat} {sh : Str} {past : List Str} {place : Nat} {deeds undone : List (Str × Str)} {x0 x5 x6 x7 x8 x9 x10 x11 : Option W} {D : De} (s : Sit h0 h q i d u pa sh past place deeds undone)
    (fin : ∀ h2 sh2 place2 deeds2 undone2 x7 (fine : Bool), Sit h0 h2 q i d u pa sh2 past place2 deeds2 undone2 → D.nx [x0, some (.ref q), some (.ref i), some (.ref pa), some (.int (place2 : Nat)), x5, x6, x7, some (.bl fine), some (if fine = true then .non else .str (Str.ofString "due")), x10, x11] h2) :
    TrS (B_side [x0, some (.ref q), some (.ref i), some (.ref pa), some (.int (place : Nat)), x5, x6, x7, x8, x9, x10, x11] h) D := by
  simp [B_side]
  have nl1 : noLam (h ++ [LO.lst [W.int (-1), W.int 1]]) = true := by have := s.nl; unfold noLam at this ⊢; rw [List.all_append, this]; rfl
  have s1 := s.more (Ch.app (t := [LO.lst [W.int (-1), W.int 1]])) nl1
  refine (p_roll s1.dice s1.nl (by omega) (by omega)).ok fun w h1 ⟨⟨r, ew, r0, r2, hd1, c1, _⟩, n1⟩ => ?_
  subst ew
  have s2 := s1.roll c1 hd1 n1
  have hq := s.dice.lt
  have l0 := c1.at (i := h.length) (o := .lst [.int (-1), .int 1]) (by simp) (by simp; omega)
  have pl := (List.getElem?_eq_some_iff.mp s2.es).1
  rcases (show r = 0 ∨ r = 1 by omega) with rfl | rfl
  · simp [l0, s2.ep, s2.desk.ei]
    have ld := s2.ld
    refine ⟨fun hp => ?_, fun hp => ?_⟩
    · have z1 : ((place : Int) + -1 < past.length) := by omega
      simp [z1]
      refine ((p_undo s2.desk (by have := s2.lu; have := s2.l10; omega)).calm n1).imp (fun w h2 ⟨⟨ew, ds, p, e, k, c⟩, n2⟩ => ?_) fun c p h2 ⟨⟨e, ec, c⟩, n2⟩ => ?_
      · obtain ⟨e1, s3⟩ := s2.back e k c n2
        have := fin h2 _ _ _ _ (some (.int (-1))) true s3
        subst ew
        rw [show (place : Int) + -1 = (ds.length : Nat) by omega]
        exact this
      · rw [e] at ld; simp at ld; omega
    · have p0 : place = 0 := by omega
      refine ((p_undo s2.desk (by have := s2.lu; have := s2.l10; omega)).calm n1).imp (fun w h2 ⟨⟨ew, ds, p, e, k, c⟩, n2⟩ => ?_) fun c p h2 ⟨⟨e, ec, c⟩, n2⟩ => ?_
      · rw [e] at ld; simp at ld; omega
      · subst ec
        simp [sB1]
        exact fin h2 _ _ _ _ (some (.int (-1))) false (s2.more c n2)
  · simp [l0, s2.ep, s2.desk.ei]
    have lu := s2.lu
    refine ⟨fun hp => ?_, fun hp => by omega⟩
    refine ((p_redo s2.desk (by have := s2.ld; have := s2.l10; omega)).calm n1).imp (fun w h2 ⟨⟨ew, ds, p, e, k, c⟩, n2⟩ => ?_) fun c p h2 ⟨⟨e, ec, c⟩, n2⟩ => ?_
    · obtain ⟨e1, s3⟩ := s2.forth e k c n2
      have z1 : ((place : Int) + 1 < past.length) := by omega
      simp [z1]
      subst ew
      exact fin h2 _ _ _ _ (some (.int 1)) true s3
    · rw [e] at lu
      simp at lu
      have z1 : ¬ ((place : Int) + 1 < past.length) := by omega
      subst ec
      simp [z1, sB1]
      exact fin h2 _ _ _ _ (some (.int 1)) false (s2.more c n2)
end K27
set_option Elab.async false
set_option linter.all false
set_option maxRecDepth 100000
set_option maxHeartbeats 2000000
namespace K27
open PySem PySem.Spec PyProof.Rows L2 Fh Fv TL
variable {h0 h h' h2 h3 : LH} {q i d u pa lf : Nat} {sh due : Str} {past : List Str} {place : Nat} {deeds undone : List (Str × Str)}
/-- the answer to a deed -/
def Reply (hh : LH) (i d u : Nat) (sh due : Str) (deeds : List (Str × Str)) (w : W) (h2 : LH) : Prop := (w = .non ∧ Noted hh i d u sh due deeds h2 ∨ w = .str (Str.ofString "due") ∧ due = sh ∧ Ch [] hh h2) ∧ noLam h2 = true
theorem p_reply {sl : Sl} (k : DeskAt h i d u sh deeds undone) (g : Good sh) (l : deeds.length < 100) (de : Deed h i lf sh due) (n : noLam (h.set lf .dead) = true) (e10 : sl[10]? = some (some (.ref lf))) :
    Tr (fToldC sub_BadDeed "due" fe_kept (fVar 10) sl h) (Reply (h.set lf .dead) i d u sh due deeds) nEx := by
  have key : ∀ kk ws, h[lf]? = some (.lam kk ws) → DeskAt (h.set lf .dead) i d u sh deeds undone := fun kk ws e => by
    refine k.ch (S := [lf]) (.set (by simp)) (by
      simp
      refine ⟨fun z => ?_, fun z => ?_, fun z => ?_⟩ <;> subst z
      · rw [k.ei] at e; cases e
      · rw [k.ed] at e; cases e
      · rw [k.eu] at e; cases e)
  rcases de with ⟨kk, b, c, tk, hk, e, et, rfl⟩ | ⟨c, tk, e, et, rfl⟩ | ⟨a, b, kx, ho, aw, e, la, lb, oh, oa, rfl⟩
  · have k2 := key _ _ e
    have et2 : (h.set lf .dead)[tk]? = some (.lst (wS (tms b))) := by rw [look_ne (fun z => by subst z; rw [e] at et; cases et), et]
    refine Tr_toldC (i := lf) (k := kk) (ws := [.ref tk, .bl c, .ref i]) ?_
    simp [e10, e, n]
    have t := ((p_begin (c := c) k2 g.ok.1 l et2).calm n)
    have hkk : kk = 0 ∨ kk = 1 := by omega
    rcases hkk with rfl | rfl
    · simp [fe_kept, k2.ei]
      refine t.imp (fun w h2 ⟨⟨ew, nt⟩, n2⟩ => ⟨.inl ⟨ew, nt⟩, n2⟩) fun c' p h2 ⟨⟨e1, ec, c1⟩, n2⟩ => ?_
      subst ec
      simp [sB1]
      exact ⟨.inr ⟨rfl, e1.symm, c1⟩, n2⟩
    · simp [fe_kept, k2.ei]
      refine t.imp (fun w h2 ⟨⟨ew, nt⟩, n2⟩ => ⟨.inl ⟨ew, nt⟩, n2⟩) fun c' p h2 ⟨⟨e1, ec, c1⟩, n2⟩ => ?_
      subst ec
      simp [sB1]
      exact ⟨.inr ⟨rfl, e1.symm, c1⟩, n2⟩
  · have k2 := key _ _ e
    have et2 : (h.set lf .dead)[tk]? = some (.lst tA) := by rw [look_ne (fun z => by subst z; rw [e] at et; cases et), et]
    refine Tr_toldC (i := lf) (k := 0) (ws := [.ref tk, .bl c, .ref i]) ?_
    simp [e10, e, n]
    have t := ((p_begin1 (c := c) k2 et2).calm n)
    simp [fe_kept, k2.ei]
    refine t.imp (fun w h2 z => z.1.elim) fun c' p h2 ⟨⟨ec, c1⟩, n2⟩ => ?_
    subst ec
    simp [sB1]
    exact ⟨.inr ⟨rfl, rfl, c1⟩, n2⟩
  · have k2 := key _ _ e
    refine Tr_toldC (i := lf) (k := 2) (ws := [.int (b : Nat), .int (a : Nat), .int (kx : Nat), .str ho, .ref i, .str aw]) ?_
    simp [e10, e, n]
    have t := ((p_dput (k := kx) (a := a) (b := b) (ho := ho) (aw := aw) k2 g oh oa (by omega) (by omega) l).calm n)
    simp [fe_kept, k2.ei]
    refine t.imp (fun w h2 ⟨⟨x, ex, ew, nt⟩, n2⟩ => ⟨.inl ⟨ew, by rw [ex]; exact nt⟩, n2⟩) fun c' p h2 ⟨⟨e1, ec, c1⟩, n2⟩ => ?_
    subst ec
    simp [sB1]
    refine ⟨.inr ⟨rfl, ?_, c1⟩, n2⟩
    rcases e1 with e1 | e1 <;> rw [e1] <;> rfl
theorem Sit.note {pa2 u2 : Nat} (s : Sit h0 h' q i d u pa sh past place deeds undone) (nt : sh ≠ due) (k : DeskAt h2 i d u2 due (deeds ++ [(sh, due)]) []) (hu : h'.length ≤ u2) (c : Ch [i, d] h' h2) (gd : Good due) (c2 : Ch [] h2 h3) (ep : h3[pa2]? = some (.lst (wS (past.take (place + 1) ++ [due])))) (n : noLam h3 = true) (l : past.length < 50) :
    Sit h0 h3 q i d u2 pa2 due (past.take (place + 1) ++ [due]) (place + 1) (deeds ++ [(sh, due)]) [] := by
  obtain ⟨⟨n1, n2, n3⟩, ⟨m1, m2, m3⟩, n4⟩ := s.ne
  have pl := (List.getElem?_eq_some_iff.mp s.es).1
  have tl : (past.take (place + 1)).length = place + 1 := by simp; omega
  have ld := s.ld
  have hl := s.ch.len
  refine ⟨(s.dice.ch c (by simp; exact ⟨n1, n2⟩)).ch c2 (by simp), k.ch c2 (by simp), ep, fun t ht => ?_, ?_, by simp [ld], fun m x hm => ?_, by simp; omega, by simp, n, (s.ch.trans c (fun z hz => ?_)).tr0 c2, s.hi, s.hd, by omega, by simp; omega⟩
  · rcases List.mem_append.mp ht with ht | ht
    · exact s.good t (List.mem_of_mem_take ht)
    · rw [List.mem_singleton.mp ht]; exact gd
  · rw [List.getElem?_append_right (by omega), tl]; simp
  · by_cases z : m < deeds.length
    · rw [List.getElem?_append_left z] at hm
      obtain ⟨a, b⟩ := s.dp m x hm
      rw [List.getElem?_append_left (by omega), List.getElem?_append_left (by omega), List.getElem?_take_of_lt (by omega), List.getElem?_take_of_lt (by omega)]
      exact ⟨a, b⟩
    · have lt := (List.getElem?_eq_some_iff.mp hm).1
      simp at lt
      obtain rfl : m = deeds.length := by omega
      simp at hm
      subst hm
      rw [ld, List.getElem?_append_left (by omega), List.getElem?_take_of_lt (by omega), List.getElem?_append_right (by omega), tl]
      simp [s.es]
  · simp only [List.mem_cons, List.not_mem_nil, or_false] at hz
    rcases hz with rfl | rfl
    · exact .inr s.hi
    · exact .inr s.hd
theorem s_deed {x0 x5 x7 x8 x9 x10 x11 : Option W} {D : De} (s : Sit h0 h q i d u pa sh past place deeds undone) (l : past.length < 50)
    (fin : ∀ h2 u2 pa2 sh2 past2 place2 deeds2 undone2 x10 x11 (fine : Bool), past2.length ≤ past.length + 1 → Sit h0 h2 q i d u2 pa2 sh2 past2 place2 deeds2 undone2 → D.nx [x0, some (.ref q), some (.ref i), some (.ref pa2), some (.int (place2 : Nat)), x5, some (.str sh), x7, some (.bl fine), some (if fine = true then .non else .str (Str.ofString "due")), x10, x11] h2) :
    TrS (B_deed [x0, some (.ref q), some (.ref i), some (.ref pa), some (.int (place : Nat)), x5, some (.str sh), x7, x8, x9, x10, x11] h) D := by
  have gs : Good sh := s.good sh (List.mem_of_getElem? s.es)
  have os := gs.ok.1
  simp [B_deed]
  obtain ⟨w, h1, er, lf, due, ew, gd, de, hd1, c1⟩ := (p_law_deed (i := i) s.dice gs).eq
  obtain ⟨h1', kk, cs, w2, eh, nl1, ew2⟩ := runR_last (fb := F_law_deed) s.nl er
  rw [er]
  subst ew
  cases ew2
  have nl2 : noLam (h1.set h1'.length .dead) = true := by
    rw [eh, List.set_append_right _ _ (Nat.le_refl _)]
    unfold noLam at nl1 ⊢
    rw [List.all_append, nl1]
    simp
  have c2 : Ch [q] h (h1.set h1'.length .dead) := by
    refine c1.put (.inr ?_)
    by_cases z : h1'.length < h.length
    · exfalso
      have e : h1[h1'.length]? = some (.lam kk cs) := by rw [eh]; simp
      have nq : h1'.length ≠ q := fun z => by
        obtain ⟨a, b, c, e2⟩ := hd1
        rw [z, e2] at e
        cases e
      have k := c1.keep _ z (by simp; exact nq)
      rw [e] at k
      have := List.all_eq_true.mp s.nl _ (List.mem_of_getElem? k.symm)
      cases this
    · omega
  have od := gd.ok.1
  have ne := s.ne
  have hd2 : Dice (h1.set h1'.length .dead) q := by
    obtain ⟨a, b, c, e2⟩ := hd1
    refine ⟨a, b, c, ?_⟩
    rw [look_ne (fun z => ?_), e2]
    rw [eh, ← z] at e2
    simp at e2
  have s1 := s.roll c2 hd2 nl2
  have k1 : DeskAt h1 i d u sh deeds undone := s.desk.ch c1 (by simp; exact ne.1)
  have ld := s.ld
  have lu := s.lu
  simp
  refine (p_reply (sl := [x0, some (W.ref q), some (W.ref i), some (W.ref pa), some (W.int ↑place), x5, some (W.str sh), x7, x8, x9, some (W.ref (List.length h1')), some (W.str due)]) k1 gs (by omega) de nl2 rfl).ok fun w h2 ⟨r, n2⟩ => ?_
  rcases r with ⟨rfl, nt, u2, k2, hu, c3⟩ | ⟨rfl, e, c3⟩
  · have ep := c3.at s1.ep (by simp; exact ⟨ne.2.1.1, ne.2.1.2.1⟩)
    have pl := (List.getElem?_eq_some_iff.mp s.es).1
    have cut : cutW (past.map W.str) none (some ((place : Int) + 1)) = (past.take (place + 1)).map W.str := by
      rw [show ((place : Int) + 1) = ((place + 1 : Nat) : Int) by omega, cutW_to, List.map_take]
    have nl3 : noLam (h2 ++ [LO.lst ((past.take (place + 1)).map W.str), LO.lst [W.str due], LO.lst ((past.take (place + 1)).map W.str ++ [W.str due])]) = true := by
      unfold noLam at n2 ⊢
      rw [List.all_append, n2]; rfl
    have := fin (h2 ++ [LO.lst ((past.take (place + 1)).map W.str), LO.lst [W.str due], LO.lst ((past.take (place + 1)).map W.str ++ [W.str due])]) u2 (h2.length + 2) due (past.take (place + 1) ++ [due]) (place + 1) (deeds ++ [(sh, due)]) [] (some (.ref h1'.length)) (some (.str due)) true (by simp; omega) (s1.note nt k2 hu c3 gd .app (by simp) nl3 l)
    have bq : (due == sh) = false := by simpa using Ne.symm nt
    simp [od, os, bq, ep, cut]
    simp at this
    refine ⟨by omega, ?_⟩
    simpa using this
  · subst e
    have := fin h2 u pa due past place deeds undone (some (.ref h1'.length)) (some (.str due)) false (by omega) (s1.more c3 n2)
    simp [od]
    simpa using this
end K27
set_option Elab.async false
set_option linter.all false
set_option maxRecDepth 100000
set_option maxHeartbeats 2000000
namespace K27
open PySem PySem.Spec PyProof.Rows L2 Fh Fv TL
variable {h0 h h' h2 h3 : LH} {q i d u pa lf : Nat} {sh due : Str} {past : List Str} {place : Nat} {deeds undone : List (Str × Str)}
theorem s_look {x0 x5 x6 x7 x10 x11 : Option W} {D : De} {fine : Bool} (s : Sit h0 h q i d u pa sh past place deeds undone)
    (fin : D.nx [x0, some (.ref q), some (.ref i), some (.ref pa), some (.int (place : Nat)), x5, x6, x7, some (.bl fine), some (if fine = true then .non else .str (Str.ofString "due")), x10, x11] h) :
    TrS (B_look [x0, some (.ref q), some (.ref i), some (.ref pa), some (.int (place : Nat)), x5, x6, x7, some (.bl fine), some (if fine = true then .non else .str (Str.ofString "due")), x10, x11] h) D := by
  have os := (s.good sh (List.mem_of_getElem? s.es)).ok.1
  have od : PyData.strOk (Str.ofString "due") = true := by decide +kernel
  have e1 := s.desk.ei
  have e2 := s.ep
  have e3 : (past.map W.str)[place]? = some (.str sh) := by rw [List.getElem?_map, s.es]; rfl
  cases fine
  · simp [B_look, od, os, e1, e2, e3, s.es]
    simpa using fin
  · simp [B_look, od, os, e1, e2, e3, s.es]
    simpa using fin
theorem s_step {x0 x5 x6 x7 x8 x9 x10 x11 : Option W} {D : De} (s : Sit h0 h q i d u pa sh past place deeds undone) (l : past.length < 50)
    (fin : ∀ h2 u2 pa2 sh2 past2 place2 deeds2 undone2 x6 x7 x8 x9 x10 x11, past2.length ≤ past.length + 1 → Sit h0 h2 q i d u2 pa2 sh2 past2 place2 deeds2 undone2 → D.nx [x0, some (.ref q), some (.ref i), some (.ref pa2), some (.int (place2 : Nat)), x5, x6, x7, x8, x9, x10, x11] h2) :
    TrS (B_step [x0, some (.ref q), some (.ref i), some (.ref pa), some (.int (place : Nat)), x5, x6, x7, x8, x9, x10, x11] h) D := by
  simp [B_step, s.ep, s.es]
  refine (p_roll s.dice s.nl (by omega) (by omega)).ok fun w h1 ⟨⟨r, ew, r0, r2, hd1, c1, _⟩, n1⟩ => ?_
  subst ew
  have s1 := s.roll c1 hd1 n1
  simp
  refine ⟨fun _ => ?_, fun _ => ?_⟩
  · refine s_side s1 fun h2 sh2 place2 deeds2 undone2 x7 fine s2 => ?_
    exact s_look s2 (fin _ _ _ _ _ _ _ _ _ _ _ _ _ _ (by omega) s2)
  · refine s_deed s1 l fun h2 u2 pa2 sh2 past2 place2 deeds2 undone2 x10 x11 fine lp s2 => ?_
    exact s_look s2 (fin _ _ _ _ _ _ _ _ _ _ _ _ _ _ lp s2)
theorem C_run {t : Str} {Q : W → LH → Prop} {E : EQ} (k : Tr (runF 1 C_tab [.str t] h) Q E) : Tr (f_read [.str t] h) (fun w h => isI (Str.ofString "Season") w h (Str.ofString "table") = true ∧ Tr (f_Season_table [w] h) (fun w h => Tr (f_told_table [w] h) Q E) E) E := by
  rw [Tr_run] at k
  simp [C_tab] at k
  exact k
theorem s_end {x0 x5 x6 x7 x8 x9 x10 x11 : Option W} {D : De} (s : Sit h0 h q i d u pa sh past place deeds undone)
    (fin : ∀ h2, Ch [] h h2 → noLam h2 = true → D.nx [x0, some (.ref q), some (.ref i), some (.ref pa), some (.int (place : Nat)), x5, x6, x7, x8, x9, x10, x11] h2) :
    TrS (B_end [x0, some (.ref q), some (.ref i), some (.ref pa), some (.int (place : Nat)), x5, x6, x7, x8, x9, x10, x11] h) D := by
  have gs := s.good sh (List.mem_of_getElem? s.es)
  obtain ⟨X, oX, pX⟩ := p_tab gs
  have od : PyData.strOk (Str.ofString "due") = true := by decide +kernel
  have T1 : ∀ h, h[i]? = some (.ins "Desk" [("shown", .str sh), ("deeds", .ref d), ("undone", .ref u)]) → Tr (f_Desk_table [.ref i] h) (fun w h' => ∃ x, X = some x ∧ w = .str x ∧ Ch [] h h') (fun c p h' => X = none ∧ c = Str.ofString "BadDeed" ∧ Ch [] h h') := fun h e => by
    rw [Tr_run]
    simp [F_Desk_table, e]
    refine C_run ((pX h).imp (fun w h' z => z) fun c p h' ⟨a, b, z⟩ => ?_)
    subst b
    simp [sF1]
    exact ⟨a, z⟩
  have T2 : ∀ h, Tr (f_law_table [.str sh] h) (fun w h' => w = .str (X.getD (Str.ofString "due")) ∧ Ch [] h h') nEx := fun h => by
    rw [Tr_run]
    simp [F_law_table]
    refine C_run ((pX h).imp (fun w h' ⟨x, e, ew, c⟩ => ⟨by rw [e, ew]; rfl, c⟩) fun c p h' ⟨a, b, z⟩ => ?_)
    subst b
    simp [sF1]
    exact ⟨by rw [a]; rfl, z⟩
  have oX2 : PyData.strOk (X.getD (Str.ofString "due")) = true := by
    cases X with
    | none => exact od
    | some x => exact oX x rfl
  have e3 : (past.map W.str)[place]? = some (.str sh) := by rw [List.getElem?_map, s.es]; rfl
  simp [B_end, s.desk.ei]
  have K : ∀ h1 t, Ch [] h h1 → noLam h1 = true → t = X.getD (Str.ofString "due") → D.nx = D.nx := fun _ _ _ _ _ => rfl
  refine ((T1 h s.desk.ei).calm s.nl).imp (fun w h1 ⟨⟨x, ex, ew, c1⟩, n1⟩ => ?_) fun c p h1 ⟨⟨ex, ec, c1⟩, n1⟩ => ?_
  · subst ew
    have ep := c1.at s.ep
    simp [ep, s.es]
    refine ((T2 h1).calm n1).imp (fun w h2 ⟨⟨ew, c2⟩, n2⟩ => ?_) fun _ _ _ z => z.1.elim
    subst ew
    rw [ex] at oX2 ⊢
    simp only [Option.getD_some] at oX2 ⊢
    simp [oX2]
    exact fin h2 (c1.tr c2) n2
  · subst ec
    have ep := c1.at s.ep
    simp [sB1, ep, s.es]
    refine ((T2 h1).calm n1).imp (fun w h2 ⟨⟨ew, c2⟩, n2⟩ => ?_) fun _ _ _ z => z.1.elim
    subst ew
    rw [ex] at oX2 ⊢
    simp only [Option.getD_none] at oX2 ⊢
    simp [oX2]
    exact fin h2 (c1.tr c2) n2
end K27
set_option Elab.async false
set_option linter.all false
set_option maxRecDepth 100000
set_option maxHeartbeats 2000000
namespace K27
open PySem PySem.Spec PyProof.Rows L2 Fh Fv TL
theorem p_law {h : LH} {i0 : Nat} {ns : List Int} (e : h[i0]? = some (.lst (ns.map W.int)) ∨ h[i0]? = some (.rd (ns.map W.int))) (hl : ns.length ≤ 63) (nl : noLam h = true) :
    Tr (f_law [.ref i0] h) (fun w h' => w = .bl true) nEx := by
  have g0 : Good (Str.ofString "") := .inl rfl
  rw [Tr_run]
  simp [F_law_eq]
  refine ((p_law_rounds (n := 1) e (by omega) (by omega) hl).calm nl).imp (fun w h1 ⟨⟨j, ds, ew, ej, dl, dd, dn, nd, c1⟩, n1⟩ => ?_) fun _ _ _ z => z.1.elim
  subst ew
  simp [ej]
  refine for_map (f := W.ref) (fun d sl h' => (∃ a b c e x y z u v w' t, sl = [some (.ref i0), a, b, c, e, x, y, z, u, v, w', t]) ∧ h'[j]? = some (.lst (ds.map W.ref)) ∧ (∀ q ∈ ds, Dice h' q) ∧ noLam h' = true) ⟨⟨_, _, _, _, _, _, _, _, _, _, _, rfl⟩, ej, dd, n1⟩ (fun d sl h' ⟨_, e, _⟩ => by simp [e]) (fun d q r sl h' edd ⟨⟨a, b, c, e4, x5, x6, x7, x8, x9, x10, x11, esl⟩, e, dq, n⟩ => ?_) (fun sl h' _ => by simp)
  subst esl
  have qm : q ∈ ds := by rw [← edd]; simp
  have hd := dq q qm
  have hq := hd.lt
  have hj := lt_of_look e
  refine ⟨_, rfl, ?_⟩
  simp [Tr_run (N := 1) (fb := F_Desk_d_initd_), F_Desk_d_initd_, look_app, List.set_append]
  have s0 : Sit h' (h' ++ [LO.ins (Str.ofString "Desk") [(Str.ofString "shown", W.str (Str.ofString "")), (Str.ofString "deeds", W.ref (List.length h' + 1)), (Str.ofString "undone", W.ref (List.length h' + 2))], LO.lst [], LO.lst [], LO.lst [W.str (Str.ofString "")]]) q h'.length (h'.length + 1) (h'.length + 2) (h'.length + 3) (Str.ofString "") [Str.ofString ""] 0 [] [] :=
    ⟨hd.ch (S := []) .app (by simp), ⟨by simp, by simp, by simp, by omega, by simp, by simp, by simp, by simp⟩, by simp, by simpa using g0, rfl, rfl, by simp, rfl, by simp, by unfold noLam at n ⊢; rw [List.all_append, n]; rfl, .app, by omega, by omega, by omega, by simp⟩
  refine (p_roll s0.dice s0.nl (by omega) (by omega)).ok fun w h2 ⟨⟨k, ew, k0, k1, hd2, c2, _⟩, n2⟩ => ?_
  subst ew
  have s2 := s0.roll c2 hd2 n2
  rw [rng1_of ⟨k0, by omega⟩]
  simp
  refine for_ws (fun d sl h'' => ∃ u pa sh past place deeds undone x5 x6 x7 x8 x9 x10 x11, sl = [some (.ref i0), some (.ref q), some (.ref h'.length), some (.ref pa), some (.int ((place : Nat) : Int)), x5, x6, x7, x8, x9, x10, x11] ∧ past.length ≤ d.length + 1 ∧ Sit h' h'' q h'.length (h'.length + 1) u pa sh past place deeds undone) ⟨_, _, _, _, 0, _, _, _, _, _, _, _, _, _, rfl, by simp, s2⟩ (fun _ _ _ _ => rfl) (fun d2 x r2 sl h3 ed2 ⟨u, pa, sh, past, place, deeds, undone, y5, y6, y7, y8, y9, y10, y11, esl, pl, s3⟩ => ?_) (fun sl h3 ⟨u, pa, sh, past, place, deeds, undone, y5, y6, y7, y8, y9, y10, y11, esl, pl, s3⟩ => ?_)
  · subst esl
    have d2l : d2.length < 10 := by
      have := congrArg List.length ed2
      simp [rngW] at this
      omega
    refine ⟨_, rfl, ?_⟩
    refine s_step s3 (by omega) fun h4 u2 pa2 sh2 past2 place2 deeds2 undone2 x6 x7 x8 x9 x10 x11 lp s4 => ?_
    exact ⟨u2, pa2, sh2, past2, place2, deeds2, undone2, _, _, _, _, _, _, _, rfl, by simp; omega, s4⟩
  · subst esl
    refine s_end s3 fun h4 c4 n4 => ?_
    simp
    have cc := s3.ch.tr0 c4
    have hjq : j ≠ q := fun z => by
      obtain ⟨a, b, c, e2⟩ := hd
      rw [← z, e] at e2
      cases ds with
      | nil => cases qm
      | cons x xs => cases e2
    refine ⟨cc.at e (by simp; exact hjq), fun q2 hq2 => ?_, n4⟩
    by_cases z : q2 = q
    · subst z; exact s3.dice.ch c4 (by simp)
    · exact (dq q2 hq2).ch cc (by simp; exact z)
theorem plain (ns : List Int) (hl : ns.length ≤ 63) (hb : ∀ z ∈ ns, Builtin.Int.intBits z ≤ 1048576) : (∃ h, f_law [.ref 0] [.lst (ns.map W.int)] = .ok (.bl true) h) ∧ ∃ h, f_law [.ref 0] [.rd (ns.map W.int)] = .ok (.bl true) h := by
  refine ⟨?_, ?_⟩
  · obtain ⟨w, h, e, ew⟩ := (p_law (h := [.lst (ns.map W.int)]) (i0 := 0) (ns := ns) (.inl rfl) hl rfl).eq
    exact ⟨h, by rw [e, ew]⟩
  · obtain ⟨w, h, e, ew⟩ := (p_law (h := [.rd (ns.map W.int)]) (i0 := 0) (ns := ns) (.inr rfl) hl rfl).eq
    exact ⟨h, by rw [e, ew]⟩
end K27
set_option Elab.async false
set_option linter.all false
set_option maxRecDepth 100000
set_option maxHeartbeats 0
open PySem PySem.W PySem.Calls PyProof.Rows
theorem PySem.Challenge.cw_fixturehall_k27_a_desk_and_its_deeds_holds : PySem.Challenge.rw_fixturehall_k27_a_desk_and_its_deeds.Holds := by
  w_on; o_law
  refine HandSHeadRun.head_any (r := OpenLaw.row PySem.Challenge.rw_fixturehall_k27_a_desk_and_its_deeds) (q := PySem.W.view K27.R.prog [K27.lawIx]) (H := K27.hk) (ob := K27.ob) (M := 12000) (loose := K27.loose) (kwd := []) K27.ob_eq (by kernel_rfl) (fun s => by kernel_rfl) K27.run (by rfl) (by rfl) (by rfl) (by rfl) (by first | assumption | decide +kernel) (by decide +kernel) ⟨rfl, rfl, rfl, rfl, rfl, by decide +kernel⟩ ?hw ?hc
  case hw => w_witness2
  case hc =>
    refine LamX.walk_ofTsE (n := 63) (k := 45) (x := "script") (CX := fun w => L2.CX PySem.Challenge.pw_fixturehall_k27_a_desk_and_its_deeds w) rfl (by decide) rfl ⟨rfl, by decide +kernel, by decide +kernel⟩ (fun w mg fa h Y G hm => K27.lawAt K27.plain w mg fa h Y G hm) (fun w H s e s' z => ?_)
    obtain ⟨_, _, _, _, _, _, _, _, _, _, _, _, z⟩ := z
    exact z.elim
