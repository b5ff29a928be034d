import PyProof.Rows.All
import Wide.All
import OpenK.AllK
import Wide.FinOn
import HandS.ForMost
import HandS.Exc
import HandS.TryOnly
import HandS.ExcOwn
import HandS.WordsExc
import HandS.AnyAll
import HandS.GenOver
import HandS.GenList
import HandS.Wide
import HandS.Gcd
import HandS.IsInst
import HandS.Style
import HandS.Flow
import HandS.Conv
import HandS.Zip
import HandS.TupAny
import HandS.Deep
import HandS.SortInts
import HandS.NoneIn
import HandS.Comp
import HandS.Defaults
import HandS.HeadHook4
import HandS.HeadWalk
import HandS.Head3
import PySem.Challenge.RW_docketloom_k46_tariffs_and_unfair_pairs
section
set_option Elab.async false
set_option linter.all false
set_option maxRecDepth 100000
set_option maxHeartbeats 2000000
namespace Gx
open PySem PySem.Spec PyProof.Rows L2

/-- the scope of a generator expression within a def whose names are N -/
structure GenSc (N : List Str) (sc scope : Scope) (own : List (Str × Nat)) : Prop where
  kind : scope.kind = .function
  co : scope.isCoroutine = false
  dot : scope.names.lookup (".0" : Str) = some NameKind.local
  ix : ∀ p ∈ own, N[p.2]? = some p.1
  free : ∀ y ∈ scope.names, y.2 = .free → sc.names.lookup y.1 = some .cell ∨ sc.names.lookup y.1 = some .free
  own : ∀ y ∈ scope.names, y.2 = .local → y.1 ∈ own.map (·.1) ∨ y.1 ∉ N
  nocell : ∀ y ∈ scope.names, y.2 ≠ .cell

def genC (N : List Str) (sc scope : Scope) (own : List (Str × Nat)) : Bool :=
  (scope.kind == .function) && !scope.isCoroutine && (scope.names.lookup (".0" : Str) == some NameKind.local)
    && own.all (fun p => N[p.2]? == some p.1)
    && scope.names.all (fun y => !(y.2 == .free) || (sc.names.lookup y.1 == some .cell || sc.names.lookup y.1 == some .free))
    && scope.names.all (fun y => !(y.2 == .local) || ((own.map (·.1)).contains y.1 || !N.contains y.1))
    && scope.names.all (fun y => !(y.2 == .cell))
theorem genSc_by {N : List Str} {sc scope : Scope} {own : List (Str × Nat)} (h : genC N sc scope own = true) : GenSc N sc scope own := by
  simp only [genC, Bool.and_eq_true, beq_iff_eq, Bool.not_eq_true', List.all_eq_true, Bool.or_eq_true, List.contains_iff_mem] at h
  obtain ⟨⟨⟨⟨⟨⟨h1, h2⟩, h3⟩, h4⟩, h5⟩, h6⟩, h7⟩ := h
  refine ⟨h1, h2, h3, h4, fun y hy e => ?_, fun y hy e => ?_, fun y hy e => ?_⟩
  · rcases h5 y hy with z | z
    · simp [e] at z
    · exact z
  · rcases h6 y hy with z | z | z
    · simp [e] at z
    · exact .inl z
    · exact .inr (by simpa using z)
  · have z := h7 y hy
    simp [e] at z

/-- the context of a generator's frame -/
abbrev cxGen (X : Cx) (A' : Around) (s : Shared) (H : Hp) (cenv : Env) (fp : List Addr) : Cx :=
  { X with A := A', s_0 := s, H_0 := H, env := cenv, outer := X.stack, stack := cenv :: X.stack, ex := fp, fn := fun _ => false, pn := [], xe := fun _ _ => False }

section
variable {X : Cx} {pins : List (Addr × Obj)} {σ : L2.St} {H : Hp} {s : Shared}

theorem gen_start {scope : Scope} {own : List (Str × Nat)} {fp : List Addr} {A' : Around} {code : Value} {a : Addr} {go : Obj} {h5 : Heap} {gs : GenState} {tk : Nat} {m : Str → Option Value}
    (I : Inv X pins σ H s) (ok : GenSc X.N X.env.scope scope own) (hN : X.N.Nodup) (hfp : ∀ b ∈ fp, FpOk X pins H b ∧ b < s.heap.objs.size)
    (hfr : A'.frames = some (genEnv scope (cloFrom X.env.cells scope.names []) s.heap.objs.size code builtinsNs X.env :: X.stack)) (hhd : X.calm = true → A'.handled = none)
    (hns : h5.Ns s.heap.objs.size m) (hk : ∀ b o, s.heap.get? b = some o → h5.get? b = some o)
    (ha : h5.get? a = some go) (hlt : s.heap.objs.size < a) (hgd : ∀ v, go.data ≠ .cell v) (hb : gs.bare = true) :
    Inv (cxGen X A' s H (genEnv scope (cloFrom X.env.cells scope.names []) s.heap.objs.size code builtinsNs X.env) fp) [(a, go)] (wipe σ (own.map (·.2))) H
      { s with gens := s.gens.push gs, toks := tk, heap := h5 } := by
  have hfree : ∀ y ∈ scope.names, y.2 = .free → ∃ c, X.env.cells.lookup y.1 = some c := fun y hy e => by
    rcases ok.free y hy e with k | k
    · exact I.ok.has _ (.inl k)
    · exact I.ok.has _ (.inr k)
  have cm : ∀ {y c}, (cloFrom X.env.cells scope.names []).lookup y = some c → X.env.cells.lookup y = some c ∧ c < s.heap.objs.size := fun {y c} hl => by
    rcases cloFrom_mem (PySem.mem_of_lookup hl) with hm | ⟨h1, rfl⟩
    · cases hm
    · obtain ⟨c, hc⟩ := hfree _ h1 rfl
      rw [hc]
      obtain ⟨w, z⟩ := I.cell _ _ hc
      exact ⟨rfl, z.lt⟩
  have fresh_a : H a = none := I.hok.fresh (Nat.le_of_lt hlt)
  generalize hce : genEnv scope (cloFrom X.env.cells scope.names []) s.heap.objs.size code builtinsNs X.env = ce at hfr ⊢
  have cL : ce.locals = s.heap.objs.size := by rw [← hce]; rfl
  have cC : ce.cells = cloFrom X.env.cells scope.names [] := by rw [← hce]; rfl
  have cS : ce.scope = scope := by rw [← hce]; rfl
  have cG : ce.globals = mainGlobals := by rw [← hce]; exact I.ok.glob
  have cB : ce.builtins = builtinsNs := by rw [← hce]; rfl
  have cF : ce.frame = some ce.locals := by rw [← hce]; rfl
  have okG : (cxGen X A' s H ce fp).Ok := by
    refine ⟨I.ok.mod, by show ce.scope.kind = _; rw [cS]; exact ok.kind, cG, cB, by show s.heap.objs.size ≤ ce.locals; rw [cL]; exact Nat.le_refl _,
      fun y z c e1 e2 => ?_, fun y hy => ?_, fun y c z _ => Bool.noConfusion (show false = true from z), hhd, hfr, .inr ⟨rfl, cF⟩, fun b hb => ⟨?_, fun y c e z => ?_⟩, I.bs, Nat.le_trans I.ok.bsz I.sz, fun b o e hb => ?_, fun b hb z => ?_, I.stack, I.stkFree⟩
    · have e1 : ce.cells.lookup y = some c := e1
      have e2 : ce.cells.lookup z = some c := e2
      rw [cC] at e1 e2
      exact I.ok.inj y z c (cm e1).1 (cm e2).1
    · show ∃ c, ce.cells.lookup y = some c
      have hy : ce.scope.names.lookup y = some .cell ∨ ce.scope.names.lookup y = some .free := hy
      rw [cS] at hy
      rcases hy with hy | hy
      · exact absurd rfl (ok.nocell _ (PySem.mem_of_lookup hy))
      · rw [cC]
        exact mem_lookup (cloFrom_has (cells := X.env.cells) (acc := []) (PySem.mem_of_lookup hy))
    · show b ≠ ce.locals
      rw [cL]; exact Nat.ne_of_lt (hfp b hb).2
    · have e : ce.cells.lookup y = some c := e
      rw [cC] at e
      exact (hfp b hb).1.2.2.2.2.1 y c (cm e).1 z
    · rcases (hfp b hb).1.2.2.2.1 with z | z
      · exact I.ok.noex b o e z
      · exact absurd (Nat.lt_of_lt_of_le (Heap.lt_size e) (Nat.le_trans I.ok.bsz z)) (Nat.lt_irrefl _)
    · rcases List.mem_cons.mp (I.stkSub b z) with z | z
      · exact (hfp b hb).1.2.1 z
      · exact (hfp b hb).1.2.2.1 z
  refine ⟨okG, rfl, ?_, Un.kept hk, ⟨m, ?_, fun i y av e1 e2 e3 => ?_⟩, fun y c e => ?_, ?_, fun y c e => ?_, fun p hp => ?_, I.hok.kept hk, by rw [wipe_length]; exact I.len⟩
  · exact I.bare.push hb
  · show h5.Ns ce.locals m
    rw [cL]; exact hns
  · obtain ⟨e2, hne⟩ := wipe_some e2
    have e3 : ce.scope.names.lookup y = some .local ∨ ce.scope.names.lookup y = some .cell ∨ ce.scope.names.lookup y = some .free := e3
    rw [cS] at e3
    rcases e3 with e3 | e3 | e3
    · exfalso
      rcases ok.own _ (PySem.mem_of_lookup e3) rfl with q | q
      · obtain ⟨p, hp, hpy⟩ := List.mem_map.mp q
        have e4 := ok.ix p hp
        have hpy : p.1 = y := hpy
        rw [hpy] at e4
        exact hne (List.mem_map.mpr ⟨p, hp, nodup_ix hN e4 e1⟩)
      · exact q (List.mem_of_getElem? e1)
    · exact absurd rfl (ok.nocell _ (PySem.mem_of_lookup e3))
    · obtain ⟨m0, hn0, hl0⟩ := I.loc
      have hvis : Vis X.env.scope y := (ok.free _ (PySem.mem_of_lookup e3) rfl).elim (fun k => .inr (.inl k)) (fun k => .inr (.inr k))
      obtain ⟨w, r, q⟩ := hl0 i y av e1 e2 hvis
      refine ⟨w, r, .inr ⟨.inr (show ce.scope.names.lookup y = some .free by rw [cS]; exact e3), ?_⟩⟩
      rcases q with ⟨k, _⟩ | ⟨_, c', e', z⟩
      · have k : X.env.scope.names.lookup y = some .local := k
        rcases ok.free _ (PySem.mem_of_lookup e3) rfl with k' | k' <;> rw [show X.env.scope.names.lookup y = _ from k'] at k <;> cases k
      · obtain ⟨c, hc⟩ := mem_lookup (cloFrom_has (cells := X.env.cells) (acc := []) (PySem.mem_of_lookup e3))
        have hcc := (cm hc).1
        rw [e'] at hcc
        cases hcc
        exact ⟨_, by rw [cC]; exact hc, z.keeps hk⟩
  · have e : ce.cells.lookup y = some c := e
    rw [cC] at e
    obtain ⟨w, z⟩ := I.cell y c (cm e).1
    exact ⟨w, z.keeps hk⟩
  · show H ce.locals = none
    rw [cL]; exact I.hok.fresh (Nat.le_refl _)
  · have e : ce.cells.lookup y = some c := e
    rw [cC] at e
    exact I.freeC y c (cm e).1
  · have e : p = (a, go) := by simpa using (show p ∈ ([] : List (Addr × Obj)) ++ [(a, go)] from hp)
    subst e
    refine ⟨ha, fresh_a, ?_, fun hz => ?_, hgd⟩
    · show a ≠ ce.locals
      rw [cL]; exact Nat.ne_of_gt hlt
    · rcases List.mem_cons.mp (I.stkSub a hz) with z | z
      · have := I.lt
        rw [← z] at this
        exact absurd (Nat.lt_trans hlt this) (Nat.lt_irrefl _)
      · exact I.nofs (Nat.le_of_lt hlt) z
end
end Gx
end
section
set_option Elab.async false
set_option linter.all false
set_option maxRecDepth 100000
set_option maxHeartbeats 2000000
namespace Gx
open PySem PySem.Spec PyProof.Rows L2

/-- what a turn over the source is to bring: the target is set, the tests pass or not, the element's bool stops the consumer or not -/
abbrev TurnB (stopOn : Bool) (J : It) (g : TG) (tt : TT) (te : TE) (vs : List Nat) (σ : L2.St) (Qe : V → Hp → Prop) (W : Nat → Nat → Hp → Prop) : Prop :=
  ∀ i m H, W i m H → (J.stop i H ∧ Qe (.bl (!stopOn)) H) ∨
    (J.go i H ∧ ∃ Nx : Hp → Prop, (∀ H', Nx H' → ∃ m', m' < m ∧ W (i + 1) m' H') ∧
      ∀ x H', J.yld i H x H' → g x (wipe σ vs) H' fun σ2 H2 => wipe σ2 vs = wipe σ vs ∧ tt σ2 H2 fun b H3 =>
        if b = true then te σ2 H3 fun y H4 => ∃ c : Bool, y = .bl c ∧ (if c = stopOn then Qe (.bl stopOn) H4 else Nx H4) else Nx H3)

abbrev EndB (Xg : Cx) (gp : List (Addr × Obj)) (stopOn : Bool) (Qe : V → Hp → Prop) : Nat → Shared → Shared → Prop := fun _ _ s1 =>
  ∃ (σ : L2.St) (H : Hp), Inv Xg gp σ H s1 ∧ Qe (.bl (!stopOn)) H
abbrev ProB (Xg : Cx) (gp : List (Addr × Obj)) (stopOn : Bool) (Qe : V → Hp → Prop) : Protocol := fun _ _ v s kap =>
  ∃ (c : Bool) (σ : L2.St) (H : Hp), v = Value.bool c ∧ Inv Xg gp σ H s ∧ (if c = stopOn then Qe (.bl stopOn) H else
    ∀ s2 : Shared, (∀ b o, s.heap.get? b = some o → s2.heap.get? b = some o) → s2.os = s.os → AllBare s2.gens → kap (.send .none) s2)

theorem Inv.moreOf {X : Cx} {pins : List (Addr × Obj)} {σ : L2.St} {H : Hp} {s s2 : Shared} (I : Inv X pins σ H s) (k : ∀ b o, s.heap.get? b = some o → s2.heap.get? b = some o) (ho : s2.os = s.os) (hb : AllBare s2.gens) : Inv X pins σ H s2 :=
  I.call' (ch := []) ho (Un.kept k) (I.hok.kept k) hb (fun b hb => absurd hb (by simp))

section
variable {X : Cx} {elt tg iter : Expr} {ifs : List Expr} {scope : Scope} {pos : Pos} {g : TG} {tt : TT} {te : TE} {vs : List Nat} {σ : L2.St}
  {A A' : Around} {s4 : Shared} {H4 : Hp} {ce : Env} {fp : List Addr} {it : Addr} {tn : Nat → Heap → Prop} {J : It} {gp : List (Addr × Obj)}

theorem seg_turns (stopOn : Bool) (Qe : V → Hp → Prop) (W : Nat → Nat → Hp → Prop) (hc : X.calm = true)
    (hA : A.over (.compLoop (.GeneratorExp elt [⟨tg, iter, ifs, 0⟩] scope pos) 0 (.ref it) .none ce) [] = A')
    (T : Turn X.prog X.w X.K tg J fp it tn)
    (pg : PG (cxGen X A' s4 H4 ce fp) tg g) (pt : PTs (cxGen X A' s4 H4 ce fp) ifs tt) (pe : PE (cxGen X A' s4 H4 ce fp) elt te)
    (hco : ce.scope.isCoroutine = false) (turn : TurnB stopOn J g tt te vs σ Qe W) (hgp : ∀ p ∈ gp, p.1 ∉ fp) :
    ∀ (m n i : Nat) (s0 s : Shared) (H : Hp), m < n → Inv (cxGen X A' s4 H4 ce fp) gp (wipe σ vs) H s → tn i s.heap → (∀ b ∈ fp, H b = none) → W i m H →
      Seg (model X.prog X.w) A (fun n s0 r s1 => r = .ok .next ∧ EndB (cxGen X A' s4 H4 ce fp) gp stopOn Qe n s0 s1) (ProB (cxGen X A' s4 H4 ce fp) gp stopOn Qe) n s0
        (.compLoop (.GeneratorExp elt [⟨tg, iter, ifs, 0⟩] scope pos) 0 (.ref it) .none ce)
        ((model X.prog X.w).den (.compLoop (.GeneratorExp elt [⟨tg, iter, ifs, 0⟩] scope pos) 0 (.ref it) .none ce)) [] s := by
  have run : ∀ {α : Type} {m : Sem α} {Q : α → Shared → Prop} {E : Value → Shared → Prop} {s : Shared}, wpAny (model X.prog X.w) A' m Q (fun _ _ => False) s →
      wpAny (model X.prog X.w) (A.over (.compLoop (.GeneratorExp elt [⟨tg, iter, ifs, 0⟩] scope pos) 0 (.ref it) .none ce) []) m Q E s := fun h => by
    rw [hA]; exact thnF h fun _ _ q => q
  have stat : ∀ {pn : List (Addr × Obj)} {σ' : L2.St} {H' : Hp} {s' : Shared}, Inv (cxGen X A' s4 H4 ce fp) pn σ' H' s' → (∀ b ∈ fp, H' b = none) → (∀ p ∈ pn, p.1 ∉ fp) → ∀ b ∈ fp, FpOk (cxGen X A' s4 H4 ce fp) pn H' b :=
    fun {pn σ' H' s'} I' hn hp b hb => ⟨hn b hb, (I'.ok.exf b hb).1, I'.ok.exfs b hb, .inl hb, fun x c e => (I'.ok.exf b hb).2 x c e, fun p hpm z => by
      have hpm : p ∈ ([] : List (Addr × Obj)) ++ pn := hpm
      exact hp p (by simpa using hpm) (by rw [z]; exact hb)⟩
  intro m
  induction m using Nat.strongRecOn with
  | ind m ih =>
    intro n i s0 s H hmn I st hn w
    show Seg _ A _ _ _ s0 _ ((compTurn (.GeneratorExp elt [⟨tg, iter, ifs, 0⟩] scope pos) 0 (.ref it) .none ce).onRaise (leaving ce)) [] s
    rw [compTurn_gen, Sem.onRaise_eq_wrap]
    refine seg_bind_wrap (wpAny_standAt ?_)
    rcases turn i m H w with ⟨stop, q⟩ | ⟨go, Nx, hNx, step⟩
    · refine seg_bind_wrap (run (thnF (T.done (cxGen X A' s4 H4 ce fp) rfl rfl rfl hc i gp s _ H (fun _ _ => False) I (stat I hn hgp) st stop) fun r s6 ⟨hr, I6⟩ => ?_))
      subst hr
      exact seg_end (.ok .next) ⟨rfl, _, H, I6, q⟩
    · refine seg_bind_wrap (run (thnF (T.item (cxGen X A' s4 H4 ce fp) rfl rfl rfl hc i gp s _ H (fun _ _ => False) I (stat I hn hgp) st go) fun r s6 ⟨u, hr, h6⟩ => ?_))
      subst hr
      refine seg_bind_wrap (run (thnF h6 fun _ s7 ⟨x, H7, I7, r7, y7, st7, n7⟩ => ?_))
      have I7' := I7.pinned (stat I7 n7 hgp) (T.obj _ _ st7)
      refine seg_bind_wrap (run (thnF (pg.run _ s7 _ H7 x u _ I7' r7 (step x H7 y7)) fun _ s8 ⟨σ8, H8, I8, hw8, q8⟩ => ?_))
      refine seg_bind_wrap (run (thnF (pt.run _ s8 σ8 H8 _ I8 q8) fun b s9 ⟨H9, I9, q9⟩ => ?_))
      have hl : (wipe σ vs).length = σ8.length := by rw [← hw8, wipe_length]
      have next : ∀ {k : Nat} {s' s1 : Shared} {H' : Hp}, m ≤ k → Inv (cxGen X A' s4 H4 ce fp) (gp ++ pinsAt fp s7.heap) σ8 H' s' → Nx H' →
          Seg (model X.prog X.w) A (fun n s0 r s1 => r = .ok .next ∧ EndB (cxGen X A' s4 H4 ce fp) gp stopOn Qe n s0 s1) (ProB (cxGen X A' s4 H4 ce fp) gp stopOn Qe) k s1
            (.compLoop (.GeneratorExp elt [⟨tg, iter, ifs, 0⟩] scope pos) 0 (.ref it) .none ce)
            ((model X.prog X.w).den (.compLoop (.GeneratorExp elt [⟨tg, iter, ifs, 0⟩] scope pos) 0 (.ref it) .none ce)) [] s' := fun {k s' s1 H'} hk I' nx => by
        obtain ⟨m', hm, w'⟩ := hNx H' nx
        have pin' : ∀ b ∈ fp, ∀ o, s7.heap.get? b = some o → s'.heap.get? b = some o ∧ H' b = none := fun b hb o e =>
          let z := I'.pin (b, o) (List.mem_append_right _ (List.mem_append_right _ (mem_pinsAt hb e)))
          ⟨z.1, z.2.1⟩
        refine ih m' hm k (i + 1) s1 s' H' (by omega) ((I'.unpinned (pins := gp)).weak hl (fun j v e => ?_)) (T.keep _ _ _ st7 fun b hb o e => (pin' b hb o e).1) (fun b hb => ?_) w'
        · rw [← hw8] at e
          exact (wipe_some e).1
        · obtain ⟨o, e, _⟩ := T.obj _ _ st7 b hb
          exact (pin' b hb o e).2
      cases b with
      | false =>
        simp only [Bool.false_eq_true, if_false] at q9 ⊢
        exact seg_again rfl (next (by omega) I9 q9)
      | true =>
        simp only [if_true] at q9 ⊢
        obtain ⟨k, rfl⟩ : ∃ k, n = k + 1 := ⟨n - 1, by omega⟩
        have hy : ∀ v, yieldOut ce v = yieldValue v := fun v => by simp only [yieldOut, hco, Bool.false_eq_true, if_false]
        simp only [hy]
        rw [Sem.bind_eq_wrap', Sem.bind_eq_wrap', Sem.wrap_wrap, Sem.wrap_wrap]
        refine seg_wrap (run (thnF (pe.run _ s9 σ8 H9 _ I9 q9) fun z s10 ⟨yv, H10, I10, r10, c, ey, q10⟩ => ?_))
        subst ey
        obtain rfl : z = Value.bool c := r10
        refine seg_at (seg_yield rfl rfl rfl ⟨c, σ8, H10, rfl, I10.unpinned, ?_⟩)
        by_cases e : c = stopOn
        · rw [if_pos e] at q10 ⊢
          exact q10
        · rw [if_neg e] at q10 ⊢
          exact fun s2 hk ho hb => seg_again rfl (next (by omega) (Inv.moreOf I10 hk ho hb) q10)
end
end Gx
end
section
set_option Elab.async false
set_option linter.all false
set_option maxRecDepth 100000
set_option maxHeartbeats 2000000
namespace Gx
open PySem PySem.Spec PyProof.Rows L2 GenW

section
variable {X : Cx} {Xg : Cx} {gp : List (Addr × Obj)} {stopOn : Bool} {Qe : V → Hp → Prop} {A : Around} {a : Addr} {gn : Nat} {Rz : Result → Shared → Prop}

/-- the state between two turns of the consumer -/
def Ready (M : Model) (A : Around) (Xg : Cx) (gp : List (Addr × Obj)) (stopOn : Bool) (Qe : V → Hp → Prop) (a : Addr) (gn n : Nat) (s : Shared) : Prop :=
  s.heap.NoLimit ∧ s.heap.IsGen a gn ∧ ∃ gs, s.gens[gn]? = some gs ∧
    gs.Goes M A.in1.in1 (fun n s0 r s1 => r = .ok .next ∧ EndB Xg gp stopOn Qe n s0 s1) (ProB Xg gp stopOn Qe) n (.send .none) (s.setGen gn .running)

/-- one step of the consumer: the generator is woken -/
theorem next_turn {E : Value → Shared → Prop} {s : Shared} {n : Nat} {Q : Option Value → Shared → Prop} (hh : A.handled = none) (hd : A.depth < recursionLimit)
    (hI : ∀ (σ : L2.St) (H : Hp) (s : Shared), Inv Xg gp σ H s → s.heap.IsGen a gn) (r : Ready (model Xg.prog Xg.w) A Xg gp stopOn Qe a gn n s)
    (hend : ∀ (σ : L2.St) (H : Hp) (s' : Shared), Inv Xg gp σ H s' → Qe (.bl (!stopOn)) H → Q none s')
    (hstop : ∀ (σ : L2.St) (H : Hp) (s' : Shared), Inv Xg gp σ H s' → Qe (.bl stopOn) H → Q (some (.bool stopOn)) s')
    (hgo : ∀ (k : Nat) (s' : Shared), n = k + 1 → Ready (model Xg.prog Xg.w) A Xg gp stopOn Qe a gn k s' → Q (some (.bool (!stopOn))) s') :
    wpAny (model Xg.prog Xg.w) A.in1 (pyNext (.ref a)) Q E s := by
  obtain ⟨hl, hg, gs, hgs, goes⟩ := r
  have hgl : gn < s.gens.size := (Array.getElem?_eq_some_iff.mp hgs).1
  refine wpAny_gsz (n := gn + 1) hgl ?_
  refine wpAny_pyNext_genexpQ (A := A.in1) (P := EndB Xg gp stopOn Qe) hh hl hd hg hgs goes (fun v s1 gs' hbare hv => ?_) (fun s1 hp h' hk => ?_)
  · obtain ⟨c, σ, H, rfl, I, hq⟩ := hv
    intro hsz
    have hsz1 : gn < s1.gens.size := by
      have q : (s1.setGen gn gs').gens.size = s1.gens.size := setGen_size _ _ _
      omega
    have I2 : Inv Xg gp σ H (s1.setGen gn gs') := Inv.moreOf I (fun _ _ e => e) rfl (allBare_setGen I.bare hbare)
    by_cases e : c = stopOn
    · rw [if_pos e] at hq
      subst e
      exact hstop σ H _ I2 hq
    · rw [if_neg e] at hq
      have ec : c = !stopOn := by cases c <;> cases stopOn <;> simp_all
      subst ec
      cases n with
      | zero => exact (hq s1 (fun _ _ e => e) rfl I.bare).elim
      | succ k =>
        refine hgo k _ rfl ⟨I2.nolimit, hI σ H _ I2, gs', setGen_at hsz1, ?_⟩
        refine hq _ (fun _ _ e => e) rfl ?_
        exact allBare_setGen (s := s1.setGen gn gs') I2.bare rfl
  · obtain ⟨σ, H, I, hq⟩ := hp
    intro _
    have I2 : Inv Xg gp σ H (s1.setGen gn .finished) := Inv.moreOf I (fun _ _ e => e) rfl (allBare_setGen I.bare rfl)
    exact hend σ H _ (Inv.moreOf I2 hk rfl I2.bare) hq

theorem all_turns (hh : A.handled = none) (hd : A.depth < recursionLimit) (hI : ∀ (σ : L2.St) (H : Hp) (s : Shared), Inv Xg gp σ H s → s.heap.IsGen a gn)
    (hend : ∀ (c : Bool) (σ : L2.St) (H : Hp) (s' : Shared), Inv Xg gp σ H s' → Qe (.bl c) H → Rz (.ok (.ret (.bool c))) s') :
    ∀ (n : Nat) (s : Shared), Ready (model Xg.prog Xg.w) A Xg gp false Qe a gn n s → codeAny (model Xg.prog Xg.w) A (.builtin "all.loop" ⟨[.ref a], []⟩) Rz s := by
  intro n
  induction n with
  | zero =>
    intro s r
    refine codeAny_builtin F.entry_all_loop ?_
    rw [Around.under_plainId F.plain_all_loop _]
    show wpAny _ A.in1 (pyNext (.ref a) >>= _) _ _ s
    refine wpAny_bind (next_turn hh hd hI r (fun σ H s' I q => ?_) (fun σ H s' I q => ?_) fun k s' e _ => by cases e)
    · exact wpAny_bind (wpAny_rule (wpAny_pure (hend true σ H s' I q)))
    · refine wpAny_bind (wpAny_holding (wpAny_truthy_bool (wpAny_bind (wpAny_letGo ?_))))
      simp only [Bool.false_eq_true, if_false]
      exact wpAny_bind (wpAny_rule (wpAny_pure (hend false σ H s' I q)))
  | succ n ih =>
    intro s r
    refine codeAny_builtin F.entry_all_loop ?_
    rw [Around.under_plainId F.plain_all_loop _]
    show wpAny _ A.in1 (pyNext (.ref a) >>= _) _ _ s
    refine wpAny_bind (next_turn hh hd hI r (fun σ H s' I q => ?_) (fun σ H s' I q => ?_) fun k s' e r' => ?_)
    · exact wpAny_bind (wpAny_rule (wpAny_pure (hend true σ H s' I q)))
    · refine wpAny_bind (wpAny_holding (wpAny_truthy_bool (wpAny_bind (wpAny_letGo ?_))))
      simp only [Bool.false_eq_true, if_false]
      exact wpAny_bind (wpAny_rule (wpAny_pure (hend false σ H s' I q)))
    · obtain rfl : n = k := Nat.succ.inj e
      refine wpAny_bind (wpAny_holding (wpAny_truthy_bool (wpAny_bind (wpAny_letGo ?_))))
      simp only [Bool.not_false, if_true]
      exact wpAny_pure ⟨plainId_quiet F.plain_all_loop _, ih s' r'⟩
theorem any_turns (hh : A.handled = none) (hd : A.depth < recursionLimit) (hI : ∀ (σ : L2.St) (H : Hp) (s : Shared), Inv Xg gp σ H s → s.heap.IsGen a gn)
    (hend : ∀ (c : Bool) (σ : L2.St) (H : Hp) (s' : Shared), Inv Xg gp σ H s' → Qe (.bl c) H → Rz (.ok (.ret (.bool c))) s') :
    ∀ (n : Nat) (s : Shared), Ready (model Xg.prog Xg.w) A Xg gp true Qe a gn n s → codeAny (model Xg.prog Xg.w) A (.builtin "any.loop" ⟨[.ref a], []⟩) Rz s := by
  intro n
  induction n with
  | zero =>
    intro s r
    refine codeAny_builtin F.entry_any_loop ?_
    rw [Around.under_plainId F.plain_any_loop _]
    show wpAny _ A.in1 (pyNext (.ref a) >>= _) _ _ s
    refine wpAny_bind (next_turn hh hd hI r (fun σ H s' I q => ?_) (fun σ H s' I q => ?_) fun k s' e _ => by cases e)
    · exact wpAny_bind (wpAny_rule (wpAny_pure (hend false σ H s' I q)))
    · refine wpAny_bind (wpAny_holding (wpAny_truthy_bool (wpAny_bind (wpAny_letGo ?_))))
      simp only [if_true]
      exact wpAny_bind (wpAny_rule (wpAny_pure (hend true σ H s' I q)))
  | succ n ih =>
    intro s r
    refine codeAny_builtin F.entry_any_loop ?_
    rw [Around.under_plainId F.plain_any_loop _]
    show wpAny _ A.in1 (pyNext (.ref a) >>= _) _ _ s
    refine wpAny_bind (next_turn hh hd hI r (fun σ H s' I q => ?_) (fun σ H s' I q => ?_) fun k s' e r' => ?_)
    · exact wpAny_bind (wpAny_rule (wpAny_pure (hend false σ H s' I q)))
    · refine wpAny_bind (wpAny_holding (wpAny_truthy_bool (wpAny_bind (wpAny_letGo ?_))))
      simp only [if_true]
      exact wpAny_bind (wpAny_rule (wpAny_pure (hend true σ H s' I q)))
    · obtain rfl : n = k := Nat.succ.inj e
      refine wpAny_bind (wpAny_holding (wpAny_truthy_bool (wpAny_bind (wpAny_letGo ?_))))
      simp only [Bool.not_true, Bool.false_eq_true, if_false]
      exact wpAny_pure ⟨plainId_quiet F.plain_any_loop _, ih s' r'⟩
end
end Gx
end
section
set_option Elab.async false
set_option linter.all false
set_option maxRecDepth 100000
set_option maxHeartbeats 4000000
namespace Gx
open PySem PySem.Spec PyProof.Rows L2 GenW

theorem over_gen {A : Around} {elt : Expr} {gs : List Comprehension} {scope : Scope} {pos : Pos} {it acc : Value} {env : Env} : A.over (.compLoop (.GeneratorExp elt gs scope pos) 0 it acc env) [] = A.deeper env := rfl

section
variable {X : Cx} {elt tg iter : Expr} {ifs : List Expr} {scope : Scope} {pos : Pos} {g : TG} {tt : TT} {te : TE} {vs : List Nat} {σ : L2.St}
  {A A' : Around} {s4 : Shared} {H4 : Hp} {ce : Env} {fp : List Addr} {it : Addr} {tn : Nat → Heap → Prop} {J : It} {gp : List (Addr × Obj)}

theorem seg_begin (stopOn : Bool) (Qe : V → Hp → Prop) (W : Nat → Nat → Hp → Prop) (hc : X.calm = true)
    (hA : A.deeper ce = A')
    (T : Turn X.prog X.w X.K tg J fp it tn)
    (pg : PG (cxGen X A' s4 H4 ce fp) tg g) (pt : PTs (cxGen X A' s4 H4 ce fp) ifs tt) (pe : PE (cxGen X A' s4 H4 ce fp) elt te)
    (hco : ce.scope.isCoroutine = false) (turn : TurnB stopOn J g tt te vs σ Qe W) (hgp : ∀ p ∈ gp, p.1 ∉ fp)
    (m n : Nat) (s0 s : Shared) (H : Hp) (hmn : m < n) (I : Inv (cxGen X A' s4 H4 ce fp) gp (wipe σ vs) H s) (st : tn 0 s.heap) (hn : ∀ b ∈ fp, H b = none) (w : W 0 m H) :
      Seg (model X.prog X.w) A (fun n s0 r s1 => r = .ok .next ∧ EndB (cxGen X A' s4 H4 ce fp) gp stopOn Qe n s0 s1) (ProB (cxGen X A' s4 H4 ce fp) gp stopOn Qe) n s0
        (.compStart (.GeneratorExp elt [⟨tg, iter, ifs, 0⟩] scope pos) 0 (.ref it) .none ce)
        ((model X.prog X.w).den (.compStart (.GeneratorExp elt [⟨tg, iter, ifs, 0⟩] scope pos) 0 (.ref it) .none ce)) [] s := by
  have loop := seg_turns (iter := iter) (scope := scope) (pos := pos) stopOn Qe W hc (by rw [over_gen]; exact hA) T pg pt pe hco turn hgp m n 0 s0 s H hmn I st hn w
  show Seg _ A _ _ _ s0 _ ((compStart (.GeneratorExp elt [⟨tg, iter, ifs, 0⟩] scope pos) 0 (.ref it) .none ce).onRaise (leaving ce)) [] s
  unfold compStart
  rw [Sem.onRaise_eq_wrap]
  show Seg _ A _ _ _ s0 _ ((ask >>= _).wrap _ _ _ _) [] s
  refine seg_bind_wrap (wpAny_askSetting ?_)
  split
  · exact seg_again rfl loop
  · refine seg_bind_wrap (wpAny_rule ?_)
    first
      | exact seg_bind_wrap (wpAny_standAt (seg_bind_wrap (T.self _ 0 s _ _ st (seg_again rfl loop))))
      | (show Seg _ A _ _ _ s0 _ ((standAt iter.pos >>= _).wrap _ _ _ _) [] s
         exact seg_bind_wrap (wpAny_standAt (seg_bind_wrap (T.self _ 0 s _ _ st (seg_again rfl loop)))))

/-- all(..), any(..) of a generator expression: P is the address of the table of the def's code -/
def tGenB (stopOn : Bool) (P : Addr) (wi : TI) (g : TG) (tt : TT) (te : TE) (vs : List Nat) : TE := fun σ H Q => wi σ H fun J H1 => GxR.TabG H1 P ∧
  ∀ H2, GxR.Tabbed P H1 H2 → ∃ W : Nat → Nat → Hp → Prop, (∃ m, W 0 m H2) ∧ TurnB stopOn J g tt te vs σ Q W

/-- the generator has been made, ready for its consumer -/
def Made (X : Cx) (pins : List (Addr × Obj)) (σ : L2.St) (stopOn : Bool) (Q : VK) (v : Value) (s5 : Shared) : Prop :=
  ∃ (a : Addr) (gn n : Nat) (Xg : Cx) (gp : List (Addr × Obj)), v = .ref a ∧ Xg.prog = X.prog ∧ Xg.w = X.w ∧
    (∀ (σ' : L2.St) (H : Hp) (s : Shared), Inv Xg gp σ' H s → s.heap.IsGen a gn) ∧ Ready (model Xg.prog Xg.w) X.A Xg gp stopOn Q a gn n s5 ∧
    (∀ (c : Bool) (σ' : L2.St) (H : Hp) (s' : Shared), Inv Xg gp σ' H s' → Q (.bl c) H → EP X pins σ Q (.bool c) s')

theorem gen_made {stopOn : Bool} {c P : Addr} {gpos : Pos} {own : List (Str × Nat)} {wi : TI} {k : Nat} {pins : List (Addr × Obj)} {s : Shared} {H : Hp} {Q : VK}
    (hc : X.calm = true) (hN : X.N.Nodup) (hr : Room k X.A) (TB : GxR.TabB X.base X.mg c P) (hcode : X.env.code = .ref c) (ok : GenSc X.N X.env.scope scope own) (hi : PI X tg iter wi)
    (hg : ∀ (A' : Around) (s : Shared) (H : Hp) (code : Value) (cl : List (Str × Addr)) (C : Addr) (fp : List Addr), (∃ env, A' = X.A.in1.in1.deeper env) → PG (cxGen X A' s H (genEnv scope cl C code builtinsNs X.env) fp) tg g)
    (ht : ∀ (A' : Around) (s : Shared) (H : Hp) (code : Value) (cl : List (Str × Addr)) (C : Addr) (fp : List Addr), (∃ env, A' = X.A.in1.in1.deeper env) → PTs (cxGen X A' s H (genEnv scope cl C code builtinsNs X.env) fp) ifs tt)
    (he : ∀ (A' : Around) (s : Shared) (H : Hp) (code : Value) (cl : List (Str × Addr)) (C : Addr) (fp : List Addr), (∃ env, A' = X.A.in1.in1.deeper env) → PE (cxGen X A' s H (genEnv scope cl C code builtinsNs X.env) fp) elt te)
    (hs : ∀ v, genFold iter X.env v = pure v) (I : Inv X pins σ H s) (h : tGenB stopOn P wi g tt te (own.map (·.2)) σ H Q) :
    wpAny (model X.prog X.w) X.A (eval (.GeneratorExp elt [⟨tg, iter, ifs, 0⟩] scope gpos) X.env) (Made X pins σ stopOn Q) X.xe s := by
  have hfree : ∀ y ∈ scope.names, y.2 = .free → ∃ c, X.env.cells.lookup y.1 = some c := fun y hy e => by
    rcases ok.free y hy e with k | k
    · exact I.ok.has _ (.inl k)
    · exact I.ok.has _ (.inr k)
  refine wpAny_GeneratorExp_make ok.co (closure_ok hfree) ok.nocell ok.dot ok.kind hr.depth ?_ hs
  refine thn (hi.run pins s σ H _ I h) fun xv s1 hx => thn hx fun itv s2 h2 => ?_
  obtain ⟨it, fp, tn, J, H1, e, I2, T, st2, f2, ⟨ps, hP, htr⟩, q⟩ := h2
  subst e
  refine ⟨I2.nolimit, ?_⟩
  have hPs : s2.heap.get? P = some { cls := .none, data := .fields ps } := I2.hok P _ hP
  have cd : PySem.W.CodeHd s2.heap c P := TB.code.keeps I2.bk
  -- behind the code object
  have cont : ∀ (code : Value) (h3 : Heap) (tk : Nat) (ps' : Array Value), Heap.ExtBut P s2.heap h3 → h3.get? P = some { cls := .none, data := .fields ps' } → (∃ more, ps' = ps ++ more) → TriplesOk ps'.toList →
      wpAny (model X.prog X.w) X.A (builtinsFor X.env.globals X.env.builtins) (fun bi s₄ => ∀ h', h'.Ns s₄.heap.objs.size (fun y => if y = ".0" then some (Value.ref it) else none) → Heap.SameBut s₄.heap.objs.size (s₄.heap.push { cls := .type "frame", data := .dict #[] }) h' →
          Made X pins σ stopOn Q (.ref h'.objs.size) { s₄ with
            gens := s₄.gens.push (.fresh (.compStart (.GeneratorExp elt [⟨tg, iter, ifs, 0⟩] scope gpos) 0 (.ref it) .none (genEnv scope (cloFrom X.env.cells scope.names []) s₄.heap.objs.size code bi X.env))),
            toks := s₄.toks + 1 + 1 + 1,
            heap := h'.push { cls := .type "generator", data := .fields #[.int s₄.gens.size 0, .str "<genexpr>" (s₄.toks + 1), .str (X.env.qual ++ "<genexpr>") (s₄.toks + 1 + 1)] } }) X.xe { s2 with heap := h3, toks := tk } := by
    intro code h3 tk ps' hx hP3 hmore ht3
    obtain ⟨more, em⟩ := hmore
    subst em
    have I3 : Inv X pins σ (upd H1 P (.tbl (ps ++ more))) { s2 with heap := h3, toks := tk } := GxR.inv_tab (s := s2) (g' := s2.gens) (d' := s2.drawn) (t' := tk) I2 hP (fun b o hb e => hx b o hb e) hP3 I2.bare
    have nP : ∀ b ∈ fp, b ≠ P := fun b hb z => by
      have q1 := (f2 b hb).1
      rw [z, hP] at q1
      cases q1
    have f3 : ∀ b ∈ fp, FpOk X pins (upd H1 P (.tbl (ps ++ more))) b := fun b hb => ⟨by rw [upd_ne (nP b hb)]; exact (f2 b hb).1, (f2 b hb).2⟩
    have st3 : tn 0 h3 := T.keep _ _ _ st2 fun b hb o e => hx b o (nP b hb) e
    obtain ⟨W, ⟨m0, w0⟩, turn⟩ := q _ (⟨⟨ps ++ more, upd_same, ht3⟩, fun b hb => upd_ne hb⟩ : GxR.Tabbed P H1 (upd H1 P (.tbl (ps ++ more))))
    generalize hH3 : upd H1 P (.tbl (ps ++ more)) = H3 at I3 f3 w0
    generalize hs3 : ({ s2 with heap := h3, toks := tk } : Shared) = s3 at I3 ⊢
    have e3 : s3.heap = h3 := by rw [← hs3]
    obtain ⟨bm, ob, b1, b2, b3, b4, b5, b6, b7, b8⟩ := TB.bm
    refine wpAny_builtinsFor (m := X.mg) (by rw [I3.ok.glob]; exact I3.mod.glob.keeps I3.bk) b1 b2 (I3.bk _ _ b5) b6 b7 b8 ?_
    intro h' hn' hs'
    have hsz : h'.objs.size = s3.heap.objs.size + 1 := by rw [hs'.1, Heap.size_push]
    have keep' : ∀ b o, s3.heap.get? b = some o → h'.get? b = some o := fun b o e => hs'.extBut b o (Nat.ne_of_lt (Heap.lt_size e)) (Heap.get?_push_of_some _ e)
    generalize hgo : ({ cls := .type "generator", data := .fields #[.int s3.gens.size 0, .str "<genexpr>" (s3.toks + 1), .str (X.env.qual ++ "<genexpr>") (s3.toks + 1 + 1)] } : Obj) = go
    have keep5 : ∀ b o, s3.heap.get? b = some o → (h'.push go).get? b = some o := fun b o e => Heap.get?_push_of_some _ (keep' b o e)
    have fin3 : ∀ b ∈ fp, FpOk X pins H3 b ∧ b < s3.heap.objs.size := fun b hb => ⟨f3 b hb, by
      obtain ⟨o, e, _⟩ := T.obj _ _ st3 b hb
      rw [e3]
      exact Heap.lt_size e⟩
    have hfr : (X.A.in1.in1.deeper (genEnv scope (cloFrom X.env.cells scope.names []) s3.heap.objs.size code builtinsNs X.env)).frames = some (genEnv scope (cloFrom X.env.cells scope.names []) s3.heap.objs.size code builtinsNs X.env :: X.stack) := by
      show X.A.frames.map _ = _
      rw [I3.ok.frames]
      rfl
    have ggo : (h'.push go).get? h'.objs.size = some go := Heap.get?_push_size _ (by rw [← hgo]; rfl)
    have dgo : ∀ v, go.data ≠ .cell v := fun v z => by
      rw [← hgo] at z
      cases z
    have Ig := gen_start (a := h'.objs.size) (go := go) (tk := s3.toks + 1 + 1 + 1) (code := code) (gs := .fresh (.compStart (.GeneratorExp elt [⟨tg, iter, ifs, 0⟩] scope gpos) 0 (.ref it) .none (genEnv scope (cloFrom X.env.cells scope.names []) s3.heap.objs.size code builtinsNs X.env)))
      I3 ok hN fin3 hfr (fun _ => hr.hd) (hn'.push _) keep5 ggo (by omega) dgo rfl
    refine ⟨h'.objs.size, s3.gens.size, m0 + 1, cxGen X (X.A.in1.in1.deeper (genEnv scope (cloFrom X.env.cells scope.names []) s3.heap.objs.size code builtinsNs X.env)) s3 H3 (genEnv scope (cloFrom X.env.cells scope.names []) s3.heap.objs.size code builtinsNs X.env) fp,
      [(h'.objs.size, go)], rfl, rfl, rfl, fun σ' H' s' I' => ?_, ⟨Ig.nolimit, ?_, _, Array.getElem?_push_size .., rfl, ?_⟩, fun cc σ' H' s' I' qq => ?_⟩
    · have z := (I'.pin (h'.objs.size, go) (List.mem_append_right _ List.mem_cons_self)).1
      exact ⟨_, _, _, z, by rw [← hgo], by rw [← hgo], by rw [← hgo]⟩
    · exact ⟨_, _, _, ggo, by rw [← hgo], by rw [← hgo], by rw [← hgo]⟩
    · refine seg_begin (fp := fp) (gp := [(h'.objs.size, go)]) stopOn Q W hc rfl T (hg _ _ _ _ _ _ _ ⟨_, rfl⟩) (ht _ _ _ _ _ _ _ ⟨_, rfl⟩) (he _ _ _ _ _ _ _ ⟨_, rfl⟩) ok.co turn (fun p hp hz => ?_) m0 (m0 + 1) _ _ _ (Nat.lt_succ_self _) (Inv.moreOf Ig (fun _ _ e => e) rfl ?_) ?_ (fun b hb => (f3 b hb).1) w0
      · obtain rfl : p = (h'.objs.size, go) := by simpa using hp
        have z1 := (fin3 _ hz).2
        have z1 : h'.objs.size < s3.heap.objs.size := z1
        omega
      · exact allBare_setGen Ig.bare rfl
      · exact T.keep _ _ _ st3 fun b hb o e => keep5 b o (by rw [e3]; exact e)
    · have I7 : Inv X pins σ H' s' := I3.call' (ch := fp) I'.os I'.base I'.hok I'.bare fun b hb => ⟨(f3 b hb).2.2.2.1, (f3 b hb).2.1, (f3 b hb).2.2.2.2.1, (f3 b hb).2.2.2.2.2⟩
      exact ⟨.bl cc, H', I7, rfl, qq⟩
  cases hf : codeAmong gpos ps.toList with
  | none =>
    refine wpAny_genexprCodeX hcode (cd.code hPs htr) (cd.tab hPs) hf fun c' h' tk hx hge hlt hco' _ htab' _ => ?_
    obtain ⟨o1, vs1, f1, tf, fl, tg1, inF, tx, tt1, op, _, _, _, _, _, _, _, _, _, htr', _⟩ := hco'
    exact cont _ h' tk _ hx htab'.2 ⟨_, rfl⟩ htr'
  | some cv =>
    refine wpAny_genexprCode_hit hcode (cd.code hPs htr) hf ?_
    exact cont cv s2.heap s2.toks ps (Heap.ExtBut.refl _ _) hPs ⟨#[], by simp⟩ htr
end
end Gx
end
section
set_option Elab.async false
set_option linter.all false
set_option maxRecDepth 100000
set_option maxHeartbeats 4000000
namespace Gx
open PySem PySem.Spec PyProof.Rows L2 GenW
section
variable {X : Cx} {elt tg iter : Expr} {ifs : List Expr} {scope : Scope} {g : TG} {tt : TT} {te : TE} {c P : Addr} {gpos p pos : Pos} {own : List (Str × Nat)} {wi : TI} {k : Nat}

theorem call_all_made {pins : List (Addr × Obj)} {σ : L2.St} {Q : VK} {v : Value} {s5 : Shared} (hr : Room k X.A) (h : Made X pins σ false Q v s5) :
    wpAny (model X.prog X.w) X.A (call (.builtin "all") [v]) (EP X pins σ Q) X.xe s5 := by
  obtain ⟨a, gn, n, Xg, gp, rfl, e1, e2, hI, r, hend⟩ := h
  refine call_function_tree F.kind_all F.plain_all F.entry_all (F.args_all1 _) ?_
  unfold Builtin.«all»
  refine wpAny_bind (m := oneArg "all" _) (wpAny_pure ?_)
  refine wpAny_bind (wpAny_pyIter_gen r.2.1 ?_)
  refine wpAny_pure ⟨plainId_quiet F.plain_all_loop _, ?_⟩
  have z := all_turns (A := X.A) (a := a) (gn := gn) (gp := gp) (Xg := Xg) (Qe := Q) (Rz := fun r s' => match r with
    | .ok (.ret v) => EP X pins σ Q v s'
    | .ok _ => False
    | .error e => X.xe e s') hr.hd hr.depth hI (fun b σ' H s' I' q => hend b σ' H s' I' q) n s5 r
  rw [e1, e2] at z
  exact z
theorem call_any_made {pins : List (Addr × Obj)} {σ : L2.St} {Q : VK} {v : Value} {s5 : Shared} (hr : Room k X.A) (h : Made X pins σ true Q v s5) :
    wpAny (model X.prog X.w) X.A (call (.builtin "any") [v]) (EP X pins σ Q) X.xe s5 := by
  obtain ⟨a, gn, n, Xg, gp, rfl, e1, e2, hI, r, hend⟩ := h
  refine call_function_tree F.kind_any F.plain_any F.entry_any (F.args_any1 _) ?_
  unfold Builtin.«any»
  refine wpAny_bind (m := oneArg "any" _) (wpAny_pure ?_)
  refine wpAny_bind (wpAny_pyIter_gen r.2.1 ?_)
  refine wpAny_pure ⟨plainId_quiet F.plain_any_loop _, ?_⟩
  have z := any_turns (A := X.A) (a := a) (gn := gn) (gp := gp) (Xg := Xg) (Qe := Q) (Rz := fun r s' => match r with
    | .ok (.ret v) => EP X pins σ Q v s'
    | .ok _ => False
    | .error e => X.xe e s') hr.hd hr.depth hI (fun b σ' H s' I' q => hend b σ' H s' I' q) n s5 r
  rw [e1, e2] at z
  exact z

theorem pe_allG (hc : X.calm = true) (hN : X.N.Nodup) (hr : Room k X.A) (hgl : Gl X "all") (hm : X.mg "all" = none) (TB : GxR.TabB X.base X.mg c P) (hcode : X.env.code = .ref c) (ok : GenSc X.N X.env.scope scope own) (hi : PI X tg iter wi)
    (hg : ∀ (A' : Around) (s : Shared) (H : Hp) (code : Value) (cl : List (Str × Addr)) (C : Addr) (fp : List Addr), (∃ env, A' = X.A.in1.in1.deeper env) → PG (cxGen X A' s H (genEnv scope cl C code builtinsNs X.env) fp) tg g)
    (ht : ∀ (A' : Around) (s : Shared) (H : Hp) (code : Value) (cl : List (Str × Addr)) (C : Addr) (fp : List Addr), (∃ env, A' = X.A.in1.in1.deeper env) → PTs (cxGen X A' s H (genEnv scope cl C code builtinsNs X.env) fp) ifs tt)
    (he : ∀ (A' : Around) (s : Shared) (H : Hp) (code : Value) (cl : List (Str × Addr)) (C : Addr) (fp : List Addr), (∃ env, A' = X.A.in1.in1.deeper env) → PE (cxGen X A' s H (genEnv scope cl C code builtinsNs X.env) fp) elt te)
    (hs : ∀ v, genFold iter X.env v = pure v)
    (hst : starEach [.GeneratorExp elt [⟨tg, iter, ifs, 0⟩] scope gpos] X.env = (false, eval (.GeneratorExp elt [⟨tg, iter, ifs, 0⟩] scope gpos) X.env) :: starEach [] X.env := by rfl) :
    PE X (.Call (.Name "all" p) [.GeneratorExp elt [⟨tg, iter, ifs, 0⟩] scope gpos] [] pos) (tGenB false P wi g tt te (own.map (·.2))) := by
  refine ⟨fun pins s σ H Q I h => ?_⟩
  refine wpAny_Call_Name_kw (ld_blt I hgl hm (by decide +kernel : bootBuiltins "all" = some (.builtin "all")) ?_)
  refine PyProof.Rows.callWith_builtin1 ?_ hst (by rfl)
  rw [hst]
  show wpAny _ _ (spliced ((false, eval (.GeneratorExp elt [⟨tg, iter, ifs, 0⟩] scope gpos) X.env) :: backTo pos (starEach [] X.env))) _ _ s
  exact Calls.spliced_cons (thn (gen_made hc hN hr TB hcode ok hi hg ht he hs I h) fun v s5 hv => Calls.spliced_nil (call_all_made hr hv))
theorem pe_anyG (hc : X.calm = true) (hN : X.N.Nodup) (hr : Room k X.A) (hgl : Gl X "any") (hm : X.mg "any" = none) (TB : GxR.TabB X.base X.mg c P) (hcode : X.env.code = .ref c) (ok : GenSc X.N X.env.scope scope own) (hi : PI X tg iter wi)
    (hg : ∀ (A' : Around) (s : Shared) (H : Hp) (code : Value) (cl : List (Str × Addr)) (C : Addr) (fp : List Addr), (∃ env, A' = X.A.in1.in1.deeper env) → PG (cxGen X A' s H (genEnv scope cl C code builtinsNs X.env) fp) tg g)
    (ht : ∀ (A' : Around) (s : Shared) (H : Hp) (code : Value) (cl : List (Str × Addr)) (C : Addr) (fp : List Addr), (∃ env, A' = X.A.in1.in1.deeper env) → PTs (cxGen X A' s H (genEnv scope cl C code builtinsNs X.env) fp) ifs tt)
    (he : ∀ (A' : Around) (s : Shared) (H : Hp) (code : Value) (cl : List (Str × Addr)) (C : Addr) (fp : List Addr), (∃ env, A' = X.A.in1.in1.deeper env) → PE (cxGen X A' s H (genEnv scope cl C code builtinsNs X.env) fp) elt te)
    (hs : ∀ v, genFold iter X.env v = pure v)
    (hst : starEach [.GeneratorExp elt [⟨tg, iter, ifs, 0⟩] scope gpos] X.env = (false, eval (.GeneratorExp elt [⟨tg, iter, ifs, 0⟩] scope gpos) X.env) :: starEach [] X.env := by rfl) :
    PE X (.Call (.Name "any" p) [.GeneratorExp elt [⟨tg, iter, ifs, 0⟩] scope gpos] [] pos) (tGenB true P wi g tt te (own.map (·.2))) := by
  refine ⟨fun pins s σ H Q I h => ?_⟩
  refine wpAny_Call_Name_kw (ld_blt I hgl hm (by decide +kernel : bootBuiltins "any" = some (.builtin "any")) ?_)
  refine PyProof.Rows.callWith_builtin1 ?_ hst (by rfl)
  rw [hst]
  show wpAny _ _ (spliced ((false, eval (.GeneratorExp elt [⟨tg, iter, ifs, 0⟩] scope gpos) X.env) :: backTo pos (starEach [] X.env))) _ _ s
  exact Calls.spliced_cons (thn (gen_made hc hN hr TB hcode ok hi hg ht he hs I h) fun v s5 hv => Calls.spliced_nil (call_any_made hr hv))
end
end Gx
end
section
set_option Elab.async false
set_option linter.all false
set_option maxRecDepth 100000
set_option maxHeartbeats 4000000
/-! generator expressions whose consumer keeps an object of its own (min, max, sum, tuple ..) -/
namespace Gx
open PySem PySem.Spec PyProof.Rows L2 GenW

abbrev TurnV (Ok : Obj → V → Prop) (Step : Obj → Value → Obj → Prop) (J : It) (g : TG) (tt : TT) (te : TE) (vs : List Nat) (σ : L2.St) (Qe : Obj → Hp → Prop) (W : Nat → Nat → Obj → Hp → Prop) : Prop :=
  ∀ i m o H, W i m o H → (J.stop i H ∧ Qe o H) ∨
    (J.go i H ∧ ∃ Nx : Obj → Hp → Prop, (∀ o' H', Nx o' H' → ∃ m', m' < m ∧ W (i + 1) m' o' H') ∧
      ∀ x H', J.yld i H x H' → g x (wipe σ vs) H' fun σ2 H2 => wipe σ2 vs = wipe σ vs ∧ tt σ2 H2 fun b H3 =>
        if b = true then te σ2 H3 fun y H4 => Ok o y ∧ ∀ v o', RelV y v → Step o v o' → Nx o' H4 else Nx o H3)
abbrev EndV (Xg : Cx) (gp : List (Addr × Obj)) (S : Addr) (Qe : Obj → Hp → Prop) : Nat → Shared → Shared → Prop := fun _ s0 s1 =>
  ∃ (σ : L2.St) (H : Hp) (o : Obj), s0.heap.get? S = some o ∧ Inv Xg (gp ++ [(S, o)]) σ H s1 ∧ Qe o H
abbrev ProV (Xg : Cx) (gp : List (Addr × Obj)) (S : Addr) (Ok : Obj → V → Prop) (Step : Obj → Value → Obj → Prop) : Protocol := fun _ s0 v s kap =>
  ∃ (y : V) (σ : L2.St) (H : Hp) (o : Obj), s0.heap.get? S = some o ∧ RelV y v ∧ Inv Xg (gp ++ [(S, o)]) σ H s ∧ Ok o y ∧
    ∀ (o' : Obj) (s2 : Shared), Step o v o' → (∀ u, o'.data ≠ .cell u) → (∀ b ob, b ≠ S → s.heap.get? b = some ob → s2.heap.get? b = some ob) → s2.heap.get? S = some o' → s2.os = s.os → AllBare s2.gens → kap (.send .none) s2

theorem Inv.repin {X : Cx} {gp rest : List (Addr × Obj)} {S : Addr} {o o' : Obj} {σ : L2.St} {H : Hp} {s s2 : Shared} (I : Inv X (gp ++ [(S, o)] ++ rest) σ H s) (hS : X.s_0.heap.objs.size ≤ S) (hpn : X.pn = []) (hg : ∀ p ∈ gp ++ rest, p.1 ≠ S)
    (k : ∀ b ob, b ≠ S → s.heap.get? b = some ob → s2.heap.get? b = some ob) (h2 : s2.heap.get? S = some o') (hc : ∀ v, o'.data ≠ .cell v) (ho : s2.os = s.os) (hb : AllBare s2.gens) : Inv X (gp ++ [(S, o')] ++ rest) σ H s2 := by
  have pS := I.pin (S, o) (List.mem_append_right _ (List.mem_append_left _ (List.mem_append_right _ List.mem_cons_self)))
  obtain ⟨p1, p2, p3, p4, p5⟩ := pS
  have I1 : Inv X (gp ++ rest) σ H s := I.pins_of fun p hp => I.pin p (List.mem_append_right _ ((List.mem_append.mp hp).elim (fun z => List.mem_append_left _ (List.mem_append_left _ z)) fun z => List.mem_append_right _ z))
  have I2 : Inv X (gp ++ rest) σ H { s with heap := s2.heap, toks := s2.toks } := I1.turned (it := S) k p2 p3 (.inr hS) (fun x c e z => by
    obtain ⟨v, q⟩ := I.cell x c e
    obtain ⟨ob, q1, q2⟩ := q
    rw [z] at q1
    have p1 : s.heap.get? S = some o := p1
    rw [p1] at q1
    cases q1
    exact p5 _ q2) (fun p hp => by
      rw [hpn] at hp
      exact hg p (by simpa using hp))
  have I3 : Inv X (gp ++ rest) σ H s2 := Inv.moreOf I2 (fun _ _ e => e) ho hb
  refine I3.pins_of fun p hp => ?_
  have hp' : p ∈ gp ++ rest ∨ p = (S, o') := by
    rcases List.mem_append.mp hp with z | z
    · rcases List.mem_append.mp z with z | z
      · exact .inl (List.mem_append_left _ z)
      · exact .inr (by simpa using z)
    · exact .inl (List.mem_append_right _ z)
  rcases hp' with z | z
  · exact I3.pin p (List.mem_append_right _ z)
  · subst z
    exact ⟨h2, p2, p3, p4, hc⟩

section
variable {X : Cx} {elt tg iter : Expr} {ifs : List Expr} {scope : Scope} {pos : Pos} {g : TG} {tt : TT} {te : TE} {vs : List Nat} {σ : L2.St}
  {A A' : Around} {s4 : Shared} {H4 : Hp} {ce : Env} {fp : List Addr} {it : Addr} {tn : Nat → Heap → Prop} {J : It} {gp : List (Addr × Obj)} {S : Addr} {Ok : Obj → V → Prop} {Step : Obj → Value → Obj → Prop}

theorem seg_turnsV (Qe : Obj → Hp → Prop) (W : Nat → Nat → Obj → Hp → Prop) (hc : X.calm = true)
    (hA : A.over (.compLoop (.GeneratorExp elt [⟨tg, iter, ifs, 0⟩] scope pos) 0 (.ref it) .none ce) [] = A')
    (T : Turn X.prog X.w X.K tg J fp it tn)
    (pg : PG (cxGen X A' s4 H4 ce fp) tg g) (pt : PTs (cxGen X A' s4 H4 ce fp) ifs tt) (pe : PE (cxGen X A' s4 H4 ce fp) elt te)
    (hco : ce.scope.isCoroutine = false) (turn : TurnV Ok Step J g tt te vs σ Qe W) (hgp : ∀ p ∈ gp, p.1 ∉ fp) (hSf : S ∉ fp) (hSg : ∀ p ∈ gp, p.1 ≠ S) (hS0 : s4.heap.objs.size ≤ S) :
    ∀ (m n i : Nat) (s0 s : Shared) (o : Obj) (H : Hp), m < n → s0.heap.get? S = some o → Inv (cxGen X A' s4 H4 ce fp) (gp ++ [(S, o)]) (wipe σ vs) H s → tn i s.heap → (∀ b ∈ fp, H b = none) → W i m o H →
      Seg (model X.prog X.w) A (fun n s0 r s1 => r = .ok .next ∧ EndV (cxGen X A' s4 H4 ce fp) gp S Qe n s0 s1) (ProV (cxGen X A' s4 H4 ce fp) gp S Ok Step) n s0
        (.compLoop (.GeneratorExp elt [⟨tg, iter, ifs, 0⟩] scope pos) 0 (.ref it) .none ce)
        ((model X.prog X.w).den (.compLoop (.GeneratorExp elt [⟨tg, iter, ifs, 0⟩] scope pos) 0 (.ref it) .none ce)) [] s := by
  have run : ∀ {α : Type} {m : Sem α} {Q : α → Shared → Prop} {E : Value → Shared → Prop} {s : Shared}, wpAny (model X.prog X.w) A' m Q (fun _ _ => False) s →
      wpAny (model X.prog X.w) (A.over (.compLoop (.GeneratorExp elt [⟨tg, iter, ifs, 0⟩] scope pos) 0 (.ref it) .none ce) []) m Q E s := fun h => by
    rw [hA]; exact thnF h fun _ _ q => q
  have stat : ∀ {pn : List (Addr × Obj)} {σ' : L2.St} {H' : Hp} {s' : Shared}, Inv (cxGen X A' s4 H4 ce fp) pn σ' H' s' → (∀ b ∈ fp, H' b = none) → (∀ p ∈ pn, p.1 ∉ fp) → ∀ b ∈ fp, FpOk (cxGen X A' s4 H4 ce fp) pn H' b :=
    fun {pn σ' H' s'} I' hn hp b hb => ⟨hn b hb, (I'.ok.exf b hb).1, I'.ok.exfs b hb, .inl hb, fun x c e => (I'.ok.exf b hb).2 x c e, fun p hpm z => by
      have hpm : p ∈ ([] : List (Addr × Obj)) ++ pn := hpm
      exact hp p (by simpa using hpm) (by rw [z]; exact hb)⟩
  have hgpS : ∀ o : Obj, ∀ p ∈ gp ++ [(S, o)], p.1 ∉ fp := fun o p hp => by
    rcases List.mem_append.mp hp with z | z
    · exact hgp p z
    · have : p = (S, o) := by simpa using z
      subst this
      exact hSf
  intro m
  induction m using Nat.strongRecOn with
  | ind m ih =>
    intro n i s0 s o H hmn hs0 I st hn w
    show Seg _ A _ _ _ s0 _ ((compTurn (.GeneratorExp elt [⟨tg, iter, ifs, 0⟩] scope pos) 0 (.ref it) .none ce).onRaise (leaving ce)) [] s
    rw [compTurn_gen, Sem.onRaise_eq_wrap]
    refine seg_bind_wrap (wpAny_standAt ?_)
    rcases turn i m o H w with ⟨stop, q⟩ | ⟨go, Nx, hNx, step⟩
    · refine seg_bind_wrap (run (thnF (T.done (cxGen X A' s4 H4 ce fp) rfl rfl rfl hc i (gp ++ [(S, o)]) s _ H (fun _ _ => False) I (stat I hn (hgpS o)) st stop) fun r s6 ⟨hr, I6⟩ => ?_))
      subst hr
      exact seg_end (.ok .next) ⟨rfl, _, H, o, hs0, I6, q⟩
    · refine seg_bind_wrap (run (thnF (T.item (cxGen X A' s4 H4 ce fp) rfl rfl rfl hc i (gp ++ [(S, o)]) s _ H (fun _ _ => False) I (stat I hn (hgpS o)) st go) fun r s6 ⟨u, hr, h6⟩ => ?_))
      subst hr
      refine seg_bind_wrap (run (thnF h6 fun _ s7 ⟨x, H7, I7, r7, y7, st7, n7⟩ => ?_))
      have I7' := I7.pinned (stat I7 n7 (hgpS o)) (T.obj _ _ st7)
      refine seg_bind_wrap (run (thnF (pg.run _ s7 _ H7 x u _ I7' r7 (step x H7 y7)) fun _ s8 ⟨σ8, H8, I8, hw8, q8⟩ => ?_))
      refine seg_bind_wrap (run (thnF (pt.run _ s8 σ8 H8 _ I8 q8) fun b s9 ⟨H9, I9, q9⟩ => ?_))
      have hl : (wipe σ vs).length = σ8.length := by rw [← hw8, wipe_length]
      have next : ∀ {k : Nat} {s' s1 : Shared} {o' : Obj} {H' : Hp}, m ≤ k → s1.heap.get? S = some o' → Inv (cxGen X A' s4 H4 ce fp) (gp ++ [(S, o')] ++ pinsAt fp s7.heap) σ8 H' s' → Nx o' H' →
          Seg (model X.prog X.w) A (fun n s0 r s1 => r = .ok .next ∧ EndV (cxGen X A' s4 H4 ce fp) gp S Qe n s0 s1) (ProV (cxGen X A' s4 H4 ce fp) gp S Ok Step) k s1
            (.compLoop (.GeneratorExp elt [⟨tg, iter, ifs, 0⟩] scope pos) 0 (.ref it) .none ce)
            ((model X.prog X.w).den (.compLoop (.GeneratorExp elt [⟨tg, iter, ifs, 0⟩] scope pos) 0 (.ref it) .none ce)) [] s' := fun {k s' s1 o' H'} hk hs1 I' nx => by
        obtain ⟨m', hm, w'⟩ := hNx o' H' nx
        have pin' : ∀ b ∈ fp, ∀ ob, s7.heap.get? b = some ob → s'.heap.get? b = some ob ∧ H' b = none := fun b hb ob e =>
          let z := I'.pin (b, ob) (List.mem_append_right _ (List.mem_append_right _ (mem_pinsAt hb e)))
          ⟨z.1, z.2.1⟩
        refine ih m' hm k (i + 1) s1 s' o' H' (by omega) hs1 ((I'.unpinned (pins := gp ++ [(S, o')])).weak hl (fun j v e => ?_)) (T.keep _ _ _ st7 fun b hb ob e => (pin' b hb ob e).1) (fun b hb => ?_) w'
        · rw [← hw8] at e
          exact (wipe_some e).1
        · obtain ⟨ob, e, _⟩ := T.obj _ _ st7 b hb
          exact (pin' b hb ob e).2
      cases b with
      | false =>
        simp only [Bool.false_eq_true, if_false] at q9 ⊢
        exact seg_again rfl (next (by omega) hs0 I9 q9)
      | true =>
        simp only [if_true] at q9 ⊢
        obtain ⟨k, rfl⟩ : ∃ k, n = k + 1 := ⟨n - 1, by omega⟩
        have hy : ∀ v, yieldOut ce v = yieldValue v := fun v => by simp only [yieldOut, hco, Bool.false_eq_true, if_false]
        simp only [hy]
        rw [Sem.bind_eq_wrap', Sem.bind_eq_wrap', Sem.wrap_wrap, Sem.wrap_wrap]
        refine seg_wrap (run (thnF (pe.run _ s9 σ8 H9 _ I9 q9) fun z s10 ⟨yv, H10, I10, r10, ey, q10⟩ => ?_))
        refine seg_at (seg_yield rfl rfl rfl ⟨yv, σ8, H10, o, hs0, r10, I10.unpinned, ey, fun o' s2 hst hcell hk hS2 ho hb => ?_⟩)
        refine seg_again rfl (next (o' := o') (by omega) hS2 (Inv.repin I10 hS0 rfl (fun p hp => ?_) hk hS2 hcell ho hb) (q10 z o' r10 hst))
        rcases List.mem_append.mp hp with q | q
        · exact hSg p q
        · exact fun e => hSf (by rw [← e]; exact (of_pinsAt q).1)
theorem seg_beginV (Qe : Obj → Hp → Prop) (W : Nat → Nat → Obj → Hp → Prop) (hc : X.calm = true)
    (hA : A.deeper ce = A')
    (T : Turn X.prog X.w X.K tg J fp it tn)
    (pg : PG (cxGen X A' s4 H4 ce fp) tg g) (pt : PTs (cxGen X A' s4 H4 ce fp) ifs tt) (pe : PE (cxGen X A' s4 H4 ce fp) elt te)
    (hco : ce.scope.isCoroutine = false) (turn : TurnV Ok Step J g tt te vs σ Qe W) (hgp : ∀ p ∈ gp, p.1 ∉ fp) (hSf : S ∉ fp) (hSg : ∀ p ∈ gp, p.1 ≠ S) (hS0 : s4.heap.objs.size ≤ S)
    (m n : Nat) (s0 s : Shared) (o : Obj) (H : Hp) (hmn : m < n) (hs0 : s0.heap.get? S = some o) (I : Inv (cxGen X A' s4 H4 ce fp) (gp ++ [(S, o)]) (wipe σ vs) H s) (st : tn 0 s.heap) (hn : ∀ b ∈ fp, H b = none) (w : W 0 m o H) :
      Seg (model X.prog X.w) A (fun n s0 r s1 => r = .ok .next ∧ EndV (cxGen X A' s4 H4 ce fp) gp S Qe n s0 s1) (ProV (cxGen X A' s4 H4 ce fp) gp S Ok Step) n s0
        (.compStart (.GeneratorExp elt [⟨tg, iter, ifs, 0⟩] scope pos) 0 (.ref it) .none ce)
        ((model X.prog X.w).den (.compStart (.GeneratorExp elt [⟨tg, iter, ifs, 0⟩] scope pos) 0 (.ref it) .none ce)) [] s := by
  have loop := seg_turnsV (iter := iter) (scope := scope) (pos := pos) Qe W hc (by rw [over_gen]; exact hA) T pg pt pe hco turn hgp hSf hSg hS0 m n 0 s0 s o H hmn hs0 I st hn w
  show Seg _ A _ _ _ s0 _ ((compStart (.GeneratorExp elt [⟨tg, iter, ifs, 0⟩] scope pos) 0 (.ref it) .none ce).onRaise (leaving ce)) [] s
  unfold compStart
  rw [Sem.onRaise_eq_wrap]
  show Seg _ A _ _ _ s0 _ ((ask >>= _).wrap _ _ _ _) [] s
  refine seg_bind_wrap (wpAny_askSetting ?_)
  split
  · exact seg_again rfl loop
  · refine seg_bind_wrap (wpAny_rule ?_)
    first
      | exact seg_bind_wrap (wpAny_standAt (seg_bind_wrap (T.self _ 0 s _ _ st (seg_again rfl loop))))
      | (show Seg _ A _ _ _ s0 _ ((standAt iter.pos >>= _).wrap _ _ _ _) [] s
         exact seg_bind_wrap (wpAny_standAt (seg_bind_wrap (T.self _ 0 s _ _ st (seg_again rfl loop)))))
end

section
variable {Xg : Cx} {gp : List (Addr × Obj)} {Qe : Obj → Hp → Prop} {A : Around} {a S : Addr} {gn : Nat} {Ok : Obj → V → Prop} {Step : Obj → Value → Obj → Prop}
/-- the state between two turns of the consumer, whose object is o -/
def ReadyV (M : Model) (A : Around) (Xg : Cx) (gp : List (Addr × Obj)) (S : Addr) (Ok : Obj → V → Prop) (Step : Obj → Value → Obj → Prop) (Qe : Obj → Hp → Prop) (a : Addr) (gn n : Nat) (s : Shared) : Prop :=
  s.heap.NoLimit ∧ s.heap.IsGen a gn ∧ ∃ gs, s.gens[gn]? = some gs ∧
    gs.Goes M A.in1.in1 (fun n s0 r s1 => r = .ok .next ∧ EndV Xg gp S Qe n s0 s1) (ProV Xg gp S Ok Step) n (.send .none) (s.setGen gn .running)
/-- one step of the consumer -/
theorem next_turnV {E : Value → Shared → Prop} {s : Shared} {n : Nat} {Q : Option Value → Shared → Prop} (hh : A.handled = none) (hd : A.depth < recursionLimit)
    (hI : ∀ (pins : List (Addr × Obj)) (σ : L2.St) (H : Hp) (s : Shared), Inv Xg (gp ++ pins) σ H s → s.heap.IsGen a gn) (hS0 : Xg.s_0.heap.objs.size ≤ S) (hpn : Xg.pn = []) (hSg : ∀ p ∈ gp, p.1 ≠ S)
    (r : ReadyV (model Xg.prog Xg.w) A Xg gp S Ok Step Qe a gn n s) {o : Obj} (hS : s.heap.get? S = some o)
    (hend : ∀ (σ : L2.St) (H : Hp) (s' : Shared), Inv Xg (gp ++ [(S, o)]) σ H s' → Qe o H → Q none s')
    (hgo : ∀ (y : V) (v : Value) (s' : Shared), RelV y v → Ok o y → s'.heap.get? S = some o →
      (∀ (o' : Obj) (h' : Heap) (tk : Nat), Step o v o' → (∀ u, o'.data ≠ .cell u) → (∀ b ob, b ≠ S → s'.heap.get? b = some ob → h'.get? b = some ob) → h'.get? S = some o' → ∃ k, n = k + 1 ∧ ReadyV (model Xg.prog Xg.w) A Xg gp S Ok Step Qe a gn k { s' with heap := h', toks := tk }) → Q (some v) s') :
    wpAny (model Xg.prog Xg.w) A.in1 (pyNext (.ref a)) Q E s := by
  obtain ⟨hl, hg, gs, hgs, goes⟩ := r
  have hgl : gn < s.gens.size := (Array.getElem?_eq_some_iff.mp hgs).1
  refine wpAny_gsz (n := gn + 1) hgl ?_
  refine wpAny_pyNext_genexpQ (A := A.in1) (P := EndV Xg gp S Qe) hh hl hd hg hgs goes (fun v s1 gs' hbare hv => ?_) (fun s1 hp h' hk => ?_)
  · obtain ⟨y, σ, H, o2, hs0, ry, I, hok, hq⟩ := hv
    have hs0 : s.heap.get? S = some o2 := hs0
    rw [hS] at hs0
    cases hs0
    intro hsz
    have hsz1 : gn < s1.gens.size := by
      have q : (s1.setGen gn gs').gens.size = s1.gens.size := setGen_size _ _ _
      omega
    have pS : s1.heap.get? S = some o := (I.pin (S, o) (List.mem_append_right _ (List.mem_append_right _ List.mem_cons_self))).1
    refine hgo y v _ ry hok pS fun o' h2 tk hst hcell hk hS2 => ?_
    cases n with
    | zero => exact (hq o' { s1 with heap := h2, toks := tk } hst hcell hk hS2 rfl I.bare).elim
    | succ k =>
      have Iq : Inv Xg (gp ++ [(S, o)] ++ []) σ H s1 := by rw [List.append_nil]; exact I
      have I2 : Inv Xg (gp ++ [(S, o')] ++ []) σ H ({ s1.setGen gn gs' with heap := h2, toks := tk } : Shared) := Inv.repin Iq hS0 hpn (fun p hp => hSg p (by simpa using hp)) hk hS2 hcell rfl (allBare_setGen I.bare hbare)
      rw [List.append_nil] at I2
      refine ⟨k, rfl, I2.nolimit, hI _ σ H _ I2, gs', setGen_at hsz1, ?_⟩
      refine hq o' _ hst hcell hk hS2 rfl ?_
      exact allBare_setGen (s := ({ s1.setGen gn gs' with heap := h2, toks := tk } : Shared)) I2.bare rfl
  · obtain ⟨σ, H, o2, hs0, I, hq⟩ := hp
    have hs0 : s.heap.get? S = some o2 := hs0
    rw [hS] at hs0
    cases hs0
    intro _
    have I2 : Inv Xg (gp ++ [(S, o)]) σ H (s1.setGen gn .finished) := Inv.moreOf I (fun _ _ e => e) rfl (allBare_setGen I.bare rfl)
    exact hend σ H _ (Inv.moreOf I2 hk rfl I2.bare) hq
end
end Gx
end
section
set_option Elab.async false
set_option linter.all false
set_option maxRecDepth 100000
set_option maxHeartbeats 4000000
namespace Gx
open PySem PySem.Spec PyProof.Rows L2 GenW

section
variable {X : Cx} {elt tg iter : Expr} {ifs : List Expr} {scope : Scope} {pos : Pos} {g : TG} {tt : TT} {te : TE} {vs : List Nat} {σ : L2.St}
/-- min(..), sum(..), .. of a generator expression -/
def tGenV (P : Addr) (wi : TI) (g : TG) (tt : TT) (te : TE) (vs : List Nat) (St0 : Obj → Prop) (Ok : Obj → V → Prop) (Step : Obj → Value → Obj → Prop) (Fin : Obj → V → Prop) : TE := fun σ H Q => wi σ H fun J H1 => GxR.TabG H1 P ∧
  ∀ H2, GxR.Tabbed P H1 H2 → ∀ o0, St0 o0 → ∃ W : Nat → Nat → Obj → Hp → Prop, (∃ m, W 0 m o0 H2) ∧ TurnV Ok Step J g tt te vs σ (fun o H => ∃ v, Fin o v ∧ Q v H) W
/-- the generator has been made; the consumer's object is laid behind it -/
def MadeV (X : Cx) (pins : List (Addr × Obj)) (σ : L2.St) (St0 : Obj → Prop) (Ok : Obj → V → Prop) (Step : Obj → Value → Obj → Prop) (Fin : Obj → V → Prop) (Q : VK) (v : Value) (s5 : Shared) : Prop :=
  ∃ (a : Addr) (gn : Nat) (Xg : Cx) (gp : List (Addr × Obj)), v = .ref a ∧ Xg.prog = X.prog ∧ Xg.w = X.w ∧ Xg.pn = [] ∧
    (∀ (pins' : List (Addr × Obj)) (σ' : L2.St) (H : Hp) (s : Shared), Inv Xg (gp ++ pins') σ' H s → s.heap.IsGen a gn) ∧ s5.heap.IsGen a gn ∧ (∀ p ∈ gp, p.1 < s5.heap.objs.size) ∧ Xg.s_0.heap.objs.size ≤ s5.heap.objs.size ∧
    (∀ (S : Addr) (o0 : Obj) (h6 : Heap) (tk6 : Nat), s5.heap.objs.size ≤ S → St0 o0 → (∀ u, o0.data ≠ .cell u) → (∀ b ob, s5.heap.get? b = some ob → h6.get? b = some ob) → h6.get? S = some o0 →
      ∃ n, ReadyV (model Xg.prog Xg.w) X.A Xg gp S Ok Step (fun o H => ∃ v, Fin o v ∧ Q v H) a gn n { s5 with heap := h6, toks := tk6 }) ∧
    (∀ (pins' : List (Addr × Obj)) (v : V) (u : Value) (σ' : L2.St) (H : Hp) (s' : Shared), Inv Xg (gp ++ pins') σ' H s' → RelV v u → Q v H → EP X pins σ Q u s')

theorem gen_madeV {St0 : Obj → Prop} {Ok : Obj → V → Prop} {Step : Obj → Value → Obj → Prop} {Fin : Obj → V → Prop} {c P : Addr} {gpos : Pos} {own : List (Str × Nat)} {wi : TI} {k : Nat} {pins : List (Addr × Obj)} {s : Shared} {H : Hp} {Q : VK}
    (hc : X.calm = true) (hN : X.N.Nodup) (hr : Room k X.A) (TB : GxR.TabB X.base X.mg c P) (hcode : X.env.code = .ref c) (ok : GenSc X.N X.env.scope scope own) (hi : PI X tg iter wi)
    (hg : ∀ (A' : Around) (s : Shared) (H : Hp) (code : Value) (cl : List (Str × Addr)) (C : Addr) (fp : List Addr), (∃ env, A' = X.A.in1.in1.deeper env) → PG (cxGen X A' s H (genEnv scope cl C code builtinsNs X.env) fp) tg g)
    (ht : ∀ (A' : Around) (s : Shared) (H : Hp) (code : Value) (cl : List (Str × Addr)) (C : Addr) (fp : List Addr), (∃ env, A' = X.A.in1.in1.deeper env) → PTs (cxGen X A' s H (genEnv scope cl C code builtinsNs X.env) fp) ifs tt)
    (he : ∀ (A' : Around) (s : Shared) (H : Hp) (code : Value) (cl : List (Str × Addr)) (C : Addr) (fp : List Addr), (∃ env, A' = X.A.in1.in1.deeper env) → PE (cxGen X A' s H (genEnv scope cl C code builtinsNs X.env) fp) elt te)
    (hs : ∀ v, genFold iter X.env v = pure v) (I : Inv X pins σ H s) (h : tGenV P wi g tt te (own.map (·.2)) St0 Ok Step Fin σ H Q) :
    wpAny (model X.prog X.w) X.A (eval (.GeneratorExp elt [⟨tg, iter, ifs, 0⟩] scope gpos) X.env) (MadeV X pins σ St0 Ok Step Fin Q) X.xe s := by
  have hfree : ∀ y ∈ scope.names, y.2 = .free → ∃ c, X.env.cells.lookup y.1 = some c := fun y hy e => by
    rcases ok.free y hy e with k | k
    · exact I.ok.has _ (.inl k)
    · exact I.ok.has _ (.inr k)
  refine wpAny_GeneratorExp_make ok.co (closure_ok hfree) ok.nocell ok.dot ok.kind hr.depth ?_ hs
  refine thn (hi.run pins s σ H _ I h) fun xv s1 hx => thn hx fun itv s2 h2 => ?_
  obtain ⟨it, fp, tn, J, H1, e, I2, T, st2, f2, ⟨ps, hP, htr⟩, q⟩ := h2
  subst e
  refine ⟨I2.nolimit, ?_⟩
  have hPs : s2.heap.get? P = some { cls := .none, data := .fields ps } := I2.hok P _ hP
  have cd : PySem.W.CodeHd s2.heap c P := TB.code.keeps I2.bk
  -- behind the code object
  have cont : ∀ (code : Value) (h3 : Heap) (tk : Nat) (ps' : Array Value), Heap.ExtBut P s2.heap h3 → h3.get? P = some { cls := .none, data := .fields ps' } → (∃ more, ps' = ps ++ more) → TriplesOk ps'.toList →
      wpAny (model X.prog X.w) X.A (builtinsFor X.env.globals X.env.builtins) (fun bi s₄ => ∀ h', h'.Ns s₄.heap.objs.size (fun y => if y = ".0" then some (Value.ref it) else none) → Heap.SameBut s₄.heap.objs.size (s₄.heap.push { cls := .type "frame", data := .dict #[] }) h' →
          MadeV X pins σ St0 Ok Step Fin Q (.ref h'.objs.size) { s₄ with
            gens := s₄.gens.push (.fresh (.compStart (.GeneratorExp elt [⟨tg, iter, ifs, 0⟩] scope gpos) 0 (.ref it) .none (genEnv scope (cloFrom X.env.cells scope.names []) s₄.heap.objs.size code bi X.env))),
            toks := s₄.toks + 1 + 1 + 1,
            heap := h'.push { cls := .type "generator", data := .fields #[.int s₄.gens.size 0, .str "<genexpr>" (s₄.toks + 1), .str (X.env.qual ++ "<genexpr>") (s₄.toks + 1 + 1)] } }) X.xe { s2 with heap := h3, toks := tk } := by
    intro code h3 tk ps' hx hP3 hmore ht3
    obtain ⟨more, em⟩ := hmore
    subst em
    have I3 : Inv X pins σ (upd H1 P (.tbl (ps ++ more))) { s2 with heap := h3, toks := tk } := GxR.inv_tab (s := s2) (g' := s2.gens) (d' := s2.drawn) (t' := tk) I2 hP (fun b o hb e => hx b o hb e) hP3 I2.bare
    have nP : ∀ b ∈ fp, b ≠ P := fun b hb z => by
      have q1 := (f2 b hb).1
      rw [z, hP] at q1
      cases q1
    have f3 : ∀ b ∈ fp, FpOk X pins (upd H1 P (.tbl (ps ++ more))) b := fun b hb => ⟨by rw [upd_ne (nP b hb)]; exact (f2 b hb).1, (f2 b hb).2⟩
    have st3 : tn 0 h3 := T.keep _ _ _ st2 fun b hb o e => hx b o (nP b hb) e
    have q := q _ (⟨⟨ps ++ more, upd_same, ht3⟩, fun b hb => upd_ne hb⟩ : GxR.Tabbed P H1 (upd H1 P (.tbl (ps ++ more))))
    generalize hH3 : upd H1 P (.tbl (ps ++ more)) = H3 at I3 f3 q
    generalize hs3 : ({ s2 with heap := h3, toks := tk } : Shared) = s3 at I3 ⊢
    have e3 : s3.heap = h3 := by rw [← hs3]
    obtain ⟨bm, ob, b1, b2, b3, b4, b5, b6, b7, b8⟩ := TB.bm
    refine wpAny_builtinsFor (m := X.mg) (by rw [I3.ok.glob]; exact I3.mod.glob.keeps I3.bk) b1 b2 (I3.bk _ _ b5) b6 b7 b8 ?_
    intro h' hn' hs'
    have hsz : h'.objs.size = s3.heap.objs.size + 1 := by rw [hs'.1, Heap.size_push]
    have keep' : ∀ b o, s3.heap.get? b = some o → h'.get? b = some o := fun b o e => hs'.extBut b o (Nat.ne_of_lt (Heap.lt_size e)) (Heap.get?_push_of_some _ e)
    generalize hgo : ({ cls := .type "generator", data := .fields #[.int s3.gens.size 0, .str "<genexpr>" (s3.toks + 1), .str (X.env.qual ++ "<genexpr>") (s3.toks + 1 + 1)] } : Obj) = go
    have keep5 : ∀ b o, s3.heap.get? b = some o → (h'.push go).get? b = some o := fun b o e => Heap.get?_push_of_some _ (keep' b o e)
    have fin3 : ∀ b ∈ fp, FpOk X pins H3 b ∧ b < s3.heap.objs.size := fun b hb => ⟨f3 b hb, by
      obtain ⟨o, e, _⟩ := T.obj _ _ st3 b hb
      rw [e3]
      exact Heap.lt_size e⟩
    have hfr : (X.A.in1.in1.deeper (genEnv scope (cloFrom X.env.cells scope.names []) s3.heap.objs.size code builtinsNs X.env)).frames = some (genEnv scope (cloFrom X.env.cells scope.names []) s3.heap.objs.size code builtinsNs X.env :: X.stack) := by
      show X.A.frames.map _ = _
      rw [I3.ok.frames]
      rfl
    have ggo : (h'.push go).get? h'.objs.size = some go := Heap.get?_push_size _ (by rw [← hgo]; rfl)
    have dgo : ∀ v, go.data ≠ .cell v := fun v z => by
      rw [← hgo] at z
      cases z
    have Ig := gen_start (a := h'.objs.size) (go := go) (tk := s3.toks + 1 + 1 + 1) (code := code) (gs := .fresh (.compStart (.GeneratorExp elt [⟨tg, iter, ifs, 0⟩] scope gpos) 0 (.ref it) .none (genEnv scope (cloFrom X.env.cells scope.names []) s3.heap.objs.size code builtinsNs X.env)))
      I3 ok hN fin3 hfr (fun _ => hr.hd) (hn'.push _) keep5 ggo (by omega) dgo rfl
    have hszg : s3.heap.objs.size < (h'.push go).objs.size := by rw [Heap.size_push]; omega
    refine ⟨h'.objs.size, s3.gens.size, cxGen X (X.A.in1.in1.deeper (genEnv scope (cloFrom X.env.cells scope.names []) s3.heap.objs.size code builtinsNs X.env)) s3 H3 (genEnv scope (cloFrom X.env.cells scope.names []) s3.heap.objs.size code builtinsNs X.env) fp,
      [(h'.objs.size, go)], rfl, rfl, rfl, rfl, fun pins' σ' H' s' I' => ?_, ?_, fun p hp => ?_, Nat.le_of_lt hszg, fun S o0 h6 tk6 hS6 st0 hcell hk6 hS6' => ?_, fun pins' v u σ' H' s' I' ru qq => ?_⟩
    · have z := (I'.pin (h'.objs.size, go) (List.mem_append_right _ (List.mem_append_left _ List.mem_cons_self))).1
      exact ⟨_, _, _, z, by rw [← hgo], by rw [← hgo], by rw [← hgo]⟩
    · exact ⟨_, _, _, ggo, by rw [← hgo], by rw [← hgo], by rw [← hgo]⟩
    · obtain rfl : p = (h'.objs.size, go) := by simpa using hp
      show h'.objs.size < (h'.push go).objs.size
      rw [Heap.size_push]; exact Nat.lt_succ_self _
    · obtain ⟨W, ⟨m0, w0⟩, turn⟩ := q o0 st0
      have hS6 : (h'.push go).objs.size ≤ S := hS6
      have Ig6 := Inv.moreOf (s2 := ({ s3 with gens := s3.gens.push (.fresh (.compStart (.GeneratorExp elt [⟨tg, iter, ifs, 0⟩] scope gpos) 0 (.ref it) .none (genEnv scope (cloFrom X.env.cells scope.names []) s3.heap.objs.size code builtinsNs X.env))), toks := tk6, heap := h6 } : Shared)) Ig hk6 rfl Ig.bare
      have nS : H3 S = none := Ig.hok.fresh hS6
      have Ig7 : Inv (cxGen X (X.A.in1.in1.deeper (genEnv scope (cloFrom X.env.cells scope.names []) s3.heap.objs.size code builtinsNs X.env)) s3 H3 (genEnv scope (cloFrom X.env.cells scope.names []) s3.heap.objs.size code builtinsNs X.env) fp) ([(h'.objs.size, go)] ++ [(S, o0)]) (wipe σ (own.map (·.2))) H3 _ := Ig6.pins_of fun p hp => by
        rcases List.mem_append.mp hp with z | z
        · exact Ig6.pin p (List.mem_append_right _ z)
        · obtain rfl : p = (S, o0) := by simpa using z
          refine ⟨hS6', nS, Nat.ne_of_gt (Nat.lt_of_lt_of_le Ig.lt hS6), Ig.nofs hS6, hcell⟩
      refine ⟨m0 + 1, Ig7.nolimit, ?_, _, Array.getElem?_push_size .., rfl, ?_⟩
      · exact ⟨_, _, _, hk6 _ _ ggo, by rw [← hgo], by rw [← hgo], by rw [← hgo]⟩
      · refine seg_beginV (fp := fp) (gp := [(h'.objs.size, go)]) (S := S) _ W hc rfl T (hg _ _ _ _ _ _ _ ⟨_, rfl⟩) (ht _ _ _ _ _ _ _ ⟨_, rfl⟩) (he _ _ _ _ _ _ _ ⟨_, rfl⟩) ok.co turn (fun p hp hz => ?_) (fun hz => ?_) (fun p hp hz => ?_) (by omega) m0 (m0 + 1) _ _ o0 _ (Nat.lt_succ_self _) hS6' (Inv.moreOf Ig7 (fun _ _ e => e) rfl ?_) ?_ (fun b hb => (f3 b hb).1) w0
        · obtain rfl : p = (h'.objs.size, go) := by simpa using hp
          have z1 := (fin3 _ hz).2
          have z1 : h'.objs.size < s3.heap.objs.size := z1
          omega
        · have z1 := (fin3 _ hz).2
          exact absurd (Nat.lt_of_lt_of_le hszg hS6) (Nat.lt_asymm z1)
        · obtain rfl : p = (h'.objs.size, go) := by simpa using hp
          have hz : h'.objs.size = S := hz
          rw [Heap.size_push] at hS6
          omega
        · exact allBare_setGen Ig.bare rfl
        · exact T.keep _ _ _ st3 fun b hb o e => hk6 b o (keep5 b o (by rw [e3]; exact e))
    · have I7 : Inv X pins σ H' s' := I3.call' (ch := fp) I'.os I'.base I'.hok I'.bare fun b hb => ⟨(f3 b hb).2.2.2.1, (f3 b hb).2.1, (f3 b hb).2.2.2.2.1, (f3 b hb).2.2.2.2.2⟩
      exact ⟨v, H', I7, ru, qq⟩
  cases hf : codeAmong gpos ps.toList with
  | none =>
    refine wpAny_genexprCodeX hcode (cd.code hPs htr) (cd.tab hPs) hf fun c' h' tk hx hge hlt hco' _ htab' _ => ?_
    obtain ⟨o1, vs1, f1, tf, fl, tg1, inF, tx, tt1, op, _, _, _, _, _, _, _, _, _, htr', _⟩ := hco'
    exact cont _ h' tk _ hx htab'.2 ⟨_, rfl⟩ htr'
  | some cv =>
    refine wpAny_genexprCode_hit hcode (cd.code hPs htr) hf ?_
    exact cont cv s2.heap s2.toks ps (Heap.ExtBut.refl _ _) hPs ⟨#[], by simp⟩ htr
end

/-! ### min -/
abbrev lob (l : List Value) (c : Nat) : Obj := { cls := .type "list", dict := none, data := .seq l.toArray c, slots := #[] }
def minSt0 (o : Obj) : Prop := ∃ c, o = lob [] c
def minSh (o : Obj) (b : Option Int) : Prop := match b with
  | none => ∃ c, o = lob [] c
  | some i => ∃ t c, o = lob [.int i t, .int i t] c
def minOk (o : Obj) (y : V) : Prop := (∃ n, y = .int n) ∧ ∃ b, minSh o b
def minStep (o : Obj) (v : Value) (o' : Obj) : Prop := ∀ n t, v = .int n t → ∀ b, minSh o b → minSh o' (match b with
  | none => some n
  | some i => if n < i then some n else some i)
def minFin (o : Obj) (v : V) : Prop := ∃ i, minSh o (some i) ∧ v = .int i
theorem lob_cell {l : List Value} {c : Nat} : ∀ u, (lob l c).data ≠ .cell u := fun u z => by cases z
theorem lob_upd {h : Heap} {S : Addr} {l l' : List Value} {c : Nat} (e : h.get? S = some (lob l c)) : ∃ c', (h.update S (Obj.mapSeq fun _ => l'.toArray)).get? S = some (lob l' c') := ⟨_, Heap.get?_update_self _ e rfl⟩
section
variable {X : Cx} {pins : List (Addr × Obj)} {σ : L2.St} {Q : VK}
theorem lt_intR {prog : Program} {w : World} {A : Around} {E : Value → Shared → Prop} {s : Shared} {a b : Int} {t u : Tok} {Q : Value → Shared → Prop} (h : Q (.bool (decide (a < b))) s) : wpAny (model prog w) A (richCompare .Lt (.int a t) (.int b u)) Q E s := wpAny_lt_int h
theorem min_turns {Xg : Cx} {gp : List (Addr × Obj)} {A : Around} {a S : Addr} {gn : Nat} {Rz : Result → Shared → Prop} {Qe : Obj → Hp → Prop} (hh : A.handled = none) (hd : A.depth < recursionLimit)
    (hI : ∀ (pins : List (Addr × Obj)) (σ : L2.St) (H : Hp) (s : Shared), Inv Xg (gp ++ pins) σ H s → s.heap.IsGen a gn) (hS0 : Xg.s_0.heap.objs.size ≤ S) (hpn : Xg.pn = []) (hSg : ∀ p ∈ gp, p.1 ≠ S) (hQe : ∀ o H, Qe o H → ∃ v, minFin o v)
    (hend : ∀ (i : Int) (t : Tok) (c : Nat) (σ : L2.St) (H : Hp) (s' : Shared), Inv Xg (gp ++ [(S, lob [] c)]) σ H s' → (∃ o, minSh o (some i) ∧ Qe o H) → Rz (.ok (.ret (.int i t))) s') :
    ∀ (n : Nat) (s : Shared) (o : Obj) (b : Option Int), ReadyV (model Xg.prog Xg.w) A Xg gp S minOk minStep Qe a gn n s → s.heap.get? S = some o → minSh o b → codeAny (model Xg.prog Xg.w) A (.builtin "min.loop" ⟨[.ref a, .none, .ref S], []⟩) Rz s := by
  have hname : (toString "min" ++ toString ".loop" : String) = "min.loop" := by decide
  intro n
  induction n using Nat.strongRecOn with
  | ind n ih =>
    intro s o b r hS hb
    refine codeAny_builtin F.entry_min_loop ?_
    rw [Around.under_plainId F.plain_min_loop _]
    cases b with
    | none =>
      obtain ⟨c, rfl⟩ := hb
      show wpAny _ A.in1 (seqItems? (.ref S) >>= _) _ _ s
      refine wpAny_bind (wpAny_seqItems hS rfl ?_)
      show wpAny _ A.in1 (tryCatch (pyNext (.ref a)) _ >>= _) _ _ s
      refine wpAny_bind (wpAny_tryCatch (next_turnV hh hd hI hS0 hpn hSg r hS (fun σ H s' I q => ?_) fun y v s' ry hok hS' go => ?_))
      · obtain ⟨v, i, ⟨t, c', e⟩, _⟩ := hQe _ _ q
        have e : (lob [] c).data = (lob [.int i t, .int i t] c').data := by rw [e]
        have : ([] : List Value).toArray = [Value.int i t, Value.int i t].toArray := by injection e
        simp at this
      · obtain ⟨⟨nn, rfl⟩, _⟩ := hok
        obtain ⟨t, rfl⟩ := ry
        show wpAny _ A.in1 (updateSeq S (fun _ => #[_, _]) >>= _) _ _ _
        refine wpAny_bind (wpAny_updateSeq hS' rfl ?_)
        rw [hname]
        obtain ⟨c2, hu⟩ := lob_upd (l' := [Value.int nn t, Value.int nn t]) hS'
        obtain ⟨k, rfl, r'⟩ := go (lob [.int nn t, .int nn t] c2) _ s'.toks (fun n' t' e b' hb' => by
          cases e
          cases b' with
          | none => exact ⟨t, c2, rfl⟩
          | some i' =>
            obtain ⟨t3, c3, e3⟩ := hb'
            have e3 : (lob [] c).data = (lob [.int i' t3, .int i' t3] c3).data := by rw [e3]
            have : ([] : List Value).toArray = [Value.int i' t3, Value.int i' t3].toArray := by injection e3
            simp at this) lob_cell (fun b ob hb e => (Heap.get?_update_other _ _ (Ne.symm hb)).trans e) hu
        exact wpAny_pure ⟨plainId_quiet F.plain_min_loop _, ih k (Nat.lt_succ_self k) _ _ (some nn) r' hu ⟨t, c2, rfl⟩⟩
    | some i =>
      obtain ⟨t, c, rfl⟩ := hb
      have uniq : ∀ {i' : Int} {t' : Tok} {c' : Nat}, lob [.int i t, .int i t] c = lob [.int i' t', .int i' t'] c' → i = i' := fun {i' t' c'} e => by
        have e : (lob [.int i t, .int i t] c).data = (lob [.int i' t', .int i' t'] c').data := by rw [e]
        have : [Value.int i t, Value.int i t].toArray = [Value.int i' t', Value.int i' t'].toArray := by injection e
        simp at this
        exact this.1
      show wpAny _ A.in1 (seqItems? (.ref S) >>= _) _ _ s
      refine wpAny_bind (wpAny_seqItems hS rfl ?_)
      show wpAny _ A.in1 (tryCatch (pyNext (.ref a)) _ >>= _) _ _ s
      refine wpAny_bind (wpAny_tryCatch (next_turnV hh hd hI hS0 hpn hSg r hS (fun σ H s' I q => ?_) fun y v s' ry hok hS' go => ?_))
      · have pS : s'.heap.get? S = some (lob [.int i t, .int i t] c) := (I.pin (S, _) (List.mem_append_right _ (List.mem_append_right _ List.mem_cons_self))).1
        show wpAny _ A.in1 (updateSeq S (fun _ => #[]) >>= _) _ _ _
        refine wpAny_bind (wpAny_updateSeq pS rfl (wpAny_bind (wpAny_letGo (wpAny_pure ?_))))
        obtain ⟨c2, hu⟩ := lob_upd (l' := []) pS
        have Iq : Inv Xg (gp ++ [(S, lob [.int i t, .int i t] c)] ++ []) σ H s' := by rw [List.append_nil]; exact I
        have I2 := Inv.repin (s2 := ({ s' with heap := s'.heap.update S (Obj.mapSeq fun _ => ([] : List Value).toArray) } : Shared)) Iq hS0 hpn (fun p hp => hSg p (by simpa using hp)) (fun b ob hb e => (Heap.get?_update_other _ _ (Ne.symm hb)).trans e) hu lob_cell rfl I.bare
        rw [List.append_nil] at I2
        exact hend i t c2 σ H _ I2 ⟨_, ⟨t, c, rfl⟩, q⟩
      · obtain ⟨⟨nn, rfl⟩, _⟩ := hok
        obtain ⟨t', rfl⟩ := ry
        show wpAny _ A.in1 (tryCatch (holding [Value.int nn t', Value.int nn t'] (richCompare .Lt (Value.int nn t') (Value.int i t) >>= _)) _ >>= _) _ _ _
        refine wpAny_bind (wpAny_tryCatch (wpAny_holding (wpAny_bind (lt_intR ?_))))
        refine wpAny_bind (wpAny_holding (wpAny_truthy_bool ?_))
        refine wpAny_bind (wpAny_letGo (wpAny_pure ?_))
        by_cases hlt : nn < i
        · rw [decide_eq_true hlt]
          simp only [if_true]
          refine wpAny_bind (wpAny_updateSeq hS' rfl (wpAny_bind (wpAny_letGo ?_)))
          rw [hname]
          obtain ⟨c2, hu⟩ := lob_upd (l' := [Value.int nn t', Value.int nn t']) hS'
          obtain ⟨k, rfl, r'⟩ := go (lob [.int nn t', .int nn t'] c2) _ s'.toks (fun n' t3 e b' hb' => by
            cases e
            cases b' with
            | none => exact ⟨t', c2, rfl⟩
            | some i' =>
              obtain ⟨t3, c3, e3⟩ := hb'
              have := uniq e3
              subst this
              show minSh _ (if nn < i then some nn else some i)
              rw [if_pos hlt]
              exact ⟨t', c2, rfl⟩) lob_cell (fun b ob hb e => (Heap.get?_update_other _ _ (Ne.symm hb)).trans e) hu
          exact wpAny_pure ⟨plainId_quiet F.plain_min_loop _, ih k (Nat.lt_succ_self k) _ _ (some nn) r' hu ⟨t', c2, rfl⟩⟩
        · rw [decide_eq_false hlt]
          simp only [Bool.false_eq_true, if_false]
          refine wpAny_bind (wpAny_letGo ?_)
          rw [hname]
          obtain ⟨k, rfl, r'⟩ := go (lob [.int i t, .int i t] c) s'.heap s'.toks (fun n' t3 e b' hb' => by
            cases e
            cases b' with
            | none =>
              obtain ⟨c3, e3⟩ := hb'
              have e3 : (lob [.int i t, .int i t] c).data = (lob [] c3).data := by rw [e3]
              have : [Value.int i t, Value.int i t].toArray = ([] : List Value).toArray := by injection e3
              simp at this
            | some i' =>
              obtain ⟨t3, c3, e3⟩ := hb'
              have := uniq e3
              subst this
              show minSh _ (if nn < i then some nn else some i)
              rw [if_neg hlt]
              exact ⟨t, c, rfl⟩) lob_cell (fun b ob _ e => e) hS'
          exact wpAny_pure ⟨plainId_quiet F.plain_min_loop _, ih k (Nat.lt_succ_self k) _ _ (some i) r' hS' ⟨t, c, rfl⟩⟩
theorem call_min_made {k : Nat} {v : Value} {s5 : Shared} (hr : Room k X.A) (h : MadeV X pins σ minSt0 minOk minStep minFin Q v s5) :
    wpAny (model X.prog X.w) X.A (call (.builtin "min") [v]) (EP X pins σ Q) X.xe s5 := by
  obtain ⟨a, gn, Xg, gp, rfl, e1, e2, epn, hI, hg, hgp, hsz, hst, hend⟩ := h
  have hname : (toString "min" ++ toString ".loop" : String) = "min.loop" := by decide
  refine call_function_tree F.kind_min F.plain_min F.entry_min (F.args_min1 _) ?_
  show wpAny _ X.A.in1 (Builtin.Builtins.bindParams "min" ["key", "default"] 0 ⟨[], []⟩ >>= _) _ _ s5
  refine wpAny_bind (wpAny_of_eq (show Builtin.Builtins.bindParams "min" ["key", "default"] 0 ⟨[], []⟩ = pure [none, none] from rfl) ?_)
  refine wpAny_bind (wpAny_pure ?_)
  refine wpAny_bind (wpAny_pyIter_gen hg ?_)
  refine wpAny_bind (wpAny_newObj_type ?_ (by show 0 ≤ sizeLine; exact Nat.zero_le _))
  rw [hname]
  obtain ⟨n, r⟩ := hst s5.heap.objs.size (lob [] 0) (s5.heap.push (lob [] 0)) s5.toks (Nat.le_refl _) ⟨0, rfl⟩ lob_cell (fun b ob e => Heap.get?_push_of_some _ e) (Heap.get?_push_size _ rfl)
  refine wpAny_pure ⟨plainId_quiet F.plain_min_loop _, ?_⟩
  have z := min_turns (A := X.A) (a := a) (S := s5.heap.objs.size) (gn := gn) (gp := gp) (Xg := Xg) (Qe := fun o H => ∃ v, minFin o v ∧ Q v H) (Rz := fun r s' => match r with
    | .ok (.ret v) => EP X pins σ Q v s'
    | .ok _ => False
    | .error e => X.xe e s') hr.hd hr.depth hI hsz epn (fun p hp => Nat.ne_of_lt (hgp p hp)) (fun o H ⟨v, h, _⟩ => ⟨v, h⟩) (fun i t c σ' H s' I ⟨o, ho, v, ⟨i', hi', ev⟩, q⟩ => by
      subst ev
      obtain ⟨t1, c1, e1⟩ := ho
      obtain ⟨t2, c2, e2⟩ := hi'
      have e : (lob [.int i t1, .int i t1] c1).data = (lob [.int i' t2, .int i' t2] c2).data := by rw [← e1, ← e2]
      have : [Value.int i t1, Value.int i t1].toArray = [Value.int i' t2, Value.int i' t2].toArray := by injection e
      simp at this
      rw [← this.1] at q
      exact hend _ (.int i) (.int i t) σ' H s' I ⟨t, rfl⟩ q) n _ (lob [] 0) none r (Heap.get?_push_size _ rfl) ⟨0, rfl⟩
  rw [e1, e2] at z
  exact z
end
section
variable {X : Cx} {elt tg iter : Expr} {ifs : List Expr} {scope : Scope} {g : TG} {tt : TT} {te : TE} {c P : Addr} {gpos p pos : Pos} {own : List (Str × Nat)} {wi : TI} {k : Nat}
theorem pe_minG (hc : X.calm = true) (hN : X.N.Nodup) (hr : Room k X.A) (hgl : Gl X "min") (hm : X.mg "min" = none) (TB : GxR.TabB X.base X.mg c P) (hcode : X.env.code = .ref c) (ok : GenSc X.N X.env.scope scope own) (hi : PI X tg iter wi)
    (hg : ∀ (A' : Around) (s : Shared) (H : Hp) (code : Value) (cl : List (Str × Addr)) (C : Addr) (fp : List Addr), (∃ env, A' = X.A.in1.in1.deeper env) → PG (cxGen X A' s H (genEnv scope cl C code builtinsNs X.env) fp) tg g)
    (ht : ∀ (A' : Around) (s : Shared) (H : Hp) (code : Value) (cl : List (Str × Addr)) (C : Addr) (fp : List Addr), (∃ env, A' = X.A.in1.in1.deeper env) → PTs (cxGen X A' s H (genEnv scope cl C code builtinsNs X.env) fp) ifs tt)
    (he : ∀ (A' : Around) (s : Shared) (H : Hp) (code : Value) (cl : List (Str × Addr)) (C : Addr) (fp : List Addr), (∃ env, A' = X.A.in1.in1.deeper env) → PE (cxGen X A' s H (genEnv scope cl C code builtinsNs X.env) fp) elt te)
    (hs : ∀ v, genFold iter X.env v = pure v)
    (hst : starEach [.GeneratorExp elt [⟨tg, iter, ifs, 0⟩] scope gpos] X.env = (false, eval (.GeneratorExp elt [⟨tg, iter, ifs, 0⟩] scope gpos) X.env) :: starEach [] X.env) :
    PE X (.Call (.Name "min" p) [.GeneratorExp elt [⟨tg, iter, ifs, 0⟩] scope gpos] [] pos) (tGenV P wi g tt te (own.map (·.2)) minSt0 minOk minStep minFin) := by
  refine ⟨fun pins s σ H Q I h => ?_⟩
  refine wpAny_Call_Name_kw (ld_blt I hgl hm (by decide +kernel : bootBuiltins "min" = some (.builtin "min")) ?_)
  refine PyProof.Rows.callWith_builtin1 ?_ hst (by rfl)
  rw [hst]
  show wpAny _ _ (spliced ((false, eval (.GeneratorExp elt [⟨tg, iter, ifs, 0⟩] scope gpos) X.env) :: backTo pos (starEach [] X.env))) _ _ s
  exact Calls.spliced_cons (thn (gen_madeV hc hN hr TB hcode ok hi hg ht he hs I h) fun v s5 hv => Calls.spliced_nil (call_min_made hr hv))
end
end Gx
end
section
set_option Elab.async false
set_option linter.all false
set_option maxRecDepth 100000
set_option maxHeartbeats 2000000
/-! Plain values over the hand layer: data without addresses, environments, what represents what. -/
namespace PL
open PySem PySem.Spec PyProof.Rows L2

abbrev D := PyData
/-! ### representation -/
mutual
def Rep (K : PySem.W.Frag) (F : Hp) : D → V → Prop
  | .none, v => v = .non
  | .bool b, v => v = .bl b
  | .int i, v => v = .int i
  | .str x, v => v = .str x ∧ x.length ≤ sizeLine ∧ PyData.strOk x = true
  | .list xs, v => ∃ a vs, v = .ref a ∧ F a = some (.lst vs) ∧ vs.length ≤ sizeLine ∧ Reps K F xs vs
  | .tuple xs, v => ∃ a vs, v = .ref a ∧ SqT K F a vs ∧ vs.length ≤ sizeLine ∧ Reps K F xs vs
  | .dict _, _ => False
def Reps (K : PySem.W.Frag) (F : Hp) : List D → List V → Prop
  | [], vs => vs = []
  | d :: ds, vs => ∃ v r, vs = v :: r ∧ Rep K F d v ∧ Reps K F ds r
end
section
variable {K : PySem.W.Frag} {F F' H H' : Hp}
theorem Same.sqT {a : Addr} {xs : List V} (e : Same H H') (h : SqT K H a xs) : SqT K H' a xs := by
  rcases h with (h | ⟨o, h⟩) | h
  · exact .inl (.inl (e _ _ h))
  · exact .inl (.inr ⟨o, e _ _ h⟩)
  · exact .inr h
mutual
theorem Rep.mono (s : Same F F') : ∀ {d : D} {v : V}, Rep K F d v → Rep K F' d v
  | .none, _, h => h
  | .bool _, _, h => h
  | .int _, _, h => h
  | .str _, _, h => h
  | .list xs, v, h => by
    rw [Rep] at h ⊢
    obtain ⟨a, vs, e, q, l, r⟩ := h
    exact ⟨a, vs, e, s _ _ q, l, Reps.mono s r⟩
  | .tuple xs, v, h => by
    rw [Rep] at h ⊢
    obtain ⟨a, vs, e, q, l, r⟩ := h
    exact ⟨a, vs, e, Same.sqT s q, l, Reps.mono s r⟩
  | .dict _, _, h => by rw [Rep] at h; exact h.elim
theorem Reps.mono (s : Same F F') : ∀ {ds : List D} {vs : List V}, Reps K F ds vs → Reps K F' ds vs
  | [], _, h => h
  | d :: ds, vs, h => by
    rw [Reps] at h ⊢
    obtain ⟨v, r, e, h1, h2⟩ := h
    exact ⟨v, r, e, Rep.mono s h1, Reps.mono s h2⟩
end
theorem reps_nil : Reps K F [] [] := by rw [Reps]
theorem reps_cons {d : D} {v : V} {ds : List D} {vs : List V} (h : Rep K F d v) (t : Reps K F ds vs) : Reps K F (d :: ds) (v :: vs) := by
  rw [Reps]
  exact ⟨v, vs, rfl, h, t⟩
theorem reps_cons_inv {d : D} {ds : List D} {vs : List V} (h : Reps K F (d :: ds) vs) : ∃ v r, vs = v :: r ∧ Rep K F d v ∧ Reps K F ds r := by
  rw [Reps] at h
  exact h
theorem Reps.len : ∀ {ds : List D} {vs : List V}, Reps K F ds vs → vs.length = ds.length
  | [], vs, h => by rw [Reps] at h; rw [h]; rfl
  | d :: ds, vs, h => by
    obtain ⟨v, r, rfl, _, h2⟩ := reps_cons_inv h
    rw [List.length_cons, List.length_cons, Reps.len h2]
theorem Reps.get : ∀ {ds : List D} {vs : List V} {i : Nat} {d : D}, Reps K F ds vs → ds[i]? = some d → ∃ v, vs[i]? = some v ∧ Rep K F d v
  | [], _, _, _, _, e => by simp at e
  | d :: ds, vs, i, x, h, e => by
    obtain ⟨v, r, rfl, h1, h2⟩ := reps_cons_inv h
    cases i with
    | zero =>
      simp at e
      subst e
      exact ⟨v, rfl, h1⟩
    | succ j =>
      simp at e
      obtain ⟨w, e2, q⟩ := Reps.get h2 e
      exact ⟨w, by simpa using e2, q⟩
theorem Reps.append : ∀ {ds es : List D} {vs us : List V}, Reps K F ds vs → Reps K F es us → Reps K F (ds ++ es) (vs ++ us)
  | [], es, vs, us, h, t => by
    rw [Reps] at h
    subst h
    exact t
  | d :: ds, es, vs, us, h, t => by
    obtain ⟨v, r, rfl, h1, h2⟩ := reps_cons_inv h
    exact reps_cons h1 (Reps.append h2 t)
theorem Reps.drop : ∀ {ds : List D} {vs : List V} (n : Nat), Reps K F ds vs → Reps K F (ds.drop n) (vs.drop n)
  | ds, vs, 0, h => by simpa using h
  | [], vs, n + 1, h => by
    rw [Reps] at h
    subst h
    exact reps_nil
  | d :: ds, vs, n + 1, h => by
    obtain ⟨v, r, rfl, h1, h2⟩ := reps_cons_inv h
    exact Reps.drop n h2
theorem Reps.take : ∀ {ds : List D} {vs : List V} (n : Nat), Reps K F ds vs → Reps K F (ds.take n) (vs.take n)
  | ds, vs, 0, h => by simpa using reps_nil
  | [], vs, n + 1, h => by
    rw [Reps] at h
    subst h
    exact reps_nil
  | d :: ds, vs, n + 1, h => by
    obtain ⟨v, r, rfl, h1, h2⟩ := reps_cons_inv h
    exact reps_cons h1 (Reps.take n h2)
theorem Reps.set {d : D} {v : V} (q : Rep K F d v) : ∀ {ds : List D} {vs : List V} (i : Nat), Reps K F ds vs → Reps K F (ds.set i d) (vs.set i v)
  | [], vs, i, h => by
    rw [Reps] at h
    subst h
    exact reps_nil
  | x :: ds, vs, 0, h => by
    obtain ⟨w, r, rfl, h1, h2⟩ := reps_cons_inv h
    exact reps_cons q h2
  | x :: ds, vs, i + 1, h => by
    obtain ⟨w, r, rfl, h1, h2⟩ := reps_cons_inv h
    exact reps_cons h1 (Reps.set q i h2)
theorem Reps.reverse : ∀ {ds : List D} {vs : List V}, Reps K F ds vs → Reps K F ds.reverse vs.reverse
  | [], vs, h => by
    rw [Reps] at h
    subst h
    exact reps_nil
  | x :: ds, vs, h => by
    obtain ⟨w, r, rfl, h1, h2⟩ := reps_cons_inv h
    rw [List.reverse_cons, List.reverse_cons]
    exact (Reps.reverse h2).append (reps_cons h1 reps_nil)
theorem Reps.dropLast {ds : List D} {vs : List V} (h : Reps K F ds vs) : Reps K F ds.dropLast vs.dropLast := by
  rw [List.dropLast_eq_take, List.dropLast_eq_take, h.len]
  exact h.take _
theorem Reps.replicate {ds : List D} {vs : List V} (h : Reps K F ds vs) : ∀ n : Nat, Reps K F (List.replicate n ds).flatten (List.replicate n vs).flatten
  | 0 => reps_nil
  | n + 1 => by
    rw [List.replicate_succ, List.replicate_succ, List.flatten_cons, List.flatten_cons]
    exact h.append (Reps.replicate h n)
/-- a list read at H whose items lie in F -/
def RepC (K : PySem.W.Frag) (F H : Hp) : D → V → Prop
  | .list xs, v => ∃ a vs, v = .ref a ∧ H a = some (.lst vs) ∧ vs.length ≤ sizeLine ∧ Reps K F xs vs
  | d, v => Rep K F d v
theorem Rep.c (s : Same F H) : ∀ {d : D} {v : V}, Rep K F d v → RepC K F H d v
  | .none, _, h => h
  | .bool _, _, h => h
  | .int _, _, h => h
  | .str _, _, h => h
  | .list xs, v, h => by
    rw [Rep] at h
    obtain ⟨a, vs, e, q, l, r⟩ := h
    exact ⟨a, vs, e, s _ _ q, l, r⟩
  | .tuple xs, v, h => h
  | .dict _, _, h => h
theorem RepC.rep (s : Same F H) : ∀ {d : D} {v : V}, RepC K F H d v → Rep K H d v
  | .none, _, h => Rep.mono s h
  | .bool _, _, h => Rep.mono s h
  | .int _, _, h => Rep.mono s h
  | .str _, _, h => Rep.mono s h
  | .list xs, v, h => by
    rw [Rep]
    obtain ⟨a, vs, e, q, l, r⟩ := h
    exact ⟨a, vs, e, q, l, Reps.mono s r⟩
  | .tuple xs, v, h => Rep.mono s h
  | .dict _, _, h => Rep.mono s h
mutual
theorem Rep.dp : ∀ {d : D} {v : V}, Rep K F d v → Dp K F v d
  | .none, _, h => by rw [Rep] at h; subst h; exact .non
  | .bool _, _, h => by rw [Rep] at h; subst h; exact .bl _
  | .int _, _, h => by rw [Rep] at h; subst h; exact .int _
  | .str _, _, h => by rw [Rep] at h; obtain ⟨rfl, _, _⟩ := h; exact .str _
  | .list xs, v, h => by
    rw [Rep] at h
    obtain ⟨a, vs, rfl, q, l, r⟩ := h
    exact .lst (SqL.of q) (Reps.dp r)
  | .tuple xs, v, h => by
    rw [Rep] at h
    obtain ⟨a, vs, rfl, q, l, r⟩ := h
    exact .tup q (Reps.dp r)
  | .dict _, _, h => by rw [Rep] at h; exact h.elim
theorem Reps.dp : ∀ {ds : List D} {vs : List V}, Reps K F ds vs → DpAll K F vs ds
  | [], vs, h => by rw [Reps] at h; subst h; exact .nil
  | d :: ds, vs, h => by
    obtain ⟨v, r, rfl, h1, h2⟩ := reps_cons_inv h
    exact .cons (Rep.dp h1) (Reps.dp h2)
end
mutual
theorem Rep.can : ∀ {d : D} {v : V}, Rep K F d v → d.canLay0 = true
  | .none, _, h => by rw [PyData.canLay0]
  | .bool _, _, h => by rw [PyData.canLay0]
  | .int _, _, h => by rw [PyData.canLay0]
  | .str x, _, h => by
    rw [Rep] at h
    rw [PyData.canLay0]
    exact h.2.2
  | .list xs, v, h => by
    rw [Rep] at h
    obtain ⟨a, vs, rfl, q, l, r⟩ := h
    rw [PyData.canLay0]
    exact Reps.can r
  | .tuple xs, v, h => by
    rw [Rep] at h
    obtain ⟨a, vs, rfl, q, l, r⟩ := h
    rw [PyData.canLay0]
    exact Reps.can r
  | .dict _, _, h => by rw [Rep] at h; exact h.elim
theorem Reps.can : ∀ {ds : List D} {vs : List V}, Reps K F ds vs → PyData.canLayAll0 ds = true
  | [], vs, h => by rw [PyData.canLayAll0]
  | d :: ds, vs, h => by
    obtain ⟨v, r, rfl, h1, h2⟩ := reps_cons_inv h
    rw [PyData.canLayAll0, Rep.can h1, Reps.can h2]
    rfl
end
end
end PL
end
section
set_option Elab.async false
set_option linter.all false
set_option maxRecDepth 100000
set_option maxHeartbeats 2000000
set_option autoImplicit false
/-! Environments, results, what is wanted behind a piece of code. -/
namespace PL
open PySem PySem.Spec PyProof.Rows L2

structure GG where
  P : Program
  w : World
  K : PySem.W.Frag
  mg : Str → Option Value
  base : Heap
  tb : List Addr
  cls : Str → Addr

inductive P1 where
  | fz (d : D) | fl (xs : List D)
/-- what a def hands back: frozen data, a new list of its own, a new tuple of such -/
inductive O where
  | fz (d : D) | fl (xs : List D) | tp (ps : List P1)
/-- a slot: nothing, frozen data, a list of one's own, a list that a caller has handed in to be changed, an error that is handled -/
inductive Sl where
  | un | fz (d : D) | fl (xs : List D) | io (j : Nat) (xs : List D) | er (c : Str) | sc (ns : List Int)
abbrev Env := List Sl
def Sl.own : Sl → Bool
  | .fl _ => true
  | .io _ _ => true
  | _ => false
/-- a value in the hand, or the list that a name holds -/
inductive W where
  | o (x : O) | own (i : Nat)
abbrev W.val (d : D) : W := .o (.fz d)
def P1.dat : P1 → D
  | .fz d => d
  | .fl xs => .list xs
def O.dat : O → D
  | .fz d => d
  | .fl xs => .list xs
  | .tp ps => .tuple (ps.map P1.dat)
def Sl.dat : Sl → Option D
  | .fz d => some d
  | .fl xs => some (.list xs)
  | .io _ xs => some (.list xs)
  | _ => none
def W.dat (ρ : Env) : W → Option D
  | .o x => some x.dat
  | .own i => (ρ[i]?).bind Sl.dat

/-- the frame of a def: the lists handed in, the heap at its entry -/
structure Fm where
  ios : List Addr
  H0 : Hp

structure HpOk (G : GG) (F H : Hp) : Prop where
  sub : Same F H
  nt : ∀ a ps, F a ≠ some (.tbl ps)
  tab : ∀ P ∈ G.tb, GxR.TabG H P

def SlOk (K : PySem.W.Frag) (T : Fm) (F H : Hp) (ov : Option V) : Sl → Prop
  | .un => True
  | .fz d => ∃ v, ov = some v ∧ Rep K F d v
  | .fl xs => ∃ a vs, ov = some (.ref a) ∧ H a = some (.lst vs) ∧ F a = none ∧ T.H0 a = none ∧ vs.length ≤ sizeLine ∧ Reps K F xs vs
  | .io j xs => ∃ a vs, ov = some (.ref a) ∧ H a = some (.lst vs) ∧ F a = none ∧ T.ios[j]? = some a ∧ vs.length ≤ sizeLine ∧ Reps K F xs vs
  | .er _ => True
  | .sc ns => ∃ a, ov = some (.ref a) ∧ SqL K F a (ns.map V.int) ∧ ns.length ≤ 63

def Owns (σ : L2.St) (ρ : Env) (a : Addr) : Prop := ∃ (i : Nat) (s : Sl), ρ[i]? = some s ∧ s.own = true ∧ σ[i]? = some (some (V.ref a))

structure EnvOk (G : GG) (T : Fm) (F H : Hp) (σ : L2.St) (ρ : Env) : Prop where
  hp : HpOk G F H
  live0 : ∀ a, T.H0 a ≠ none → H a ≠ none
  len : σ.length = ρ.length
  at_ : ∀ (i : Nat) (s : Sl), ρ[i]? = some s → SlOk G.K T F H (σ[i]?).join s
  sep : ∀ (i j : Nat) (a : Addr) (s t : Sl), ρ[i]? = some s → s.own = true → ρ[j]? = some t → t.own = true → σ[i]? = some (some (V.ref a)) → σ[j]? = some (some (V.ref a)) → i = j

structure Ext (A : Addr → Prop) (F H F' H' : Hp) : Prop where
  fle : Same F F'
  keep : ∀ a o, H a = some o → ¬ A a → (∀ ps, o ≠ .tbl ps) → H' a = some o
  fnew : ∀ a, H a ≠ none → ¬ A a → F' a = F a
  live : ∀ a, H a ≠ none → H' a ≠ none

theorem Ext.refl {A : Addr → Prop} {F H : Hp} : Ext A F H F H := ⟨fun _ _ e => e, fun _ _ e _ _ => e, fun _ _ _ => rfl, fun _ h => h⟩
theorem Ext.trans {A A1 : Addr → Prop} {F H F1 H1 F2 H2 : Hp} (x : Ext A F H F1 H1) (y : Ext A1 F1 H1 F2 H2) (h : ∀ a, A1 a → A a ∨ H a = none) : Ext A F H F2 H2 := by
  have na : ∀ a, H a ≠ none → ¬ A a → ¬ A1 a := fun a h1 h2 h3 => by
    rcases h a h3 with z | z
    · exact h2 z
    · exact h1 z
  refine ⟨x.fle.trans y.fle, fun a o e n t => ?_, fun a e n => ?_, fun a e => y.live a (x.live a e)⟩
  · exact y.keep a o (x.keep a o e n t) (na a (by rw [e]; simp) n) t
  · rw [y.fnew a (x.live a e) (na a e n), x.fnew a e n]
theorem Ext.weaken {A A1 : Addr → Prop} {F H F' H' : Hp} (x : Ext A F H F' H') (h : ∀ a, A a → A1 a) : Ext A1 F H F' H' :=
  ⟨x.fle, fun a o e n t => x.keep a o e (fun z => n (h a z)) t, fun a e n => x.fnew a e (fun z => n (h a z)), x.live⟩
/-- a frozen part is kept -/
theorem Ext.same {A : Addr → Prop} {F H F' H' : Hp} (x : Ext A F H F' H') : Same F F' := x.fle

def RepP (K : PySem.W.Frag) (F H : Hp) (v : V) : P1 → List Addr → Prop
  | .fz d, A => A = [] ∧ Rep K F d v
  | .fl xs, A => ∃ a vs, v = .ref a ∧ A = [a] ∧ H a = some (.lst vs) ∧ F a = none ∧ vs.length ≤ sizeLine ∧ Reps K F xs vs
def RepPs (K : PySem.W.Frag) (F H : Hp) : List P1 → List V → List Addr → Prop
  | [], vs, A => vs = [] ∧ A = []
  | p :: ps, vs, A => ∃ v r A1 A2, vs = v :: r ∧ A = A1 ++ A2 ∧ RepP K F H v p A1 ∧ RepPs K F H ps r A2
def RepO (K : PySem.W.Frag) (F H : Hp) (v : V) : O → List Addr → Prop
  | .fz d, A => A = [] ∧ Rep K F d v
  | .fl xs, A => ∃ a vs, v = .ref a ∧ A = [a] ∧ H a = some (.lst vs) ∧ F a = none ∧ vs.length ≤ sizeLine ∧ Reps K F xs vs
  | .tp ps, A => ∃ t vs, v = .ref t ∧ SqT K F t vs ∧ vs.length ≤ sizeLine ∧ RepPs K F H ps vs A

/-- a value in the hand; Hs: the heap at the start of the expression -/
def RepW (K : PySem.W.Frag) (Hs F H : Hp) (σ : L2.St) (ρ : Env) (v : V) : W → Prop
  | .o x => ∃ A, RepO K F H v x A ∧ A.Nodup ∧ ∀ a ∈ A, Hs a = none ∧ ¬ Owns σ ρ a
  | .own i => σ[i]? = some (some v) ∧ ∃ s, ρ[i]? = some s ∧ s.own = true

inductive R (α : Type) where
  | ok (x : α) (ρ : Env) | exc (c : Str) (ρ : Env) | bad
def R.bind {α β : Type} (r : R α) (k : α → Env → R β) : R β := match r with
  | .ok x ρ => k x ρ
  | .exc c ρ => .exc c ρ
  | .bad => .bad
@[simp] theorem R.bind_ok {α β : Type} (x : α) (ρ : Env) (k : α → Env → R β) : (R.ok x ρ).bind k = k x ρ := rfl
@[simp] theorem R.bind_exc {α β : Type} (c : Str) (ρ : Env) (k : α → Env → R β) : (R.exc c ρ : R α).bind k = .exc c ρ := rfl
@[simp] theorem R.bind_bad {α β : Type} (k : α → Env → R β) : (R.bad : R α).bind k = .bad := rfl

def RPost {α : Type} (G : GG) (T : Fm) (Wx : WX) (F H : Hp) (σ : L2.St) (ρ : Env) (Ok : α → Env → Hp → Hp → Prop) : R α → Prop
  | .ok x ρ' => ∀ F' H', Ext (Owns σ ρ) F H F' H' → EnvOk G T F' H' σ ρ' → (∀ a, Owns σ ρ' a → Owns σ ρ a) → Ok x ρ' F' H'
  | .exc c ρ' => ∀ F' H', Ext (Owns σ ρ) F H F' H' → EnvOk G T F' H' σ ρ' → (∀ a, Owns σ ρ' a → Owns σ ρ a) → Wx (.ref (G.cls c)) none σ H'
  | .bad => False

section
variable {α β : Type} {G : GG} {T : Fm} {Wx : WX} {F H F1 H1 : Hp} {σ : L2.St} {ρ ρ1 : Env}
theorem RPost.bind {Ok : β → Env → Hp → Hp → Prop} {r : R α} {k : α → Env → R β} (h : RPost G T Wx F H σ ρ Ok (r.bind k)) :
    RPost G T Wx F H σ ρ (fun x ρ1 F1 H1 => RPost G T Wx F1 H1 σ ρ1 Ok (k x ρ1)) r := by
  cases r with
  | bad => exact h
  | exc c ρ' => exact h
  | ok x ρ1 =>
    intro F1 H1 e1 ok1 l1
    have h : RPost G T Wx F H σ ρ Ok (k x ρ1) := h
    cases hk : k x ρ1 with
    | bad => rw [hk] at h; exact h
    | exc c ρ2 =>
      rw [hk] at h
      exact fun F2 H2 e2 ok2 l2 => h F2 H2 (e1.trans e2 fun a z => .inl (l1 a z)) ok2 fun a z => l1 a (l2 a z)
    | ok y ρ2 =>
      rw [hk] at h
      exact fun F2 H2 e2 ok2 l2 => h F2 H2 (e1.trans e2 fun a z => .inl (l1 a z)) ok2 fun a z => l1 a (l2 a z)
theorem RPost.imp {Ok Ok' : α → Env → Hp → Hp → Prop} {r : R α} (h : RPost G T Wx F H σ ρ Ok r)
    (i : ∀ x ρ' F' H', Ext (Owns σ ρ) F H F' H' → EnvOk G T F' H' σ ρ' → (∀ a, Owns σ ρ' a → Owns σ ρ a) → Ok x ρ' F' H' → Ok' x ρ' F' H') : RPost G T Wx F H σ ρ Ok' r := by
  cases r with
  | bad => exact h
  | exc c ρ' => exact h
  | ok x ρ' => exact fun F' H' e ok l => i x ρ' F' H' e ok l (h F' H' e ok l)
end

/-- what an expression is to bring -/
def EPost (G : GG) (T : Fm) (Wx : WX) (F H : Hp) (σ : L2.St) (ρ : Env) (Q : VK) : R W → Prop :=
  RPost G T Wx F H σ ρ fun w ρ' F' H' => ∀ v, RepW G.K H F' H' σ ρ' v w → Q v H'
/-- the reading of an expression that is worth f -/
def tE (G : GG) (Wx : WX) (f : Env → R W) : TE := fun σ H Q => ∃ T F ρ, EnvOk G T F H σ ρ ∧ EPost G T Wx F H σ ρ Q (f ρ)
def tT (G : GG) (Wx : WX) (f : Env → R Bool) : TT := fun σ H Q => ∃ T F ρ, EnvOk G T F H σ ρ ∧ RPost G T Wx F H σ ρ (fun b _ _ H' => Q b H') (f ρ)

theorem PE.to {X : Cx} {e : Expr} {t t' : TE} (h : PE X e t) (i : ∀ σ H Q, t' σ H Q → t σ H Q) : PE X e t' := ⟨fun pins s σ H Q I q => h.run pins s σ H Q I (i σ H Q q)⟩
theorem PT.to {X : Cx} {e : Expr} {t t' : TT} (h : PT X e t) (i : ∀ σ H Q, t' σ H Q → t σ H Q) : PT X e t' := ⟨fun pins s σ H Q I q => h.run pins s σ H Q I (i σ H Q q)⟩
theorem PS.to {X : Cx} {st : Stmt} {t t' : TS} (h : PS X st t) (i : ∀ D σ H, t' D σ H → t D σ H) : PS X st t' := ⟨fun pins s σ H D I q => h.run pins s σ H D I (i D σ H q)⟩
theorem PSs.to {X : Cx} {st : List Stmt} {t t' : TS} (h : PSs X st t) (i : ∀ D σ H, t' D σ H → t D σ H) : PSs X st t' := ⟨fun pins s σ H D I q => h.run pins s σ H D I (i D σ H q)⟩

/-! ### pure growth: something new is laid -/
structure New (F H F' H' : Hp) : Prop where
  fle : Same F F'
  hle : Same H H'
  fnew : ∀ a, H a ≠ none → F' a = F a
theorem New.refl {F H : Hp} : New F H F H := ⟨fun _ _ e => e, fun _ _ e => e, fun _ _ => rfl⟩
theorem New.live {F H F' H' : Hp} (n : New F H F' H') : ∀ a, H a ≠ none → H' a ≠ none := fun a h => by
  cases e : H a with
  | none => exact absurd e h
  | some o => rw [n.hle a o e]; simp
theorem New.ext {A : Addr → Prop} {F H F' H' : Hp} (n : New F H F' H') : Ext A F H F' H' := ⟨n.fle, fun a o e _ _ => n.hle a o e, fun a e _ => n.fnew a e, n.live⟩
theorem New.trans {F H F1 H1 F2 H2 : Hp} (a : New F H F1 H1) (b : New F1 H1 F2 H2) : New F H F2 H2 :=
  ⟨a.fle.trans b.fle, a.hle.trans b.hle, fun x h => by rw [b.fnew x (a.live x h), a.fnew x h]⟩
/-- a frozen object is laid -/
theorem New.frozen {G : GG} {F H : Hp} {p : Addr} {o : HO} (ok : HpOk G F H) (hp : H p = none) : New F H (upd F p o) (upd H p o) := by
  have hf : F p = none := ok.sub.free hp
  refine ⟨fun b u e => ?_, fun b u e => ?_, fun a h => ?_⟩
  · rw [upd_ne (ne_of_none e hf)]; exact e
  · rw [upd_ne (ne_of_none e hp)]; exact e
  · have : a ≠ p := fun z => h (by rw [z]; exact hp)
    rw [upd_ne this]
/-- an object of one's own is laid -/
theorem New.own {F H : Hp} {p : Addr} {o : HO} (hp : H p = none) : New F H F (upd H p o) :=
  ⟨fun _ _ e => e, fun b u e => by rw [upd_ne (ne_of_none e hp)]; exact e, fun _ _ => rfl⟩
theorem HpOk.frozen {G : GG} {F H : Hp} {p : Addr} {o : HO} (ok : HpOk G F H) (hp : H p = none) (ho : ∀ ps, o ≠ .tbl ps) : HpOk G (upd F p o) (upd H p o) := by
  refine ⟨fun b u e => ?_, fun a ps e => ?_, fun P hP => ?_⟩
  · by_cases z : b = p
    · subst z; rw [upd_same] at e ⊢; exact e
    · rw [upd_ne z] at e ⊢; exact ok.sub b u e
  · by_cases z : a = p
    · subst z; rw [upd_same] at e; exact ho ps (Option.some.inj e)
    · rw [upd_ne z] at e; exact ok.nt a ps e
  · obtain ⟨ps, e, t⟩ := ok.tab P hP
    exact ⟨ps, by rw [upd_ne (ne_of_none e hp)]; exact e, t⟩
theorem HpOk.own {G : GG} {F H : Hp} {p : Addr} {o : HO} (ok : HpOk G F H) (hp : H p = none) : HpOk G F (upd H p o) := by
  refine ⟨fun b u e => ?_, ok.nt, fun P hP => ?_⟩
  · rw [upd_ne (ne_of_none (ok.sub b u e) hp)]; exact ok.sub b u e
  · obtain ⟨ps, e, t⟩ := ok.tab P hP
    exact ⟨ps, by rw [upd_ne (ne_of_none e hp)]; exact e, t⟩
section
variable {G : GG} {T : Fm} {F H F' H' : Hp} {σ : L2.St} {ρ : Env}
theorem SlOk.new {K : PySem.W.Frag} {ov : Option V} {s : Sl} (h : SlOk K T F H ov s) (n : New F H F' H') : SlOk K T F' H' ov s := by
  cases s with
  | un => trivial
  | er c => trivial
  | sc ns =>
    obtain ⟨a, e, q, l⟩ := h
    exact ⟨a, e, n.fle.seq q, l⟩
  | fz d =>
    obtain ⟨v, e, r⟩ := h
    exact ⟨v, e, r.mono n.fle⟩
  | fl xs =>
    obtain ⟨a, vs, e, h1, h2, h0, l, r⟩ := h
    exact ⟨a, vs, e, n.hle _ _ h1, by rw [n.fnew a (by rw [h1]; simp)]; exact h2, h0, l, r.mono n.fle⟩
  | io j xs =>
    obtain ⟨a, vs, e, h1, h2, h0, l, r⟩ := h
    exact ⟨a, vs, e, n.hle _ _ h1, by rw [n.fnew a (by rw [h1]; simp)]; exact h2, h0, l, r.mono n.fle⟩
theorem EnvOk.new (ok : EnvOk G T F H σ ρ) (n : New F H F' H') (hp : HpOk G F' H') : EnvOk G T F' H' σ ρ :=
  ⟨hp, fun a z => n.live a (ok.live0 a z), ok.len, fun i s e => (ok.at_ i s e).new n, ok.sep⟩
/-- what a name holds, as it may be read -/
theorem EnvOk.read (ok : EnvOk G T F H σ ρ) {i : Nat} {v : V} {d : D} (hv : σ[i]? = some (some v)) (hd : (ρ[i]?).bind Sl.dat = some d) : RepC G.K F H d v := by
  cases e : ρ[i]? with
  | none => rw [e] at hd; cases hd
  | some s =>
    rw [e] at hd
    have hd : s.dat = some d := hd
    have z := ok.at_ i s e
    rw [hv] at z
    cases s with
    | un => cases hd
    | er c => cases hd
    | sc ns => cases hd
    | fz d' =>
      cases hd
      obtain ⟨v', e', r⟩ := z
      cases e'
      exact r.c ok.hp.sub
    | fl xs =>
      cases hd
      obtain ⟨a, vs, e', h1, _, _, l, r⟩ := z
      cases e'
      exact ⟨a, vs, rfl, h1, l, r⟩
    | io j xs =>
      cases hd
      obtain ⟨a, vs, e', h1, _, _, l, r⟩ := z
      cases e'
      exact ⟨a, vs, rfl, h1, l, r⟩
end

/-! ### a value is settled: what is new in the hand is frozen -/
def O.nrm (x : O) : O := .fz x.dat
def W.nrm : W → W
  | .o x => .o x.nrm
  | w => w
/-- a settled value -/
def RepN (K : PySem.W.Frag) (F : Hp) (σ : L2.St) (v : V) : W → Prop
  | .o (.fz d) => Rep K F d v
  | .o _ => False
  | .own i => σ[i]? = some (some v)
theorem RepN.mono {K : PySem.W.Frag} {F F' : Hp} {σ : L2.St} {v : V} {w : W} (h : RepN K F σ v w) (s : Same F F') : RepN K F' σ v w := by
  cases w with
  | own i => exact h
  | o x =>
    cases x with
    | fz d => exact Rep.mono s h
    | fl xs => exact h
    | tp ps => exact h
/-- the value of a settled thing, read now -/
theorem RepN.read {G : GG} {T : Fm} {F H : Hp} {σ : L2.St} {ρ : Env} {v : V} {w : W} {d : D} (ok : EnvOk G T F H σ ρ) (h : RepN G.K F σ v w) (hd : w.dat ρ = some d) : RepC G.K F H d v := by
  cases w with
  | own i => exact ok.read h hd
  | o x =>
    cases x with
    | fz d' =>
      cases hd
      exact Rep.c ok.hp.sub h
    | fl xs => exact h.elim
    | tp ps => exact h.elim

section
variable {G : GG} {T : Fm} {F H : Hp} {σ : L2.St} {ρ : Env}
/-- the addresses As of lists in the hand are frozen -/
def frzAll (H F : Hp) (As : List Addr) : Hp := fun b => if b ∈ As then H b else F b
theorem frz_same {As : List Addr} (hA : ∀ a ∈ As, F a = none) : Same F (frzAll H F As) := fun b o e => by
  unfold frzAll
  rw [if_neg (fun hb => by rw [hA b hb] at e; cases e)]
  exact e
theorem frz_hp {As : List Addr} (ok : HpOk G F H) (hA : ∀ a ∈ As, ∃ vs, H a = some (.lst vs)) : HpOk G (frzAll H F As) H := by
  refine ⟨fun b o e => ?_, fun a ps e => ?_, ok.tab⟩
  · unfold frzAll at e
    split at e
    · exact e
    · exact ok.sub b o e
  · unfold frzAll at e
    split at e
    · rename_i hb
      obtain ⟨vs, z⟩ := hA a hb
      rw [z] at e; cases e
    · exact ok.nt a ps e
theorem frz_at {As : List Addr} {a : Addr} (h : a ∈ As) : frzAll H F As a = H a := if_pos h
theorem frz_ne {As : List Addr} {a : Addr} (h : a ∉ As) : frzAll H F As a = F a := if_neg h
theorem SlOk.frz {K : PySem.W.Frag} {ov : Option V} {s : Sl} {As : List Addr} (h : SlOk K T F H ov s) (hA : ∀ a ∈ As, F a = none) (hn : s.own = true → ∀ a, ov = some (.ref a) → a ∉ As) : SlOk K T (frzAll H F As) H ov s := by
  have sm := frz_same (H := H) hA
  cases s with
  | un => trivial
  | er c => trivial
  | sc ns =>
    obtain ⟨a, e, q, l⟩ := h
    exact ⟨a, e, sm.seq q, l⟩
  | fz d =>
    obtain ⟨v, e, r⟩ := h
    exact ⟨v, e, r.mono sm⟩
  | fl xs =>
    obtain ⟨a, vs, e, h1, h2, h0, l, r⟩ := h
    exact ⟨a, vs, e, h1, by rw [frz_ne (hn rfl a e)]; exact h2, h0, l, r.mono sm⟩
  | io j xs =>
    obtain ⟨a, vs, e, h1, h2, h0, l, r⟩ := h
    exact ⟨a, vs, e, h1, by rw [frz_ne (hn rfl a e)]; exact h2, h0, l, r.mono sm⟩
theorem join_ref {i : Nat} {a : Addr} (h : (σ[i]?).join = some (V.ref a)) : σ[i]? = some (some (V.ref a)) := by
  cases e : σ[i]? with
  | none => rw [e] at h; cases h
  | some o =>
    rw [e] at h
    have h : o = some (.ref a) := h
    rw [h]
theorem EnvOk.frz {As : List Addr} (ok : EnvOk G T F H σ ρ) (hA : ∀ a ∈ As, F a = none ∧ (∃ vs, H a = some (.lst vs)) ∧ ¬ Owns σ ρ a) : EnvOk G T (frzAll H F As) H σ ρ :=
  ⟨frz_hp ok.hp fun a h => (hA a h).2.1, ok.live0, ok.len, fun i s e => (ok.at_ i s e).frz (fun a h => (hA a h).1) fun ho a ea hm => (hA a hm).2.2 ⟨i, s, e, ho, join_ref ea⟩, ok.sep⟩
theorem Ext.frz {A : Addr → Prop} {F' H' : Hp} {As : List Addr} (x : Ext A F H F' H') (hA : ∀ a ∈ As, F' a = none) (hs : ∀ a ∈ As, H a = none) : Ext A F H (frzAll H' F' As) H' :=
  ⟨x.fle.trans (frz_same hA), x.keep, fun a e n => by rw [frz_ne (fun hm => e (hs a hm))]; exact x.fnew a e n, x.live⟩
theorem repP_facts {K : PySem.W.Frag} {v : V} {p : P1} {A : List Addr} (h : RepP K F H v p A) : ∀ a ∈ A, F a = none ∧ ∃ vs, H a = some (.lst vs) := by
  cases p with
  | fz d => obtain ⟨rfl, _⟩ := h; simp
  | fl xs =>
    obtain ⟨a, vs, rfl, rfl, h1, h2, _⟩ := h
    intro b hb
    have : b = a := by simpa using hb
    subst this
    exact ⟨h2, vs, h1⟩
theorem repPs_facts {K : PySem.W.Frag} : ∀ {ps : List P1} {vs : List V} {A : List Addr}, RepPs K F H ps vs A → ∀ a ∈ A, F a = none ∧ ∃ vs, H a = some (.lst vs)
  | [], _, _, h => by obtain ⟨_, rfl⟩ := h; simp
  | p :: ps, _, _, h => by
    obtain ⟨v, r, A1, A2, rfl, rfl, h1, h2⟩ := h
    intro a ha
    rcases List.mem_append.mp ha with z | z
    · exact repP_facts h1 a z
    · exact repPs_facts h2 a z
theorem repO_facts {K : PySem.W.Frag} {v : V} {x : O} {A : List Addr} (h : RepO K F H v x A) : ∀ a ∈ A, F a = none ∧ ∃ vs, H a = some (.lst vs) := by
  cases x with
  | fz d => obtain ⟨rfl, _⟩ := h; simp
  | fl xs => exact repP_facts (p := .fl xs) h
  | tp ps =>
    obtain ⟨t, vs, rfl, _, _, h⟩ := h
    exact repPs_facts h
theorem repP_frz {K : PySem.W.Frag} {v : V} {p : P1} {A As : List Addr} (h : RepP K F H v p A) (hA : ∀ a ∈ As, F a = none) (hs : ∀ a ∈ A, a ∈ As) : Rep K (frzAll H F As) p.dat v := by
  have sm := frz_same (H := H) hA
  cases p with
  | fz d => exact Rep.mono sm h.2
  | fl xs =>
    obtain ⟨a, vs, rfl, rfl, h1, h2, l, r⟩ := h
    show Rep K _ (.list xs) _
    rw [Rep]
    exact ⟨a, vs, rfl, by rw [frz_at (hs a (by simp))]; exact h1, l, r.mono sm⟩
theorem repPs_frz {K : PySem.W.Frag} {As : List Addr} (hA : ∀ a ∈ As, F a = none) : ∀ {ps : List P1} {vs : List V} {A : List Addr}, RepPs K F H ps vs A → (∀ a ∈ A, a ∈ As) → Reps K (frzAll H F As) (ps.map P1.dat) vs
  | [], _, _, h, _ => by obtain ⟨rfl, _⟩ := h; exact reps_nil
  | p :: ps, _, _, h, hs => by
    obtain ⟨v, r, A1, A2, rfl, rfl, h1, h2⟩ := h
    exact reps_cons (repP_frz h1 hA fun a ha => hs a (List.mem_append_left _ ha)) (repPs_frz hA h2 fun a ha => hs a (List.mem_append_right _ ha))
theorem repO_frz {K : PySem.W.Frag} {v : V} {x : O} {A : List Addr} (h : RepO K F H v x A) : Rep K (frzAll H F A) x.dat v := by
  have hA : ∀ a ∈ A, F a = none := fun a ha => (repO_facts h a ha).1
  have sm := frz_same (H := H) hA
  cases x with
  | fz d => exact Rep.mono sm h.2
  | fl xs => exact repP_frz (p := .fl xs) h hA fun _ h => h
  | tp ps =>
    obtain ⟨t, vs, rfl, h1, l, h⟩ := h
    show Rep K _ (.tuple _) _
    rw [Rep]
    exact ⟨t, vs, rfl, Same.sqT sm h1, l, repPs_frz hA h fun _ h => h⟩
end

/-- the settled reading -/
def eNrm (f : Env → R W) : Env → R W := fun ρ => (f ρ).bind fun w ρ' => .ok w.nrm ρ'
/-- what a settled expression is to bring -/
def NPost (G : GG) (T : Fm) (Wx : WX) (F H : Hp) (σ : L2.St) (ρ : Env) (Q : VK) : R W → Prop :=
  RPost G T Wx F H σ ρ fun w ρ' F' H' => ∀ v, RepN G.K F' σ v w → Q v H'
theorem nrm_post {G : GG} {T : Fm} {Wx : WX} {F H : Hp} {σ : L2.St} {ρ : Env} {Q : VK} {r : R W} (h : RPost G T Wx F H σ ρ (fun w ρ' F' H' => ∀ v, RepN G.K F' σ v w → Q v H') (r.bind fun w ρ' => .ok w.nrm ρ')) : EPost G T Wx F H σ ρ Q r := by
  cases r with
  | bad => exact h
  | exc c ρ' => exact h
  | ok w ρ' =>
    intro F' H' e ok l v rw_
    cases w with
    | own i => exact h F' H' e ok l v rw_.1
    | o x =>
      obtain ⟨A, h1, h2, h3⟩ := rw_
      have hf := repO_facts h1
      exact h _ H' (e.frz (fun a ha => (hf a ha).1) fun a ha => (h3 a ha).1) (ok.frz fun a ha => ⟨(hf a ha).1, (hf a ha).2, (h3 a ha).2⟩) l v (repO_frz h1)
end PL
end
section
set_option Elab.async false
set_option linter.all false
set_option maxRecDepth 100000
set_option maxHeartbeats 2000000
set_option autoImplicit false
/-! The rules: names, constants, operators, displays, calls of built-ins. -/
namespace PL
open PySem PySem.Spec PyProof.Rows L2

/-! ### the static context of a piece of code -/
structure Ct where
  G : GG
  N : List Str
  sc : Scope
  k : Nat
  fnb : Str → Bool
  tab : Option (Addr × Addr)
structure Cok (X : Cx) (C : Ct) (Wx : WX) : Prop where
  hN : X.N = C.N
  hsc : X.env.scope = C.sc
  nd : C.N.Nodup
  calm : X.calm = true
  prog : X.prog = C.G.P
  w : X.w = C.G.w
  K : X.K = C.G.K
  mg : X.mg = C.G.mg
  base : X.base = C.G.base
  room : Room C.k X.A
  takes : Takes X Wx
  own : PassesOwn (model X.prog X.w) X.A X.env X.xe
  fn : ∀ x, X.fn x = C.fnb x
  cod : ∀ c P, C.tab = some (c, P) → X.env.code = .ref c ∧ GxR.TabB X.base X.mg c P ∧ P ∈ C.G.tb
/-- e is worth f -/
def PD (C : Ct) (e : Expr) (f : Env → R W) : Prop := ∀ (X : Cx) (Wx : WX), Cok X C Wx → PE X e (tE C.G Wx f)
def PDT (C : Ct) (e : Expr) (f : Env → R Bool) : Prop := ∀ (X : Cx) (Wx : WX), Cok X C Wx → PT X e (tT C.G Wx f)

/-! ### names -/
def nmB (N : List Str) (sc : Scope) (i : Nat) (x : Str) : Bool :=
  N[i]? == some x && (sc.names.lookup x == some .local || sc.names.lookup x == some .cell || sc.names.lookup x == some .free) && !(x == ("__debug__" : Str)) && !(x == ("__classdict__" : Str))
theorem nmB_spec {N : List Str} {sc : Scope} {i : Nat} {x : Str} (h : nmB N sc i x = true) : N[i]? = some x ∧ Vis sc x ∧ (x == ("__debug__" : Str)) = false ∧ (x == ("__classdict__" : Str)) = false := by
  unfold nmB at h
  simp only [Bool.and_eq_true, Bool.or_eq_true, beq_iff_eq, Bool.not_eq_true'] at h
  obtain ⟨⟨⟨h1, h2⟩, h3⟩, h4⟩ := h
  refine ⟨h1, ?_, h3, h4⟩
  rcases h2 with (h | h) | h
  · exact .inl h
  · exact .inr (.inl h)
  · exact .inr (.inr h)
def glB (sc : Scope) (x : Str) : Bool := sc.names.lookup x == some .globalImplicit && !(x == ("__debug__" : Str)) && !(x == ("__name__" : Str))
theorem glB_spec {sc : Scope} {x : Str} (h : glB sc x = true) : sc.names.lookup x = some .globalImplicit ∧ (x == ("__debug__" : Str)) = false ∧ x ≠ "__name__" := by
  unfold glB at h
  simp only [Bool.and_eq_true, beq_iff_eq, Bool.not_eq_true', beq_eq_false_iff_ne] at h
  exact ⟨h.1.1, by simpa using h.1.2, h.2⟩
section
variable {C : Ct} {X : Cx} {Wx : WX}
theorem Cok.gl (ok : Cok X C Wx) {x : Str} (h : glB C.sc x = true) : Gl X x := by
  show X.env.scope.names.lookup x = _
  rw [ok.hsc]
  exact (glB_spec h).1
theorem Cok.nodup (ok : Cok X C Wx) : X.N.Nodup := by rw [ok.hN]; exact ok.nd
end

def eVar (i : Nat) : Env → R W := fun ρ => match ρ[i]? with
  | some (.fz d) => .ok (.val d) ρ
  | some (.fl _) => .ok (.own i) ρ
  | some (.io _ _) => .ok (.own i) ρ
  | _ => .bad
def eC (d : D) : Env → R W := fun ρ => .ok (.val d) ρ

section
variable {G : GG} {T : Fm} {Wx : WX} {F H : Hp} {σ : L2.St} {ρ : Env} {Q : VK}
/-- a value at hand, nothing changes -/
theorem RPost.here {α : Type} {Ok : α → Env → Hp → Hp → Prop} {x : α} (ok : EnvOk G T F H σ ρ) (h : RPost G T Wx F H σ ρ Ok (.ok x ρ)) : Ok x ρ F H :=
  h F H Ext.refl ok fun _ z => z
theorem repW_val {K : PySem.W.Frag} {Hs : Hp} {v : V} {d : D} (r : Rep K F d v) : RepW K Hs F H σ ρ v (.val d) := ⟨[], ⟨rfl, r⟩, List.nodup_nil, by simp⟩
theorem EPost.val {d : D} {v : V} (ok : EnvOk G T F H σ ρ) (h : EPost G T Wx F H σ ρ Q (.ok (.val d) ρ)) (r : Rep G.K F d v) : Q v H :=
  RPost.here ok h v (repW_val r)
/-- a new frozen value -/
theorem EPost.new {d : D} {v : V} {F' H' : Hp} (ok : EnvOk G T F H σ ρ) (h : EPost G T Wx F H σ ρ Q (.ok (.val d) ρ)) (n : New F H F' H') (hp : HpOk G F' H') (r : Rep G.K F' d v) : Q v H' :=
  h F' H' n.ext (ok.new n hp) (fun _ z => z) v (repW_val r)
end

section
variable {C : Ct}
theorem pd_var {i : Nat} {x : Str} {pos : Pos} (h : nmB C.N C.sc i x = true) : PD C (.Name x pos) (eVar i) := by
  intro X Wx ok
  obtain ⟨h1, h2, h3, h4⟩ := nmB_spec h
  refine PE.to (pe_var (i := i) (by rw [ok.hN]; exact h1) (by rw [ok.hsc]; exact h2) h3 h4) ?_
  rintro σ H Q ⟨T, F, ρ, en, p⟩
  unfold eVar at p
  cases e : ρ[i]? with
  | none => rw [e] at p; exact p.elim
  | some s =>
    rw [e] at p
    have z := en.at_ i s e
    cases s with
    | un => exact p.elim
    | er c => exact p.elim
    | sc ns => exact p.elim
    | fz d =>
      obtain ⟨v, ev, r⟩ := z
      have ev' : σ[i]? = some (some v) := by
        cases q : σ[i]? with
        | none => rw [q] at ev; cases ev
        | some o => rw [q] at ev; have ev : o = some v := ev; rw [ev]
      exact ⟨v, ev', EPost.val en p r⟩
    | fl xs =>
      obtain ⟨a, vs, ev, _⟩ := z
      exact ⟨.ref a, join_ref ev, RPost.here en p (.ref a) ⟨join_ref ev, _, e, rfl⟩⟩
    | io j xs =>
      obtain ⟨a, vs, ev, _⟩ := z
      exact ⟨.ref a, join_ref ev, RPost.here en p (.ref a) ⟨join_ref ev, _, e, rfl⟩⟩
theorem pd_int {i : Int} {j : Nat} {pos : Pos} : PD C (.Constant (.int i) j pos) (eC (.int i)) := by
  intro X Wx ok
  exact PE.to pe_int fun σ H Q ⟨T, F, ρ, en, p⟩ => EPost.val en p (by rw [Rep])
theorem pd_bl {b : Bool} {j : Nat} {pos : Pos} : PD C (.Constant (.bool b) j pos) (eC (.bool b)) := by
  intro X Wx ok
  exact PE.to pe_bl fun σ H Q ⟨T, F, ρ, en, p⟩ => EPost.val en p (by rw [Rep])
theorem pd_non {j : Nat} {pos : Pos} : PD C (.Constant .none j pos) (eC .none) := by
  intro X Wx ok
  exact PE.to pe_non fun σ H Q ⟨T, F, ρ, en, p⟩ => EPost.val en p (by rw [Rep])
def strB (x : Str) : Bool := decide (x.length ≤ sizeLine) && PyData.strOk x
theorem pd_str {x : Str} {j : Nat} {pos : Pos} (h : strB x = true) : PD C (.Constant (.str x) j pos) (eC (.str x)) := by
  intro X Wx ok
  have h' := Bool.and_eq_true_iff.mp h
  exact PE.to pe_str fun σ H Q ⟨T, F, ρ, en, p⟩ => EPost.val en p (by rw [Rep]; exact ⟨rfl, of_decide_eq_true h'.1, h'.2⟩)
/-- a constant of the module: data of the written part -/
theorem pd_glob {x : Str} {d : D} {v : V} {u : Value} {pos : Pos} (hg : glB C.sc x = true) (hm : C.G.mg x = some u) (rv : RelV v u) (r : Rep C.G.K (fun _ => none) d v) : PD C (.Name x pos) (eC d) := by
  intro X Wx ok
  refine PE.to (pe_glob (ok.gl hg) (by rw [ok.mg]; exact hm) rv (glB_spec hg).2.1) fun σ H Q ⟨T, F, ρ, en, p⟩ => EPost.val en p (r.mono fun _ _ e => by cases e)
end

/-! ### operations by values -/
def RepCs (K : PySem.W.Frag) (F H : Hp) : List D → List V → Prop
  | [], vs => vs = []
  | d :: ds, vs => ∃ v r, vs = v :: r ∧ RepC K F H d v ∧ RepCs K F H ds r
/-- the outcome of an operation: frozen data or a new list -/
def Res (K : PySem.W.Frag) (F' H H' : Hp) (v : V) (p : P1) : Prop := ∃ A, RepP K F' H' v p A ∧ ∀ a ∈ A, H a = none
def Prim2 (G : GG) (r : R2) (g : D → D → Option P1) : Prop := ∀ (F H : Hp) (x y : V) (a b : D) (p : P1) (Q : VK), HpOk G F H → RepC G.K F H a x → RepC G.K F H b y → g a b = some p →
  (∀ v F' H', New F H F' H' → HpOk G F' H' → Res G.K F' H H' v p → Q v H') → r x y H Q
def Prim1 (G : GG) (r : V → Hp → VK → Prop) (g : D → Option P1) : Prop := ∀ (F H : Hp) (x : V) (a : D) (p : P1) (Q : VK), HpOk G F H → RepC G.K F H a x → g a = some p →
  (∀ v F' H', New F H F' H' → HpOk G F' H' → Res G.K F' H H' v p → Q v H') → r x H Q
def PrimN (G : GG) (r : List V → Hp → VK → Prop) (g : List D → Option P1) : Prop := ∀ (F H : Hp) (vs : List V) (ds : List D) (p : P1) (Q : VK), HpOk G F H → RepCs G.K F H ds vs → g ds = some p →
  (∀ v F' H', New F H F' H' → HpOk G F' H' → Res G.K F' H H' v p → Q v H') → r vs H Q
def P1.o : P1 → O
  | .fz d => .fz d
  | .fl xs => .fl xs
def outP (p : Option P1) (ρ : Env) : R W := match p with
  | some p => .ok (.o p.o) ρ
  | none => .bad
def eBin (g : D → D → Option P1) (fa fb : Env → R W) : Env → R W := fun ρ => (eNrm fa ρ).bind fun wa ρ1 => (eNrm fb ρ1).bind fun wb ρ2 => match wa.dat ρ2, wb.dat ρ2 with
  | some a, some b => outP (g a b) ρ2
  | _, _ => .bad
def eUn (g : D → Option P1) (fa : Env → R W) : Env → R W := fun ρ => (eNrm fa ρ).bind fun wa ρ1 => match wa.dat ρ1 with
  | some a => outP (g a) ρ1
  | _ => .bad

section
variable {G : GG} {T : Fm} {Wx : WX} {F H Hs : Hp} {σ : L2.St} {ρ : Env} {Q : VK}
theorem tE_nrm {f : Env → R W} (en : EnvOk G T F H σ ρ) (h : NPost G T Wx F H σ ρ Q (eNrm f ρ)) : tE G Wx f σ H Q := ⟨T, F, ρ, en, nrm_post h⟩
/-- an outcome in the hand -/
theorem out_post {p : Option P1} {ρ : Env} (hl : ∀ a, Hs a ≠ none → H a ≠ none) (en : EnvOk G T F H σ ρ) (h : RPost G T Wx F H σ ρ (fun w ρ' F' H' => ∀ v, RepW G.K Hs F' H' σ ρ' v w → Q v H') (outP p ρ)) : ∃ p', p = some p' ∧ ∀ v F' H', New F H F' H' → HpOk G F' H' → Res G.K F' H H' v p' → Q v H' := by
  cases p with
  | none => exact h.elim
  | some p =>
    refine ⟨p, rfl, fun v F' H' n hp ⟨A, r, fa⟩ => ?_⟩
    refine h F' H' n.ext (en.new n hp) (fun _ z => z) v ⟨A, ?_, ?_, fun a ha => ⟨Classical.byContradiction fun z => hl a z (fa a ha), fun ⟨i, s, e1, e2, e3⟩ => ?_⟩⟩
    · cases p <;> exact r
    · cases p with
      | fz d => obtain ⟨rfl, _⟩ := r; exact List.nodup_nil
      | fl xs => obtain ⟨a, vs, _, rfl, _⟩ := r; simp
    · have z := en.at_ i s e1
      rw [e3] at z
      have nn := fa a ha
      cases s with
      | un => cases e2
      | er c => cases e2
      | sc ns => cases e2
      | fz d => cases e2
      | fl xs => obtain ⟨a', vs, e, h1, _⟩ := z; cases e; rw [nn] at h1; cases h1
      | io j xs => obtain ⟨a', vs, e, h1, _⟩ := z; cases e; rw [nn] at h1; cases h1
theorem bin_core {r : R2} {g : D → D → Option P1} {fa fb : Env → R W} (hp : Prim2 G r g) (h : tE G Wx (eBin g fa fb) σ H Q) : tOp r (tE G Wx fa) (tE G Wx fb) σ H Q := by
  obtain ⟨T, F, ρ, en, p⟩ := h
  refine tE_nrm en ((RPost.bind p).imp fun wa ρ1 F1 H1 e1 en1 l1 p1 v rv => ?_)
  refine tE_nrm en1 ((RPost.bind p1).imp fun wb ρ2 F2 H2 e2 en2 l2 p2 u ru => ?_)
  cases ea : wa.dat ρ2 with
  | none => rw [ea] at p2; exact p2.elim
  | some a =>
    cases eb : wb.dat ρ2 with
    | none => rw [ea, eb] at p2; exact p2.elim
    | some b =>
      rw [ea, eb] at p2
      obtain ⟨p', eg, q⟩ := out_post (fun a z => e2.live a (e1.live a z)) en2 p2
      exact hp F2 H2 v u a b p' Q en2.hp ((rv.mono e2.fle).read en2 ea) (ru.read en2 eb) eg q
theorem un_core {r : V → Hp → VK → Prop} {g : D → Option P1} {fa : Env → R W} (hp : Prim1 G r g) (h : tE G Wx (eUn g fa) σ H Q) : tUn r (tE G Wx fa) σ H Q := by
  obtain ⟨T, F, ρ, en, p⟩ := h
  refine tE_nrm en ((RPost.bind p).imp fun wa ρ1 F1 H1 e1 en1 l1 p1 v rv => ?_)
  cases ea : wa.dat ρ1 with
  | none => rw [ea] at p1; exact p1.elim
  | some a =>
    rw [ea] at p1
    obtain ⟨p', eg, q⟩ := out_post e1.live en1 p1
    exact hp F1 H1 v a p' Q en1.hp (rv.read en1 ea) eg q
end

section
variable {C : Ct} {a b : Expr} {fa fb : Env → R W} {pos : Pos}
theorem pd_op {op : Operator} {r : Cx → R2} {g : D → D → Option P1} (ho : ∀ X Wx, Cok X C Wx → OpR X (binaryOp op) (r X)) (hp : ∀ X Wx, Cok X C Wx → Prim2 C.G (r X) g) (ha : PD C a fa) (hb : PD C b fb) : PD C (.BinOp a op b pos) (eBin g fa fb) := by
  intro X Wx ok
  exact PE.to (pe_op (ho X Wx ok) (ha X Wx ok) (hb X Wx ok)) fun σ H Q h => bin_core (hp X Wx ok) h
theorem pd_un {op : UnaryOp} {r : Cx → V → Hp → VK → Prop} {g : D → Option P1} (ho : ∀ X Wx, Cok X C Wx → UnR X (unaryOp op) (r X)) (hp : ∀ X Wx, Cok X C Wx → Prim1 C.G (r X) g) (ha : PD C a fa) : PD C (.UnaryOp op a pos) (eUn g fa) := by
  intro X Wx ok
  exact PE.to (pe_un (ho X Wx ok) (ha X Wx ok)) fun σ H Q h => un_core (hp X Wx ok) h
theorem pd_cmp {op : CmpOp} {r : Cx → R2} {g : D → D → Option P1} (ho : ∀ X Wx, Cok X C Wx → OpR X (compareOp op) (r X)) (hp : ∀ X Wx, Cok X C Wx → Prim2 C.G (r X) g) (ha : PD C a fa) (hb : PD C b fb) (hm : behindInMarks op b = false) : PD C (.Compare a [op] [b] pos) (eBin g fa fb) := by
  intro X Wx ok
  exact PE.to (pe_cmpR (ho X Wx ok) (ha X Wx ok) (hb X Wx ok) hm) fun σ H Q h => bin_core (hp X Wx ok) h
end
end PL
end
section
set_option Elab.async false
set_option linter.all false
set_option maxRecDepth 100000
set_option maxHeartbeats 2000000
set_option autoImplicit false
/-! Operators, comparisons, subscripts, built-ins by values. -/
namespace PL
open PySem PySem.Spec PyProof.Rows L2

section
variable {G : GG} {F H F' H' : Hp}
theorem res_sc {d : D} {v : V} (r : Rep G.K F d v) : Res G.K F H H v (.fz d) := ⟨[], ⟨rfl, r⟩, by simp⟩
theorem res_fz {d : D} {v : V} (r : Rep G.K F' d v) : Res G.K F' H H' v (.fz d) := ⟨[], ⟨rfl, r⟩, by simp⟩
theorem RepC.rep' (ok : HpOk G F H) {d : D} {v : V} (h : RepC G.K F H d v) : Rep G.K H d v := RepC.rep ok.sub h
theorem repC_int {i : Int} {v : V} (h : RepC G.K F H (.int i) v) : v = .int i := by
  have h : Rep G.K F (.int i) v := h
  rw [Rep] at h; exact h
theorem repC_bl {b : Bool} {v : V} (h : RepC G.K F H (.bool b) v) : v = .bl b := by
  have h : Rep G.K F (.bool b) v := h
  rw [Rep] at h; exact h
theorem repC_str {x : Str} {v : V} (h : RepC G.K F H (.str x) v) : v = .str x ∧ x.length ≤ sizeLine ∧ PyData.strOk x = true := by
  have h : Rep G.K F (.str x) v := h
  rw [Rep] at h; exact h
theorem repC_non {v : V} (h : RepC G.K F H .none v) : v = .non := by
  have h : Rep G.K F .none v := h
  rw [Rep] at h; exact h
theorem repC_lst {xs : List D} {v : V} (h : RepC G.K F H (.list xs) v) : ∃ a vs, v = .ref a ∧ H a = some (.lst vs) ∧ vs.length ≤ sizeLine ∧ Reps G.K F xs vs := h
theorem repC_tup {xs : List D} {v : V} (h : RepC G.K F H (.tuple xs) v) : ∃ a vs, v = .ref a ∧ SqT G.K F a vs ∧ vs.length ≤ sizeLine ∧ Reps G.K F xs vs := by
  have h : Rep G.K F (.tuple xs) v := h
  rw [Rep] at h; exact h
theorem rep_int {i : Int} : Rep G.K F (.int i) (.int i) := by rw [Rep]
theorem rep_bl {b : Bool} : Rep G.K F (.bool b) (.bl b) := by rw [Rep]
theorem rep_non : Rep G.K F .none .non := by rw [Rep]
theorem rep_str {x : Str} (h1 : x.length ≤ sizeLine) (h2 : PyData.strOk x = true) : Rep G.K F (.str x) (.str x) := by rw [Rep]; exact ⟨rfl, h1, h2⟩
theorem rep_tup {xs : List D} {a : Addr} {vs : List V} (h : F a = some (.tup vs)) (l : vs.length ≤ sizeLine) (r : Reps G.K F xs vs) : Rep G.K F (.tuple xs) (.ref a) := by
  rw [Rep]; exact ⟨a, vs, rfl, SqT.of h, l, r⟩
/-- a new tuple -/
theorem new_tup {xs : List D} {vs : List V} {p : Addr} (ok : HpOk G F H) (l : vs.length ≤ sizeLine) (r : Reps G.K F xs vs) (hp : H p = none) :
    New F H (upd F p (.tup vs)) (upd H p (.tup vs)) ∧ HpOk G (upd F p (.tup vs)) (upd H p (.tup vs)) ∧ Rep G.K (upd F p (.tup vs)) (.tuple xs) (.ref p) := by
  have n := New.frozen (o := .tup vs) ok hp
  exact ⟨n, ok.frozen hp (fun ps e => by cases e), rep_tup upd_same l (r.mono n.fle)⟩
/-- a new list -/
theorem new_lst {xs : List D} {vs : List V} {p : Addr} (ok : HpOk G F H) (l : vs.length ≤ sizeLine) (r : Reps G.K F xs vs) (hp : H p = none) :
    New F H F (upd H p (.lst vs)) ∧ HpOk G F (upd H p (.lst vs)) ∧ Res G.K F H (upd H p (.lst vs)) (.ref p) (.fl xs) := by
  have n := New.own (F := F) (o := .lst vs) hp
  exact ⟨n, ok.own hp, [p], ⟨p, vs, rfl, rfl, upd_same, ok.sub.free hp, l, r⟩, by simp [hp]⟩
end

/-! ### arithmetic -/
def addD : D → D → Option P1
  | .int i, .int j => some (.fz (.int (i + j)))
  | .list xs, .list ys => if xs.length + ys.length ≤ sizeLine then some (.fl (xs ++ ys)) else none
  | .tuple xs, .tuple ys => if xs.length + ys.length ≤ sizeLine then some (.fz (.tuple (xs ++ ys))) else none
  | .str x, .str y => if x.length + y.length ≤ sizeLine ∧ PyData.strOk (x ++ y) = true then some (.fz (.str (x ++ y))) else none
  | _, _ => none
def subD : D → D → Option P1
  | .int i, .int j => some (.fz (.int (i - j)))
  | _, _ => none
def mulD : D → D → Option P1
  | .int i, .int j => if i.natAbs.log2 + j.natAbs.log2 < 1000000 then some (.fz (.int (i * j))) else none
  | .list xs, .int k => if -(2 ^ 63) ≤ k ∧ k < 2 ^ 63 ∧ xs.length * k.toNat ≤ sizeLine then some (.fl (List.replicate k.toNat xs).flatten) else none
  | _, _ => none
def fdivD : D → D → Option P1
  | .int i, .int j => if 0 < j ∧ j.natAbs.log2 < 9000 then some (.fz (.int (i / j))) else none
  | _, _ => none
def modD : D → D → Option P1
  | .int i, .int j => if 0 < j then some (.fz (.int (i % j))) else none
  | _, _ => none
def powD : D → D → Option P1
  | .int i, .int j => if 0 ≤ j ∧ j ≤ 1000000 ∧ i.natAbs < 2 ^ 64 then some (.fz (.int (i ^ j.toNat))) else none
  | _, _ => none
def shrD : D → D → Option P1
  | .int i, .int j => if 0 ≤ j then some (.fz (.int (i / 2 ^ j.toNat))) else none
  | _, _ => none
def xorD : D → D → Option P1
  | .int i, .int j => some (.fz (.int (Builtin.bitXor i j)))
  | _, _ => none
def negD : D → Option P1
  | .int i => some (.fz (.int (-i)))
  | _ => none

def rAddA (K : PySem.W.Frag) : R2 := fun x y H Q => (∃ i j, x = .int i ∧ y = .int j ∧ Q (.int (i + j)) H) ∨ rCat x y H Q ∨ rCatA K x y H Q ∨ (∃ i j, x = .str i ∧ y = .str j ∧ i.length + j.length ≤ sizeLine ∧ Q (.str (i ++ j)) H)
theorem op_addA {X : Cx} : OpR X (binaryOp .Add) (rAddA X.K) := op_add.or (op_cat.or (op_catA.or op_add_str))
theorem pr_add {G : GG} {K : PySem.W.Frag} (hK : K = G.K) : Prim2 G (rAddA K) addD := by
  subst hK
  intro F H x y a b p Q ok ra rb e q
  cases a <;> cases b <;> try (simp [addD] at e; done)
  · rename_i i j
    obtain rfl := repC_int ra
    obtain rfl := repC_int rb
    cases e
    exact .inl ⟨i, j, rfl, rfl, q _ F H New.refl ok (res_sc rep_int)⟩
  · rename_i i j
    obtain ⟨rfl, h1, h2⟩ := repC_str ra
    obtain ⟨rfl, h3, h4⟩ := repC_str rb
    simp only [addD] at e
    split at e
    · rename_i hz
      cases e
      exact .inr (.inr (.inr ⟨i, j, rfl, rfl, hz.1, q _ F H New.refl ok (res_sc (rep_str (by
        have : (i ++ j).length = i.length + j.length := by
          first
            | rfl
            | simp
            | exact PySem.Str.length_append ..
        omega) hz.2))⟩))
    · cases e
  · rename_i xs ys
    obtain ⟨l, vs, rfl, h1, z1, r1⟩ := repC_lst ra
    obtain ⟨b, us, rfl, h2, z2, r2⟩ := repC_lst rb
    simp only [addD] at e
    split at e
    · rename_i hz
      cases e
      have hl : vs.length + us.length ≤ sizeLine := by rw [r1.len, r2.len]; exact hz
      refine .inr (.inl ⟨l, b, vs, us, rfl, rfl, h1, h2, hl, fun p hp => ?_⟩)
      obtain ⟨n, k, r⟩ := new_lst ok (by rw [List.length_append]; exact hl) (r1.append r2) hp
      exact q _ _ _ n k r
    · cases e
  · rename_i xs ys
    obtain ⟨l, vs, rfl, h1, z1, r1⟩ := repC_tup ra
    obtain ⟨b, us, rfl, h2, z2, r2⟩ := repC_tup rb
    simp only [addD] at e
    split at e
    · rename_i hz
      cases e
      have hl : vs.length + us.length ≤ sizeLine := by rw [r1.len, r2.len]; exact hz
      refine .inr (.inr (.inl ⟨l, b, vs, us, rfl, rfl, Same.sqT ok.sub h1, Same.sqT ok.sub h2, hl, fun e0 => ?_, fun _ e0 => ?_, fun _ _ p hp => ?_⟩))
      · have z : xs = [] := by
          have := r1.len
          rw [e0] at this
          exact List.length_eq_zero_iff.mp this.symm
        rw [z, List.nil_append] at q
        exact q _ F H New.refl ok (res_sc (by rw [Rep]; exact ⟨b, us, rfl, h2, z2, r2⟩))
      · have z : ys = [] := by
          have := r2.len
          rw [e0] at this
          exact List.length_eq_zero_iff.mp this.symm
        rw [z, List.append_nil] at q
        exact q _ F H New.refl ok (res_sc (by rw [Rep]; exact ⟨l, vs, rfl, h1, z1, r1⟩))
      · obtain ⟨n, k, r⟩ := new_tup ok (by rw [List.length_append]; exact hl) (r1.append r2) hp
        exact q _ _ _ n k (res_fz r)
    · cases e
theorem pr_int0 {G : GG} {g : Int → Int → Int} {gd : D → D → Option P1} (h1 : ∀ i j, gd (.int i) (.int j) = some (.fz (.int (g i j)))) (h2 : ∀ a b p, gd a b = some p → ∃ i j, a = .int i ∧ b = .int j) : Prim2 G (rI0 fun i j => .int (g i j)) gd := by
  intro F H x y a b p Q ok ra rb e q
  obtain ⟨i, j, rfl, rfl⟩ := h2 a b p e
  obtain rfl := repC_int ra
  obtain rfl := repC_int rb
  rw [h1] at e
  cases e
  exact ⟨i, j, rfl, rfl, q _ F H New.refl ok (res_sc rep_int)⟩
theorem pr_int {G : GG} {Cn : Int → Int → Prop} {g : Int → Int → Int} {gd : D → D → Option P1} (h : ∀ a b p, gd a b = some p → ∃ i j, a = .int i ∧ b = .int j ∧ Cn i j ∧ p = .fz (.int (g i j))) : Prim2 G (rI Cn fun i j => .int (g i j)) gd := by
  intro F H x y a b p Q ok ra rb e q
  obtain ⟨i, j, rfl, rfl, c, rfl⟩ := h a b p e
  obtain rfl := repC_int ra
  obtain rfl := repC_int rb
  exact ⟨i, j, rfl, rfl, c, q _ F H New.refl ok (res_sc rep_int)⟩
theorem pr_sub {G : GG} : Prim2 G (rI0 fun i j => .int (i - j)) subD := pr_int0 (fun _ _ => rfl) fun a b p e => by cases a <;> cases b <;> first | exact ⟨_, _, rfl, rfl⟩ | simp [subD] at e
theorem pr_xor {G : GG} : Prim2 G (rI0 fun i j => .int (Builtin.bitXor i j)) xorD := pr_int0 (fun _ _ => rfl) fun a b p e => by cases a <;> cases b <;> first | exact ⟨_, _, rfl, rfl⟩ | simp [xorD] at e
theorem pr_fdiv {G : GG} : Prim2 G (rI CDivW fun i j => .int (i / j)) fdivD := pr_int fun a b p e => by
  cases a <;> cases b <;> try (simp [fdivD] at e; done)
  simp only [fdivD] at e
  split at e
  · rename_i h; cases e; exact ⟨_, _, rfl, rfl, h, rfl⟩
  · cases e
theorem pr_mod {G : GG} : Prim2 G (rI (fun _ j => 0 < j) fun i j => .int (i % j)) modD := pr_int fun a b p e => by
  cases a <;> cases b <;> try (simp [modD] at e; done)
  simp only [modD] at e
  split at e
  · rename_i h; cases e; exact ⟨_, _, rfl, rfl, h, rfl⟩
  · cases e
theorem pr_pow {G : GG} : Prim2 G (rI CPow fun i j => .int (i ^ j.toNat)) powD := pr_int fun a b p e => by
  cases a <;> cases b <;> try (simp [powD] at e; done)
  simp only [powD] at e
  split at e
  · rename_i h; cases e; exact ⟨_, _, rfl, rfl, h, rfl⟩
  · cases e
theorem pr_shr {G : GG} : Prim2 G (rI (fun _ j => 0 ≤ j) fun i j => .int (i / 2 ^ j.toNat)) shrD := pr_int fun a b p e => by
  cases a <;> cases b <;> try (simp [shrD] at e; done)
  simp only [shrD] at e
  split at e
  · rename_i h; cases e; exact ⟨_, _, rfl, rfl, h, rfl⟩
  · cases e
def rMulA : R2 := fun x y H Q => (∃ i j, x = .int i ∧ y = .int j ∧ CMulW i j ∧ Q (.int (i * j)) H) ∨ rRep x y H Q
theorem op_mulA {X : Cx} : OpR X (binaryOp .Mult) rMulA := op_mulW.or op_rep
theorem pr_mul {G : GG} : Prim2 G rMulA mulD := by
  intro F H x y a b p Q ok ra rb e q
  cases a <;> cases b <;> try (simp [mulD] at e; done)
  · rename_i i j
    obtain rfl := repC_int ra
    obtain rfl := repC_int rb
    simp only [mulD] at e
    split at e
    · rename_i h
      cases e
      exact .inl ⟨i, j, rfl, rfl, h, q _ F H New.refl ok (res_sc rep_int)⟩
    · cases e
  · rename_i xs k
    obtain ⟨l, vs, rfl, h1, z1, r1⟩ := repC_lst ra
    obtain rfl := repC_int rb
    simp only [mulD] at e
    split at e
    · rename_i h
      cases e
      have hz : vs.length * k.toNat ≤ sizeLine := by rw [r1.len]; exact h.2.2
      refine .inr ⟨l, k, vs, rfl, rfl, h1, h.1, h.2.1, hz, fun p hp => ?_⟩
      obtain ⟨n, kk, r⟩ := new_lst ok (by rw [PyProof.Rows.lm_len_rep_flat, Nat.mul_comm]; exact hz) (r1.replicate k.toNat) hp
      exact q _ _ _ n kk r
    · cases e
theorem pr_neg {G : GG} : Prim1 G (rU fun i => .int (-i)) negD := by
  intro F H x a p Q ok ra e q
  cases a <;> try (simp [negD] at e; done)
  obtain rfl := repC_int ra
  cases e
  exact ⟨_, rfl, q _ F H New.refl ok (res_sc rep_int)⟩

/-! ### comparisons -/
def eqD (a b : D) : Option P1 := if a.depth ≤ 64 ∧ b.depth ≤ 64 then some (.fz (.bool (PyData.eqv a b))) else none
def neD (a b : D) : Option P1 := if a.depth ≤ 64 ∧ b.depth ≤ 64 then some (.fz (.bool (!PyData.eqv a b))) else none
theorem shaped_of {G : GG} {F H : Hp} {d : D} {v : V} (ok : HpOk G F H) (r : RepC G.K F H d v) (h : d.depth ≤ 64) : SeqAt.shaped d = true := by
  unfold SeqAt.shaped
  rw [Rep.can (r.rep' ok), decide_eq_true h]
  rfl
theorem pr_eq {G : GG} {K : PySem.W.Frag} (hK : K = G.K) : Prim2 G (rEqD K) eqD := by
  subst hK
  intro F H x y a b p Q ok ra rb e q
  simp only [eqD] at e
  split at e
  · rename_i h
    cases e
    exact ⟨a, b, Rep.dp (ra.rep' ok), Rep.dp (rb.rep' ok), shaped_of ok ra h.1, shaped_of ok rb h.2, q _ F H New.refl ok (res_sc rep_bl)⟩
  · cases e
theorem pr_ne {G : GG} {K : PySem.W.Frag} (hK : K = G.K) : Prim2 G (rNeD K) neD := by
  subst hK
  intro F H x y a b p Q ok ra rb e q
  simp only [neD] at e
  split at e
  · rename_i h
    cases e
    exact ⟨a, b, Rep.dp (ra.rep' ok), Rep.dp (rb.rep' ok), shaped_of ok ra h.1, shaped_of ok rb h.2, q _ F H New.refl ok (res_sc rep_bl)⟩
  · cases e
def ltD : D → D → Option P1
  | .int i, .int j => some (.fz (.bool (decide (i < j))))
  | .str x, .str y => some (.fz (.bool (decide (x.cps.toList < y.cps.toList))))
  | _, _ => none
def leD : D → D → Option P1
  | .int i, .int j => some (.fz (.bool (decide (i ≤ j))))
  | .str x, .str y => some (.fz (.bool (!decide (y.cps.toList < x.cps.toList))))
  | _, _ => none
def gtD : D → D → Option P1
  | .int i, .int j => some (.fz (.bool (decide (j < i))))
  | .str x, .str y => some (.fz (.bool (decide (y.cps.toList < x.cps.toList))))
  | _, _ => none
def geD : D → D → Option P1
  | .int i, .int j => some (.fz (.bool (decide (j ≤ i))))
  | _, _ => none
abbrev rStrB (g : Str → Str → Bool) : R2 := fun x y H Q => ∃ i j, x = .str i ∧ y = .str j ∧ Q (.bl (g i j)) H
abbrev rIS (f : Int → Int → Bool) (g : Str → Str → Bool) : R2 := fun x y H Q => (∃ i j, x = .int i ∧ y = .int j ∧ Q (.bl (f i j)) H) ∨ rStrB g x y H Q
theorem op_ltA {X : Cx} : OpR X (compareOp .Lt) (rIS (fun i j => decide (i < j)) fun i j => decide (i.cps.toList < j.cps.toList)) := op_lt.or op_lt_str
theorem op_leA {X : Cx} : OpR X (compareOp .LtE) (rIS (fun i j => decide (i ≤ j)) fun i j => !decide (j.cps.toList < i.cps.toList)) := op_le.or op_le_str
theorem op_gtA {X : Cx} : OpR X (compareOp .Gt) (rIS (fun i j => decide (j < i)) fun i j => decide (j.cps.toList < i.cps.toList)) := op_gt.or op_gt_str
theorem pr_IS {G : GG} {f : Int → Int → Bool} {g : Str → Str → Bool} {gd : D → D → Option P1}
    (h : ∀ a b p, gd a b = some p → (∃ i j, a = .int i ∧ b = .int j ∧ p = .fz (.bool (f i j))) ∨ ∃ i j, a = .str i ∧ b = .str j ∧ p = .fz (.bool (g i j))) : Prim2 G (rIS f g) gd := by
  intro F H x y a b p Q ok ra rb e q
  rcases h a b p e with ⟨i, j, rfl, rfl, rfl⟩ | ⟨i, j, rfl, rfl, rfl⟩
  · obtain rfl := repC_int ra
    obtain rfl := repC_int rb
    exact .inl ⟨i, j, rfl, rfl, q _ F H New.refl ok (res_sc rep_bl)⟩
  · obtain ⟨rfl, _, _⟩ := repC_str ra
    obtain ⟨rfl, _, _⟩ := repC_str rb
    exact .inr ⟨i, j, rfl, rfl, q _ F H New.refl ok (res_sc rep_bl)⟩
theorem pr_lt {G : GG} : Prim2 G (rIS (fun i j => decide (i < j)) fun i j => decide (i.cps.toList < j.cps.toList)) ltD := pr_IS fun a b p e => by
  cases a <;> cases b <;> first | (cases e; exact .inl ⟨_, _, rfl, rfl, rfl⟩) | (cases e; exact .inr ⟨_, _, rfl, rfl, rfl⟩) | (simp [ltD] at e)
theorem pr_le {G : GG} : Prim2 G (rIS (fun i j => decide (i ≤ j)) fun i j => !decide (j.cps.toList < i.cps.toList)) leD := pr_IS fun a b p e => by
  cases a <;> cases b <;> first | (cases e; exact .inl ⟨_, _, rfl, rfl, rfl⟩) | (cases e; exact .inr ⟨_, _, rfl, rfl, rfl⟩) | (simp [leD] at e)
theorem pr_gt {G : GG} : Prim2 G (rIS (fun i j => decide (j < i)) fun i j => decide (j.cps.toList < i.cps.toList)) gtD := pr_IS fun a b p e => by
  cases a <;> cases b <;> first | (cases e; exact .inl ⟨_, _, rfl, rfl, rfl⟩) | (cases e; exact .inr ⟨_, _, rfl, rfl, rfl⟩) | (simp [gtD] at e)
theorem pr_ge {G : GG} : Prim2 G (rI0 fun i j => .bl (decide (j ≤ i))) geD := by
  intro F H x y a b p Q ok ra rb e q
  cases a <;> cases b <;> try (simp [geD] at e; done)
  obtain rfl := repC_int ra
  obtain rfl := repC_int rb
  cases e
  exact ⟨_, _, rfl, rfl, q _ F H New.refl ok (res_sc rep_bl)⟩
def flatD : D → Bool
  | .none => true
  | .bool _ => true
  | .int _ => true
  | .str _ => true
  | _ => false
theorem flat_rep {K : PySem.W.Frag} {F : Hp} {d : D} {v : V} (h : flatD d = true) (r : Rep K F d v) : flatV v = true := by
  cases d <;> try (simp [flatD] at h; done)
  all_goals (rw [Rep] at r)
  · subst r; rfl
  · subst r; rfl
  · subst r; rfl
  · obtain ⟨rfl, _⟩ := r; rfl
theorem eqv_rep {K : PySem.W.Frag} {F : Hp} {d e : D} {v u : V} (h : flatD d = true) (h' : flatD e = true) (r : Rep K F d v) (r' : Rep K F e u) : eqV v u = PyData.eqv d e := by
  cases d <;> try (simp [flatD] at h; done)
  all_goals (cases e <;> try (simp [flatD] at h'; done))
  all_goals (rw [Rep] at r)
  all_goals (rw [Rep] at r')
  all_goals (first | (subst r; subst r'; rfl) | (obtain ⟨rfl, _⟩ := r; subst r'; rfl) | (subst r; obtain ⟨rfl, _⟩ := r'; rfl) | (obtain ⟨rfl, _⟩ := r; obtain ⟨rfl, _⟩ := r'; rfl) | (obtain ⟨rfl, _⟩ := r; obtain ⟨rfl, _⟩ := r'; simp [eqV, PyData.eqv]))
theorem inV_rep {K : PySem.W.Frag} {F : Hp} {d : D} {v : V} (h : flatD d = true) (r : Rep K F d v) : ∀ {ds : List D} {vs : List V}, Reps K F ds vs → ds.all flatD = true → vs.all flatV = true ∧ inV v vs = ds.any fun z => PyData.eqv z d
  | [], vs, rs, _ => by
    rw [Reps] at rs
    subst rs
    exact ⟨rfl, rfl⟩
  | z :: ds, vs, rs, hf => by
    obtain ⟨w, t, rfl, r1, r2⟩ := reps_cons_inv rs
    have hf' := Bool.and_eq_true_iff.mp (show (flatD z && ds.all flatD) = true from hf)
    obtain ⟨i1, i2⟩ := inV_rep h r r2 hf'.2
    refine ⟨?_, ?_⟩
    · show (flatV w && t.all flatV) = true
      rw [flat_rep hf'.1 r1, i1]; rfl
    · show (eqV w v || inV v t) = (PyData.eqv z d || ds.any fun z => PyData.eqv z d)
      rw [eqv_rep hf'.1 h r1 r, i2]
def inD (x : D) : D → Option P1
  | .list ds => if x.depth ≤ 64 ∧ (PyData.list ds).depth ≤ 64 then some (.fz (.bool (ds.any fun z => PyData.eqv z x))) else none
  | .tuple ds => if flatD x = true ∧ ds.all flatD = true then some (.fz (.bool (ds.any fun z => PyData.eqv z x))) else none
  | _ => none
def notInD (x : D) : D → Option P1
  | .list ds => if x.depth ≤ 64 ∧ (PyData.list ds).depth ≤ 64 then some (.fz (.bool (!ds.any fun z => PyData.eqv z x))) else none
  | .tuple ds => if flatD x = true ∧ ds.all flatD = true then some (.fz (.bool (!ds.any fun z => PyData.eqv z x))) else none
  | _ => none
abbrev rInA (K : PySem.W.Frag) : R2 := fun x y H Q => rInD K x y H Q ∨ rIn K false x y H Q
abbrev rNotInA (K : PySem.W.Frag) : R2 := fun x y H Q => rNotInD K x y H Q ∨ rIn K true x y H Q
theorem pr_in {G : GG} {K : PySem.W.Frag} (hK : K = G.K) : Prim2 G (rInA K) inD := by
  subst hK
  intro F H x y a b p Q ok ra rb e q
  cases b <;> try (simp [inD] at e; done)
  · rename_i ds
    simp only [inD] at e
    split at e
    · rename_i h
      cases e
      exact .inl ⟨a, ds, Rep.dp (ra.rep' ok), Rep.dp (rb.rep' ok), shaped_of ok ra h.1, shaped_of ok rb h.2, q _ F H New.refl ok (res_sc rep_bl)⟩
    · cases e
  · rename_i ds
    simp only [inD] at e
    split at e
    · rename_i h
      cases e
      obtain ⟨t, vs, rfl, h1, z1, r1⟩ := repC_tup rb
      obtain ⟨i1, i2⟩ := inV_rep h.1 (ra.rep' ok) (r1.mono ok.sub) h.2
      refine .inr ⟨t, vs, rfl, .inr (Same.sqT ok.sub h1), flat_rep h.1 (ra.rep' ok), i1, ?_⟩
      rw [if_neg Bool.false_ne_true, i2]
      exact q _ F H New.refl ok (res_sc rep_bl)
    · cases e
theorem pr_notIn {G : GG} {K : PySem.W.Frag} (hK : K = G.K) : Prim2 G (rNotInA K) notInD := by
  subst hK
  intro F H x y a b p Q ok ra rb e q
  cases b <;> try (simp [notInD] at e; done)
  · rename_i ds
    simp only [notInD] at e
    split at e
    · rename_i h
      cases e
      exact .inl ⟨a, ds, Rep.dp (ra.rep' ok), Rep.dp (rb.rep' ok), shaped_of ok ra h.1, shaped_of ok rb h.2, q _ F H New.refl ok (res_sc rep_bl)⟩
    · cases e
  · rename_i ds
    simp only [notInD] at e
    split at e
    · rename_i h
      cases e
      obtain ⟨t, vs, rfl, h1, z1, r1⟩ := repC_tup rb
      obtain ⟨i1, i2⟩ := inV_rep h.1 (ra.rep' ok) (r1.mono ok.sub) h.2
      refine .inr ⟨t, vs, rfl, .inr (Same.sqT ok.sub h1), flat_rep h.1 (ra.rep' ok), i1, ?_⟩
      rw [if_pos rfl, i2]
      exact q _ F H New.refl ok (res_sc rep_bl)
    · cases e
def isNoneD : D → Bool
  | .none => true
  | _ => false
def isD : D → D → Option P1
  | a, .none => some (.fz (.bool (isNoneD a)))
  | .bool x, .bool y => some (.fz (.bool (decide (x = y))))
  | _, _ => none
def isNotD : D → D → Option P1
  | a, .none => some (.fz (.bool (!isNoneD a)))
  | .bool x, .bool y => some (.fz (.bool (!decide (x = y))))
  | _, _ => none
theorem none_rep {G : GG} {F H : Hp} {d : D} {v : V} (ok : HpOk G F H) (r : RepC G.K F H d v) : decide (v = .non) = isNoneD d := by
  have r := r.rep' ok
  cases d
  all_goals (rw [Rep] at r)
  · subst r; rfl
  · subst r; rfl
  · subst r; rfl
  · obtain ⟨rfl, _⟩ := r; rfl
  · obtain ⟨a, vs, rfl, _⟩ := r; rfl
  · obtain ⟨a, vs, rfl, _⟩ := r; rfl
  · exact r.elim
abbrev rIsA : R2 := fun x y H Q => (y = .non ∧ Q (.bl (decide (x = .non))) H) ∨ rIsB x y H Q
abbrev rIsNotA : R2 := fun x y H Q => (y = .non ∧ Q (.bl (!decide (x = .non))) H) ∨ rNotB x y H Q
theorem op_isA {X : Cx} : OpR X (compareOp .Is) rIsA := op_isN.or op_isBl
theorem op_isNotA {X : Cx} : OpR X (compareOp .IsNot) rIsNotA := op_notN.or op_notBl
theorem pr_is {G : GG} : Prim2 G rIsA isD := by
  intro F H x y a b p Q ok ra rb e q
  have hb : b = .none ∨ ∃ k, b = .bool k := by
    cases b
    case none => exact .inl rfl
    case bool k => exact .inr ⟨k, rfl⟩
    all_goals (exfalso; cases a <;> simp [isD] at e)
  rcases hb with rfl | ⟨k, rfl⟩
  · obtain rfl := repC_non rb
    cases a <;> (cases e; exact .inl ⟨rfl, by rw [none_rep ok ra]; exact q _ F H New.refl ok (res_sc rep_bl)⟩)
  · cases a <;> try (simp [isD] at e; done)
    obtain rfl := repC_bl ra
    obtain rfl := repC_bl rb
    cases e
    exact .inr ⟨_, _, rfl, rfl, q _ F H New.refl ok (res_sc rep_bl)⟩
theorem pr_isNot {G : GG} : Prim2 G rIsNotA isNotD := by
  intro F H x y a b p Q ok ra rb e q
  have hb : b = .none ∨ ∃ k, b = .bool k := by
    cases b
    case none => exact .inl rfl
    case bool k => exact .inr ⟨k, rfl⟩
    all_goals (exfalso; cases a <;> simp [isNotD] at e)
  rcases hb with rfl | ⟨k, rfl⟩
  · obtain rfl := repC_non rb
    cases a <;> (cases e; exact .inl ⟨rfl, by rw [none_rep ok ra]; exact q _ F H New.refl ok (res_sc rep_bl)⟩)
  · cases a <;> try (simp [isNotD] at e; done)
    obtain rfl := repC_bl ra
    obtain rfl := repC_bl rb
    cases e
    exact .inr ⟨_, _, rfl, rfl, q _ F H New.refl ok (res_sc rep_bl)⟩
end PL
end
section
set_option Elab.async false
set_option linter.all false
set_option maxRecDepth 100000
set_option maxHeartbeats 2000000
set_option autoImplicit false
/-! Arguments, displays, tests, and, or, chains, subscripts, slices, calls of built-ins. -/
namespace PL
open PySem PySem.Spec PyProof.Rows L2

/-! ### a list that a name holds is frozen -/
def fz1 (w : W) (ρ : Env) : R W := match w with
  | .o x => .ok (.o x) ρ
  | .own i => match ρ[i]? with
    | some (.fl xs) => .ok (.val (.list xs)) (ρ.set i (.fz (.list xs)))
    | some (.fz d) => .ok (.val d) ρ
    | _ => .bad
def eFz (f : Env → R W) : Env → R W := fun ρ => (eNrm f ρ).bind fz1
section
variable {G : GG} {T : Fm} {Wx : WX} {F H Hs : Hp} {σ : L2.St} {ρ : Env} {Q : VK}
theorem get_set {i j : Nat} {s : Sl} (h : i < ρ.length) : (ρ.set i s)[j]? = if j = i then some s else ρ[j]? := by
  by_cases e : j = i
  · subst e; rw [List.getElem?_set_self h, if_pos rfl]
  · rw [List.getElem?_set_ne (Ne.symm e), if_neg e]
theorem own_set {i : Nat} {s : Sl} (hs : s.own = false) (hi : i < ρ.length) {a : Addr} (h : Owns σ (ρ.set i s) a) : Owns σ ρ a := by
  obtain ⟨j, t, e1, e2, e3⟩ := h
  rw [get_set hi] at e1
  split at e1
  · cases e1; rw [hs] at e2; cases e2
  · exact ⟨j, t, e1, e2, e3⟩
theorem EnvOk.freeze {i : Nat} {xs : List D} {v : V} (en : EnvOk G T F H σ ρ) (hi : ρ[i]? = some (.fl xs)) (hv : σ[i]? = some (some v)) :
    ∃ F', Ext (Owns σ ρ) F H F' H ∧ EnvOk G T F' H σ (ρ.set i (.fz (.list xs))) ∧ Rep G.K F' (.list xs) v := by
  have hlt : i < ρ.length := (List.getElem?_eq_some_iff.mp hi).1
  obtain ⟨a, vs, ev, h1, h2, h0, l, r⟩ := en.at_ i _ hi
  rw [hv] at ev
  have ev : v = V.ref a := Option.some.inj ev
  subst ev
  have hA : ∀ b ∈ [a], F b = none := fun b hb => by rw [List.mem_singleton.mp hb]; exact h2
  have sm := frz_same (H := H) hA
  have rl : Rep G.K (frzAll H F [a]) (.list xs) (.ref a) := by
    rw [Rep]
    exact ⟨a, vs, rfl, by rw [frz_at (by simp)]; exact h1, l, r.mono sm⟩
  refine ⟨frzAll H F [a], ⟨sm, fun _ _ e _ _ => e, fun b hb hn => frz_ne fun hm => hn ?_, fun _ z => z⟩, ⟨frz_hp en.hp fun b hb => by rw [List.mem_singleton.mp hb]; exact ⟨vs, h1⟩, en.live0, by rw [List.length_set]; exact en.len, fun j s e => ?_, fun j k b s t e1 o1 e2 o2 s1 s2 => ?_⟩, rl⟩
  · rw [List.mem_singleton.mp hm]
    exact ⟨i, _, hi, rfl, hv⟩
  · rw [get_set hlt] at e
    split at e
    · rename_i ej
      subst ej
      cases e
      exact ⟨.ref a, by rw [hv] <;> rfl, rl⟩
    · rename_i ej
      refine (en.at_ j s e).frz hA fun ho b eb hm => ej ?_
      have : b = a := by simpa using hm
      subst this
      exact en.sep j i b s _ e ho hi rfl (join_ref eb) hv
  · rw [get_set hlt] at e1 e2
    split at e1
    · cases e1; cases o1
    · split at e2
      · cases e2; cases o2
      · exact en.sep j k b s t e1 o1 e2 o2 s1 s2
/-- with the weaker freshness of a composite expression -/
theorem fz_post {r : R W} (h : RPost G T Wx F H σ ρ (fun w ρ' F' H' => ∀ v, RepN G.K F' σ v w → Q v H') ((r.bind fun w ρ' => .ok w.nrm ρ').bind fz1)) : EPost G T Wx F H σ ρ Q r := by
  refine nrm_post ((RPost.bind h).imp fun w ρ1 F1 H1 e1 en1 l1 p1 v rv => ?_)
  cases w with
  | o x =>
    exact RPost.here en1 p1 v rv
  | own i =>
    have rv : σ[i]? = some (some v) := rv
    unfold fz1 at p1
    cases e : ρ1[i]? with
    | none => simp only [e] at p1; exact p1.elim
    | some s =>
      simp only [e] at p1
      have z := en1.at_ i s e
      cases s with
      | un => exact p1.elim
      | er c => exact p1.elim
      | sc ns => exact p1.elim
      | io j xs => exact p1.elim
      | fz d =>
        obtain ⟨v', ev, r'⟩ := z
        rw [rv] at ev
        cases ev
        exact RPost.here en1 p1 v r'
      | fl xs =>
        obtain ⟨F2, x2, en2, r2⟩ := en1.freeze e rv
        exact p1 F2 H1 x2 en2 (fun a ha => own_set rfl (List.getElem?_eq_some_iff.mp e).1 ha) v r2
theorem tE_fz {f : Env → R W} (en : EnvOk G T F H σ ρ) (h : NPost G T Wx F H σ ρ Q (eFz f ρ)) : tE G Wx f σ H Q := ⟨T, F, ρ, en, fz_post h⟩
end

/-! ### arguments -/
def RepNs (K : PySem.W.Frag) (F : Hp) (σ : L2.St) : List W → List V → Prop
  | [], vs => vs = []
  | w :: ws, vs => ∃ v r, vs = v :: r ∧ RepN K F σ v w ∧ RepNs K F σ ws r
theorem RepNs.mono {K : PySem.W.Frag} {F F' : Hp} {σ : L2.St} (s : Same F F') : ∀ {ws : List W} {vs : List V}, RepNs K F σ ws vs → RepNs K F' σ ws vs
  | [], _, h => h
  | w :: ws, _, h => by
    obtain ⟨v, r, rfl, h1, h2⟩ := h
    exact ⟨v, r, rfl, h1.mono s, RepNs.mono s h2⟩
def datAll (ρ : Env) : List W → Option (List D)
  | [] => some []
  | w :: ws => match w.dat ρ, datAll ρ ws with
    | some d, some ds => some (d :: ds)
    | _, _ => none
theorem RepNs.read {G : GG} {T : Fm} {F H : Hp} {σ : L2.St} {ρ : Env} (en : EnvOk G T F H σ ρ) : ∀ {ws : List W} {vs : List V} {ds : List D}, RepNs G.K F σ ws vs → datAll ρ ws = some ds → RepCs G.K F H ds vs
  | [], _, _, h, e => by
    cases e
    exact h
  | w :: ws, _, ds, h, e => by
    obtain ⟨v, r, rfl, h1, h2⟩ := h
    unfold datAll at e
    cases e1 : w.dat ρ with
    | none => rw [e1] at e; cases e
    | some d =>
      cases e2 : datAll ρ ws with
      | none => rw [e1, e2] at e; cases e
      | some ds' =>
        rw [e1, e2] at e
        cases e
        exact ⟨v, r, rfl, h1.read en e1, RepNs.read en h2 e2⟩
def tA (G : GG) (Wx : WX) (f : Env → R (List W)) : TA := fun σ H Q => ∃ T F ρ, EnvOk G T F H σ ρ ∧ RPost G T Wx F H σ ρ (fun ws _ F' H' => ∀ vs, RepNs G.K F' σ ws vs → Q vs H') (f ρ)
def PDA (C : Ct) (es : List Expr) (f : Env → R (List W)) : Prop := ∀ (X : Cx) (Wx : WX), Cok X C Wx → PA X es (tA C.G Wx f)
theorem PA.to {X : Cx} {es : List Expr} {t t' : TA} (h : PA X es t) (i : ∀ σ H Q, t' σ H Q → t σ H Q) : PA X es t' := ⟨fun pos pins s σ H Q I q => h.run pos pins s σ H Q I (i σ H Q q)⟩
def aNil : Env → R (List W) := fun ρ => .ok [] ρ
def aCons (f : Env → R W) (r : Env → R (List W)) : Env → R (List W) := fun ρ => (f ρ).bind fun w ρ1 => (r ρ1).bind fun ws ρ2 => .ok (w :: ws) ρ2
section
variable {C : Ct} {e : Expr} {es : List Expr} {f : Env → R W} {r : Env → R (List W)}
theorem pda_nil : PDA C [] aNil := fun X Wx ok => PA.to pa_nil fun σ H Q ⟨T, F, ρ, en, p⟩ => RPost.here en p [] rfl
/-- a borrowed argument -/
theorem pda_cons (h : PD C e f) (t : PDA C es r) (hs : ∀ env, starEach (e :: es) env = (false, eval e env) :: starEach es env := by intro _; rfl) : PDA C (e :: es) (aCons (eNrm f) r) := fun X Wx ok => by
  refine PA.to (pa_cons (h X Wx ok) (t X Wx ok) (hs _)) fun σ H Q ⟨T, F, ρ, en, p⟩ => ?_
  refine tE_nrm en ((RPost.bind p).imp fun w ρ1 F1 H1 e1 en1 l1 p1 v rv => ⟨T, F1, ρ1, en1, ?_⟩)
  exact (RPost.bind p1).imp fun ws ρ2 F2 H2 e2 en2 l2 p2 vs rvs => RPost.here en2 p2 (v :: vs) ⟨v, vs, rfl, rv.mono e2.fle, rvs⟩
/-- an argument that is kept -/
theorem pda_keep (h : PD C e f) (t : PDA C es r) (hs : ∀ env, starEach (e :: es) env = (false, eval e env) :: starEach es env := by intro _; rfl) : PDA C (e :: es) (aCons (eFz f) r) := fun X Wx ok => by
  refine PA.to (pa_cons (h X Wx ok) (t X Wx ok) (hs _)) fun σ H Q ⟨T, F, ρ, en, p⟩ => ?_
  refine tE_fz en ((RPost.bind p).imp fun w ρ1 F1 H1 e1 en1 l1 p1 v rv => ⟨T, F1, ρ1, en1, ?_⟩)
  exact (RPost.bind p1).imp fun ws ρ2 F2 H2 e2 en2 l2 p2 vs rvs => RPost.here en2 p2 (v :: vs) ⟨v, vs, rfl, rv.mono e2.fle, rvs⟩
end

/-! ### calls of built-ins -/
def eN (g : List D → Option P1) (fa : Env → R (List W)) : Env → R W := fun ρ => (fa ρ).bind fun ws ρ1 => match datAll ρ1 ws with
  | some ds => outP (g ds) ρ1
  | none => .bad
theorem n_core {G : GG} {Wx : WX} {r : List V → Hp → VK → Prop} {g : List D → Option P1} {fa : Env → R (List W)} {σ : L2.St} {H : Hp} {Q : VK} (hp : PrimN G r g) (h : tE G Wx (eN g fa) σ H Q) : tCB r (tA G Wx fa) σ H Q := by
  obtain ⟨T, F, ρ, en, p⟩ := h
  refine ⟨T, F, ρ, en, (RPost.bind p).imp fun ws ρ1 F1 H1 e1 en1 l1 p1 vs rv => ?_⟩
  cases ea : datAll ρ1 ws with
  | none => rw [ea] at p1; exact p1.elim
  | some ds =>
    rw [ea] at p1
    obtain ⟨p', eg, q⟩ := out_post e1.live en1 p1
    exact hp F1 H1 vs ds p' Q en1.hp (rv.read en1 ea) eg q
section
variable {C : Ct} {e : Expr} {es : List Expr} {fa : Env → R (List W)} {x : Str} {p pos : Pos} {id Tn : String} {g : List D → Option P1}
theorem pd_callB {r : Cx → List V → Hp → VK → Prop} (hc : ∀ X Wx, Cok X C Wx → CallR X (.builtin id) (r X)) (hp : ∀ X Wx, Cok X C Wx → PrimN C.G (r X) g) (hg : glB C.sc x = true) (hm : C.G.mg x = none) (hv : bootBuiltins x = some (.builtin id)) (ha : PDA C (e :: es) fa)
    (he : ∀ env, starEach (e :: es) env = (false, eval e env) :: starEach es env := by intro _; rfl) (hpl : ∀ env, (backTo pos (starEach es env)).any (·.1) = false := by intro _; rfl) : PD C (.Call (.Name x p) (e :: es) [] pos) (eN g fa) := by
  intro X Wx ok
  exact PE.to (pe_callB (hc X Wx ok) (ok.gl hg) (by rw [ok.mg]; exact hm) hv (ha X Wx ok) (glB_spec hg).2.2 (glB_spec hg).2.1 (he _) (hpl _)) fun σ H Q h => n_core (hp X Wx ok) h
theorem pd_callTy {r : Cx → List V → Hp → VK → Prop} (hc : ∀ X Wx, Cok X C Wx → CallR X (.type Tn) (r X)) (hp : ∀ X Wx, Cok X C Wx → PrimN C.G (r X) g) (hg : glB C.sc x = true) (hm : C.G.mg x = none) (hv : bootBuiltins x = some (.type Tn)) (ha : PDA C (e :: es) fa)
    (he : ∀ env, starEach (e :: es) env = (false, eval e env) :: starEach es env := by intro _; rfl) (hpl : ∀ env, (backTo pos (starEach es env)).any (·.1) = false := by intro _; rfl) : PD C (.Call (.Name x p) (e :: es) [] pos) (eN g fa) := by
  intro X Wx ok
  exact PE.to (pe_callTy (hc X Wx ok) (ok.gl hg) (by rw [ok.mg]; exact hm) hv (ha X Wx ok) (glB_spec hg).2.2 (glB_spec hg).2.1 (he _) (hpl _)) fun σ H Q h => n_core (hp X Wx ok) h
/-- a built-in that stands in the module by a name of its own (from math import gcd) -/
theorem pd_callF {r : Cx → List V → Hp → VK → Prop} (hc : ∀ X Wx, Cok X C Wx → CallR X (.builtin id) (r X)) (hp : ∀ X Wx, Cok X C Wx → PrimN C.G (r X) g) (hg : glB C.sc x = true) (hm : C.G.mg x = some (.builtin id)) (ha : PDA C (e :: es) fa)
    (he : ∀ env, starEach (e :: es) env = (false, eval e env) :: starEach es env := by intro _; rfl) (hpl : ∀ env, (backTo pos (starEach es env)).any (·.1) = false := by intro _; rfl) : PD C (.Call (.Name x p) (e :: es) [] pos) (eN g fa) := by
  intro X Wx ok
  exact PE.to (pe_callBfun (hc X Wx ok) (ok.gl hg) (by rw [ok.mg]; exact hm) (ha X Wx ok) (glB_spec hg).2.1 (he _) (hpl _)) fun σ H Q h => n_core (hp X Wx ok) h
end

/-! ### displays -/
def valAll : List W → Option (List D)
  | [] => some []
  | .o (.fz d) :: ws => match valAll ws with
    | some ds => some (d :: ds)
    | none => none
  | _ :: _ => none
theorem RepNs.vals {K : PySem.W.Frag} {F : Hp} {σ : L2.St} : ∀ {ws : List W} {vs : List V} {ds : List D}, RepNs K F σ ws vs → valAll ws = some ds → Reps K F ds vs
  | [], _, _, h, e => by
    cases e
    rw [Reps]
    exact h
  | w :: ws, _, ds, h, e => by
    obtain ⟨v, r, rfl, h1, h2⟩ := h
    cases w with
    | own i => cases e
    | o x =>
      cases x with
      | fl xs => cases e
      | tp ps => cases e
      | fz d =>
        unfold valAll at e
        cases e2 : valAll ws with
        | none => rw [e2] at e; cases e
        | some ds' =>
          rw [e2] at e
          cases e
          exact reps_cons h1 (RepNs.vals h2 e2)
def eTup (fa : Env → R (List W)) : Env → R W := fun ρ => (fa ρ).bind fun ws ρ1 => match valAll ws with
  | some ds => if ds.length ≤ sizeLine then .ok (.val (.tuple ds)) ρ1 else .bad
  | none => .bad
def eLst (fa : Env → R (List W)) : Env → R W := fun ρ => (fa ρ).bind fun ws ρ1 => match valAll ws with
  | some ds => if ds.length ≤ sizeLine then .ok (.o (.fl ds)) ρ1 else .bad
  | none => .bad
section
variable {C : Ct} {es : List Expr} {fa : Env → R (List W)} {pos : Pos}
theorem pd_tup {k : Nat} (h : PDA C es fa) : PD C (.Tuple es k pos) (eTup fa) := by
  intro X Wx ok
  refine PE.to (pe_tup (h X Wx ok)) fun σ H Q ⟨T, F, ρ, en, p⟩ => ⟨T, F, ρ, en, (RPost.bind p).imp fun ws ρ1 F1 H1 e1 en1 l1 p1 vs rv => ?_⟩
  cases ea : valAll ws with
  | none => rw [ea] at p1; exact p1.elim
  | some ds =>
    rw [ea] at p1
    by_cases hz : ds.length ≤ sizeLine
    · simp only [hz, if_true] at p1
      have rs := rv.vals ea
      have hl : vs.length ≤ sizeLine := by rw [rs.len]; exact hz
      refine ⟨hl, fun a ha => ?_⟩
      obtain ⟨n, k, r⟩ := new_tup en1.hp hl rs ha
      exact p1 _ _ n.ext (en1.new n k) (fun _ z => z) _ (repW_val r)
    · simp only [hz, if_false] at p1
      exact p1.elim
theorem pd_lst (h : PDA C es fa) : PD C (.List es pos) (eLst fa) := by
  intro X Wx ok
  refine PE.to (pe_lst (h X Wx ok)) fun σ H Q ⟨T, F, ρ, en, p⟩ => ⟨T, F, ρ, en, (RPost.bind p).imp fun ws ρ1 F1 H1 e1 en1 l1 p1 vs rv => ?_⟩
  cases ea : valAll ws with
  | none => rw [ea] at p1; exact p1.elim
  | some ds =>
    rw [ea] at p1
    by_cases hz : ds.length ≤ sizeLine
    · simp only [hz, if_true] at p1
      have rs := rv.vals ea
      have hl : vs.length ≤ sizeLine := by rw [rs.len]; exact hz
      refine ⟨hl, fun a ha => ?_⟩
      obtain ⟨n, k, r⟩ := new_lst en1.hp hl rs ha
      obtain ⟨p', eg, q⟩ := out_post (p := some (.fl ds)) e1.live en1 p1
      cases eg
      exact q _ _ _ n k r
    · simp only [hz, if_false] at p1
      exact p1.elim
end

/-! ### tests -/
def boolW (w : W) (ρ : Env) : R Bool := match w.dat ρ with
  | some (.bool b) => .ok b ρ
  | _ => .bad
/-- the test of an expression that is worth a bool -/
def tstB (f : Env → R W) : Env → R Bool := fun ρ => (eNrm f ρ).bind boolW
def truD : D → Bool
  | .none => false
  | .bool b => b
  | .int i => i != 0
  | .str x => (x.length : Int) != 0
  | .list xs => !xs.isEmpty
  | .tuple xs => !xs.isEmpty
  | .dict _ => false
def truW (w : W) (ρ : Env) : R Bool := match w.dat ρ with
  | some d => .ok (truD d) ρ
  | _ => .bad
def tstV (f : Env → R W) : Env → R Bool := fun ρ => (eNrm f ρ).bind truW
def tAndS (f g : Env → R Bool) : Env → R Bool := fun ρ => (f ρ).bind fun b ρ1 => if b = true then g ρ1 else .ok false ρ1
def tOrS (f g : Env → R Bool) : Env → R Bool := fun ρ => (f ρ).bind fun b ρ1 => if b = true then .ok true ρ1 else g ρ1
def tNotS (f : Env → R Bool) : Env → R Bool := fun ρ => (f ρ).bind fun b ρ1 => .ok (!b) ρ1
def PDW (C : Ct) (e : Expr) (f : Env → R Bool) : Prop := ∀ (X : Cx) (Wx : WX), Cok X C Wx → PW X e (tT C.G Wx f)
theorem PW.to {X : Cx} {e : Expr} {t t' : TT} (h : PW X e t) (i : ∀ σ H Q, t' σ H Q → t σ H Q) : PW X e t' := ⟨fun wh pins s σ H Q I q => h.run wh pins s σ H Q I (i σ H Q q)⟩
theorem repC_bool {G : GG} {T : Fm} {F H : Hp} {σ : L2.St} {ρ : Env} {v : V} {w : W} {b : Bool} (en : EnvOk G T F H σ ρ) (rv : RepN G.K F σ v w) (e : w.dat ρ = some (.bool b)) : v = .bl b := repC_bl (rv.read en e)
section
variable {C : Ct} {a b : Expr} {rest : List Expr} {f g : Env → R W} {ft gt : Env → R Bool} {pos : Pos}
theorem bool_core {G : GG} {Wx : WX} {σ : L2.St} {H : Hp} {Q : Bool → Hp → Prop} (h : tT G Wx (tstB f) σ H Q) : tE G Wx f σ H fun x H1 => ∃ k, x = .bl k ∧ Q k H1 := by
  obtain ⟨T, F, ρ, en, p⟩ := h
  refine tE_nrm en ((RPost.bind p).imp fun w ρ1 F1 H1 e1 en1 l1 p1 v rv => ?_)
  unfold boolW at p1
  cases ew : w.dat ρ1 with
  | none => simp only [ew] at p1; exact p1.elim
  | some d =>
    simp only [ew] at p1
    cases d with
    | bool b => exact ⟨b, repC_bool en1 rv ew, RPost.here en1 p1⟩
    | none => exact p1.elim
    | int i => exact p1.elim
    | str x => exact p1.elim
    | list xs => exact p1.elim
    | tuple xs => exact p1.elim
    | dict kvs => exact p1.elim
/-- a comparison, a call, a constant .. that is worth a bool, as a test -/
theorem pdt_val (h : PD C a f) (he : ∀ env whole, isTrue a env whole = (do let v ← whole; standAt a.pos; holding [v] (truthy v)) := by intro _ _; rfl) : PDT C a (tstB f) := fun X Wx ok => by
  exact PT.to (pt_val (h X Wx ok) (he _)) fun σ H Q p => bool_core p
theorem pdt_cmp {op : CmpOp} {r : Cx → R2} {gg : D → D → Option P1} {fa fb : Env → R W} (ho : ∀ X Wx, Cok X C Wx → OpR X (compareOp op) (r X)) (hp : ∀ X Wx, Cok X C Wx → Prim2 C.G (r X) gg) (ha : PD C a fa) (hb : PD C b fb) (hm : behindInMarks op b = false) : PDT C (.Compare a [op] [b] pos) (tstB (eBin gg fa fb)) := fun X Wx ok => by
  refine PT.to (pt_cmpR (ho X Wx ok) (ha X Wx ok) (hb X Wx ok) hm) fun σ H Q p => ?_
  exact bin_core (hp X Wx ok) (bool_core p)
theorem truV_of {G : GG} {F H : Hp} {d : D} {v : V} (ok : HpOk G F H) (r : RepC G.K F H d v) (hd : ∀ kvs, d ≠ .dict kvs) : TruV G.K v H (truD d) := by
  have r := r.rep' ok
  cases d with
  | none => rw [Rep] at r; subst r; rfl
  | bool b => rw [Rep] at r; subst r; rfl
  | int i => rw [Rep] at r; subst r; rfl
  | str x => rw [Rep] at r; obtain ⟨rfl, hx, _⟩ := r; exact ⟨hx, rfl⟩
  | list xs =>
    rw [Rep] at r
    obtain ⟨p, vs, rfl, h1, l, rs⟩ := r
    refine .inl ⟨vs, SqL.of h1, ?_⟩
    have := rs.len
    cases xs <;> cases vs <;> simp_all [truD]
  | tuple xs =>
    rw [Rep] at r
    obtain ⟨p, vs, rfl, h1, l, rs⟩ := r
    refine .inr (.inl ⟨vs, h1, ?_⟩)
    have := rs.len
    cases xs <;> cases vs <;> simp_all [truD]
  | dict kvs => exact absurd rfl (hd kvs)
theorem pdt_truth (h : PD C a f) (he : ∀ env whole, isTrue a env whole = (do let v ← whole; standAt a.pos; holding [v] (truthy v)) := by intro _ _; rfl) : PDT C a (tstV f) := fun X Wx ok => by
  refine PT.to (pt_truth (h X Wx ok) (he _)) fun σ H Q ⟨T, F, ρ, en, p⟩ => ?_
  refine tE_nrm en ((RPost.bind p).imp fun w ρ1 F1 H1 e1 en1 l1 p1 v rv => ?_)
  unfold truW at p1
  cases ew : w.dat ρ1 with
  | none => simp only [ew] at p1; exact p1.elim
  | some d =>
    simp only [ew] at p1
    have rc := rv.read en1 ew
    refine ⟨truD d, ?_, RPost.here en1 p1⟩
    rw [ok.K]
    exact truV_of en1.hp rc fun kvs e => by
      subst e
      have z := rc.rep' en1.hp
      rw [Rep] at z
      exact z
theorem pdw_and1 (h : PDT C a ft) : PDW C (.BoolOp .And [a] pos) ft := fun X Wx ok => pw_and1 (h X Wx ok)
theorem pdw_or1 (h : PDT C a ft) : PDW C (.BoolOp .Or [a] pos) ft := fun X Wx ok => pw_or1 (h X Wx ok)
theorem pdw_and (h : PDT C a ft) (t : PDW C (.BoolOp .And (b :: rest) pos) gt) : PDW C (.BoolOp .And (a :: b :: rest) pos) (tAndS ft gt) := fun X Wx ok => by
  refine PW.to (pw_and (h X Wx ok) (t X Wx ok)) fun σ H Q ⟨T, F, ρ, en, p⟩ => ⟨T, F, ρ, en, (RPost.bind p).imp fun c ρ1 F1 H1 e1 en1 l1 p1 => ?_⟩
  cases c with
  | true => exact ⟨T, F1, ρ1, en1, p1⟩
  | false => exact RPost.here en1 p1
theorem pdw_or (h : PDT C a ft) (t : PDW C (.BoolOp .Or (b :: rest) pos) gt) : PDW C (.BoolOp .Or (a :: b :: rest) pos) (tOrS ft gt) := fun X Wx ok => by
  refine PW.to (pw_or (h X Wx ok) (t X Wx ok)) fun σ H Q ⟨T, F, ρ, en, p⟩ => ⟨T, F, ρ, en, (RPost.bind p).imp fun c ρ1 F1 H1 e1 en1 l1 p1 => ?_⟩
  cases c with
  | true => exact RPost.here en1 p1
  | false => exact ⟨T, F1, ρ1, en1, p1⟩
theorem PDW.t (h : PDW C a ft) : PDT C a ft := fun X Wx ok => (h X Wx ok).pt
theorem pdt_not (h : PDT C a ft) : PDT C (.UnaryOp .Not a pos) (tNotS ft) := fun X Wx ok => by
  exact PT.to (pt_not (h X Wx ok)) fun σ H Q ⟨T, F, ρ, en, p⟩ => ⟨T, F, ρ, en, (RPost.bind p).imp fun c ρ1 F1 H1 e1 en1 l1 p1 => RPost.here en1 p1⟩
/-! as values -/
def eAndB (f g : Env → R W) : Env → R W := fun ρ => (tstB f ρ).bind fun b ρ1 => if b = true then g ρ1 else .ok (.val (.bool false)) ρ1
def eOrB (f g : Env → R W) : Env → R W := fun ρ => (tstB f ρ).bind fun b ρ1 => if b = true then .ok (.val (.bool true)) ρ1 else g ρ1
def eNotB (f : Env → R W) : Env → R W := fun ρ => (tstB f ρ).bind fun b ρ1 => .ok (.val (.bool (!b))) ρ1
def eIf (ft : Env → R Bool) (f g : Env → R W) : Env → R W := fun ρ => (ft ρ).bind fun b ρ1 => if b = true then f ρ1 else g ρ1
/-- a later start of the expression is as good -/
theorem EPost.late {G : GG} {T : Fm} {Wx : WX} {Hs F H : Hp} {σ : L2.St} {ρ : Env} {Q : VK} {r : R W} (hl : ∀ a, Hs a ≠ none → H a ≠ none) (h : RPost G T Wx F H σ ρ (fun w ρ' F' H' => ∀ v, RepW G.K Hs F' H' σ ρ' v w → Q v H') r) : EPost G T Wx F H σ ρ Q r :=
  h.imp fun w ρ' F' H' e en l q v rv => q v (by
    cases w with
    | own i => exact rv
    | o x =>
      obtain ⟨A, h1, h2, h3⟩ := rv
      exact ⟨A, h1, h2, fun a ha => ⟨Classical.byContradiction fun z => hl a z (h3 a ha).1, (h3 a ha).2⟩⟩)
theorem pd_and (h : PD C a f) (t : PD C (.BoolOp .And (b :: rest) pos) g) : PD C (.BoolOp .And (a :: b :: rest) pos) (eAndB f g) := fun X Wx ok => by
  refine PE.to (pe_and (h X Wx ok) (t X Wx ok)) fun σ H Q ⟨T, F, ρ, en, p⟩ => ?_
  refine bool_core (Q := fun c H1 => if c = true then tE C.G Wx g σ H1 Q else Q (.bl false) H1) ⟨T, F, ρ, en, (RPost.bind p).imp fun c ρ1 F1 H1 e1 en1 l1 p1 => ?_⟩
  cases c with
  | true => exact ⟨T, F1, ρ1, en1, EPost.late e1.live p1⟩
  | false => exact RPost.here en1 p1 _ (repW_val rep_bl)
theorem pd_or (h : PD C a f) (t : PD C (.BoolOp .Or (b :: rest) pos) g) : PD C (.BoolOp .Or (a :: b :: rest) pos) (eOrB f g) := fun X Wx ok => by
  refine PE.to (pe_or (h X Wx ok) (t X Wx ok)) fun σ H Q ⟨T, F, ρ, en, p⟩ => ?_
  refine bool_core (Q := fun c H1 => if c = true then Q (.bl true) H1 else tE C.G Wx g σ H1 Q) ⟨T, F, ρ, en, (RPost.bind p).imp fun c ρ1 F1 H1 e1 en1 l1 p1 => ?_⟩
  cases c with
  | false => exact ⟨T, F1, ρ1, en1, EPost.late e1.live p1⟩
  | true => exact RPost.here en1 p1 _ (repW_val rep_bl)
theorem pd_one {op : BoolOp} (h : PD C a f) : PD C (.BoolOp op [a] pos) f := fun X Wx ok => pe_one (h X Wx ok)
theorem pd_not (h : PD C a f) : PD C (.UnaryOp .Not a pos) (eNotB f) := fun X Wx ok => by
  refine PE.to (pe_not (h X Wx ok)) fun σ H Q ⟨T, F, ρ, en, p⟩ => ?_
  exact bool_core (Q := fun c H1 => Q (.bl (!c)) H1) ⟨T, F, ρ, en, (RPost.bind p).imp fun c ρ1 F1 H1 e1 en1 l1 p1 => RPost.here en1 p1 _ (repW_val rep_bl)⟩
theorem pd_if {c : Expr} (hc : PDT C c ft) (h : PD C a f) (t : PD C b g) : PD C (.IfExp c a b pos) (eIf ft f g) := fun X Wx ok => by
  refine PE.to (pe_ifExp (hc X Wx ok) (h X Wx ok) (t X Wx ok)) fun σ H Q ⟨T, F, ρ, en, p⟩ => ⟨T, F, ρ, en, (RPost.bind p).imp fun c ρ1 F1 H1 e1 en1 l1 p1 => ?_⟩
  cases c with
  | true => exact ⟨T, F1, ρ1, en1, EPost.late e1.live p1⟩
  | false => exact ⟨T, F1, ρ1, en1, EPost.late e1.live p1⟩
end
end PL
end
section
set_option Elab.async false
set_option linter.all false
set_option maxRecDepth 100000
set_option maxHeartbeats 2000000
set_option autoImplicit false
/-! Chains, subscripts, slices, the usual built-ins. -/
namespace PL
open PySem PySem.Spec PyProof.Rows L2

/-! ### chains of comparisons: a op b op' c, a op b op' c op'' d -/
def tChain3 (r r' r'' : R2) (ta tb tc td : TE) : TE := fun σ H Q => ta σ H fun x H1 => tb σ H1 fun y H2 => r x y H2 fun z H3 => ∃ k, z = .bl k ∧
  (if k = true then tc σ H3 fun w' H4 => r' y w' H4 fun z2 H5 => ∃ k2, z2 = .bl k2 ∧ (if k2 = true then td σ H5 fun v' H6 => r'' w' v' H6 Q else Q (.bl false) H5) else Q (.bl false) H3)
section
variable {X : Cx} {a b c d : Expr} {ta tb tc td : TE} {pos : Pos}
theorem pe_chain3 {op op' op'' : CmpOp} {r r' r'' : R2} (ho : OpR X (compareOp op) r) (ho' : OpR X (compareOp op') r') (ho'' : OpR X (compareOp op'') r'') (ha : PE X a ta) (hb : PE X b tb) (hc : PE X c tc) (hd : PE X d td)
    (hm : lastMarks [op, op', op''] [b, c, d] = false) : PE X (.Compare a [op, op', op''] [b, c, d] pos) (tChain3 r r' r'' ta tb tc td) := by
  refine ⟨fun pins s σ H Q I h => ?_⟩
  refine Compare_chain (thn (ha.run pins s σ H _ I h) fun v s1 ⟨x, H1, I1, r1, q1⟩ => chain_link (thn (hb.run pins s1 σ H1 _ I1 q1) fun u s2 ⟨y, H2, I2, r2, q2⟩ =>
    thn (ho pins s2 σ H2 x y v u _ I2 r1 r2 q2) fun e s3 ⟨z, H3, I3, r3, k, ez, q3⟩ => ?_)) hm
  subst ez
  cases r3
  refine wpAny_truthy_bool ?_
  cases k with
  | false => exact ite_ff ⟨.bl false, H3, I3, rfl, q3⟩
  | true =>
    refine ite_tt (chain_link (thn (hc.run pins s3 σ H3 _ I3 q3) fun w' s4 ⟨z', H4, I4, r4, q4⟩ => thn (ho' pins s4 σ H4 y z' u w' _ I4 r2 r4 q4) fun e2 s5 ⟨z2, H5, I5, r5, k2, ez2, q5⟩ => ?_))
    subst ez2
    cases r5
    refine wpAny_truthy_bool ?_
    cases k2 with
    | false => exact ite_ff ⟨.bl false, H5, I5, rfl, q5⟩
    | true => exact ite_tt (chain_last (thn (hd.run pins s5 σ H5 _ I5 q5) fun v2 s6 ⟨z3, H6, I6, r6, q6⟩ => ho'' pins s6 σ H6 z' z3 w' v2 Q I6 r4 r6 q6))
end
def boolP (p : Option P1) : Option Bool := match p with
  | some (.fz (.bool b)) => some b
  | _ => none
def eCh2 (g g' : D → D → Option P1) (fa fb fc : Env → R W) : Env → R W := fun ρ => (eNrm fa ρ).bind fun wa ρ1 => (eNrm fb ρ1).bind fun wb ρ2 => match wa.dat ρ2, wb.dat ρ2 with
  | some a, some b => match boolP (g a b) with
    | some true => (eNrm fc ρ2).bind fun wc ρ3 => match wb.dat ρ3, wc.dat ρ3 with
      | some b, some c => outP (g' b c) ρ3
      | _, _ => .bad
    | some false => .ok (.val (.bool false)) ρ2
    | none => .bad
  | _, _ => .bad
def eCh3 (g g' g'' : D → D → Option P1) (fa fb fc fd : Env → R W) : Env → R W := fun ρ => (eNrm fa ρ).bind fun wa ρ1 => (eNrm fb ρ1).bind fun wb ρ2 => match wa.dat ρ2, wb.dat ρ2 with
  | some a, some b => match boolP (g a b) with
    | some true => (eNrm fc ρ2).bind fun wc ρ3 => match wb.dat ρ3, wc.dat ρ3 with
      | some b, some c => match boolP (g' b c) with
        | some true => (eNrm fd ρ3).bind fun wd ρ4 => match wc.dat ρ4, wd.dat ρ4 with
          | some c, some d => outP (g'' c d) ρ4
          | _, _ => .bad
        | some false => .ok (.val (.bool false)) ρ3
        | none => .bad
      | _, _ => .bad
    | some false => .ok (.val (.bool false)) ρ2
    | none => .bad
  | _, _ => .bad
/-- behind pure growth what was wanted is wanted still -/
theorem RPost.mono3 {α : Type} {G : GG} {T : Fm} {Wx : WX} {F H F1 H1 : Hp} {σ : L2.St} {ρ : Env} {Ok Ok' : α → Env → Hp → Hp → Prop} {r : R α} (h : RPost G T Wx F H σ ρ Ok r) (n : New F H F1 H1)
    (i : ∀ x ρ' F' H', Ext (Owns σ ρ) F1 H1 F' H' → EnvOk G T F' H' σ ρ' → (∀ a, Owns σ ρ' a → Owns σ ρ a) → Ok x ρ' F' H' → Ok' x ρ' F' H') : RPost G T Wx F1 H1 σ ρ Ok' r := by
  have cmp : ∀ {F' H' : Hp}, Ext (Owns σ ρ) F1 H1 F' H' → Ext (Owns σ ρ) F H F' H' := fun e => (n.ext (A := Owns σ ρ)).trans e fun _ z => .inl z
  cases r with
  | bad => exact h
  | exc c ρ' => exact fun F' H' e ok l => h F' H' (cmp e) ok l
  | ok x ρ' => exact fun F' H' e ok l => i x ρ' F' H' e ok l (h F' H' (cmp e) ok l)
section
variable {G : GG} {T : Fm} {Wx : WX} {F H : Hp} {σ : L2.St} {ρ : Env}
/-- a comparison whose answer is a bool, in the middle of a chain -/
theorem mid_bool {r : R2} {g : D → D → Option P1} {x y : V} {a b : D} {k : Bool} {Q : VK} (hp : Prim2 G r g) (ok : HpOk G F H) (ra : RepC G.K F H a x) (rb : RepC G.K F H b y) (e : boolP (g a b) = some k)
    (q : ∀ F' H', New F H F' H' → HpOk G F' H' → Q (.bl k) H') : r x y H Q := by
  have eg : g a b = some (.fz (.bool k)) := by
    unfold boolP at e
    split at e
    · rename_i h; cases e; exact h
    · cases e
  refine hp F H x y a b _ Q ok ra rb eg fun v F' H' n k' ⟨A, rr, _⟩ => ?_
  obtain ⟨_, rr⟩ := rr
  rw [Rep] at rr
  subst rr
  exact q F' H' n k'
end
section
variable {C : Ct} {a b c d : Expr} {fa fb fc fd : Env → R W} {pos : Pos}
theorem ch2_core {G : GG} {Wx : WX} {r r' : R2} {g g' : D → D → Option P1} {σ : L2.St} {H : Hp} {Q : VK} (hp : Prim2 G r g) (hp' : Prim2 G r' g') (h : tE G Wx (eCh2 g g' fa fb fc) σ H Q) : tChain r r' (tE G Wx fa) (tE G Wx fb) (tE G Wx fc) σ H Q := by
  obtain ⟨T, F, ρ, en, p⟩ := h
  refine tE_nrm en ((RPost.bind p).imp fun wa ρ1 F1 H1 e1 en1 l1 p1 va ra => ?_)
  refine tE_nrm en1 ((RPost.bind p1).imp fun wb ρ2 F2 H2 e2 en2 l2 p2 vb rb => ?_)
  cases ea : wa.dat ρ2 with
  | none => simp only [ea] at p2; exact p2.elim
  | some da =>
    cases eb : wb.dat ρ2 with
    | none => simp only [ea, eb] at p2; exact p2.elim
    | some db =>
      simp only [ea, eb] at p2
      cases ek : boolP (g da db) with
      | none => simp only [ek] at p2; exact p2.elim
      | some k =>
        simp only [ek] at p2
        refine mid_bool hp en2.hp ((ra.mono e2.fle).read en2 ea) (rb.read en2 eb) ek fun F3 H3 n3 k3 => ⟨k, rfl, ?_⟩
        have en3 := en2.new n3 k3
        cases k with
        | false =>
          exact p2 F3 H3 n3.ext en3 (fun _ z => z) _ (repW_val rep_bl)
        | true =>
          refine tE_nrm en3 ?_
          refine (RPost.bind p2).mono3 n3 ?_
          intro wc ρ4 F4 H4 e4 en4 l4 p4 vc rc
          cases eb4 : wb.dat ρ4 with
          | none => simp only [eb4] at p4; exact p4.elim
          | some db4 =>
            cases ec4 : wc.dat ρ4 with
            | none => simp only [eb4, ec4] at p4; exact p4.elim
            | some dc4 =>
              simp only [eb4, ec4] at p4
              obtain ⟨p', eg, q⟩ := out_post (fun a z => e4.live a (n3.live a (e2.live a (e1.live a z)))) en4 p4
              exact hp' F4 H4 vb vc db4 dc4 p' Q en4.hp (((rb.mono n3.fle).mono e4.fle).read en4 eb4) (rc.read en4 ec4) eg q
end
section
variable {C : Ct} {a b c d : Expr} {fa fb fc fd : Env → R W} {pos : Pos}
theorem ch3_core {G : GG} {Wx : WX} {r r' r'' : R2} {g g' g'' : D → D → Option P1} {σ : L2.St} {H : Hp} {Q : VK} (hp : Prim2 G r g) (hp' : Prim2 G r' g') (hp'' : Prim2 G r'' g'') (h : tE G Wx (eCh3 g g' g'' fa fb fc fd) σ H Q) : tChain3 r r' r'' (tE G Wx fa) (tE G Wx fb) (tE G Wx fc) (tE G Wx fd) σ H Q := by
  obtain ⟨T, F, ρ, en, p⟩ := h
  refine tE_nrm en ((RPost.bind p).imp fun wa ρ1 F1 H1 e1 en1 l1 p1 va ra => ?_)
  refine tE_nrm en1 ((RPost.bind p1).imp fun wb ρ2 F2 H2 e2 en2 l2 p2 vb rb => ?_)
  cases ea : wa.dat ρ2 with
  | none => simp only [ea] at p2; exact p2.elim
  | some da =>
    cases eb : wb.dat ρ2 with
    | none => simp only [ea, eb] at p2; exact p2.elim
    | some db =>
      simp only [ea, eb] at p2
      cases ek : boolP (g da db) with
      | none => simp only [ek] at p2; exact p2.elim
      | some k =>
        simp only [ek] at p2
        refine mid_bool hp en2.hp ((ra.mono e2.fle).read en2 ea) (rb.read en2 eb) ek fun F3 H3 n3 k3 => ⟨k, rfl, ?_⟩
        have en3 := en2.new n3 k3
        cases k with
        | false => exact p2 F3 H3 n3.ext en3 (fun _ z => z) _ (repW_val rep_bl)
        | true =>
          refine tE_nrm en3 ((RPost.bind p2).mono3 n3 ?_)
          intro wc ρ4 F4 H4 e4 en4 l4 p4 vc rc
          cases eb4 : wb.dat ρ4 with
          | none => simp only [eb4] at p4; exact p4.elim
          | some db4 =>
            cases ec4 : wc.dat ρ4 with
            | none => simp only [eb4, ec4] at p4; exact p4.elim
            | some dc4 =>
              simp only [eb4, ec4] at p4
              cases ek2 : boolP (g' db4 dc4) with
              | none => simp only [ek2] at p4; exact p4.elim
              | some k2 =>
                simp only [ek2] at p4
                refine mid_bool hp' en4.hp (((rb.mono n3.fle).mono e4.fle).read en4 eb4) (rc.read en4 ec4) ek2 fun F5 H5 n5 k5 => ⟨k2, rfl, ?_⟩
                have en5 := en4.new n5 k5
                cases k2 with
                | false => exact p4 F5 H5 n5.ext en5 (fun _ z => z) _ (repW_val rep_bl)
                | true =>
                  refine tE_nrm en5 ((RPost.bind p4).mono3 n5 ?_)
                  intro wd ρ6 F6 H6 e6 en6 l6 p6 vd rd
                  cases ec6 : wc.dat ρ6 with
                  | none => simp only [ec6] at p6; exact p6.elim
                  | some dc6 =>
                    cases ed6 : wd.dat ρ6 with
                    | none => simp only [ec6, ed6] at p6; exact p6.elim
                    | some dd6 =>
                      simp only [ec6, ed6] at p6
                      obtain ⟨p', eg, q⟩ := out_post (fun a z => e6.live a (n5.live a (e4.live a (n3.live a (e2.live a (e1.live a z)))))) en6 p6
                      exact hp'' F6 H6 vc vd dc6 dd6 p' Q en6.hp (((rc.mono n5.fle).mono e6.fle).read en6 ec6) (rd.read en6 ed6) eg q
theorem pd_ch2 {op op' : CmpOp} {r r' : Cx → R2} {g g' : D → D → Option P1} (ho : ∀ X Wx, Cok X C Wx → OpR X (compareOp op) (r X)) (hp : ∀ X Wx, Cok X C Wx → Prim2 C.G (r X) g) (ho' : ∀ X Wx, Cok X C Wx → OpR X (compareOp op') (r' X)) (hp' : ∀ X Wx, Cok X C Wx → Prim2 C.G (r' X) g')
    (ha : PD C a fa) (hb : PD C b fb) (hc : PD C c fc) (hm : lastMarks [op, op'] [b, c] = false) : PD C (.Compare a [op, op'] [b, c] pos) (eCh2 g g' fa fb fc) := fun X Wx ok =>
  PE.to (pe_chain (ho X Wx ok) (ho' X Wx ok) (ha X Wx ok) (hb X Wx ok) (hc X Wx ok) hm) fun σ H Q h => ch2_core (hp X Wx ok) (hp' X Wx ok) h
theorem pdt_ch2 {op op' : CmpOp} {r r' : Cx → R2} {g g' : D → D → Option P1} (ho : ∀ X Wx, Cok X C Wx → OpR X (compareOp op) (r X)) (hp : ∀ X Wx, Cok X C Wx → Prim2 C.G (r X) g) (ho' : ∀ X Wx, Cok X C Wx → OpR X (compareOp op') (r' X)) (hp' : ∀ X Wx, Cok X C Wx → Prim2 C.G (r' X) g')
    (ha : PD C a fa) (hb : PD C b fb) (hc : PD C c fc) (hm : lastMarks [op, op'] [b, c] = false) : PDT C (.Compare a [op, op'] [b, c] pos) (tstB (eCh2 g g' fa fb fc)) := fun X Wx ok =>
  PT.to (pt_chain (ho X Wx ok) (ho' X Wx ok) (ha X Wx ok) (hb X Wx ok) (hc X Wx ok) hm) fun σ H Q h => ch2_core (hp X Wx ok) (hp' X Wx ok) (bool_core h)
theorem pd_ch3 {op op' op'' : CmpOp} {r r' r'' : Cx → R2} {g g' g'' : D → D → Option P1} (ho : ∀ X Wx, Cok X C Wx → OpR X (compareOp op) (r X)) (hp : ∀ X Wx, Cok X C Wx → Prim2 C.G (r X) g) (ho' : ∀ X Wx, Cok X C Wx → OpR X (compareOp op') (r' X)) (hp' : ∀ X Wx, Cok X C Wx → Prim2 C.G (r' X) g')
    (ho'' : ∀ X Wx, Cok X C Wx → OpR X (compareOp op'') (r'' X)) (hp'' : ∀ X Wx, Cok X C Wx → Prim2 C.G (r'' X) g'') (ha : PD C a fa) (hb : PD C b fb) (hc : PD C c fc) (hd : PD C d fd) (hm : lastMarks [op, op', op''] [b, c, d] = false) : PD C (.Compare a [op, op', op''] [b, c, d] pos) (eCh3 g g' g'' fa fb fc fd) := fun X Wx ok =>
  PE.to (pe_chain3 (ho X Wx ok) (ho' X Wx ok) (ho'' X Wx ok) (ha X Wx ok) (hb X Wx ok) (hc X Wx ok) (hd X Wx ok) hm) fun σ H Q h => ch3_core (hp X Wx ok) (hp' X Wx ok) (hp'' X Wx ok) h
end

/-! ### subscripts -/
def ixD : D → D → Option P1
  | .list xs, .int i => match atI xs i with
    | some d => some (.fz d)
    | none => none
  | .tuple xs, .int i => match atI xs i with
    | some d => some (.fz d)
    | none => none
  | .str x, .int i => match atI x.cps.toList i with
    | some c => if PyData.strOk ⟨#[c]⟩ = true then some (.fz (.str ⟨#[c]⟩)) else none
    | none => none
  | _, _ => none
theorem reps_atI {K : PySem.W.Frag} {F : Hp} {ds : List D} {vs : List V} {i : Int} {d : D} (r : Reps K F ds vs) (e : atI ds i = some d) : ∃ v, atI vs i = some v ∧ Rep K F d v := by
  unfold atI at e ⊢
  rw [r.len]
  cases q : ixN ds.length i with
  | none => rw [q] at e; cases e
  | some j =>
    rw [q] at e
    have e : ds[j]? = some d := e
    obtain ⟨v, h1, h2⟩ := r.get e
    exact ⟨v, h1, h2⟩
theorem pr_ix {G : GG} {K : PySem.W.Frag} (hK : K = G.K) : Prim2 G (rIx K) ixD := by
  subst hK
  intro F H x y a b p Q ok ra rb e q
  cases a <;> cases b <;> try (simp [ixD] at e; done)
  · rename_i z i
    obtain ⟨rfl, h1, h2⟩ := repC_str ra
    obtain rfl := repC_int rb
    simp only [ixD] at e
    split at e
    · rename_i c hc
      split at e
      · rename_i ho
        cases e
        exact .inr (.inr ⟨z, i, c, rfl, rfl, h1, hc, q _ F H New.refl ok (res_sc (rep_str (by show 1 ≤ sizeLine; decide) ho))⟩)
      · cases e
    · cases e
  · rename_i xs i
    obtain ⟨l, vs, rfl, h1, z1, r1⟩ := repC_lst ra
    obtain rfl := repC_int rb
    simp only [ixD] at e
    split at e
    · rename_i d hd
      cases e
      obtain ⟨v, hv, rv⟩ := reps_atI r1 hd
      exact .inl ⟨l, vs, i, v, rfl, rfl, SqL.of h1, hv, q _ F H New.refl ok (res_sc rv)⟩
    · cases e
  · rename_i xs i
    obtain ⟨l, vs, rfl, h1, z1, r1⟩ := repC_tup ra
    obtain rfl := repC_int rb
    simp only [ixD] at e
    split at e
    · rename_i d hd
      cases e
      obtain ⟨v, hv, rv⟩ := reps_atI r1 hd
      exact .inr (.inl ⟨l, vs, i, v, rfl, rfl, Same.sqT ok.sub h1, hv, q _ F H New.refl ok (res_sc rv)⟩)
    · cases e
section
variable {C : Ct} {a b : Expr} {fa fb : Env → R W} {pos : Pos}
theorem pd_ix (ha : PD C a fa) (hb : PD C b fb) (hs : PlainIx b) : PD C (.Subscript a b pos) (eBin ixD fa fb) := fun X Wx ok =>
  PE.to (pe_ix ix_seq (ha X Wx ok) (hb X Wx ok) hs) fun σ H Q h => bin_core (pr_ix ok.K) h
end

/-! ### slices -/
def cutD (xs : List D) (lo hi : Option Int) : List D := (xs.drop (HT.sIx xs.length 0 lo)).take (HT.sIx xs.length xs.length hi - HT.sIx xs.length 0 lo)
theorem reps_cut {K : PySem.W.Frag} {F : Hp} {ds : List D} {vs : List V} (lo hi : Option Int) (r : Reps K F ds vs) : Reps K F (cutD ds lo hi) (cutV vs lo hi) := by
  unfold cutD cutV
  rw [r.len]
  exact (r.drop _).take _
def slD (a : D) (lo hi : Option Int) : Option P1 := match a with
  | .list xs => some (.fl (cutD xs lo hi))
  | .tuple xs => some (.fz (.tuple (cutD xs lo hi)))
  | .str x => if PyData.strOk (cutS x lo hi) = true then some (.fz (.str (cutS x lo hi))) else none
  | _ => none
def oNone : Env → R (Option Int) := fun ρ => .ok none ρ
def oSome (f : Env → R W) : Env → R (Option Int) := fun ρ => (eNrm f ρ).bind fun w ρ1 => match w.dat ρ1 with
  | some (.int i) => .ok (some i) ρ1
  | _ => .bad
def eSl (fa : Env → R W) (fl fh : Env → R (Option Int)) : Env → R W := fun ρ => (eNrm fa ρ).bind fun wa ρ1 => (fl ρ1).bind fun lo ρ2 => (fh ρ2).bind fun hi ρ3 => match wa.dat ρ3 with
  | some a => outP (slD a lo hi) ρ3
  | none => .bad
def tO (G : GG) (Wx : WX) (f : Env → R (Option Int)) : TO := fun σ H Q => ∃ T F ρ, EnvOk G T F H σ ρ ∧ RPost G T Wx F H σ ρ (fun o _ _ H' => Q o H') (f ρ)
def PDO (C : Ct) (o : Option Expr) (f : Env → R (Option Int)) : Prop := ∀ (X : Cx) (Wx : WX), Cok X C Wx → PO X o (tO C.G Wx f)
theorem PO.to {X : Cx} {o : Option Expr} {t t' : TO} (h : PO X o t) (i : ∀ σ H Q, t' σ H Q → t σ H Q) : PO X o t' := ⟨fun pins s σ H Q I q => h.run pins s σ H Q I (i σ H Q q)⟩
section
variable {C : Ct} {a : Expr} {lo hi : Option Expr} {fa : Env → R W} {fl fh : Env → R (Option Int)} {pos p2 : Pos}
theorem pdo_none : PDO C none oNone := fun X Wx ok => PO.to po_none fun σ H Q ⟨T, F, ρ, en, p⟩ => RPost.here en p
theorem pdo_some (h : PD C a fa) : PDO C (some a) (oSome fa) := fun X Wx ok => by
  refine PO.to (po_some (h X Wx ok)) fun σ H Q ⟨T, F, ρ, en, p⟩ => ?_
  refine tE_nrm en ((RPost.bind p).imp fun w ρ1 F1 H1 e1 en1 l1 p1 v rv => ?_)
  cases ew : w.dat ρ1 with
  | none => simp only [ew] at p1; exact p1.elim
  | some d =>
    cases d with
    | int i =>
      simp only [ew] at p1
      exact ⟨i, repC_int (rv.read en1 ew), RPost.here en1 p1⟩
    | none => simp only [ew] at p1; exact p1.elim
    | bool b => simp only [ew] at p1; exact p1.elim
    | str x => simp only [ew] at p1; exact p1.elim
    | list xs => simp only [ew] at p1; exact p1.elim
    | tuple xs => simp only [ew] at p1; exact p1.elim
    | dict kvs => simp only [ew] at p1; exact p1.elim
abbrev rSlAll (K : PySem.W.Frag) : V → Option Int → Option Int → Hp → VK → Prop := fun x lo hi H Q => rSlL K x lo hi H Q ∨ rSlA K x lo hi H Q ∨ rSlS x lo hi H Q
theorem pr_sl {G : GG} {K : PySem.W.Frag} (hK : K = G.K) {F H : Hp} {x : V} {a : D} {lo hi : Option Int} {p : P1} {Q : VK} (ok : HpOk G F H) (ra : RepC G.K F H a x) (e : slD a lo hi = some p)
    (q : ∀ v F' H', New F H F' H' → HpOk G F' H' → Res G.K F' H H' v p → Q v H') : rSlAll K x lo hi H Q := by
  subst hK
  cases a <;> try (simp [slD] at e; done)
  · rename_i z
    obtain ⟨rfl, h1, h2⟩ := repC_str ra
    simp only [slD] at e
    split at e
    · rename_i ho
      cases e
      exact .inr (.inr ⟨z, rfl, h1, q _ F H New.refl ok (res_sc (rep_str (Nat.le_trans (cutS_length z _ _) h1) ho))⟩)
    · cases e
  · rename_i xs
    obtain ⟨l, vs, rfl, h1, z1, r1⟩ := repC_lst ra
    cases e
    refine .inl ⟨l, vs, rfl, SqL.of h1, fun p hp => ?_⟩
    obtain ⟨n, k, r⟩ := new_lst ok (Nat.le_trans (cutV_length vs lo hi) z1) (reps_cut lo hi r1) hp
    exact q _ _ _ n k r
  · rename_i xs
    obtain ⟨l, vs, rfl, h1, z1, r1⟩ := repC_tup ra
    cases e
    refine .inr (.inl ⟨l, vs, rfl, Same.sqT ok.sub h1, fun w => ?_, fun _ p hp => ?_⟩)
    · have e : cutD xs lo hi = xs := by
        unfold cutD
        rw [← r1.len, w.1, w.2, r1.len]
        simp
      rw [e] at q
      exact q _ F H New.refl ok (res_sc (by rw [Rep]; exact ⟨l, vs, rfl, h1, z1, r1⟩))
    · obtain ⟨n, k, r⟩ := new_tup ok (Nat.le_trans (cutV_length vs lo hi) z1) (reps_cut lo hi r1) hp
      exact q _ _ _ n k (res_fz r)
theorem pd_sl (ha : PD C a fa) (hl : PDO C lo fl) (hh : PDO C hi fh) : PD C (.Subscript a (.Slice lo hi none p2) pos) (eSl fa fl fh) := fun X Wx ok => by
  refine PE.to (pe_slice (r := rSlAll X.K) (sl_list.or (sl_tupA.or sl_str)) (ha X Wx ok) (hl X Wx ok) (hh X Wx ok)) fun σ H Q ⟨T, F, ρ, en, p⟩ => ?_
  refine tE_nrm en ((RPost.bind p).imp fun wa ρ1 F1 H1 e1 en1 l1 p1 v rv => ⟨T, F1, ρ1, en1, ?_⟩)
  refine (RPost.bind p1).imp fun l ρ2 F2 H2 e2 en2 l2 p2 => ⟨T, F2, ρ2, en2, ?_⟩
  refine (RPost.bind p2).imp fun u ρ3 F3 H3 e3 en3 l3 p3 => ?_
  cases ea : wa.dat ρ3 with
  | none => simp only [ea] at p3; exact p3.elim
  | some da =>
    simp only [ea] at p3
    obtain ⟨p', eg, q⟩ := out_post (fun a z => e3.live a (e2.live a (e1.live a z))) en3 p3
    exact pr_sl ok.K en3.hp (((rv.mono e2.fle).mono e3.fle).read en3 ea) eg q
end

/-! ### the usual built-ins -/
theorem repCs_one {K : PySem.W.Frag} {F H : Hp} {ds : List D} {vs : List V} {d : D} (h : RepCs K F H ds vs) (e : ds = [d]) : ∃ v, vs = [v] ∧ RepC K F H d v := by
  subst e
  obtain ⟨v, r, rfl, h1, h2⟩ := h
  have h2 : r = [] := h2
  subst h2
  exact ⟨v, rfl, h1⟩
theorem repCs_two {K : PySem.W.Frag} {F H : Hp} {ds : List D} {vs : List V} {d e : D} (h : RepCs K F H ds vs) (q : ds = [d, e]) : ∃ v u, vs = [v, u] ∧ RepC K F H d v ∧ RepC K F H e u := by
  subst q
  obtain ⟨v, r, rfl, h1, h2⟩ := h
  obtain ⟨u, rfl, h3⟩ := repCs_one h2 rfl
  exact ⟨v, u, rfl, h1, h3⟩
def lenD : List D → Option P1
  | [.list xs] => some (.fz (.int xs.length))
  | [.tuple xs] => some (.fz (.int xs.length))
  | [.str x] => some (.fz (.int x.length))
  | _ => none
abbrev rLenA (K : PySem.W.Frag) : List V → Hp → VK → Prop := fun xs H Q => (∃ p ys, xs = [.ref p] ∧ (SqL K H p ys ∨ SqT K H p ys) ∧ Q (.int ys.length) H) ∨ (∃ z, xs = [.str z] ∧ z.length ≤ sizeLine ∧ Q (.int z.length) H)
theorem call_lenA {X : Cx} : CallR X (.builtin "len") (rLenA X.K) := call_len_seq.or call_len_str
theorem pr_len {G : GG} {K : PySem.W.Frag} (hK : K = G.K) : PrimN G (rLenA K) lenD := by
  subst hK
  intro F H vs ds p Q ok ra e q
  unfold lenD at e
  split at e <;> try (cases e; done)
  · rename_i xs
    cases e
    obtain ⟨v, rfl, r⟩ := repCs_one ra rfl
    obtain ⟨l, us, rfl, h1, z1, r1⟩ := repC_lst r
    refine .inl ⟨l, us, rfl, .inl (SqL.of h1), ?_⟩
    rw [r1.len]
    exact q _ F H New.refl ok (res_sc rep_int)
  · rename_i xs
    cases e
    obtain ⟨v, rfl, r⟩ := repCs_one ra rfl
    obtain ⟨l, us, rfl, h1, z1, r1⟩ := repC_tup r
    refine .inl ⟨l, us, rfl, .inr (Same.sqT ok.sub h1), ?_⟩
    rw [r1.len]
    exact q _ F H New.refl ok (res_sc rep_int)
  · rename_i x
    cases e
    obtain ⟨v, rfl, r⟩ := repCs_one ra rfl
    obtain ⟨rfl, h1, _⟩ := repC_str r
    exact .inr ⟨x, rfl, h1, q _ F H New.refl ok (res_sc rep_int)⟩
def absD : List D → Option P1
  | [.int i] => some (.fz (.int (if i < 0 then -i else i)))
  | _ => none
theorem pr_abs {G : GG} : PrimN G (fun xs H Q => ∃ i, xs = [.int i] ∧ Q (.int (if i < 0 then -i else i)) H) absD := by
  intro F H vs ds p Q ok ra e q
  unfold absD at e
  split at e <;> try (cases e; done)
  cases e
  obtain ⟨v, rfl, r⟩ := repCs_one ra rfl
  obtain rfl := repC_int r
  exact ⟨_, rfl, q _ F H New.refl ok (res_sc rep_int)⟩
def intD : List D → Option P1
  | [.int i] => some (.fz (.int i))
  | [.bool b] => some (.fz (.int (if b then 1 else 0)))
  | _ => none
theorem pr_intC {G : GG} : PrimN G (fun xs H Q => (∃ i, xs = [.int i] ∧ Q (.int i) H) ∨ ∃ k, xs = [.bl k] ∧ Q (.int (if k then 1 else 0)) H) intD := by
  intro F H vs ds p Q ok ra e q
  unfold intD at e
  split at e <;> try (cases e; done)
  · cases e
    obtain ⟨v, rfl, r⟩ := repCs_one ra rfl
    obtain rfl := repC_int r
    exact .inl ⟨_, rfl, q _ F H New.refl ok (res_sc rep_int)⟩
  · cases e
    obtain ⟨v, rfl, r⟩ := repCs_one ra rfl
    obtain rfl := repC_bl r
    exact .inr ⟨_, rfl, q _ F H New.refl ok (res_sc rep_int)⟩
def max2D : List D → Option P1
  | [.int i, .int j] => some (.fz (.int (max i j)))
  | _ => none
def min2D : List D → Option P1
  | [.int i, .int j] => some (.fz (.int (min i j)))
  | _ => none
theorem pr_max2 {G : GG} : PrimN G (fun xs H Q => ∃ i j, xs = [.int i, .int j] ∧ Q (.int (if j > i then j else i)) H) max2D := by
  intro F H vs ds p Q ok ra e q
  unfold max2D at e
  split at e <;> try (cases e; done)
  rename_i i j
  cases e
  obtain ⟨v, u, rfl, r1, r2⟩ := repCs_two ra rfl
  obtain rfl := repC_int r1
  obtain rfl := repC_int r2
  refine ⟨_, _, rfl, ?_⟩
  have e : (if j > i then j else i) = max i j := by split <;> omega
  rw [e]
  exact q _ F H New.refl ok (res_sc rep_int)
theorem pr_min2 {G : GG} : PrimN G (fun xs H Q => ∃ i j, xs = [.int i, .int j] ∧ Q (.int (if j < i then j else i)) H) min2D := by
  intro F H vs ds p Q ok ra e q
  unfold min2D at e
  split at e <;> try (cases e; done)
  rename_i i j
  cases e
  obtain ⟨v, u, rfl, r1, r2⟩ := repCs_two ra rfl
  obtain rfl := repC_int r1
  obtain rfl := repC_int r2
  refine ⟨_, _, rfl, ?_⟩
  have e : (if j < i then j else i) = min i j := by split <;> omega
  rw [e]
  exact q _ F H New.refl ok (res_sc rep_int)
def tupleD : List D → Option P1
  | [.list xs] => some (.fz (.tuple xs))
  | [.tuple xs] => some (.fz (.tuple xs))
  | _ => none
theorem pr_tuple {G : GG} {K : PySem.W.Frag} (hK : K = G.K) : PrimN G (fun xs H Q => ∃ p ys, xs = [.ref p] ∧ ((SqL K H p ys ∧ ∀ l, H l = none → Q (.ref l) (upd H l (.tup ys))) ∨ (SqT K H p ys ∧ Q (.ref p) H))) tupleD := by
  subst hK
  intro F H vs ds p Q ok ra e q
  unfold tupleD at e
  split at e <;> try (cases e; done)
  · rename_i xs
    cases e
    obtain ⟨v, rfl, r⟩ := repCs_one ra rfl
    obtain ⟨l, us, rfl, h1, z1, r1⟩ := repC_lst r
    refine ⟨l, us, rfl, .inl ⟨SqL.of h1, fun p hp => ?_⟩⟩
    obtain ⟨n, k, r⟩ := new_tup ok z1 r1 hp
    exact q _ _ _ n k (res_fz r)
  · rename_i xs
    cases e
    obtain ⟨v, rfl, r⟩ := repCs_one ra rfl
    obtain ⟨l, us, rfl, h1, z1, r1⟩ := repC_tup r
    exact ⟨l, us, rfl, .inr ⟨Same.sqT ok.sub h1, q _ F H New.refl ok (res_sc (by rw [Rep]; exact ⟨l, us, rfl, h1, z1, r1⟩))⟩⟩
def listD : List D → Option P1
  | [.list xs] => some (.fl xs)
  | [.tuple xs] => some (.fl xs)
  | _ => none
theorem pr_list {G : GG} {K : PySem.W.Frag} (hK : K = G.K) : PrimN G (fun xs H Q => ∃ p ys, xs = [.ref p] ∧ (SqL K H p ys ∨ SqT K H p ys) ∧ ∀ l, H l = none → Q (.ref l) (upd H l (.lst ys))) listD := by
  subst hK
  intro F H vs ds p Q ok ra e q
  unfold listD at e
  split at e <;> try (cases e; done)
  · rename_i xs
    cases e
    obtain ⟨v, rfl, r⟩ := repCs_one ra rfl
    obtain ⟨l, us, rfl, h1, z1, r1⟩ := repC_lst r
    refine ⟨l, us, rfl, .inl (SqL.of h1), fun p hp => ?_⟩
    obtain ⟨n, k, r⟩ := new_lst ok z1 r1 hp
    exact q _ _ _ n k r
  · rename_i xs
    cases e
    obtain ⟨v, rfl, r⟩ := repCs_one ra rfl
    obtain ⟨l, us, rfl, h1, z1, r1⟩ := repC_tup r
    refine ⟨l, us, rfl, .inr (Same.sqT ok.sub h1), fun p hp => ?_⟩
    obtain ⟨n, k, r⟩ := new_lst ok z1 r1 hp
    exact q _ _ _ n k r
def gcdD : List D → Option P1
  | [.int i, .int j] => some (.fz (.int ((Nat.gcd i.natAbs j.natAbs : Nat) : Int)))
  | _ => none
theorem pr_gcd {G : GG} : PrimN G rGcd gcdD := by
  intro F H vs ds p Q ok ra e q
  unfold gcdD at e
  split at e <;> try (cases e; done)
  cases e
  obtain ⟨v, u, rfl, r1, r2⟩ := repCs_two ra rfl
  obtain rfl := repC_int r1
  obtain rfl := repC_int r2
  exact ⟨_, _, rfl, q _ F H New.refl ok (res_sc rep_int)⟩
/-- data that are ints -/
def intsD : List D → Option (List Int)
  | [] => some []
  | .int i :: ds => match intsD ds with
    | some ns => some (i :: ns)
    | none => none
  | _ :: _ => none
theorem intsD_map : ∀ (ns : List Int), intsD (ns.map PyData.int) = some ns
  | [] => rfl
  | n :: ns => by rw [List.map_cons, intsD, intsD_map ns]
theorem reps_ints {K : PySem.W.Frag} {F : Hp} : ∀ {ds : List D} {vs : List V} {ns : List Int}, Reps K F ds vs → intsD ds = some ns → vs = ns.map V.int
  | [], vs, ns, r, e => by
    cases e
    rw [Reps] at r
    exact r
  | d :: ds, vs, ns, r, e => by
    obtain ⟨v, t, rfl, r1, r2⟩ := reps_cons_inv r
    cases d <;> try (simp [intsD] at e; done)
    rename_i i
    rw [intsD] at e
    cases q : intsD ds with
    | none => rw [q] at e; cases e
    | some ms =>
      rw [q] at e
      cases e
      rw [Rep] at r1
      subst r1
      rw [reps_ints r2 q]
      rfl
theorem ints_reps {K : PySem.W.Frag} {F : Hp} : ∀ (ns : List Int), Reps K F (ns.map PyData.int) (ns.map V.int)
  | [] => reps_nil
  | n :: ns => reps_cons (by rw [Rep]) (ints_reps ns)
def sumD : List D → Option P1
  | [.list ds] => match intsD ds with
    | some ns => some (.fz (.int ns.sum))
    | none => none
  | _ => none
theorem pr_sum {G : GG} {K : PySem.W.Frag} (hK : K = G.K) : PrimN G (rSum K) sumD := by
  subst hK
  intro F H vs ds p Q ok ra e q
  unfold sumD at e
  split at e <;> try (cases e; done)
  rename_i xs
  cases ei : intsD xs with
  | none => rw [ei] at e; cases e
  | some ns =>
    rw [ei] at e
    cases e
    obtain ⟨v, rfl, r⟩ := repCs_one ra rfl
    obtain ⟨l, us, rfl, h1, z1, r1⟩ := repC_lst r
    rw [reps_ints r1 ei] at h1
    exact ⟨l, ns, rfl, SqL.of h1, q _ F H New.refl ok (res_sc rep_int)⟩
def sortI (ns : List Int) : List Int := ns.mergeSort fun a b => decide (a ≤ b)
theorem sortI_perm (ns : List Int) : (sortI ns).Perm ns := List.mergeSort_perm _ _
theorem sortI_sorted (ns : List Int) : (sortI ns).Pairwise (· ≤ ·) := by
  have h := List.pairwise_mergeSort (le := fun a b : Int => decide (a ≤ b)) (fun a b c h1 h2 => by simp at *; omega) (fun a b => by simp; omega) ns
  exact h.imp fun {a b} h => by simpa using h
theorem sorted_eq : ∀ {xs ys : List Int}, xs.Perm ys → xs.Pairwise (· ≤ ·) → ys.Pairwise (· ≤ ·) → xs = ys := fun {xs ys} h1 h2 h3 => by
  exact h1.eq_of_pairwise (fun a b _ _ h4 h5 => by omega) h2 h3
def sortedD : List D → Option P1
  | [.list ds] => match intsD ds with
    | some ns => some (.fl ((sortI ns).map PyData.int))
    | none => none
  | _ => none
theorem pr_sorted {G : GG} {K : PySem.W.Frag} (hK : K = G.K) : PrimN G (rSortedI K) sortedD := by
  subst hK
  intro F H vs ds p Q ok ra e q
  unfold sortedD at e
  split at e <;> try (cases e; done)
  rename_i xs
  cases ei : intsD xs with
  | none => rw [ei] at e; cases e
  | some ns =>
    rw [ei] at e
    cases e
    obtain ⟨v, rfl, r⟩ := repCs_one ra rfl
    obtain ⟨l, us, rfl, h1, z1, r1⟩ := repC_lst r
    have eu := reps_ints r1 ei
    rw [eu] at h1 z1
    refine ⟨l, ns, rfl, SqL.of h1, fun ns' p hperm hsort hp => ?_⟩
    have es : ns' = sortI ns := sorted_eq (hperm.trans (sortI_perm ns).symm) hsort (sortI_sorted ns)
    subst es
    have hl : ((sortI ns).map V.int).length ≤ sizeLine := by
      rw [List.length_map, (sortI_perm ns).length_eq]
      rw [List.length_map] at z1
      exact z1
    obtain ⟨n, k, r⟩ := new_lst ok hl (ints_reps (sortI ns)) hp
    exact q _ _ _ n k r

/-! ### isinstance against a built-in type -/
def tyD : D → String
  | .none => "NoneType"
  | .bool _ => "bool"
  | .int _ => "int"
  | .str _ => "str"
  | .list _ => "list"
  | .tuple _ => "tuple"
  | .dict _ => "dict"
def isiD (Tn : String) (d : D) : Bool := tyD d == Tn || (tyD d == "bool" && Tn == "int")
theorem tyX_of {G : GG} {F H : Hp} {d : D} {v : V} (ok : HpOk G F H) (r : RepC G.K F H d v) (hd : ∀ kvs, d ≠ .dict kvs) : TyX G.K H v (.type (tyD d)) := by
  cases d with
  | none => obtain rfl := repC_non r; exact .base .non
  | bool b => obtain rfl := repC_bl r; exact .base (.bl b)
  | int i => obtain rfl := repC_int r; exact .base (.int i)
  | str x => obtain ⟨rfl, _⟩ := repC_str r; exact .base (.str x)
  | list xs =>
    obtain ⟨l, vs, rfl, h1, _⟩ := repC_lst r
    exact .base (.lst h1)
  | tuple xs =>
    obtain ⟨l, vs, rfl, h1, _⟩ := repC_tup r
    rcases Same.sqT ok.sub h1 with (h | ⟨o, h⟩) | ⟨o, its, n, h, hc, _⟩
    · exact .base (.tup h)
    · exact .fTuple h
    · exact .kTuple h hc
  | dict kvs => exact absurd rfl (hd kvs)
def kitOkB (Tn : String) : Bool := ["NoneType", "bool", "int", "str", "list", "tuple"].all fun t => kitB t Tn == some (t == Tn || (t == "bool" && Tn == "int"))
theorem kit_at {Tn : String} (h : kitOkB Tn = true) {d : D} (hd : ∀ kvs, d ≠ .dict kvs) : kitB (tyD d) Tn = some (isiD Tn d) := by
  unfold kitOkB at h
  simp only [List.all_cons, List.all_nil, Bool.and_true, Bool.and_eq_true, beq_iff_eq] at h
  obtain ⟨h1, h2, h3, h4, h5, h6⟩ := h
  cases d with
  | none => exact h1
  | bool b => exact h2
  | int i => exact h3
  | str x => exact h4
  | list xs => exact h5
  | tuple xs => exact h6
  | dict kvs => exact absurd rfl (hd kvs)
def eIsi (Tn : String) (fa : Env → R W) : Env → R W := fun ρ => (eNrm fa ρ).bind fun w ρ1 => match w.dat ρ1 with
  | some d => .ok (.val (.bool (isiD Tn d))) ρ1
  | none => .bad
theorem pd_isi {C : Ct} {a : Expr} {fa : Env → R W} {Tn : String} {x : Str} {p p2 pos : Pos} (hg : glB C.sc "isinstance" = true) (hm : C.G.mg "isinstance" = none) (hx : glB C.sc x = true) (hmx : C.G.mg x = none) (hv : bootBuiltins x = some (.type Tn)) (hk : kitOkB Tn = true)
    (ha : PD C a fa) (he : ∀ env, starEach [a, .Name x p2] env = (false, eval a env) :: starEach [.Name x p2] env := by intro _; rfl) : PD C (.Call (.Name "isinstance" p) [a, .Name x p2] [] pos) (eIsi Tn fa) := fun X Wx ok => by
  refine PE.to (pe_callB call_isi (ok.gl hg) (by rw [ok.mg]; exact hm) (by decide +kernel : bootBuiltins "isinstance" = some (.builtin "isinstance"))
    (pa_cons (ha X Wx ok) (pa_cons (pe_bltn (v := .ty Tn) (ok.gl hx) (by rw [ok.mg]; exact hmx) hv rfl (glB_spec hx).2.2 (glB_spec hx).2.1) pa_nil) (he _)) (by decide) (by decide) (he _)) fun σ H Q ⟨T, F, ρ, en, pp⟩ => ?_
  refine tE_nrm en ((RPost.bind pp).imp fun w ρ1 F1 H1 e1 en1 l1 p1 v rv => ?_)
  cases ew : w.dat ρ1 with
  | none => simp only [ew] at p1; exact p1.elim
  | some d =>
    simp only [ew] at p1
    have rc := rv.read en1 ew
    have hd : ∀ kvs, d ≠ .dict kvs := fun kvs e => by
      subst e
      have z := rc.rep' en1.hp
      rw [Rep] at z
      exact z
    refine ⟨v, .ty Tn, .type (tyD d), .type Tn, isiD Tn d, rfl, .ty Tn, ?_, kit_ty (kit_at hk hd), RPost.here en1 p1 _ (repW_val rep_bl)⟩
    rw [ok.K]
    exact tyX_of en1.hp rc hd
end PL
end
section
set_option Elab.async false
set_option linter.all false
set_option maxRecDepth 100000
set_option maxHeartbeats 2000000
set_option autoImplicit false
/-! What loops walk; targets; statements. -/
namespace PL
open PySem PySem.Spec PyProof.Rows L2

/-! ### what loops walk -/
/-- J yields the items ds, whatever else is laid -/
structure Feeds (G : GG) (J : It) (F : Hp) (ds : List D) : Prop where
  go : ∀ (i : Nat) (F' H' : Hp), Same F F' → HpOk G F' H' → i < ds.length → J.go i H'
  yld : ∀ (i : Nat) (d : D) (F' H' : Hp) (x : V) (H'' : Hp), Same F F' → HpOk G F' H' → ds[i]? = some d → J.yld i H' x H'' → ∃ F'', New F' H' F'' H'' ∧ HpOk G F'' H'' ∧ Rep G.K F'' d x
  stop : ∀ (i : Nat) (F' H' : Hp), Same F F' → HpOk G F' H' → ds.length ≤ i → J.stop i H'
section
variable {G : GG} {F : Hp}
theorem feeds_range (lo : Int) (n : Nat) : Feeds G (Itr lo n) F ((List.range n).map fun k => PyData.int (lo + (k : Nat))) where
  go := fun i F' H' s ok h => by
    have h : i < n := by simpa using h
    exact h
  yld := fun i d F' H' x H'' s ok h y => by
    obtain ⟨rfl, rfl⟩ := y
    have hd : d = .int (lo + (i : Nat)) := by
      rw [List.getElem?_map] at h
      cases e : (List.range n)[i]? with
      | none => rw [e] at h; cases h
      | some k =>
        rw [e] at h
        obtain ⟨_, e2⟩ := List.getElem?_eq_some_iff.mp e
        rw [List.getElem_range] at e2
        subst e2
        exact (Option.some.inj h).symm
    subst hd
    exact ⟨F', New.refl, ok, rep_int⟩
  stop := fun i F' H' s ok h => by
    have h : n ≤ i := by simpa using h
    exact h
end
/-- the readings of sources -/
def tI (G : GG) (Wx : WX) (f : Env → R (List D)) : TI := fun σ H Rr => ∃ T F ρ, EnvOk G T F H σ ρ ∧ RPost G T Wx F H σ ρ (fun ds _ F' H' => ∀ J, Feeds G J F' ds → Rr J H') (f ρ)
def PDI (C : Ct) (tg e : Expr) (f : Env → R (List D)) : Prop := ∀ (X : Cx) (Wx : WX), Cok X C Wx → PI X tg e (tI C.G Wx f)
theorem PI.to {X : Cx} {tg e : Expr} {t t' : TI} (h : PI X tg e t) (i : ∀ σ H Rr, t' σ H Rr → t σ H Rr) : PI X tg e t' := ⟨fun pins s σ H Rr I q => h.run pins s σ H Rr I (i σ H Rr q)⟩

/-- a list or a tuple -/
def iSeq (K : PySem.W.Frag) (tl : TE) : TI := fun σ H R => tl σ H fun x H1 => ∃ a, x = .ref a ∧ ((∃ xs, SqL K H1 a xs ∧ R (Itl K a) H1) ∨ (∃ xs, SqT K H1 a xs ∧ R (Itt K a) H1))
theorem pi_seq {X : Cx} {tg l : Expr} {tl : TE} (hl : PE X l tl) : PI X tg l (iSeq X.K tl) := by
  refine ⟨fun pins s σ H R I h => ?_⟩
  refine thn (hl.run pins s σ H _ I h) fun v s1 ⟨x, H1, I1, r1, q1⟩ => ?_
  obtain ⟨a, e, q⟩ := q1
  subst e
  cases r1
  rcases q with ⟨xs, hq, q⟩ | ⟨xs, hq, q⟩
  · obtain ⟨its, rv, p, hz⟩ := I1.list hq
    refine wpAny_pyIter_list p.isList ?_
    refine ⟨s1.heap.objs.size, [s1.heap.objs.size], _, _, H1, rfl, I1.kept (t' := s1.toks) fun b o e => Heap.get?_push_of_some _ e, turn_list a _, ⟨_, Heap.get?_push_size _ rfl, rfl, rfl⟩, fun b hb => ?_, q⟩
    have e : b = s1.heap.objs.size := by simpa using hb
    subst e
    exact I1.fpOk (Nat.le_refl _) (I1.hok.fresh (Nat.le_refl _))
  · obtain ⟨its, rv, p, hz⟩ := I1.tuple hq
    refine wpAny_pyIter_tuple (show s1.heap.IsTuple a its.toArray from p) ?_
    refine ⟨s1.heap.objs.size, [s1.heap.objs.size], _, _, H1, rfl, I1.kept (t' := s1.toks) fun b o e => Heap.get?_push_of_some _ e, turn_tuple a _, ⟨_, Heap.get?_push_size _ rfl, rfl, rfl⟩, fun b hb => ?_, q⟩
    have e : b = s1.heap.objs.size := by simpa using hb
    subst e
    exact I1.fpOk (Nat.le_refl _) (I1.hok.fresh (Nat.le_refl _))
theorem hpL {G : GG} {F F' H' : Hp} {a : Addr} {vs : List V} (s : Same F F') (ok : HpOk G F' H') (h : F a = some (.lst vs)) : SqL G.K H' a vs := SqL.of (ok.sub _ _ (s _ _ h))
theorem feeds_list {G : GG} {F : Hp} {a : Addr} {ds : List D} {vs : List V} (h : F a = some (.lst vs)) (r : Reps G.K F ds vs) : Feeds G (Itl G.K a) F ds where
  go := fun i F' H' s ok hi => by
    have hi' : i < vs.length := by rw [r.len]; exact hi
    exact ⟨vs, vs[i], hpL s ok h, by simp [hi']⟩
  yld := fun i d F' H' x H'' s ok hd y => by
    obtain ⟨rfl, y⟩ := y
    obtain ⟨v, hv, rv⟩ := r.get hd
    have z := y vs (hpL s ok h)
    rw [hv] at z
    cases z
    exact ⟨F', New.refl, ok, rv.mono s⟩
  stop := fun i F' H' s ok hi => ⟨vs, hpL s ok h, by rw [r.len]; exact hi⟩
theorem hpT {G : GG} {F F' H' : Hp} {a : Addr} {vs : List V} (s : Same F F') (ok : HpOk G F' H') (h : SqT G.K F a vs) : SqT G.K H' a vs := Same.sqT ok.sub (Same.sqT s h)
theorem feeds_tup {G : GG} {F : Hp} {a : Addr} {ds : List D} {vs : List V} (h : SqT G.K F a vs) (r : Reps G.K F ds vs) : Feeds G (Itt G.K a) F ds where
  go := fun i F' H' s ok hi => by
    have hi' : i < vs.length := by rw [r.len]; exact hi
    exact ⟨vs, vs[i], hpT s ok h, by simp [hi']⟩
  yld := fun i d F' H' x H'' s ok hd y => by
    obtain ⟨rfl, y⟩ := y
    obtain ⟨v, hv, rv⟩ := r.get hd
    have z := y vs (hpT s ok h)
    rw [hv] at z
    cases z
    exact ⟨F', New.refl, ok, rv.mono s⟩
  stop := fun i F' H' s ok hi => ⟨vs, hpT s ok h, by rw [r.len]; exact hi⟩
def itW (w : W) (ρ : Env) : R (List D) := match w with
  | .o (.fz (.list ds)) => .ok ds ρ
  | .o (.fz (.tuple ds)) => .ok ds ρ
  | _ => .bad
/-- over a list or a tuple; a list of one's own is frozen -/
def iSq (f : Env → R W) : Env → R (List D) := fun ρ => (eFz f ρ).bind itW
theorem pdi_seq {C : Ct} {tg e : Expr} {f : Env → R W} (h : PD C e f) : PDI C tg e (iSq f) := fun X Wx ok => by
  refine PI.to (pi_seq (h X Wx ok)) fun σ H Rr ⟨T, F, ρ, en, p⟩ => ?_
  refine tE_fz en ((RPost.bind p).imp fun w ρ1 F1 H1 e1 en1 l1 p1 v rv => ?_)
  cases w with
  | own i => exact p1.elim
  | o x =>
    cases x with
    | fl xs => exact p1.elim
    | tp ps => exact p1.elim
    | fz d =>
      have rv : Rep C.G.K F1 d v := rv
      cases d with
      | list ds =>
        rw [Rep] at rv
        obtain ⟨a, vs, rfl, h1, l, r⟩ := rv
        refine ⟨a, rfl, .inl ⟨vs, ?_, ?_⟩⟩
        · rw [ok.K]; exact hpL (fun _ _ e => e) en1.hp h1
        · rw [ok.K]; exact RPost.here en1 p1 _ (feeds_list h1 r)
      | tuple ds =>
        rw [Rep] at rv
        obtain ⟨a, vs, rfl, h1, l, r⟩ := rv
        refine ⟨a, rfl, .inr ⟨vs, ?_, ?_⟩⟩
        · rw [ok.K]; exact hpT (fun _ _ e => e) en1.hp h1
        · rw [ok.K]; exact RPost.here en1 p1 _ (feeds_tup h1 r)
      | none => exact p1.elim
      | bool b => exact p1.elim
      | int i => exact p1.elim
      | str x => exact p1.elim
      | dict kvs => exact p1.elim
/-! ranges -/
def rngI (lo hi : Int) : List D := (List.range (hi - lo).toNat).map fun k => PyData.int (lo + (k : Nat))
def inR (i : Int) : Bool := decide (-(2 ^ 62) ≤ i) && decide (i < 2 ^ 62)
theorem inR_spec {i : Int} (h : inR i = true) : -(2 ^ 62) ≤ i ∧ i < 2 ^ 62 := by
  have := Bool.and_eq_true_iff.mp h
  exact ⟨of_decide_eq_true this.1, of_decide_eq_true this.2⟩
def iR1 (fa : Env → R (List W)) : Env → R (List D) := fun ρ => (fa ρ).bind fun ws ρ1 => match datAll ρ1 ws with
  | some [.int j] => if inR j = true then .ok (rngI 0 j) ρ1 else .bad
  | _ => .bad
def iR2 (fa : Env → R (List W)) : Env → R (List D) := fun ρ => (fa ρ).bind fun ws ρ1 => match datAll ρ1 ws with
  | some [.int i, .int j] => if (inR i && inR j) = true then .ok (rngI i j) ρ1 else .bad
  | _ => .bad
theorem pdi_range1 {C : Ct} {tg a : Expr} {fa : Env → R (List W)} {p pos : Pos} (hg : glB C.sc "range" = true) (hm : C.G.mg "range" = none) (ha : PDA C [a] fa) (hs : ∀ env, starEach [a] env = [(false, eval a env)] := by intro _; rfl) :
    PDI C tg (.Call (.Name "range" p) [a] [] pos) (iR1 fa) := fun X Wx ok => by
  refine PI.to (pi_range1 (ok.gl hg) (by rw [ok.mg]; exact hm) (ha X Wx ok) (hs _)) fun σ H Rr ⟨T, F, ρ, en, p⟩ => ⟨T, F, ρ, en, (RPost.bind p).imp fun ws ρ1 F1 H1 e1 en1 l1 p1 vs rv => ?_⟩
  cases ea : datAll ρ1 ws with
  | none => simp only [ea] at p1; exact p1.elim
  | some ds =>
    simp only [ea] at p1
    have rr := rv.read en1 ea
    split at p1 <;> try (exact p1.elim)
    rename_i j ej
    cases ej
    obtain ⟨v, rfl, r⟩ := repCs_one rr rfl
    obtain rfl := repC_int r
    by_cases hj : inR j = true
    · rw [if_pos hj] at p1
      obtain ⟨h1, h2⟩ := inR_spec hj
      refine ⟨j, rfl, h1, h2, ?_⟩
      have z := RPost.here en1 p1 (Itr 0 (j - 0).toNat) (feeds_range 0 _)
      rw [Int.sub_zero] at z
      exact z
    · rw [if_neg hj] at p1; exact p1.elim
theorem pdi_range2 {C : Ct} {tg a b : Expr} {fa : Env → R (List W)} {p pos : Pos} (hg : glB C.sc "range" = true) (hm : C.G.mg "range" = none) (ha : PDA C [a, b] fa) (hs : ∀ env, starEach [a, b] env = [(false, eval a env), (false, eval b env)] := by intro _; rfl)
    (hs2 : ∀ env, starEach [b] env = [(false, eval b env)] := by intro _; rfl) : PDI C tg (.Call (.Name "range" p) [a, b] [] pos) (iR2 fa) := fun X Wx ok => by
  refine PI.to (pi_range2 (ok.gl hg) (by rw [ok.mg]; exact hm) (ha X Wx ok) (hs _) (hs2 _)) fun σ H Rr ⟨T, F, ρ, en, p⟩ => ⟨T, F, ρ, en, (RPost.bind p).imp fun ws ρ1 F1 H1 e1 en1 l1 p1 vs rv => ?_⟩
  cases ea : datAll ρ1 ws with
  | none => simp only [ea] at p1; exact p1.elim
  | some ds =>
    simp only [ea] at p1
    have rr := rv.read en1 ea
    split at p1 <;> try (exact p1.elim)
    rename_i i j ej
    cases ej
    obtain ⟨v, u, rfl, r, r'⟩ := repCs_two rr rfl
    obtain rfl := repC_int r
    obtain rfl := repC_int r'
    by_cases hj : (inR i && inR j) = true
    · rw [if_pos hj] at p1
      obtain ⟨h0, h0'⟩ := Bool.and_eq_true_iff.mp hj
      obtain ⟨h1, h2⟩ := inR_spec h0
      obtain ⟨h3, h4⟩ := inR_spec h0'
      exact ⟨i, j, rfl, ⟨h1, h2, h3, h4⟩, RPost.here en1 p1 (Itr i (j - i).toNat) (feeds_range i _)⟩
    · rw [if_neg hj] at p1; exact p1.elim

/-! ### targets -/
abbrev TgD := D → Env → Option Env
def gN (i : Nat) : TgD := fun d ρ => if i < ρ.length then some (ρ.set i (.fz d)) else none
def gAll : List TgD → List D → Env → Option Env
  | [], [], ρ => some ρ
  | g :: gs, d :: ds, ρ => match g d ρ with
    | some ρ1 => gAll gs ds ρ1
    | none => none
  | _, _, _ => none
def gT (gs : List TgD) : TgD := fun d ρ => match d with
  | .tuple ds => gAll gs ds ρ
  | .list ds => gAll gs ds ρ
  | _ => none
/-- the store of a value at hand -/
def GPost (G : GG) (T : Fm) (vs : List Nat) (F H : Hp) (σ : L2.St) (ρ : Env) (Q : L2.St → Hp → Prop) (o : Option Env) : Prop :=
  ∃ ρ', o = some ρ' ∧ ∀ σ', EnvOk G T F H σ' ρ' → (∀ a, Owns σ' ρ' a → Owns σ ρ a) → wipe σ' vs = wipe σ vs → Q σ' H
def tG (G : GG) (vs : List Nat) (g : TgD) : TG := fun v σ H Q => ∃ T F ρ d, EnvOk G T F H σ ρ ∧ Rep G.K F d v ∧ GPost G T vs F H σ ρ Q (g d ρ)
def tGs (G : GG) (vs : List Nat) (gs : List TgD) : TGs := fun us σ H Q => ∃ T F ρ ds, EnvOk G T F H σ ρ ∧ Reps G.K F ds us ∧ GPost G T vs F H σ ρ Q (gAll gs ds ρ)
/-- a, b, .. = a tuple or a list at hand -/
def tGC (G : GG) (vs : List Nat) (gs : List TgD) : TG := fun v σ H Q => ∃ T F ρ d, EnvOk G T F H σ ρ ∧ RepC G.K F H d v ∧ GPost G T vs F H σ ρ Q (gT gs d ρ)
def PDG (C : Ct) (tg : Expr) (vs : List Nat) (g : TgD) : Prop := ∀ (X : Cx) (Wx : WX), Cok X C Wx → PG X tg (tG C.G vs g)
def PDGs (C : Ct) (tgs : List Expr) (vs : List Nat) (gs : List TgD) : Prop := ∀ (X : Cx) (Wx : WX), Cok X C Wx → PGs X tgs (tGs C.G vs gs)
def PDGC (C : Ct) (tg : Expr) (vs : List Nat) (gs : List TgD) : Prop := ∀ (X : Cx) (Wx : WX), Cok X C Wx → PG X tg (tGC C.G vs gs)
theorem PG.to {X : Cx} {tg : Expr} {t t' : TG} (h : PG X tg t) (i : ∀ v σ H Q, t' v σ H Q → t v σ H Q) : PG X tg t' := ⟨fun pins s σ H v u Q I r q => h.run pins s σ H v u Q I r (i v σ H Q q)⟩
theorem PGs.to {X : Cx} {tgs : List Expr} {t t' : TGs} (h : PGs X tgs t) (i : ∀ v σ H Q, t' v σ H Q → t v σ H Q) : PGs X tgs t' := ⟨fun pins s σ H v u Q I r q => h.run pins s σ H v u Q I r (i v σ H Q q)⟩
theorem wipe_set {σ : L2.St} {i : Nat} {o : Option V} : ∀ {vs : List Nat}, i ∈ vs → wipe (σ.set i o) vs = wipe σ vs
  | v :: vs, h => by
    unfold wipe
    by_cases e : i ∈ vs
    · rw [wipe_set e]
    · have : i = v := by
        rcases List.mem_cons.mp h with z | z
        · exact z
        · exact absurd z e
      subst this
      apply List.ext_getElem?
      intro j
      by_cases hj : i = j
      · subst hj
        by_cases hl : i < σ.length
        · rw [List.getElem?_set_self (by rw [wipe_length, List.length_set]; exact hl), List.getElem?_set_self (by rw [wipe_length]; exact hl)]
        · rw [List.getElem?_eq_none (by rw [List.length_set, wipe_length, List.length_set]; omega), List.getElem?_eq_none (by rw [List.length_set, wipe_length]; omega)]
      · rw [List.getElem?_set_ne hj, List.getElem?_set_ne hj]
        by_cases hm : j ∈ vs
        · have out : ∀ (τ : L2.St), (wipe τ vs)[j]? = if j < τ.length then some none else none := by
            intro τ
            clear h e hj
            induction vs with
            | nil => cases hm
            | cons w ws ih =>
              unfold wipe
              by_cases hw : w = j
              · subst hw
                by_cases hl : w < τ.length
                · rw [if_pos hl, List.getElem?_set_self (by rw [wipe_length]; exact hl)]
                · rw [if_neg hl, List.getElem?_eq_none (by rw [List.length_set, wipe_length]; omega)]
              · rw [List.getElem?_set_ne hw]
                exact ih (by
                  rcases List.mem_cons.mp hm with z | z
                  · exact absurd z.symm hw
                  · exact z)
          rw [out, out, List.length_set]
        · rw [wipe_out hm, wipe_out hm, List.getElem?_set_ne hj]
theorem EnvOk.setFz {G : GG} {T : Fm} {F H : Hp} {σ : L2.St} {ρ : Env} {i : Nat} {d : D} {v : V} (en : EnvOk G T F H σ ρ) (hi : i < ρ.length) (r : Rep G.K F d v) : EnvOk G T F H (σ.set i (some v)) (ρ.set i (.fz d)) ∧ ∀ a, Owns (σ.set i (some v)) (ρ.set i (.fz d)) a → Owns σ ρ a := by
  have hi' : i < σ.length := by rw [en.len]; exact hi
  refine ⟨⟨en.hp, en.live0, by rw [List.length_set, List.length_set]; exact en.len, fun j s e => ?_, fun j k a s t e1 o1 e2 o2 s1 s2 => ?_⟩, fun a ⟨j, s, e1, e2, e3⟩ => ?_⟩
  · rw [get_set hi] at e
    split at e
    · rename_i ej
      subst ej
      cases e
      rw [List.getElem?_set_self hi']
      exact ⟨v, rfl, r⟩
    · rename_i ej
      rw [List.getElem?_set_ne (Ne.symm ej)]
      exact en.at_ j s e
  · rw [get_set hi] at e1 e2
    split at e1
    · cases e1; cases o1
    · rename_i ej
      split at e2
      · cases e2; cases o2
      · rename_i ek
        rw [List.getElem?_set_ne (Ne.symm ej)] at s1
        rw [List.getElem?_set_ne (Ne.symm ek)] at s2
        exact en.sep j k a s t e1 o1 e2 o2 s1 s2
  · rw [get_set hi] at e1
    split at e1
    · cases e1; cases e2
    · rename_i ej
      rw [List.getElem?_set_ne (Ne.symm ej)] at e3
      exact ⟨j, s, e1, e2, e3⟩
def locB (C : Ct) (i : Nat) (x : Str) : Bool := C.N[i]? == some x && (C.sc.names.lookup x == some .local || (C.sc.names.lookup x == some .cell && C.fnb x))
theorem locB_spec {C : Ct} {i : Nat} {x : Str} (h : locB C i x = true) : C.N[i]? = some x ∧ Loc C.sc x ∧ (C.fnb x = true ∨ C.sc.names.lookup x = some .local) := by
  unfold locB at h
  simp only [Bool.and_eq_true, Bool.or_eq_true, beq_iff_eq] at h
  obtain ⟨h1, h2⟩ := h
  refine ⟨h1, ?_, ?_⟩
  · rcases h2 with h | h
    · exact .inl h
    · exact .inr h.1
  · rcases h2 with h | h
    · exact .inr h
    · exact .inl h.2
section
variable {C : Ct} {vs : List Nat}
theorem pdg_name {i : Nat} {x : Str} {pos : Pos} (h : locB C i x = true) (hv : i ∈ vs) : PDG C (.Name x pos) vs (gN i) := fun X Wx ok => by
  obtain ⟨h1, h2, h3⟩ := locB_spec h
  refine PG.to (pg_name ok.nodup (i := i) (by rw [ok.hN]; exact h1) (by rw [ok.hsc]; exact h2) (by rw [ok.fn, ok.hsc]; exact h3)) fun v σ H Q ⟨T, F, ρ, d, en, r, ρ', e, q⟩ => ?_
  unfold gN at e
  by_cases hi : i < ρ.length
  · rw [if_pos hi] at e
    cases e
    obtain ⟨en', l⟩ := en.setFz hi r
    exact q _ en' l (wipe_set hv)
  · rw [if_neg hi] at e; cases e
theorem pdgs_nil : PDGs C [] vs [] := fun X Wx ok => PGs.to pgs_nil fun us σ H Q ⟨T, F, ρ, ds, en, r, ρ', e, q⟩ => by
  cases ds with
  | nil =>
    rw [Reps] at r
    cases e
    exact ⟨r, q σ en (fun _ z => z) rfl⟩
  | cons d ds => cases e
theorem pdgs_cons {t : Expr} {ts : List Expr} {g : TgD} {gs : List TgD} (h1 : PDG C t vs g) (h2 : PDGs C ts vs gs)
    (hs : ∀ env, (assignEach (t :: ts) env).map (·.2) = assign t env :: (assignEach ts env).map (·.2) := by intro _; rfl) : PDGs C (t :: ts) vs (g :: gs) := fun X Wx ok => by
  refine PGs.to (pgs_cons (h1 X Wx ok) (h2 X Wx ok) (hs _)) fun us σ H Q ⟨T, F, ρ, ds, en, r, ρ', e, q⟩ => ?_
  cases ds with
  | nil => cases e
  | cons d ds =>
    obtain ⟨v, us', rfl, r1, r2⟩ := reps_cons_inv r
    unfold gAll at e
    cases eg : g d ρ with
    | none => simp only [eg] at e; cases e
    | some ρ1 =>
      simp only [eg] at e
      exact ⟨v, us', rfl, T, F, ρ, d, en, r1, ρ1, eg, fun σ1 en1 l1 w1 => ⟨T, F, ρ1, ds, en1, r2, ρ', e, fun σ2 en2 l2 w2 => q σ2 en2 (fun a z => l1 a (l2 a z)) (w2.trans w1)⟩⟩
theorem pg_two {X : Cx} {es : List Expr} {k : Nat} {pos : Pos} {t : TGs} {n : Nat} (hc : X.calm = true) (h : PGs X es t)
    (hn : (assignEach es X.env).length = n) (hst : (assignEach es X.env).findIdx? (·.1) = none) : PG X (.Tuple es k pos) (fun v σ H Q => gTup X.K n t v σ H Q ∨ gUnl X.K n t v σ H Q) :=
  ⟨fun pins s σ H v u Q I r hw => hw.elim (fun q => (pg_tup hc h hn hst).run pins s σ H v u Q I r q) fun q => (pg_unl hc h hn hst).run pins s σ H v u Q I r q⟩
theorem gAll_len : ∀ {gs : List TgD} {ds : List D} {ρ ρ' : Env}, gAll gs ds ρ = some ρ' → ds.length = gs.length
  | [], [], _, _, _ => rfl
  | [], _ :: _, _, _, e => by cases e
  | _ :: _, [], _, _, e => by cases e
  | g :: gs, d :: ds, ρ, ρ', e => by
    unfold gAll at e
    cases eg : g d ρ with
    | none => simp only [eg] at e; cases e
    | some ρ1 =>
      simp only [eg] at e
      rw [List.length_cons, List.length_cons, gAll_len e]
theorem pdgc_tup {ts : List Expr} {k : Nat} {pos : Pos} {gs : List TgD} (h : PDGs C ts vs gs) (hn : ∀ env, (assignEach ts env).length = gs.length := by intro _; rfl) (hst : ∀ env, (assignEach ts env).findIdx? (·.1) = none := by intro _; rfl) : PDGC C (.Tuple ts k pos) vs gs := fun X Wx ok => by
  refine PG.to (pg_two ok.calm (h X Wx ok) (hn _) (hst _)) fun v σ H Q ⟨T, F, ρ, d, en, r, ρ', e, q⟩ => ?_
  cases d with
  | tuple ds =>
    obtain ⟨a, us, rfl, h1, l, rs⟩ := repC_tup r
    have hl := gAll_len e
    refine .inl ⟨a, us, rfl, ?_, by rw [rs.len, hl], T, F, ρ, ds, en, rs, ρ', e, q⟩
    rw [ok.K]
    exact Same.sqT en.hp.sub h1
  | list ds =>
    obtain ⟨a, us, rfl, h1, l, rs⟩ := repC_lst r
    have hl := gAll_len e
    refine .inr ⟨a, us, rfl, ?_, by rw [rs.len, hl], T, F, ρ, ds, en, rs, ρ', e, q⟩
    rw [ok.K]
    exact SqL.of h1
  | none => cases e
  | bool b => cases e
  | int i => cases e
  | str x => cases e
  | dict kvs => cases e
theorem pdg_tup {ts : List Expr} {k : Nat} {pos : Pos} {gs : List TgD} (h : PDGs C ts vs gs) (hn : ∀ env, (assignEach ts env).length = gs.length := by intro _; rfl) (hst : ∀ env, (assignEach ts env).findIdx? (·.1) = none := by intro _; rfl) : PDG C (.Tuple ts k pos) vs (gT gs) := fun X Wx ok =>
  PG.to (pdgc_tup h hn hst X Wx ok) fun v σ H Q ⟨T, F, ρ, d, en, r, ρ', e, q⟩ => ⟨T, F, ρ, d, en, r.c en.hp.sub, ρ', e, q⟩
end
end PL
end
section
set_option Elab.async false
set_option linter.all false
set_option maxRecDepth 100000
set_option maxHeartbeats 2000000
set_option autoImplicit false
/-! Statements. -/
namespace PL
open PySem PySem.Spec PyProof.Rows L2

inductive So where
  | nx (ρ : Env) | bk (ρ : Env) | ct (ρ : Env) | rt (w : W) (ρ : Env) | exc (c : Str) (ρ : Env) | bad
def R.so {α : Type} (r : R α) (k : α → Env → So) : So := match r with
  | .ok x ρ => k x ρ
  | .exc c ρ => .exc c ρ
  | .bad => .bad
@[simp] theorem R.so_ok {α : Type} (x : α) (ρ : Env) (k : α → Env → So) : (R.ok x ρ).so k = k x ρ := rfl
@[simp] theorem R.so_exc {α : Type} (c : Str) (ρ : Env) (k : α → Env → So) : (R.exc c ρ : R α).so k = .exc c ρ := rfl
@[simp] theorem R.so_bad {α : Type} (k : α → Env → So) : (R.bad : R α).so k = .bad := rfl
def Grow (H : Hp) (σ : L2.St) (ρ : Env) (σ' : L2.St) (ρ' : Env) : Prop := ∀ a, Owns σ' ρ' a → Owns σ ρ a ∨ H a = none
/-- a value that is returned -/
def RepT (G : GG) (T : Fm) (F H : Hp) (σ : L2.St) (ρ : Env) (v : V) : W → Prop
  | .o x => ∃ A, RepO G.K F H v x A ∧ A.Nodup ∧ ∀ a ∈ A, T.H0 a = none ∧ ¬ Owns σ ρ a
  | .own i => σ[i]? = some (some v)
def SPost (G : GG) (T : Fm) (Wx : WX) (F H : Hp) (σ : L2.St) (ρ : Env) (Dn : Ends) : So → Prop
  | .nx ρ' => ∀ σ' F' H', Ext (Owns σ ρ) F H F' H' → EnvOk G T F' H' σ' ρ' → Grow H σ ρ σ' ρ' → Dn.nx σ' H'
  | .bk ρ' => ∀ σ' F' H', Ext (Owns σ ρ) F H F' H' → EnvOk G T F' H' σ' ρ' → Grow H σ ρ σ' ρ' → Dn.bk σ' H'
  | .ct ρ' => ∀ σ' F' H', Ext (Owns σ ρ) F H F' H' → EnvOk G T F' H' σ' ρ' → Grow H σ ρ σ' ρ' → Dn.ct σ' H'
  | .rt w ρ' => ∀ σ' F' H' v, Ext (Owns σ ρ) F H F' H' → EnvOk G T F' H' σ' ρ' → Grow H σ ρ σ' ρ' → RepT G T F' H' σ' ρ' v w → Dn.rt v H'
  | .exc c ρ' => ∀ σ' F' H', Ext (Owns σ ρ) F H F' H' → EnvOk G T F' H' σ' ρ' → Grow H σ ρ σ' ρ' → Wx (.ref (G.cls c)) none σ' H'
  | .bad => False
def tS (G : GG) (Wx : WX) (f : Env → So) : TS := fun Dn σ H => ∃ T F ρ, EnvOk G T F H σ ρ ∧ SPost G T Wx F H σ ρ Dn (f ρ)
def PDS (C : Ct) (st : Stmt) (f : Env → So) : Prop := ∀ (X : Cx) (Wx : WX), Cok X C Wx → PS X st (tS C.G Wx f)
def PDSs (C : Ct) (st : List Stmt) (f : Env → So) : Prop := ∀ (X : Cx) (Wx : WX), Cok X C Wx → PSs X st (tS C.G Wx f)

section
variable {G : GG} {T : Fm} {Wx : WX} {F H F1 H1 : Hp} {σ σ1 : L2.St} {ρ ρ1 : Env} {Dn Dn' : Ends}
/-- a later start -/
theorem SPost.on {o : So} (h : SPost G T Wx F H σ ρ Dn o) (x : Ext (Owns σ ρ) F H F1 H1) (g : Grow H σ ρ σ1 ρ1) : SPost G T Wx F1 H1 σ1 ρ1 Dn o := by
  have ex : ∀ {F' H' : Hp}, Ext (Owns σ1 ρ1) F1 H1 F' H' → Ext (Owns σ ρ) F H F' H' := fun y => x.trans y g
  have gr : ∀ {σ' : L2.St} {ρ' : Env}, Grow H1 σ1 ρ1 σ' ρ' → Grow H σ ρ σ' ρ' := fun y a z => by
    rcases y a z with w | w
    · exact g a w
    · exact .inr (Classical.byContradiction fun q => x.live a q w)
  cases o with
  | bad => exact h
  | nx ρ' => exact fun σ' F' H' e ok l => h σ' F' H' (ex e) ok (gr l)
  | bk ρ' => exact fun σ' F' H' e ok l => h σ' F' H' (ex e) ok (gr l)
  | ct ρ' => exact fun σ' F' H' e ok l => h σ' F' H' (ex e) ok (gr l)
  | rt w ρ' => exact fun σ' F' H' v e ok l r => h σ' F' H' v (ex e) ok (gr l) r
  | exc c ρ' => exact fun σ' F' H' e ok l => h σ' F' H' (ex e) ok (gr l)
theorem grow_refl {H : Hp} {σ : L2.St} {ρ : Env} : Grow H σ ρ σ ρ := fun _ z => .inl z
/-- an expression ahead -/
theorem SPost.so {α : Type} {r : R α} {k : α → Env → So} (h : SPost G T Wx F H σ ρ Dn (r.so k)) :
    RPost G T Wx F H σ ρ (fun x ρ1 F1 H1 => SPost G T Wx F1 H1 σ ρ1 Dn (k x ρ1)) r := by
  cases r with
  | bad => exact h
  | exc c ρ' => exact fun F' H' e ok l => h σ F' H' e ok fun a z => .inl (l a z)
  | ok x ρ1 => exact fun F1 H1 e ok l => SPost.on (σ1 := σ) (ρ1 := ρ1) h e fun a z => .inl (l a z)
theorem SPost.nxt {ρ' : Env} (h : SPost G T Wx F H σ ρ Dn (.nx ρ')) (ok : EnvOk G T F1 H1 σ1 ρ') (x : Ext (Owns σ ρ) F H F1 H1) (g : Grow H σ ρ σ1 ρ') : Dn.nx σ1 H1 := h σ1 F1 H1 x ok g
/-- other ends -/
theorem SPost.ends {o : So} (h : SPost G T Wx F H σ ρ Dn o) (i1 : ∀ σ H, Dn.nx σ H → Dn'.nx σ H) (i2 : ∀ σ H, Dn.bk σ H → Dn'.bk σ H) (i3 : ∀ σ H, Dn.ct σ H → Dn'.ct σ H) (i4 : ∀ v H, Dn.rt v H → Dn'.rt v H) : SPost G T Wx F H σ ρ Dn' o := by
  cases o with
  | bad => exact h
  | nx ρ' => exact fun σ' F' H' e ok l => i1 _ _ (h σ' F' H' e ok l)
  | bk ρ' => exact fun σ' F' H' e ok l => i2 _ _ (h σ' F' H' e ok l)
  | ct ρ' => exact fun σ' F' H' e ok l => i3 _ _ (h σ' F' H' e ok l)
  | rt w ρ' => exact fun σ' F' H' v e ok l r => i4 _ _ (h σ' F' H' v e ok l r)
  | exc c ρ' => exact h
end

/-! ### small statements, sequences, if -/
def So.seq (o : So) (g : Env → So) : So := match o with
  | .nx ρ => g ρ
  | o => o
def sSeq (f g : Env → So) : Env → So := fun ρ => (f ρ).seq g
def sNx : Env → So := fun ρ => .nx ρ
def sBk : Env → So := fun ρ => .bk ρ
def sCt : Env → So := fun ρ => .ct ρ
def sIf (c : Env → R Bool) (f g : Env → So) : Env → So := fun ρ => (c ρ).so fun b ρ1 => if b = true then f ρ1 else g ρ1
def sDrop (f : Env → R W) : Env → So := fun ρ => (f ρ).so fun _ ρ1 => .nx ρ1
section
variable {C : Ct} {st : Stmt} {rest : List Stmt} {f g : Env → So} {pos : Pos}
theorem pdss_nil : PDSs C [] sNx := fun X Wx ok => PSs.to pss_nil fun Dn σ H ⟨T, F, ρ, en, p⟩ => p.nxt en Ext.refl grow_refl
theorem pds_pass : PDS C (.Pass pos) sNx := fun X Wx ok => PS.to ps_pass fun Dn σ H ⟨T, F, ρ, en, p⟩ => p.nxt en Ext.refl grow_refl
theorem pds_break : PDS C (.Break pos) sBk := fun X Wx ok => PS.to ps_break fun Dn σ H ⟨T, F, ρ, en, p⟩ => p _ _ _ Ext.refl en grow_refl
theorem pds_cont : PDS C (.Continue pos) sCt := fun X Wx ok => PS.to ps_continue fun Dn σ H ⟨T, F, ρ, en, p⟩ => p _ _ _ Ext.refl en grow_refl
theorem seq_core {G : GG} {T : Fm} {Wx : WX} {F H : Hp} {σ : L2.St} {ρ : Env} {Dn : Ends} {o : So} {u : TS} (hu : ∀ Dn σ H, tS G Wx g Dn σ H → u Dn σ H) (p : SPost G T Wx F H σ ρ Dn (o.seq g)) :
    SPost G T Wx F H σ ρ { Dn with nx := u Dn } o := by
  cases o with
  | nx ρ' => exact fun σ' F' H' e en l => hu _ _ _ ⟨T, F', ρ', en, SPost.on p e l⟩
  | bad => exact p
  | bk ρ' => exact p
  | ct ρ' => exact p
  | rt w ρ' => exact p
  | exc c ρ' => exact p
theorem pdss_cons (h : PDS C st f) (t : PDSs C rest g) : PDSs C (st :: rest) (sSeq f g) := fun X Wx ok =>
  PSs.to (pss_cons (h X Wx ok) (t X Wx ok)) fun Dn σ H ⟨T, F, ρ, en, p⟩ => ⟨T, F, ρ, en, seq_core (fun _ _ _ z => z) p⟩
theorem pdss_one (h : PDS C st f) : PDSs C [st] f := fun X Wx ok => pss_one (h X Wx ok)
theorem pds_if {c : Expr} {a b : List Stmt} {fc : Env → R Bool} (hc : PDT C c fc) (ha : PDSs C a f) (hb : PDSs C b g) : PDS C (.If c a b pos) (sIf fc f g) := fun X Wx ok =>
  PS.to (ps_if (hc X Wx ok) (ha X Wx ok) (hb X Wx ok)) fun Dn σ H ⟨T, F, ρ, en, p⟩ => ⟨T, F, ρ, en, (SPost.so p).imp fun b ρ1 F1 H1 e1 en1 l1 p1 => by
    cases b with
    | true => exact ⟨T, F1, ρ1, en1, p1⟩
    | false => exact ⟨T, F1, ρ1, en1, p1⟩⟩
theorem pds_drop {e : Expr} {fe : Env → R W} (h : PD C e fe) (hs : ∀ env, swapsWith e none pos.line env = pure false := by intro _; rfl) : PDS C (.Expr e pos) (sDrop fe) := fun X Wx ok =>
  PS.to (ps_expr (h X Wx ok) (hs _)) fun Dn σ H ⟨T, F, ρ, en, p⟩ => ⟨T, F, ρ, en, (SPost.so p).imp fun w ρ1 F1 H1 e1 en1 l1 p1 v rv => p1.nxt en1 Ext.refl grow_refl⟩
end

/-! ### return -/
def sRet (f : Env → R W) : Env → So := fun ρ => (f ρ).so fun w ρ1 => .rt w ρ1
def sRetN : Env → So := fun ρ => .rt (.val .none) ρ
section
variable {C : Ct} {f : Env → R W} {e : Expr} {pos : Pos}
theorem pds_ret (h : PD C e f) : PDS C (.Return (some e) pos) (sRet f) := fun X Wx ok =>
  PS.to (ps_ret (h X Wx ok)) fun Dn σ H ⟨T, F, ρ, en, p⟩ => ⟨T, F, ρ, en, (SPost.so p).imp fun w ρ1 F1 H1 e1 en1 l1 p1 v rv => p1 σ F1 H1 v Ext.refl en1 grow_refl (by
    cases w with
    | own i => exact rv.1
    | o x =>
      obtain ⟨A, h1, h2, h3⟩ := rv
      exact ⟨A, h1, h2, fun a ha => ⟨Classical.byContradiction fun z => en.live0 a z (h3 a ha).1, (h3 a ha).2⟩⟩)⟩
theorem pds_retN : PDS C (.Return none pos) sRetN := fun X Wx ok =>
  PS.to ps_retN fun Dn σ H ⟨T, F, ρ, en, p⟩ => p σ F H .non Ext.refl en grow_refl ⟨[], ⟨rfl, rep_non⟩, List.nodup_nil, by simp⟩
end

/-! ### assignments -/
/-- the value is frozen -/
def stFz (i : Nat) (w : W) (ρ : Env) : So := match w with
  | .o (.fz d) => if i < ρ.length then .nx (ρ.set i (.fz d)) else .bad
  | _ => .bad
def sSet (i : Nat) (f : Env → R W) : Env → So := fun ρ => (eFz f ρ).so (stFz i)
/-- a new list is the name's own -/
def stOw (i : Nat) (w : W) (ρ : Env) : So := match w with
  | .o (.fl xs) => if i < ρ.length then .nx (ρ.set i (.fl xs)) else .bad
  | _ => .bad
def sOwn (i : Nat) (f : Env → R W) : Env → So := fun ρ => (f ρ).so (stOw i)
theorem EnvOk.setFl {G : GG} {T : Fm} {F H : Hp} {σ : L2.St} {ρ : Env} {i : Nat} {xs : List D} {a : Addr} {vs : List V} (en : EnvOk G T F H σ ρ) (hi : i < ρ.length) (h1 : H a = some (.lst vs)) (h2 : F a = none) (h0 : T.H0 a = none) (l : vs.length ≤ sizeLine) (r : Reps G.K F xs vs) (hn : ¬ Owns σ ρ a) :
    EnvOk G T F H (σ.set i (some (.ref a))) (ρ.set i (.fl xs)) ∧ ∀ b, Owns (σ.set i (some (.ref a))) (ρ.set i (.fl xs)) b → Owns σ ρ b ∨ b = a := by
  have hi' : i < σ.length := by rw [en.len]; exact hi
  refine ⟨⟨en.hp, en.live0, by rw [List.length_set, List.length_set]; exact en.len, fun j s e => ?_, fun j k b s t e1 o1 e2 o2 s1 s2 => ?_⟩, fun b ⟨j, s, e1, e2, e3⟩ => ?_⟩
  · rw [get_set hi] at e
    split at e
    · rename_i ej
      subst ej
      cases e
      rw [List.getElem?_set_self hi']
      exact ⟨a, vs, rfl, h1, h2, h0, l, r⟩
    · rename_i ej
      rw [List.getElem?_set_ne (Ne.symm ej)]
      exact en.at_ j s e
  · rw [get_set hi] at e1 e2
    split at e1
    · rename_i ej
      subst ej
      rw [List.getElem?_set_self hi'] at s1
      split at e2
      · rename_i ek; exact ek.symm
      · rename_i ek
        rw [List.getElem?_set_ne (Ne.symm ek)] at s2
        cases s1
        exact absurd ⟨k, t, e2, o2, s2⟩ hn
    · rename_i ej
      rw [List.getElem?_set_ne (Ne.symm ej)] at s1
      split at e2
      · rename_i ek
        subst ek
        rw [List.getElem?_set_self hi'] at s2
        cases s2
        exact absurd ⟨j, s, e1, o1, s1⟩ hn
      · rename_i ek
        rw [List.getElem?_set_ne (Ne.symm ek)] at s2
        exact en.sep j k b s t e1 o1 e2 o2 s1 s2
  · rw [get_set hi] at e1
    split at e1
    · rename_i ej
      subst ej
      rw [List.getElem?_set_self hi'] at e3
      cases e3
      exact .inr rfl
    · rename_i ej
      rw [List.getElem?_set_ne (Ne.symm ej)] at e3
      exact .inl ⟨j, s, e1, e2, e3⟩
theorem so_bad {G : GG} {T : Fm} {Wx : WX} {F H : Hp} {σ : L2.St} {ρ : Env} {Dn : Ends} (h : SPost G T Wx F H σ ρ Dn .bad) : False := h
section
variable {C : Ct} {f : Env → R W} {e : Expr} {pos : Pos} {i : Nat} {x : Str} {pos' : Pos}
/-- the store of a settled value, by the rules for names -/
theorem set_core {X : Cx} {Wx : WX} {te : TE} {Dn : Ends} {σ : L2.St} {H : Hp} (hte : ∀ Q, tE C.G Wx f σ H Q → te σ H Q) (h : tS C.G Wx (sSet i f) Dn σ H) : tAsg te (gName i) Dn σ H := by
  obtain ⟨T, F, ρ, en, p⟩ := h
  refine hte _ (tE_fz en ((SPost.so p).imp fun w ρ1 F1 H1 e1 en1 l1 p1 v rv => ?_))
  cases w with
  | own j => exact p1.elim
  | o x =>
    cases x with
    | fl xs => exact p1.elim
    | tp ps => exact p1.elim
    | fz d =>
      unfold stFz at p1
      by_cases hi : i < ρ1.length
      · simp only [hi, if_true] at p1
        obtain ⟨en2, l2⟩ := en1.setFz hi rv
        exact p1.nxt en2 Ext.refl fun a z => .inl (l2 a z)
      · simp only [hi, if_false] at p1
        exact p1.elim
theorem own_core {X : Cx} {Wx : WX} {te : TE} {Dn : Ends} {σ : L2.St} {H : Hp} (hte : ∀ Q, tE C.G Wx f σ H Q → te σ H Q) (h : tS C.G Wx (sOwn i f) Dn σ H) : tAsg te (gName i) Dn σ H := by
  obtain ⟨T, F, ρ, en, p⟩ := h
  refine hte _ ⟨T, F, ρ, en, ?_⟩
  -- the ends of the statement, seen from its start
  cases hr : f ρ with
  | bad => unfold sOwn at p; rw [hr] at p; exact p
  | exc c ρ' => unfold sOwn at p; rw [hr] at p; exact fun F' H' e ok l => p σ F' H' e ok fun a z => .inl (l a z)
  | ok w ρ1 =>
    unfold sOwn at p
    rw [hr] at p
    have p : SPost C.G T Wx F H σ ρ Dn (stOw i w ρ1) := p
    intro F1 H1 e1 en1 l1 v rv
    cases w with
    | own j => exact p.elim
    | o x =>
      cases x with
      | fz d => exact p.elim
      | tp ps => exact p.elim
      | fl xs =>
        unfold stOw at p
        by_cases hi : i < ρ1.length
        · simp only [hi, if_true] at p
          obtain ⟨A, ⟨a, vs, rfl, rfl, h1, h2, l, r⟩, _, h3⟩ := rv
          obtain ⟨h4, h5⟩ := h3 a (by simp)
          obtain ⟨en2, l2⟩ := en1.setFl hi h1 h2 (Classical.byContradiction fun z => en.live0 a z h4) l r h5
          exact p _ F1 H1 e1 en2 fun b z => by
            rcases l2 b z with w | w
            · exact .inl (l1 b w)
            · exact .inr (by rw [w]; exact h4)
        · simp only [hi, if_false] at p
          exact p.elim
theorem pds_set (h : PD C e f) (hl : locB C i x = true) (hs : ∀ env, swapsWith e (some (.Name x pos')) pos.line env = pure false := by intro _; rfl) : PDS C (.Assign [.Name x pos'] e pos) (sSet i f) := fun X Wx ok => by
  obtain ⟨h1, h2, h3⟩ := locB_spec hl
  exact PS.to (ps_set ok.nodup (i := i) (by rw [ok.hN]; exact h1) (by rw [ok.hsc]; exact h2) (h X Wx ok) (hs _) (by rw [ok.fn, ok.hsc]; exact h3)) fun Dn σ H q => set_core (X := X) (fun _ z => z) q
theorem pds_own (h : PD C e f) (hl : locB C i x = true) (hs : ∀ env, swapsWith e (some (.Name x pos')) pos.line env = pure false := by intro _; rfl) : PDS C (.Assign [.Name x pos'] e pos) (sOwn i f) := fun X Wx ok => by
  obtain ⟨h1, h2, h3⟩ := locB_spec hl
  exact PS.to (ps_set ok.nodup (i := i) (by rw [ok.hN]; exact h1) (by rw [ok.hsc]; exact h2) (h X Wx ok) (hs _) (by rw [ok.fn, ok.hsc]; exact h3)) fun Dn σ H q => own_core (X := X) (fun _ z => z) q
end

/-! ### a, b, .. = e -/
def stUn (gs : List TgD) (w : W) (ρ : Env) : So := match w.dat ρ with
  | some d => match gT gs d ρ with
    | some ρ' => .nx ρ'
    | none => .bad
  | none => .bad
def sUn (gs : List TgD) (f : Env → R W) : Env → So := fun ρ => (eNrm f ρ).so (stUn gs)
section
variable {C : Ct} {f : Env → R W} {e tg : Expr} {pos : Pos} {gs : List TgD} {vs : List Nat}
theorem pds_un (h : PD C e f) (hg : PDGC C tg vs gs) (hs : ∀ env, swapsWithSole [tg] e pos.line env = pure false := by intro _; rfl) (hw : ∀ env, swappedStores [tg] e env = pure none := by intro _; rfl)
    (h1 : ∀ env, (assignEach [tg] env).map (·.2) = [assign tg env] := by intro _; rfl) : PDS C (.Assign [tg] e pos) (sUn gs f) := fun X Wx ok => by
  refine PS.to (ps_asg (h X Wx ok) (hg X Wx ok) (hs _) (hw _) (h1 _)) fun Dn σ H ⟨T, F, ρ, en, p⟩ => ?_
  refine tE_nrm en ((SPost.so p).imp fun w ρ1 F1 H1 e1 en1 l1 p1 v rv => ?_)
  unfold stUn at p1
  cases ew : w.dat ρ1 with
  | none => simp only [ew] at p1; exact p1.elim
  | some d =>
    simp only [ew] at p1
    cases eg : gT gs d ρ1 with
    | none => simp only [eg] at p1; exact p1.elim
    | some ρ2 =>
      simp only [eg] at p1
      exact ⟨T, F1, ρ1, d, en1, rv.read en1 ew, ρ2, eg, fun σ2 en2 l2 _ => p1.nxt en2 Ext.refl fun a z => .inl (l2 a z)⟩
end

/-! ### for, while -/
def forD (g : TgD) (tb : Env → So) : List D → Env → So
  | [], ρ => .nx ρ
  | d :: ds, ρ => match g d ρ with
    | none => .bad
    | some ρ1 => match tb ρ1 with
      | .nx ρ2 => forD g tb ds ρ2
      | .ct ρ2 => forD g tb ds ρ2
      | .bk ρ2 => .nx ρ2
      | .rt w ρ2 => .rt w ρ2
      | .exc c ρ2 => .exc c ρ2
      | .bad => .bad
def sFor (fi : Env → R (List D)) (g : TgD) (tb : Env → So) : Env → So := fun ρ => (fi ρ).so fun ds ρ1 => forD g tb ds ρ1
def whileD (c : Env → R Bool) (tb : Env → So) : Nat → Env → So
  | 0, _ => .bad
  | n + 1, ρ => (c ρ).so fun b ρ1 => if b = true then (match tb ρ1 with
      | .nx ρ2 => whileD c tb n ρ2
      | .ct ρ2 => whileD c tb n ρ2
      | .bk ρ2 => .nx ρ2
      | .rt w ρ2 => .rt w ρ2
      | .exc c ρ2 => .exc c ρ2
      | .bad => .bad) else .nx ρ1
def sWhile (fuel : Env → Nat) (c : Env → R Bool) (tb : Env → So) : Env → So := fun ρ => whileD c tb (fuel ρ) ρ
theorem Same.trans3 {F F1 F2 : Hp} (a : Same F F1) (b : Same F1 F2) : Same F F2 := a.trans b
theorem Feeds.later {G : GG} {J : It} {F F1 : Hp} {ds : List D} (h : Feeds G J F ds) (s : Same F F1) : Feeds G J F1 ds :=
  ⟨fun i F' H' s' ok hi => h.go i F' H' (s.trans s') ok hi, fun i d F' H' x H'' s' ok hd y => h.yld i d F' H' x H'' (s.trans s') ok hd y, fun i F' H' s' ok hi => h.stop i F' H' (s.trans s') ok hi⟩
section
variable {C : Ct} {fi : Env → R (List D)} {g : TgD} {tb : Env → So} {e tg iter c : Expr} {body : List Stmt} {pos : Pos} {vs : List Nat} {fc : Env → R Bool}
theorem for_core {G : GG} {T : Fm} {Wx : WX} {Dn : Ends} {J : It} {Fs : Hp} {ds : List D} (hJ : Feeds G J Fs ds) :
    ∀ (i m : Nat) (σ : L2.St) (H : Hp), (m + i = ds.length ∧ ∃ F ρ, Same Fs F ∧ EnvOk G T F H σ ρ ∧ SPost G T Wx F H σ ρ Dn (forD g tb (ds.drop i) ρ)) →
      (J.stop i H ∧ Dn.nx σ H) ∨ (J.go i H ∧ ∃ N : L2.St → Hp → Prop, (∀ σ' H', N σ' H' → ∃ m', m' < m ∧ (m' + (i + 1) = ds.length ∧ ∃ F ρ, Same Fs F ∧ EnvOk G T F H' σ' ρ ∧ SPost G T Wx F H' σ' ρ Dn (forD g tb (ds.drop (i + 1)) ρ))) ∧
        ∀ x H', J.yld i H x H' → tG G vs g x σ H' fun σ2 H2 => tS G Wx tb { Dn with nx := N, ct := N, bk := Dn.nx } σ2 H2) := by
  rintro i m σ H ⟨hm, F, ρ, sF, en, p⟩
  by_cases hi : i < ds.length
  · refine .inr ⟨hJ.go i F H sF en.hp hi, fun σ' H' => ∃ F ρ, Same Fs F ∧ EnvOk G T F H' σ' ρ ∧ SPost G T Wx F H' σ' ρ Dn (forD g tb (ds.drop (i + 1)) ρ), fun σ' H' h => ⟨m - 1, by omega, by omega, h⟩, fun x H' y => ?_⟩
    have hd : ds[i]? = some ds[i] := by simp [hi]
    obtain ⟨F1, n1, ok1, r1⟩ := hJ.yld i _ F H x H' sF en.hp hd y
    have en1 := en.new n1 ok1
    rw [List.drop_eq_getElem_cons hi] at p
    unfold forD at p
    cases eg : g ds[i] ρ with
    | none => simp only [eg] at p; exact p.elim
    | some ρ1 =>
      simp only [eg] at p
      refine ⟨T, F1, ρ, ds[i], en1, r1, ρ1, eg, fun σ2 en2 l2 _ => ⟨T, F1, ρ1, en2, ?_⟩⟩
      have x1 : Ext (Owns σ ρ) F H F1 H' := n1.ext
      have g1 : Grow H σ ρ σ2 ρ1 := fun a z => .inl (l2 a z)
      cases hb : tb ρ1 with
      | bad => rw [hb] at p; exact p
      | nx ρ2 =>
        rw [hb] at p
        exact fun σ3 F3 H3 e3 en3 l3 => ⟨F3, ρ2, (sF.trans n1.fle).trans e3.fle, en3, SPost.on (SPost.on p x1 g1) e3 l3⟩
      | ct ρ2 =>
        rw [hb] at p
        exact fun σ3 F3 H3 e3 en3 l3 => ⟨F3, ρ2, (sF.trans n1.fle).trans e3.fle, en3, SPost.on (SPost.on p x1 g1) e3 l3⟩
      | bk ρ2 =>
        rw [hb] at p
        exact fun σ3 F3 H3 e3 en3 l3 => SPost.nxt (SPost.on p x1 g1) en3 e3 l3
      | rt w ρ2 =>
        rw [hb] at p
        exact fun σ3 F3 H3 v e3 en3 l3 r3 => SPost.on p x1 g1 σ3 F3 H3 v e3 en3 l3 r3
      | exc c ρ2 =>
        rw [hb] at p
        exact fun σ3 F3 H3 e3 en3 l3 => SPost.on p x1 g1 σ3 F3 H3 e3 en3 l3
  · have hi' : ds.length ≤ i := by omega
    rw [List.drop_eq_nil_of_le hi'] at p
    exact .inl ⟨hJ.stop i F H sF en.hp hi', p.nxt en Ext.refl grow_refl⟩
theorem pds_for (hi : PDI C tg iter fi) (hg : PDG C tg vs g) (hb : PDSs C body tb) (hs : ∀ env x, foldedSetIterable iter env x = pure x := by intro _ _; rfl) : PDS C (.For tg iter body [] pos) (sFor fi g tb) := fun X Wx ok => by
  refine PS.to (ps_for ok.own ok.calm (hi X Wx ok) (hg X Wx ok) (hb X Wx ok) (hs _)) fun Dn σ H ⟨T, F, ρ, en, p⟩ => ⟨T, F, ρ, en, (SPost.so p).imp fun ds ρ1 F1 H1 e1 en1 l1 p1 J hJ => ?_⟩
  exact ⟨fun i m σ H => m + i = ds.length ∧ ∃ F ρ, Same F1 F ∧ EnvOk C.G T F H σ ρ ∧ SPost C.G T Wx F H σ ρ Dn (forD g tb (ds.drop i) ρ), ⟨ds.length, rfl, F1, ρ1, fun _ _ e => e, en1, p1⟩, for_core hJ⟩
theorem pds_while (hc : PDT C c fc) (hb : PDSs C body tb) (fuel : Env → Nat) : PDS C (.While c body [] pos) (sWhile fuel fc tb) := fun X Wx ok => by
  refine PS.to (ps_while ok.own (hc X Wx ok) (hb X Wx ok)) fun Dn σ H ⟨T, F, ρ, en, p⟩ => ?_
  refine ⟨fun m σ H => ∃ F ρ, EnvOk C.G T F H σ ρ ∧ SPost C.G T Wx F H σ ρ Dn (whileD fc tb m ρ), ⟨fuel ρ, F, ρ, en, p⟩, ?_⟩
  rintro m σ H ⟨F, ρ, en, p⟩
  cases m with
  | zero => exact p.elim
  | succ n =>
    unfold whileD at p
    refine ⟨T, F, ρ, en, (SPost.so p).imp fun b ρ1 F1 H1 e1 en1 l1 p1 => ?_⟩
    cases b with
    | false => exact p1.nxt en1 Ext.refl grow_refl
    | true =>
      simp only [if_true] at p1 ⊢
      refine ⟨fun σ' H' => ∃ F ρ, EnvOk C.G T F H' σ' ρ ∧ SPost C.G T Wx F H' σ' ρ Dn (whileD fc tb n ρ), fun σ' H' h => ⟨n, Nat.lt_succ_self n, h⟩, T, F1, ρ1, en1, ?_⟩
      cases ht : tb ρ1 with
      | bad => rw [ht] at p1; exact p1
      | nx ρ2 =>
        rw [ht] at p1
        exact fun σ3 F3 H3 e3 en3 l3 => ⟨F3, ρ2, en3, SPost.on p1 e3 l3⟩
      | ct ρ2 =>
        rw [ht] at p1
        exact fun σ3 F3 H3 e3 en3 l3 => ⟨F3, ρ2, en3, SPost.on p1 e3 l3⟩
      | bk ρ2 =>
        rw [ht] at p1
        exact fun σ3 F3 H3 e3 en3 l3 => SPost.nxt p1 en3 e3 l3
      | rt w ρ2 =>
        rw [ht] at p1
        exact fun σ3 F3 H3 v e3 en3 l3 r3 => p1 σ3 F3 H3 v e3 en3 l3 r3
      | exc c ρ2 =>
        rw [ht] at p1
        exact fun σ3 F3 H3 e3 en3 l3 => p1 σ3 F3 H3 e3 en3 l3
end
end PL
end
section
set_option Elab.async false
set_option linter.all false
set_option maxRecDepth 100000
set_option maxHeartbeats 2000000
set_option autoImplicit false
/-! Lists that change; raise; defs and their calls. -/
namespace PL
open PySem PySem.Spec PyProof.Rows L2

/-! ### a list of one's own changes -/
def Sl.put (xs : List D) : Sl → Sl
  | .fl _ => .fl xs
  | .io j _ => .io j xs
  | s => s
def ownL (ρ : Env) (i : Nat) : Option (List D) := match ρ[i]? with
  | some (.fl xs) => some xs
  | some (.io _ xs) => some xs
  | _ => none
def setL (ρ : Env) (i : Nat) (xs : List D) : Env := match ρ[i]? with
  | some s => ρ.set i (s.put xs)
  | none => ρ
section
variable {G : GG} {T : Fm} {F H : Hp} {σ : L2.St} {ρ : Env}
theorem ownL_spec {i : Nat} {xs : List D} (h : ownL ρ i = some xs) : ∃ s, ρ[i]? = some s ∧ s.own = true ∧ s.dat = some (.list xs) ∧ ∀ ys, setL ρ i ys = ρ.set i (s.put ys) := by
  unfold ownL at h
  split at h
  · rename_i zs e
    cases h
    exact ⟨_, e, rfl, rfl, fun ys => by unfold setL; rw [e]⟩
  · rename_i j zs e
    cases h
    exact ⟨_, e, rfl, rfl, fun ys => by unfold setL; rw [e]⟩
  · cases h
theorem EnvOk.own {i : Nat} {xs : List D} (en : EnvOk G T F H σ ρ) (h : ownL ρ i = some xs) : ∃ a vs, σ[i]? = some (some (.ref a)) ∧ H a = some (.lst vs) ∧ F a = none ∧ vs.length ≤ sizeLine ∧ Reps G.K F xs vs ∧ Owns σ ρ a := by
  obtain ⟨s, e, ho, hd, _⟩ := ownL_spec h
  have z := en.at_ i s e
  cases s with
  | un => cases ho
  | er c => cases ho
  | sc ns => cases ho
  | fz d => cases ho
  | fl ys =>
    cases hd
    obtain ⟨a, vs, ev, h1, h2, _, l, r⟩ := z
    exact ⟨a, vs, join_ref ev, h1, h2, l, r, i, _, e, rfl, join_ref ev⟩
  | io j ys =>
    cases hd
    obtain ⟨a, vs, ev, h1, h2, _, l, r⟩ := z
    exact ⟨a, vs, join_ref ev, h1, h2, l, r, i, _, e, rfl, join_ref ev⟩
theorem put_own {s : Sl} {ys : List D} : (s.put ys).own = s.own := by cases s <;> rfl
theorem EnvOk.write {i : Nat} {xs ys : List D} {a : Addr} {us : List V} (en : EnvOk G T F H σ ρ) (h : ownL ρ i = some xs) (ha : σ[i]? = some (some (.ref a))) (l : us.length ≤ sizeLine) (r : Reps G.K F ys us) :
    EnvOk G T F (upd H a (.lst us)) σ (setL ρ i ys) ∧ Ext (Owns σ ρ) F H F (upd H a (.lst us)) ∧ ∀ b, Owns σ (setL ρ i ys) b → Owns σ ρ b := by
  obtain ⟨s, e, ho, hd, hs⟩ := ownL_spec h
  rw [hs]
  have hi : i < ρ.length := (List.getElem?_eq_some_iff.mp e).1
  obtain ⟨a', vs, ha', h1, h2, _, _, how⟩ := en.own h
  rw [ha] at ha'
  cases ha'
  have oth : ∀ (j : Nat) (t : Sl), ρ[j]? = some t → t.own = true → j ≠ i → σ[j]? ≠ some (some (.ref a)) := fun j t e1 o1 n s1 => n (en.sep j i a t s e1 o1 e ho s1 ha)
  refine ⟨⟨⟨fun b o eb => ?_, en.hp.nt, fun P hP => ?_⟩, fun b hb => ?_, by rw [List.length_set]; exact en.len, fun j t ej => ?_, fun j k b t u e1 o1 e2 o2 s1 s2 => ?_⟩, ⟨fun _ _ q => q, fun b o eb n _ => ?_, fun _ _ _ => rfl, fun b hb => ?_⟩, fun b ⟨j, t, e1, e2, e3⟩ => ?_⟩
  · have : b ≠ a := fun q => by rw [q, h2] at eb; cases eb
    rw [upd_ne this]
    exact en.hp.sub b o eb
  · obtain ⟨ps, ep, tp⟩ := en.hp.tab P hP
    have : P ≠ a := fun q => by rw [q, h1] at ep; cases ep
    exact ⟨ps, by rw [upd_ne this]; exact ep, tp⟩
  · by_cases q : b = a
    · rw [q, upd_same]; simp
    · rw [upd_ne q]; exact en.live0 b hb
  · rw [get_set hi] at ej
    split at ej
    · rename_i eji
      subst eji
      cases ej
      have z := en.at_ j s e
      cases s with
      | un => cases ho
      | er c => cases ho
      | sc ns => cases ho
      | fz d => cases ho
      | fl zs =>
        obtain ⟨b, ws, ev, k1, k2, k0, _, _⟩ := z
        have : b = a := by rw [join_ref ev] at ha; cases ha; rfl
        subst this
        exact ⟨b, us, ev, upd_same, k2, k0, l, r⟩
      | io q zs =>
        obtain ⟨b, ws, ev, k1, k2, k0, _, _⟩ := z
        have : b = a := by rw [join_ref ev] at ha; cases ha; rfl
        subst this
        exact ⟨b, us, ev, upd_same, k2, k0, l, r⟩
    · rename_i eji
      have z := en.at_ j t ej
      cases t with
      | un => trivial
      | er c => trivial
      | sc ns => exact z
      | fz d => exact z
      | fl zs =>
        obtain ⟨b, ws, ev, k1, k2, k0, k3, k4⟩ := z
        have : b ≠ a := fun q => oth j _ ej rfl eji (by rw [join_ref ev, q])
        exact ⟨b, ws, ev, by rw [upd_ne this]; exact k1, k2, k0, k3, k4⟩
      | io q zs =>
        obtain ⟨b, ws, ev, k1, k2, k0, k3, k4⟩ := z
        have : b ≠ a := fun q => oth j _ ej rfl eji (by rw [join_ref ev, q])
        exact ⟨b, ws, ev, by rw [upd_ne this]; exact k1, k2, k0, k3, k4⟩
  · have lift : ∀ (j : Nat) (t : Sl), (ρ.set i (s.put ys))[j]? = some t → t.own = true → ∃ t', ρ[j]? = some t' ∧ t'.own = true := fun j t ej ot => by
      rw [get_set hi] at ej
      split at ej
      · rename_i eji
        subst eji
        exact ⟨s, e, ho⟩
      · exact ⟨t, ej, ot⟩
    obtain ⟨t', e1', o1'⟩ := lift j t e1 o1
    obtain ⟨u', e2', o2'⟩ := lift k u e2 o2
    exact en.sep j k b t' u' e1' o1' e2' o2' s1 s2
  · have : b ≠ a := fun q => n (by rw [q]; exact how)
    rw [upd_ne this]
    exact eb
  · by_cases q : b = a
    · rw [q, upd_same]; simp
    · rw [upd_ne q]; exact hb
  · rw [get_set hi] at e1
    split at e1
    · rename_i eji
      subst eji
      exact ⟨j, s, e, ho, e3⟩
    · exact ⟨j, t, e1, e2, e3⟩
end
/-- xs.append(e) -/
def eApp (i : Nat) (fe : Env → R W) : Env → R W := fun ρ => match ownL ρ i with
  | none => .bad
  | some _ => (eFz fe ρ).bind fun w ρ1 => match w, ownL ρ1 i with
    | .o (.fz d), some xs => if xs.length < sizeLine then .ok (.val .none) (setL ρ1 i (xs ++ [d])) else .bad
    | _, _ => .bad
section
variable {C : Ct} {e : Expr} {fe : Env → R W} {i : Nat} {x : Str} {p apos cpos : Pos}
theorem pd_app (hx : nmB C.N C.sc i x = true) (h : PD C e fe)
    (hbase : ∀ env, attributeBase (.Name x p) "append" env (eval (.Name x p) env) = eval (.Name x p) env := by intro _; rfl)
    (hfew : ∀ env, ((backTo cpos (starEach [e] env)).all (fun x => !x.1) && (backToKw cpos (keywordEach [] env)).all (fun x => x.1.isSome)
      && decide (([e] : List Expr).length + ([] : List Keyword).length + (if ([] : List Keyword).isEmpty then 0 else 1) < 30)) = true := by intro _; rfl)
    (hline : (apos.endLine == cpos.line) = true := by rfl) (hs : ∀ env, starEach [e] env = (false, eval e env) :: starEach [] env := by intro _; rfl) (hplain : ∀ env, (backTo cpos (starEach [] env)).any (·.1) = false := by intro _; rfl) :
    PD C (.Call (.Attribute (.Name x p) "append" apos) [e] [] cpos) (eApp i fe) := fun X Wx ok => by
  obtain ⟨h1, h2, h3, h4⟩ := nmB_spec hx
  refine PE.to (pe_bm PySem.F.plainAttrs_list PySem.F.slot_list_append PySem.F.type_list_append mt_append (pe_var (i := i) (by rw [ok.hN]; exact h1) (by rw [ok.hsc]; exact h2) h3 h4) (pa_cons (h X Wx ok) pa_nil (hs _)) (hbase _) (hfew _) hline (hs _) (hplain _)) ?_
  rintro σ H Q ⟨T, F, ρ, en, pp⟩
  unfold eApp at pp
  cases eo : ownL ρ i with
  | none => rw [eo] at pp; exact pp.elim
  | some xs0 =>
    rw [eo] at pp
    obtain ⟨a, vs, ha, hH, hF, hl, hr, how⟩ := en.own eo
    refine ⟨.ref a, ha, .inl ⟨rfl, vs, SqL.of hH⟩, ?_⟩
    refine tE_fz en ((RPost.bind pp).imp fun w ρ1 F1 H1 e1 en1 l1 p1 v rv => ?_)
    cases w with
    | own j => exact p1.elim
    | o y =>
      cases y with
      | fl ys => exact p1.elim
      | tp ps => exact p1.elim
      | fz d =>
        cases eo1 : ownL ρ1 i with
        | none => simp only [eo1] at p1; exact p1.elim
        | some xs =>
          simp only [eo1] at p1
          by_cases hz : xs.length < sizeLine
          · simp only [hz, if_true] at p1
            obtain ⟨a1, vs1, ha1, hH1, hF1, hl1, hr1, how1⟩ := en1.own eo1
            rw [ha] at ha1
            cases ha1
            have hlen := hr1.len
            obtain ⟨en2, x2, l2⟩ := en1.write (us := vs1 ++ [v]) eo1 ha (by rw [List.length_append, List.length_singleton]; omega) (hr1.append (reps_cons rv reps_nil))
            exact ⟨a, vs1, v, rfl, rfl, hH1, by omega, p1 _ _ x2 en2 l2 _ (repW_val rep_non)⟩
          · simp only [hz, if_false] at p1
            exact p1.elim
end
/-- xs[k] = e -/
def stSub (i : Nat) (fi : Env → R W) (w : W) (ρ : Env) : So := match ownL ρ i with
  | none => .bad
  | some _ => (eNrm fi ρ).so fun wi ρ2 => match w, wi.dat ρ2, ownL ρ2 i with
    | .o (.fz d), some (.int k), some xs => match ixN xs.length k with
      | some j => .nx (setL ρ2 i (xs.set j d))
      | none => .bad
    | _, _, _ => .bad
def sSub (i : Nat) (fi f : Env → R W) : Env → So := fun ρ => (eFz f ρ).so (stSub i fi)
section
variable {C : Ct} {e ix : Expr} {f fi : Env → R W} {i : Nat} {x : Str} {p p2 pos : Pos}
theorem pds_sub (hx : nmB C.N C.sc i x = true) (h : PD C e f) (hi : PD C ix fi) (hs : ∀ env, swapsWithSole [.Subscript (.Name x p) ix p2] e pos.line env = pure false := by intro _; rfl) (hw : ∀ env, swappedStores [.Subscript (.Name x p) ix p2] e env = pure none := by intro _; rfl)
    (h1 : ∀ env, (assignEach [.Subscript (.Name x p) ix p2] env).map (·.2) = [assign (.Subscript (.Name x p) ix p2) env] := by intro _; rfl)
    (hasg : ∀ env v, assign (.Subscript (.Name x p) ix p2) env v = (do
      let ov ← holding [v] (eval (.Name x p) env)
      let iv ← holding [v, ov] (eval ix env)
      standAt p2
      holding [v, ov, iv] (setItem ov iv v)
      release [v, ov, iv] []) := by intro _ _; rfl) : PDS C (.Assign [.Subscript (.Name x p) ix p2] e pos) (sSub i fi f) := fun X Wx ok => by
  obtain ⟨n1, n2, n3, n4⟩ := nmB_spec hx
  refine PS.to (ps_asg (h X Wx ok) (pg_sub (pe_var (i := i) (by rw [ok.hN]; exact n1) (by rw [ok.hsc]; exact n2) n3 n4) (hi X Wx ok) set_list (hasg _)) (hs _) (hw _) (h1 _)) ?_
  rintro Dn σ H ⟨T, F, ρ, en, pp⟩
  refine tE_fz en ((SPost.so pp).imp fun w ρ1 F1 H1 e1 en1 l1 p1 v rv => ?_)
  unfold stSub at p1
  cases eo : ownL ρ1 i with
  | none => simp only [eo] at p1; exact p1.elim
  | some xs0 =>
    simp only [eo] at p1
    obtain ⟨a, vs, ha, hH, hF, hl, hr, how⟩ := en1.own eo
    refine ⟨.ref a, ha, ?_⟩
    refine tE_nrm en1 ((SPost.so p1).imp fun wi ρ2 F2 H2 e2 en2 l2 p2 u ru => ?_)
    split at p2 <;> try (exact p2.elim)
    rename_i d k xs ek eo2
    split at p2 <;> try (exact p2.elim)
    rename_i j hj
    obtain ⟨a2, vs2, ha2, hH2, hF2, hl2, hr2, how2⟩ := en2.own eo2
    rw [ha] at ha2
    cases ha2
    have rv : Rep C.G.K F1 d v := rv
    obtain rfl := repC_int (ru.read en2 ek)
    obtain ⟨en3, x3, l3⟩ := en2.write (us := vs2.set j v) eo2 ha (by rw [List.length_set]; exact hl2) (hr2.set (rv.mono e2.fle) j)
    exact ⟨a, vs2, k, j, rfl, rfl, hH2, by rw [hr2.len]; exact hj, p2.nxt en3 x3 fun b z => .inl (l3 b z)⟩
end
/-- name += e, ints -/
def sAug (g : Int → Int → Int) (i : Nat) (f : Env → R W) : Env → So := fun ρ => match ρ[i]? with
  | some (.fz (.int a)) => (eNrm f ρ).so fun w ρ1 => match w.dat ρ1 with
    | some (.int b) => if i < ρ1.length then .nx (ρ1.set i (.fz (.int (g a b)))) else .bad
    | _ => .bad
  | _ => .bad
section
variable {C : Ct} {e : Expr} {f : Env → R W} {i : Nat} {x : Str} {p pos : Pos} {op : Operator} {g : Int → Int → Int}
theorem pds_aug (ho : ∀ X : Cx, PIp X op (ipI g)) (hl : locB C i x = true) (h : PD C e f) : PDS C (.AugAssign (.Name x p) op e pos) (sAug g i f) := fun X Wx ok => by
  obtain ⟨h1, h2, h3⟩ := locB_spec hl
  refine PS.to (ps_aug ok.nodup (i := i) (by rw [ok.hN]; exact h1) (by rw [ok.hsc]; exact h2) (h X Wx ok) (ho X) (by rw [ok.fn, ok.hsc]; exact h3)) ?_
  rintro Dn σ H ⟨T, F, ρ, en, pp⟩
  unfold sAug at pp
  split at pp <;> try (exact pp.elim)
  rename_i a ea
  obtain ⟨v, ev, r⟩ := en.at_ i _ ea
  rw [Rep] at r
  subst r
  have ev' : σ[i]? = some (some (.int a)) := by
    cases q : σ[i]? with
    | none => rw [q] at ev; cases ev
    | some o => rw [q] at ev; have ev : o = some (V.int a) := ev; rw [ev]
  refine ⟨.int a, ev', ?_⟩
  refine tE_nrm en ((SPost.so pp).imp fun w ρ1 F1 H1 e1 en1 l1 p1 v rv => ?_)
  split at p1 <;> try (exact p1.elim)
  rename_i b eb
  by_cases hi : i < ρ1.length
  · simp only [hi, if_true] at p1
    obtain rfl := repC_int (rv.read en1 eb)
    obtain ⟨en2, l2⟩ := en1.setFz (v := .int (g a b)) hi rep_int
    exact ⟨a, b, rfl, rfl, p1.nxt en2 Ext.refl fun z q => .inl (l2 z q)⟩
  · simp only [hi, if_false] at p1
    exact p1.elim
end

/-! ### raise -/
abbrev veB : List Value := [.type "ValueError", .type "Exception", .type "BaseException", .type "object"]
/-- the class x of exceptions stands at its place -/
structure ExcD (G : GG) (x : Str) : Prop where
  in_ : PySem.W.excIn G.K (G.cls x) veB "ValueError.__new__" = true
  mg : G.mg x = some (.ref (G.cls x))
  kp : PySem.W.keepIn G.K (.ref (G.cls x)) = true
  sub : PySem.W.subIn G.K (.ref (G.cls x)) (.type "BaseException") = some true
  ty : PySem.W.typeIn G.K (.ref (G.cls x)) = some (.type "type")
def sRaise (c : Str) : Env → So := fun ρ => .exc c ρ
theorem pds_raise {C : Ct} {x m : Str} {j : Nat} {p p2 pos pos2 : Pos} (hx : ExcD C.G x) (hg : glB C.sc x = true) :
    PDS C (.Raise (some (.Call (.Name x p) [.Constant (.str m) j p2] [] pos)) none pos2) (sRaise x) := fun X Wx ok => by
  refine PS.to (L2.ps_raise ok.calm ok.takes (pmk_own PySem.F.excBase_ValueError (C := C.G.cls x) (by rw [ok.K]; exact hx.in_) (by rw [ok.mg]; exact hx.mg) (by rw [ok.K]; exact hx.kp) (raises_own (by rw [ok.K]; exact hx.sub) (by rw [ok.K]; exact hx.ty)) (ok.gl hg) (glB_spec hg).2.1)) fun Dn σ H ⟨T, F, ρ, en, pp⟩ => pp σ F H Ext.refl en grow_refl
end PL
end
section
set_option Elab.async false
set_option linter.all false
set_option maxRecDepth 100000
set_option maxHeartbeats 2000000
set_option autoImplicit false
/-! Defs and their calls. -/
namespace PL
open PySem PySem.Spec PyProof.Rows L2

/-- how an argument is taken: as data; a list to be changed; the script -/
inductive Md where
  | d | io | sc
inductive DOut where
  | ret (o : O) (outs : List (List D)) | exc (c : Str) (outs : List (List D)) | bad
abbrev DefSem := List D → DOut
def RepArgs (G : GG) (F H : Hp) : List Md → List D → List V → List Addr → Prop
  | [], ds, vs, ios => ds = [] ∧ vs = [] ∧ ios = []
  | .d :: ms, ds, vs, ios => ∃ d ds' v vs', ds = d :: ds' ∧ vs = v :: vs' ∧ Rep G.K F d v ∧ RepArgs G F H ms ds' vs' ios
  | .io :: ms, ds, vs, ios => ∃ xs ds' a vs' r us, ds = .list xs :: ds' ∧ vs = .ref a :: vs' ∧ ios = a :: r ∧ H a = some (.lst us) ∧ F a = none ∧ us.length ≤ sizeLine ∧ Reps G.K F xs us ∧ RepArgs G F H ms ds' vs' r
  | .sc :: ms, ds, vs, ios => ∃ (ns : List Int) (ds' : List D) (a : Addr) (vs' : List V), ds = .list (ns.map PyData.int) :: ds' ∧ vs = .ref a :: vs' ∧ SqL G.K F a (ns.map V.int) ∧ ns.length ≤ 63 ∧ RepArgs G F H ms ds' vs' ios
def IosOk (G : GG) (F H : Hp) (ios : List Addr) (outs : List (List D)) : Prop :=
  ∀ (k : Nat) (a : Addr), ios[k]? = some a → ∃ xs us, outs[k]? = some xs ∧ H a = some (.lst us) ∧ F a = none ∧ us.length ≤ sizeLine ∧ Reps G.K F xs us
def DPost (G : GG) (F H : Hp) (ios : List Addr) (Q : VK) (E : XK) : DOut → Prop
  | .ret o outs => ∀ F' H' v A, Ext (· ∈ ios) F H F' H' → HpOk G F' H' → RepO G.K F' H' v o A → A.Nodup → (∀ a ∈ A, H a = none) → IosOk G F' H' ios outs → Q v H'
  | .exc c outs => ∀ F' H', Ext (· ∈ ios) F H F' H' → HpOk G F' H' → IosOk G F' H' ios outs → E (.ref (G.cls c)) none H'
  | .bad => False
def spD (G : GG) (ms : List Md) (f : DefSem) : Sp := fun vs H Q E => ∃ F ds ios, HpOk G F H ∧ RepArgs G F H ms ds vs ios ∧ ios.Nodup ∧ DPost G F H ios Q E (f ds)
theorem repArgs_len {G : GG} {F H : Hp} : ∀ {ms : List Md} {ds : List D} {vs : List V} {ios : List Addr}, RepArgs G F H ms ds vs ios → vs.length = ms.length ∧ ds.length = ms.length
  | [], _, _, _, h => by obtain ⟨rfl, rfl, _⟩ := h; exact ⟨rfl, rfl⟩
  | .d :: ms, _, _, _, h => by
    obtain ⟨d, ds', v, vs', rfl, rfl, _, h⟩ := h
    obtain ⟨h1, h2⟩ := repArgs_len h
    exact ⟨by rw [List.length_cons, List.length_cons, h1], by rw [List.length_cons, List.length_cons, h2]⟩
  | .io :: ms, _, _, _, h => by
    obtain ⟨xs, ds', a, vs', r, us, rfl, rfl, rfl, _, _, _, _, h⟩ := h
    obtain ⟨h1, h2⟩ := repArgs_len h
    exact ⟨by rw [List.length_cons, List.length_cons, h1], by rw [List.length_cons, List.length_cons, h2]⟩
  | .sc :: ms, _, _, _, h => by
    obtain ⟨ns, ds', a, vs', rfl, rfl, _, _, h⟩ := h
    obtain ⟨h1, h2⟩ := repArgs_len h
    exact ⟨by rw [List.length_cons, List.length_cons, h1], by rw [List.length_cons, List.length_cons, h2]⟩
/-- the entry -/
def args : List Md → Nat → List D → Env
  | .d :: ms, j, d :: ds => .fz d :: args ms j ds
  | .io :: ms, j, .list xs :: ds => .io j xs :: args ms (j + 1) ds
  | .sc :: ms, j, .list xs :: ds => (match intsD xs with | some ns => .sc ns | none => .un) :: args ms j ds
  | _ :: ms, j, _ :: ds => .un :: args ms j ds
  | _, _, _ => []
def entry (n : Nat) (ms : List Md) (ds : List D) : Env := args ms 0 ds ++ List.replicate (n - ms.length) .un
theorem args_len {G : GG} {F H : Hp} : ∀ {ms : List Md} {ds : List D} {vs : List V} {ios : List Addr} {j : Nat}, RepArgs G F H ms ds vs ios → (args ms j ds).length = ms.length
  | [], _, _, _, _, h => by obtain ⟨rfl, rfl, _⟩ := h; rfl
  | .d :: ms, _, _, _, j, h => by
    obtain ⟨d, ds', v, vs', rfl, rfl, _, h⟩ := h
    show (args ms j ds').length + 1 = ms.length + 1
    rw [args_len h]
  | .io :: ms, _, _, _, j, h => by
    obtain ⟨xs, ds', a, vs', r, us, rfl, rfl, rfl, _, _, _, _, h⟩ := h
    show (args ms (j + 1) ds').length + 1 = ms.length + 1
    rw [args_len h]
  | .sc :: ms, _, _, _, j, h => by
    obtain ⟨ns, ds', a, vs', rfl, rfl, _, _, h⟩ := h
    show (args ms j ds').length + 1 = ms.length + 1
    rw [args_len h]
/-- slots at the entry: T's ios from the j-th on -/
theorem args_at {G : GG} {T : Fm} {F H : Hp} : ∀ {ms : List Md} {ds : List D} {vs : List V} {ios : List Addr} {j : Nat}, RepArgs G F H ms ds vs ios → (∀ (k : Nat) (a : Addr), ios[k]? = some a → T.ios[j + k]? = some a) →
    ∀ (i : Nat) (s : Sl), (args ms j ds)[i]? = some s → SlOk G.K T F H (vs[i]?) s ∧ (s.own = true → ∃ (k : Nat) (a : Addr), ios[k]? = some a ∧ vs[i]? = some (.ref a) ∧ ∀ (i' : Nat) (s' : Sl), (args ms j ds)[i']? = some s' → s'.own = true → vs[i']? = some (.ref a) → ios.Nodup → i' = i)
  | [], ds, vs, ios, j, h, hj, i, s, e => by
    obtain ⟨rfl, rfl, _⟩ := h
    cases i <;> cases e
  | .d :: ms, _, _, ios, j, h, hj, i, s, e => by
    obtain ⟨d, ds', v, vs', rfl, rfl, r, h⟩ := h
    cases i with
    | zero =>
      have e : some (Sl.fz d) = some s := e
      cases e
      exact ⟨⟨v, rfl, r⟩, fun z => by cases z⟩
    | succ i =>
      have e : (args ms j ds')[i]? = some s := e
      obtain ⟨h1, h2⟩ := args_at h hj i s e
      refine ⟨h1, fun z => ?_⟩
      obtain ⟨k, a, h3, h4, h5⟩ := h2 z
      refine ⟨k, a, h3, h4, fun i' s' e' o' v' nd => ?_⟩
      cases i' with
      | zero =>
        have e' : some (Sl.fz d) = some s' := e'
        cases e'; cases o'
      | succ i' => rw [h5 i' s' e' o' v' nd]
  | .io :: ms, _, _, _, j, h, hj, i, s, e => by
    obtain ⟨xs, ds', a, vs', r, us, rfl, rfl, rfl, q1, q2, q3, q4, h⟩ := h
    have hj' : ∀ (k : Nat) (b : Addr), r[k]? = some b → T.ios[j + 1 + k]? = some b := fun k b hk => by
      have := hj (k + 1) b hk
      rw [show j + 1 + k = j + (k + 1) by omega]
      exact this
    have mem_of : ∀ (i' : Nat) (s' : Sl) (b : Addr), (args ms (j + 1) ds')[i']? = some s' → s'.own = true → vs'[i']? = some (.ref b) → b ∈ r := fun i' s' b e' o' v' => by
      obtain ⟨_, h2⟩ := args_at h hj' i' s' e'
      obtain ⟨k, c, h3, h4, _⟩ := h2 o'
      rw [v'] at h4
      cases h4
      exact List.mem_of_getElem? h3
    cases i with
    | zero =>
      have e : some (Sl.io j xs) = some s := e
      cases e
      refine ⟨⟨a, us, rfl, q1, q2, by have := hj 0 a rfl; simpa using this, q3, q4⟩, fun _ => ⟨0, a, rfl, rfl, fun i' s' e' o' v' nd => ?_⟩⟩
      cases i' with
      | zero => rfl
      | succ i' => exact absurd (mem_of i' s' a e' o' v') (List.nodup_cons.mp nd).1
    | succ i =>
      have e : (args ms (j + 1) ds')[i]? = some s := e
      obtain ⟨h1, h2⟩ := args_at h hj' i s e
      refine ⟨h1, fun z => ?_⟩
      obtain ⟨k, b, h3, h4, h5⟩ := h2 z
      refine ⟨k + 1, b, h3, h4, fun i' s' e' o' v' nd => ?_⟩
      cases i' with
      | zero =>
        have v' : some (V.ref a) = some (.ref b) := v'
        cases v'
        exact absurd (List.mem_of_getElem? h3) (List.nodup_cons.mp nd).1
      | succ i' => rw [h5 i' s' e' o' v' (List.nodup_cons.mp nd).2]
  | .sc :: ms, _, _, ios, j, h, hj, i, s, e => by
    obtain ⟨ns, ds', a, vs', rfl, rfl, q1, q2, h⟩ := h
    have e0 : args (.sc :: ms) j (PyData.list (ns.map PyData.int) :: ds') = .sc ns :: args ms j ds' := by
      show (match intsD (ns.map PyData.int) with | some ns => Sl.sc ns | none => .un) :: args ms j ds' = _
      rw [intsD_map]
    rw [e0] at e ⊢
    cases i with
    | zero =>
      have e : some (Sl.sc ns) = some s := e
      cases e
      exact ⟨⟨a, rfl, q1, q2⟩, fun z => by cases z⟩
    | succ i =>
      have e : (args ms j ds')[i]? = some s := e
      obtain ⟨h1, h2⟩ := args_at h hj i s e
      refine ⟨h1, fun z => ?_⟩
      obtain ⟨k, b, h3, h4, h5⟩ := h2 z
      refine ⟨k, b, h3, h4, fun i' s' e' o' v' nd => ?_⟩
      cases i' with
      | zero =>
        have e' : some (Sl.sc ns) = some s' := e'
        cases e'; cases o'
      | succ i' => rw [h5 i' s' e' o' v' nd]
theorem start_get {N : List Str} {vs : List V} {i : Nat} : (L2.start N vs)[i]? = if i < vs.length then (vs[i]?).map some else if i < N.length then some none else none := by
  unfold L2.start
  by_cases h : i < vs.length
  · rw [if_pos h, List.getElem?_append_left (by simpa using h), List.getElem?_map]
  · rw [if_neg h, List.getElem?_append_right (by simpa using h), List.getElem?_replicate, List.length_map]
    by_cases h2 : i < N.length
    · rw [if_pos (by omega), if_pos h2]
    · rw [if_neg (by omega), if_neg h2]
theorem entry_ok {G : GG} {F H : Hp} {N : List Str} {ms : List Md} {ds : List D} {vs : List V} {ios : List Addr} (hp : HpOk G F H) (r : RepArgs G F H ms ds vs ios) (nd : ios.Nodup) (hl : ms.length ≤ N.length) : EnvOk G ⟨ios, H⟩ F H (L2.start N vs) (entry N.length ms ds) := by
  obtain ⟨l1, l2⟩ := repArgs_len r
  have l3 : (args ms 0 ds).length = ms.length := args_len r
  have at0 := args_at (T := ⟨ios, H⟩) (j := 0) r (fun k a h => by simpa using h)
  have old : ∀ (i : Nat) (s : Sl), (entry N.length ms ds)[i]? = some s → s = .un ∨ ((args ms 0 ds)[i]? = some s ∧ i < vs.length) := fun i s e => by
    unfold entry at e
    by_cases h : i < (args ms 0 ds).length
    · rw [List.getElem?_append_left h] at e
      exact .inr ⟨e, by omega⟩
    · rw [List.getElem?_append_right (by omega), List.getElem?_replicate] at e
      split at e
      · cases e; exact .inl rfl
      · cases e
  have sg : ∀ (i : Nat), i < vs.length → ((L2.start N vs)[i]?).join = vs[i]? := fun i h => by
    rw [start_get, if_pos h]
    cases vs[i]? <;> rfl
  refine ⟨hp, fun _ z => z, ?_, fun i s e => ?_, fun i k a s t e1 o1 e2 o2 s1 s2 => ?_⟩
  · unfold L2.start entry
    rw [List.length_append, List.length_append, List.length_map, List.length_replicate, List.length_replicate, l1, l3]
  · rcases old i s e with rfl | ⟨e, hi⟩
    · trivial
    · rw [sg i hi]
      exact (at0 i s e).1
  · rcases old i s e1 with rfl | ⟨e1, hi⟩
    · cases o1
    · rcases old k t e2 with rfl | ⟨e2, hk⟩
      · cases o2
      · obtain ⟨m, b, h3, h4, h5⟩ := (at0 i s e1).2 o1
        have v1 : vs[i]? = some (.ref a) := by
          rw [start_get, if_pos hi] at s1
          cases q : vs[i]? with
          | none => rw [q] at s1; cases s1
          | some x => rw [q] at s1; cases s1; rfl
        have v2 : vs[k]? = some (.ref a) := by
          rw [start_get, if_pos hk] at s2
          cases q : vs[k]? with
          | none => rw [q] at s2; cases s2
          | some x => rw [q] at s2; cases s2; rfl
        rw [v1] at h4
        cases h4
        exact (h5 k t e2 o2 v2 nd).symm
/-- the lists handed in, at the end: slots from i on, the j-th of them next -/
def iosOf : List Md → Nat → Nat → Env → Option (List (List D))
  | [], _, _, _ => some []
  | .io :: ms, i, j, ρ => match ρ[i]? with
    | some (.io j' xs) => if j' = j then (match iosOf ms (i + 1) (j + 1) ρ with
      | some r => some (xs :: r)
      | none => none) else none
    | _ => none
  | .d :: ms, i, j, ρ => iosOf ms (i + 1) j ρ
  | .sc :: ms, i, j, ρ => iosOf ms (i + 1) j ρ
def mkRet (o : O) : Option (List (List D)) → DOut
  | some outs => .ret o outs
  | none => .bad
def mkExc (c : Str) : Option (List (List D)) → DOut
  | some outs => .exc c outs
  | none => .bad
def outOf (ms : List Md) : So → DOut
  | .nx ρ => mkRet (.fz .none) (iosOf ms 0 0 ρ)
  | .rt (.o x) ρ => mkRet x (iosOf ms 0 0 ρ)
  | .rt (.own i) ρ => match ρ[i]? with
    | some (.fl xs) => mkRet (.fl xs) (iosOf ms 0 0 ρ)
    | _ => .bad
  | .exc c ρ => mkExc c (iosOf ms 0 0 ρ)
  | _ => .bad
def semOf (n : Nat) (ms : List Md) (t : Env → So) : DefSem := fun ds => outOf ms (t (entry n ms ds))
theorem ios_count {G : GG} {F H : Hp} : ∀ {ms : List Md} {ds : List D} {vs : List V} {ios : List Addr}, RepArgs G F H ms ds vs ios → ∀ {i j : Nat} {ρ : Env} {outs : List (List D)}, iosOf ms i j ρ = some outs → ios.length = outs.length ∧ ∀ (k : Nat) (xs : List D), outs[k]? = some xs → ∃ i' : Nat, ρ[i']? = some (.io (j + k) xs)
  | [], _, _, _, h, i, j, ρ, outs, e => by
    obtain ⟨_, _, rfl⟩ := h
    cases e
    exact ⟨rfl, fun k xs z => by cases z⟩
  | .d :: ms, _, _, _, h, i, j, ρ, outs, e => by
    obtain ⟨d, ds', v, vs', rfl, rfl, r, h⟩ := h
    exact ios_count h e
  | .sc :: ms, _, _, _, h, i, j, ρ, outs, e => by
    obtain ⟨ns, ds', a, vs', rfl, rfl, q1, q2, h⟩ := h
    exact ios_count h e
  | .io :: ms, _, _, _, h, i, j, ρ, outs, e => by
    obtain ⟨xs, ds', a, vs', r, us, rfl, rfl, rfl, q1, q2, q3, q4, h⟩ := h
    unfold iosOf at e
    split at e <;> try (cases e; done)
    rename_i j' ys ei
    split at e <;> try (cases e; done)
    rename_i ej
    subst ej
    cases e2 : iosOf ms (i + 1) (j' + 1) ρ with
    | none => rw [e2] at e; cases e
    | some r' =>
      rw [e2] at e
      cases e
      obtain ⟨h1, h2⟩ := ios_count h e2
      refine ⟨by rw [List.length_cons, List.length_cons, h1], fun k xs z => ?_⟩
      cases k with
      | zero =>
        cases z
        exact ⟨i, ei⟩
      | succ k =>
        obtain ⟨i', hi'⟩ := h2 k xs z
        exact ⟨i', by rw [hi', show j' + 1 + k = j' + (k + 1) by omega]⟩
theorem ios_end {G : GG} {F H F' H' : Hp} {ms : List Md} {ds : List D} {vs : List V} {ios : List Addr} {σ : L2.St} {ρ : Env} {outs : List (List D)} (r : RepArgs G F H ms ds vs ios) (en : EnvOk G ⟨ios, H⟩ F' H' σ ρ) (e : iosOf ms 0 0 ρ = some outs) : IosOk G F' H' ios outs := by
  obtain ⟨h1, h2⟩ := ios_count r e
  intro k a hk
  have hlt : k < outs.length := by
    have := (List.getElem?_eq_some_iff.mp hk).1
    omega
  obtain ⟨i, hi⟩ := h2 k outs[k] (by simp [hlt])
  obtain ⟨b, us, ev, q1, q2, q3, q4, q5⟩ := en.at_ i _ hi
  have q3 : ios[0 + k]? = some b := q3
  rw [Nat.zero_add, hk] at q3
  cases q3
  exact ⟨_, us, by simp [hlt], q1, q2, q4, q5⟩
theorem ios_old {G : GG} {F H : Hp} : ∀ {ms : List Md} {ds : List D} {vs : List V} {ios : List Addr}, RepArgs G F H ms ds vs ios → ∀ a ∈ ios, ∃ us, H a = some (.lst us)
  | [], _, _, _, h, a, ha => by obtain ⟨_, _, rfl⟩ := h; cases ha
  | .d :: ms, _, _, _, h, a, ha => by
    obtain ⟨d, ds', v, vs', rfl, rfl, r, h⟩ := h
    exact ios_old h a ha
  | .sc :: ms, _, _, _, h, a, ha => by
    obtain ⟨ns, ds', b, vs', rfl, rfl, q1, q2, h⟩ := h
    exact ios_old h a ha
  | .io :: ms, _, _, _, h, a, ha => by
    obtain ⟨xs, ds', b, vs', r, us, rfl, rfl, rfl, q1, q2, q3, q4, h⟩ := h
    rcases List.mem_cons.mp ha with z | z
    · rw [z]; exact ⟨us, q1⟩
    · exact ios_old h a z
/-- own slots at the entry are the lists handed in -/
theorem entry_owns {G : GG} {F H : Hp} {N : List Str} {ms : List Md} {ds : List D} {vs : List V} {ios : List Addr} (r : RepArgs G F H ms ds vs ios) {a : Addr} (h : Owns (L2.start N vs) (entry N.length ms ds) a) : a ∈ ios := by
  obtain ⟨l1, l2⟩ := repArgs_len r
  have l3 : (args ms 0 ds).length = ms.length := args_len r
  obtain ⟨i, s, e1, e2, e3⟩ := h
  unfold entry at e1
  by_cases hlt : i < (args ms 0 ds).length
  · rw [List.getElem?_append_left hlt] at e1
    obtain ⟨k, b, h3, h4, _⟩ := (args_at (T := ⟨ios, H⟩) (j := 0) r (fun k a h => by simpa using h) i s e1).2 e2
    rw [start_get, if_pos (by omega)] at e3
    rw [h4] at e3
    cases e3
    exact List.mem_of_getElem? h3
  · rw [List.getElem?_append_right (by omega), List.getElem?_replicate] at e1
    split at e1
    · cases e1; cases e2
    · cases e1
theorem def_post {G : GG} {F H : Hp} {N : List Str} {ms : List Md} {ds : List D} {vs : List V} {ios : List Addr} {Q : VK} {E : XK} {o : So} (hp : HpOk G F H) (r : RepArgs G F H ms ds vs ios) (h : DPost G F H ios Q E (outOf ms o)) :
    SPost G ⟨ios, H⟩ (fun cls d _ H => E cls d H) F H (L2.start N vs) (entry N.length ms ds) { nx := fun _ H' => Q .non H', rt := Q } o := by
  have ext : ∀ {F' H' : Hp}, Ext (Owns (L2.start N vs) (entry N.length ms ds)) F H F' H' → Ext (· ∈ ios) F H F' H' := fun e => e.weaken fun a z => entry_owns r z
  cases o with
  | bad => exact h
  | bk ρ' => exact False.elim h
  | ct ρ' => exact False.elim h
  | nx ρ' =>
    have h : DPost G F H ios Q E (mkRet (.fz .none) (iosOf ms 0 0 ρ')) := h
    cases ei : iosOf ms 0 0 ρ' with
    | none => rw [ei] at h; exact False.elim h
    | some outs =>
      rw [ei] at h
      exact fun σ' F' H' e en l => h F' H' .non [] (ext e) en.hp ⟨rfl, rep_non⟩ List.nodup_nil (by simp) (ios_end r en ei)
  | exc c ρ' =>
    have h : DPost G F H ios Q E (mkExc c (iosOf ms 0 0 ρ')) := h
    cases ei : iosOf ms 0 0 ρ' with
    | none => rw [ei] at h; exact False.elim h
    | some outs =>
      rw [ei] at h
      exact fun σ' F' H' e en l => h F' H' (ext e) en.hp (ios_end r en ei)
  | rt w ρ' =>
    cases w with
    | o x =>
      have h : DPost G F H ios Q E (mkRet x (iosOf ms 0 0 ρ')) := h
      cases ei : iosOf ms 0 0 ρ' with
      | none => rw [ei] at h; exact False.elim h
      | some outs =>
        rw [ei] at h
        rintro σ' F' H' v e en l ⟨A, r1, r2, r3⟩
        exact h F' H' v A (ext e) en.hp r1 r2 (fun a ha => (r3 a ha).1) (ios_end r en ei)
    | own i =>
      have h : DPost G F H ios Q E (match ρ'[i]? with | some (.fl xs) => mkRet (.fl xs) (iosOf ms 0 0 ρ') | _ => .bad) := h
      split at h
      · rename_i xs es
        cases ei : iosOf ms 0 0 ρ' with
        | none => rw [ei] at h; exact False.elim h
        | some outs =>
          rw [ei] at h
          intro σ' F' H' v e en l rv
          obtain ⟨a, us, ev, q1, q2, q0, q3, q4⟩ := en.at_ i _ es
          have rv : σ'[i]? = some (some v) := rv
          rw [rv] at ev
          have ev : v = .ref a := Option.some.inj ev
          subst ev
          exact h F' H' (.ref a) [a] (ext e) en.hp ⟨a, us, rfl, rfl, q1, q2, q3, q4⟩ (by simp) (fun b hb => by rw [List.mem_singleton.mp hb]; exact q0) (ios_end r en ei)
      · exact False.elim h
/-- a def keeps its promise -/
abbrev DefOk (G : GG) (k : Nat) (f : Addr) (fd : FuncData) (ps : List Str) (ms : List Md) (sem : DefSem) : Prop := FnOk G.P G.w G.K G.mg G.base (L2.CX G.P G.w) k f fd ps (spD G ms sem)
theorem def_body {G : GG} {k : Nat} {N ps : List Str} {ms : List Md} {qual : Str} {scope : Scope} {f : Addr} {cdv : Value} {t : Env → So} {body : List Stmt} {tab : Option (Addr × Addr)} (S : FnScope N ps scope) (hms : ms.length = ps.length)
    (hcod : ∀ c P, tab = some (c, P) → cdv = .ref c ∧ GxR.TabB G.base G.mg c P ∧ P ∈ G.tb) (hb : PDSs ⟨G, N, scope, k, fun _ => true, tab⟩ body t)
    (A : Around) (outer : List PySem.Env) (s : Shared) (H : Hp) (vs : List V) (Q : VK) (E : XK) (hr : Room k (A.deeper (envOfC qual scope s.heap.objs.size f cdv))) (h : spD G ms (semOf N.length ms t) vs H Q E) :
    ∃ t', PSs (cxOf (L2.CX G.P G.w) G.P G.w G.K G.mg G.base N qual scope f cdv A outer s H E) body t' ∧ t' { nx := fun _ H' => Q .non H', rt := Q } (L2.start N vs) H := by
  obtain ⟨F, ds, ios, hp, r, nd, h⟩ := h
  have hpl : ps.length ≤ N.length := by have := congrArg List.length S.pre; rw [List.length_take] at this; omega
  refine ⟨_, hb _ (fun cls d _ H => E cls d H) ⟨rfl, rfl, S.nd, rfl, rfl, rfl, rfl, rfl, rfl, hr, L2.takes_of rfl rfl rfl rfl, L2.passes_of rfl, fun _ => rfl, hcod⟩, ⟨ios, H⟩, F, entry N.length ms ds, entry_ok hp r nd (by omega), def_post hp r h⟩
theorem spD_len {G : GG} {ms : List Md} {sem : DefSem} {ps : List Str} (hms : ms.length = ps.length) (vs : List V) (H : Hp) (Q : VK) (E : XK) (h : spD G ms sem vs H Q E) : vs.length = ps.length := by
  obtain ⟨F, ds, ios, hp, r, nd, h⟩ := h
  rw [(repArgs_len r).1, hms]
end PL
end
section
set_option Elab.async false
set_option linter.all false
set_option maxRecDepth 100000
set_option maxHeartbeats 2000000
set_option autoImplicit false
/-! Calls of defs. -/
namespace PL
open PySem PySem.Spec PyProof.Rows L2

/-! ### arguments as a call takes them -/
def argD : List Md → List W → Env → Option (List D × List Nat)
  | [], [], _ => some ([], [])
  | .d :: ms, .o (.fz d) :: ws, ρ => match argD ms ws ρ with
    | some (ds, is) => some (d :: ds, is)
    | none => none
  | .io :: ms, .own i :: ws, ρ => match ownL ρ i, argD ms ws ρ with
    | some xs, some (ds, is) => some (.list xs :: ds, i :: is)
    | _, _ => none
  | .sc :: ms, .own i :: ws, ρ => match ρ[i]?, argD ms ws ρ with
    | some (.sc ns), some (ds, is) => some (.list (ns.map PyData.int) :: ds, is)
    | _, _ => none
  | _, _, _ => none
def putL (ρ : Env) : List Nat → List (List D) → Env
  | i :: is, xs :: outs => putL (setL ρ i xs) is outs
  | _, _ => ρ
section
variable {G : GG} {T : Fm} {F H F' H' : Hp} {σ : L2.St} {ρ : Env}
theorem setL_get {i j : Nat} {xs : List D} : (setL ρ i xs)[j]? = if j = i then (ρ[j]?).map (Sl.put xs) else ρ[j]? := by
  unfold setL
  cases e : ρ[i]? with
  | none =>
    by_cases q : j = i
    · subst q; rw [if_pos rfl, e]; rfl
    · rw [if_neg q]
  | some s =>
    have hi : i < ρ.length := (List.getElem?_eq_some_iff.mp e).1
    show (ρ.set i (s.put xs))[j]? = _
    rw [get_set hi]
    by_cases q : j = i
    · subst q; rw [if_pos rfl, if_pos rfl, e]; rfl
    · rw [if_neg q, if_neg q]
theorem setL_len {i : Nat} {xs : List D} : (setL ρ i xs).length = ρ.length := by
  unfold setL
  split
  · rw [List.length_set]
  · rfl
theorem putL_len : ∀ {is : List Nat} {outs : List (List D)} {ρ : Env}, (putL ρ is outs).length = ρ.length
  | [], _, _ => by unfold putL; rfl
  | _ :: _, [], _ => by unfold putL; rfl
  | i :: is, xs :: outs, ρ => by unfold putL; rw [putL_len, setL_len]
theorem putL_out : ∀ {is : List Nat} {outs : List (List D)} {ρ : Env} {j : Nat}, j ∉ is → (putL ρ is outs)[j]? = ρ[j]?
  | [], _, _, _, _ => by unfold putL; rfl
  | _ :: _, [], _, _, _ => by unfold putL; rfl
  | i :: is, xs :: outs, ρ, j, h => by
    unfold putL
    rw [putL_out (fun z => h (List.mem_cons_of_mem _ z)), setL_get, if_neg (fun z => h (by rw [z]; exact List.mem_cons_self))]
theorem putL_in : ∀ {is : List Nat} {outs : List (List D)} {ρ : Env} {k j : Nat} {xs : List D}, is.Nodup → is[k]? = some j → outs[k]? = some xs → (putL ρ is outs)[j]? = (ρ[j]?).map (Sl.put xs)
  | [], _, _, _, _, _, _, h, _ => by cases h
  | _ :: _, [], _, _, _, _, _, _, h => by cases h
  | i :: is, ys :: outs, ρ, 0, j, xs, nd, h1, h2 => by
    cases h1
    cases h2
    unfold putL
    rw [putL_out (List.nodup_cons.mp nd).1, setL_get, if_pos rfl]
  | i :: is, ys :: outs, ρ, k + 1, j, xs, nd, h1, h2 => by
    unfold putL
    have hj : j ≠ i := fun z => (List.nodup_cons.mp nd).1 (by rw [← z]; exact List.mem_of_getElem? h1)
    rw [putL_in (List.nodup_cons.mp nd).2 h1 h2, setL_get, if_neg hj]
/-- the slots is hold the lists at ios -/
def Slots (σ : L2.St) (ρ : Env) (is : List Nat) (ios : List Addr) : Prop := is.length = ios.length ∧ ∀ (k i : Nat), is[k]? = some i → ∃ a s, ios[k]? = some a ∧ ρ[i]? = some s ∧ s.own = true ∧ σ[i]? = some (some (V.ref a))
theorem arg_reps (en : EnvOk G T F H σ ρ) : ∀ {ms : List Md} {ws : List W} {vs : List V} {ds : List D} {is : List Nat}, RepNs G.K F σ ws vs → argD ms ws ρ = some (ds, is) → ∃ ios, RepArgs G F H ms ds vs ios ∧ Slots σ ρ is ios
  | [], [], vs, ds, is, r, e => by
    cases e
    have r : vs = [] := r
    exact ⟨[], ⟨rfl, r, rfl⟩, rfl, fun k i h => by cases h⟩
  | [], _ :: _, _, _, _, _, e => by cases e
  | .d :: ms, [], _, _, _, _, e => by cases e
  | .io :: ms, [], _, _, _, _, e => by cases e
  | .sc :: ms, [], _, _, _, _, e => by cases e
  | .d :: ms, w :: ws, vs, ds, is, r, e => by
    obtain ⟨v, vs', rfl, r1, r2⟩ := r
    cases w with
    | own i => cases e
    | o x =>
      cases x with
      | fl xs => cases e
      | tp ps => cases e
      | fz d =>
        unfold argD at e
        cases e2 : argD ms ws ρ with
        | none => rw [e2] at e; cases e
        | some q =>
          obtain ⟨ds', is'⟩ := q
          rw [e2] at e
          cases e
          obtain ⟨ios, h1, h2⟩ := arg_reps en r2 e2
          exact ⟨ios, ⟨d, ds', v, vs', rfl, rfl, r1, h1⟩, h2⟩
  | .io :: ms, w :: ws, vs, ds, is, r, e => by
    obtain ⟨v, vs', rfl, r1, r2⟩ := r
    cases w with
    | o x => cases x <;> cases e
    | own i =>
      unfold argD at e
      cases eo : ownL ρ i with
      | none => rw [eo] at e; cases e
      | some xs =>
        cases e2 : argD ms ws ρ with
        | none => rw [eo, e2] at e; cases e
        | some q =>
          obtain ⟨ds', is'⟩ := q
          rw [eo, e2] at e
          cases e
          obtain ⟨ios, h1, h2, h3⟩ := arg_reps en r2 e2
          obtain ⟨a, us, ha, q1, q2, q3, q4, _⟩ := en.own eo
          have r1 : σ[i]? = some (some v) := r1
          rw [r1] at ha
          cases ha
          obtain ⟨s, es, os, _, _⟩ := ownL_spec eo
          refine ⟨a :: ios, ⟨xs, ds', a, vs', ios, us, rfl, rfl, rfl, q1, q2, q3, q4, h1⟩, by rw [List.length_cons, List.length_cons, h2], fun k j hk => ?_⟩
          cases k with
          | zero => cases hk; exact ⟨a, s, rfl, es, os, r1⟩
          | succ k => exact h3 k j hk
  | .sc :: ms, w :: ws, vs, ds, is, r, e => by
    obtain ⟨v, vs', rfl, r1, r2⟩ := r
    cases w with
    | o x => cases x <;> cases e
    | own i =>
      unfold argD at e
      cases eo : ρ[i]? with
      | none => rw [eo] at e; cases e
      | some s =>
        cases s with
        | un => rw [eo] at e; cases e
        | er c => rw [eo] at e; cases e
        | fz d => rw [eo] at e; cases e
        | fl xs => rw [eo] at e; cases e
        | io j xs => rw [eo] at e; cases e
        | sc ns =>
          cases e2 : argD ms ws ρ with
          | none => rw [eo, e2] at e; cases e
          | some q =>
            obtain ⟨ds', is'⟩ := q
            rw [eo, e2] at e
            cases e
            obtain ⟨ios, h1, h2⟩ := arg_reps en r2 e2
            obtain ⟨a, ea, q1, q2⟩ := en.at_ i _ eo
            have r1 : σ[i]? = some (some v) := r1
            rw [r1] at ea
            have ea : v = .ref a := Option.some.inj ea
            subst ea
            exact ⟨ios, ⟨ns, ds', a, vs', rfl, rfl, q1, q2, h1⟩, h2⟩
theorem slots_nodup (en : EnvOk G T F H σ ρ) {is : List Nat} {ios : List Addr} (h : Slots σ ρ is ios) (nd : is.Nodup) : ios.Nodup := by
  obtain ⟨h1, h2⟩ := h
  refine List.pairwise_iff_getElem.mpr fun k l hk hl hkl e => ?_
  have hk' : k < is.length := by omega
  have hl' : l < is.length := by omega
  obtain ⟨a, s, e1, e2, e3, e4⟩ := h2 k is[k] (by simp [hk'])
  obtain ⟨b, t, f1, f2, f3, f4⟩ := h2 l is[l] (by simp [hl'])
  have hab : a = b := by
    have z1 : ios[k]? = some ios[k] := by simp [hk]
    have z2 : ios[l]? = some ios[l] := by simp [hl]
    rw [e1] at z1
    rw [f1] at z2
    rw [Option.some.inj z1, Option.some.inj z2, e]
  subst hab
  have q := en.sep _ _ _ _ _ e2 e3 f2 f3 e4 f4
  exact List.pairwise_iff_getElem.mp nd k l hk' hl' hkl q
theorem EnvOk.calls (en : EnvOk G T F H σ ρ) {is : List Nat} {ios : List Addr} {outs : List (List D)} (h : Slots σ ρ is ios) (nd : is.Nodup) (x : Ext (· ∈ ios) F H F' H') (hp : HpOk G F' H') (io : IosOk G F' H' ios outs) :
    EnvOk G T F' H' σ (putL ρ is outs) ∧ Ext (Owns σ ρ) F H F' H' ∧ ∀ a, Owns σ (putL ρ is outs) a → Owns σ ρ a := by
  obtain ⟨h1, h2⟩ := h
  have inS : ∀ (a : Addr), a ∈ ios → ∃ (k i : Nat) (s : Sl), ios[k]? = some a ∧ is[k]? = some i ∧ ρ[i]? = some s ∧ s.own = true ∧ σ[i]? = some (some (V.ref a)) := fun a ha => by
    obtain ⟨k, hk, e⟩ := List.mem_iff_getElem.mp ha
    have hk' : k < is.length := by omega
    obtain ⟨b, s, e1, e2, e3, e4⟩ := h2 k is[k] (by simp [hk'])
    have : b = a := by
      have z : ios[k]? = some a := by simp [hk, e]
      rw [z] at e1; cases e1; rfl
    subst this
    exact ⟨k, _, s, e1, by simp [hk'], e2, e3, e4⟩
  have oth : ∀ (j : Nat) (s : Sl) (a : Addr), ρ[j]? = some s → s.own = true → σ[j]? = some (some (V.ref a)) → j ∉ is → a ∉ ios := fun j s a e1 e2 e3 hj ha => by
    obtain ⟨k, i, t, f1, f2, f3, f4, f5⟩ := inS a ha
    have := en.sep j i a s t e1 e2 f3 f4 e3 f5
    subst this
    exact hj (List.mem_of_getElem? f2)
  have slot : ∀ (j : Nat) (s' : Sl), (putL ρ is outs)[j]? = some s' → ∃ s, ρ[j]? = some s ∧ s'.own = s.own := fun j s' e => by
    by_cases hj : j ∈ is
    · obtain ⟨k, hk, ek⟩ := List.mem_iff_getElem.mp hj
      obtain ⟨a, s, e1, e2, e3, e4⟩ := h2 k j (by simp [hk, ek])
      obtain ⟨xs, us, o1, _⟩ := io k a e1
      rw [putL_in nd (by simp [hk, ek]) o1, e2] at e
      cases e
      exact ⟨s, e2, put_own⟩
    · rw [putL_out hj] at e
      exact ⟨s', e, rfl⟩
  refine ⟨⟨hp, fun a z => x.live a (en.live0 a z), by rw [putL_len]; exact en.len, fun j s' e => ?_, fun j k a s t e1 o1 e2 o2 s1 s2 => ?_⟩, x.weaken fun a ha => ?_, fun a ⟨j, s', e1, e2, e3⟩ => ?_⟩
  · by_cases hj : j ∈ is
    · obtain ⟨k, hk, ek⟩ := List.mem_iff_getElem.mp hj
      obtain ⟨a, s, e1, e2, e3, e4⟩ := h2 k j (by simp [hk, ek])
      obtain ⟨xs, us, o1, q1, q2, q3, q4⟩ := io k a e1
      rw [putL_in nd (by simp [hk, ek]) o1, e2] at e
      cases e
      have z := en.at_ j s e2
      rw [e4] at z ⊢
      cases s with
      | un => cases e3
      | er c => cases e3
      | sc ns => cases e3
      | fz d => cases e3
      | fl zs =>
        obtain ⟨b, ws, ev, _, _, k0, _, _⟩ := z
        cases ev
        exact ⟨a, us, rfl, q1, q2, k0, q3, q4⟩
      | io m zs =>
        obtain ⟨b, ws, ev, _, _, k0, _, _⟩ := z
        cases ev
        exact ⟨a, us, rfl, q1, q2, k0, q3, q4⟩
    · rw [putL_out hj] at e
      have z := en.at_ j s' e
      cases s' with
      | un => trivial
      | er c => trivial
      | sc ns =>
        obtain ⟨a, ev, q, l⟩ := z
        exact ⟨a, ev, x.fle.seq q, l⟩
      | fz d =>
        obtain ⟨v, ev, r⟩ := z
        exact ⟨v, ev, r.mono x.fle⟩
      | fl zs =>
        obtain ⟨a, us, ev, q1, q2, q0, q3, q4⟩ := z
        have na := oth j _ a e rfl (join_ref ev) hj
        exact ⟨a, us, ev, x.keep a _ q1 na (fun ps z => by cases z), by rw [x.fnew a (by rw [q1]; simp) na]; exact q2, q0, q3, q4.mono x.fle⟩
      | io m zs =>
        obtain ⟨a, us, ev, q1, q2, q0, q3, q4⟩ := z
        have na := oth j _ a e rfl (join_ref ev) hj
        exact ⟨a, us, ev, x.keep a _ q1 na (fun ps z => by cases z), by rw [x.fnew a (by rw [q1]; simp) na]; exact q2, q0, q3, q4.mono x.fle⟩
  · obtain ⟨s0, f1, f2⟩ := slot j s e1
    obtain ⟨t0, g1, g2⟩ := slot k t e2
    rw [f2] at o1
    rw [g2] at o2
    exact en.sep j k a s0 t0 f1 o1 g1 o2 s1 s2
  · obtain ⟨k, i, s, f1, f2, f3, f4, f5⟩ := inS a ha
    exact ⟨i, s, f3, f4, f5⟩
  · obtain ⟨s0, f1, f2⟩ := slot j s' e1
    rw [f2] at e2
    exact ⟨j, s0, f1, e2, e3⟩
end
def outR (is : List Nat) (o : DOut) (ρ : Env) : R W := match o with
  | .ret x outs => .ok (.o x) (putL ρ is outs)
  | .exc c outs => .exc c (putL ρ is outs)
  | .bad => .bad
def eCall (ms : List Md) (f : DefSem) (fa : Env → R (List W)) : Env → R W := fun ρ => (fa ρ).bind fun ws ρ1 => match argD ms ws ρ1 with
  | some (ds, is) => if is.Nodup then outR is (f ds) ρ1 else .bad
  | none => .bad
theorem not_own {G : GG} {T : Fm} {F H : Hp} {σ : L2.St} {ρ : Env} (en : EnvOk G T F H σ ρ) {a : Addr} (h : H a = none) : ¬ Owns σ ρ a := fun ⟨i, s, e1, e2, e3⟩ => by
  have z := en.at_ i s e1
  rw [e3] at z
  cases s with
  | un => cases e2
  | er c => cases e2
  | sc ns => cases e2
  | fz d => cases e2
  | fl xs => obtain ⟨a', vs, e, h1, _⟩ := z; cases e; rw [h] at h1; cases h1
  | io j xs => obtain ⟨a', vs, e, h1, _⟩ := z; cases e; rw [h] at h1; cases h1
theorem call_core {G : GG} {T : Fm} {Wx : WX} {Hs F H : Hp} {σ : L2.St} {ρ : Env} {Q : VK} {ms : List Md} {f : DefSem} {ws : List W} {vs : List V} {ds : List D} {is : List Nat} (hl : ∀ a, Hs a ≠ none → H a ≠ none) (en : EnvOk G T F H σ ρ) (r : RepNs G.K F σ ws vs) (e : argD ms ws ρ = some (ds, is)) (nd : is.Nodup)
    (p : RPost G T Wx F H σ ρ (fun w ρ' F' H' => ∀ v, RepW G.K Hs F' H' σ ρ' v w → Q v H') (outR is (f ds) ρ)) : spD G ms f vs H Q (WE Wx σ) := by
  obtain ⟨ios, h1, h2⟩ := arg_reps en r e
  refine ⟨F, ds, ios, en.hp, h1, slots_nodup en h2 nd, ?_⟩
  cases ho : f ds with
  | bad => rw [ho] at p; exact p
  | exc c outs =>
    rw [ho] at p
    intro F' H' x hp io
    obtain ⟨en', x', l'⟩ := en.calls h2 nd x hp io
    exact p F' H' x' en' l'
  | ret o outs =>
    rw [ho] at p
    intro F' H' v A x hp ro hA fa io
    obtain ⟨en', x', l'⟩ := en.calls h2 nd x hp io
    exact p F' H' x' en' l' v ⟨A, ro, hA, fun a ha => ⟨Classical.byContradiction fun z => hl a z (fa a ha), fun z => not_own en (fa a ha) (l' a z)⟩⟩
/-- a def stands in the module -/
structure DefAt (G : GG) (x : Str) (k : Nat) (n : Nat) (ms : List Md) (sem : DefSem) : Prop where
  ex : ∃ (f : Addr) (fd : FuncData) (ps : List Str), G.mg x = some (.ref f) ∧ PySem.W.keepIn G.K (.ref f) = true ∧ Binds G.K fd ps [] ∧ DefOk G k f fd ps ms sem
section
variable {C : Ct} {x : Str} {k n : Nat} {ms : List Md} {sem : DefSem} {e : Expr} {es : List Expr} {fa : Env → R (List W)} {p pos : Pos}
theorem pd_call (d : DefAt C.G x k n ms sem) (hk : k ≤ C.k) (hg : glB C.sc x = true) (ha : PDA C (e :: es) fa)
    (he : ∀ env, starEach (e :: es) env = (false, eval e env) :: starEach es env := by intro _; rfl) (hpl : ∀ env, (backTo pos (starEach es env)).any (·.1) = false := by intro _; rfl) :
    PD C (.Call (.Name x p) (e :: es) [] pos) (eCall ms sem fa) := fun X Wx ok => by
  obtain ⟨f, fd, ps, h1, h2, h3, h4⟩ := d.ex
  have h4' : FnOk X.prog X.w X.K X.mg X.base (L2.CX X.prog X.w) k f fd ps (spD C.G ms sem) := by
    rw [ok.prog, ok.w, ok.K, ok.mg, ok.base]; exact h4
  refine PE.to (pe_callS h4' (ok.room.mono hk) (ok.gl hg) (by rw [ok.mg]; exact h1) (by rw [ok.K]; exact h2) (by rw [ok.K]; exact h3) (passAt ok.takes) (ha X Wx ok) (glB_spec hg).2.1 (he _) (hpl _)) fun σ H Q ⟨T, F, ρ, en, pp⟩ => ⟨T, F, ρ, en, (RPost.bind pp).imp fun ws ρ1 F1 H1 e1 en1 l1 p1 vs rv => ?_⟩
  cases ea : argD ms ws ρ1 with
  | none => simp only [ea] at p1; exact p1.elim
  | some q =>
    obtain ⟨ds, is⟩ := q
    simp only [ea] at p1
    by_cases nd : is.Nodup
    · simp only [nd, if_true] at p1
      exact call_core e1.live en1 rv ea nd p1
    · simp only [nd, if_false] at p1
      exact p1.elim
/-- the script, handed on -/
def aSc (i : Nat) (r : Env → R (List W)) : Env → R (List W) := fun ρ => match ρ[i]? with
  | some (.sc _) => (r ρ).bind fun ws ρ2 => .ok (.own i :: ws) ρ2
  | _ => .bad
theorem pda_sc {i : Nat} {r : Env → R (List W)} (hx : nmB C.N C.sc i x = true) (t : PDA C es r) (hs : ∀ env, starEach (.Name x p :: es) env = (false, eval (.Name x p) env) :: starEach es env := by intro _; rfl) : PDA C (.Name x p :: es) (aSc i r) := fun X Wx ok => by
  obtain ⟨h1, h2, h3, h4⟩ := nmB_spec hx
  refine PA.to (pa_cons (pe_var (i := i) (by rw [ok.hN]; exact h1) (by rw [ok.hsc]; exact h2) h3 h4) (t X Wx ok) (hs _)) fun σ H Q ⟨T, F, ρ, en, pp⟩ => ?_
  unfold aSc at pp
  split at pp <;> try (exact pp.elim)
  rename_i ns es'
  obtain ⟨a, ev, q1, q2⟩ := en.at_ i _ es'
  refine ⟨.ref a, join_ref ev, T, F, ρ, en, ?_⟩
  exact (RPost.bind pp).imp fun ws ρ2 F2 H2 e2 en2 l2 p2 vs rvs => RPost.here en2 p2 (.ref a :: vs) ⟨.ref a, vs, rfl, join_ref ev, rvs⟩
end
end PL
end
section
set_option Elab.async false
set_option linter.all false
set_option maxRecDepth 100000
set_option maxHeartbeats 2000000
set_option autoImplicit false
/-! Blocks: comprehensions, generator expressions for all and any. -/
namespace PL
open PySem PySem.Spec PyProof.Rows L2

/-! ### the slots of a block's own names -/
def wipeE (ρ : Env) : List Nat → Env
  | [] => ρ
  | v :: vs => (wipeE ρ vs).set v .un
def restE (ρ0 ρ : Env) : List Nat → Env
  | [] => ρ
  | v :: vs => (restE ρ0 ρ vs).set v ((ρ0[v]?).getD .un)
theorem wipeE_len (ρ : Env) : ∀ vs : List Nat, (wipeE ρ vs).length = ρ.length
  | [] => rfl
  | v :: vs => by unfold wipeE; rw [List.length_set, wipeE_len]
theorem restE_len (ρ0 ρ : Env) : ∀ vs : List Nat, (restE ρ0 ρ vs).length = ρ.length
  | [] => rfl
  | v :: vs => by unfold restE; rw [List.length_set, restE_len]
theorem wipeE_get (ρ : Env) (j : Nat) : ∀ vs : List Nat, (wipeE ρ vs)[j]? = if j ∈ vs then (ρ[j]?).map fun _ => Sl.un else ρ[j]?
  | [] => rfl
  | v :: vs => by
    unfold wipeE
    by_cases hv : j = v
    · subst hv
      rw [if_pos List.mem_cons_self]
      by_cases hl : j < ρ.length
      · rw [List.getElem?_set_self (by rw [wipeE_len]; exact hl)]
        simp [hl]
      · rw [List.getElem?_eq_none (by rw [List.length_set, wipeE_len]; omega), List.getElem?_eq_none (by omega)]
        rfl
    · rw [List.getElem?_set_ne (Ne.symm hv), wipeE_get ρ j vs]
      simp [hv]
theorem restE_get (ρ0 ρ : Env) (j : Nat) (hl : ρ0.length = ρ.length) : ∀ vs : List Nat, (restE ρ0 ρ vs)[j]? = if j ∈ vs then ρ0[j]? else ρ[j]?
  | [] => rfl
  | v :: vs => by
    unfold restE
    by_cases hv : j = v
    · subst hv
      rw [if_pos List.mem_cons_self]
      by_cases hj : j < ρ.length
      · rw [List.getElem?_set_self (by rw [restE_len]; exact hj)]
        have : j < ρ0.length := by omega
        simp [this]
      · rw [List.getElem?_eq_none (by rw [List.length_set, restE_len]; omega), List.getElem?_eq_none (by omega)]
    · rw [List.getElem?_set_ne (Ne.symm hv), restE_get ρ0 ρ j hl vs]
      simp [hv]
theorem wipe_get {σ : L2.St} (j : Nat) : ∀ vs : List Nat, (wipe σ vs)[j]? = if j ∈ vs then (σ[j]?).map fun _ => Option.none else σ[j]?
  | [] => rfl
  | v :: vs => by
    unfold wipe
    by_cases hv : j = v
    · subst hv
      rw [if_pos List.mem_cons_self]
      by_cases hl : j < σ.length
      · rw [List.getElem?_set_self (by rw [wipe_length]; exact hl)]
        simp [hl]
      · rw [List.getElem?_eq_none (by rw [List.length_set, wipe_length]; omega), List.getElem?_eq_none (by omega)]
        rfl
    · rw [List.getElem?_set_ne (Ne.symm hv), wipe_get j vs]
      simp [hv]
theorem wipe_idem {σ : L2.St} {vs : List Nat} : wipe (wipe σ vs) vs = wipe σ vs := by
  apply List.ext_getElem?
  intro j
  rw [wipe_get, wipe_get]
  by_cases h : j ∈ vs
  · rw [if_pos h, if_pos h]
    cases σ[j]? <;> rfl
  · rw [if_neg h, if_neg h]
section
variable {G : GG} {T : Fm} {F H F' H' : Hp} {σ : L2.St} {ρ ρ0 : Env} {vs : List Nat}
theorem owns_wipe {a : Addr} (h : Owns (wipe σ vs) (wipeE ρ vs) a) : Owns σ ρ a := by
  obtain ⟨i, s, e1, e2, e3⟩ := h
  rw [wipeE_get] at e1
  rw [wipe_get] at e3
  by_cases hi : i ∈ vs
  · rw [if_pos hi] at e1
    cases q : ρ[i]? with
    | none => rw [q] at e1; cases e1
    | some t => rw [q] at e1; cases e1; cases e2
  · rw [if_neg hi] at e1 e3
    exact ⟨i, s, e1, e2, e3⟩
theorem EnvOk.wipe (en : EnvOk G T F H σ ρ) (vs : List Nat) : EnvOk G T F H (wipe σ vs) (wipeE ρ vs) := by
  have back : ∀ (i : Nat) (s : Sl), (wipeE ρ vs)[i]? = some s → s = .un ∨ (i ∉ vs ∧ ρ[i]? = some s) := fun i s e => by
    rw [wipeE_get] at e
    by_cases hi : i ∈ vs
    · rw [if_pos hi] at e
      cases q : ρ[i]? with
      | none => rw [q] at e; cases e
      | some t => rw [q] at e; cases e; exact .inl rfl
    · rw [if_neg hi] at e
      exact .inr ⟨hi, e⟩
  refine ⟨en.hp, en.live0, by rw [wipe_length, wipeE_len]; exact en.len, fun i s e => ?_, fun i j a s t e1 o1 e2 o2 s1 s2 => ?_⟩
  · rcases back i s e with rfl | ⟨hi, e⟩
    · trivial
    · rw [wipe_get, if_neg hi]
      exact en.at_ i s e
  · rcases back i s e1 with rfl | ⟨hi, e1⟩
    · cases o1
    · rcases back j t e2 with rfl | ⟨hj, e2⟩
      · cases o2
      · rw [wipe_get, if_neg hi] at s1
        rw [wipe_get, if_neg hj] at s2
        exact en.sep i j a s t e1 o1 e2 o2 s1 s2
/-- behind the block -/
theorem EnvOk.unblock (en0 : EnvOk G T F H σ ρ0) {ρb : Env} (en : EnvOk G T F' H' (L2.wipe σ vs) ρb) (x : Ext (Owns (L2.wipe σ vs) (wipeE ρ0 vs)) F H F' H') (l : ∀ a, Owns (L2.wipe σ vs) ρb a → Owns (L2.wipe σ vs) (wipeE ρ0 vs) a) :
    EnvOk G T F' H' σ (restE ρ0 ρb vs) ∧ ∀ a, Owns σ (restE ρ0 ρb vs) a → Owns σ ρ0 a := by
  have hl : ρ0.length = ρb.length := by rw [← en0.len, ← en.len, wipe_length]
  have kept : ∀ (j : Nat) (s : Sl) (a : Addr), ρ0[j]? = some s → s.own = true → j ∈ vs → σ[j]? = some (some (V.ref a)) → ¬ Owns (L2.wipe σ vs) (wipeE ρ0 vs) a := fun j s a e1 o1 hj s1 ⟨i, t, f1, f2, f3⟩ => by
    rw [wipeE_get] at f1
    rw [wipe_get] at f3
    by_cases hi : i ∈ vs
    · rw [if_pos hi] at f1
      cases q : ρ0[i]? with
      | none => rw [q] at f1; cases f1
      | some u => rw [q] at f1; cases f1; cases f2
    · rw [if_neg hi] at f1 f3
      have := en0.sep i j a t s f1 f2 e1 o1 f3 s1
      exact hi (by rw [this]; exact hj)
  have inb : ∀ (i : Nat) (t : Sl) (a : Addr), i ∉ vs → ρb[i]? = some t → t.own = true → σ[i]? = some (some (V.ref a)) → Owns (L2.wipe σ vs) (wipeE ρ0 vs) a := fun i t a hi e o s1 => l a ⟨i, t, e, o, by rw [wipe_get, if_neg hi]; exact s1⟩
  refine ⟨⟨en.hp, en.live0, by rw [restE_len, ← hl]; exact en0.len, fun j s e => ?_, fun i j a s t e1 o1 e2 o2 s1 s2 => ?_⟩, fun a ⟨i, s, e1, e2, e3⟩ => ?_⟩
  · rw [restE_get _ _ _ hl] at e
    by_cases hj : j ∈ vs
    · rw [if_pos hj] at e
      have z := en0.at_ j s e
      cases s with
      | un => trivial
      | er c => trivial
      | sc ns =>
        obtain ⟨a, ev, q, q2⟩ := z
        exact ⟨a, ev, x.fle.seq q, q2⟩
      | fz d =>
        obtain ⟨v, ev, r⟩ := z
        exact ⟨v, ev, r.mono x.fle⟩
      | fl zs =>
        obtain ⟨a, us, ev, q1, q2, q0, q3, q4⟩ := z
        have na := kept j _ a e rfl hj (join_ref ev)
        exact ⟨a, us, ev, x.keep a _ q1 na (fun ps z => by cases z), by rw [x.fnew a (by rw [q1]; simp) na]; exact q2, q0, q3, q4.mono x.fle⟩
      | io m zs =>
        obtain ⟨a, us, ev, q1, q2, q0, q3, q4⟩ := z
        have na := kept j _ a e rfl hj (join_ref ev)
        exact ⟨a, us, ev, x.keep a _ q1 na (fun ps z => by cases z), by rw [x.fnew a (by rw [q1]; simp) na]; exact q2, q0, q3, q4.mono x.fle⟩
    · rw [if_neg hj] at e
      have z := en.at_ j s e
      rw [wipe_get, if_neg hj] at z
      exact z
  · rw [restE_get _ _ _ hl] at e1 e2
    by_cases hi : i ∈ vs
    · rw [if_pos hi] at e1
      by_cases hj : j ∈ vs
      · rw [if_pos hj] at e2
        exact en0.sep i j a s t e1 o1 e2 o2 s1 s2
      · rw [if_neg hj] at e2
        exact absurd (inb j t a hj e2 o2 s2) (kept i s a e1 o1 hi s1)
    · rw [if_neg hi] at e1
      by_cases hj : j ∈ vs
      · rw [if_pos hj] at e2
        exact absurd (inb i s a hi e1 o1 s1) (kept j t a e2 o2 hj s2)
      · rw [if_neg hj] at e2
        exact en.sep i j a s t e1 o1 e2 o2 (by rw [wipe_get, if_neg hi]; exact s1) (by rw [wipe_get, if_neg hj]; exact s2)
  · rw [restE_get _ _ _ hl] at e1
    by_cases hi : i ∈ vs
    · rw [if_pos hi] at e1
      exact ⟨i, s, e1, e2, e3⟩
    · rw [if_neg hi] at e1
      exact owns_wipe (inb i s a hi e1 e2 e3)
end

/-! ### tests of a clause -/
theorem PTs.to {X : Cx} {ifs : List Expr} {t t' : TT} (h : PTs X ifs t) (i : ∀ σ H Q, t' σ H Q → t σ H Q) : PTs X ifs t' := ⟨fun pins s σ H Q I q => h.run pins s σ H Q I (i σ H Q q)⟩
def PDTs (C : Ct) (ifs : List Expr) (f : Env → R Bool) : Prop := ∀ (X : Cx) (Wx : WX), Cok X C Wx → PTs X ifs (tT C.G Wx f)
def tYesS : Env → R Bool := fun ρ => .ok true ρ
theorem pdts_nil {C : Ct} : PDTs C [] tYesS := fun X Wx ok => PTs.to pts_nil fun σ H Q ⟨T, F, ρ, en, p⟩ => RPost.here en p
theorem pdts_one {C : Ct} {c : Expr} {f : Env → R Bool} (h : PDT C c f) : PDTs C [c] f := fun X Wx ok => pts_one (h X Wx ok)

/-! ### contexts of blocks -/
abbrev Ct.blk (C : Ct) (scope : Scope) : Ct := { C with sc := relS scope C.sc, fnb := fun x => scope.names.lookup x == some .cell, tab := none }
theorem Cok.blk {X : Cx} {C : Ct} {Wx : WX} (ok : Cok X C Wx) {scope : Scope} (s : Shared) (H : Hp) (cl : List (Str × Addr)) (c : Addr) (fp : List Addr) : Cok (X.blk s H scope (compEnvC scope cl c X.env) fp) (C.blk scope) (fun _ _ _ _ => False) := by
  refine ⟨ok.hN, ?_, ok.nd, ok.calm, ok.prog, ok.w, ok.K, ok.mg, ok.base, ok.room, takes0, PassesOwn.never, fun _ => rfl, fun _ _ e => by cases e⟩
  show relS scope X.env.scope = relS scope C.sc
  rw [ok.hsc]
abbrev Ct.gen (C : Ct) (scope : Scope) (k : Nat) : Ct := { C with sc := scope, k := k, fnb := fun _ => false, tab := none }
theorem Room.gen {k : Nat} {A : Around} (r : Room (k + 1) A) (env : PySem.Env) : Room k (A.in1.in1.deeper env) :=
  ⟨r.hd, by have := r.dp; show A.depth + 1 + 3 * k + 5 < _; omega, by have := r.un; show A.units + 1 + 1 + 3 + 16 * k + 200 < _; omega⟩
theorem Cok.gen {X : Cx} {C : Ct} {Wx : WX} {k : Nat} (ok : Cok X C Wx) (hk : C.k = k + 1) {scope : Scope} (A' : Around) (s : Shared) (H : Hp) (code : Value) (cl : List (Str × Addr)) (c : Addr) (fp : List Addr) (hA : ∃ env, A' = X.A.in1.in1.deeper env) :
    Cok (Gx.cxGen X A' s H (genEnv scope cl c code builtinsNs X.env) fp) (C.gen scope k) (fun _ _ _ _ => False) := by
  obtain ⟨env, rfl⟩ := hA
  have hr := ok.room
  rw [hk] at hr
  exact ⟨ok.hN, rfl, ok.nd, ok.calm, ok.prog, ok.w, ok.K, ok.mg, ok.base, Room.gen hr env, takes0, PassesOwn.never, fun _ => rfl, fun _ _ e => by cases e⟩
end PL
end
section
set_option Elab.async false
set_option linter.all false
set_option maxRecDepth 100000
set_option maxHeartbeats 2000000
set_option autoImplicit false
/-! List comprehensions; all and any of generator expressions. -/
namespace PL
open PySem PySem.Spec PyProof.Rows L2

def lcD (vs : List Nat) (g : TgD) (tt : Env → R Bool) (te : Env → R W) : List D → Env → R (List D)
  | [], ρ => .ok [] ρ
  | d :: ds, ρ => match g d ρ with
    | none => .bad
    | some ρ1 => match tt ρ1 with
      | .ok true ρ2 => (match eFz te ρ2 with
        | .ok (.o (.fz x)) ρ3 => (match lcD vs g tt te ds (wipeE ρ3 vs) with
          | .ok xs ρ4 => .ok (x :: xs) ρ4
          | _ => .bad)
        | _ => .bad)
      | .ok false ρ2 => lcD vs g tt te ds (wipeE ρ2 vs)
      | _ => .bad
def lcR (vs : List Nat) (ρ0 : Env) : R (List D) → R W
  | .ok xs ρ2 => if xs.length ≤ sizeLine then .ok (.o (.fl xs)) (restE ρ0 ρ2 vs) else .bad
  | _ => .bad
def eLc (vs : List Nat) (fi : Env → R (List D)) (g : TgD) (tt : Env → R Bool) (te : Env → R W) : Env → R W := fun ρ => (fi ρ).bind fun ds ρ1 => lcR vs ρ1 (lcD vs g tt te ds (wipeE ρ1 vs))
abbrev Wno : WX := fun _ _ _ _ => False
section
variable {G : GG} {T : Fm} {Wx : WX} {Hs : Hp} {σ : L2.St} {Q : VK} {vs : List Nat} {g : TgD} {tt : Env → R Bool} {te : Env → R W} {fi : Env → R (List D)}
theorem lc_core0 {H : Hp} (h : tE G Wx (eLc vs fi g tt te) σ H Q) : tLc (tI G Wx fi) (tG G vs g) (tT G Wno tt) (tE G Wno te) vs σ H Q := by
  obtain ⟨T, F, ρ, en, p⟩ := h
  refine ⟨T, F, ρ, en, (RPost.bind p).imp fun ds ρ1 F1 H1 e1 en1 l1 p1 J hJ D hD => ?_⟩
  cases el : lcD vs g tt te ds (wipeE ρ1 vs) with
  | bad => rw [el] at p1; exact False.elim p1
  | exc c ρ' => rw [el] at p1; exact False.elim p1
  | ok xs ρe =>
    rw [el] at p1
    by_cases hz : xs.length ≤ sizeLine
    · simp only [lcR, hz, if_true] at p1
      have hFD : F1 D = none := en1.hp.sub.free hD
      have n0 : New F1 H1 F1 (upd H1 D (.lst [])) := New.own hD
      have en0 : EnvOk G T F1 (upd H1 D (.lst [])) (wipe σ vs) (wipeE ρ1 vs) := (en1.new n0 (en1.hp.own hD)).wipe vs
      have nD : ¬ Owns σ ρ1 D := not_own en1 hD
      have nDw : ¬ Owns (wipe σ vs) (wipeE ρ1 vs) D := fun z => nD (owns_wipe z)
      -- the invariant
      refine ⟨fun i m H => m + i = ds.length ∧ ∃ F ρ acc accV ys, EnvOk G T F H (wipe σ vs) ρ ∧ Ext (Owns (wipe σ vs) (wipeE ρ1 vs)) F1 H1 F H ∧ (∀ a, Owns (wipe σ vs) ρ a → Owns (wipe σ vs) (wipeE ρ1 vs) a) ∧ lcD vs g tt te (ds.drop i) ρ = .ok ys ρe ∧ acc ++ ys = xs ∧
        H D = some (.lst accV) ∧ F D = none ∧ Reps G.K F acc accV, ⟨ds.length, rfl, F1, _, [], [], xs, en0, n0.ext, fun _ z => z, el, rfl, upd_same, hFD, reps_nil⟩, ?_⟩
      rintro i m H2 ⟨hm, F2, ρ2, acc, accV, ys, en2, x2, l2, hl, hx, hHD, hFD2, hr⟩
      by_cases hi : i < ds.length
      · refine .inr ⟨hJ.go i F2 H2 x2.fle en2.hp hi, fun H => (m - 1) + (i + 1) = ds.length ∧ ∃ F ρ acc accV ys, EnvOk G T F H (wipe σ vs) ρ ∧ Ext (Owns (wipe σ vs) (wipeE ρ1 vs)) F1 H1 F H ∧ (∀ a, Owns (wipe σ vs) ρ a → Owns (wipe σ vs) (wipeE ρ1 vs) a) ∧ lcD vs g tt te (ds.drop (i + 1)) ρ = .ok ys ρe ∧ acc ++ ys = xs ∧
          H D = some (.lst accV) ∧ F D = none ∧ Reps G.K F acc accV, fun H' h => ⟨m - 1, by omega, h⟩, fun x H' y => ?_⟩
        obtain ⟨F3, n3, ok3, r3⟩ := hJ.yld i _ F2 H2 x H' x2.fle en2.hp (show ds[i]? = some ds[i] by simp [hi]) y
        have en3 := en2.new n3 ok3
        rw [List.drop_eq_getElem_cons hi] at hl
        unfold lcD at hl
        cases eg : g ds[i] ρ2 with
        | none => simp only [eg] at hl; cases hl
        | some ρ3 =>
          simp only [eg] at hl
          refine ⟨T, F3, ρ2, _, en3, r3, ρ3, eg, fun σ4 en4 l4 w4 => ?_⟩
          rw [wipe_idem] at w4
          refine ⟨w4, T, F3, ρ3, en4, ?_⟩
          have hHD3 : H' D = some (.lst accV) := n3.hle D _ hHD
          have hFD3 : F3 D = none := by rw [n3.fnew D (by rw [hHD]; simp)]; exact hFD2
          have x3 : Ext (Owns (wipe σ vs) (wipeE ρ1 vs)) F1 H1 F3 H' := x2.trans (n3.ext (A := fun _ => False)) fun a z => z.elim
          have own4 : ∀ a, Owns σ4 ρ3 a → Owns (wipe σ vs) (wipeE ρ1 vs) a := fun a z => l2 a (l4 a z)
          -- from the turn's state to the block's
          have back : ∀ {F5 H5 : Hp} {ρ5 : Env}, EnvOk G T F5 H5 σ4 ρ5 → EnvOk G T F5 H5 (wipe σ vs) (wipeE ρ5 vs) := fun {F5 H5 ρ5} e => by
            have := e.wipe vs
            rw [w4] at this
            exact this
          have backO : ∀ {ρ5 : Env}, (∀ a, Owns σ4 ρ5 a → Owns σ4 ρ3 a) → ∀ a, Owns (wipe σ vs) (wipeE ρ5 vs) a → Owns (wipe σ vs) (wipeE ρ1 vs) a := fun {ρ5} l a z => by
            rw [← w4] at z
            exact own4 a (l a (owns_wipe z))
          cases et : tt ρ3 with
          | bad => rw [et] at hl; cases hl
          | exc c ρ' => rw [et] at hl; cases hl
          | ok b ρ4 =>
            rw [et] at hl
            intro F5 H5 e5 en5 l5
            have x5 : Ext (Owns (wipe σ vs) (wipeE ρ1 vs)) F1 H1 F5 H5 := x3.trans e5 fun a z => .inl (own4 a z)
            have nD3 : ¬ Owns σ4 ρ3 D := fun z => nDw (own4 D z)
            have hHD5 : H5 D = some (.lst accV) := e5.keep D _ hHD3 nD3 (fun ps z => by cases z)
            have hFD5 : F5 D = none := by rw [e5.fnew D (by rw [hHD3]; simp) nD3]; exact hFD3
            have hr5 : Reps G.K F5 acc accV := (hr.mono n3.fle).mono e5.fle
            cases b with
            | false =>
              refine iteF ?_
              exact ⟨by omega, F5, _, acc, accV, ys, back en5, x5, backO l5, hl, hx, hHD5, hFD5, hr5⟩
            | true =>
              refine iteT ?_
              have hl : (match eFz te ρ4 with
                | .ok (.o (.fz x)) ρ3 => (match lcD vs g tt te (ds.drop (i + 1)) (wipeE ρ3 vs) with
                  | .ok xs ρ4 => R.ok (x :: xs) ρ4
                  | _ => .bad)
                | _ => .bad) = .ok ys ρe := hl
              cases ee : eFz te ρ4 with
              | bad => rw [ee] at hl; cases hl
              | exc c ρ' => rw [ee] at hl; cases hl
              | ok w ρ5 =>
                rw [ee] at hl
                cases w with
                | own j => cases hl
                | o o1 =>
                  cases o1 with
                  | fl zs => cases hl
                  | tp ps => cases hl
                  | fz d =>
                    have hl : (match lcD vs g tt te (ds.drop (i + 1)) (wipeE ρ5 vs) with
                      | .ok xs ρ4 => R.ok (d :: xs) ρ4
                      | _ => .bad) = .ok ys ρe := hl
                    cases e6 : lcD vs g tt te (ds.drop (i + 1)) (wipeE ρ5 vs) with
                    | bad => rw [e6] at hl; cases hl
                    | exc c ρ' => rw [e6] at hl; cases hl
                    | ok zs ρ6 =>
                      rw [e6] at hl
                      cases hl
                      refine tE_fz en5 ?_
                      rw [ee]
                      intro F7 H7 e7 en7 l7 v rv
                      have rv : Rep G.K F7 d v := rv
                      have own5 : ∀ a, Owns σ4 ρ4 a → Owns (wipe σ vs) (wipeE ρ1 vs) a := fun a z => own4 a (l5 a z)
                      have nD5 : ¬ Owns σ4 ρ4 D := fun z => nDw (own5 D z)
                      have hHD7 : H7 D = some (.lst accV) := e7.keep D _ hHD5 nD5 (fun ps z => by cases z)
                      have hFD7 : F7 D = none := by rw [e7.fnew D (by rw [hHD5]; simp) nD5]; exact hFD5
                      have x7 : Ext (Owns (wipe σ vs) (wipeE ρ1 vs)) F1 H1 F7 H7 := x5.trans e7 fun a z => .inl (own5 a z)
                      have hr7 : Reps G.K F7 acc accV := hr5.mono e7.fle
                      have hlen := hr7.len
                      have hxl : acc.length + (zs.length + 1) = xs.length := by rw [← hx, List.length_append, List.length_cons]
                      have xw : Ext (fun a => a = D) F7 H7 F7 (upd H7 D (.lst (accV ++ [v]))) := ⟨fun _ _ q => q, fun b o eb n _ => by rw [upd_ne n]; exact eb, fun _ _ _ => rfl, fun b hb => by
                        by_cases q : b = D
                        · rw [q, upd_same]; simp
                        · rw [upd_ne q]; exact hb⟩
                      have hpw : HpOk G F7 (upd H7 D (.lst (accV ++ [v]))) := ⟨fun b o eb => by
                          have : b ≠ D := fun q => by rw [q, hFD7] at eb; cases eb
                          rw [upd_ne this]; exact en7.hp.sub b o eb, en7.hp.nt, fun P hP => by
                          obtain ⟨ps, ep, tp⟩ := en7.hp.tab P hP
                          have : P ≠ D := fun q => by rw [q, hHD7] at ep; cases ep
                          exact ⟨ps, by rw [upd_ne this]; exact ep, tp⟩⟩
                      have en8 : EnvOk G T F7 (upd H7 D (.lst (accV ++ [v]))) (wipe σ vs) (wipeE ρ5 vs) := by
                        have z := back en7
                        have zz := z.calls (is := []) (ios := []) (outs := []) ⟨rfl, fun k i h => by cases h⟩ List.nodup_nil (Ext.refl (A := fun b => b ∈ ([] : List Addr))) z.hp (fun k a h => by cases h)
                        refine ⟨hpw, fun a q => xw.live a (z.live0 a q), z.len, fun j s e => ?_, z.sep⟩
                        have y := z.at_ j s e
                        cases s with
                        | un => trivial
                        | er c => trivial
                        | sc ns => exact y
                        | fz d => exact y
                        | fl us =>
                          obtain ⟨a, ws, ev, k1, k2, k0, k3, k4⟩ := y
                          have : a ≠ D := fun q => nDw (backO (fun a z => l5 a (l7 a z)) D ⟨j, _, e, rfl, by rw [← q]; exact join_ref ev⟩)
                          exact ⟨a, ws, ev, by rw [upd_ne this]; exact k1, k2, k0, k3, k4⟩
                        | io m us =>
                          obtain ⟨a, ws, ev, k1, k2, k0, k3, k4⟩ := y
                          have : a ≠ D := fun q => nDw (backO (fun a z => l5 a (l7 a z)) D ⟨j, _, e, rfl, by rw [← q]; exact join_ref ev⟩)
                          exact ⟨a, ws, ev, by rw [upd_ne this]; exact k1, k2, k0, k3, k4⟩
                      refine ⟨accV, hHD7, by omega, by omega, F7, _, acc ++ [d], accV ++ [v], zs, en8, x7.trans xw fun a q => .inr (by rw [q]; exact hD), backO (fun a z => l5 a (l7 a z)), e6, by rw [← hx]; simp, upd_same, hFD7, hr7.append (reps_cons rv reps_nil)⟩
      · have hi' : ds.length ≤ i := by omega
        rw [List.drop_eq_nil_of_le hi'] at hl
        cases hl
        rw [List.append_nil] at hx
        subst hx
        refine .inl ⟨hJ.stop i F2 H2 x2.fle en2.hp hi', ?_⟩
        obtain ⟨en9, l9⟩ := en1.unblock en2 x2 l2
        have x9 : Ext (Owns σ ρ1) F1 H1 F2 H2 := x2.weaken fun a z => owns_wipe z
        refine p1 F2 H2 x9 en9 l9 (.ref D) ⟨[D], ⟨D, accV, rfl, rfl, hHD, hFD2, by rw [hr.len]; exact hz, hr⟩, by simp, fun a ha => ?_⟩
        rw [List.mem_singleton.mp ha]
        exact ⟨Classical.byContradiction fun z => e1.live D z hD, fun z => nD (l9 D z)⟩
    · simp only [lcR, hz, if_false] at p1
      exact False.elim p1
end
end PL
end
section
set_option Elab.async false
set_option linter.all false
set_option maxRecDepth 100000
set_option maxHeartbeats 2000000
set_option autoImplicit false
/-! The rules for comprehensions and generator expressions. -/
namespace PL
open PySem PySem.Spec PyProof.Rows L2

section
variable {C : Ct} {elt tg iter : Expr} {ifs : List Expr} {scope : Scope} {own : List (Str × Nat)} {pos : Pos} {fi : Env → R (List D)} {g : TgD} {tt : Env → R Bool} {te : Env → R W}
theorem pd_lc (hi : PDI C tg iter fi) (hb : blkC C.N C.sc scope own = true) (hg : PDG (C.blk scope) tg (own.map (·.2)) g) (ht : PDTs (C.blk scope) ifs tt) (he : PD (C.blk scope) elt te) (hs : ∀ env x, foldedSetIterable iter env x = pure x := by intro _ _; rfl) :
    PD C (.ListComp elt [⟨tg, iter, ifs, 0⟩] scope pos) (eLc (own.map (·.2)) fi g tt te) := fun X Wx ok => by
  refine PE.to (pe_lc (own := own) ok.calm ok.nodup (hi X Wx ok) (by rw [ok.hN, ok.hsc]; exact blkOk_by hb)
    (fun s H c cl fp => hg _ _ (ok.blk s H cl c fp)) (fun s H c cl fp => ht _ _ (ok.blk s H cl c fp)) (fun s H c cl fp => he _ _ (ok.blk s H cl c fp)) (hs _)) fun σ H Q h => lc_core0 h
/-- name = [..] on one line -/
theorem ps_lc {i : Nat} {y : Str} {py spos : Pos} {X : Cx} {Wx : WX} (ok : Cok X C Wx) (hl : locB C i y = true) (hloc : C.sc.names.lookup y = some .local) (hk : C.sc.kind = .function) (hline : (py.line == spos.line) = true) (hline2 : (pos.line == spos.line) = true) (hns : (scope.names.any fun (n, k) => n == y && (k == .local || k == .cell)) = false)
    (hi : PDI C tg iter fi) (hb : blkC C.N C.sc scope own = true) (hg : PDG (C.blk scope) tg (own.map (·.2)) g) (ht : PDTs (C.blk scope) ifs tt) (he : PD (C.blk scope) elt te) (hs : ∀ env x, foldedSetIterable iter env x = pure x) :
    PS X (.Assign [.Name y py] (.ListComp elt [⟨tg, iter, ifs, 0⟩] scope pos) spos) (tAsg (tLc (tI C.G Wx fi) (tG C.G (own.map (·.2)) g) (tT C.G Wno tt) (tE C.G Wno te) (own.map (·.2))) (gName i)) := by
  obtain ⟨h1, h2, h3⟩ := locB_spec hl
  refine ps_setLc (own := own) ok.calm ok.nodup (by rw [ok.hN]; exact h1) (by rw [ok.hsc]; exact hloc) ?_ (hi X Wx ok) (by rw [ok.hN, ok.hsc]; exact blkOk_by hb)
    (fun s H c cl fp => hg _ _ (ok.blk s H cl c fp)) (fun s H c cl fp => ht _ _ (ok.blk s H cl c fp)) (fun s H c cl fp => he _ _ (ok.blk s H cl c fp)) (hs _)
  have e2 : pos.line = spos.line := by simpa using hline2
  have e1 : py.line = spos.line := by simpa using hline
  have := sw_true (elt := elt) (gs := [⟨tg, iter, ifs, 0⟩]) (scope := scope) (pos := pos) (py := py) (y := y) (l := spos.line) (env := X.env) (by rw [ok.hsc]; exact hk) (by rw [ok.hsc]; exact hloc) (by rw [e1, e2]; simp) hns
  exact this
def lcB (C : Ct) (i : Nat) (y : Str) (scope : Scope) (py pos spos : Pos) : Bool :=
  locB C i y && (C.sc.names.lookup y == some .local) && (match C.sc.kind with | .function => true | _ => false) && (py.line == spos.line) && (pos.line == spos.line) && !(scope.names.any fun (n, k) => n == y && (k == .local || k == .cell))
theorem lcB_spec {i : Nat} {y : Str} {py spos : Pos} (h : lcB C i y scope py pos spos = true) : locB C i y = true ∧ C.sc.names.lookup y = some .local ∧ C.sc.kind = .function ∧ (py.line == spos.line) = true ∧ (pos.line == spos.line) = true ∧ (scope.names.any fun (n, k) => n == y && (k == .local || k == .cell)) = false := by
  unfold lcB at h
  simp only [Bool.and_eq_true, Bool.not_eq_true'] at h
  obtain ⟨⟨⟨⟨⟨h1, h2⟩, h3⟩, h4⟩, h5⟩, h6⟩ := h
  refine ⟨h1, by simpa using h2, ?_, h4, h5, h6⟩
  split at h3
  · assumption
  · cases h3
theorem pds_setLc {i : Nat} {y : Str} {py spos : Pos} (h : lcB C i y scope py pos spos = true)
    (hi : PDI C tg iter fi) (hb : blkC C.N C.sc scope own = true) (hg : PDG (C.blk scope) tg (own.map (·.2)) g) (ht : PDTs (C.blk scope) ifs tt) (he : PD (C.blk scope) elt te) (hs : ∀ env x, foldedSetIterable iter env x = pure x := by intro _ _; rfl) :
    PDS C (.Assign [.Name y py] (.ListComp elt [⟨tg, iter, ifs, 0⟩] scope pos) spos) (sSet i (eLc (own.map (·.2)) fi g tt te)) := fun X Wx ok => by
  obtain ⟨h1, h2, h3, h4, h5, h6⟩ := lcB_spec h
  exact PS.to (ps_lc ok h1 h2 h3 h4 h5 h6 hi hb hg ht he hs) fun Dn σ H q => set_core (X := X) (fun _ z => lc_core0 z) q
theorem pds_ownLc {i : Nat} {y : Str} {py spos : Pos} (h : lcB C i y scope py pos spos = true)
    (hi : PDI C tg iter fi) (hb : blkC C.N C.sc scope own = true) (hg : PDG (C.blk scope) tg (own.map (·.2)) g) (ht : PDTs (C.blk scope) ifs tt) (he : PD (C.blk scope) elt te) (hs : ∀ env x, foldedSetIterable iter env x = pure x := by intro _ _; rfl) :
    PDS C (.Assign [.Name y py] (.ListComp elt [⟨tg, iter, ifs, 0⟩] scope pos) spos) (sOwn i (eLc (own.map (·.2)) fi g tt te)) := fun X Wx ok => by
  obtain ⟨h1, h2, h3, h4, h5, h6⟩ := lcB_spec h
  exact PS.to (ps_lc ok h1 h2 h3 h4 h5 h6 hi hb hg ht he hs) fun Dn σ H q => own_core (X := X) (fun _ z => lc_core0 z) q
end

/-! ### all, any of a generator expression -/
def genD (stopOn : Bool) (vs : List Nat) (g : TgD) (tt : Env → R Bool) (te : Env → R W) : List D → Env → R Bool
  | [], ρ => .ok (!stopOn) ρ
  | d :: ds, ρ => match g d ρ with
    | none => .bad
    | some ρ1 => match tt ρ1 with
      | .ok true ρ2 => (match tstB te ρ2 with
        | .ok c ρ3 => if c = stopOn then .ok stopOn (wipeE ρ3 vs) else genD stopOn vs g tt te ds (wipeE ρ3 vs)
        | _ => .bad)
      | .ok false ρ2 => genD stopOn vs g tt te ds (wipeE ρ2 vs)
      | _ => .bad
def genR (vs : List Nat) (ρ0 : Env) : R Bool → R W
  | .ok b ρ2 => .ok (.val (.bool b)) (restE ρ0 ρ2 vs)
  | _ => .bad
def eGen (stopOn : Bool) (vs : List Nat) (fi : Env → R (List D)) (g : TgD) (tt : Env → R Bool) (te : Env → R W) : Env → R W := fun ρ => (fi ρ).bind fun ds ρ1 => genR vs ρ1 (genD stopOn vs g tt te ds (wipeE ρ1 vs))
section
variable {G : GG} {T : Fm} {Wx : WX} {σ : L2.St} {Q : VK} {vs : List Nat} {g : TgD} {tt : Env → R Bool} {te : Env → R W} {fi : Env → R (List D)} {stopOn : Bool} {P : Addr}
theorem tabbed_ok {F H H2 : Hp} {ρ : Env} (en : EnvOk G T F H σ ρ) (hP : P ∈ G.tb) (t : GxR.Tabbed P H H2) : EnvOk G T F H2 σ ρ ∧ Ext (fun _ => False) F H F H2 := by
  obtain ⟨t1, t2⟩ := t
  obtain ⟨ps, hps, _⟩ := en.hp.tab P hP
  have ne : ∀ (b : Addr) (o : HO), H b = some o → (∀ ps, o ≠ .tbl ps) → H2 b = some o := fun b o e n => by
    have : b ≠ P := fun q => by rw [q, hps] at e; cases e; exact n _ rfl
    rw [t2 b this]; exact e
  have live : ∀ b, H b ≠ none → H2 b ≠ none := fun b hb => by
    by_cases q : b = P
    · rw [q]
      obtain ⟨ps', e', _⟩ := t1
      rw [e']; simp
    · rw [t2 b q]; exact hb
  refine ⟨⟨⟨fun b o e => ne b o (en.hp.sub b o e) (fun ps z => en.hp.nt b ps (by rw [e, z])), en.hp.nt, fun P' hP' => ?_⟩, fun a z => live a (en.live0 a z), en.len, fun i s e => ?_, en.sep⟩, ⟨fun _ _ q => q, fun a o e _ n => ne a o e n, fun _ _ _ => rfl, live⟩⟩
  · by_cases q : P' = P
    · rw [q]; exact t1
    · obtain ⟨ps', e', tp⟩ := en.hp.tab P' hP'
      exact ⟨ps', by rw [t2 P' q]; exact e', tp⟩
  · have z := en.at_ i s e
    cases s with
    | un => trivial
    | er c => trivial
    | sc ns => exact z
    | fz d => exact z
    | fl us =>
      obtain ⟨a, ws, ev, k1, k2, k0, k3, k4⟩ := z
      exact ⟨a, ws, ev, ne a _ k1 (fun ps z => by cases z), k2, k0, k3, k4⟩
    | io m us =>
      obtain ⟨a, ws, ev, k1, k2, k0, k3, k4⟩ := z
      exact ⟨a, ws, ev, ne a _ k1 (fun ps z => by cases z), k2, k0, k3, k4⟩
theorem gen_core {H : Hp} (hP : P ∈ G.tb) (h : tE G Wx (eGen stopOn vs fi g tt te) σ H Q) : Gx.tGenB stopOn P (tI G Wx fi) (tG G vs g) (tT G Wno tt) (tE G Wno te) vs σ H Q := by
  obtain ⟨T, F, ρ, en, p⟩ := h
  refine ⟨T, F, ρ, en, (RPost.bind p).imp fun ds ρ1 F1 H1 e1 en1 l1 p1 J hJ => ⟨en1.hp.tab P hP, fun H2 tb => ?_⟩⟩
  cases el : genD stopOn vs g tt te ds (wipeE ρ1 vs) with
  | bad => rw [el] at p1; exact False.elim p1
  | exc c ρ' => rw [el] at p1; exact False.elim p1
  | ok b0 ρe =>
    rw [el] at p1
    have p1 : RPost G T Wx F1 H1 σ ρ1 _ (R.ok (W.val (.bool b0)) (restE ρ1 ρe vs)) := p1
    obtain ⟨enT, xT⟩ := tabbed_ok en1 hP tb
    have fin : ∀ {F' H' : Hp}, EnvOk G T F' H' (wipe σ vs) ρe → Ext (Owns (wipe σ vs) (wipeE ρ1 vs)) F1 H1 F' H' → (∀ a, Owns (wipe σ vs) ρe a → Owns (wipe σ vs) (wipeE ρ1 vs) a) → Q (.bl b0) H' := fun {F' H'} e x l => by
      obtain ⟨e9, l9⟩ := en1.unblock e x l
      exact p1 F' H' (x.weaken fun a z => owns_wipe z) e9 l9 _ (repW_val rep_bl)
    refine ⟨fun i m H => m + i = ds.length ∧ ∃ F ρ, EnvOk G T F H (wipe σ vs) ρ ∧ Ext (Owns (wipe σ vs) (wipeE ρ1 vs)) F1 H1 F H ∧ (∀ a, Owns (wipe σ vs) ρ a → Owns (wipe σ vs) (wipeE ρ1 vs) a) ∧ genD stopOn vs g tt te (ds.drop i) ρ = .ok b0 ρe,
      ⟨ds.length, rfl, F1, _, enT.wipe vs, xT.weaken fun _ z => z.elim, fun _ z => z, el⟩, ?_⟩
    rintro i m H3 ⟨hm, F2, ρ2, en2, x2, l2, hl⟩
    by_cases hi : i < ds.length
    · refine .inr ⟨hJ.go i F2 H3 x2.fle en2.hp hi, fun H => (m - 1) + (i + 1) = ds.length ∧ ∃ F ρ, EnvOk G T F H (wipe σ vs) ρ ∧ Ext (Owns (wipe σ vs) (wipeE ρ1 vs)) F1 H1 F H ∧ (∀ a, Owns (wipe σ vs) ρ a → Owns (wipe σ vs) (wipeE ρ1 vs) a) ∧ genD stopOn vs g tt te (ds.drop (i + 1)) ρ = .ok b0 ρe,
        fun H' h => ⟨m - 1, by omega, h⟩, fun x H' y => ?_⟩
      obtain ⟨F3, n3, ok3, r3⟩ := hJ.yld i _ F2 H3 x H' x2.fle en2.hp (show ds[i]? = some ds[i] by simp [hi]) y
      have en3 := en2.new n3 ok3
      rw [List.drop_eq_getElem_cons hi] at hl
      unfold genD at hl
      cases eg : g ds[i] ρ2 with
      | none => simp only [eg] at hl; cases hl
      | some ρ3 =>
        simp only [eg] at hl
        refine ⟨T, F3, ρ2, _, en3, r3, ρ3, eg, fun σ4 en4 l4 w4 => ?_⟩
        rw [wipe_idem] at w4
        refine ⟨w4, T, F3, ρ3, en4, ?_⟩
        have x3 : Ext (Owns (wipe σ vs) (wipeE ρ1 vs)) F1 H1 F3 H' := x2.trans (n3.ext (A := fun _ => False)) fun a z => z.elim
        have own4 : ∀ a, Owns σ4 ρ3 a → Owns (wipe σ vs) (wipeE ρ1 vs) a := fun a z => l2 a (l4 a z)
        have back : ∀ {F5 H5 : Hp} {ρ5 : Env}, EnvOk G T F5 H5 σ4 ρ5 → EnvOk G T F5 H5 (wipe σ vs) (wipeE ρ5 vs) := fun {F5 H5 ρ5} e => by
          have := e.wipe vs
          rw [w4] at this
          exact this
        have backO : ∀ {ρ5 : Env}, (∀ a, Owns σ4 ρ5 a → Owns σ4 ρ3 a) → ∀ a, Owns (wipe σ vs) (wipeE ρ5 vs) a → Owns (wipe σ vs) (wipeE ρ1 vs) a := fun {ρ5} l a z => by
          rw [← w4] at z
          exact own4 a (l a (owns_wipe z))
        cases et : tt ρ3 with
        | bad => rw [et] at hl; cases hl
        | exc c ρ' => rw [et] at hl; cases hl
        | ok b ρ4 =>
          rw [et] at hl
          intro F5 H5 e5 en5 l5
          have x5 : Ext (Owns (wipe σ vs) (wipeE ρ1 vs)) F1 H1 F5 H5 := x3.trans e5 fun a z => .inl (own4 a z)
          cases b with
          | false =>
            refine iteF ?_
            exact ⟨by omega, F5, _, back en5, x5, backO l5, hl⟩
          | true =>
            refine iteT ?_
            have hl : (match tstB te ρ4 with
              | .ok c ρ3 => if c = stopOn then R.ok stopOn (wipeE ρ3 vs) else genD stopOn vs g tt te (ds.drop (i + 1)) (wipeE ρ3 vs)
              | _ => .bad) = .ok b0 ρe := hl
            cases ee : tstB te ρ4 with
            | bad => rw [ee] at hl; cases hl
            | exc c ρ' => rw [ee] at hl; cases hl
            | ok c ρ5 =>
              rw [ee] at hl
              refine bool_core (Q := fun k H4 => if k = stopOn then Q (.bl stopOn) H4 else (m - 1) + (i + 1) = ds.length ∧ ∃ F ρ, EnvOk G T F H4 (wipe σ vs) ρ ∧ Ext (Owns (wipe σ vs) (wipeE ρ1 vs)) F1 H1 F H4 ∧ (∀ a, Owns (wipe σ vs) ρ a → Owns (wipe σ vs) (wipeE ρ1 vs) a) ∧ genD stopOn vs g tt te (ds.drop (i + 1)) ρ = .ok b0 ρe) ⟨T, F5, ρ4, en5, ?_⟩
              rw [ee]
              intro F7 H7 e7 en7 l7
              show if c = stopOn then _ else _
              have x7 : Ext (Owns (wipe σ vs) (wipeE ρ1 vs)) F1 H1 F7 H7 := x5.trans e7 fun a z => .inl (own4 a (l5 a z))
              by_cases hc : c = stopOn
              · rw [if_pos hc]
                have hl : (if c = stopOn then R.ok stopOn (wipeE ρ5 vs) else genD stopOn vs g tt te (ds.drop (i + 1)) (wipeE ρ5 vs)) = .ok b0 ρe := hl
                rw [if_pos hc] at hl
                cases hl
                exact fin (back en7) x7 (backO fun a z => l5 a (l7 a z))
              · rw [if_neg hc]
                have hl : (if c = stopOn then R.ok stopOn (wipeE ρ5 vs) else genD stopOn vs g tt te (ds.drop (i + 1)) (wipeE ρ5 vs)) = .ok b0 ρe := hl
                rw [if_neg hc] at hl
                exact ⟨by omega, F7, _, back en7, x7, backO fun a z => l5 a (l7 a z), hl⟩
    · have hi' : ds.length ≤ i := by omega
      rw [List.drop_eq_nil_of_le hi'] at hl
      cases hl
      exact .inl ⟨hJ.stop i F2 H3 x2.fle en2.hp hi', fin en2 x2 l2⟩
end
section
variable {C : Ct} {elt tg iter : Expr} {ifs : List Expr} {scope : Scope} {own : List (Str × Nat)} {p gpos pos : Pos} {fi : Env → R (List D)} {g : TgD} {tt : Env → R Bool} {te : Env → R W} {k : Nat} {c P : Addr}
theorem pd_all (ht0 : C.tab = some (c, P)) (hk : C.k = k + 1) (hgl : glB C.sc "all" = true) (hm : C.G.mg "all" = none) (hb : Gx.genC C.N C.sc scope own = true) (hi : PDI C tg iter fi) (hg : PDG (C.gen scope k) tg (own.map (·.2)) g) (ht : PDTs (C.gen scope k) ifs tt) (he : PD (C.gen scope k) elt te)
    (hs : ∀ env v, genFold iter env v = pure v := by intro _ _; rfl)
    (hst : ∀ env, starEach [.GeneratorExp elt [⟨tg, iter, ifs, 0⟩] scope gpos] env = (false, eval (.GeneratorExp elt [⟨tg, iter, ifs, 0⟩] scope gpos) env) :: starEach [] env := by intro _; rfl) :
    PD C (.Call (.Name "all" p) [.GeneratorExp elt [⟨tg, iter, ifs, 0⟩] scope gpos] [] pos) (eGen false (own.map (·.2)) fi g tt te) := fun X Wx ok => by
  obtain ⟨h1, h2, h3⟩ := ok.cod c P ht0
  refine PE.to (Gx.pe_allG (own := own) ok.calm ok.nodup ok.room (ok.gl hgl) (by rw [ok.mg]; exact hm) h2 h1 (by rw [ok.hN, ok.hsc]; exact Gx.genSc_by hb) (hi X Wx ok)
    (fun A' s H code cl c fp hA => hg _ _ (ok.gen hk A' s H code cl c fp hA)) (fun A' s H code cl c fp hA => ht _ _ (ok.gen hk A' s H code cl c fp hA)) (fun A' s H code cl c fp hA => he _ _ (ok.gen hk A' s H code cl c fp hA)) (hs _) (hst _)) fun σ H Q h => gen_core h3 h
theorem pd_any (ht0 : C.tab = some (c, P)) (hk : C.k = k + 1) (hgl : glB C.sc "any" = true) (hm : C.G.mg "any" = none) (hb : Gx.genC C.N C.sc scope own = true) (hi : PDI C tg iter fi) (hg : PDG (C.gen scope k) tg (own.map (·.2)) g) (ht : PDTs (C.gen scope k) ifs tt) (he : PD (C.gen scope k) elt te)
    (hs : ∀ env v, genFold iter env v = pure v := by intro _ _; rfl)
    (hst : ∀ env, starEach [.GeneratorExp elt [⟨tg, iter, ifs, 0⟩] scope gpos] env = (false, eval (.GeneratorExp elt [⟨tg, iter, ifs, 0⟩] scope gpos) env) :: starEach [] env := by intro _; rfl) :
    PD C (.Call (.Name "any" p) [.GeneratorExp elt [⟨tg, iter, ifs, 0⟩] scope gpos] [] pos) (eGen true (own.map (·.2)) fi g tt te) := fun X Wx ok => by
  obtain ⟨h1, h2, h3⟩ := ok.cod c P ht0
  refine PE.to (Gx.pe_anyG (own := own) ok.calm ok.nodup ok.room (ok.gl hgl) (by rw [ok.mg]; exact hm) h2 h1 (by rw [ok.hN, ok.hsc]; exact Gx.genSc_by hb) (hi X Wx ok)
    (fun A' s H code cl c fp hA => hg _ _ (ok.gen hk A' s H code cl c fp hA)) (fun A' s H code cl c fp hA => ht _ _ (ok.gen hk A' s H code cl c fp hA)) (fun A' s H code cl c fp hA => he _ _ (ok.gen hk A' s H code cl c fp hA)) (hs _) (hst _)) fun σ H Q h => gen_core h3 h
end
end PL
end
section
set_option Elab.async false
set_option linter.all false
set_option maxRecDepth 100000
set_option maxHeartbeats 2000000
set_option autoImplicit false
/-! min of a generator expression. -/
namespace PL
open PySem PySem.Spec PyProof.Rows L2

def fmin (b : Option Int) (ns : List Int) : Option Int := ns.foldl (fun b n => match b with
  | none => some n
  | some i => if n < i then some n else some i) b
def minR (vs : List Nat) (ρ0 : Env) : R (List D) → R W
  | .ok xs ρ2 => (match intsD xs with
    | some ns => (match fmin none ns with
      | some r => .ok (.val (.int r)) (restE ρ0 ρ2 vs)
      | none => .bad)
    | none => .bad)
  | _ => .bad
def eMinG (vs : List Nat) (fi : Env → R (List D)) (g : TgD) (tt : Env → R Bool) (te : Env → R W) : Env → R W := fun ρ => (fi ρ).bind fun ds ρ1 => minR vs ρ1 (lcD vs g tt te ds (wipeE ρ1 vs))
section
variable {G : GG} {T : Fm} {Wx : WX} {σ : L2.St} {Q : VK} {vs : List Nat} {g : TgD} {tt : Env → R Bool} {te : Env → R W} {fi : Env → R (List D)} {P : Addr}
theorem minG_core {H : Hp} (hP : P ∈ G.tb) (h : tE G Wx (eMinG vs fi g tt te) σ H Q) : Gx.tGenV P (tI G Wx fi) (tG G vs g) (tT G Wno tt) (tE G Wno te) vs Gx.minSt0 Gx.minOk Gx.minStep Gx.minFin σ H Q := by
  obtain ⟨T, F, ρ, en, p⟩ := h
  refine ⟨T, F, ρ, en, (RPost.bind p).imp fun ds ρ1 F1 H1 e1 en1 l1 p1 J hJ => ⟨en1.hp.tab P hP, fun H2 tb o0 ho0 => ?_⟩⟩
  cases el : lcD vs g tt te ds (wipeE ρ1 vs) with
  | bad => rw [el] at p1; exact False.elim p1
  | exc c ρ' => rw [el] at p1; exact False.elim p1
  | ok xs ρe =>
    rw [el] at p1
    cases ei : intsD xs with
    | none => simp only [minR, ei] at p1; exact False.elim p1
    | some ns =>
      cases er : fmin none ns with
      | none => simp only [minR, ei, er] at p1; exact False.elim p1
      | some r =>
        simp only [minR, ei, er] at p1
        obtain ⟨enT, xT⟩ := tabbed_ok en1 hP tb
        refine ⟨fun i m o H => m + i = ds.length ∧ ∃ F ρ ys b nys, EnvOk G T F H (wipe σ vs) ρ ∧ Ext (Owns (wipe σ vs) (wipeE ρ1 vs)) F1 H1 F H ∧ (∀ a, Owns (wipe σ vs) ρ a → Owns (wipe σ vs) (wipeE ρ1 vs) a) ∧ lcD vs g tt te (ds.drop i) ρ = .ok ys ρe ∧ intsD ys = some nys ∧ Gx.minSh o b ∧ fmin b nys = some r,
          ⟨ds.length, rfl, F1, _, xs, none, ns, enT.wipe vs, xT.weaken fun _ z => z.elim, fun _ z => z, el, ei, ho0, er⟩, ?_⟩
        rintro i m o H3 ⟨hm, F2, ρ2, ys, b, nys, en2, x2, l2, hl, hy, hb, hf⟩
        by_cases hi : i < ds.length
        · refine .inr ⟨hJ.go i F2 H3 x2.fle en2.hp hi, fun o H => (m - 1) + (i + 1) = ds.length ∧ ∃ F ρ ys b nys, EnvOk G T F H (wipe σ vs) ρ ∧ Ext (Owns (wipe σ vs) (wipeE ρ1 vs)) F1 H1 F H ∧ (∀ a, Owns (wipe σ vs) ρ a → Owns (wipe σ vs) (wipeE ρ1 vs) a) ∧ lcD vs g tt te (ds.drop (i + 1)) ρ = .ok ys ρe ∧ intsD ys = some nys ∧ Gx.minSh o b ∧ fmin b nys = some r,
            fun o' H' h => ⟨m - 1, by omega, h⟩, fun x H' y => ?_⟩
          obtain ⟨F3, n3, ok3, r3⟩ := hJ.yld i _ F2 H3 x H' x2.fle en2.hp (show ds[i]? = some ds[i] by simp [hi]) y
          have en3 := en2.new n3 ok3
          rw [List.drop_eq_getElem_cons hi] at hl
          unfold lcD at hl
          cases eg : g ds[i] ρ2 with
          | none => simp only [eg] at hl; cases hl
          | some ρ3 =>
            simp only [eg] at hl
            refine ⟨T, F3, ρ2, _, en3, r3, ρ3, eg, fun σ4 en4 l4 w4 => ?_⟩
            rw [wipe_idem] at w4
            refine ⟨w4, T, F3, ρ3, en4, ?_⟩
            have x3 : Ext (Owns (wipe σ vs) (wipeE ρ1 vs)) F1 H1 F3 H' := x2.trans (n3.ext (A := fun _ => False)) fun a z => z.elim
            have own4 : ∀ a, Owns σ4 ρ3 a → Owns (wipe σ vs) (wipeE ρ1 vs) a := fun a z => l2 a (l4 a z)
            have back : ∀ {F5 H5 : Hp} {ρ5 : Env}, EnvOk G T F5 H5 σ4 ρ5 → EnvOk G T F5 H5 (wipe σ vs) (wipeE ρ5 vs) := fun {F5 H5 ρ5} e => by
              have := e.wipe vs
              rw [w4] at this
              exact this
            have backO : ∀ {ρ5 : Env}, (∀ a, Owns σ4 ρ5 a → Owns σ4 ρ3 a) → ∀ a, Owns (wipe σ vs) (wipeE ρ5 vs) a → Owns (wipe σ vs) (wipeE ρ1 vs) a := fun {ρ5} l a z => by
              rw [← w4] at z
              exact own4 a (l a (owns_wipe z))
            cases et : tt ρ3 with
            | bad => rw [et] at hl; cases hl
            | exc c ρ' => rw [et] at hl; cases hl
            | ok b' ρ4 =>
              rw [et] at hl
              intro F5 H5 e5 en5 l5
              have x5 : Ext (Owns (wipe σ vs) (wipeE ρ1 vs)) F1 H1 F5 H5 := x3.trans e5 fun a z => .inl (own4 a z)
              cases b' with
              | false =>
                refine iteF ?_
                exact ⟨by omega, F5, _, ys, b, nys, back en5, x5, backO l5, hl, hy, hb, hf⟩
              | true =>
                refine iteT ?_
                have hl : (match eFz te ρ4 with
                  | .ok (.o (.fz x)) ρ3 => (match lcD vs g tt te (ds.drop (i + 1)) (wipeE ρ3 vs) with
                    | .ok xs ρ4 => R.ok (x :: xs) ρ4
                    | _ => .bad)
                  | _ => .bad) = .ok ys ρe := hl
                cases ee : eFz te ρ4 with
                | bad => rw [ee] at hl; cases hl
                | exc c ρ' => rw [ee] at hl; cases hl
                | ok w ρ5 =>
                  rw [ee] at hl
                  cases w with
                  | own j => cases hl
                  | o o1 =>
                    cases o1 with
                    | fl zs => cases hl
                    | tp ps => cases hl
                    | fz d =>
                      have hl : (match lcD vs g tt te (ds.drop (i + 1)) (wipeE ρ5 vs) with
                        | .ok xs ρ4 => R.ok (d :: xs) ρ4
                        | _ => .bad) = .ok ys ρe := hl
                      cases e6 : lcD vs g tt te (ds.drop (i + 1)) (wipeE ρ5 vs) with
                      | bad => rw [e6] at hl; cases hl
                      | exc c ρ' => rw [e6] at hl; cases hl
                      | ok zs ρ6 =>
                        rw [e6] at hl
                        cases hl
                        obtain ⟨n, rfl⟩ : ∃ n, d = .int n := by cases d <;> first | exact ⟨_, rfl⟩ | (simp [intsD] at hy)
                        have hy : (match intsD zs with | some ns => some (n :: ns) | none => none) = some nys := hy
                        cases ez : intsD zs with
                        | none => rw [ez] at hy; cases hy
                        | some mz =>
                          rw [ez] at hy
                          cases hy
                          refine tE_fz en5 ?_
                          rw [ee]
                          intro F7 H7 e7 en7 l7 v rv
                          have rv : Rep G.K F7 (.int n) v := rv
                          rw [Rep] at rv
                          subst rv
                          have x7 : Ext (Owns (wipe σ vs) (wipeE ρ1 vs)) F1 H1 F7 H7 := x5.trans e7 fun a z => .inl (own4 a (l5 a z))
                          refine ⟨⟨⟨n, rfl⟩, b, hb⟩, fun u o' ru st => ?_⟩
                          obtain ⟨t, rfl⟩ := ru
                          refine ⟨by omega, F7, _, zs, _, mz, back en7, x7, backO fun a z => l5 a (l7 a z), e6, ez, st n t rfl b hb, ?_⟩
                          rw [← hf]
                          rfl
        · have hi' : ds.length ≤ i := by omega
          rw [List.drop_eq_nil_of_le hi'] at hl
          cases hl
          cases hy
          have hf : b = some r := hf
          subst hf
          obtain ⟨e9, l9⟩ := en1.unblock en2 x2 l2
          exact .inl ⟨hJ.stop i F2 H3 x2.fle en2.hp hi', .int r, ⟨r, hb, rfl⟩, p1 F2 H3 (x2.weaken fun a z => owns_wipe z) e9 l9 _ (repW_val rep_int)⟩
end
section
variable {C : Ct} {elt tg iter : Expr} {ifs : List Expr} {scope : Scope} {own : List (Str × Nat)} {p gpos pos : Pos} {fi : Env → R (List D)} {g : TgD} {tt : Env → R Bool} {te : Env → R W} {k : Nat} {c P : Addr}
theorem pd_minG (ht0 : C.tab = some (c, P)) (hk : C.k = k + 1) (hgl : glB C.sc "min" = true) (hm : C.G.mg "min" = none) (hb : Gx.genC C.N C.sc scope own = true) (hi : PDI C tg iter fi) (hg : PDG (C.gen scope k) tg (own.map (·.2)) g) (ht : PDTs (C.gen scope k) ifs tt) (he : PD (C.gen scope k) elt te)
    (hs : ∀ env v, genFold iter env v = pure v := by intro _ _; rfl)
    (hst : ∀ env, starEach [.GeneratorExp elt [⟨tg, iter, ifs, 0⟩] scope gpos] env = (false, eval (.GeneratorExp elt [⟨tg, iter, ifs, 0⟩] scope gpos) env) :: starEach [] env := by intro _; rfl) :
    PD C (.Call (.Name "min" p) [.GeneratorExp elt [⟨tg, iter, ifs, 0⟩] scope gpos] [] pos) (eMinG (own.map (·.2)) fi g tt te) := fun X Wx ok => by
  obtain ⟨h1, h2, h3⟩ := ok.cod c P ht0
  refine PE.to (Gx.pe_minG (own := own) ok.calm ok.nodup ok.room (ok.gl hgl) (by rw [ok.mg]; exact hm) h2 h1 (by rw [ok.hN, ok.hsc]; exact Gx.genSc_by hb) (hi X Wx ok)
    (fun A' s H code cl c fp hA => hg _ _ (ok.gen hk A' s H code cl c fp hA)) (fun A' s H code cl c fp hA => ht _ _ (ok.gen hk A' s H code cl c fp hA)) (fun A' s H code cl c fp hA => he _ _ (ok.gen hk A' s H code cl c fp hA)) (hs _) (hst _)) fun σ H Q h => minG_core h3 h
end
end PL
end
section
set_option Elab.async false
set_option linter.all false
set_option maxRecDepth 100000
set_option maxHeartbeats 2000000
set_option autoImplicit false
/-! The rules in short. -/
namespace PL
open PySem PySem.Spec PyProof.Rows L2

section
variable {C : Ct} {a b c : Expr} {fa fb fc : Env → R W} {pos : Pos}
theorem hu1 {X : Cx} {Wx : WX} (ok : Cok X C Wx) : X.A.units + 64 < cLine := ok.room.units
theorem hu2 {X : Cx} {Wx : WX} (ok : Cok X C Wx) : X.A.units + 65 < cLine := by have := ok.room.un; omega
theorem pd_add (ha : PD C a fa) (hb : PD C b fb) : PD C (.BinOp a .Add b pos) (eBin addD fa fb) := pd_op (r := fun X => rAddA X.K) (fun _ _ _ => op_addA) (fun _ _ ok => pr_add ok.K) ha hb
theorem pd_sub (ha : PD C a fa) (hb : PD C b fb) : PD C (.BinOp a .Sub b pos) (eBin subD fa fb) := pd_op (r := fun _ => _) (fun _ _ _ => op_sub) (fun _ _ _ => pr_sub) ha hb
theorem pd_mul (ha : PD C a fa) (hb : PD C b fb) : PD C (.BinOp a .Mult b pos) (eBin mulD fa fb) := pd_op (r := fun _ => rMulA) (fun _ _ _ => op_mulA) (fun _ _ _ => pr_mul) ha hb
theorem pd_fdiv (ha : PD C a fa) (hb : PD C b fb) : PD C (.BinOp a .FloorDiv b pos) (eBin fdivD fa fb) := pd_op (r := fun _ => _) (fun _ _ _ => op_fdivW) (fun _ _ _ => pr_fdiv) ha hb
theorem pd_mod (ha : PD C a fa) (hb : PD C b fb) : PD C (.BinOp a .Mod b pos) (eBin modD fa fb) := pd_op (r := fun _ => _) (fun _ _ _ => op_mod) (fun _ _ _ => pr_mod) ha hb
theorem pd_pow (ha : PD C a fa) (hb : PD C b fb) : PD C (.BinOp a .Pow b pos) (eBin powD fa fb) := pd_op (r := fun _ => _) (fun _ _ _ => op_pow) (fun _ _ _ => pr_pow) ha hb
theorem pd_shr (ha : PD C a fa) (hb : PD C b fb) : PD C (.BinOp a .RShift b pos) (eBin shrD fa fb) := pd_op (r := fun _ => _) (fun _ _ _ => op_shr) (fun _ _ _ => pr_shr) ha hb
theorem pd_xor (ha : PD C a fa) (hb : PD C b fb) : PD C (.BinOp a .BitXor b pos) (eBin xorD fa fb) := pd_op (r := fun _ => _) (fun _ _ _ => op_xor) (fun _ _ _ => pr_xor) ha hb
theorem pd_neg (ha : PD C a fa) : PD C (.UnaryOp .USub a pos) (eUn negD fa) := pd_un (r := fun _ => _) (fun _ _ _ => un_neg) (fun _ _ _ => pr_neg) ha
/-- a comparison's rule: the operator's reading -/
structure CmpOk (C : Ct) (op : CmpOp) (g : D → D → Option P1) : Prop where
  ex : ∃ r : Cx → R2, (∀ X Wx, Cok X C Wx → OpR X (compareOp op) (r X)) ∧ ∀ X Wx, Cok X C Wx → Prim2 C.G (r X) g
theorem cmp_eq : CmpOk C .Eq eqD := ⟨fun X => rEqD X.K, fun _ _ ok => op_eqD (hu1 ok), fun _ _ ok => pr_eq ok.K⟩
theorem cmp_ne : CmpOk C .NotEq neD := ⟨fun X => rNeD X.K, fun _ _ ok => op_neD (hu1 ok), fun _ _ ok => pr_ne ok.K⟩
theorem cmp_lt : CmpOk C .Lt ltD := ⟨fun _ => _, fun _ _ _ => op_ltA, fun _ _ _ => pr_lt⟩
theorem cmp_le : CmpOk C .LtE leD := ⟨fun _ => _, fun _ _ _ => op_leA, fun _ _ _ => pr_le⟩
theorem cmp_gt : CmpOk C .Gt gtD := ⟨fun _ => _, fun _ _ _ => op_gtA, fun _ _ _ => pr_gt⟩
theorem cmp_ge : CmpOk C .GtE geD := ⟨fun _ => _, fun _ _ _ => op_ge, fun _ _ _ => pr_ge⟩
theorem cmp_in : CmpOk C .In inD := ⟨fun X => rInA X.K, fun _ _ ok => (op_inD (hu2 ok)).or op_in_seq, fun _ _ ok => pr_in ok.K⟩
theorem cmp_notIn : CmpOk C .NotIn notInD := ⟨fun X => rNotInA X.K, fun _ _ ok => (op_notInD (hu2 ok)).or op_notIn_seq, fun _ _ ok => pr_notIn ok.K⟩
theorem cmp_is : CmpOk C .Is isD := ⟨fun _ => rIsA, fun _ _ _ => op_isA, fun _ _ _ => pr_is⟩
theorem cmp_isNot : CmpOk C .IsNot isNotD := ⟨fun _ => rIsNotA, fun _ _ _ => op_isNotA, fun _ _ _ => pr_isNot⟩
theorem pd_c {op : CmpOp} {g : D → D → Option P1} (h : CmpOk C op g) (ha : PD C a fa) (hb : PD C b fb) (hm : behindInMarks op b = false := by rfl) : PD C (.Compare a [op] [b] pos) (eBin g fa fb) := by
  obtain ⟨r, h1, h2⟩ := h.ex
  exact pd_cmp h1 h2 ha hb hm
theorem pdt_c {op : CmpOp} {g : D → D → Option P1} (h : CmpOk C op g) (ha : PD C a fa) (hb : PD C b fb) (hm : behindInMarks op b = false := by rfl) : PDT C (.Compare a [op] [b] pos) (tstB (eBin g fa fb)) := by
  obtain ⟨r, h1, h2⟩ := h.ex
  exact pdt_cmp h1 h2 ha hb hm
theorem pd_c2 {op op' : CmpOp} {g g' : D → D → Option P1} (h : CmpOk C op g) (h' : CmpOk C op' g') (ha : PD C a fa) (hb : PD C b fb) (hc : PD C c fc) (hm : lastMarks [op, op'] [b, c] = false := by rfl) : PD C (.Compare a [op, op'] [b, c] pos) (eCh2 g g' fa fb fc) := by
  obtain ⟨r, h1, h2⟩ := h.ex
  obtain ⟨r', h3, h4⟩ := h'.ex
  exact pd_ch2 h1 h2 h3 h4 ha hb hc hm
theorem pdt_c2 {op op' : CmpOp} {g g' : D → D → Option P1} (h : CmpOk C op g) (h' : CmpOk C op' g') (ha : PD C a fa) (hb : PD C b fb) (hc : PD C c fc) (hm : lastMarks [op, op'] [b, c] = false := by rfl) : PDT C (.Compare a [op, op'] [b, c] pos) (tstB (eCh2 g g' fa fb fc)) := by
  obtain ⟨r, h1, h2⟩ := h.ex
  obtain ⟨r', h3, h4⟩ := h'.ex
  exact pdt_ch2 h1 h2 h3 h4 ha hb hc hm
theorem pd_c3 {d : Expr} {fd : Env → R W} {op op' op'' : CmpOp} {g g' g'' : D → D → Option P1} (h : CmpOk C op g) (h' : CmpOk C op' g') (h'' : CmpOk C op'' g'') (ha : PD C a fa) (hb : PD C b fb) (hc : PD C c fc) (hd : PD C d fd) (hm : lastMarks [op, op', op''] [b, c, d] = false := by rfl) : PD C (.Compare a [op, op', op''] [b, c, d] pos) (eCh3 g g' g'' fa fb fc fd) := by
  obtain ⟨r, h1, h2⟩ := h.ex
  obtain ⟨r', h3, h4⟩ := h'.ex
  obtain ⟨r'', h5, h6⟩ := h''.ex
  exact pd_ch3 h1 h2 h3 h4 h5 h6 ha hb hc hd hm
end
section
variable {C : Ct} {e : Expr} {es : List Expr} {fa : Env → R (List W)} {p pos : Pos}
/-- a built-in's rule: its name, its reading -/
structure BiOk (C : Ct) (x : Str) (g : List D → Option P1) : Prop where
  ex : ∃ (v : Value) (r : Cx → List V → Hp → VK → Prop), bootBuiltins x = some v ∧ ((∃ id, v = .builtin id) ∨ ∃ Tn, v = .type Tn) ∧ (∀ X Wx, Cok X C Wx → CallR X v (r X)) ∧ ∀ X Wx, Cok X C Wx → PrimN C.G (r X) g
theorem bi_len : BiOk C "len" lenD := ⟨_, fun X => rLenA X.K, PySem.boot_len, .inl ⟨_, rfl⟩, fun _ _ _ => call_lenA, fun _ _ ok => pr_len ok.K⟩
theorem bi_abs : BiOk C "abs" absD := ⟨_, fun _ => _, (by decide +kernel : bootBuiltins "abs" = some (.builtin "abs")), .inl ⟨_, rfl⟩, fun _ _ _ => call_abs, fun _ _ _ => pr_abs⟩
theorem bi_max2 : BiOk C "max" max2D := ⟨_, fun _ => _, (by decide +kernel : bootBuiltins "max" = some (.builtin "max")), .inl ⟨_, rfl⟩, fun _ _ ok => call_max2 ok.calm, fun _ _ _ => pr_max2⟩
theorem bi_min2 : BiOk C "min" min2D := ⟨_, fun _ => _, (by decide +kernel : bootBuiltins "min" = some (.builtin "min")), .inl ⟨_, rfl⟩, fun _ _ ok => call_min2 ok.calm, fun _ _ _ => pr_min2⟩
theorem bi_sum : BiOk C "sum" sumD := ⟨_, fun X => rSum X.K, (by decide +kernel : bootBuiltins "sum" = some (.builtin "sum")), .inl ⟨_, rfl⟩, fun _ _ ok => cr_sum ok.calm, fun _ _ ok => pr_sum ok.K⟩
theorem bi_sorted : BiOk C "sorted" sortedD := ⟨_, fun X => rSortedI X.K, (by decide +kernel : bootBuiltins "sorted" = some (.builtin "sorted")), .inl ⟨_, rfl⟩, fun _ _ _ => cr_sortedI, fun _ _ ok => pr_sorted ok.K⟩
theorem bi_tuple : BiOk C "tuple" tupleD := ⟨_, fun X => _, (by decide +kernel : bootBuiltins "tuple" = some (.type "tuple")), .inr ⟨_, rfl⟩, fun _ _ _ => call_tuple_of, fun _ _ ok => pr_tuple ok.K⟩
theorem bi_list : BiOk C "list" listD := ⟨_, fun X => _, (by decide +kernel : bootBuiltins "list" = some (.type "list")), .inr ⟨_, rfl⟩, fun _ _ _ => call_list_of, fun _ _ ok => pr_list ok.K⟩
theorem pd_b {x : Str} {g : List D → Option P1} (h : BiOk C x g) (hg : glB C.sc x = true) (hm : C.G.mg x = none) (ha : PDA C (e :: es) fa)
    (he : ∀ env, starEach (e :: es) env = (false, eval e env) :: starEach es env := by intro _; rfl) (hpl : ∀ env, (backTo pos (starEach es env)).any (·.1) = false := by intro _; rfl) : PD C (.Call (.Name x p) (e :: es) [] pos) (eN g fa) := by
  obtain ⟨v, r, h1, h2, h3, h4⟩ := h.ex
  rcases h2 with ⟨id, rfl⟩ | ⟨Tn, rfl⟩
  · exact pd_callB h3 h4 hg hm h1 ha he hpl
  · exact pd_callTy h3 h4 hg hm h1 ha he hpl
theorem pd_gcd {x : Str} (hg : glB C.sc x = true) (hm : C.G.mg x = some (.builtin "math.gcd")) (ha : PDA C (e :: es) fa)
    (he : ∀ env, starEach (e :: es) env = (false, eval e env) :: starEach es env := by intro _; rfl) (hpl : ∀ env, (backTo pos (starEach es env)).any (·.1) = false := by intro _; rfl) : PD C (.Call (.Name x p) (e :: es) [] pos) (eN gcdD fa) :=
  pd_callF (r := fun _ => rGcd) (fun _ _ _ => cr_gcd) (fun _ _ _ => pr_gcd) hg hm ha he hpl
theorem pd_glI {C : Ct} {x : Str} {i : Int} {pos : Pos} (hg : glB C.sc x = true) (hm : ∃ t, C.G.mg x = some (.int i t)) : PD C (.Name x pos) (eC (.int i)) := by
  obtain ⟨t, hm⟩ := hm
  exact pd_glob hg hm (v := .int i) ⟨t, rfl⟩ (by rw [Rep])
/-- a constant of the module that is a tuple in the written part -/
def GlD (G : GG) (x : Str) (d : D) : Prop := ∃ (v : V) (u : Value), G.mg x = some u ∧ RelV v u ∧ Rep G.K (fun _ => none) d v
theorem pd_glD {C : Ct} {x : Str} {d : D} {pos : Pos} (hg : glB C.sc x = true) (hm : GlD C.G x d) : PD C (.Name x pos) (eC d) := by
  obtain ⟨v, u, h1, h2, h3⟩ := hm
  exact pd_glob hg h1 h2 h3
end
end PL
end
section
set_option Elab.async false
set_option linter.all false
set_option maxRecDepth 100000
set_option maxHeartbeats 2000000
set_option autoImplicit false
/-! The script; defs as they stand. -/
namespace PL
open PySem PySem.Spec PyProof.Rows L2

theorem bi_int {C : Ct} : BiOk C "int" intD := ⟨_, fun X => _, (by decide +kernel : bootBuiltins "int" = some (.type "int")), .inr ⟨_, rfl⟩, fun _ _ _ => call_int1, fun _ _ ok => pr_intC⟩
/-- script[:63] -/
def eSc (i : Nat) : Env → R W := fun ρ => match ρ[i]? with
  | some (.sc ns) => .ok (.o (.fl (ns.map PyData.int))) ρ
  | _ => .bad
theorem pd_scSl {C : Ct} {i : Nat} {x : Str} {p p1 p2 pos : Pos} {j : Nat} (hx : nmB C.N C.sc i x = true) : PD C (.Subscript (.Name x p) (.Slice none (some (.Constant (.int 63) j p1)) none p2) pos) (eSc i) := fun X Wx ok => by
  obtain ⟨h1, h2, h3, h4⟩ := nmB_spec hx
  refine PE.to (pe_slice (r := rSlAll X.K) (sl_list.or (sl_tupA.or sl_str)) (pe_var (i := i) (by rw [ok.hN]; exact h1) (by rw [ok.hsc]; exact h2) h3 h4) po_none (po_some pe_int)) fun σ H Q ⟨T, F, ρ, en, pp⟩ => ?_
  unfold eSc at pp
  split at pp <;> try (exact False.elim pp)
  rename_i ns es
  obtain ⟨a, ev, q1, q2⟩ := en.at_ i _ es
  refine ⟨.ref a, join_ref ev, (63 : Int), rfl, ?_⟩
  refine .inl ⟨a, ns.map V.int, rfl, ?_, fun l hl => ?_⟩
  · rw [ok.K]; exact en.hp.sub.seq q1
  · have e : cutV (ns.map V.int) none (some 63) = ns.map V.int := by
      unfold cutV
      have hlen : (ns.map V.int).length ≤ 63 := by rw [List.length_map]; exact q2
      have e0 : HT.sIx (ns.map V.int).length 0 none = 0 := rfl
      have e1 : HT.sIx (ns.map V.int).length (ns.map V.int).length (some 63) = (ns.map V.int).length := by
        unfold HT.sIx
        simp
        omega
      rw [e0, e1]
      simp
      exact List.take_of_length_le (by simp)
    rw [e]
    have hz : (ns.map V.int).length ≤ sizeLine := by rw [List.length_map]; exact Nat.le_trans q2 (by decide)
    obtain ⟨n, k, r⟩ := new_lst en.hp hz (ints_reps (K := C.G.K) (F := F) ns) hl
    obtain ⟨p', eg, q⟩ := out_post (p := some (.fl (ns.map PyData.int))) (Hs := H) (fun _ z => z) en pp
    cases eg
    exact q _ _ _ n k r

/-! ### defs as they stand -/
theorem def_at {G : GG} {x : Str} {params : Arguments} {body : List Stmt} {scope : Scope} {f : Addr} {fd : FuncData} {N ps : List Str} {k : Nat} {ms : List Md} {t : Env → So} (F : FunD G.K x x params body scope [] [] f fd) (hg : G.mg x = some (.ref f)) (S : FnScope N ps scope) (hms : ms.length = ps.length) (hbi : Binds G.K fd ps [])
    (hb : PDSs ⟨G, N, scope, k, fun _ => true, none⟩ body t) : DefAt G x (k + 1) N.length ms (semOf N.length ms t) :=
  ⟨f, fd, ps, hg, F.kp, hbi, F.ok S (spD_len hms) fun cdv A outer s H vs Q E hr h => def_body S hms (fun c P e => by cases e) hb A outer s H vs Q E hr h⟩
/-- .. with a table for generator expressions -/
theorem def_atT {G : GG} {x : Str} {params : Arguments} {body : List Stmt} {scope : Scope} {f c P : Addr} {fd : FuncData} {N ps : List Str} {k : Nat} {ms : List Md} {t : Env → So} (F : FunD G.K x x params body scope [] [] f fd) (hg : G.mg x = some (.ref f)) (hc : fd.code = .ref c) (TB : GxR.TabB G.base G.mg c P) (hP : P ∈ G.tb) (S : FnScope N ps scope) (hms : ms.length = ps.length) (hbi : Binds G.K fd ps [])
    (hb : PDSs ⟨G, N, scope, k, fun _ => true, some (c, P)⟩ body t) : DefAt G x (k + 1) N.length ms (semOf N.length ms t) := by
  refine ⟨f, fd, ps, hg, F.kp, hbi, ?_⟩
  obtain ⟨oc, od, dV, kV, doc, pm, an, cdv, ct, osl, rfl, lk, hcd, _, _⟩ := F.ex
  have hc : cdv = .ref c := hc
  exact fn_of lk hcd S (spD_len hms) fun A outer s H vs Q E hr h => def_body S hms (fun c' P' e => by cases e; exact ⟨hc, TB, hP⟩) hb A outer s H vs Q E hr h
end PL
end
section
set_option Elab.async false
set_option linter.all false
set_option maxRecDepth 100000
set_option maxHeartbeats 2000000
set_option autoImplicit false
/-! From the facts of the head to the layer, and the law's end. -/
namespace PL
open PySem PySem.Spec PyProof.Rows L2

/-! ### data of the written part -/
mutual
def repB (K : PySem.W.Frag) : D → Value → Bool
  | .none, .none => true
  | .bool b, .bool c => b == c
  | .int i, .int j _ => i == j
  | .str x, .str y _ => x == y && strB x
  | .tuple ds, .ref a => (match K.lookup a with
    | some ⟨.type c, _, .seq its _, _⟩ => decide (c = "tuple") && decide (its.size ≤ sizeLine) && repsB K ds its.toList
    | _ => false)
  | _, _ => false
def repsB (K : PySem.W.Frag) : List D → List Value → Bool
  | [], [] => true
  | d :: ds, v :: vs => repB K d v && repsB K ds vs
  | _, _ => false
end
theorem strB_spec {x : Str} (h : strB x = true) : x.length ≤ sizeLine ∧ PyData.strOk x = true := by
  have h' := Bool.and_eq_true_iff.mp h
  exact ⟨of_decide_eq_true h'.1, h'.2⟩
mutual
theorem repB_ok {K : PySem.W.Frag} : ∀ {d : D} {u : Value}, repB K d u = true → ∃ v, RelV v u ∧ Rep K (fun _ => Option.none) d v
  | .none, u, h => by
    cases u <;> try (simp [repB] at h; done)
    exact ⟨.non, rfl, by rw [Rep]⟩
  | .bool b, u, h => by
    cases u <;> try (simp [repB] at h; done)
    simp [repB] at h
    subst h
    exact ⟨.bl b, rfl, by rw [Rep]⟩
  | .int i, u, h => by
    cases u <;> try (simp [repB] at h; done)
    simp [repB] at h
    subst h
    exact ⟨.int i, ⟨_, rfl⟩, by rw [Rep]⟩
  | .str x, u, h => by
    cases u <;> try (simp [repB] at h; done)
    simp [repB] at h
    obtain ⟨rfl, h2⟩ := h
    obtain ⟨h3, h4⟩ := strB_spec h2
    exact ⟨.str x, ⟨_, rfl⟩, by rw [Rep]; exact ⟨rfl, h3, h4⟩⟩
  | .list xs, u, h => by cases u <;> simp [repB] at h
  | .dict xs, u, h => by cases u <;> simp [repB] at h
  | .tuple ds, u, h => by
    cases u <;> try (simp [repB] at h; done)
    rename_i a
    unfold repB at h
    split at h <;> try (cases h; done)
    rename_i c od its n sl e
    obtain ⟨h1, h2⟩ := Bool.and_eq_true_iff.mp h
    obtain ⟨h3, h4⟩ := Bool.and_eq_true_iff.mp h1
    obtain ⟨vs, r1, r2⟩ := repsB_ok h2
    have hc : c = "tuple" := of_decide_eq_true h3
    have hz : its.size ≤ sizeLine := of_decide_eq_true h4
    subst hc
    have hlen := r1.length
    refine ⟨.ref a, rfl, ?_⟩
    rw [Rep]
    exact ⟨a, vs, rfl, .inr ⟨_, its, n, e, rfl, rfl, hz, r1⟩, by rw [hlen, Array.length_toList]; exact hz, r2⟩
theorem repsB_ok {K : PySem.W.Frag} : ∀ {ds : List D} {us : List Value}, repsB K ds us = true → ∃ vs, Vals vs us ∧ Reps K (fun _ => Option.none) ds vs
  | [], [], _ => ⟨[], .nil, reps_nil⟩
  | [], _ :: _, h => by cases h
  | _ :: _, [], h => by cases h
  | d :: ds, u :: us, h => by
    unfold repsB at h
    obtain ⟨h1, h2⟩ := Bool.and_eq_true_iff.mp h
    obtain ⟨v, r1, r2⟩ := repB_ok h1
    obtain ⟨vs, r3, r4⟩ := repsB_ok h2
    exact ⟨v :: vs, .cons r1 r3, reps_cons r2 r4⟩
end
/-- the constant x of the module is d -/
def glB' (K : PySem.W.Frag) (x : Str) (d : D) : Bool := match PySem.W.nsIn K mainGlobals x with
  | some (some u) => repB K d u
  | _ => false
theorem glB'_ok {G : GG} {h : Heap} (X : G.K.In h) (Gn : h.Ns mainGlobals G.mg) {x : Str} {d : D} (c : glB' G.K x d = true) : GlD G x d := by
  unfold glB' at c
  split at c <;> try (cases c; done)
  rename_i u e
  obtain ⟨v, r1, r2⟩ := repB_ok c
  exact ⟨v, u, PySem.W.mg_of X Gn e, r1, r2⟩
/-- the name x of the module is that value -/
def glV' (K : PySem.W.Frag) (x : Str) (v : Value) : Bool := He.eqO (PySem.W.nsIn K mainGlobals x) (some (some v))
theorem glV'_ok {G : GG} {h : Heap} (X : G.K.In h) (Gn : h.Ns mainGlobals G.mg) {x : Str} {v : Value} (c : glV' G.K x v = true) : G.mg x = some v := PySem.W.mg_of X Gn (He.eqO_ok c)
theorem excD_of {G : GG} {h : Heap} (X : G.K.In h) (Gn : h.Ns mainGlobals G.mg) (hc : G.cls = He.ga G.K) {x : Str} (c : (He.Fa.exc x).ok G.K = true) (g : (He.Fa.glo x).ok G.K = true) : ExcD G x := by
  obtain ⟨h1, h2, h3, h4⟩ := He.exc_ok c
  exact ⟨by rw [hc]; exact h1, by rw [hc]; exact He.glo_ok X Gn g, by rw [hc]; exact h2, by rw [hc]; exact h3, by rw [hc]; exact h4⟩

/-! ### the law's end -/
def spLaw (K : PySem.W.Frag) (cs : List (Addr × Addr)) : Sp := fun vs H Q _ => ∃ (a : Addr) (ns : List Int), vs = [.ref a] ∧ SqL K H a (ns.map V.int) ∧ ns.length ≤ 63 ∧ (∀ z ∈ ns, Builtin.Int.intBits z ≤ 1048576) ∧ (∀ p ∈ cs, H p.2 = some (.tbl #[])) ∧ ∀ H', Q (.bl true) H'
/-- the plain law: at every script it answers True -/
def Plain (sem : DefSem) : Prop := ∀ ns : List Int, ns.length ≤ 63 → (∀ z ∈ ns, Builtin.Int.intBits z ≤ 1048576) → sem [.list (ns.map PyData.int)] = .ret (.fz (.bool true)) []
theorem law_sp {G : GG} {cs : List (Addr × Addr)} {sem : DefSem} (hp : Plain sem) (htb : ∀ P ∈ G.tb, ∃ p ∈ cs, p.2 = P) (vs : List V) (H : Hp) (Q : VK) (E : XK) (h : spLaw G.K cs vs H Q E) : spD G [.sc] sem vs H Q E := by
  obtain ⟨a, ns, rfl, hs, hl, hb, ht, q⟩ := h
  have tabs : ∀ P ∈ G.tb, GxR.TabG H P := fun P hP => by
    obtain ⟨p, hp1, rfl⟩ := htb P hP
    exact ⟨#[], ht p hp1, trivial⟩
  have fin : ∀ F : Hp, HpOk G F H → SqL G.K F a (ns.map V.int) → spD G [.sc] sem [.ref a] H Q E := fun F hF hq => by
    refine ⟨F, [.list (ns.map PyData.int)], [], hF, ⟨ns, [], a, [], rfl, rfl, hq, hl, rfl, rfl, rfl⟩, List.nodup_nil, ?_⟩
    rw [hp ns hl hb]
    rintro F' H' v A x hp' ⟨_, r⟩ _ _ _
    rw [Rep] at r
    subst r
    exact q H'
  rcases hs with (h | ⟨o, h⟩) | h
  · refine fin (fun b => if b = a then H a else none) ⟨fun b o e => ?_, fun b ps e => ?_, tabs⟩ (.inl (.inl ?_))
    · split at e
      · rename_i z; rw [z]; exact e
      · cases e
    · split at e
      · rw [h] at e; cases e
      · cases e
    · show (if a = a then H a else none) = _
      rw [if_pos rfl]; exact h
  · refine fin (fun b => if b = a then H a else none) ⟨fun b o e => ?_, fun b ps e => ?_, tabs⟩ (.inl (.inr ⟨o, ?_⟩))
    · split at e
      · rename_i z; rw [z]; exact e
      · cases e
    · split at e
      · rw [h] at e; cases e
      · cases e
    · show (if a = a then H a else none) = _
      rw [if_pos rfl]; exact h
  · exact fin (fun _ => none) ⟨fun b o e => (nomatch e), fun b ps e => (nomatch e), tabs⟩ (.inr h)
theorem law_at {l : PySem.W.OpenLaw} {w : World} {K : PySem.W.Frag} {mg : Str → Option Value} {fa : Addr} {h : Heap} {cs : List (Addr × Addr)} {sem : DefSem} {fd : FuncData} {k : Nat} {x : Str} (hT : ∀ p ∈ cs, h.get? p.2 = some { cls := .none, data := .fields #[] }) (nT : ∀ p ∈ cs, K.lookup p.2 = none)
    (C : ∀ p ∈ cs, PySem.W.CodeHd h p.1 p.2) (hb : ∀ (s : Shared) (u : Value), BindsTo s fd ⟨[u], []⟩ [(x, u)]) (hp : Plain sem)
    (hd : ∀ base : Heap, K.In base → base.Ns mainGlobals mg → (∀ p ∈ cs, GxR.TabB base mg p.1 p.2) → ∃ G : GG, G.P = l.prog ∧ G.w = w ∧ G.K = K ∧ G.mg = mg ∧ G.base = base ∧ (∀ P ∈ G.tb, ∃ p ∈ cs, p.2 = P) ∧ DefOk G k fa fd [x] [.sc] sem) : LamX.LawAtS l w K (L2.CX l.prog w) k 63 x mg fa h := by
  refine ⟨fd, cs, spLaw K cs, hT, nT, C, hb, fun H a ns hl hbits hH hS => ⟨a, ns, rfl, hS, hl, hbits, hH, fun _ => rfl⟩, fun base KB NB TB => ?_⟩
  obtain ⟨G, e1, e2, e3, e4, e5, htb, F⟩ := hd base KB NB fun p hp => ⟨(TB p hp).code, (TB p hp).bm, (TB p hp).gP⟩
  rw [← e1, ← e2, ← e3, ← e4, ← e5]
  exact F.imp fun vs H Q E z => law_sp hp htb vs H Q E z
theorem code_ref {K : PySem.W.Frag} {x : Str} {params : Arguments} {body : List Stmt} {scope : Scope} {f : Addr} {fd : FuncData} (F : FunD K x x params body scope [] [] f fd) : ∃ c, fd.code = .ref c := by
  obtain ⟨oc, od, dV, kV, doc, pm, an, cdv, ct, osl, rfl, lk, hcd, _, _⟩ := F.ex
  exact He.codeIn_ref hcd
theorem code_eq {K : PySem.W.Frag} {x : Str} {p : He.Defn} {params : Arguments} {body : List Stmt} {scope : Scope} {f c : Addr} {fd : FuncData} (F : FunD K x x params body scope [] [] f fd) (hf : f = He.fAd K p) (hc : fd.code = .ref c) : (He.cT K p).1 = c := by
  obtain ⟨oc, od, dV, kV, doc, pm, an, cdv, ct, osl, _, lk, hcd, _, _⟩ := F.ex
  subst hf
  exact He.codeOf_eq lk hc
theorem def_ok {G : GG} {x : Str} {params : Arguments} {body : List Stmt} {scope : Scope} {f : Addr} {fd : FuncData} {N ps : List Str} {k : Nat} {ms : List Md} {t : Env → So} (F : FunD G.K x x params body scope [] [] f fd) (S : FnScope N ps scope) (hms : ms.length = ps.length)
    (hb : PDSs ⟨G, N, scope, k, fun _ => true, none⟩ body t) : DefOk G (k + 1) f fd ps ms (semOf N.length ms t) :=
  F.ok S (spD_len hms) fun cdv A outer s H vs Q E hr h => def_body S hms (fun c P e => by cases e) hb A outer s H vs Q E hr h
theorem cx_none {P : Program} {w : World} {H : Hp} {s : Shared} {e : Value} {s' : Shared} (h : L2.CX P w [] H s (fun _ _ _ => False) e s') : False := by
  obtain ⟨_, _, _, _, _, _, _, _, _, _, _, _, z⟩ := h
  exact z
end PL
end
section
set_option Elab.async false
set_option linter.all false
set_option maxRecDepth 100000
set_option maxHeartbeats 2000000
set_option autoImplicit false
/-! Plain evaluation: what the readings are worth at environments written out. -/
namespace PL
open PySem L2

section
variable {α β : Type}
@[simp] theorem bind_ite {c : Prop} [Decidable c] (a b : R α) (k : α → Env → R β) : (if c then a else b).bind k = if c then a.bind k else b.bind k := by split <;> rfl
@[simp] theorem so_ite {c : Prop} [Decidable c] (a b : R α) (k : α → Env → So) : (if c then a else b).so k = if c then a.so k else b.so k := by split <;> rfl
end
@[simp] theorem seq_nx (ρ : Env) (g : Env → So) : (So.nx ρ).seq g = g ρ := rfl
@[simp] theorem seq_bk (ρ : Env) (g : Env → So) : (So.bk ρ).seq g = .bk ρ := rfl
@[simp] theorem seq_ct (ρ : Env) (g : Env → So) : (So.ct ρ).seq g = .ct ρ := rfl
@[simp] theorem seq_rt (w : W) (ρ : Env) (g : Env → So) : (So.rt w ρ).seq g = .rt w ρ := rfl
@[simp] theorem seq_exc (c : Str) (ρ : Env) (g : Env → So) : (So.exc c ρ).seq g = .exc c ρ := rfl
@[simp] theorem seq_bad (g : Env → So) : So.bad.seq g = .bad := rfl
@[simp] theorem seq_ite {c : Prop} [Decidable c] (a b : So) (g : Env → So) : (if c then a else b).seq g = if c then a.seq g else b.seq g := by split <;> rfl
@[simp] theorem ev_seq (f g : Env → So) (s : Sl) (ρ : Env) : sSeq f g (s :: ρ) = (f (s :: ρ)).seq g := rfl
@[simp] theorem ev_nx (ρ : Env) : sNx ρ = .nx ρ := rfl
@[simp] theorem ev_bk (ρ : Env) : sBk ρ = .bk ρ := rfl
@[simp] theorem ev_ct (ρ : Env) : sCt ρ = .ct ρ := rfl
/-! the ends of a def -/
@[simp] theorem out_nx (ms : List Md) (ρ : Env) : outOf ms (.nx ρ) = mkRet (.fz .none) (iosOf ms 0 0 ρ) := rfl
@[simp] theorem out_rt (ms : List Md) (x : O) (ρ : Env) : outOf ms (.rt (.o x) ρ) = mkRet x (iosOf ms 0 0 ρ) := rfl
def ownR (ms : List Md) (ρ : Env) : Option Sl → DOut
  | some (.fl xs) => mkRet (.fl xs) (iosOf ms 0 0 ρ)
  | _ => .bad
@[simp] theorem out_own (ms : List Md) (i : Nat) (ρ : Env) : outOf ms (.rt (.own i) ρ) = ownR ms ρ ρ[i]? := by
  show (match ρ[i]? with | some (.fl xs) => mkRet (.fl xs) (iosOf ms 0 0 ρ) | _ => DOut.bad) = _
  cases h : ρ[i]? with
  | none => rfl
  | some s => cases s <;> rfl
@[simp] theorem ownR_fl (ms : List Md) (ρ : Env) (xs : List D) : ownR ms ρ (some (.fl xs)) = mkRet (.fl xs) (iosOf ms 0 0 ρ) := rfl
@[simp] theorem out_exc (ms : List Md) (c : Str) (ρ : Env) : outOf ms (.exc c ρ) = mkExc c (iosOf ms 0 0 ρ) := rfl
@[simp] theorem out_bad (ms : List Md) : outOf ms .bad = .bad := rfl
@[simp] theorem out_ite {c : Prop} [Decidable c] (ms : List Md) (a b : So) : outOf ms (if c then a else b) = if c then outOf ms a else outOf ms b := by split <;> rfl
@[simp] theorem mkRet_some (o : O) (outs : List (List D)) : mkRet o (some outs) = .ret o outs := rfl
@[simp] theorem mkExc_some (c : Str) (outs : List (List D)) : mkExc c (some outs) = .exc c outs := rfl
@[simp] theorem ios_nil (i j : Nat) (ρ : Env) : iosOf [] i j ρ = some [] := rfl
@[simp] theorem ios_d (ms : List Md) (i j : Nat) (ρ : Env) : iosOf (.d :: ms) i j ρ = iosOf ms (i + 1) j ρ := rfl
@[simp] theorem ios_sc (ms : List Md) (i j : Nat) (ρ : Env) : iosOf (.sc :: ms) i j ρ = iosOf ms (i + 1) j ρ := rfl
def ioK (j : Nat) (r : Option (List (List D))) : Option Sl → Option (List (List D))
  | some (.io j' xs) => if j' = j then (match r with
      | some r => some (xs :: r)
      | none => none) else none
  | _ => none
@[simp] theorem ios_io (ms : List Md) (i j : Nat) (ρ : Env) : iosOf (.io :: ms) i j ρ = ioK j (iosOf ms (i + 1) (j + 1) ρ) ρ[i]? := by
  conv => lhs; unfold iosOf
  cases h : ρ[i]? with
  | none => rfl
  | some s => cases s <;> rfl
@[simp] theorem ioK_io (j : Nat) (r : List (List D)) (xs : List D) : ioK j (some r) (some (.io j xs)) = some (xs :: r) := by
  unfold ioK
  simp
/-! values -/
def varR (i : Nat) (ρ : Env) : Option Sl → R W
  | some (.fz d) => .ok (.val d) ρ
  | some (.fl _) => .ok (.own i) ρ
  | some (.io _ _) => .ok (.own i) ρ
  | _ => .bad
@[simp] theorem ev_var (i : Nat) (s : Sl) (ρ : Env) : eVar i (s :: ρ) = varR i (s :: ρ) (s :: ρ)[i]? := by
  unfold eVar
  cases h : (s :: ρ)[i]? with
  | none => rfl
  | some s => cases s <;> rfl
@[simp] theorem varR_fz (i : Nat) (ρ : Env) (d : D) : varR i ρ (some (.fz d)) = .ok (.val d) ρ := rfl
@[simp] theorem varR_fl (i : Nat) (ρ : Env) (xs : List D) : varR i ρ (some (.fl xs)) = .ok (.own i) ρ := rfl
@[simp] theorem varR_io (i j : Nat) (ρ : Env) (xs : List D) : varR i ρ (some (.io j xs)) = .ok (.own i) ρ := rfl
@[simp] theorem ev_c (d : D) (ρ : Env) : eC d ρ = .ok (.val d) ρ := rfl
def nrmK (w : W) (ρ : Env) : R W := .ok w.nrm ρ
@[simp] theorem nrmK_o (x : O) (ρ : Env) : nrmK (.o x) ρ = .ok (.val x.dat) ρ := rfl
@[simp] theorem nrmK_own (i : Nat) (ρ : Env) : nrmK (.own i) ρ = .ok (.own i) ρ := rfl
@[simp] theorem ev_nrm (f : Env → R W) (s : Sl) (ρ : Env) : eNrm f (s :: ρ) = (f (s :: ρ)).bind nrmK := rfl
@[simp] theorem odat_fz (d : D) : O.dat (.fz d) = d := rfl
@[simp] theorem odat_fl (xs : List D) : O.dat (.fl xs) = .list xs := rfl
@[simp] theorem odat_tp (ps : List P1) : O.dat (.tp ps) = .tuple (ps.map P1.dat) := rfl
@[simp] theorem wdat_o (ρ : Env) (x : O) : W.dat ρ (.o x) = some x.dat := rfl
@[simp] theorem wdat_own (s : Sl) (ρ : Env) (i : Nat) : W.dat (s :: ρ) (.own i) = ((s :: ρ)[i]?).bind Sl.dat := rfl
@[simp] theorem sdat_fz (d : D) : Sl.dat (.fz d) = some d := rfl
@[simp] theorem sdat_fl (xs : List D) : Sl.dat (.fl xs) = some (.list xs) := rfl
@[simp] theorem sdat_io (j : Nat) (xs : List D) : Sl.dat (.io j xs) = some (.list xs) := rfl
@[simp] theorem bind_some {α β : Type} (a : α) (f : α → Option β) : (some a).bind f = f a := rfl
def fzS (i : Nat) (ρ : Env) : Option Sl → R W
  | some (.fl xs) => .ok (.val (.list xs)) (ρ.set i (.fz (.list xs)))
  | some (.fz d) => .ok (.val d) ρ
  | _ => .bad
@[simp] theorem fz1_o (x : O) (ρ : Env) : fz1 (.o x) ρ = .ok (.o x) ρ := rfl
@[simp] theorem fz1_own (i : Nat) (s : Sl) (ρ : Env) : fz1 (.own i) (s :: ρ) = fzS i (s :: ρ) (s :: ρ)[i]? := by
  show (match (s :: ρ)[i]? with | some (.fl xs) => R.ok (W.val (.list xs)) ((s :: ρ).set i (.fz (.list xs))) | some (.fz d) => .ok (W.val d) (s :: ρ) | _ => .bad) = _
  cases h : (s :: ρ)[i]? with
  | none => rfl
  | some s => cases s <;> rfl
@[simp] theorem fzS_fl (i : Nat) (ρ : Env) (xs : List D) : fzS i ρ (some (.fl xs)) = .ok (.val (.list xs)) (ρ.set i (.fz (.list xs))) := rfl
@[simp] theorem fzS_fz (i : Nat) (ρ : Env) (d : D) : fzS i ρ (some (.fz d)) = .ok (.val d) ρ := rfl
@[simp] theorem ev_fz (f : Env → R W) (s : Sl) (ρ : Env) : eFz f (s :: ρ) = ((f (s :: ρ)).bind nrmK).bind fz1 := rfl
@[simp] theorem outP_fz (d : D) (ρ : Env) : outP (some (.fz d)) ρ = .ok (.val d) ρ := rfl
@[simp] theorem outP_fl (xs : List D) (ρ : Env) : outP (some (.fl xs)) ρ = .ok (.o (.fl xs)) ρ := rfl
@[simp] theorem outP_none (ρ : Env) : outP none ρ = .bad := rfl
@[simp] theorem outP_ite {c : Prop} [Decidable c] (a b : Option P1) (ρ : Env) : outP (if c then a else b) ρ = if c then outP a ρ else outP b ρ := by split <;> rfl
def on2 (g : D → D → Option P1) (ρ : Env) : Option D → Option D → R W
  | some a, some b => outP (g a b) ρ
  | _, _ => .bad
@[simp] theorem on2_some (g : D → D → Option P1) (ρ : Env) (a b : D) : on2 g ρ (some a) (some b) = outP (g a b) ρ := rfl
def bin3 (g : D → D → Option P1) (wa wb : W) (ρ : Env) : R W := match wa.dat ρ, wb.dat ρ with
  | some a, some b => outP (g a b) ρ
  | _, _ => .bad
def bin2 (g : D → D → Option P1) (fb : Env → R W) (wa : W) (ρ : Env) : R W := (eNrm fb ρ).bind (bin3 g wa)
@[simp] theorem ev_bin (g : D → D → Option P1) (fa fb : Env → R W) (s : Sl) (ρ : Env) : eBin g fa fb (s :: ρ) = ((fa (s :: ρ)).bind nrmK).bind (bin2 g fb) := rfl
@[simp] theorem ev_bin2 (g : D → D → Option P1) (fb : Env → R W) (wa : W) (s : Sl) (ρ : Env) : bin2 g fb wa (s :: ρ) = ((fb (s :: ρ)).bind nrmK).bind (bin3 g wa) := rfl
@[simp] theorem ev_bin3 (g : D → D → Option P1) (wa wb : W) (s : Sl) (ρ : Env) : bin3 g wa wb (s :: ρ) = on2 g (s :: ρ) (wa.dat (s :: ρ)) (wb.dat (s :: ρ)) := by
  unfold bin3 on2
  rfl
def un2 (g : D → Option P1) (wa : W) (ρ : Env) : R W := match wa.dat ρ with
  | some a => outP (g a) ρ
  | _ => .bad
def on1 (g : D → Option P1) (ρ : Env) : Option D → R W
  | some a => outP (g a) ρ
  | none => .bad
@[simp] theorem on1_some (g : D → Option P1) (ρ : Env) (a : D) : on1 g ρ (some a) = outP (g a) ρ := rfl
@[simp] theorem ev_un (g : D → Option P1) (fa : Env → R W) (s : Sl) (ρ : Env) : eUn g fa (s :: ρ) = ((fa (s :: ρ)).bind nrmK).bind (un2 g) := rfl
@[simp] theorem ev_un2 (g : D → Option P1) (wa : W) (s : Sl) (ρ : Env) : un2 g wa (s :: ρ) = on1 g (s :: ρ) (wa.dat (s :: ρ)) := by
  unfold un2
  cases W.dat (s :: ρ) wa <;> rfl
/-! chains -/
def onB (x y : R W) : Option Bool → R W
  | some true => x
  | some false => y
  | none => .bad
@[simp] theorem onB_some (x y : R W) (b : Bool) : onB x y (some b) = if b = true then x else y := by cases b <;> rfl
@[simp] theorem boolP_b (b : Bool) : boolP (some (.fz (.bool b))) = some b := rfl
def ch3K (g : D → D → Option P1) (wb wc : W) (ρ : Env) : R W := on2 g ρ (wb.dat ρ) (wc.dat ρ)
def ch2D (g g' : D → D → Option P1) (fc : Env → R W) (wb : W) (ρ : Env) : Option D → Option D → R W
  | some a, some b => onB ((eNrm fc ρ).bind (ch3K g' wb)) (.ok (.val (.bool false)) ρ) (boolP (g a b))
  | _, _ => .bad
@[simp] theorem ch2D_some (g g' : D → D → Option P1) (fc : Env → R W) (wb : W) (ρ : Env) (a b : D) : ch2D g g' fc wb ρ (some a) (some b) = onB ((eNrm fc ρ).bind (ch3K g' wb)) (.ok (.val (.bool false)) ρ) (boolP (g a b)) := rfl
def ch2K (g g' : D → D → Option P1) (fc : Env → R W) (wa wb : W) (ρ : Env) : R W := ch2D g g' fc wb ρ (wa.dat ρ) (wb.dat ρ)
def ch1K (g g' : D → D → Option P1) (fb fc : Env → R W) (wa : W) (ρ : Env) : R W := (eNrm fb ρ).bind (ch2K g g' fc wa)
theorem ev_ch2' (g g' : D → D → Option P1) (fa fb fc : Env → R W) (ρ : Env) : eCh2 g g' fa fb fc ρ = (eNrm fa ρ).bind (ch1K g g' fb fc) := by
  unfold eCh2
  congr 1
@[simp] theorem ev_ch2 (g g' : D → D → Option P1) (fa fb fc : Env → R W) (s : Sl) (ρ : Env) : eCh2 g g' fa fb fc (s :: ρ) = ((fa (s :: ρ)).bind nrmK).bind (ch1K g g' fb fc) := ev_ch2' g g' fa fb fc (s :: ρ)
@[simp] theorem ev_ch1K (g g' : D → D → Option P1) (fb fc : Env → R W) (wa : W) (s : Sl) (ρ : Env) : ch1K g g' fb fc wa (s :: ρ) = ((fb (s :: ρ)).bind nrmK).bind (ch2K g g' fc wa) := rfl
@[simp] theorem ev_ch2K (g g' : D → D → Option P1) (fc : Env → R W) (wa wb : W) (s : Sl) (ρ : Env) : ch2K g g' fc wa wb (s :: ρ) = ch2D g g' fc wb (s :: ρ) (wa.dat (s :: ρ)) (wb.dat (s :: ρ)) := rfl
@[simp] theorem ev_ch3K (g : D → D → Option P1) (wb wc : W) (s : Sl) (ρ : Env) : ch3K g wb wc (s :: ρ) = on2 g (s :: ρ) (wb.dat (s :: ρ)) (wc.dat (s :: ρ)) := rfl
/-! arguments, calls of built-ins, displays -/
def consK (ws : W) (rs : List W) (ρ : Env) : R (List W) := .ok (ws :: rs) ρ
@[simp] theorem consK_ok (w : W) (rs : List W) (ρ : Env) : consK w rs ρ = .ok (w :: rs) ρ := rfl
def consR (r : Env → R (List W)) (w : W) (ρ : Env) : R (List W) := (r ρ).bind (consK w)
@[simp] theorem ev_anil (ρ : Env) : aNil ρ = .ok [] ρ := rfl
@[simp] theorem ev_acons (f : Env → R W) (r : Env → R (List W)) (s : Sl) (ρ : Env) : aCons f r (s :: ρ) = (f (s :: ρ)).bind (consR r) := rfl
@[simp] theorem ev_consR (r : Env → R (List W)) (w : W) (s : Sl) (ρ : Env) : consR r w (s :: ρ) = (r (s :: ρ)).bind (consK w) := rfl
@[simp] theorem datAll_nil (ρ : Env) : datAll ρ [] = some [] := rfl
@[simp] theorem datAll_cons_o (ρ : Env) (x : O) (ws : List W) : datAll ρ (.o x :: ws) = (datAll ρ ws).map (x.dat :: ·) := by
  show (match W.dat ρ (.o x), datAll ρ ws with | some d, some ds => some (d :: ds) | _, _ => none) = _
  cases datAll ρ ws <;> rfl
@[simp] theorem datAll_cons_own (s : Sl) (ρ : Env) (i : Nat) (ws : List W) : datAll (s :: ρ) (.own i :: ws) = (((s :: ρ)[i]?).bind Sl.dat).bind fun d => (datAll (s :: ρ) ws).map (d :: ·) := by
  show (match W.dat (s :: ρ) (.own i), datAll (s :: ρ) ws with | some d, some ds => some (d :: ds) | _, _ => none) = _
  rw [wdat_own]
  cases ((s :: ρ)[i]?).bind Sl.dat <;> cases datAll (s :: ρ) ws <;> rfl
def onN (g : List D → Option P1) (ρ : Env) : Option (List D) → R W
  | some ds => outP (g ds) ρ
  | none => .bad
@[simp] theorem onN_some (g : List D → Option P1) (ρ : Env) (ds : List D) : onN g ρ (some ds) = outP (g ds) ρ := rfl
def nK (g : List D → Option P1) (ws : List W) (ρ : Env) : R W := onN g ρ (datAll ρ ws)
@[simp] theorem ev_nK (g : List D → Option P1) (ws : List W) (s : Sl) (ρ : Env) : nK g ws (s :: ρ) = onN g (s :: ρ) (datAll (s :: ρ) ws) := rfl
@[simp] theorem ev_n (g : List D → Option P1) (fa : Env → R (List W)) (s : Sl) (ρ : Env) : eN g fa (s :: ρ) = (fa (s :: ρ)).bind (nK g) := by
  unfold eN
  congr 1
@[simp] theorem valAll_nil : valAll [] = some [] := rfl
@[simp] theorem valAll_cons (d : D) (ws : List W) : valAll (.o (.fz d) :: ws) = (valAll ws).map (d :: ·) := by
  show (match valAll ws with | some ds => some (d :: ds) | none => none) = _
  cases valAll ws <;> rfl
def tupR (ρ : Env) : Option (List D) → R W
  | some ds => if ds.length ≤ sizeLine then .ok (.val (.tuple ds)) ρ else .bad
  | none => .bad
def tupK (ws : List W) (ρ : Env) : R W := tupR ρ (valAll ws)
@[simp] theorem ev_tup (fa : Env → R (List W)) (s : Sl) (ρ : Env) : eTup fa (s :: ρ) = (fa (s :: ρ)).bind tupK := by
  unfold eTup
  congr 1
@[simp] theorem ev_tupK (ws : List W) (s : Sl) (ρ : Env) : tupK ws (s :: ρ) = tupR (s :: ρ) (valAll ws) := rfl
@[simp] theorem tupR_some (ρ : Env) (ds : List D) : tupR ρ (some ds) = if ds.length ≤ sizeLine then .ok (.val (.tuple ds)) ρ else .bad := rfl
def lstR (ρ : Env) : Option (List D) → R W
  | some ds => if ds.length ≤ sizeLine then .ok (.o (.fl ds)) ρ else .bad
  | none => .bad
def lstK (ws : List W) (ρ : Env) : R W := lstR ρ (valAll ws)
@[simp] theorem ev_lst (fa : Env → R (List W)) (s : Sl) (ρ : Env) : eLst fa (s :: ρ) = (fa (s :: ρ)).bind lstK := by
  unfold eLst
  congr 1
@[simp] theorem ev_lstK (ws : List W) (s : Sl) (ρ : Env) : lstK ws (s :: ρ) = lstR (s :: ρ) (valAll ws) := rfl
@[simp] theorem lstR_some (ρ : Env) (ds : List D) : lstR ρ (some ds) = if ds.length ≤ sizeLine then .ok (.o (.fl ds)) ρ else .bad := rfl
theorem small_line {n : Nat} (h : n ≤ 1000) : n ≤ sizeLine := Nat.le_trans h (by decide)
@[simp] theorem line0 : (0 ≤ sizeLine) = True := by simp
/-! tests -/
def bolR (ρ : Env) : Option D → R Bool
  | some (.bool b) => .ok b ρ
  | _ => .bad
@[simp] theorem bolR_b (ρ : Env) (b : Bool) : bolR ρ (some (.bool b)) = .ok b ρ := rfl
theorem boolW_eq (w : W) (ρ : Env) : boolW w ρ = bolR ρ (w.dat ρ) := by
  unfold boolW
  cases W.dat ρ w with
  | none => rfl
  | some d => cases d <;> rfl
@[simp] theorem ev_boolW (w : W) (s : Sl) (ρ : Env) : boolW w (s :: ρ) = bolR (s :: ρ) (w.dat (s :: ρ)) := boolW_eq w (s :: ρ)
@[simp] theorem ev_tstB (f : Env → R W) (s : Sl) (ρ : Env) : tstB f (s :: ρ) = ((f (s :: ρ)).bind nrmK).bind boolW := rfl
def truR (ρ : Env) : Option D → R Bool
  | some d => .ok (truD d) ρ
  | none => .bad
@[simp] theorem truR_b (ρ : Env) (d : D) : truR ρ (some d) = .ok (truD d) ρ := rfl
@[simp] theorem ev_truW (w : W) (s : Sl) (ρ : Env) : truW w (s :: ρ) = truR (s :: ρ) (w.dat (s :: ρ)) := by
  unfold truW
  cases W.dat (s :: ρ) w <;> rfl
@[simp] theorem ev_tstV (f : Env → R W) (s : Sl) (ρ : Env) : tstV f (s :: ρ) = ((f (s :: ρ)).bind nrmK).bind truW := rfl
@[simp] theorem truD_b (b : Bool) : truD (.bool b) = b := rfl
def andK (g : Env → R Bool) (b : Bool) (ρ : Env) : R Bool := if b = true then g ρ else .ok false ρ
def orK (g : Env → R Bool) (b : Bool) (ρ : Env) : R Bool := if b = true then .ok true ρ else g ρ
def notK (b : Bool) (ρ : Env) : R Bool := .ok (!b) ρ
@[simp] theorem ev_andS (f g : Env → R Bool) (s : Sl) (ρ : Env) : tAndS f g (s :: ρ) = (f (s :: ρ)).bind (andK g) := rfl
@[simp] theorem ev_orS (f g : Env → R Bool) (s : Sl) (ρ : Env) : tOrS f g (s :: ρ) = (f (s :: ρ)).bind (orK g) := rfl
@[simp] theorem ev_notS (f : Env → R Bool) (s : Sl) (ρ : Env) : tNotS f (s :: ρ) = (f (s :: ρ)).bind notK := rfl
@[simp] theorem ev_andK (g : Env → R Bool) (b : Bool) (s : Sl) (ρ : Env) : andK g b (s :: ρ) = if b = true then g (s :: ρ) else .ok false (s :: ρ) := rfl
@[simp] theorem ev_orK (g : Env → R Bool) (b : Bool) (s : Sl) (ρ : Env) : orK g b (s :: ρ) = if b = true then .ok true (s :: ρ) else g (s :: ρ) := rfl
@[simp] theorem ev_notK (b : Bool) (ρ : Env) : notK b ρ = .ok (!b) ρ := rfl
def andBK (g : Env → R W) (b : Bool) (ρ : Env) : R W := if b = true then g ρ else .ok (.val (.bool false)) ρ
def orBK (g : Env → R W) (b : Bool) (ρ : Env) : R W := if b = true then .ok (.val (.bool true)) ρ else g ρ
def notBK (b : Bool) (ρ : Env) : R W := .ok (.val (.bool (!b))) ρ
def ifK (f g : Env → R W) (b : Bool) (ρ : Env) : R W := if b = true then f ρ else g ρ
@[simp] theorem ev_andB (f g : Env → R W) (s : Sl) (ρ : Env) : eAndB f g (s :: ρ) = (((f (s :: ρ)).bind nrmK).bind boolW).bind (andBK g) := rfl
@[simp] theorem ev_orB (f g : Env → R W) (s : Sl) (ρ : Env) : eOrB f g (s :: ρ) = (((f (s :: ρ)).bind nrmK).bind boolW).bind (orBK g) := rfl
@[simp] theorem ev_notB (f : Env → R W) (s : Sl) (ρ : Env) : eNotB f (s :: ρ) = (((f (s :: ρ)).bind nrmK).bind boolW).bind notBK := rfl
@[simp] theorem ev_if (c : Env → R Bool) (f g : Env → R W) (s : Sl) (ρ : Env) : eIf c f g (s :: ρ) = (c (s :: ρ)).bind (ifK f g) := rfl
@[simp] theorem ev_andBK (g : Env → R W) (b : Bool) (s : Sl) (ρ : Env) : andBK g b (s :: ρ) = if b = true then g (s :: ρ) else .ok (.val (.bool false)) (s :: ρ) := rfl
@[simp] theorem ev_orBK (g : Env → R W) (b : Bool) (s : Sl) (ρ : Env) : orBK g b (s :: ρ) = if b = true then .ok (.val (.bool true)) (s :: ρ) else g (s :: ρ) := rfl
@[simp] theorem ev_notBK (b : Bool) (ρ : Env) : notBK b ρ = .ok (.val (.bool (!b))) ρ := rfl
@[simp] theorem ev_ifK (f g : Env → R W) (b : Bool) (s : Sl) (ρ : Env) : ifK f g b (s :: ρ) = if b = true then f (s :: ρ) else g (s :: ρ) := rfl
def isiR (Tn : String) (ρ : Env) : Option D → R W
  | some d => .ok (.val (.bool (isiD Tn d))) ρ
  | none => .bad
def isiK (Tn : String) (w : W) (ρ : Env) : R W := isiR Tn ρ (w.dat ρ)
@[simp] theorem isiR_some (Tn : String) (ρ : Env) (d : D) : isiR Tn ρ (some d) = .ok (.val (.bool (isiD Tn d))) ρ := rfl
@[simp] theorem ev_isi (Tn : String) (f : Env → R W) (s : Sl) (ρ : Env) : eIsi Tn f (s :: ρ) = ((f (s :: ρ)).bind nrmK).bind (isiK Tn) := by
  unfold eIsi
  show (eNrm f (s :: ρ)).bind _ = (eNrm f (s :: ρ)).bind _
  congr 1
@[simp] theorem ev_isiK (Tn : String) (w : W) (s : Sl) (ρ : Env) : isiK Tn w (s :: ρ) = isiR Tn (s :: ρ) (w.dat (s :: ρ)) := rfl
/-! slices -/
@[simp] theorem ev_oNone (ρ : Env) : oNone ρ = .ok none ρ := rfl
def oR (ρ : Env) : Option D → R (Option Int)
  | some (.int i) => .ok (some i) ρ
  | _ => .bad
def oK (w : W) (ρ : Env) : R (Option Int) := oR ρ (w.dat ρ)
@[simp] theorem oR_int (ρ : Env) (i : Int) : oR ρ (some (.int i)) = .ok (some i) ρ := rfl
@[simp] theorem ev_oSome (f : Env → R W) (s : Sl) (ρ : Env) : oSome f (s :: ρ) = ((f (s :: ρ)).bind nrmK).bind oK := by
  unfold oSome
  show (eNrm f (s :: ρ)).bind _ = (eNrm f (s :: ρ)).bind _
  congr 1
@[simp] theorem ev_oK (w : W) (s : Sl) (ρ : Env) : oK w (s :: ρ) = oR (s :: ρ) (w.dat (s :: ρ)) := rfl
def slR (lo hi : Option Int) (ρ : Env) : Option D → R W
  | some a => outP (slD a lo hi) ρ
  | none => .bad
def slK3 (wa : W) (lo hi : Option Int) (ρ : Env) : R W := slR lo hi ρ (wa.dat ρ)
def slK2 (fh : Env → R (Option Int)) (wa : W) (lo : Option Int) (ρ : Env) : R W := (fh ρ).bind (slK3 wa lo)
def slK1 (fl fh : Env → R (Option Int)) (wa : W) (ρ : Env) : R W := (fl ρ).bind (slK2 fh wa)
@[simp] theorem slR_some (lo hi : Option Int) (ρ : Env) (a : D) : slR lo hi ρ (some a) = outP (slD a lo hi) ρ := rfl
@[simp] theorem ev_sl (fa : Env → R W) (fl fh : Env → R (Option Int)) (s : Sl) (ρ : Env) : eSl fa fl fh (s :: ρ) = ((fa (s :: ρ)).bind nrmK).bind (slK1 fl fh) := by
  unfold eSl
  show (eNrm fa (s :: ρ)).bind _ = (eNrm fa (s :: ρ)).bind _
  congr 1
@[simp] theorem ev_slK1 (fl fh : Env → R (Option Int)) (wa : W) (s : Sl) (ρ : Env) : slK1 fl fh wa (s :: ρ) = (fl (s :: ρ)).bind (slK2 fh wa) := rfl
@[simp] theorem ev_slK2 (fh : Env → R (Option Int)) (wa : W) (lo : Option Int) (s : Sl) (ρ : Env) : slK2 fh wa lo (s :: ρ) = (fh (s :: ρ)).bind (slK3 wa lo) := rfl
@[simp] theorem ev_slK3 (wa : W) (lo hi : Option Int) (s : Sl) (ρ : Env) : slK3 wa lo hi (s :: ρ) = slR lo hi (s :: ρ) (wa.dat (s :: ρ)) := rfl
/-! sources -/
def itK (w : W) (ρ : Env) : R (List D) := itW w ρ
@[simp] theorem itW_l (ds : List D) (ρ : Env) : itW (.val (.list ds)) ρ = .ok ds ρ := rfl
@[simp] theorem itW_t (ds : List D) (ρ : Env) : itW (.val (.tuple ds)) ρ = .ok ds ρ := rfl
@[simp] theorem ev_iSq (f : Env → R W) (s : Sl) (ρ : Env) : iSq f (s :: ρ) = (((f (s :: ρ)).bind nrmK).bind fz1).bind itW := rfl
def r1R (ρ : Env) : Option (List D) → R (List D)
  | some [.int j] => if inR j = true then .ok (rngI 0 j) ρ else .bad
  | _ => .bad
def r1K (ws : List W) (ρ : Env) : R (List D) := r1R ρ (datAll ρ ws)
@[simp] theorem r1R_some (ρ : Env) (j : Int) : r1R ρ (some [.int j]) = if inR j = true then .ok (rngI 0 j) ρ else .bad := rfl
@[simp] theorem ev_iR1 (fa : Env → R (List W)) (s : Sl) (ρ : Env) : iR1 fa (s :: ρ) = (fa (s :: ρ)).bind r1K := by
  unfold iR1
  congr 1
@[simp] theorem ev_r1K (ws : List W) (s : Sl) (ρ : Env) : r1K ws (s :: ρ) = r1R (s :: ρ) (datAll (s :: ρ) ws) := rfl
def r2R (ρ : Env) : Option (List D) → R (List D)
  | some [.int i, .int j] => if (inR i && inR j) = true then .ok (rngI i j) ρ else .bad
  | _ => .bad
def r2K (ws : List W) (ρ : Env) : R (List D) := r2R ρ (datAll ρ ws)
@[simp] theorem r2R_some (ρ : Env) (i j : Int) : r2R ρ (some [.int i, .int j]) = if (inR i && inR j) = true then .ok (rngI i j) ρ else .bad := rfl
@[simp] theorem ev_iR2 (fa : Env → R (List W)) (s : Sl) (ρ : Env) : iR2 fa (s :: ρ) = (fa (s :: ρ)).bind r2K := by
  unfold iR2
  congr 1
@[simp] theorem ev_r2K (ws : List W) (s : Sl) (ρ : Env) : r2K ws (s :: ρ) = r2R (s :: ρ) (datAll (s :: ρ) ws) := rfl
/-! statements -/
def ifSK (f g : Env → So) (b : Bool) (ρ : Env) : So := if b = true then f ρ else g ρ
@[simp] theorem ev_sIf (c : Env → R Bool) (f g : Env → So) (s : Sl) (ρ : Env) : sIf c f g (s :: ρ) = (c (s :: ρ)).so (ifSK f g) := rfl
@[simp] theorem ev_ifSK (f g : Env → So) (b : Bool) (s : Sl) (ρ : Env) : ifSK f g b (s :: ρ) = if b = true then f (s :: ρ) else g (s :: ρ) := rfl
def dropK (w : W) (ρ : Env) : So := .nx ρ
@[simp] theorem ev_drop (f : Env → R W) (s : Sl) (ρ : Env) : sDrop f (s :: ρ) = (f (s :: ρ)).so dropK := rfl
@[simp] theorem ev_dropK (w : W) (ρ : Env) : dropK w ρ = .nx ρ := rfl
def retK (w : W) (ρ : Env) : So := .rt w ρ
@[simp] theorem ev_ret (f : Env → R W) (s : Sl) (ρ : Env) : sRet f (s :: ρ) = (f (s :: ρ)).so retK := rfl
@[simp] theorem ev_retK (w : W) (ρ : Env) : retK w ρ = .rt w ρ := rfl
@[simp] theorem ev_retN (ρ : Env) : sRetN ρ = .rt (.val .none) ρ := rfl
@[simp] theorem ev_raise (c : Str) (ρ : Env) : sRaise c ρ = .exc c ρ := rfl
@[simp] theorem ev_set (i : Nat) (f : Env → R W) (s : Sl) (ρ : Env) : sSet i f (s :: ρ) = (((f (s :: ρ)).bind nrmK).bind fz1).so (stFz i) := rfl
@[simp] theorem stFz_fz (i : Nat) (d : D) (s : Sl) (ρ : Env) : stFz i (.val d) (s :: ρ) = if i < (s :: ρ).length then .nx ((s :: ρ).set i (.fz d)) else .bad := rfl
@[simp] theorem ev_own (i : Nat) (f : Env → R W) (s : Sl) (ρ : Env) : sOwn i f (s :: ρ) = (f (s :: ρ)).so (stOw i) := rfl
@[simp] theorem stOw_fl (i : Nat) (xs : List D) (s : Sl) (ρ : Env) : stOw i (.o (.fl xs)) (s :: ρ) = if i < (s :: ρ).length then .nx ((s :: ρ).set i (.fl xs)) else .bad := rfl
@[simp] theorem ev_sUn (gs : List TgD) (f : Env → R W) (s : Sl) (ρ : Env) : sUn gs f (s :: ρ) = ((f (s :: ρ)).bind nrmK).so (stUn gs) := rfl
def unE : Option Env → So
  | some ρ' => .nx ρ'
  | none => .bad
def unR (gs : List TgD) (ρ : Env) : Option D → So
  | some d => unE (gT gs d ρ)
  | none => .bad
@[simp] theorem ev_stUn (gs : List TgD) (w : W) (s : Sl) (ρ : Env) : stUn gs w (s :: ρ) = unR gs (s :: ρ) (w.dat (s :: ρ)) := by
  unfold stUn unR
  cases W.dat (s :: ρ) w with
  | none => rfl
  | some d =>
    show (match gT gs d (s :: ρ) with | some ρ' => So.nx ρ' | none => .bad) = unE (gT gs d (s :: ρ))
    cases gT gs d (s :: ρ) <;> rfl
@[simp] theorem unR_some (gs : List TgD) (ρ : Env) (d : D) : unR gs ρ (some d) = unE (gT gs d ρ) := rfl
@[simp] theorem unE_some (ρ : Env) : unE (some ρ) = .nx ρ := rfl
@[simp] theorem gT_t (gs : List TgD) (ds : List D) (ρ : Env) : gT gs (.tuple ds) ρ = gAll gs ds ρ := rfl
@[simp] theorem gT_l (gs : List TgD) (ds : List D) (ρ : Env) : gT gs (.list ds) ρ = gAll gs ds ρ := rfl
@[simp] theorem gAll_nil (ρ : Env) : gAll [] [] ρ = some ρ := rfl
@[simp] theorem gAll_cons (g : TgD) (gs : List TgD) (d : D) (ds : List D) (ρ : Env) : gAll (g :: gs) (d :: ds) ρ = (g d ρ).bind (gAll gs ds) := by
  show (match g d ρ with | some ρ1 => gAll gs ds ρ1 | none => none) = _
  cases g d ρ <;> rfl
@[simp] theorem gN_eq (i : Nat) (d : D) (s : Sl) (ρ : Env) : gN i d (s :: ρ) = if i < (s :: ρ).length then some ((s :: ρ).set i (.fz d)) else none := rfl
/-! loops -/
@[simp] theorem ev_for (fi : Env → R (List D)) (g : TgD) (tb : Env → So) (s : Sl) (ρ : Env) : sFor fi g tb (s :: ρ) = (fi (s :: ρ)).so (forD g tb) := rfl
def forO (g : TgD) (tb : Env → So) (ds : List D) : So → So
  | .nx ρ => forD g tb ds ρ
  | .ct ρ => forD g tb ds ρ
  | .bk ρ => .nx ρ
  | .rt w ρ => .rt w ρ
  | .exc c ρ => .exc c ρ
  | .bad => .bad
def forT (g : TgD) (tb : Env → So) (ds : List D) : Option Env → So
  | some ρ => forO g tb ds (tb ρ)
  | none => .bad
theorem forD_nil (g : TgD) (tb : Env → So) (ρ : Env) : forD g tb [] ρ = .nx ρ := rfl
theorem forD_cons (g : TgD) (tb : Env → So) (d : D) (ds : List D) (ρ : Env) : forD g tb (d :: ds) ρ = forT g tb ds (g d ρ) := by
  show (match g d ρ with
    | none => So.bad
    | some ρ1 => match tb ρ1 with
      | .nx ρ2 => forD g tb ds ρ2
      | .ct ρ2 => forD g tb ds ρ2
      | .bk ρ2 => .nx ρ2
      | .rt w ρ2 => .rt w ρ2
      | .exc c ρ2 => .exc c ρ2
      | .bad => .bad) = _
  cases g d ρ with
  | none => rfl
  | some ρ1 =>
    show (match tb ρ1 with
      | .nx ρ2 => forD g tb ds ρ2
      | .ct ρ2 => forD g tb ds ρ2
      | .bk ρ2 => .nx ρ2
      | .rt w ρ2 => .rt w ρ2
      | .exc c ρ2 => .exc c ρ2
      | .bad => .bad) = forO g tb ds (tb ρ1)
    cases tb ρ1 <;> rfl
@[simp] theorem forT_some (g : TgD) (tb : Env → So) (ds : List D) (ρ : Env) : forT g tb ds (some ρ) = forO g tb ds (tb ρ) := rfl
@[simp] theorem forO_nx (g : TgD) (tb : Env → So) (ds : List D) (ρ : Env) : forO g tb ds (.nx ρ) = forD g tb ds ρ := rfl
@[simp] theorem forO_ct (g : TgD) (tb : Env → So) (ds : List D) (ρ : Env) : forO g tb ds (.ct ρ) = forD g tb ds ρ := rfl
@[simp] theorem forO_bk (g : TgD) (tb : Env → So) (ds : List D) (ρ : Env) : forO g tb ds (.bk ρ) = .nx ρ := rfl
@[simp] theorem forO_rt (g : TgD) (tb : Env → So) (ds : List D) (w : W) (ρ : Env) : forO g tb ds (.rt w ρ) = .rt w ρ := rfl
@[simp] theorem forO_exc (g : TgD) (tb : Env → So) (ds : List D) (c : Str) (ρ : Env) : forO g tb ds (.exc c ρ) = .exc c ρ := rfl
@[simp] theorem forO_bad (g : TgD) (tb : Env → So) (ds : List D) : forO g tb ds .bad = .bad := rfl
@[simp] theorem forO_ite {c : Prop} [Decidable c] (g : TgD) (tb : Env → So) (ds : List D) (a b : So) : forO g tb ds (if c then a else b) = if c then forO g tb ds a else forO g tb ds b := by split <;> rfl
def whO (c : Env → R Bool) (tb : Env → So) (n : Nat) : So → So
  | .nx ρ => whileD c tb n ρ
  | .ct ρ => whileD c tb n ρ
  | .bk ρ => .nx ρ
  | .rt w ρ => .rt w ρ
  | .exc c ρ => .exc c ρ
  | .bad => .bad
def whK (c : Env → R Bool) (tb : Env → So) (n : Nat) (b : Bool) (ρ : Env) : So := if b = true then whO c tb n (tb ρ) else .nx ρ
theorem while_succ (c : Env → R Bool) (tb : Env → So) (n : Nat) (ρ : Env) : whileD c tb (n + 1) ρ = (c ρ).so (whK c tb n) := by
  conv => lhs; unfold whileD
  congr 1
@[simp] theorem ev_while (fu : Env → Nat) (c : Env → R Bool) (tb : Env → So) (s : Sl) (ρ : Env) : sWhile fu c tb (s :: ρ) = whileD c tb (fu (s :: ρ)) (s :: ρ) := rfl
@[simp] theorem ev_whK (c : Env → R Bool) (tb : Env → So) (n : Nat) (b : Bool) (s : Sl) (ρ : Env) : whK c tb n b (s :: ρ) = if b = true then whO c tb n (tb (s :: ρ)) else .nx (s :: ρ) := rfl
@[simp] theorem whO_nx (c : Env → R Bool) (tb : Env → So) (n : Nat) (ρ : Env) : whO c tb n (.nx ρ) = whileD c tb n ρ := rfl
@[simp] theorem whO_ct (c : Env → R Bool) (tb : Env → So) (n : Nat) (ρ : Env) : whO c tb n (.ct ρ) = whileD c tb n ρ := rfl
@[simp] theorem whO_bk (c : Env → R Bool) (tb : Env → So) (n : Nat) (ρ : Env) : whO c tb n (.bk ρ) = .nx ρ := rfl
@[simp] theorem whO_rt (c : Env → R Bool) (tb : Env → So) (n : Nat) (w : W) (ρ : Env) : whO c tb n (.rt w ρ) = .rt w ρ := rfl
@[simp] theorem whO_ite {k : Prop} [Decidable k] (c : Env → R Bool) (tb : Env → So) (n : Nat) (a b : So) : whO c tb n (if k then a else b) = if k then whO c tb n a else whO c tb n b := by split <;> rfl
/-! calls of defs -/
def callR (f : DefSem) (ρ : Env) : Option (List D × List Nat) → R W
  | some q => if q.2.Nodup then outR q.2 (f q.1) ρ else .bad
  | none => .bad
def callK (ms : List Md) (f : DefSem) (ws : List W) (ρ : Env) : R W := callR f ρ (argD ms ws ρ)
@[simp] theorem ev_call (ms : List Md) (f : DefSem) (fa : Env → R (List W)) (s : Sl) (ρ : Env) : eCall ms f fa (s :: ρ) = (fa (s :: ρ)).bind (callK ms f) := by
  unfold eCall
  congr 1
  funext ws ρ1
  unfold callK
  cases argD ms ws ρ1 <;> rfl
@[simp] theorem ev_callK (ms : List Md) (f : DefSem) (ws : List W) (s : Sl) (ρ : Env) : callK ms f ws (s :: ρ) = callR f (s :: ρ) (argD ms ws (s :: ρ)) := rfl
@[simp] theorem callR_some (f : DefSem) (ρ : Env) (ds : List D) (is : List Nat) : callR f ρ (some (ds, is)) = if is.Nodup then outR is (f ds) ρ else .bad := rfl
@[simp] theorem argD_nil (ρ : Env) : argD [] [] ρ = some ([], []) := rfl
@[simp] theorem argD_d (ms : List Md) (d : D) (ws : List W) (ρ : Env) : argD (.d :: ms) (.o (.fz d) :: ws) ρ = (argD ms ws ρ).map fun q => (d :: q.1, q.2) := by
  show (match argD ms ws ρ with | some (ds, is) => some (d :: ds, is) | none => none) = _
  cases argD ms ws ρ <;> rfl
@[simp] theorem argD_io (ms : List Md) (i : Nat) (ws : List W) (ρ : Env) : argD (.io :: ms) (.own i :: ws) ρ = (ownL ρ i).bind fun xs => (argD ms ws ρ).map fun q => (PyData.list xs :: q.1, i :: q.2) := by
  show (match ownL ρ i, argD ms ws ρ with | some xs, some (ds, is) => some (PyData.list xs :: ds, i :: is) | _, _ => none) = _
  cases ownL ρ i <;> cases argD ms ws ρ <;> rfl
def scO : Option Sl → Option (List Int)
  | some (.sc ns) => some ns
  | _ => none
@[simp] theorem scO_sc (ns : List Int) : scO (some (.sc ns)) = some ns := rfl
@[simp] theorem argD_sc (ms : List Md) (i : Nat) (ws : List W) (ρ : Env) : argD (.sc :: ms) (.own i :: ws) ρ = (scO ρ[i]?).bind fun ns => (argD ms ws ρ).map fun q => (PyData.list (ns.map PyData.int) :: q.1, q.2) := by
  conv => lhs; unfold argD
  cases h : ρ[i]? with
  | none => rfl
  | some s => cases s <;> cases argD ms ws ρ <;> rfl
def ownO : Option Sl → Option (List D)
  | some (.fl xs) => some xs
  | some (.io _ xs) => some xs
  | _ => none
@[simp] theorem ownO_fl (xs : List D) : ownO (some (.fl xs)) = some xs := rfl
@[simp] theorem ownO_io (j : Nat) (xs : List D) : ownO (some (.io j xs)) = some xs := rfl
@[simp] theorem ev_ownL (s : Sl) (ρ : Env) (i : Nat) : ownL (s :: ρ) i = ownO (s :: ρ)[i]? := by
  unfold ownL
  cases h : (s :: ρ)[i]? with
  | none => rfl
  | some s => cases s <;> rfl
def setO (ρ : Env) (i : Nat) (xs : List D) : Option Sl → Env
  | some s => ρ.set i (s.put xs)
  | none => ρ
@[simp] theorem ev_setL (s : Sl) (ρ : Env) (i : Nat) (xs : List D) : setL (s :: ρ) i xs = setO (s :: ρ) i xs (s :: ρ)[i]? := by
  unfold setL
  cases h : (s :: ρ)[i]? <;> rfl
@[simp] theorem setO_fl (ρ : Env) (i : Nat) (xs ys : List D) : setO ρ i xs (some (.fl ys)) = ρ.set i (.fl xs) := rfl
@[simp] theorem setO_io (ρ : Env) (i j : Nat) (xs ys : List D) : setO ρ i xs (some (.io j ys)) = ρ.set i (.io j xs) := rfl
@[simp] theorem putL_nil (ρ : Env) (outs : List (List D)) : putL ρ [] outs = ρ := by unfold putL; rfl
@[simp] theorem putL_cons (ρ : Env) (i : Nat) (is : List Nat) (xs : List D) (outs : List (List D)) : putL ρ (i :: is) (xs :: outs) = putL (setL ρ i xs) is outs := by conv => lhs; unfold putL
@[simp] theorem outR_ret (is : List Nat) (x : O) (outs : List (List D)) (ρ : Env) : outR is (.ret x outs) ρ = .ok (.o x) (putL ρ is outs) := rfl
@[simp] theorem outR_exc (is : List Nat) (c : Str) (outs : List (List D)) (ρ : Env) : outR is (.exc c outs) ρ = .exc c (putL ρ is outs) := rfl
@[simp] theorem outR_bad (is : List Nat) (ρ : Env) : outR is .bad ρ = .bad := rfl
@[simp] theorem outR_ite {k : Prop} [Decidable k] (is : List Nat) (a b : DOut) (ρ : Env) : outR is (if k then a else b) ρ = if k then outR is a ρ else outR is b ρ := by split <;> rfl
def aScO (i : Nat) (r : Env → R (List W)) (ρ : Env) : Option Sl → R (List W)
  | some (.sc _) => (r ρ).bind (consK (.own i))
  | _ => .bad
@[simp] theorem ev_aSc (i : Nat) (r : Env → R (List W)) (s : Sl) (ρ : Env) : aSc i r (s :: ρ) = aScO i r (s :: ρ) (s :: ρ)[i]? := by
  unfold aSc
  cases h : (s :: ρ)[i]? with
  | none => rfl
  | some s => cases s <;> rfl
@[simp] theorem aScO_sc (i : Nat) (r : Env → R (List W)) (ρ : Env) (ns : List Int) : aScO i r ρ (some (.sc ns)) = (r ρ).bind (consK (.own i)) := rfl
def scR (ρ : Env) : Option Sl → R W
  | some (.sc ns) => .ok (.o (.fl (ns.map PyData.int))) ρ
  | _ => .bad
@[simp] theorem ev_eSc (i : Nat) (s : Sl) (ρ : Env) : eSc i (s :: ρ) = scR (s :: ρ) (s :: ρ)[i]? := by
  unfold eSc
  cases h : (s :: ρ)[i]? with
  | none => rfl
  | some s => cases s <;> rfl
@[simp] theorem scR_sc (ρ : Env) (ns : List Int) : scR ρ (some (.sc ns)) = .ok (.o (.fl (ns.map PyData.int))) ρ := rfl
/-! lists that change -/
def appR (i : Nat) (ρ : Env) : W → Option (List D) → R W
  | .o (.fz d), some xs => if xs.length < sizeLine then .ok (.val .none) (setL ρ i (xs ++ [d])) else .bad
  | _, _ => .bad
def appK (i : Nat) (w : W) (ρ : Env) : R W := appR i ρ w (ownL ρ i)
def appO (i : Nat) (fe : Env → R W) (ρ : Env) : Option (List D) → R W
  | some _ => (eFz fe ρ).bind (appK i)
  | none => .bad
@[simp] theorem ev_app (i : Nat) (fe : Env → R W) (s : Sl) (ρ : Env) : eApp i fe (s :: ρ) = appO i fe (s :: ρ) (ownL (s :: ρ) i) := by
  unfold eApp appO
  cases ownL (s :: ρ) i with
  | none => rfl
  | some xs =>
    show (eFz fe (s :: ρ)).bind _ = (eFz fe (s :: ρ)).bind _
    congr 1
@[simp] theorem appO_some (i : Nat) (fe : Env → R W) (s : Sl) (ρ : Env) (xs : List D) : appO i fe (s :: ρ) (some xs) = (((fe (s :: ρ)).bind nrmK).bind fz1).bind (appK i) := rfl
@[simp] theorem ev_appK (i : Nat) (w : W) (s : Sl) (ρ : Env) : appK i w (s :: ρ) = appR i (s :: ρ) w (ownL (s :: ρ) i) := rfl
@[simp] theorem appR_some (i : Nat) (d : D) (xs : List D) (ρ : Env) : appR i ρ (.val d) (some xs) = if xs.length < sizeLine then .ok (.val .none) (setL ρ i (xs ++ [d])) else .bad := rfl
def subO (i : Nat) (d : D) (k : Int) (xs : List D) (ρ : Env) : Option Nat → So
  | some j => .nx (setL ρ i (xs.set j d))
  | none => .bad
def subR (i : Nat) (ρ : Env) : W → Option D → Option (List D) → So
  | .o (.fz d), some (.int k), some xs => subO i d k xs ρ (ixN xs.length k)
  | _, _, _ => .bad
def subK (i : Nat) (w wi : W) (ρ : Env) : So := subR i ρ w (wi.dat ρ) (ownL ρ i)
def subS (i : Nat) (fi : Env → R W) (w : W) (ρ : Env) : Option (List D) → So
  | some _ => (eNrm fi ρ).so (subK i w)
  | none => .bad
@[simp] theorem ev_sSub (i : Nat) (fi f : Env → R W) (s : Sl) (ρ : Env) : sSub i fi f (s :: ρ) = (((f (s :: ρ)).bind nrmK).bind fz1).so (stSub i fi) := rfl
@[simp] theorem ev_stSub (i : Nat) (fi : Env → R W) (w : W) (s : Sl) (ρ : Env) : stSub i fi w (s :: ρ) = subS i fi w (s :: ρ) (ownL (s :: ρ) i) := by
  unfold stSub subS
  cases ownL (s :: ρ) i with
  | none => rfl
  | some xs0 =>
    show (eNrm fi (s :: ρ)).so _ = (eNrm fi (s :: ρ)).so _
    congr 1
@[simp] theorem subS_some (i : Nat) (fi : Env → R W) (w : W) (s : Sl) (ρ : Env) (xs : List D) : subS i fi w (s :: ρ) (some xs) = ((fi (s :: ρ)).bind nrmK).so (subK i w) := rfl
@[simp] theorem ev_subK (i : Nat) (w wi : W) (s : Sl) (ρ : Env) : subK i w wi (s :: ρ) = subR i (s :: ρ) w (wi.dat (s :: ρ)) (ownL (s :: ρ) i) := rfl
@[simp] theorem subR_some (i : Nat) (d : D) (k : Int) (xs : List D) (ρ : Env) : subR i ρ (.val d) (some (.int k)) (some xs) = subO i d k xs ρ (ixN xs.length k) := rfl
@[simp] theorem subO_some (i j : Nat) (d : D) (k : Int) (xs : List D) (ρ : Env) : subO i d k xs ρ (some j) = .nx (setL ρ i (xs.set j d)) := rfl
/-! comprehensions -/
def lcT (vs : List Nat) (g : TgD) (tt : Env → R Bool) (te : Env → R W) (ds : List D) : Option Env → R (List D)
  | none => .bad
  | some ρ1 => match tt ρ1 with
      | .ok true ρ2 => (match eFz te ρ2 with
        | .ok (.o (.fz x)) ρ3 => (match lcD vs g tt te ds (wipeE ρ3 vs) with
          | .ok xs ρ4 => .ok (x :: xs) ρ4
          | _ => .bad)
        | _ => .bad)
      | .ok false ρ2 => lcD vs g tt te ds (wipeE ρ2 vs)
      | _ => .bad
theorem lcD_cons (vs : List Nat) (g : TgD) (tt : Env → R Bool) (te : Env → R W) (d : D) (ds : List D) (ρ : Env) : lcD vs g tt te (d :: ds) ρ = lcT vs g tt te ds (g d ρ) := by
  unfold lcT
  conv => lhs; unfold lcD
  all_goals rfl
@[simp] theorem ev_wipeE0 (ρ : Env) : wipeE ρ [] = ρ := rfl
@[simp] theorem ev_wipeE (ρ : Env) (v : Nat) (vs : List Nat) : wipeE ρ (v :: vs) = (wipeE ρ vs).set v .un := rfl
@[simp] theorem ev_restE0 (ρ0 ρ : Env) : restE ρ0 ρ [] = ρ := rfl
@[simp] theorem ev_restE (ρ0 ρ : Env) (v : Nat) (vs : List Nat) : restE ρ0 ρ (v :: vs) = (restE ρ0 ρ vs).set v ((ρ0[v]?).getD .un) := rfl
def lcK (vs : List Nat) (g : TgD) (tt : Env → R Bool) (te : Env → R W) (ds : List D) (ρ : Env) : R W := lcR vs ρ (lcD vs g tt te ds (wipeE ρ vs))
@[simp] theorem ev_lc (vs : List Nat) (fi : Env → R (List D)) (g : TgD) (tt : Env → R Bool) (te : Env → R W) (s : Sl) (ρ : Env) : eLc vs fi g tt te (s :: ρ) = (fi (s :: ρ)).bind (lcK vs g tt te) := rfl
@[simp] theorem ev_lcK (vs : List Nat) (g : TgD) (tt : Env → R Bool) (te : Env → R W) (ds : List D) (s : Sl) (ρ : Env) : lcK vs g tt te ds (s :: ρ) = lcR vs (s :: ρ) (lcD vs g tt te ds (wipeE (s :: ρ) vs)) := rfl
@[simp] theorem lcR_ok (vs : List Nat) (ρ0 ρ2 : Env) (xs : List D) : lcR vs ρ0 (.ok xs ρ2) = if xs.length ≤ sizeLine then .ok (.o (.fl xs)) (restE ρ0 ρ2 vs) else .bad := rfl
def genK (stopOn : Bool) (vs : List Nat) (g : TgD) (tt : Env → R Bool) (te : Env → R W) (ds : List D) (ρ : Env) : R W := genR vs ρ (genD stopOn vs g tt te ds (wipeE ρ vs))
@[simp] theorem ev_gen (stopOn : Bool) (vs : List Nat) (fi : Env → R (List D)) (g : TgD) (tt : Env → R Bool) (te : Env → R W) (s : Sl) (ρ : Env) : eGen stopOn vs fi g tt te (s :: ρ) = (fi (s :: ρ)).bind (genK stopOn vs g tt te) := rfl
@[simp] theorem ev_genK (stopOn : Bool) (vs : List Nat) (g : TgD) (tt : Env → R Bool) (te : Env → R W) (ds : List D) (s : Sl) (ρ : Env) : genK stopOn vs g tt te ds (s :: ρ) = genR vs (s :: ρ) (genD stopOn vs g tt te ds (wipeE (s :: ρ) vs)) := rfl
@[simp] theorem genR_ok (vs : List Nat) (ρ0 ρ2 : Env) (b : Bool) : genR vs ρ0 (.ok b ρ2) = .ok (.val (.bool b)) (restE ρ0 ρ2 vs) := rfl
@[simp] theorem tYes_eq (ρ : Env) : tYesS ρ = .ok true ρ := rfl
def minK (vs : List Nat) (g : TgD) (tt : Env → R Bool) (te : Env → R W) (ds : List D) (ρ : Env) : R W := minR vs ρ (lcD vs g tt te ds (wipeE ρ vs))
@[simp] theorem ev_minG (vs : List Nat) (fi : Env → R (List D)) (g : TgD) (tt : Env → R Bool) (te : Env → R W) (s : Sl) (ρ : Env) : eMinG vs fi g tt te (s :: ρ) = (fi (s :: ρ)).bind (minK vs g tt te) := rfl
@[simp] theorem ev_minK (vs : List Nat) (g : TgD) (tt : Env → R Bool) (te : Env → R W) (ds : List D) (s : Sl) (ρ : Env) : minK vs g tt te ds (s :: ρ) = minR vs (s :: ρ) (lcD vs g tt te ds (wipeE (s :: ρ) vs)) := rfl
/-- a comprehension whose turns are all alike and leave the environment as it is -/
theorem lcD_map {α : Type} {vs : List Nat} {g : TgD} {tt : Env → R Bool} {te : Env → R W} {ρ : Env} (enc : α → D) (p : α → Bool) (f : α → D)
    (h : ∀ a, ∃ ρ1, g (enc a) ρ = some ρ1 ∧ ((p a = true ∧ ∃ ρ2 ρ3, tt ρ1 = .ok true ρ2 ∧ eFz te ρ2 = .ok (.val (f a)) ρ3 ∧ wipeE ρ3 vs = ρ) ∨ (p a = false ∧ ∃ ρ2, tt ρ1 = .ok false ρ2 ∧ wipeE ρ2 vs = ρ))) :
    ∀ as : List α, lcD vs g tt te (as.map enc) ρ = .ok ((as.filter p).map f) ρ
  | [] => rfl
  | a :: as => by
    obtain ⟨ρ1, h1, h2⟩ := h a
    rw [List.map_cons, lcD_cons, h1]
    rcases h2 with ⟨hp, ρ2, ρ3, h3, h4, h5⟩ | ⟨hp, ρ2, h3, h5⟩
    · have e : lcT vs g tt te (as.map enc) (some ρ1) = .ok (f a :: (as.filter p).map f) ρ := by
        unfold lcT
        simp only [h3, h4, h5, lcD_map enc p f h as]
      rw [e, List.filter_cons_of_pos hp, List.map_cons]
    · have e : lcT vs g tt te (as.map enc) (some ρ1) = .ok ((as.filter p).map f) ρ := by
        unfold lcT
        simp only [h3, h5, lcD_map enc p f h as]
      rw [e, List.filter_cons_of_neg (by simp [hp])]
end PL
end
section
set_option Elab.async false
set_option linter.all false
set_option maxRecDepth 100000
set_option maxHeartbeats 2000000
set_option autoImplicit false
/-! The plain side of what most laws share: open, mixed, draw. -/
namespace PL
open PySem PySem.Spec PyProof.Rows L2

@[simp] theorem sz_line (n : Nat) : (n ≤ sizeLine) = (n ≤ 16777216) := by rw [sizeLine_eq]
@[simp] theorem sz_line' (n : Nat) : (n < sizeLine) = (n < 16777216) := by rw [sizeLine_eq]
@[simp] theorem addD_ii (i j : Int) : addD (.int i) (.int j) = some (.fz (.int (i + j))) := rfl
@[simp] theorem subD_ii (i j : Int) : subD (.int i) (.int j) = some (.fz (.int (i - j))) := rfl
@[simp] theorem xorD_ii (i j : Int) : xorD (.int i) (.int j) = some (.fz (.int (Builtin.bitXor i j))) := rfl
@[simp] theorem negD_i (i : Int) : negD (.int i) = some (.fz (.int (-i))) := rfl
@[simp] theorem ltD_ii (i j : Int) : ltD (.int i) (.int j) = some (.fz (.bool (decide (i < j)))) := rfl
@[simp] theorem leD_ii (i j : Int) : leD (.int i) (.int j) = some (.fz (.bool (decide (i ≤ j)))) := rfl
@[simp] theorem gtD_ii (i j : Int) : gtD (.int i) (.int j) = some (.fz (.bool (decide (j < i)))) := rfl
@[simp] theorem geD_ii (i j : Int) : geD (.int i) (.int j) = some (.fz (.bool (decide (j ≤ i)))) := rfl
@[simp] theorem lenD_l (xs : List D) : lenD [.list xs] = some (.fz (.int xs.length)) := rfl
@[simp] theorem lenD_t (xs : List D) : lenD [.tuple xs] = some (.fz (.int xs.length)) := rfl
@[simp] theorem tupleD_l (xs : List D) : tupleD [.list xs] = some (.fz (.tuple xs)) := rfl
@[simp] theorem tupleD_t (xs : List D) : tupleD [.tuple xs] = some (.fz (.tuple xs)) := rfl
@[simp] theorem listD_l (xs : List D) : listD [.list xs] = some (.fl xs) := rfl
@[simp] theorem listD_t (xs : List D) : listD [.tuple xs] = some (.fl xs) := rfl
@[simp] theorem max2D_ii (i j : Int) : max2D [.int i, .int j] = some (.fz (.int (max i j))) := rfl
@[simp] theorem min2D_ii (i j : Int) : min2D [.int i, .int j] = some (.fz (.int (min i j))) := rfl
@[simp] theorem absD_i (i : Int) : absD [.int i] = some (.fz (.int (if i < 0 then -i else i))) := rfl
@[simp] theorem intD_i (i : Int) : intD [.int i] = some (.fz (.int i)) := rfl
@[simp] theorem gcdD_ii (i j : Int) : gcdD [.int i, .int j] = some (.fz (.int ((Nat.gcd i.natAbs j.natAbs : Nat) : Int))) := rfl
theorem fdivD_ii {i j : Int} (h : 0 < j) (h2 : j < 2 ^ 9000) : fdivD (.int i) (.int j) = some (.fz (.int (i / j))) := by
  show (if _ then _ else _) = _
  rw [if_pos]
  refine ⟨h, ?_⟩
  refine (Nat.log2_lt (by omega)).mpr ?_
  have : j.natAbs = j.toNat := by omega
  rw [this]
  have e : ((2 ^ 9000 : Nat) : Int) = 2 ^ 9000 := by rw [Int.natCast_pow]; rfl
  have := Int.toNat_lt (by omega : 0 ≤ j) (n := 2 ^ 9000)
  rw [this, e]
  exact h2
theorem modD_ii {i j : Int} (h : 0 < j) : modD (.int i) (.int j) = some (.fz (.int (i % j))) := by
  show (if _ then _ else _) = _
  rw [if_pos h]
theorem shrD_ii {i j : Int} (h : 0 ≤ j) : shrD (.int i) (.int j) = some (.fz (.int (i / 2 ^ j.toNat))) := by
  show (if _ then _ else _) = _
  rw [if_pos h]
theorem mulD_ii {i j : Int} {a b : Nat} (hi : i.natAbs < 2 ^ a) (hj : j.natAbs < 2 ^ b) (h : a + b < 900000) : mulD (.int i) (.int j) = some (.fz (.int (i * j))) := by
  show (if _ then _ else _) = _
  rw [if_pos]
  have e1 : i.natAbs.log2 ≤ a := by
    by_cases h0 : i.natAbs = 0
    · rw [h0]; simp
    · exact Nat.le_of_lt ((Nat.log2_lt h0).mpr hi)
  have e2 : j.natAbs.log2 ≤ b := by
    by_cases h0 : j.natAbs = 0
    · rw [h0]; simp
    · exact Nat.le_of_lt ((Nat.log2_lt h0).mpr hj)
  omega
theorem mulD_small {i j : Int} (hi : i.natAbs < 2 ^ 400000) (hj : j.natAbs < 2 ^ 400000) : mulD (.int i) (.int j) = some (.fz (.int (i * j))) := mulD_ii hi hj (by decide)
theorem powD_ii {i j k : Int} (h : 0 ≤ j ∧ j ≤ 1000000 ∧ i.natAbs < 2 ^ 64) (e : i ^ j.toNat = k) : powD (.int i) (.int j) = some (.fz (.int k)) := by
  show (if _ then _ else _) = _
  rw [if_pos h, e]
@[simp] theorem powD_261 : powD (.int 2) (.int 61) = some (.fz (.int 2305843009213693952)) := powD_ii (by decide) (by decide)
@[simp] theorem powD_1018 : powD (.int 10) (.int 18) = some (.fz (.int 1000000000000000000)) := powD_ii (by decide) (by decide)
@[simp] theorem powD_1012 : powD (.int 10) (.int 12) = some (.fz (.int 1000000000000)) := powD_ii (by decide) (by decide)
theorem ixN_of {n : Nat} {i : Int} (h : 0 ≤ i) (h2 : i < n) : ixN n i = some i.toNat := by
  unfold ixN
  rw [if_pos h, if_pos h2]
theorem pow_big {a b : Nat} (h : a ≤ b) {n : Nat} (hn : n < 2 ^ a) : n < 2 ^ b := Nat.lt_of_lt_of_le hn (Nat.pow_le_pow_right (by decide) h)

/-! ### the three defs -/
def cMixed : Env → So := sSeq (sSet 2 (eBin modD (eBin addD (eBin addD (eBin mulD (eBin modD (eVar 0) (eBin subD (eBin powD (eC (.int 2)) (eC (.int 61))) (eC (.int 1)))) (eC (.int 6364136223846793005))) (eBin mulD (eVar 1) (eC (.int 1442695040888963407)))) (eC (.int 97))) (eBin powD (eC (.int 2)) (eC (.int 61))))) (sSeq (sSet 2 (eBin modD (eBin mulD (eBin xorD (eVar 2) (eBin shrD (eVar 2) (eC (.int 29)))) (eC (.int 3935559000370003845))) (eBin powD (eC (.int 2)) (eC (.int 61))))) (sRet (eBin modD (eBin mulD (eBin xorD (eVar 2) (eBin shrD (eVar 2) (eC (.int 31)))) (eC (.int 2862933555777941757))) (eBin powD (eC (.int 2)) (eC (.int 61))))))
def semMixed : DefSem := semOf 3 [.d, .d] cMixed
def cDraw : Env → So := sSeq (sUn [gN 2, gN 3, gN 4] (eVar 0)) (sSeq (sIf (tstB (eBin ltD (eVar 3) (eVar 1))) (sSeq (sSet 5 (eBin ixD (eVar 4) (eBin modD (eVar 2) (eN lenD (aCons (eNrm (eVar 4)) aNil))))) (sSeq (sSet 3 (eIf (tAndS (tstB (eBin ltD (eVar 2) (eN lenD (aCons (eNrm (eVar 4)) aNil)))) (tstB (eBin geD (eVar 5) (eBin powD (eC (.int 10)) (eC (.int 18)))))) (eVar 5) (eCall [.d, .d] semMixed (aCons (eFz (eVar 5)) (aCons (eFz (eVar 2)) aNil))))) (sSet 2 (eBin addD (eVar 2) (eC (.int 1)))))) sNx) (sSeq (sSub 0 (eC (.int 0)) (eVar 2)) (sSeq (sSub 0 (eC (.int 1)) (eBin fdivD (eVar 3) (eVar 1))) (sRet (eBin modD (eVar 3) (eVar 1))))))
def semDraw : DefSem := semOf 6 [.io, .d] cDraw
def cOpen : Env → So := sSeq (sSet 1 (eLc [2] (iSq (eSc 0)) (gN 2) tYesS (eN absD (aCons (eNrm (eN intD (aCons (eNrm (eVar 2)) aNil))) aNil)))) (sRet (eLst (aCons (eFz (eC (.int 0))) (aCons (eFz (eC (.int 0))) (aCons (eFz (eBin addD (eVar 1) (eLst (aCons (eFz (eC (.int 0))) aNil)))) aNil)))))
def semOpen : DefSem := semOf 3 [.sc] cOpen
theorem xor_small {x : Int} {k : Int} (h0 : 0 ≤ x) (h : x < 2305843009213693952) (hk : 0 ≤ k) : (Builtin.bitXor x (x / 2 ^ k.toNat)).natAbs < 2 ^ 61 ∧ 0 ≤ Builtin.bitXor x (x / 2 ^ k.toNat) := by
  have hd : 0 ≤ x / 2 ^ k.toNat := Int.ediv_nonneg h0 (two_pow_nn _)
  have hle : x / 2 ^ k.toNat ≤ x := Int.ediv_le_self _ h0
  rw [Bits.bitXor_pp h0 hd]
  refine ⟨?_, Int.natCast_nonneg _⟩
  rw [Int.natAbs_natCast]
  refine Nat.xor_lt_two_pow ?_ ?_
  · have : (2 : Nat) ^ 61 = 2305843009213693952 := by decide
    omega
  · have : (2 : Nat) ^ 61 = 2305843009213693952 := by decide
    omega
theorem shr29 (x : Int) : shrD (.int x) (.int 29) = some (.fz (.int (x / 536870912))) := shrD_ii (by decide)
theorem shr31 (x : Int) : shrD (.int x) (.int 31) = some (.fz (.int (x / 2147483648))) := shrD_ii (by decide)
theorem v_mixed (c t : Int) (hc : 0 ≤ c) (h0 : 0 ≤ t) (ht : t < 2 ^ 64) : ∃ v : Int, semMixed [.int c, .int t] = .ret (.fz (.int v)) [] ∧ 0 ≤ v := by
  have hm : (0 : Int) < 2305843009213693952 := by decide
  have hm1 : (0 : Int) < 2305843009213693951 := by decide
  have r1 : (c % 2305843009213693951).natAbs < 2 ^ 400000 := pow_big (a := 61) (by decide) (by
    have := Int.emod_lt_of_pos c hm1
    have := Int.emod_nonneg c (by decide : (2305843009213693951 : Int) ≠ 0)
    have : (2 : Nat) ^ 61 = 2305843009213693952 := by decide
    omega)
  have p1 := mulD_small (i := c % 2305843009213693951) (j := 6364136223846793005) r1 (pow_big (a := 64) (by decide) (by decide))
  have p2 := mulD_small (i := t) (j := 1442695040888963407) (pow_big (a := 64) (by decide) (by
    have e : (2 : Int) ^ 64 = 18446744073709551616 := by decide
    have : (2 : Nat) ^ 64 = 18446744073709551616 := by decide
    omega)) (pow_big (a := 64) (by decide) (by decide))
  have lim : ∀ x : Int, 0 ≤ x % 2305843009213693952 ∧ x % 2305843009213693952 < 2305843009213693952 := fun x => ⟨Int.emod_nonneg _ (by decide), Int.emod_lt_of_pos _ (by decide)⟩
  have s1 : ∀ x : Int, 0 ≤ x ∧ x < 2305843009213693952 → mulD (.int (Builtin.bitXor x (x / 536870912))) (.int 3935559000370003845) = some (.fz (.int (Builtin.bitXor x (x / 536870912) * 3935559000370003845))) := fun x hx =>
    mulD_small (pow_big (a := 61) (by decide) (xor_small (k := 29) hx.1 hx.2 (by decide)).1) (pow_big (a := 64) (by decide) (by decide))
  have s2 : ∀ x : Int, 0 ≤ x ∧ x < 2305843009213693952 → mulD (.int (Builtin.bitXor x (x / 2147483648))) (.int 2862933555777941757) = some (.fz (.int (Builtin.bitXor x (x / 2147483648) * 2862933555777941757))) := fun x hx =>
    mulD_small (pow_big (a := 61) (by decide) (xor_small (k := 31) hx.1 hx.2 (by decide)).1) (pow_big (a := 64) (by decide) (by decide))
  obtain ⟨x, hx⟩ : ∃ x : Int, x = (c % 2305843009213693951 * 6364136223846793005 + t * 1442695040888963407 + 97) % 2305843009213693952 := ⟨_, rfl⟩
  have lx := hx ▸ lim (c % 2305843009213693951 * 6364136223846793005 + t * 1442695040888963407 + 97)
  obtain ⟨y, hy⟩ : ∃ y : Int, y = Builtin.bitXor x (x / 536870912) * 3935559000370003845 % 2305843009213693952 := ⟨_, rfl⟩
  have ly := hy ▸ lim (Builtin.bitXor x (x / 536870912) * 3935559000370003845)
  refine ⟨Builtin.bitXor y (y / 2147483648) * 2862933555777941757 % 2305843009213693952, ?_, (lim _).1⟩
  simp only [semMixed, semOf, cMixed, entry, args]
  simp [modD_ii hm, modD_ii hm1, p1, p2, shr29, shr31, ← hx, s1 _ lx, ← hy, s2 _ ly]
/-- the draws behind at most m draws -/
def Dr (m : Nat) (xs : List D) : Prop := ∃ (t l : Int) (cs : List Int), xs = [.int t, .int l, .list (cs.map PyData.int)] ∧ 0 ≤ t ∧ t ≤ m ∧ 0 ≤ l ∧ 0 < cs.length ∧ cs.length ≤ 64 ∧ ∀ c ∈ cs, 0 ≤ c
theorem Dr.mono {m n : Nat} {xs : List D} (h : Dr m xs) (l : m ≤ n) : Dr n xs := by
  obtain ⟨t, l', cs, e, h1, h2, h3⟩ := h
  exact ⟨t, l', cs, e, h1, by omega, h3⟩
theorem v_draw {m : Nat} {xs : List D} {n : Int} (h : Dr m xs) (hm : m < 2 ^ 63) (hn : 0 < n) (hn2 : n < 2 ^ 9000) : ∃ (v : Int) (ys : List D), semDraw [.list xs, .int n] = .ret (.fz (.int v)) [ys] ∧ 0 ≤ v ∧ v < n ∧ Dr (m + 1) ys := by
  obtain ⟨t, l, cs, rfl, h1, h2, h3, h4, h5, h6⟩ := h
  have hlen : (0 : Int) < cs.length := by omega
  have hlenD : ((cs.map PyData.int).length : Int) = cs.length := by simp
  have fin : ∀ (t' l' : Int), 0 ≤ t' → t' ≤ m + 1 → 0 ≤ l' → 0 ≤ l' % n ∧ l' % n < n ∧ Dr (m + 1) [.int t', .int (l' / n), .list (cs.map PyData.int)] := fun t' l' a b c =>
    ⟨Int.emod_nonneg _ (by omega), Int.emod_lt_of_pos _ hn, t', l' / n, cs, rfl, a, by omega, Int.ediv_nonneg c (by omega), h4, h5, h6⟩
  have ix0 : ixN 3 0 = some 0 := rfl
  have ix1 : ixN 3 1 = some 1 := rfl
  by_cases c : l < n
  · -- the cell
    have hj : 0 ≤ t % cs.length := Int.emod_nonneg _ (by omega)
    have hj2 : t % cs.length < cs.length := Int.emod_lt_of_pos _ hlen
    obtain ⟨k, hk⟩ : ∃ k : Nat, t % cs.length = k := ⟨(t % cs.length).toNat, by omega⟩
    have hkl : k < cs.length := by omega
    have hix : ixD (.list (cs.map PyData.int)) (.int (t % cs.length)) = some (.fz (.int cs[k])) := by
      show (match atI (cs.map PyData.int) (t % cs.length) with | some d => some (P1.fz d) | none => none) = _
      have : atI (cs.map PyData.int) (t % cs.length) = some (.int cs[k]) := by
        unfold atI
        rw [ixN_of hj (by rw [hlenD]; exact hj2), hk]
        simp [hkl]
      rw [this]
    have hc0 : 0 ≤ cs[k] := h6 _ (List.getElem_mem hkl)
    obtain ⟨v, hv, hv0⟩ := v_mixed cs[k] t hc0 h1 (by
      have e : (2 : Int) ^ 64 = 18446744073709551616 := by decide
      have e' : (2 : Nat) ^ 63 = 9223372036854775808 := by decide
      omega)
    by_cases c2 : t < cs.length ∧ 1000000000000000000 ≤ cs[k]
    · obtain ⟨f1, f2, f3⟩ := fin (t + 1) cs[k] (by omega) (by omega) hc0
      refine ⟨cs[k] % n, _, ?_, f1, f2, f3⟩
      simp only [semDraw, semOf, cDraw, entry, args]
      simp [c, modD_ii hlen, hix, c2.1, c2.2, fdivD_ii hn hn2, modD_ii hn, ix0, ix1]
    · obtain ⟨f1, f2, f3⟩ := fin (t + 1) v (by omega) (by omega) hv0
      refine ⟨v % n, _, ?_, f1, f2, f3⟩
      simp only [semDraw, semOf, cDraw, entry, args]
      by_cases c3 : t < cs.length
      · have c4 : ¬ 1000000000000000000 ≤ cs[k] := fun z => c2 ⟨c3, z⟩
        simp [c, modD_ii hlen, hix, c3, c4, hv, fdivD_ii hn hn2, modD_ii hn, ix0, ix1]
      · simp [c, modD_ii hlen, hix, c3, hv, fdivD_ii hn hn2, modD_ii hn, ix0, ix1]
  · obtain ⟨f1, f2, f3⟩ := fin t l h1 (by omega) h3
    refine ⟨l % n, _, ?_, f1, f2, f3⟩
    simp only [semDraw, semOf, cDraw, entry, args]
    simp [c, fdivD_ii hn hn2, modD_ii hn, ix0, ix1]
theorem v_open (ns : List Int) (h : ns.length ≤ 63) : ∃ xs : List D, semOpen [.list (ns.map PyData.int)] = .ret (.fl xs) [] ∧ Dr 0 xs := by
  have hmap := lcD_map (vs := [2]) (g := gN 2) (tt := tYesS) (te := eN absD (aCons (eNrm (eN intD (aCons (eNrm (eVar 2)) aNil))) aNil)) (ρ := [.sc ns, .un, .un]) PyData.int (fun _ => true) (fun i : Int => PyData.int (if i < 0 then -i else i)) (fun i => ⟨[.sc ns, .un, .fz (.int i)], by simp, .inl ⟨rfl, [.sc ns, .un, .fz (.int i)], [.sc ns, .un, .fz (.int i)], rfl, by simp, by simp⟩⟩) ns
  rw [List.filter_eq_self.mpr (fun _ _ => rfl)] at hmap
  have hl : ns.length ≤ 16777216 := by omega
  have e : (ns.map fun i : Int => PyData.int (if i < 0 then -i else i)) ++ [PyData.int 0] = ((ns.map fun i : Int => if i < 0 then -i else i) ++ [0]).map PyData.int := by simp
  have hadd : addD (.list (ns.map fun i : Int => PyData.int (if i < 0 then -i else i))) (.list [.int 0]) = some (.fl (((ns.map fun i : Int => if i < 0 then -i else i) ++ [0]).map PyData.int)) := by
    show (if _ then _ else _) = _
    rw [if_pos (by rw [List.length_map, sizeLine_eq]; simp; omega), e]
  refine ⟨[.int 0, .int 0, .list (((ns.map fun i : Int => if i < 0 then -i else i) ++ [0]).map PyData.int)], ?_, 0, 0, _, rfl, by omega, by omega, by omega, by simp, by simp; omega, fun c hc => ?_⟩
  · have e0 : args [Md.sc] 0 [PyData.list (ns.map PyData.int)] = [.sc ns] := by
      show [match intsD (ns.map PyData.int) with | some ns => Sl.sc ns | none => .un] = _
      rw [intsD_map]
    simp only [semOpen, semOf, cOpen, entry, e0]
    simp [hmap, hl, hadd]
  · rcases List.mem_append.mp hc with z | z
    · obtain ⟨i, _, rfl⟩ := List.mem_map.mp z
      split <;> omega
    · have : c = 0 := by simpa using z
      omega
end PL
end
section
set_option Elab.async false
set_option linter.all false
set_option maxRecDepth 100000
set_option maxHeartbeats 2000000
set_option autoImplicit false
/-! Equality of plain data, and more words of the plain side. -/
namespace PL
open PySem PySem.Spec PyProof.Rows L2
theorem eqv_ii (a b : Int) : PyData.eqv (.int a) (.int b) = (a == b) := rfl
theorem eqv_ss (a b : Str) : PyData.eqv (.str a) (.str b) = (a == b) := rfl
theorem eqv_bb (a b : Bool) : PyData.eqv (.bool a) (.bool b) = (a == b) := rfl
theorem eqv_nn : PyData.eqv .none .none = true := rfl
theorem eqv_tt (a b : List D) : PyData.eqv (.tuple a) (.tuple b) = PyData.eqvAll a b := rfl
theorem eqv_nt (b : List D) : PyData.eqv .none (.tuple b) = false := rfl
theorem eqv_tn (b : List D) : PyData.eqv (.tuple b) .none = false := rfl
theorem dep_i (a : Int) : (PyData.int a).depth = 0 := rfl
theorem dep_s (a : Str) : (PyData.str a).depth = 0 := rfl
theorem dep_b (a : Bool) : (PyData.bool a).depth = 0 := rfl
theorem dep_n : (PyData.none).depth = 0 := rfl
theorem eqvAll_n : PyData.eqvAll [] [] = true := rfl
theorem eqvAll_c (a b : D) (as bs : List D) : PyData.eqvAll (a :: as) (b :: bs) = (PyData.eqv a b && PyData.eqvAll as bs) := rfl
@[simp] theorem eqD_ii (a b : Int) : eqD (.int a) (.int b) = some (.fz (.bool (a == b))) := rfl
@[simp] theorem neD_ii (a b : Int) : neD (.int a) (.int b) = some (.fz (.bool (!(a == b)))) := rfl
@[simp] theorem eqD_ss (a b : Str) : eqD (.str a) (.str b) = some (.fz (.bool (a == b))) := rfl
@[simp] theorem neD_ss (a b : Str) : neD (.str a) (.str b) = some (.fz (.bool (!(a == b)))) := rfl
@[simp] theorem isNotD_b (a b : Bool) : isNotD (.bool a) (.bool b) = some (.fz (.bool (!decide (a = b)))) := rfl
@[simp] theorem isD_b (a b : Bool) : isD (.bool a) (.bool b) = some (.fz (.bool (decide (a = b)))) := rfl
@[simp] theorem isD_n (d : D) : isD d .none = some (.fz (.bool (isNoneD d))) := by cases d <;> rfl
@[simp] theorem isNotD_n (d : D) : isNotD d .none = some (.fz (.bool (!isNoneD d))) := by cases d <;> rfl
@[simp] theorem isNone_i (i : Int) : isNoneD (.int i) = false := rfl
@[simp] theorem isNone_t (xs : List D) : isNoneD (.tuple xs) = false := rfl
@[simp] theorem isNone_n : isNoneD .none = true := rfl
/-- an index within -/
theorem ixD_t {xs : List D} {i : Int} {d : D} (h0 : 0 ≤ i) (h : xs[i.toNat]? = some d) : ixD (.tuple xs) (.int i) = some (.fz d) := by
  show (match atI xs i with | some d => some (P1.fz d) | none => none) = _
  have hl := (List.getElem?_eq_some_iff.mp h).1
  have : atI xs i = some d := by
    unfold atI
    rw [ixN_of h0 (by omega)]
    exact h
  rw [this]
theorem ixD_l {xs : List D} {i : Int} {d : D} (h0 : 0 ≤ i) (h : xs[i.toNat]? = some d) : ixD (.list xs) (.int i) = some (.fz d) := by
  show (match atI xs i with | some d => some (P1.fz d) | none => none) = _
  have hl := (List.getElem?_eq_some_iff.mp h).1
  have : atI xs i = some d := by
    unfold atI
    rw [ixN_of h0 (by omega)]
    exact h
  rw [this]
@[simp] theorem ixD_t0 (a : D) (r : List D) : ixD (.tuple (a :: r)) (.int 0) = some (.fz a) := ixD_t (by decide) rfl
@[simp] theorem ixD_t1 (a b : D) (r : List D) : ixD (.tuple (a :: b :: r)) (.int 1) = some (.fz b) := ixD_t (by decide) rfl
@[simp] theorem ixD_t2 (a b c : D) (r : List D) : ixD (.tuple (a :: b :: c :: r)) (.int 2) = some (.fz c) := ixD_t (by decide) rfl
@[simp] theorem isiD_int (i : Int) : isiD "int" (.int i) = true := rfl
@[simp] theorem isiD_bool (i : Int) : isiD "bool" (.int i) = false := rfl
@[simp] theorem isiD_str (x : Str) : isiD "str" (.str x) = true := rfl
@[simp] theorem isiD_tup (xs : List D) : isiD "tuple" (.tuple xs) = true := rfl
@[simp] theorem isiD_list (xs : List D) : isiD "list" (.list xs) = true := rfl
theorem dep_ints : ∀ ns : List Int, PyData.depthAll (ns.map PyData.int) = 0
  | [] => rfl
  | n :: ns => by
    show max 0 (PyData.depthAll (ns.map PyData.int)) = 0
    rw [dep_ints ns]
    rfl
theorem any_ints (x : Int) : ∀ ns : List Int, ((ns.map PyData.int).any fun z => PyData.eqv z (.int x)) = decide (x ∈ ns)
  | [] => rfl
  | n :: ns => by
    rw [List.map_cons, List.any_cons, any_ints x ns, eqv_ii]
    by_cases h : x = n
    · subst h; simp
    · have h2 : (n == x) = false := by simpa using fun e : n = x => h e.symm
      rw [h2]
      simp [h]
theorem inD_ints (x : Int) (ns : List Int) : inD (.int x) (.list (ns.map PyData.int)) = some (.fz (.bool (decide (x ∈ ns)))) := by
  show (if _ then _ else _) = _
  rw [if_pos ⟨by show 0 ≤ 64; omega, by show PyData.depthAll (ns.map PyData.int) + 1 ≤ 64; rw [dep_ints]; omega⟩, any_ints]
theorem notInD_ints (x : Int) (ns : List Int) : notInD (.int x) (.list (ns.map PyData.int)) = some (.fz (.bool (!decide (x ∈ ns)))) := by
  show (if _ then _ else _) = _
  rw [if_pos ⟨by show 0 ≤ 64; omega, by show PyData.depthAll (ns.map PyData.int) + 1 ≤ 64; rw [dep_ints]; omega⟩, any_ints]
def genT (stopOn : Bool) (vs : List Nat) (g : TgD) (tt : Env → R Bool) (te : Env → R W) (ds : List D) : Option Env → R Bool
  | none => .bad
  | some ρ1 => match tt ρ1 with
      | .ok true ρ2 => (match tstB te ρ2 with
        | .ok c ρ3 => if c = stopOn then .ok stopOn (wipeE ρ3 vs) else genD stopOn vs g tt te ds (wipeE ρ3 vs)
        | _ => .bad)
      | .ok false ρ2 => genD stopOn vs g tt te ds (wipeE ρ2 vs)
      | _ => .bad
theorem genD_cons (stopOn : Bool) (vs : List Nat) (g : TgD) (tt : Env → R Bool) (te : Env → R W) (d : D) (ds : List D) (ρ : Env) : genD stopOn vs g tt te (d :: ds) ρ = genT stopOn vs g tt te ds (g d ρ) := by
  unfold genT
  conv => lhs; unfold genD
  all_goals rfl
/-- all(..): every element is tried; nothing else changes -/
theorem genD_all {vs : List Nat} {g : TgD} {te : Env → R W} {ρ : Env} (p : D → Bool) : ∀ ds : List D, (∀ d ∈ ds, ∃ ρ1 ρ2, g d ρ = some ρ1 ∧ tstB te ρ1 = .ok (p d) ρ2 ∧ wipeE ρ2 vs = ρ) → genD false vs g tYesS te ds ρ = .ok (ds.all p) ρ
  | [], _ => rfl
  | d :: ds, h => by
    obtain ⟨ρ1, ρ2, h1, h2, h3⟩ := h d List.mem_cons_self
    rw [genD_cons, h1]
    show (match tYesS ρ1 with
      | .ok true ρ2 => (match tstB te ρ2 with
        | .ok c ρ3 => if c = false then R.ok false (wipeE ρ3 vs) else genD false vs g tYesS te ds (wipeE ρ3 vs)
        | _ => .bad)
      | .ok false ρ2 => genD false vs g tYesS te ds (wipeE ρ2 vs)
      | _ => .bad) = _
    simp only [tYes_eq, h2, h3]
    rw [List.all_cons]
    cases hp : p d with
    | false => simp
    | true =>
      simp
      exact genD_all p ds fun x hx => h x (List.mem_cons_of_mem _ hx)
theorem genD_any {vs : List Nat} {g : TgD} {te : Env → R W} {ρ : Env} (p : D → Bool) : ∀ ds : List D, (∀ d ∈ ds, ∃ ρ1 ρ2, g d ρ = some ρ1 ∧ tstB te ρ1 = .ok (p d) ρ2 ∧ wipeE ρ2 vs = ρ) → genD true vs g tYesS te ds ρ = .ok (ds.any p) ρ
  | [], _ => rfl
  | d :: ds, h => by
    obtain ⟨ρ1, ρ2, h1, h2, h3⟩ := h d List.mem_cons_self
    rw [genD_cons, h1]
    show (match tYesS ρ1 with
      | .ok true ρ2 => (match tstB te ρ2 with
        | .ok c ρ3 => if c = true then R.ok true (wipeE ρ3 vs) else genD true vs g tYesS te ds (wipeE ρ3 vs)
        | _ => .bad)
      | .ok false ρ2 => genD true vs g tYesS te ds (wipeE ρ2 vs)
      | _ => .bad) = _
    simp only [tYes_eq, h2, h3]
    rw [List.any_cons]
    cases hp : p d with
    | true => simp
    | false =>
      simp
      exact genD_any p ds fun x hx => h x (List.mem_cons_of_mem _ hx)
end PL
end
section
set_option Elab.async false
set_option linter.all false
set_option maxRecDepth 100000
set_option maxHeartbeats 4000000
set_option autoImplicit false
namespace PL.K46
open PySem PySem.Spec PyProof.Rows L2 PL

def top (i : Nat) : Stmt := PySem.Challenge.pw_docketloom_k46_tariffs_and_unfair_pairs.main.body.getD i (.Pass ⟨0, 0, 0, 0⟩)
def d_WAYS : D := (PyData.tuple [(PyData.str "down"), (PyData.str "up"), (PyData.str "near")])
/-- what stands in the module -/
structure Fr (G : GG) : Prop where
  f_abs : G.mg "abs" = none
  f_all : G.mg "all" = none
  f_bool : G.mg "bool" = none
  f_int : G.mg "int" = none
  f_isinstance : G.mg "isinstance" = none
  f_len : G.mg "len" = none
  f_list : G.mg "list" = none
  f_max : G.mg "max" = none
  f_min : G.mg "min" = none
  f_range : G.mg "range" = none
  f_sorted : G.mg "sorted" = none
  f_str : G.mg "str" = none
  f_tuple : G.mg "tuple" = none
  c_LIMIT : ∃ t, G.mg "LIMIT" = some (.int 1000000000000000000000000000000000000000000000000000000000000 t)
  c_MOST_MONEY : ∃ t, G.mg "MOST_MONEY" = some (.int 1000000000000 t)
  c_MOST_WHOLE : ∃ t, G.mg "MOST_WHOLE" = some (.int 10000 t)
  c_WAYS : GlD G "WAYS" d_WAYS
  e_NotThere : ExcD G "NotThere"
  g_gcd : G.mg "gcd" = some (.builtin "math.gcd")
abbrev s_is_number : Stmt := top 5
def N_is_number : List Str := ["value", "least", "most"]
def f_is_number : Env → So := sRet (eAndB (eIsi "int" (eVar 0)) (eAndB (eNotB (eIsi "bool" (eVar 0))) (eCh2 leD leD (eVar 1) (eVar 0) (eVar 2))))
def sem_is_number : DefSem := semOf 3 [.d, .d, .d] f_is_number
theorem sc_is_number : FnScope N_is_number ["value", "least", "most"] (defScope s_is_number) := ⟨rfl, rfl, rfl, by decide +kernel, rfl, by decide +kernel, by decide +kernel⟩
theorem ok_is_number {G : GG} (t : Fr G)  : PDSs ⟨G, N_is_number, defScope s_is_number, 0, fun _ => true, none⟩ (defBody s_is_number) f_is_number :=
  pdss_one (pds_ret (pd_and (pd_isi (by kernel_rfl) t.f_isinstance (by kernel_rfl) t.f_int (by decide +kernel) (by decide +kernel) (pd_var (i := 0) (by kernel_rfl))) (pd_and (pd_not (pd_isi (by kernel_rfl) t.f_isinstance (by kernel_rfl) t.f_bool (by decide +kernel) (by decide +kernel) (pd_var (i := 0) (by kernel_rfl)))) (pd_one (pd_c2 cmp_le cmp_le (pd_var (i := 1) (by kernel_rfl)) (pd_var (i := 0) (by kernel_rfl)) (pd_var (i := 2) (by kernel_rfl)))))))
abbrev s_is_fraction : Stmt := top 8
def N_is_fraction : List Str := ["value", "part", "whole", "one"]
def f_is_fraction : Env → So := sSeq (sIf (tOrS (tNotS (tstV (eIsi "tuple" (eVar 0)))) (tstB (eBin neD (eN lenD (aCons (eNrm (eVar 0)) aNil)) (eC (.int 2))))) (sRet (eC (.bool false))) sNx) (sSeq (sUn [gN 1, gN 2] (eVar 0)) (sSeq (sFor (iSq (eVar 0)) (gN 3) (sIf (tOrS (tNotS (tstV (eIsi "int" (eVar 3)))) (tstV (eIsi "bool" (eVar 3)))) (sRet (eC (.bool false))) sNx)) (sRet (eAndB (eCh2 leD leD (eUn negD (eC (.int 1000000000000000000000000000000000000000000000000000000000000))) (eVar 1) (eC (.int 1000000000000000000000000000000000000000000000000000000000000))) (eAndB (eCh2 leD leD (eC (.int 1)) (eVar 2) (eC (.int 1000000000000000000000000000000000000000000000000000000000000))) (eBin eqD (eN gcdD (aCons (eNrm (eVar 1)) (aCons (eNrm (eVar 2)) aNil))) (eC (.int 1))))))))
def sem_is_fraction : DefSem := semOf 4 [.d] f_is_fraction
theorem sc_is_fraction : FnScope N_is_fraction ["value"] (defScope s_is_fraction) := ⟨rfl, rfl, rfl, by decide +kernel, rfl, by decide +kernel, by decide +kernel⟩
theorem ok_is_fraction {G : GG} (t : Fr G)  : PDSs ⟨G, N_is_fraction, defScope s_is_fraction, 0, fun _ => true, none⟩ (defBody s_is_fraction) f_is_fraction :=
  pdss_cons (pds_if (PDW.t (pdw_or (pdt_not (pdt_truth (pd_isi (by kernel_rfl) t.f_isinstance (by kernel_rfl) t.f_tuple (by decide +kernel) (by decide +kernel) (pd_var (i := 0) (by kernel_rfl))))) (pdw_or1 (pdt_c cmp_ne (pd_b bi_len (by kernel_rfl) t.f_len (pda_cons (pd_var (i := 0) (by kernel_rfl)) pda_nil)) pd_int)))) (pdss_one (pds_ret pd_bl)) pdss_nil) (pdss_cons (pds_un (vs := [1, 2]) (pd_var (i := 0) (by kernel_rfl)) (pdgc_tup (pdgs_cons (pdg_name (i := 1) (by kernel_rfl) (by decide)) (pdgs_cons (pdg_name (i := 2) (by kernel_rfl) (by decide)) pdgs_nil)))) (pdss_cons (pds_for (vs := [3]) (pdi_seq (pd_var (i := 0) (by kernel_rfl))) (pdg_name (i := 3) (by kernel_rfl) (by decide)) (pdss_one (pds_if (PDW.t (pdw_or (pdt_not (pdt_truth (pd_isi (by kernel_rfl) t.f_isinstance (by kernel_rfl) t.f_int (by decide +kernel) (by decide +kernel) (pd_var (i := 3) (by kernel_rfl))))) (pdw_or1 (pdt_truth (pd_isi (by kernel_rfl) t.f_isinstance (by kernel_rfl) t.f_bool (by decide +kernel) (by decide +kernel) (pd_var (i := 3) (by kernel_rfl))))))) (pdss_one (pds_ret pd_bl)) pdss_nil))) (pdss_one (pds_ret (pd_and (pd_c2 cmp_le cmp_le (pd_neg (pd_glI (by kernel_rfl) t.c_LIMIT)) (pd_var (i := 1) (by kernel_rfl)) (pd_glI (by kernel_rfl) t.c_LIMIT)) (pd_and (pd_c2 cmp_le cmp_le pd_int (pd_var (i := 2) (by kernel_rfl)) (pd_glI (by kernel_rfl) t.c_LIMIT)) (pd_one (pd_c cmp_eq (pd_gcd (by kernel_rfl) t.g_gcd (pda_cons (pd_var (i := 1) (by kernel_rfl)) (pda_cons (pd_var (i := 2) (by kernel_rfl)) pda_nil))) pd_int))))))))
abbrev s_lowest : Stmt := top 9
def N_lowest : List Str := ["part", "whole", "common"]
def f_lowest : Env → So := sSeq (sSet 2 (eN gcdD (aCons (eNrm (eVar 0)) (aCons (eNrm (eVar 1)) aNil)))) (sSeq (sIf (tstB (eBin ltD (eVar 1) (eC (.int 0)))) (sSet 2 (eUn negD (eVar 2))) sNx) (sRet (eTup (aCons (eFz (eBin fdivD (eVar 0) (eVar 2))) (aCons (eFz (eBin fdivD (eVar 1) (eVar 2))) aNil)))))
def sem_lowest : DefSem := semOf 3 [.d, .d] f_lowest
theorem sc_lowest : FnScope N_lowest ["part", "whole"] (defScope s_lowest) := ⟨rfl, rfl, rfl, by decide +kernel, rfl, by decide +kernel, by decide +kernel⟩
theorem ok_lowest {G : GG} (t : Fr G)  : PDSs ⟨G, N_lowest, defScope s_lowest, 0, fun _ => true, none⟩ (defBody s_lowest) f_lowest :=
  pdss_cons (pds_set (i := 2) (pd_gcd (by kernel_rfl) t.g_gcd (pda_cons (pd_var (i := 0) (by kernel_rfl)) (pda_cons (pd_var (i := 1) (by kernel_rfl)) pda_nil))) (by kernel_rfl)) (pdss_cons (pds_if (pdt_c cmp_lt (pd_var (i := 1) (by kernel_rfl)) pd_int) (pdss_one (pds_set (i := 2) (pd_neg (pd_var (i := 2) (by kernel_rfl))) (by kernel_rfl))) pdss_nil) (pdss_one (pds_ret (pd_tup (pda_keep (pd_fdiv (pd_var (i := 0) (by kernel_rfl)) (pd_var (i := 2) (by kernel_rfl))) (pda_keep (pd_fdiv (pd_var (i := 1) (by kernel_rfl)) (pd_var (i := 2) (by kernel_rfl))) pda_nil))))))
abbrev s_times : Stmt := top 10
def N_times : List Str := ["one", "other"]
def f_times : Env → So := sRet (eCall [.d, .d] sem_lowest (aCons (eFz (eBin mulD (eBin ixD (eVar 0) (eC (.int 0))) (eBin ixD (eVar 1) (eC (.int 0))))) (aCons (eFz (eBin mulD (eBin ixD (eVar 0) (eC (.int 1))) (eBin ixD (eVar 1) (eC (.int 1))))) aNil)))
def sem_times : DefSem := semOf 2 [.d, .d] f_times
theorem sc_times : FnScope N_times ["one", "other"] (defScope s_times) := ⟨rfl, rfl, rfl, by decide +kernel, rfl, by decide +kernel, by decide +kernel⟩
theorem ok_times {G : GG} (t : Fr G) (h_lowest : DefAt G "lowest" 1 3 [.d, .d] sem_lowest) : PDSs ⟨G, N_times, defScope s_times, 1, fun _ => true, none⟩ (defBody s_times) f_times :=
  pdss_one (pds_ret (pd_call h_lowest (Nat.le_of_ble_eq_true rfl) (by kernel_rfl) (pda_keep (pd_mul (pd_ix (pd_var (i := 0) (by kernel_rfl)) pd_int (fun _ _ => rfl)) (pd_ix (pd_var (i := 1) (by kernel_rfl)) pd_int (fun _ _ => rfl))) (pda_keep (pd_mul (pd_ix (pd_var (i := 0) (by kernel_rfl)) pd_int (fun _ _ => rfl)) (pd_ix (pd_var (i := 1) (by kernel_rfl)) pd_int (fun _ _ => rfl))) pda_nil))))
abbrev s_rounded : Stmt := top 11
def N_rounded : List Str := ["fraction", "way", "part", "whole", "low", "double"]
def f_rounded : Env → So := sSeq (sUn [gN 2, gN 3] (eVar 0)) (sSeq (sSet 4 (eBin fdivD (eVar 2) (eVar 3))) (sSeq (sIf (tstB (eBin eqD (eVar 1) (eC (.str "down")))) (sRet (eVar 4)) sNx) (sSeq (sIf (tstB (eBin eqD (eVar 1) (eC (.str "up")))) (sRet (eUn negD (eBin fdivD (eUn negD (eVar 2)) (eVar 3)))) sNx) (sSeq (sIf (tstB (eBin neD (eVar 1) (eC (.str "near")))) (sRaise "NotThere") sNx) (sSeq (sSet 5 (eBin mulD (eC (.int 2)) (eBin subD (eVar 2) (eBin mulD (eVar 4) (eVar 3))))) (sSeq (sIf (tOrS (tstB (eBin ltD (eVar 5) (eVar 3))) (tAndS (tstB (eBin eqD (eVar 5) (eVar 3))) (tstB (eBin eqD (eBin modD (eVar 4) (eC (.int 2))) (eC (.int 0)))))) (sRet (eVar 4)) sNx) (sRet (eBin addD (eVar 4) (eC (.int 1))))))))))
def sem_rounded : DefSem := semOf 6 [.d, .d] f_rounded
theorem sc_rounded : FnScope N_rounded ["fraction", "way"] (defScope s_rounded) := ⟨rfl, rfl, rfl, by decide +kernel, rfl, by decide +kernel, by decide +kernel⟩
theorem ok_rounded {G : GG} (t : Fr G)  : PDSs ⟨G, N_rounded, defScope s_rounded, 0, fun _ => true, none⟩ (defBody s_rounded) f_rounded :=
  pdss_cons (pds_un (vs := [2, 3]) (pd_var (i := 0) (by kernel_rfl)) (pdgc_tup (pdgs_cons (pdg_name (i := 2) (by kernel_rfl) (by decide)) (pdgs_cons (pdg_name (i := 3) (by kernel_rfl) (by decide)) pdgs_nil)))) (pdss_cons (pds_set (i := 4) (pd_fdiv (pd_var (i := 2) (by kernel_rfl)) (pd_var (i := 3) (by kernel_rfl))) (by kernel_rfl)) (pdss_cons (pds_if (pdt_c cmp_eq (pd_var (i := 1) (by kernel_rfl)) (pd_str (by kernel_rfl))) (pdss_one (pds_ret (pd_var (i := 4) (by kernel_rfl)))) pdss_nil) (pdss_cons (pds_if (pdt_c cmp_eq (pd_var (i := 1) (by kernel_rfl)) (pd_str (by kernel_rfl))) (pdss_one (pds_ret (pd_neg (pd_fdiv (pd_neg (pd_var (i := 2) (by kernel_rfl))) (pd_var (i := 3) (by kernel_rfl)))))) pdss_nil) (pdss_cons (pds_if (pdt_c cmp_ne (pd_var (i := 1) (by kernel_rfl)) (pd_str (by kernel_rfl))) (pdss_one (pds_raise t.e_NotThere (by kernel_rfl))) pdss_nil) (pdss_cons (pds_set (i := 5) (pd_mul pd_int (pd_sub (pd_var (i := 2) (by kernel_rfl)) (pd_mul (pd_var (i := 4) (by kernel_rfl)) (pd_var (i := 3) (by kernel_rfl))))) (by kernel_rfl)) (pdss_cons (pds_if (PDW.t (pdw_or (pdt_c cmp_lt (pd_var (i := 5) (by kernel_rfl)) (pd_var (i := 3) (by kernel_rfl))) (pdw_or1 (PDW.t (pdw_and (pdt_c cmp_eq (pd_var (i := 5) (by kernel_rfl)) (pd_var (i := 3) (by kernel_rfl))) (pdw_and1 (pdt_c cmp_eq (pd_mod (pd_var (i := 4) (by kernel_rfl)) pd_int) pd_int))))))) (pdss_one (pds_ret (pd_var (i := 4) (by kernel_rfl)))) pdss_nil) (pdss_one (pds_ret (pd_add (pd_var (i := 4) (by kernel_rfl)) pd_int)))))))))
abbrev s_is_money : Stmt := top 16
def N_is_money : List Str := ["value"]
def f_is_money : Env → So := sRet (eCall [.d, .d, .d] sem_is_number (aCons (eFz (eVar 0)) (aCons (eFz (eC (.int 0))) (aCons (eFz (eC (.int 1000000000000))) aNil))))
def sem_is_money : DefSem := semOf 1 [.d] f_is_money
theorem sc_is_money : FnScope N_is_money ["value"] (defScope s_is_money) := ⟨rfl, rfl, rfl, by decide +kernel, rfl, by decide +kernel, by decide +kernel⟩
theorem ok_is_money {G : GG} (t : Fr G) (h_is_number : DefAt G "is_number" 1 3 [.d, .d, .d] sem_is_number) : PDSs ⟨G, N_is_money, defScope s_is_money, 1, fun _ => true, none⟩ (defBody s_is_money) f_is_money :=
  pdss_one (pds_ret (pd_call h_is_number (Nat.le_of_ble_eq_true rfl) (by kernel_rfl) (pda_keep (pd_var (i := 0) (by kernel_rfl)) (pda_keep pd_int (pda_keep (pd_glI (by kernel_rfl) t.c_MOST_MONEY) pda_nil)))))
abbrev s_is_rate : Stmt := top 17
def N_is_rate : List Str := ["value"]
def f_is_rate : Env → So := sRet (eAndB (eCall [.d] sem_is_fraction (aCons (eFz (eVar 0)) aNil)) (eCh3 leD leD leD (eC (.int 0)) (eBin ixD (eVar 0) (eC (.int 0))) (eBin ixD (eVar 0) (eC (.int 1))) (eC (.int 10000))))
def sem_is_rate : DefSem := semOf 1 [.d] f_is_rate
theorem sc_is_rate : FnScope N_is_rate ["value"] (defScope s_is_rate) := ⟨rfl, rfl, rfl, by decide +kernel, rfl, by decide +kernel, by decide +kernel⟩
theorem ok_is_rate {G : GG} (t : Fr G) (h_is_fraction : DefAt G "is_fraction" 1 4 [.d] sem_is_fraction) : PDSs ⟨G, N_is_rate, defScope s_is_rate, 1, fun _ => true, none⟩ (defBody s_is_rate) f_is_rate :=
  pdss_one (pds_ret (pd_and (pd_call h_is_fraction (Nat.le_of_ble_eq_true rfl) (by kernel_rfl) (pda_keep (pd_var (i := 0) (by kernel_rfl)) pda_nil)) (pd_one (pd_c3 cmp_le cmp_le cmp_le pd_int (pd_ix (pd_var (i := 0) (by kernel_rfl)) pd_int (fun _ _ => rfl)) (pd_ix (pd_var (i := 0) (by kernel_rfl)) pd_int (fun _ _ => rfl)) (pd_glI (by kernel_rfl) t.c_MOST_WHOLE)))))
abbrev s_is_step : Stmt := top 18
def N_is_step : List Str := ["value"]
def f_is_step : Env → So := sSeq (sIf (tOrS (tNotS (tstV (eIsi "tuple" (eVar 0)))) (tstB (eBin neD (eN lenD (aCons (eNrm (eVar 0)) aNil)) (eC (.int 3))))) (sRet (eC (.bool false))) sNx) (sRet (eAndB (eCall [.d] sem_is_money (aCons (eFz (eBin ixD (eVar 0) (eC (.int 0)))) aNil)) (eAndB (eCall [.d] sem_is_money (aCons (eFz (eBin ixD (eVar 0) (eC (.int 1)))) aNil)) (eCall [.d] sem_is_rate (aCons (eFz (eBin ixD (eVar 0) (eC (.int 2)))) aNil)))))
def sem_is_step : DefSem := semOf 1 [.d] f_is_step
theorem sc_is_step : FnScope N_is_step ["value"] (defScope s_is_step) := ⟨rfl, rfl, rfl, by decide +kernel, rfl, by decide +kernel, by decide +kernel⟩
theorem ok_is_step {G : GG} (t : Fr G) (h_is_money : DefAt G "is_money" 2 1 [.d] sem_is_money) (h_is_rate : DefAt G "is_rate" 2 1 [.d] sem_is_rate) : PDSs ⟨G, N_is_step, defScope s_is_step, 2, fun _ => true, none⟩ (defBody s_is_step) f_is_step :=
  pdss_cons (pds_if (PDW.t (pdw_or (pdt_not (pdt_truth (pd_isi (by kernel_rfl) t.f_isinstance (by kernel_rfl) t.f_tuple (by decide +kernel) (by decide +kernel) (pd_var (i := 0) (by kernel_rfl))))) (pdw_or1 (pdt_c cmp_ne (pd_b bi_len (by kernel_rfl) t.f_len (pda_cons (pd_var (i := 0) (by kernel_rfl)) pda_nil)) pd_int)))) (pdss_one (pds_ret pd_bl)) pdss_nil) (pdss_one (pds_ret (pd_and (pd_call h_is_money (Nat.le_of_ble_eq_true rfl) (by kernel_rfl) (pda_keep (pd_ix (pd_var (i := 0) (by kernel_rfl)) pd_int (fun _ _ => rfl)) pda_nil)) (pd_and (pd_call h_is_money (Nat.le_of_ble_eq_true rfl) (by kernel_rfl) (pda_keep (pd_ix (pd_var (i := 0) (by kernel_rfl)) pd_int (fun _ _ => rfl)) pda_nil)) (pd_one (pd_call h_is_rate (Nat.le_of_ble_eq_true rfl) (by kernel_rfl) (pda_keep (pd_ix (pd_var (i := 0) (by kernel_rfl)) pd_int (fun _ _ => rfl)) pda_nil)))))))
abbrev s_is_tariff : Stmt := top 19
def N_is_tariff : List Str := ["value", "way", "steps", "step", "k"]
def f_is_tariff : Env → So := sSeq (sIf (tOrS (tNotS (tstV (eIsi "tuple" (eVar 0)))) (tstB (eBin neD (eN lenD (aCons (eNrm (eVar 0)) aNil)) (eC (.int 2))))) (sRet (eC (.bool false))) sNx) (sSeq (sUn [gN 1, gN 2] (eVar 0)) (sSeq (sIf (tOrS (tNotS (tstV (eIsi "str" (eVar 1)))) (tOrS (tstB (eBin notInD (eVar 1) (eC d_WAYS))) (tNotS (tstV (eIsi "tuple" (eVar 2)))))) (sRet (eC (.bool false))) sNx) (sSeq (sIf (tOrS (tNotS (tstB (eCh2 leD leD (eC (.int 1)) (eN lenD (aCons (eNrm (eVar 2)) aNil)) (eC (.int 12))))) (tOrS (tNotS (tstV (eGen false [3] (iSq (eVar 2)) (gN 3) tYesS (eCall [.d] sem_is_step (aCons (eFz (eVar 3)) aNil))))) (tstB (eBin neD (eBin ixD (eBin ixD (eVar 2) (eC (.int 0))) (eC (.int 0))) (eC (.int 0)))))) (sRet (eC (.bool false))) sNx) (sRet (eGen false [4] (iR1 (aCons (eNrm (eBin subD (eN lenD (aCons (eNrm (eVar 2)) aNil)) (eC (.int 1)))) aNil)) (gN 4) tYesS (eBin ltD (eBin ixD (eBin ixD (eVar 2) (eVar 4)) (eC (.int 0))) (eBin ixD (eBin ixD (eVar 2) (eBin addD (eVar 4) (eC (.int 1)))) (eC (.int 0)))))))))
def sem_is_tariff : DefSem := semOf 5 [.d] f_is_tariff
theorem sc_is_tariff : FnScope N_is_tariff ["value"] (defScope s_is_tariff) := ⟨rfl, rfl, rfl, by decide +kernel, rfl, by decide +kernel, by decide +kernel⟩
theorem ok_is_tariff {G : GG} {c P : Addr} (t : Fr G) (h_is_step : DefAt G "is_step" 3 1 [.d] sem_is_step) : PDSs ⟨G, N_is_tariff, defScope s_is_tariff, 4, fun _ => true, some (c, P)⟩ (defBody s_is_tariff) f_is_tariff :=
  pdss_cons (pds_if (PDW.t (pdw_or (pdt_not (pdt_truth (pd_isi (by kernel_rfl) t.f_isinstance (by kernel_rfl) t.f_tuple (by decide +kernel) (by decide +kernel) (pd_var (i := 0) (by kernel_rfl))))) (pdw_or1 (pdt_c cmp_ne (pd_b bi_len (by kernel_rfl) t.f_len (pda_cons (pd_var (i := 0) (by kernel_rfl)) pda_nil)) pd_int)))) (pdss_one (pds_ret pd_bl)) pdss_nil) (pdss_cons (pds_un (vs := [1, 2]) (pd_var (i := 0) (by kernel_rfl)) (pdgc_tup (pdgs_cons (pdg_name (i := 1) (by kernel_rfl) (by decide)) (pdgs_cons (pdg_name (i := 2) (by kernel_rfl) (by decide)) pdgs_nil)))) (pdss_cons (pds_if (PDW.t (pdw_or (pdt_not (pdt_truth (pd_isi (by kernel_rfl) t.f_isinstance (by kernel_rfl) t.f_str (by decide +kernel) (by decide +kernel) (pd_var (i := 1) (by kernel_rfl))))) (pdw_or (pdt_c cmp_notIn (pd_var (i := 1) (by kernel_rfl)) (pd_glD (by kernel_rfl) t.c_WAYS)) (pdw_or1 (pdt_not (pdt_truth (pd_isi (by kernel_rfl) t.f_isinstance (by kernel_rfl) t.f_tuple (by decide +kernel) (by decide +kernel) (pd_var (i := 2) (by kernel_rfl))))))))) (pdss_one (pds_ret pd_bl)) pdss_nil) (pdss_cons (pds_if (PDW.t (pdw_or (pdt_not (pdt_c2 cmp_le cmp_le pd_int (pd_b bi_len (by kernel_rfl) t.f_len (pda_cons (pd_var (i := 2) (by kernel_rfl)) pda_nil)) pd_int)) (pdw_or (pdt_not (pdt_truth (pd_all (own := [("step", 3)]) (k := 3) rfl rfl (by kernel_rfl) t.f_all (by kernel_rfl) (pdi_seq (pd_var (i := 2) (by kernel_rfl))) (pdg_name (i := 3) (by kernel_rfl) (by decide)) pdts_nil (pd_call h_is_step (Nat.le_of_ble_eq_true rfl) (by kernel_rfl) (pda_keep (pd_var (i := 3) (by kernel_rfl)) pda_nil))))) (pdw_or1 (pdt_c cmp_ne (pd_ix (pd_ix (pd_var (i := 2) (by kernel_rfl)) pd_int (fun _ _ => rfl)) pd_int (fun _ _ => rfl)) pd_int))))) (pdss_one (pds_ret pd_bl)) pdss_nil) (pdss_one (pds_ret (pd_all (own := [("k", 4)]) (k := 3) rfl rfl (by kernel_rfl) t.f_all (by kernel_rfl) (pdi_range1 (by kernel_rfl) t.f_range (pda_cons (pd_sub (pd_b bi_len (by kernel_rfl) t.f_len (pda_cons (pd_var (i := 2) (by kernel_rfl)) pda_nil)) pd_int) pda_nil)) (pdg_name (i := 4) (by kernel_rfl) (by decide)) pdts_nil (pd_c cmp_lt (pd_ix (pd_ix (pd_var (i := 2) (by kernel_rfl)) (pd_var (i := 4) (by kernel_rfl)) (fun _ _ => rfl)) pd_int (fun _ _ => rfl)) (pd_ix (pd_ix (pd_var (i := 2) (by kernel_rfl)) (pd_add (pd_var (i := 4) (by kernel_rfl)) pd_int) (fun _ _ => rfl)) pd_int (fun _ _ => rfl)))))))))
abbrev s_fee_in : Stmt := top 20
def N_fee_in : List Str := ["way", "step", "value", "low", "base", "rate"]
def f_fee_in : Env → So := sSeq (sUn [gN 3, gN 4, gN 5] (eVar 1)) (sRet (eBin addD (eVar 4) (eCall [.d, .d] sem_rounded (aCons (eFz (eCall [.d, .d] sem_times (aCons (eFz (eVar 5)) (aCons (eFz (eTup (aCons (eFz (eBin subD (eVar 2) (eVar 3))) (aCons (eFz (eC (.int 1))) aNil)))) aNil)))) (aCons (eFz (eVar 0)) aNil)))))
def sem_fee_in : DefSem := semOf 6 [.d, .d, .d] f_fee_in
theorem sc_fee_in : FnScope N_fee_in ["way", "step", "value"] (defScope s_fee_in) := ⟨rfl, rfl, rfl, by decide +kernel, rfl, by decide +kernel, by decide +kernel⟩
theorem ok_fee_in {G : GG} (t : Fr G) (h_times : DefAt G "times" 2 2 [.d, .d] sem_times) (h_rounded : DefAt G "rounded" 1 6 [.d, .d] sem_rounded) : PDSs ⟨G, N_fee_in, defScope s_fee_in, 2, fun _ => true, none⟩ (defBody s_fee_in) f_fee_in :=
  pdss_cons (pds_un (vs := [3, 4, 5]) (pd_var (i := 1) (by kernel_rfl)) (pdgc_tup (pdgs_cons (pdg_name (i := 3) (by kernel_rfl) (by decide)) (pdgs_cons (pdg_name (i := 4) (by kernel_rfl) (by decide)) (pdgs_cons (pdg_name (i := 5) (by kernel_rfl) (by decide)) pdgs_nil))))) (pdss_one (pds_ret (pd_add (pd_var (i := 4) (by kernel_rfl)) (pd_call h_rounded (Nat.le_of_ble_eq_true rfl) (by kernel_rfl) (pda_keep (pd_call h_times (Nat.le_of_ble_eq_true rfl) (by kernel_rfl) (pda_keep (pd_var (i := 5) (by kernel_rfl)) (pda_keep (pd_tup (pda_keep (pd_sub (pd_var (i := 2) (by kernel_rfl)) (pd_var (i := 3) (by kernel_rfl))) (pda_keep pd_int pda_nil))) pda_nil))) (pda_keep (pd_var (i := 0) (by kernel_rfl)) pda_nil))))))
abbrev s_fee_of : Stmt := top 21
def N_fee_of : List Str := ["tariff", "value", "way", "steps", "found", "step"]
def f_fee_of : Env → So := sSeq (sUn [gN 2, gN 3] (eVar 0)) (sSeq (sSet 4 (eBin ixD (eVar 3) (eC (.int 0)))) (sSeq (sFor (iSq (eVar 3)) (gN 5) (sIf (tstB (eBin leD (eBin ixD (eVar 5) (eC (.int 0))) (eVar 1))) (sSet 4 (eVar 5)) sNx)) (sRet (eCall [.d, .d, .d] sem_fee_in (aCons (eFz (eVar 2)) (aCons (eFz (eVar 4)) (aCons (eFz (eVar 1)) aNil)))))))
def sem_fee_of : DefSem := semOf 6 [.d, .d] f_fee_of
theorem sc_fee_of : FnScope N_fee_of ["tariff", "value"] (defScope s_fee_of) := ⟨rfl, rfl, rfl, by decide +kernel, rfl, by decide +kernel, by decide +kernel⟩
theorem ok_fee_of {G : GG} (t : Fr G) (h_fee_in : DefAt G "fee_in" 3 6 [.d, .d, .d] sem_fee_in) : PDSs ⟨G, N_fee_of, defScope s_fee_of, 3, fun _ => true, none⟩ (defBody s_fee_of) f_fee_of :=
  pdss_cons (pds_un (vs := [2, 3]) (pd_var (i := 0) (by kernel_rfl)) (pdgc_tup (pdgs_cons (pdg_name (i := 2) (by kernel_rfl) (by decide)) (pdgs_cons (pdg_name (i := 3) (by kernel_rfl) (by decide)) pdgs_nil)))) (pdss_cons (pds_set (i := 4) (pd_ix (pd_var (i := 3) (by kernel_rfl)) pd_int (fun _ _ => rfl)) (by kernel_rfl)) (pdss_cons (pds_for (vs := [5]) (pdi_seq (pd_var (i := 3) (by kernel_rfl))) (pdg_name (i := 5) (by kernel_rfl) (by decide)) (pdss_one (pds_if (pdt_c cmp_le (pd_ix (pd_var (i := 5) (by kernel_rfl)) pd_int (fun _ _ => rfl)) (pd_var (i := 1) (by kernel_rfl))) (pdss_one (pds_set (i := 4) (pd_var (i := 5) (by kernel_rfl)) (by kernel_rfl))) pdss_nil))) (pdss_one (pds_ret (pd_call h_fee_in (Nat.le_of_ble_eq_true rfl) (by kernel_rfl) (pda_keep (pd_var (i := 2) (by kernel_rfl)) (pda_keep (pd_var (i := 4) (by kernel_rfl)) (pda_keep (pd_var (i := 1) (by kernel_rfl)) pda_nil))))))))
abbrev s_first_above : Stmt := top 22
def N_first_above : List Str := ["way", "step", "last", "bound", "low", "high", "middle"]
def f_first_above : Env → So := sSeq (sIf (tstB (eBin leD (eCall [.d, .d, .d] sem_fee_in (aCons (eFz (eVar 0)) (aCons (eFz (eVar 1)) (aCons (eFz (eVar 2)) aNil)))) (eVar 3))) (sRet (eC .none)) sNx) (sSeq (sSet 4 (eBin ixD (eVar 1) (eC (.int 0)))) (sSeq (sSet 5 (eVar 2)) (sSeq (sWhile (fun _ => 100) (tstB (eBin ltD (eVar 4) (eVar 5))) (sSeq (sSet 6 (eBin fdivD (eBin addD (eVar 4) (eVar 5)) (eC (.int 2)))) (sIf (tstB (eBin gtD (eCall [.d, .d, .d] sem_fee_in (aCons (eFz (eVar 0)) (aCons (eFz (eVar 1)) (aCons (eFz (eVar 6)) aNil)))) (eVar 3))) (sSet 5 (eVar 6)) (sSet 4 (eBin addD (eVar 6) (eC (.int 1))))))) (sRet (eVar 4)))))
def sem_first_above : DefSem := semOf 7 [.d, .d, .d, .d] f_first_above
theorem sc_first_above : FnScope N_first_above ["way", "step", "last", "bound"] (defScope s_first_above) := ⟨rfl, rfl, rfl, by decide +kernel, rfl, by decide +kernel, by decide +kernel⟩
theorem ok_first_above {G : GG} (t : Fr G) (h_fee_in : DefAt G "fee_in" 3 6 [.d, .d, .d] sem_fee_in) : PDSs ⟨G, N_first_above, defScope s_first_above, 3, fun _ => true, none⟩ (defBody s_first_above) f_first_above :=
  pdss_cons (pds_if (pdt_c cmp_le (pd_call h_fee_in (Nat.le_of_ble_eq_true rfl) (by kernel_rfl) (pda_keep (pd_var (i := 0) (by kernel_rfl)) (pda_keep (pd_var (i := 1) (by kernel_rfl)) (pda_keep (pd_var (i := 2) (by kernel_rfl)) pda_nil)))) (pd_var (i := 3) (by kernel_rfl))) (pdss_one (pds_ret pd_non)) pdss_nil) (pdss_cons (pds_set (i := 4) (pd_ix (pd_var (i := 1) (by kernel_rfl)) pd_int (fun _ _ => rfl)) (by kernel_rfl)) (pdss_cons (pds_set (i := 5) (pd_var (i := 2) (by kernel_rfl)) (by kernel_rfl)) (pdss_cons (pds_while (pdt_c cmp_lt (pd_var (i := 4) (by kernel_rfl)) (pd_var (i := 5) (by kernel_rfl))) (pdss_cons (pds_set (i := 6) (pd_fdiv (pd_add (pd_var (i := 4) (by kernel_rfl)) (pd_var (i := 5) (by kernel_rfl))) pd_int) (by kernel_rfl)) (pdss_one (pds_if (pdt_c cmp_gt (pd_call h_fee_in (Nat.le_of_ble_eq_true rfl) (by kernel_rfl) (pda_keep (pd_var (i := 0) (by kernel_rfl)) (pda_keep (pd_var (i := 1) (by kernel_rfl)) (pda_keep (pd_var (i := 6) (by kernel_rfl)) pda_nil)))) (pd_var (i := 3) (by kernel_rfl))) (pdss_one (pds_set (i := 5) (pd_var (i := 6) (by kernel_rfl)) (by kernel_rfl))) (pdss_one (pds_set (i := 4) (pd_add (pd_var (i := 6) (by kernel_rfl)) pd_int) (by kernel_rfl)))))) (fun _ => 100)) (pdss_one (pds_ret (pd_var (i := 4) (by kernel_rfl)))))))
abbrev s_first_unfair : Stmt := top 23
def N_first_unfair : List Str := ["tariff", "way", "steps", "k", "bound", "low", "fee", "step"]
def f_first_unfair : Env → So := sSeq (sUn [gN 1, gN 2] (eVar 0)) (sSeq (sFor (iR1 (aCons (eNrm (eBin subD (eN lenD (aCons (eNrm (eVar 2)) aNil)) (eC (.int 1)))) aNil)) (gN 3) (sSeq (sSet 4 (eMinG [7] (iSq (eSl (eVar 2) (oSome (eBin addD (eVar 3) (eC (.int 1)))) oNone)) (gN 7) tYesS (eBin ixD (eVar 7) (eC (.int 1))))) (sSeq (sSet 5 (eCall [.d, .d, .d, .d] sem_first_above (aCons (eFz (eVar 1)) (aCons (eFz (eBin ixD (eVar 2) (eVar 3))) (aCons (eFz (eBin subD (eBin ixD (eBin ixD (eVar 2) (eBin addD (eVar 3) (eC (.int 1)))) (eC (.int 0))) (eC (.int 1)))) (aCons (eFz (eVar 4)) aNil)))))) (sIf (tstB (eBin isNotD (eVar 5) (eC .none))) (sSeq (sSet 6 (eCall [.d, .d, .d] sem_fee_in (aCons (eFz (eVar 1)) (aCons (eFz (eBin ixD (eVar 2) (eVar 3))) (aCons (eFz (eVar 5)) aNil))))) (sFor (iSq (eSl (eVar 2) (oSome (eBin addD (eVar 3) (eC (.int 1)))) oNone)) (gN 7) (sIf (tstB (eBin ltD (eBin ixD (eVar 7) (eC (.int 1))) (eVar 6))) (sRet (eTup (aCons (eFz (eVar 5)) (aCons (eFz (eBin ixD (eVar 7) (eC (.int 0)))) aNil)))) sNx))) sNx)))) (sRet (eC .none)))
def sem_first_unfair : DefSem := semOf 8 [.d] f_first_unfair
theorem sc_first_unfair : FnScope N_first_unfair ["tariff"] (defScope s_first_unfair) := ⟨rfl, rfl, rfl, by decide +kernel, rfl, by decide +kernel, by decide +kernel⟩
theorem ok_first_unfair {G : GG} {c P : Addr} (t : Fr G) (h_fee_in : DefAt G "fee_in" 3 6 [.d, .d, .d] sem_fee_in) (h_first_above : DefAt G "first_above" 4 7 [.d, .d, .d, .d] sem_first_above) : PDSs ⟨G, N_first_unfair, defScope s_first_unfair, 4, fun _ => true, some (c, P)⟩ (defBody s_first_unfair) f_first_unfair :=
  pdss_cons (pds_un (vs := [1, 2]) (pd_var (i := 0) (by kernel_rfl)) (pdgc_tup (pdgs_cons (pdg_name (i := 1) (by kernel_rfl) (by decide)) (pdgs_cons (pdg_name (i := 2) (by kernel_rfl) (by decide)) pdgs_nil)))) (pdss_cons (pds_for (vs := [3]) (pdi_range1 (by kernel_rfl) t.f_range (pda_cons (pd_sub (pd_b bi_len (by kernel_rfl) t.f_len (pda_cons (pd_var (i := 2) (by kernel_rfl)) pda_nil)) pd_int) pda_nil)) (pdg_name (i := 3) (by kernel_rfl) (by decide)) (pdss_cons (pds_set (i := 4) (pd_minG (own := [("step", 7)]) (k := 3) rfl rfl (by kernel_rfl) t.f_min (by kernel_rfl) (pdi_seq (pd_sl (pd_var (i := 2) (by kernel_rfl)) (pdo_some (pd_add (pd_var (i := 3) (by kernel_rfl)) pd_int)) pdo_none)) (pdg_name (i := 7) (by kernel_rfl) (by decide)) pdts_nil (pd_ix (pd_var (i := 7) (by kernel_rfl)) pd_int (fun _ _ => rfl))) (by kernel_rfl)) (pdss_cons (pds_set (i := 5) (pd_call h_first_above (Nat.le_of_ble_eq_true rfl) (by kernel_rfl) (pda_keep (pd_var (i := 1) (by kernel_rfl)) (pda_keep (pd_ix (pd_var (i := 2) (by kernel_rfl)) (pd_var (i := 3) (by kernel_rfl)) (fun _ _ => rfl)) (pda_keep (pd_sub (pd_ix (pd_ix (pd_var (i := 2) (by kernel_rfl)) (pd_add (pd_var (i := 3) (by kernel_rfl)) pd_int) (fun _ _ => rfl)) pd_int (fun _ _ => rfl)) pd_int) (pda_keep (pd_var (i := 4) (by kernel_rfl)) pda_nil))))) (by kernel_rfl)) (pdss_one (pds_if (pdt_c cmp_isNot (pd_var (i := 5) (by kernel_rfl)) pd_non) (pdss_cons (pds_set (i := 6) (pd_call h_fee_in (Nat.le_of_ble_eq_true rfl) (by kernel_rfl) (pda_keep (pd_var (i := 1) (by kernel_rfl)) (pda_keep (pd_ix (pd_var (i := 2) (by kernel_rfl)) (pd_var (i := 3) (by kernel_rfl)) (fun _ _ => rfl)) (pda_keep (pd_var (i := 5) (by kernel_rfl)) pda_nil)))) (by kernel_rfl)) (pdss_one (pds_for (vs := [7]) (pdi_seq (pd_sl (pd_var (i := 2) (by kernel_rfl)) (pdo_some (pd_add (pd_var (i := 3) (by kernel_rfl)) pd_int)) pdo_none)) (pdg_name (i := 7) (by kernel_rfl) (by decide)) (pdss_one (pds_if (pdt_c cmp_lt (pd_ix (pd_var (i := 7) (by kernel_rfl)) pd_int (fun _ _ => rfl)) (pd_var (i := 6) (by kernel_rfl))) (pdss_one (pds_ret (pd_tup (pda_keep (pd_var (i := 5) (by kernel_rfl)) (pda_keep (pd_ix (pd_var (i := 7) (by kernel_rfl)) pd_int (fun _ _ => rfl)) pda_nil))))) pdss_nil))))) pdss_nil))))) (pdss_one (pds_ret pd_non)))
abbrev s__law_open : Stmt := top 25
def N__law_open : List Str := ["script", "cells", "cell"]
def f__law_open : Env → So := sSeq (sSet 1 (eLc [2] (iSq (eSc 0)) (gN 2) tYesS (eN absD (aCons (eNrm (eN intD (aCons (eNrm (eVar 2)) aNil))) aNil)))) (sRet (eLst (aCons (eFz (eC (.int 0))) (aCons (eFz (eC (.int 0))) (aCons (eFz (eBin addD (eVar 1) (eLst (aCons (eFz (eC (.int 0))) aNil)))) aNil)))))
def sem__law_open : DefSem := semOf 3 [.sc] f__law_open
theorem sc__law_open : FnScope N__law_open ["script"] (defScope s__law_open) := ⟨rfl, rfl, rfl, by decide +kernel, rfl, by decide +kernel, by decide +kernel⟩
theorem ok__law_open {G : GG} (t : Fr G)  : PDSs ⟨G, N__law_open, defScope s__law_open, 0, fun _ => true, none⟩ (defBody s__law_open) f__law_open :=
  pdss_cons (pds_setLc (i := 1) (own := [("cell", 2)]) (by kernel_rfl) (pdi_seq (pd_scSl (i := 0) (by kernel_rfl))) (by kernel_rfl) (pdg_name (i := 2) (by kernel_rfl) (by decide)) pdts_nil (pd_b bi_abs (by kernel_rfl) t.f_abs (pda_cons (pd_b bi_int (by kernel_rfl) t.f_int (pda_cons (pd_var (i := 2) (by kernel_rfl)) pda_nil)) pda_nil))) (pdss_one (pds_ret (pd_lst (pda_keep pd_int (pda_keep pd_int (pda_keep (pd_add (pd_var (i := 1) (by kernel_rfl)) (pd_lst (pda_keep pd_int pda_nil))) pda_nil))))))
abbrev s__law_mixed : Stmt := top 26
def N__law_mixed : List Str := ["cell", "turn", "number"]
def f__law_mixed : Env → So := sSeq (sSet 2 (eBin modD (eBin addD (eBin addD (eBin mulD (eBin modD (eVar 0) (eBin subD (eBin powD (eC (.int 2)) (eC (.int 61))) (eC (.int 1)))) (eC (.int 6364136223846793005))) (eBin mulD (eVar 1) (eC (.int 1442695040888963407)))) (eC (.int 97))) (eBin powD (eC (.int 2)) (eC (.int 61))))) (sSeq (sSet 2 (eBin modD (eBin mulD (eBin xorD (eVar 2) (eBin shrD (eVar 2) (eC (.int 29)))) (eC (.int 3935559000370003845))) (eBin powD (eC (.int 2)) (eC (.int 61))))) (sRet (eBin modD (eBin mulD (eBin xorD (eVar 2) (eBin shrD (eVar 2) (eC (.int 31)))) (eC (.int 2862933555777941757))) (eBin powD (eC (.int 2)) (eC (.int 61))))))
def sem__law_mixed : DefSem := semOf 3 [.d, .d] f__law_mixed
theorem sc__law_mixed : FnScope N__law_mixed ["cell", "turn"] (defScope s__law_mixed) := ⟨rfl, rfl, rfl, by decide +kernel, rfl, by decide +kernel, by decide +kernel⟩
theorem ok__law_mixed {G : GG} (t : Fr G)  : PDSs ⟨G, N__law_mixed, defScope s__law_mixed, 0, fun _ => true, none⟩ (defBody s__law_mixed) f__law_mixed :=
  pdss_cons (pds_set (i := 2) (pd_mod (pd_add (pd_add (pd_mul (pd_mod (pd_var (i := 0) (by kernel_rfl)) (pd_sub (pd_pow pd_int pd_int) pd_int)) pd_int) (pd_mul (pd_var (i := 1) (by kernel_rfl)) pd_int)) pd_int) (pd_pow pd_int pd_int)) (by kernel_rfl)) (pdss_cons (pds_set (i := 2) (pd_mod (pd_mul (pd_xor (pd_var (i := 2) (by kernel_rfl)) (pd_shr (pd_var (i := 2) (by kernel_rfl)) pd_int)) pd_int) (pd_pow pd_int pd_int)) (by kernel_rfl)) (pdss_one (pds_ret (pd_mod (pd_mul (pd_xor (pd_var (i := 2) (by kernel_rfl)) (pd_shr (pd_var (i := 2) (by kernel_rfl)) pd_int)) pd_int) (pd_pow pd_int pd_int)))))
abbrev s__law_draw : Stmt := top 27
def N__law_draw : List Str := ["draws", "size", "turn", "left", "cells", "cell"]
def f__law_draw : Env → So := sSeq (sUn [gN 2, gN 3, gN 4] (eVar 0)) (sSeq (sIf (tstB (eBin ltD (eVar 3) (eVar 1))) (sSeq (sSet 5 (eBin ixD (eVar 4) (eBin modD (eVar 2) (eN lenD (aCons (eNrm (eVar 4)) aNil))))) (sSeq (sSet 3 (eIf (tAndS (tstB (eBin ltD (eVar 2) (eN lenD (aCons (eNrm (eVar 4)) aNil)))) (tstB (eBin geD (eVar 5) (eBin powD (eC (.int 10)) (eC (.int 18)))))) (eVar 5) (eCall [.d, .d] sem__law_mixed (aCons (eFz (eVar 5)) (aCons (eFz (eVar 2)) aNil))))) (sSet 2 (eBin addD (eVar 2) (eC (.int 1)))))) sNx) (sSeq (sSub 0 (eC (.int 0)) (eVar 2)) (sSeq (sSub 0 (eC (.int 1)) (eBin fdivD (eVar 3) (eVar 1))) (sRet (eBin modD (eVar 3) (eVar 1))))))
def sem__law_draw : DefSem := semOf 6 [.io, .d] f__law_draw
theorem sc__law_draw : FnScope N__law_draw ["draws", "size"] (defScope s__law_draw) := ⟨rfl, rfl, rfl, by decide +kernel, rfl, by decide +kernel, by decide +kernel⟩
theorem ok__law_draw {G : GG} (t : Fr G) (h__law_mixed : DefAt G "_law_mixed" 1 3 [.d, .d] sem__law_mixed) : PDSs ⟨G, N__law_draw, defScope s__law_draw, 1, fun _ => true, none⟩ (defBody s__law_draw) f__law_draw :=
  pdss_cons (pds_un (vs := [2, 3, 4]) (pd_var (i := 0) (by kernel_rfl)) (pdgc_tup (pdgs_cons (pdg_name (i := 2) (by kernel_rfl) (by decide)) (pdgs_cons (pdg_name (i := 3) (by kernel_rfl) (by decide)) (pdgs_cons (pdg_name (i := 4) (by kernel_rfl) (by decide)) pdgs_nil))))) (pdss_cons (pds_if (pdt_c cmp_lt (pd_var (i := 3) (by kernel_rfl)) (pd_var (i := 1) (by kernel_rfl))) (pdss_cons (pds_set (i := 5) (pd_ix (pd_var (i := 4) (by kernel_rfl)) (pd_mod (pd_var (i := 2) (by kernel_rfl)) (pd_b bi_len (by kernel_rfl) t.f_len (pda_cons (pd_var (i := 4) (by kernel_rfl)) pda_nil))) (fun _ _ => rfl)) (by kernel_rfl)) (pdss_cons (pds_set (i := 3) (pd_if (PDW.t (pdw_and (pdt_c cmp_lt (pd_var (i := 2) (by kernel_rfl)) (pd_b bi_len (by kernel_rfl) t.f_len (pda_cons (pd_var (i := 4) (by kernel_rfl)) pda_nil))) (pdw_and1 (pdt_c cmp_ge (pd_var (i := 5) (by kernel_rfl)) (pd_pow pd_int pd_int))))) (pd_var (i := 5) (by kernel_rfl)) (pd_call h__law_mixed (Nat.le_of_ble_eq_true rfl) (by kernel_rfl) (pda_keep (pd_var (i := 5) (by kernel_rfl)) (pda_keep (pd_var (i := 2) (by kernel_rfl)) pda_nil)))) (by kernel_rfl)) (pdss_one (pds_set (i := 2) (pd_add (pd_var (i := 2) (by kernel_rfl)) pd_int) (by kernel_rfl))))) pdss_nil) (pdss_cons (pds_sub (i := 0) (by kernel_rfl) (pd_var (i := 2) (by kernel_rfl)) pd_int) (pdss_cons (pds_sub (i := 0) (by kernel_rfl) (pd_fdiv (pd_var (i := 3) (by kernel_rfl)) (pd_var (i := 1) (by kernel_rfl))) pd_int) (pdss_one (pds_ret (pd_mod (pd_var (i := 3) (by kernel_rfl)) (pd_var (i := 1) (by kernel_rfl))))))))
abbrev s__law_int : Stmt := top 28
def N__law_int : List Str := ["value"]
def f__law_int : Env → So := sRet (eAndB (eIsi "int" (eVar 0)) (eNotB (eIsi "bool" (eVar 0))))
def sem__law_int : DefSem := semOf 1 [.d] f__law_int
theorem sc__law_int : FnScope N__law_int ["value"] (defScope s__law_int) := ⟨rfl, rfl, rfl, by decide +kernel, rfl, by decide +kernel, by decide +kernel⟩
theorem ok__law_int {G : GG} (t : Fr G)  : PDSs ⟨G, N__law_int, defScope s__law_int, 0, fun _ => true, none⟩ (defBody s__law_int) f__law_int :=
  pdss_one (pds_ret (pd_and (pd_isi (by kernel_rfl) t.f_isinstance (by kernel_rfl) t.f_int (by decide +kernel) (by decide +kernel) (pd_var (i := 0) (by kernel_rfl))) (pd_one (pd_not (pd_isi (by kernel_rfl) t.f_isinstance (by kernel_rfl) t.f_bool (by decide +kernel) (by decide +kernel) (pd_var (i := 0) (by kernel_rfl)))))))
abbrev s__law_rate : Stmt := top 29
def N__law_rate : List Str := ["draws", "great", "whole", "part", "k", "turn", "one", "other", "rest"]
def f__law_rate : Env → So := sSeq (sSet 2 (eBin addD (eC (.int 1)) (eCall [.io, .d] sem__law_draw (aCons (eNrm (eVar 0)) (aCons (eFz (eIf (tstV (eVar 1)) (eC (.int 10000)) (eC (.int 9)))) aNil))))) (sSeq (sSet 3 (eCall [.io, .d] sem__law_draw (aCons (eNrm (eVar 0)) (aCons (eFz (eBin addD (eVar 2) (eC (.int 1)))) aNil)))) (sSeq (sFor (iR2 (aCons (eNrm (eC (.int 2))) (aCons (eNrm (eC (.int 101))) aNil))) (gN 4) (sFor (iR1 (aCons (eNrm (eC (.int 14))) aNil)) (gN 5) (sIf (tAndS (tstB (eBin eqD (eBin modD (eVar 3) (eVar 4)) (eC (.int 0)))) (tAndS (tstB (eBin eqD (eBin modD (eVar 2) (eVar 4)) (eC (.int 0)))) (tstB (eBin gtD (eVar 2) (eC (.int 1)))))) (sSeq (sSet 3 (eBin fdivD (eVar 3) (eVar 4))) (sSet 2 (eBin fdivD (eVar 2) (eVar 4)))) sNx))) (sSeq (sSet 6 (eVar 2)) (sSeq (sSet 7 (eVar 3)) (sSeq (sFor (iR1 (aCons (eNrm (eC (.int 40))) aNil)) (gN 5) (sSeq (sIf (tstB (eBin eqD (eVar 7) (eC (.int 0)))) sBk sNx) (sSeq (sSet 8 (eBin modD (eVar 6) (eVar 7))) (sSeq (sSet 6 (eVar 7)) (sSet 7 (eVar 8)))))) (sRet (eTup (aCons (eFz (eBin fdivD (eVar 3) (eVar 6))) (aCons (eFz (eBin fdivD (eVar 2) (eVar 6))) aNil)))))))))
def sem__law_rate : DefSem := semOf 9 [.io, .d] f__law_rate
theorem sc__law_rate : FnScope N__law_rate ["draws", "great"] (defScope s__law_rate) := ⟨rfl, rfl, rfl, by decide +kernel, rfl, by decide +kernel, by decide +kernel⟩
theorem ok__law_rate {G : GG} (t : Fr G) (h__law_draw : DefAt G "_law_draw" 2 6 [.io, .d] sem__law_draw) : PDSs ⟨G, N__law_rate, defScope s__law_rate, 2, fun _ => true, none⟩ (defBody s__law_rate) f__law_rate :=
  pdss_cons (pds_set (i := 2) (pd_add pd_int (pd_call h__law_draw (Nat.le_of_ble_eq_true rfl) (by kernel_rfl) (pda_cons (pd_var (i := 0) (by kernel_rfl)) (pda_keep (pd_if (pdt_truth (pd_var (i := 1) (by kernel_rfl))) pd_int pd_int) pda_nil)))) (by kernel_rfl)) (pdss_cons (pds_set (i := 3) (pd_call h__law_draw (Nat.le_of_ble_eq_true rfl) (by kernel_rfl) (pda_cons (pd_var (i := 0) (by kernel_rfl)) (pda_keep (pd_add (pd_var (i := 2) (by kernel_rfl)) pd_int) pda_nil))) (by kernel_rfl)) (pdss_cons (pds_for (vs := [4]) (pdi_range2 (by kernel_rfl) t.f_range (pda_cons pd_int (pda_cons pd_int pda_nil))) (pdg_name (i := 4) (by kernel_rfl) (by decide)) (pdss_one (pds_for (vs := [5]) (pdi_range1 (by kernel_rfl) t.f_range (pda_cons pd_int pda_nil)) (pdg_name (i := 5) (by kernel_rfl) (by decide)) (pdss_one (pds_if (PDW.t (pdw_and (pdt_c cmp_eq (pd_mod (pd_var (i := 3) (by kernel_rfl)) (pd_var (i := 4) (by kernel_rfl))) pd_int) (pdw_and (pdt_c cmp_eq (pd_mod (pd_var (i := 2) (by kernel_rfl)) (pd_var (i := 4) (by kernel_rfl))) pd_int) (pdw_and1 (pdt_c cmp_gt (pd_var (i := 2) (by kernel_rfl)) pd_int))))) (pdss_cons (pds_set (i := 3) (pd_fdiv (pd_var (i := 3) (by kernel_rfl)) (pd_var (i := 4) (by kernel_rfl))) (by kernel_rfl)) (pdss_one (pds_set (i := 2) (pd_fdiv (pd_var (i := 2) (by kernel_rfl)) (pd_var (i := 4) (by kernel_rfl))) (by kernel_rfl)))) pdss_nil))))) (pdss_cons (pds_set (i := 6) (pd_var (i := 2) (by kernel_rfl)) (by kernel_rfl)) (pdss_cons (pds_set (i := 7) (pd_var (i := 3) (by kernel_rfl)) (by kernel_rfl)) (pdss_cons (pds_for (vs := [5]) (pdi_range1 (by kernel_rfl) t.f_range (pda_cons pd_int pda_nil)) (pdg_name (i := 5) (by kernel_rfl) (by decide)) (pdss_cons (pds_if (pdt_c cmp_eq (pd_var (i := 7) (by kernel_rfl)) pd_int) (pdss_one pds_break) pdss_nil) (pdss_cons (pds_set (i := 8) (pd_mod (pd_var (i := 6) (by kernel_rfl)) (pd_var (i := 7) (by kernel_rfl))) (by kernel_rfl)) (pdss_cons (pds_set (i := 6) (pd_var (i := 7) (by kernel_rfl)) (by kernel_rfl)) (pdss_one (pds_set (i := 7) (pd_var (i := 8) (by kernel_rfl)) (by kernel_rfl))))))) (pdss_one (pds_ret (pd_tup (pda_keep (pd_fdiv (pd_var (i := 3) (by kernel_rfl)) (pd_var (i := 6) (by kernel_rfl))) (pda_keep (pd_fdiv (pd_var (i := 2) (by kernel_rfl)) (pd_var (i := 6) (by kernel_rfl))) pda_nil))))))))))
abbrev s__law_tariff : Stmt := top 30
def N__law_tariff : List Str := ["draws", "great", "many", "lows", "k", "low", "steps", "base"]
def f__law_tariff : Env → So := sSeq (sSet 1 (eBin eqD (eCall [.io, .d] sem__law_draw (aCons (eNrm (eVar 0)) (aCons (eFz (eC (.int 2))) aNil))) (eC (.int 1)))) (sSeq (sSet 2 (eBin addD (eC (.int 1)) (eCall [.io, .d] sem__law_draw (aCons (eNrm (eVar 0)) (aCons (eFz (eIf (tstV (eVar 1)) (eC (.int 12)) (eC (.int 6)))) aNil))))) (sSeq (sOwn 3 (eLst (aCons (eFz (eC (.int 0))) aNil))) (sSeq (sFor (iR1 (aCons (eNrm (eBin subD (eVar 2) (eC (.int 1)))) aNil)) (gN 4) (sSeq (sSet 5 (eBin addD (eC (.int 1)) (eCall [.io, .d] sem__law_draw (aCons (eNrm (eVar 0)) (aCons (eFz (eIf (tstV (eVar 1)) (eBin powD (eC (.int 10)) (eC (.int 12))) (eC (.int 48)))) aNil))))) (sIf (tstB (eBin notInD (eVar 5) (eVar 3))) (sDrop (eApp 3 (eVar 5))) sNx))) (sSeq (sOwn 6 (eLst aNil)) (sSeq (sSet 7 (eC (.int 0))) (sSeq (sFor (iSq (eN sortedD (aCons (eNrm (eVar 3)) aNil))) (gN 5) (sSeq (sSet 7 (eCall [.io, .d] sem__law_draw (aCons (eNrm (eVar 0)) (aCons (eFz (eIf (tstV (eVar 1)) (eBin addD (eBin powD (eC (.int 10)) (eC (.int 12))) (eC (.int 1))) (eC (.int 40)))) aNil)))) (sSeq (sIf (tAndS (tstV (eVar 1)) (tstB (eBin eqD (eCall [.io, .d] sem__law_draw (aCons (eNrm (eVar 0)) (aCons (eFz (eC (.int 2))) aNil))) (eC (.int 1))))) (sSet 7 (eN min2D (aCons (eNrm (eVar 5)) (aCons (eNrm (eBin powD (eC (.int 10)) (eC (.int 12)))) aNil)))) sNx) (sDrop (eApp 6 (eTup (aCons (eFz (eVar 5)) (aCons (eFz (eVar 7)) (aCons (eFz (eCall [.io, .d] sem__law_rate (aCons (eNrm (eVar 0)) (aCons (eFz (eVar 1)) aNil)))) aNil))))))))) (sRet (eTup (aCons (eFz (eTup (aCons (eFz (eBin ixD (eLst (aCons (eFz (eC (.str "down"))) (aCons (eFz (eC (.str "up"))) (aCons (eFz (eC (.str "near"))) aNil)))) (eCall [.io, .d] sem__law_draw (aCons (eNrm (eVar 0)) (aCons (eFz (eC (.int 3))) aNil))))) (aCons (eFz (eN tupleD (aCons (eNrm (eVar 6)) aNil))) aNil)))) (aCons (eFz (eVar 1)) aNil))))))))))
def sem__law_tariff : DefSem := semOf 8 [.io] f__law_tariff
theorem sc__law_tariff : FnScope N__law_tariff ["draws"] (defScope s__law_tariff) := ⟨rfl, rfl, rfl, by decide +kernel, rfl, by decide +kernel, by decide +kernel⟩
theorem ok__law_tariff {G : GG} (t : Fr G) (h__law_draw : DefAt G "_law_draw" 2 6 [.io, .d] sem__law_draw) (h__law_rate : DefAt G "_law_rate" 3 9 [.io, .d] sem__law_rate) : PDSs ⟨G, N__law_tariff, defScope s__law_tariff, 3, fun _ => true, none⟩ (defBody s__law_tariff) f__law_tariff :=
  pdss_cons (pds_set (i := 1) (pd_c cmp_eq (pd_call h__law_draw (Nat.le_of_ble_eq_true rfl) (by kernel_rfl) (pda_cons (pd_var (i := 0) (by kernel_rfl)) (pda_keep pd_int pda_nil))) pd_int) (by kernel_rfl)) (pdss_cons (pds_set (i := 2) (pd_add pd_int (pd_call h__law_draw (Nat.le_of_ble_eq_true rfl) (by kernel_rfl) (pda_cons (pd_var (i := 0) (by kernel_rfl)) (pda_keep (pd_if (pdt_truth (pd_var (i := 1) (by kernel_rfl))) pd_int pd_int) pda_nil)))) (by kernel_rfl)) (pdss_cons (pds_own (i := 3) (pd_lst (pda_keep pd_int pda_nil)) (by kernel_rfl)) (pdss_cons (pds_for (vs := [4]) (pdi_range1 (by kernel_rfl) t.f_range (pda_cons (pd_sub (pd_var (i := 2) (by kernel_rfl)) pd_int) pda_nil)) (pdg_name (i := 4) (by kernel_rfl) (by decide)) (pdss_cons (pds_set (i := 5) (pd_add pd_int (pd_call h__law_draw (Nat.le_of_ble_eq_true rfl) (by kernel_rfl) (pda_cons (pd_var (i := 0) (by kernel_rfl)) (pda_keep (pd_if (pdt_truth (pd_var (i := 1) (by kernel_rfl))) (pd_pow pd_int pd_int) pd_int) pda_nil)))) (by kernel_rfl)) (pdss_one (pds_if (pdt_c cmp_notIn (pd_var (i := 5) (by kernel_rfl)) (pd_var (i := 3) (by kernel_rfl))) (pdss_one (pds_drop (pd_app (i := 3) (by kernel_rfl) (pd_var (i := 5) (by kernel_rfl))))) pdss_nil)))) (pdss_cons (pds_own (i := 6) (pd_lst pda_nil) (by kernel_rfl)) (pdss_cons (pds_set (i := 7) pd_int (by kernel_rfl)) (pdss_cons (pds_for (vs := [5]) (pdi_seq (pd_b bi_sorted (by kernel_rfl) t.f_sorted (pda_cons (pd_var (i := 3) (by kernel_rfl)) pda_nil))) (pdg_name (i := 5) (by kernel_rfl) (by decide)) (pdss_cons (pds_set (i := 7) (pd_call h__law_draw (Nat.le_of_ble_eq_true rfl) (by kernel_rfl) (pda_cons (pd_var (i := 0) (by kernel_rfl)) (pda_keep (pd_if (pdt_truth (pd_var (i := 1) (by kernel_rfl))) (pd_add (pd_pow pd_int pd_int) pd_int) pd_int) pda_nil))) (by kernel_rfl)) (pdss_cons (pds_if (PDW.t (pdw_and (pdt_truth (pd_var (i := 1) (by kernel_rfl))) (pdw_and1 (pdt_c cmp_eq (pd_call h__law_draw (Nat.le_of_ble_eq_true rfl) (by kernel_rfl) (pda_cons (pd_var (i := 0) (by kernel_rfl)) (pda_keep pd_int pda_nil))) pd_int)))) (pdss_one (pds_set (i := 7) (pd_b bi_min2 (by kernel_rfl) t.f_min (pda_cons (pd_var (i := 5) (by kernel_rfl)) (pda_cons (pd_pow pd_int pd_int) pda_nil))) (by kernel_rfl))) pdss_nil) (pdss_one (pds_drop (pd_app (i := 6) (by kernel_rfl) (pd_tup (pda_keep (pd_var (i := 5) (by kernel_rfl)) (pda_keep (pd_var (i := 7) (by kernel_rfl)) (pda_keep (pd_call h__law_rate (Nat.le_of_ble_eq_true rfl) (by kernel_rfl) (pda_cons (pd_var (i := 0) (by kernel_rfl)) (pda_keep (pd_var (i := 1) (by kernel_rfl)) pda_nil))) pda_nil)))))))))) (pdss_one (pds_ret (pd_tup (pda_keep (pd_tup (pda_keep (pd_ix (pd_lst (pda_keep (pd_str (by kernel_rfl)) (pda_keep (pd_str (by kernel_rfl)) (pda_keep (pd_str (by kernel_rfl)) pda_nil)))) (pd_call h__law_draw (Nat.le_of_ble_eq_true rfl) (by kernel_rfl) (pda_cons (pd_var (i := 0) (by kernel_rfl)) (pda_keep pd_int pda_nil))) (fun _ _ => rfl)) (pda_keep (pd_b bi_tuple (by kernel_rfl) t.f_tuple (pda_cons (pd_var (i := 6) (by kernel_rfl)) pda_nil)) pda_nil))) (pda_keep (pd_var (i := 1) (by kernel_rfl)) pda_nil)))))))))))
abbrev s__law_fee : Stmt := top 31
def N__law_fee : List Str := ["tariff", "value", "way", "steps", "low", "base", "rate", "exact", "number", "rest", "step"]
def f__law_fee : Env → So := sSeq (sUn [gN 2, gN 3] (eVar 0)) (sSeq (sUn [gN 4, gN 5, gN 6] (eBin ixD (eLc [10] (iSq (eVar 3)) (gN 10) (tstB (eBin leD (eBin ixD (eVar 10) (eC (.int 0))) (eVar 1))) (eVar 10)) (eUn negD (eC (.int 1))))) (sSeq (sSet 7 (eBin mulD (eBin ixD (eVar 6) (eC (.int 0))) (eBin subD (eVar 1) (eVar 4)))) (sSeq (sSet 8 (eBin fdivD (eVar 7) (eBin ixD (eVar 6) (eC (.int 1))))) (sSeq (sSet 9 (eBin subD (eVar 7) (eBin mulD (eVar 8) (eBin ixD (eVar 6) (eC (.int 1)))))) (sSeq (sIf (tAndS (tstB (eBin eqD (eVar 2) (eC (.str "up")))) (tstB (eBin gtD (eVar 9) (eC (.int 0))))) (sSet 8 (eBin addD (eVar 8) (eC (.int 1)))) sNx) (sSeq (sIf (tAndS (tstB (eBin eqD (eVar 2) (eC (.str "near")))) (tOrS (tstB (eBin gtD (eBin mulD (eC (.int 2)) (eVar 9)) (eBin ixD (eVar 6) (eC (.int 1))))) (tAndS (tstB (eBin eqD (eBin mulD (eC (.int 2)) (eVar 9)) (eBin ixD (eVar 6) (eC (.int 1))))) (tstB (eBin eqD (eBin modD (eVar 8) (eC (.int 2))) (eC (.int 1))))))) (sSet 8 (eBin addD (eVar 8) (eC (.int 1)))) sNx) (sRet (eBin addD (eVar 5) (eVar 8)))))))))
def sem__law_fee : DefSem := semOf 11 [.d, .d] f__law_fee
theorem sc__law_fee : FnScope N__law_fee ["tariff", "value"] (defScope s__law_fee) := ⟨rfl, rfl, rfl, by decide +kernel, rfl, by decide +kernel, by decide +kernel⟩
theorem ok__law_fee {G : GG} (t : Fr G)  : PDSs ⟨G, N__law_fee, defScope s__law_fee, 0, fun _ => true, none⟩ (defBody s__law_fee) f__law_fee :=
  pdss_cons (pds_un (vs := [2, 3]) (pd_var (i := 0) (by kernel_rfl)) (pdgc_tup (pdgs_cons (pdg_name (i := 2) (by kernel_rfl) (by decide)) (pdgs_cons (pdg_name (i := 3) (by kernel_rfl) (by decide)) pdgs_nil)))) (pdss_cons (pds_un (vs := [4, 5, 6]) (pd_ix (pd_lc (own := [("step", 10)]) (pdi_seq (pd_var (i := 3) (by kernel_rfl))) (by kernel_rfl) (pdg_name (i := 10) (by kernel_rfl) (by decide)) (pdts_one (pdt_c cmp_le (pd_ix (pd_var (i := 10) (by kernel_rfl)) pd_int (fun _ _ => rfl)) (pd_var (i := 1) (by kernel_rfl)))) (pd_var (i := 10) (by kernel_rfl))) (pd_neg pd_int) (fun _ _ => rfl)) (pdgc_tup (pdgs_cons (pdg_name (i := 4) (by kernel_rfl) (by decide)) (pdgs_cons (pdg_name (i := 5) (by kernel_rfl) (by decide)) (pdgs_cons (pdg_name (i := 6) (by kernel_rfl) (by decide)) pdgs_nil))))) (pdss_cons (pds_set (i := 7) (pd_mul (pd_ix (pd_var (i := 6) (by kernel_rfl)) pd_int (fun _ _ => rfl)) (pd_sub (pd_var (i := 1) (by kernel_rfl)) (pd_var (i := 4) (by kernel_rfl)))) (by kernel_rfl)) (pdss_cons (pds_set (i := 8) (pd_fdiv (pd_var (i := 7) (by kernel_rfl)) (pd_ix (pd_var (i := 6) (by kernel_rfl)) pd_int (fun _ _ => rfl))) (by kernel_rfl)) (pdss_cons (pds_set (i := 9) (pd_sub (pd_var (i := 7) (by kernel_rfl)) (pd_mul (pd_var (i := 8) (by kernel_rfl)) (pd_ix (pd_var (i := 6) (by kernel_rfl)) pd_int (fun _ _ => rfl)))) (by kernel_rfl)) (pdss_cons (pds_if (PDW.t (pdw_and (pdt_c cmp_eq (pd_var (i := 2) (by kernel_rfl)) (pd_str (by kernel_rfl))) (pdw_and1 (pdt_c cmp_gt (pd_var (i := 9) (by kernel_rfl)) pd_int)))) (pdss_one (pds_set (i := 8) (pd_add (pd_var (i := 8) (by kernel_rfl)) pd_int) (by kernel_rfl))) pdss_nil) (pdss_cons (pds_if (PDW.t (pdw_and (pdt_c cmp_eq (pd_var (i := 2) (by kernel_rfl)) (pd_str (by kernel_rfl))) (pdw_and1 (PDW.t (pdw_or (pdt_c cmp_gt (pd_mul pd_int (pd_var (i := 9) (by kernel_rfl))) (pd_ix (pd_var (i := 6) (by kernel_rfl)) pd_int (fun _ _ => rfl))) (pdw_or1 (PDW.t (pdw_and (pdt_c cmp_eq (pd_mul pd_int (pd_var (i := 9) (by kernel_rfl))) (pd_ix (pd_var (i := 6) (by kernel_rfl)) pd_int (fun _ _ => rfl))) (pdw_and1 (pdt_c cmp_eq (pd_mod (pd_var (i := 8) (by kernel_rfl)) pd_int) pd_int)))))))))) (pdss_one (pds_set (i := 8) (pd_add (pd_var (i := 8) (by kernel_rfl)) pd_int) (by kernel_rfl))) pdss_nil) (pdss_one (pds_ret (pd_add (pd_var (i := 5) (by kernel_rfl)) (pd_var (i := 8) (by kernel_rfl)))))))))))
abbrev s__law_all_pairs : Stmt := top 32
def N__law_all_pairs : List Str := ["tariff", "fees", "low", "high", "value"]
def f__law_all_pairs : Env → So := sSeq (sSet 1 (eLc [4] (iR1 (aCons (eNrm (eC (.int 60))) aNil)) (gN 4) tYesS (eCall [.d, .d] sem__law_fee (aCons (eFz (eVar 0)) (aCons (eFz (eVar 4)) aNil))))) (sSeq (sFor (iR1 (aCons (eNrm (eC (.int 60))) aNil)) (gN 2) (sFor (iR2 (aCons (eNrm (eBin addD (eVar 2) (eC (.int 1)))) (aCons (eNrm (eC (.int 60))) aNil))) (gN 3) (sIf (tstB (eBin gtD (eBin ixD (eVar 1) (eVar 2)) (eBin ixD (eVar 1) (eVar 3)))) (sRet (eTup (aCons (eFz (eVar 2)) (aCons (eFz (eVar 3)) aNil)))) sNx))) (sRet (eC .none)))
def sem__law_all_pairs : DefSem := semOf 5 [.d] f__law_all_pairs
theorem sc__law_all_pairs : FnScope N__law_all_pairs ["tariff"] (defScope s__law_all_pairs) := ⟨rfl, rfl, rfl, by decide +kernel, rfl, by decide +kernel, by decide +kernel⟩
theorem ok__law_all_pairs {G : GG} (t : Fr G) (h__law_fee : DefAt G "_law_fee" 1 11 [.d, .d] sem__law_fee) : PDSs ⟨G, N__law_all_pairs, defScope s__law_all_pairs, 1, fun _ => true, none⟩ (defBody s__law_all_pairs) f__law_all_pairs :=
  pdss_cons (pds_setLc (i := 1) (own := [("value", 4)]) (by kernel_rfl) (pdi_range1 (by kernel_rfl) t.f_range (pda_cons pd_int pda_nil)) (by kernel_rfl) (pdg_name (i := 4) (by kernel_rfl) (by decide)) pdts_nil (pd_call h__law_fee (Nat.le_of_ble_eq_true rfl) (by kernel_rfl) (pda_keep (pd_var (i := 0) (by kernel_rfl)) (pda_keep (pd_var (i := 4) (by kernel_rfl)) pda_nil)))) (pdss_cons (pds_for (vs := [2]) (pdi_range1 (by kernel_rfl) t.f_range (pda_cons pd_int pda_nil)) (pdg_name (i := 2) (by kernel_rfl) (by decide)) (pdss_one (pds_for (vs := [3]) (pdi_range2 (by kernel_rfl) t.f_range (pda_cons (pd_add (pd_var (i := 2) (by kernel_rfl)) pd_int) (pda_cons pd_int pda_nil))) (pdg_name (i := 3) (by kernel_rfl) (by decide)) (pdss_one (pds_if (pdt_c cmp_gt (pd_ix (pd_var (i := 1) (by kernel_rfl)) (pd_var (i := 2) (by kernel_rfl)) (fun _ _ => rfl)) (pd_ix (pd_var (i := 1) (by kernel_rfl)) (pd_var (i := 3) (by kernel_rfl)) (fun _ _ => rfl))) (pdss_one (pds_ret (pd_tup (pda_keep (pd_var (i := 2) (by kernel_rfl)) (pda_keep (pd_var (i := 3) (by kernel_rfl)) pda_nil))))) pdss_nil))))) (pdss_one (pds_ret pd_non)))
abbrev s__law_highs : Stmt := top 33
def N__law_highs : List Str := ["tariff", "low", "fee", "step"]
def f__law_highs : Env → So := sSeq (sSet 2 (eCall [.d, .d] sem__law_fee (aCons (eFz (eVar 0)) (aCons (eFz (eVar 1)) aNil)))) (sSeq (sFor (iSq (eBin ixD (eVar 0) (eC (.int 1)))) (gN 3) (sIf (tAndS (tstB (eBin gtD (eBin ixD (eVar 3) (eC (.int 0))) (eVar 1))) (tstB (eBin ltD (eBin ixD (eVar 3) (eC (.int 1))) (eVar 2)))) (sRet (eBin ixD (eVar 3) (eC (.int 0)))) sNx)) (sRet (eC .none)))
def sem__law_highs : DefSem := semOf 4 [.d, .d] f__law_highs
theorem sc__law_highs : FnScope N__law_highs ["tariff", "low"] (defScope s__law_highs) := ⟨rfl, rfl, rfl, by decide +kernel, rfl, by decide +kernel, by decide +kernel⟩
theorem ok__law_highs {G : GG} (t : Fr G) (h__law_fee : DefAt G "_law_fee" 1 11 [.d, .d] sem__law_fee) : PDSs ⟨G, N__law_highs, defScope s__law_highs, 1, fun _ => true, none⟩ (defBody s__law_highs) f__law_highs :=
  pdss_cons (pds_set (i := 2) (pd_call h__law_fee (Nat.le_of_ble_eq_true rfl) (by kernel_rfl) (pda_keep (pd_var (i := 0) (by kernel_rfl)) (pda_keep (pd_var (i := 1) (by kernel_rfl)) pda_nil))) (by kernel_rfl)) (pdss_cons (pds_for (vs := [3]) (pdi_seq (pd_ix (pd_var (i := 0) (by kernel_rfl)) pd_int (fun _ _ => rfl))) (pdg_name (i := 3) (by kernel_rfl) (by decide)) (pdss_one (pds_if (PDW.t (pdw_and (pdt_c cmp_gt (pd_ix (pd_var (i := 3) (by kernel_rfl)) pd_int (fun _ _ => rfl)) (pd_var (i := 1) (by kernel_rfl))) (pdw_and1 (pdt_c cmp_lt (pd_ix (pd_var (i := 3) (by kernel_rfl)) pd_int (fun _ _ => rfl)) (pd_var (i := 2) (by kernel_rfl)))))) (pdss_one (pds_ret (pd_ix (pd_var (i := 3) (by kernel_rfl)) pd_int (fun _ _ => rfl)))) pdss_nil))) (pdss_one (pds_ret pd_non)))
abbrev s__law_great_pair : Stmt := top 34
def N__law_great_pair : List Str := ["tariff", "told", "steps", "bound", "step", "low", "high"]
def f__law_great_pair : Env → So := sSeq (sSet 2 (eBin ixD (eVar 0) (eC (.int 1)))) (sSeq (sSet 3 (eIf (tstB (eBin isD (eVar 1) (eC .none))) (eBin powD (eC (.int 10)) (eC (.int 12))) (eBin ixD (eVar 1) (eC (.int 0))))) (sSeq (sFor (iSq (eSl (eVar 2) (oSome (eC (.int 1))) oNone)) (gN 4) (sIf (tAndS (tstB (eBin leD (eBin ixD (eVar 4) (eC (.int 0))) (eVar 3))) (tAndS (tstB (eBin isNotD (eCall [.d, .d] sem__law_highs (aCons (eFz (eVar 0)) (aCons (eFz (eBin subD (eBin ixD (eVar 4) (eC (.int 0))) (eC (.int 1)))) aNil))) (eC .none))) (tOrS (tstB (eBin isD (eVar 1) (eC .none))) (tstB (eBin ltD (eBin subD (eBin ixD (eVar 4) (eC (.int 0))) (eC (.int 1))) (eBin ixD (eVar 1) (eC (.int 0)))))))) (sRet (eC (.bool false))) sNx)) (sSeq (sIf (tstB (eBin isD (eVar 1) (eC .none))) (sRet (eC (.bool true))) sNx) (sSeq (sIf (tOrS (tNotS (tstV (eIsi "tuple" (eVar 1)))) (tOrS (tstB (eBin neD (eN lenD (aCons (eNrm (eVar 1)) aNil)) (eC (.int 2)))) (tOrS (tNotS (tstV (eCall [.d] sem__law_int (aCons (eFz (eBin ixD (eVar 1) (eC (.int 0)))) aNil)))) (tNotS (tstV (eCall [.d] sem__law_int (aCons (eFz (eBin ixD (eVar 1) (eC (.int 1)))) aNil))))))) (sRet (eC (.bool false))) sNx) (sSeq (sUn [gN 5, gN 6] (eVar 1)) (sSeq (sIf (tOrS (tNotS (tstB (eCh2 leD ltD (eC (.int 0)) (eVar 5) (eVar 6)))) (tstB (eBin neD (eCall [.d, .d] sem__law_highs (aCons (eFz (eVar 0)) (aCons (eFz (eVar 5)) aNil))) (eVar 6)))) (sRet (eC (.bool false))) sNx) (sRet (eOrB (eBin inD (eVar 5) (eLc [4] (iSq (eVar 2)) (gN 4) tYesS (eBin ixD (eVar 4) (eC (.int 0))))) (eBin isD (eCall [.d, .d] sem__law_highs (aCons (eFz (eVar 0)) (aCons (eFz (eBin subD (eVar 5) (eC (.int 1)))) aNil))) (eC .none))))))))))
def sem__law_great_pair : DefSem := semOf 7 [.d, .d] f__law_great_pair
theorem sc__law_great_pair : FnScope N__law_great_pair ["tariff", "told"] (defScope s__law_great_pair) := ⟨rfl, rfl, rfl, by decide +kernel, rfl, by decide +kernel, by decide +kernel⟩
theorem ok__law_great_pair {G : GG} (t : Fr G) (h__law_int : DefAt G "_law_int" 1 1 [.d] sem__law_int) (h__law_highs : DefAt G "_law_highs" 2 4 [.d, .d] sem__law_highs) : PDSs ⟨G, N__law_great_pair, defScope s__law_great_pair, 2, fun _ => true, none⟩ (defBody s__law_great_pair) f__law_great_pair :=
  pdss_cons (pds_set (i := 2) (pd_ix (pd_var (i := 0) (by kernel_rfl)) pd_int (fun _ _ => rfl)) (by kernel_rfl)) (pdss_cons (pds_set (i := 3) (pd_if (pdt_c cmp_is (pd_var (i := 1) (by kernel_rfl)) pd_non) (pd_pow pd_int pd_int) (pd_ix (pd_var (i := 1) (by kernel_rfl)) pd_int (fun _ _ => rfl))) (by kernel_rfl)) (pdss_cons (pds_for (vs := [4]) (pdi_seq (pd_sl (pd_var (i := 2) (by kernel_rfl)) (pdo_some pd_int) pdo_none)) (pdg_name (i := 4) (by kernel_rfl) (by decide)) (pdss_one (pds_if (PDW.t (pdw_and (pdt_c cmp_le (pd_ix (pd_var (i := 4) (by kernel_rfl)) pd_int (fun _ _ => rfl)) (pd_var (i := 3) (by kernel_rfl))) (pdw_and (pdt_c cmp_isNot (pd_call h__law_highs (Nat.le_of_ble_eq_true rfl) (by kernel_rfl) (pda_keep (pd_var (i := 0) (by kernel_rfl)) (pda_keep (pd_sub (pd_ix (pd_var (i := 4) (by kernel_rfl)) pd_int (fun _ _ => rfl)) pd_int) pda_nil))) pd_non) (pdw_and1 (PDW.t (pdw_or (pdt_c cmp_is (pd_var (i := 1) (by kernel_rfl)) pd_non) (pdw_or1 (pdt_c cmp_lt (pd_sub (pd_ix (pd_var (i := 4) (by kernel_rfl)) pd_int (fun _ _ => rfl)) pd_int) (pd_ix (pd_var (i := 1) (by kernel_rfl)) pd_int (fun _ _ => rfl)))))))))) (pdss_one (pds_ret pd_bl)) pdss_nil))) (pdss_cons (pds_if (pdt_c cmp_is (pd_var (i := 1) (by kernel_rfl)) pd_non) (pdss_one (pds_ret pd_bl)) pdss_nil) (pdss_cons (pds_if (PDW.t (pdw_or (pdt_not (pdt_truth (pd_isi (by kernel_rfl) t.f_isinstance (by kernel_rfl) t.f_tuple (by decide +kernel) (by decide +kernel) (pd_var (i := 1) (by kernel_rfl))))) (pdw_or (pdt_c cmp_ne (pd_b bi_len (by kernel_rfl) t.f_len (pda_cons (pd_var (i := 1) (by kernel_rfl)) pda_nil)) pd_int) (pdw_or (pdt_not (pdt_truth (pd_call h__law_int (Nat.le_of_ble_eq_true rfl) (by kernel_rfl) (pda_keep (pd_ix (pd_var (i := 1) (by kernel_rfl)) pd_int (fun _ _ => rfl)) pda_nil)))) (pdw_or1 (pdt_not (pdt_truth (pd_call h__law_int (Nat.le_of_ble_eq_true rfl) (by kernel_rfl) (pda_keep (pd_ix (pd_var (i := 1) (by kernel_rfl)) pd_int (fun _ _ => rfl)) pda_nil))))))))) (pdss_one (pds_ret pd_bl)) pdss_nil) (pdss_cons (pds_un (vs := [5, 6]) (pd_var (i := 1) (by kernel_rfl)) (pdgc_tup (pdgs_cons (pdg_name (i := 5) (by kernel_rfl) (by decide)) (pdgs_cons (pdg_name (i := 6) (by kernel_rfl) (by decide)) pdgs_nil)))) (pdss_cons (pds_if (PDW.t (pdw_or (pdt_not (pdt_c2 cmp_le cmp_lt pd_int (pd_var (i := 5) (by kernel_rfl)) (pd_var (i := 6) (by kernel_rfl)))) (pdw_or1 (pdt_c cmp_ne (pd_call h__law_highs (Nat.le_of_ble_eq_true rfl) (by kernel_rfl) (pda_keep (pd_var (i := 0) (by kernel_rfl)) (pda_keep (pd_var (i := 5) (by kernel_rfl)) pda_nil))) (pd_var (i := 6) (by kernel_rfl)))))) (pdss_one (pds_ret pd_bl)) pdss_nil) (pdss_one (pds_ret (pd_or (pd_c cmp_in (pd_var (i := 5) (by kernel_rfl)) (pd_lc (own := [("step", 4)]) (pdi_seq (pd_var (i := 2) (by kernel_rfl))) (by kernel_rfl) (pdg_name (i := 4) (by kernel_rfl) (by decide)) pdts_nil (pd_ix (pd_var (i := 4) (by kernel_rfl)) pd_int (fun _ _ => rfl)))) (pd_one (pd_c cmp_is (pd_call h__law_highs (Nat.le_of_ble_eq_true rfl) (by kernel_rfl) (pda_keep (pd_var (i := 0) (by kernel_rfl)) (pda_keep (pd_sub (pd_var (i := 5) (by kernel_rfl)) pd_int) pda_nil))) pd_non)))))))))))
abbrev s__law_wrong : Stmt := top 35
def N__law_wrong : List Str := ["tariff", "draws", "way", "steps", "low", "base", "rate", "first", "wrong", "value", "k"]
def f__law_wrong : Env → So := sSeq (sUn [gN 2, gN 3] (eVar 0)) (sSeq (sUn [gN 4, gN 5, gN 6] (eBin ixD (eVar 3) (eUn negD (eC (.int 1))))) (sSeq (sSet 7 (eSl (eVar 3) oNone (oSome (eUn negD (eC (.int 1)))))) (sSeq (sSet 8 (eLst (aCons (eFz (eTup (aCons (eFz (eC (.str "Down"))) (aCons (eFz (eVar 3)) aNil)))) (aCons (eFz (eTup (aCons (eFz (eC .none)) (aCons (eFz (eVar 3)) aNil)))) (aCons (eFz (eTup (aCons (eFz (eVar 2)) (aCons (eFz (eN listD (aCons (eNrm (eVar 3)) aNil))) aNil)))) (aCons (eFz (eTup (aCons (eFz (eVar 2)) (aCons (eFz (eTup aNil)) aNil)))) (aCons (eFz (eTup (aCons (eFz (eVar 2)) (aCons (eFz (eVar 3)) (aCons (eFz (eC (.int 0))) aNil))))) (aCons (eFz (eLst (aCons (eFz (eVar 2)) (aCons (eFz (eVar 3)) aNil)))) (aCons (eFz (eVar 2)) (aCons (eFz (eC .none)) (aCons (eFz (eTup (aCons (eFz (eVar 2)) (aCons (eFz (eBin addD (eVar 7) (eTup (aCons (eFz (eTup (aCons (eFz (eVar 4)) (aCons (eFz (eVar 5)) (aCons (eFz (eTup (aCons (eFz (eC (.int 2))) (aCons (eFz (eC (.int 4))) aNil)))) aNil))))) aNil)))) aNil)))) (aCons (eFz (eTup (aCons (eFz (eVar 2)) (aCons (eFz (eBin addD (eVar 7) (eTup (aCons (eFz (eTup (aCons (eFz (eVar 4)) (aCons (eFz (eVar 5)) (aCons (eFz (eTup (aCons (eFz (eC (.int 3))) (aCons (eFz (eC (.int 2))) aNil)))) aNil))))) aNil)))) aNil)))) (aCons (eFz (eTup (aCons (eFz (eVar 2)) (aCons (eFz (eBin addD (eVar 7) (eTup (aCons (eFz (eTup (aCons (eFz (eVar 4)) (aCons (eFz (eVar 5)) aNil)))) aNil)))) aNil)))) (aCons (eFz (eTup (aCons (eFz (eVar 2)) (aCons (eFz (eBin addD (eVar 7) (eTup (aCons (eFz (eTup (aCons (eFz (eVar 4)) (aCons (eFz (eVar 5)) (aCons (eFz (eTup (aCons (eFz (eC (.int 1))) (aCons (eFz (eC (.int 10001))) aNil)))) aNil))))) aNil)))) aNil)))) (aCons (eFz (eTup (aCons (eFz (eVar 2)) (aCons (eFz (eBin addD (eVar 7) (eTup (aCons (eFz (eTup (aCons (eFz (eVar 4)) (aCons (eFz (eUn negD (eC (.int 1)))) (aCons (eFz (eVar 6)) aNil))))) aNil)))) aNil)))) (aCons (eFz (eTup (aCons (eFz (eVar 2)) (aCons (eFz (eBin addD (eVar 7) (eTup (aCons (eFz (eLst (aCons (eFz (eVar 4)) (aCons (eFz (eVar 5)) (aCons (eFz (eVar 6)) aNil))))) aNil)))) aNil)))) (aCons (eFz (eTup (aCons (eFz (eVar 2)) (aCons (eFz (eBin addD (eVar 7) (eTup (aCons (eFz (eTup (aCons (eFz (eVar 4)) (aCons (eFz (eBin addD (eBin powD (eC (.int 10)) (eC (.int 12))) (eC (.int 1)))) (aCons (eFz (eVar 6)) aNil))))) aNil)))) aNil)))) (aCons (eFz (eTup (aCons (eFz (eVar 2)) (aCons (eFz (eBin addD (eVar 7) (eTup (aCons (eFz (eTup (aCons (eFz (eVar 4)) (aCons (eFz (eC (.bool true))) (aCons (eFz (eVar 6)) aNil))))) aNil)))) aNil)))) (aCons (eFz (eTup (aCons (eFz (eVar 2)) (aCons (eFz (eBin addD (eVar 3) (eTup (aCons (eFz (eTup (aCons (eFz (eVar 4)) (aCons (eFz (eVar 5)) (aCons (eFz (eVar 6)) aNil))))) aNil)))) aNil)))) (aCons (eFz (eTup (aCons (eFz (eVar 2)) (aCons (eFz (eTup (aCons (eFz (eTup (aCons (eFz (eC (.int 1))) (aCons (eFz (eVar 5)) (aCons (eFz (eVar 6)) aNil))))) aNil))) aNil)))) (aCons (eFz (eTup (aCons (eFz (eVar 2)) (aCons (eFz (eBin addD (eVar 3) (eTup (aCons (eFz (eTup (aCons (eFz (eBin addD (eBin powD (eC (.int 10)) (eC (.int 12))) (eC (.int 1)))) (aCons (eFz (eVar 5)) (aCons (eFz (eVar 6)) aNil))))) aNil)))) aNil)))) (aCons (eFz (eTup (aCons (eFz (eVar 2)) (aCons (eFz (eBin addD (eVar 7) (eTup (aCons (eFz (eTup (aCons (eFz (eVar 4)) (aCons (eFz (eVar 5)) (aCons (eFz (eTup (aCons (eFz (eUn negD (eC (.int 1)))) (aCons (eFz (eC (.int 2))) aNil)))) aNil))))) aNil)))) aNil)))) aNil)))))))))))))))))))))) (sSeq (sFor (iSq (eVar 8)) (gN 9) (sIf (tstB (eBin isNotD (eCall [.d] sem_is_tariff (aCons (eFz (eVar 9)) aNil)) (eC (.bool false)))) (sRet (eC (.bool false))) sNx)) (sRet (eAndB (eBin isD (eCall [.d] sem_is_tariff (aCons (eFz (eTup (aCons (eFz (eVar 2)) (aCons (eFz (eN tupleD (aCons (eNrm (eLc [10] (iR1 (aCons (eNrm (eC (.int 12))) aNil)) (gN 10) tYesS (eTup (aCons (eFz (eVar 10)) (aCons (eFz (eVar 5)) (aCons (eFz (eVar 6)) aNil)))))) aNil))) aNil)))) aNil)) (eC (.bool true))) (eBin isD (eCall [.d] sem_is_tariff (aCons (eFz (eTup (aCons (eFz (eVar 2)) (aCons (eFz (eN tupleD (aCons (eNrm (eLc [10] (iR1 (aCons (eNrm (eC (.int 13))) aNil)) (gN 10) tYesS (eTup (aCons (eFz (eVar 10)) (aCons (eFz (eVar 5)) (aCons (eFz (eVar 6)) aNil)))))) aNil))) aNil)))) aNil)) (eC (.bool false)))))))))
def sem__law_wrong : DefSem := semOf 11 [.d, .io] f__law_wrong
theorem sc__law_wrong : FnScope N__law_wrong ["tariff", "draws"] (defScope s__law_wrong) := ⟨rfl, rfl, rfl, by decide +kernel, rfl, by decide +kernel, by decide +kernel⟩
theorem ok__law_wrong {G : GG} (t : Fr G) (h_is_tariff : DefAt G "is_tariff" 5 5 [.d] sem_is_tariff) : PDSs ⟨G, N__law_wrong, defScope s__law_wrong, 5, fun _ => true, none⟩ (defBody s__law_wrong) f__law_wrong :=
  pdss_cons (pds_un (vs := [2, 3]) (pd_var (i := 0) (by kernel_rfl)) (pdgc_tup (pdgs_cons (pdg_name (i := 2) (by kernel_rfl) (by decide)) (pdgs_cons (pdg_name (i := 3) (by kernel_rfl) (by decide)) pdgs_nil)))) (pdss_cons (pds_un (vs := [4, 5, 6]) (pd_ix (pd_var (i := 3) (by kernel_rfl)) (pd_neg pd_int) (fun _ _ => rfl)) (pdgc_tup (pdgs_cons (pdg_name (i := 4) (by kernel_rfl) (by decide)) (pdgs_cons (pdg_name (i := 5) (by kernel_rfl) (by decide)) (pdgs_cons (pdg_name (i := 6) (by kernel_rfl) (by decide)) pdgs_nil))))) (pdss_cons (pds_set (i := 7) (pd_sl (pd_var (i := 3) (by kernel_rfl)) pdo_none (pdo_some (pd_neg pd_int))) (by kernel_rfl)) (pdss_cons (pds_set (i := 8) (pd_lst (pda_keep (pd_tup (pda_keep (pd_str (by kernel_rfl)) (pda_keep (pd_var (i := 3) (by kernel_rfl)) pda_nil))) (pda_keep (pd_tup (pda_keep pd_non (pda_keep (pd_var (i := 3) (by kernel_rfl)) pda_nil))) (pda_keep (pd_tup (pda_keep (pd_var (i := 2) (by kernel_rfl)) (pda_keep (pd_b bi_list (by kernel_rfl) t.f_list (pda_cons (pd_var (i := 3) (by kernel_rfl)) pda_nil)) pda_nil))) (pda_keep (pd_tup (pda_keep (pd_var (i := 2) (by kernel_rfl)) (pda_keep (pd_tup pda_nil) pda_nil))) (pda_keep (pd_tup (pda_keep (pd_var (i := 2) (by kernel_rfl)) (pda_keep (pd_var (i := 3) (by kernel_rfl)) (pda_keep pd_int pda_nil)))) (pda_keep (pd_lst (pda_keep (pd_var (i := 2) (by kernel_rfl)) (pda_keep (pd_var (i := 3) (by kernel_rfl)) pda_nil))) (pda_keep (pd_var (i := 2) (by kernel_rfl)) (pda_keep pd_non (pda_keep (pd_tup (pda_keep (pd_var (i := 2) (by kernel_rfl)) (pda_keep (pd_add (pd_var (i := 7) (by kernel_rfl)) (pd_tup (pda_keep (pd_tup (pda_keep (pd_var (i := 4) (by kernel_rfl)) (pda_keep (pd_var (i := 5) (by kernel_rfl)) (pda_keep (pd_tup (pda_keep pd_int (pda_keep pd_int pda_nil))) pda_nil)))) pda_nil))) pda_nil))) (pda_keep (pd_tup (pda_keep (pd_var (i := 2) (by kernel_rfl)) (pda_keep (pd_add (pd_var (i := 7) (by kernel_rfl)) (pd_tup (pda_keep (pd_tup (pda_keep (pd_var (i := 4) (by kernel_rfl)) (pda_keep (pd_var (i := 5) (by kernel_rfl)) (pda_keep (pd_tup (pda_keep pd_int (pda_keep pd_int pda_nil))) pda_nil)))) pda_nil))) pda_nil))) (pda_keep (pd_tup (pda_keep (pd_var (i := 2) (by kernel_rfl)) (pda_keep (pd_add (pd_var (i := 7) (by kernel_rfl)) (pd_tup (pda_keep (pd_tup (pda_keep (pd_var (i := 4) (by kernel_rfl)) (pda_keep (pd_var (i := 5) (by kernel_rfl)) pda_nil))) pda_nil))) pda_nil))) (pda_keep (pd_tup (pda_keep (pd_var (i := 2) (by kernel_rfl)) (pda_keep (pd_add (pd_var (i := 7) (by kernel_rfl)) (pd_tup (pda_keep (pd_tup (pda_keep (pd_var (i := 4) (by kernel_rfl)) (pda_keep (pd_var (i := 5) (by kernel_rfl)) (pda_keep (pd_tup (pda_keep pd_int (pda_keep pd_int pda_nil))) pda_nil)))) pda_nil))) pda_nil))) (pda_keep (pd_tup (pda_keep (pd_var (i := 2) (by kernel_rfl)) (pda_keep (pd_add (pd_var (i := 7) (by kernel_rfl)) (pd_tup (pda_keep (pd_tup (pda_keep (pd_var (i := 4) (by kernel_rfl)) (pda_keep (pd_neg pd_int) (pda_keep (pd_var (i := 6) (by kernel_rfl)) pda_nil)))) pda_nil))) pda_nil))) (pda_keep (pd_tup (pda_keep (pd_var (i := 2) (by kernel_rfl)) (pda_keep (pd_add (pd_var (i := 7) (by kernel_rfl)) (pd_tup (pda_keep (pd_lst (pda_keep (pd_var (i := 4) (by kernel_rfl)) (pda_keep (pd_var (i := 5) (by kernel_rfl)) (pda_keep (pd_var (i := 6) (by kernel_rfl)) pda_nil)))) pda_nil))) pda_nil))) (pda_keep (pd_tup (pda_keep (pd_var (i := 2) (by kernel_rfl)) (pda_keep (pd_add (pd_var (i := 7) (by kernel_rfl)) (pd_tup (pda_keep (pd_tup (pda_keep (pd_var (i := 4) (by kernel_rfl)) (pda_keep (pd_add (pd_pow pd_int pd_int) pd_int) (pda_keep (pd_var (i := 6) (by kernel_rfl)) pda_nil)))) pda_nil))) pda_nil))) (pda_keep (pd_tup (pda_keep (pd_var (i := 2) (by kernel_rfl)) (pda_keep (pd_add (pd_var (i := 7) (by kernel_rfl)) (pd_tup (pda_keep (pd_tup (pda_keep (pd_var (i := 4) (by kernel_rfl)) (pda_keep pd_bl (pda_keep (pd_var (i := 6) (by kernel_rfl)) pda_nil)))) pda_nil))) pda_nil))) (pda_keep (pd_tup (pda_keep (pd_var (i := 2) (by kernel_rfl)) (pda_keep (pd_add (pd_var (i := 3) (by kernel_rfl)) (pd_tup (pda_keep (pd_tup (pda_keep (pd_var (i := 4) (by kernel_rfl)) (pda_keep (pd_var (i := 5) (by kernel_rfl)) (pda_keep (pd_var (i := 6) (by kernel_rfl)) pda_nil)))) pda_nil))) pda_nil))) (pda_keep (pd_tup (pda_keep (pd_var (i := 2) (by kernel_rfl)) (pda_keep (pd_tup (pda_keep (pd_tup (pda_keep pd_int (pda_keep (pd_var (i := 5) (by kernel_rfl)) (pda_keep (pd_var (i := 6) (by kernel_rfl)) pda_nil)))) pda_nil)) pda_nil))) (pda_keep (pd_tup (pda_keep (pd_var (i := 2) (by kernel_rfl)) (pda_keep (pd_add (pd_var (i := 3) (by kernel_rfl)) (pd_tup (pda_keep (pd_tup (pda_keep (pd_add (pd_pow pd_int pd_int) pd_int) (pda_keep (pd_var (i := 5) (by kernel_rfl)) (pda_keep (pd_var (i := 6) (by kernel_rfl)) pda_nil)))) pda_nil))) pda_nil))) (pda_keep (pd_tup (pda_keep (pd_var (i := 2) (by kernel_rfl)) (pda_keep (pd_add (pd_var (i := 7) (by kernel_rfl)) (pd_tup (pda_keep (pd_tup (pda_keep (pd_var (i := 4) (by kernel_rfl)) (pda_keep (pd_var (i := 5) (by kernel_rfl)) (pda_keep (pd_tup (pda_keep (pd_neg pd_int) (pda_keep pd_int pda_nil))) pda_nil)))) pda_nil))) pda_nil))) pda_nil))))))))))))))))))))) (by kernel_rfl)) (pdss_cons (pds_for (vs := [9]) (pdi_seq (pd_var (i := 8) (by kernel_rfl))) (pdg_name (i := 9) (by kernel_rfl) (by decide)) (pdss_one (pds_if (pdt_c cmp_isNot (pd_call h_is_tariff (Nat.le_of_ble_eq_true rfl) (by kernel_rfl) (pda_keep (pd_var (i := 9) (by kernel_rfl)) pda_nil)) pd_bl) (pdss_one (pds_ret pd_bl)) pdss_nil))) (pdss_one (pds_ret (pd_and (pd_c cmp_is (pd_call h_is_tariff (Nat.le_of_ble_eq_true rfl) (by kernel_rfl) (pda_keep (pd_tup (pda_keep (pd_var (i := 2) (by kernel_rfl)) (pda_keep (pd_b bi_tuple (by kernel_rfl) t.f_tuple (pda_cons (pd_lc (own := [("k", 10)]) (pdi_range1 (by kernel_rfl) t.f_range (pda_cons pd_int pda_nil)) (by kernel_rfl) (pdg_name (i := 10) (by kernel_rfl) (by decide)) pdts_nil (pd_tup (pda_keep (pd_var (i := 10) (by kernel_rfl)) (pda_keep (pd_var (i := 5) (by kernel_rfl)) (pda_keep (pd_var (i := 6) (by kernel_rfl)) pda_nil))))) pda_nil)) pda_nil))) pda_nil)) pd_bl) (pd_one (pd_c cmp_is (pd_call h_is_tariff (Nat.le_of_ble_eq_true rfl) (by kernel_rfl) (pda_keep (pd_tup (pda_keep (pd_var (i := 2) (by kernel_rfl)) (pda_keep (pd_b bi_tuple (by kernel_rfl) t.f_tuple (pda_cons (pd_lc (own := [("k", 10)]) (pdi_range1 (by kernel_rfl) t.f_range (pda_cons pd_int pda_nil)) (by kernel_rfl) (pdg_name (i := 10) (by kernel_rfl) (by decide)) pdts_nil (pd_tup (pda_keep (pd_var (i := 10) (by kernel_rfl)) (pda_keep (pd_var (i := 5) (by kernel_rfl)) (pda_keep (pd_var (i := 6) (by kernel_rfl)) pda_nil))))) pda_nil)) pda_nil))) pda_nil)) pd_bl)))))))))
abbrev s_law : Stmt := top 36
def N_law : List Str := ["script", "draws", "turn", "tariff", "great", "values", "step", "value", "fee", "told"]
def f_law : Env → So := sSeq (sOwn 1 (eCall [.sc] sem__law_open (aSc 0 aNil))) (sSeq (sFor (iR1 (aCons (eNrm (eBin addD (eC (.int 1)) (eCall [.io, .d] sem__law_draw (aCons (eNrm (eVar 1)) (aCons (eFz (eC (.int 3))) aNil))))) aNil)) (gN 2) (sSeq (sUn [gN 3, gN 4] (eCall [.io] sem__law_tariff (aCons (eNrm (eVar 1)) aNil))) (sSeq (sIf (tOrS (tstB (eBin isNotD (eCall [.d] sem_is_tariff (aCons (eFz (eVar 3)) aNil)) (eC (.bool true)))) (tNotS (tstV (eCall [.d, .io] sem__law_wrong (aCons (eFz (eVar 3)) (aCons (eNrm (eVar 1)) aNil)))))) (sRet (eC (.bool false))) sNx) (sSeq (sSet 5 (eLst (aCons (eFz (eC (.int 0))) (aCons (eFz (eBin powD (eC (.int 10)) (eC (.int 12)))) (aCons (eFz (eCall [.io, .d] sem__law_draw (aCons (eNrm (eVar 1)) (aCons (eFz (eBin addD (eBin powD (eC (.int 10)) (eC (.int 12))) (eC (.int 1)))) aNil)))) (aCons (eFz (eCall [.io, .d] sem__law_draw (aCons (eNrm (eVar 1)) (aCons (eFz (eC (.int 60))) aNil)))) aNil)))))) (sSeq (sFor (iSq (eBin ixD (eVar 3) (eC (.int 1)))) (gN 6) (sSet 5 (eBin addD (eVar 5) (eLst (aCons (eFz (eBin ixD (eVar 6) (eC (.int 0)))) (aCons (eFz (eN max2D (aCons (eNrm (eC (.int 0))) (aCons (eNrm (eBin subD (eBin ixD (eVar 6) (eC (.int 0))) (eC (.int 1)))) aNil)))) (aCons (eFz (eN min2D (aCons (eNrm (eBin powD (eC (.int 10)) (eC (.int 12)))) (aCons (eNrm (eBin addD (eBin addD (eBin ixD (eVar 6) (eC (.int 0))) (eC (.int 1))) (eCall [.io, .d] sem__law_draw (aCons (eNrm (eVar 1)) (aCons (eFz (eC (.int 50))) aNil))))) aNil)))) aNil))))))) (sSeq (sFor (iSq (eVar 5)) (gN 7) (sSeq (sSet 8 (eCall [.d, .d] sem_fee_of (aCons (eFz (eVar 3)) (aCons (eFz (eVar 7)) aNil)))) (sIf (tOrS (tNotS (tstV (eCall [.d] sem__law_int (aCons (eFz (eVar 8)) aNil)))) (tstB (eBin neD (eVar 8) (eCall [.d, .d] sem__law_fee (aCons (eFz (eVar 3)) (aCons (eFz (eVar 7)) aNil)))))) (sRet (eC (.bool false))) sNx))) (sSeq (sSet 9 (eCall [.d] sem_first_unfair (aCons (eFz (eVar 3)) aNil))) (sIf (tOrS (tAndS (tNotS (tstV (eVar 4))) (tstB (eBin neD (eVar 9) (eCall [.d] sem__law_all_pairs (aCons (eFz (eVar 3)) aNil))))) (tNotS (tstV (eCall [.d, .d] sem__law_great_pair (aCons (eFz (eVar 3)) (aCons (eFz (eVar 9)) aNil)))))) (sRet (eC (.bool false))) sNx)))))))) (sRet (eC (.bool true))))
def sem_law : DefSem := semOf 10 [.sc] f_law
theorem sc_law : FnScope N_law ["script"] (defScope s_law) := ⟨rfl, rfl, rfl, by decide +kernel, rfl, by decide +kernel, by decide +kernel⟩
theorem ok_law {G : GG} (t : Fr G) (h_is_tariff : DefAt G "is_tariff" 5 5 [.d] sem_is_tariff) (h_fee_of : DefAt G "fee_of" 4 6 [.d, .d] sem_fee_of) (h_first_unfair : DefAt G "first_unfair" 5 8 [.d] sem_first_unfair) (h__law_open : DefAt G "_law_open" 1 3 [.sc] sem__law_open) (h__law_draw : DefAt G "_law_draw" 2 6 [.io, .d] sem__law_draw) (h__law_int : DefAt G "_law_int" 1 1 [.d] sem__law_int) (h__law_tariff : DefAt G "_law_tariff" 4 8 [.io] sem__law_tariff) (h__law_fee : DefAt G "_law_fee" 1 11 [.d, .d] sem__law_fee) (h__law_all_pairs : DefAt G "_law_all_pairs" 2 5 [.d] sem__law_all_pairs) (h__law_great_pair : DefAt G "_law_great_pair" 3 7 [.d, .d] sem__law_great_pair) (h__law_wrong : DefAt G "_law_wrong" 6 11 [.d, .io] sem__law_wrong) : PDSs ⟨G, N_law, defScope s_law, 6, fun _ => true, none⟩ (defBody s_law) f_law :=
  pdss_cons (pds_own (i := 1) (pd_call h__law_open (Nat.le_of_ble_eq_true rfl) (by kernel_rfl) (pda_sc (i := 0) (by kernel_rfl) pda_nil)) (by kernel_rfl)) (pdss_cons (pds_for (vs := [2]) (pdi_range1 (by kernel_rfl) t.f_range (pda_cons (pd_add pd_int (pd_call h__law_draw (Nat.le_of_ble_eq_true rfl) (by kernel_rfl) (pda_cons (pd_var (i := 1) (by kernel_rfl)) (pda_keep pd_int pda_nil)))) pda_nil)) (pdg_name (i := 2) (by kernel_rfl) (by decide)) (pdss_cons (pds_un (vs := [3, 4]) (pd_call h__law_tariff (Nat.le_of_ble_eq_true rfl) (by kernel_rfl) (pda_cons (pd_var (i := 1) (by kernel_rfl)) pda_nil)) (pdgc_tup (pdgs_cons (pdg_name (i := 3) (by kernel_rfl) (by decide)) (pdgs_cons (pdg_name (i := 4) (by kernel_rfl) (by decide)) pdgs_nil)))) (pdss_cons (pds_if (PDW.t (pdw_or (pdt_c cmp_isNot (pd_call h_is_tariff (Nat.le_of_ble_eq_true rfl) (by kernel_rfl) (pda_keep (pd_var (i := 3) (by kernel_rfl)) pda_nil)) pd_bl) (pdw_or1 (pdt_not (pdt_truth (pd_call h__law_wrong (Nat.le_of_ble_eq_true rfl) (by kernel_rfl) (pda_keep (pd_var (i := 3) (by kernel_rfl)) (pda_cons (pd_var (i := 1) (by kernel_rfl)) pda_nil)))))))) (pdss_one (pds_ret pd_bl)) pdss_nil) (pdss_cons (pds_set (i := 5) (pd_lst (pda_keep pd_int (pda_keep (pd_pow pd_int pd_int) (pda_keep (pd_call h__law_draw (Nat.le_of_ble_eq_true rfl) (by kernel_rfl) (pda_cons (pd_var (i := 1) (by kernel_rfl)) (pda_keep (pd_add (pd_pow pd_int pd_int) pd_int) pda_nil))) (pda_keep (pd_call h__law_draw (Nat.le_of_ble_eq_true rfl) (by kernel_rfl) (pda_cons (pd_var (i := 1) (by kernel_rfl)) (pda_keep pd_int pda_nil))) pda_nil))))) (by kernel_rfl)) (pdss_cons (pds_for (vs := [6]) (pdi_seq (pd_ix (pd_var (i := 3) (by kernel_rfl)) pd_int (fun _ _ => rfl))) (pdg_name (i := 6) (by kernel_rfl) (by decide)) (pdss_one (pds_set (i := 5) (pd_add (pd_var (i := 5) (by kernel_rfl)) (pd_lst (pda_keep (pd_ix (pd_var (i := 6) (by kernel_rfl)) pd_int (fun _ _ => rfl)) (pda_keep (pd_b bi_max2 (by kernel_rfl) t.f_max (pda_cons pd_int (pda_cons (pd_sub (pd_ix (pd_var (i := 6) (by kernel_rfl)) pd_int (fun _ _ => rfl)) pd_int) pda_nil))) (pda_keep (pd_b bi_min2 (by kernel_rfl) t.f_min (pda_cons (pd_pow pd_int pd_int) (pda_cons (pd_add (pd_add (pd_ix (pd_var (i := 6) (by kernel_rfl)) pd_int (fun _ _ => rfl)) pd_int) (pd_call h__law_draw (Nat.le_of_ble_eq_true rfl) (by kernel_rfl) (pda_cons (pd_var (i := 1) (by kernel_rfl)) (pda_keep pd_int pda_nil)))) pda_nil))) pda_nil))))) (by kernel_rfl)))) (pdss_cons (pds_for (vs := [7]) (pdi_seq (pd_var (i := 5) (by kernel_rfl))) (pdg_name (i := 7) (by kernel_rfl) (by decide)) (pdss_cons (pds_set (i := 8) (pd_call h_fee_of (Nat.le_of_ble_eq_true rfl) (by kernel_rfl) (pda_keep (pd_var (i := 3) (by kernel_rfl)) (pda_keep (pd_var (i := 7) (by kernel_rfl)) pda_nil))) (by kernel_rfl)) (pdss_one (pds_if (PDW.t (pdw_or (pdt_not (pdt_truth (pd_call h__law_int (Nat.le_of_ble_eq_true rfl) (by kernel_rfl) (pda_keep (pd_var (i := 8) (by kernel_rfl)) pda_nil)))) (pdw_or1 (pdt_c cmp_ne (pd_var (i := 8) (by kernel_rfl)) (pd_call h__law_fee (Nat.le_of_ble_eq_true rfl) (by kernel_rfl) (pda_keep (pd_var (i := 3) (by kernel_rfl)) (pda_keep (pd_var (i := 7) (by kernel_rfl)) pda_nil))))))) (pdss_one (pds_ret pd_bl)) pdss_nil)))) (pdss_cons (pds_set (i := 9) (pd_call h_first_unfair (Nat.le_of_ble_eq_true rfl) (by kernel_rfl) (pda_keep (pd_var (i := 3) (by kernel_rfl)) pda_nil)) (by kernel_rfl)) (pdss_one (pds_if (PDW.t (pdw_or (PDW.t (pdw_and (pdt_not (pdt_truth (pd_var (i := 4) (by kernel_rfl)))) (pdw_and1 (pdt_c cmp_ne (pd_var (i := 9) (by kernel_rfl)) (pd_call h__law_all_pairs (Nat.le_of_ble_eq_true rfl) (by kernel_rfl) (pda_keep (pd_var (i := 3) (by kernel_rfl)) pda_nil)))))) (pdw_or1 (pdt_not (pdt_truth (pd_call h__law_great_pair (Nat.le_of_ble_eq_true rfl) (by kernel_rfl) (pda_keep (pd_var (i := 3) (by kernel_rfl)) (pda_keep (pd_var (i := 9) (by kernel_rfl)) pda_nil)))))))) (pdss_one (pds_ret pd_bl)) pdss_nil))))))))) (pdss_one (pds_ret pd_bl)))
end PL.K46
end
section
set_option Elab.async false
set_option linter.all false
set_option maxRecDepth 100000
set_option maxHeartbeats 2000000
set_option autoImplicit false
namespace PL.K46
open PySem PySem.Spec PyProof.Rows L2 PL

/-! ### fees -/
structure Stp where
  l : Int
  b : Int
  p : Int
  q : Int
def encR (s : Stp) : D := .tuple [.int s.p, .int s.q]
def encS (s : Stp) : D := .tuple [.int s.l, .int s.b, encR s]
structure Stp.Ok (s : Stp) : Prop where
  l0 : 0 ≤ s.l
  l1 : s.l ≤ 1000000000000
  b0 : 0 ≤ s.b
  b1 : s.b ≤ 1000000000000
  p0 : 0 ≤ s.p
  pq : s.p ≤ s.q
  q0 : 1 ≤ s.q
  q1 : s.q ≤ 10000
  g : Nat.gcd s.p.natAbs s.q.natAbs = 1
theorem lim9000 {x : Int} (h0 : 0 < x) (h : x ≤ 1000000000000000000000000000000) : x < 2 ^ 9000 := by
  have h1 : x.toNat < 2 ^ 100 := by
    have : (2 : Nat) ^ 100 = 1267650600228229401496703205376 := by decide
    omega
  have h2 : x.toNat < 2 ^ 9000 := pow_big (by decide) h1
  have e : ((2 ^ 9000 : Nat) : Int) = 2 ^ 9000 := by rw [Int.natCast_pow]; rfl
  rw [← e]
  omega
theorem lim4 {x : Int} (h0 : -1000000000000000000000000000000 ≤ x) (h : x ≤ 1000000000000000000000000000000) : x.natAbs < 2 ^ 400000 := by
  have : x.natAbs < 2 ^ 100 := by
    have : (2 : Nat) ^ 100 = 1267650600228229401496703205376 := by decide
    omega
  exact pow_big (by decide) this
def gg (p q : Int) : Int := ((Nat.gcd p.natAbs q.natAbs : Nat) : Int)
theorem gg_pos {p q : Int} (h : 0 < q) : 0 < gg p q := by
  unfold gg
  have : 0 < Nat.gcd p.natAbs q.natAbs := Nat.gcd_pos_of_pos_right _ (by omega)
  omega
theorem gg_le {p q : Int} (h : 0 < q) : gg p q ≤ q := by
  unfold gg
  have : Nat.gcd p.natAbs q.natAbs ≤ q.natAbs := Nat.gcd_le_right _ (by omega)
  omega
theorem v_lowest (p q : Int) (h : 0 < q) (h2 : q ≤ 1000000000000000000000000000000) : sem_lowest [.int p, .int q] = .ret (.fz (.tuple [.int (p / gg p q), .int (q / gg p q)])) [] := by
  have hg := gg_pos (p := p) h
  have hl := gg_le (p := p) h
  have f := fun i => fdivD_ii (i := i) hg (lim9000 hg (by omega))
  have nq : ¬ q < 0 := by omega
  simp only [sem_lowest, semOf, f_lowest, entry, args]
  simp [nq, ← gg.eq_1, f]
theorem v_times (a b c d : Int) (ha : -1000000000000000000000000000000 ≤ a ∧ a ≤ 1000000000000000000000000000000) (hb : -1000000000000000000000000000000 ≤ b ∧ b ≤ 1000000000000000000000000000000) (hc : -1000000000000000000000000000000 ≤ c ∧ c ≤ 1000000000000000000000000000000)
    (hd : -1000000000000000000000000000000 ≤ d ∧ d ≤ 1000000000000000000000000000000) (h : 0 < b * d) (h2 : b * d ≤ 1000000000000000000000000000000) : sem_times [.tuple [.int a, .int b], .tuple [.int c, .int d]] = .ret (.fz (.tuple [.int (a * c / gg (a * c) (b * d)), .int (b * d / gg (a * c) (b * d))])) [] := by
  have m1 := mulD_small (lim4 ha.1 ha.2) (lim4 hc.1 hc.2)
  have m2 := mulD_small (lim4 hb.1 hb.2) (lim4 hd.1 hd.2)
  have v := v_lowest (a * c) (b * d) h h2
  simp only [sem_times, semOf, f_times, entry, args]
  simp [m1, m2, v]
/-- rounding -/
inductive Way where
  | down | up | near
def Way.s : Way → Str
  | .down => "down"
  | .up => "up"
  | .near => "near"
def rnd (w : Way) (p q : Int) : Int := match w with
  | .down => p / q
  | .up => -((-p) / q)
  | .near => if 2 * (p - p / q * q) < q ∨ 2 * (p - p / q * q) = q ∧ p / q % 2 = 0 then p / q else p / q + 1
theorem v_rounded (w : Way) (p q : Int) (h : 0 < q) (h2 : q ≤ 1000000000000000000000000000000) (hp : 0 ≤ p) (hp2 : p ≤ 1000000000000000000000000000000) : sem_rounded [.tuple [.int p, .int q], .str w.s] = .ret (.fz (.int (rnd w p q))) [] := by
  have f := fun i => fdivD_ii (i := i) h (lim9000 h h2)
  have hd0 : 0 ≤ p / q := Int.ediv_nonneg hp (by omega)
  have hd1 : p / q ≤ p := Int.ediv_le_self _ hp
  have m1 := mulD_small (i := p / q) (j := q) (lim4 (by omega) (by omega)) (lim4 (by omega) (by omega))
  have hm : 0 ≤ p - p / q * q ∧ p - p / q * q < q := by
    have e1 := Int.emod_add_mul_ediv p q
    have e2 := Int.emod_nonneg p (by omega : q ≠ 0)
    have e3 := Int.emod_lt_of_pos p h
    have e4 : q * (p / q) = p / q * q := Int.mul_comm _ _
    omega
  have m2 := mulD_small (i := 2) (j := p - p / q * q) (lim4 (by omega) (by omega)) (lim4 (by omega) (by omega))
  have md := modD_ii (i := p / q) (j := 2) (by decide)
  simp only [sem_rounded, semOf, f_rounded, entry, args]
  cases w with
  | down =>
    have e : (Way.down.s == ("down" : Str)) = true := by decide +kernel
    simp [f, e, rnd]
  | up =>
    have e : (Way.up.s == ("down" : Str)) = false := by decide +kernel
    have e2 : (Way.up.s == ("up" : Str)) = true := by decide +kernel
    simp [f, e, e2, rnd]
  | near =>
    have e : (Way.near.s == ("down" : Str)) = false := by decide +kernel
    have e2 : (Way.near.s == ("up" : Str)) = false := by decide +kernel
    have e3 : (Way.near.s == ("near" : Str)) = true := by decide +kernel
    by_cases c : 2 * (p - p / q * q) < q
    · simp [f, e, e2, e3, rnd, m1, m2, md, c]
    · by_cases c2 : 2 * (p - p / q * q) = q
      · by_cases c3 : p / q % 2 = 0
        · simp [f, e, e2, e3, rnd, m1, m2, md, c, c2, c3]
        · simp [f, e, e2, e3, rnd, m1, m2, md, c, c2, c3]
      · simp [f, e, e2, e3, rnd, m1, m2, md, c, c2]
/-- the fee in a step -/
def feeP (w : Way) (s : Stp) (v : Int) : Int := s.b + rnd w (s.p * (v - s.l) / gg (s.p * (v - s.l)) (s.q * 1)) (s.q * 1 / gg (s.p * (v - s.l)) (s.q * 1))
theorem v_fee_in (w : Way) (s : Stp) (ok : s.Ok) (v : Int) (h0 : s.l ≤ v) (h1 : v ≤ 1000000000000) : sem_fee_in [.str w.s, encS s, .int v] = .ret (.fz (.int (feeP w s v))) [] := by
  obtain ⟨a1, a2, a3, a4, a5, a6, a7, a8, a9⟩ := ok
  have e0 : 0 ≤ v - s.l := by omega
  have e1 : v - s.l ≤ 1000000000000 := by omega
  have pr : 0 ≤ s.p * (v - s.l) := Int.mul_nonneg a5 e0
  have pr2 : s.p * (v - s.l) ≤ 10000 * 1000000000000 := Int.mul_le_mul (by omega) e1 e0 (by omega)
  have v1 := v_times s.p s.q (v - s.l) 1 (by omega) (by omega) (by omega) (by omega) (by omega) (by omega)
  have hg := gg_pos (p := s.p * (v - s.l)) (q := s.q * 1) (by omega)
  have hl := gg_le (p := s.p * (v - s.l)) (q := s.q * 1) (by omega)
  have q0 : 0 < s.q * 1 / gg (s.p * (v - s.l)) (s.q * 1) := Int.ediv_pos_of_pos_of_dvd (by omega) (by omega) (by
    unfold gg
    exact Int.ofNat_dvd_left.mpr (Nat.gcd_dvd_right _ _))
  have q1 : s.q * 1 / gg (s.p * (v - s.l)) (s.q * 1) ≤ s.q * 1 := Int.ediv_le_self _ (by omega)
  have p0 : 0 ≤ s.p * (v - s.l) / gg (s.p * (v - s.l)) (s.q * 1) := Int.ediv_nonneg pr (by omega)
  have p1 : s.p * (v - s.l) / gg (s.p * (v - s.l)) (s.q * 1) ≤ s.p * (v - s.l) := Int.ediv_le_self _ pr
  have v2 := v_rounded w (s.p * (v - s.l) / gg (s.p * (v - s.l)) (s.q * 1)) (s.q * 1 / gg (s.p * (v - s.l)) (s.q * 1)) q0 (by omega) p0 (by omega)
  simp only [Int.mul_one] at v1 v2
  simp only [sem_fee_in, semOf, f_fee_in, entry, args, encS, encR, feeP]
  simp [v1, v2]
/-! rounding does not see the common divisor -/
theorem rnd_red (w : Way) (p q g : Int) (hq : 0 < q) (hg : 0 < g) (hp : g ∣ p) (hd : g ∣ q) : rnd w (p / g) (q / g) = rnd w p q := by
  obtain ⟨a, rfl⟩ := hp
  obtain ⟨b, rfl⟩ := hd
  have hg0 : g ≠ 0 := by omega
  rw [Int.mul_ediv_cancel_left _ hg0, Int.mul_ediv_cancel_left _ hg0]
  have hb : 0 < b := by
    rcases Int.lt_or_le 0 b with h | h
    · exact h
    · have := Int.mul_nonpos_of_nonneg_of_nonpos (Int.le_of_lt hg) h
      omega
  have e1 : g * a / (g * b) = a / b := Int.mul_ediv_mul_of_pos a b hg
  have e2 : -(g * a) / (g * b) = -a / b := by rw [← Int.mul_neg, Int.mul_ediv_mul_of_pos _ _ hg]
  have e3 : 2 * (g * a - a / b * (g * b)) = g * (2 * (a - a / b * b)) := by
    rw [Int.mul_sub, Int.mul_sub, Int.mul_sub, Int.mul_left_comm 2 g a, Int.mul_left_comm g 2 (a / b * b), Int.mul_left_comm (a / b) g b, Int.mul_left_comm g 2 a]
  cases w with
  | down => show a / b = g * a / (g * b); rw [e1]
  | up => show -(-a / b) = -(-(g * a) / (g * b)); rw [e2]
  | near =>
    show (if _ then _ else _) = (if _ then _ else _)
    rw [e1, e3]
    have c1 : (g * (2 * (a - a / b * b)) < g * b) ↔ (2 * (a - a / b * b) < b) := Int.mul_lt_mul_left hg
    have c2 : (g * (2 * (a - a / b * b)) = g * b) ↔ (2 * (a - a / b * b) = b) := Int.mul_eq_mul_left_iff hg0
    simp only [c1, c2]
/-- the fee, plainly -/
def fee (w : Way) (s : Stp) (v : Int) : Int := s.b + rnd w (s.p * (v - s.l)) s.q
theorem feeP_eq (w : Way) (s : Stp) (ok : s.Ok) (v : Int) : feeP w s v = fee w s v := by
  unfold feeP fee
  have hq : 0 < s.q * 1 := by have := ok.q0; omega
  rw [rnd_red w _ _ _ hq (gg_pos hq) (by unfold gg; exact Int.ofNat_dvd_left.mpr (Nat.gcd_dvd_left _ _)) (by unfold gg; exact Int.ofNat_dvd_left.mpr (Nat.gcd_dvd_right _ _)), Int.mul_one]
theorem near_cases (p q : Int) : (rnd .near p q = p / q ∧ (2 * (p - p / q * q) < q ∨ 2 * (p - p / q * q) = q ∧ p / q % 2 = 0)) ∨ (rnd .near p q = p / q + 1 ∧ ¬ (2 * (p - p / q * q) < q ∨ 2 * (p - p / q * q) = q ∧ p / q % 2 = 0)) := by
  by_cases c : 2 * (p - p / q * q) < q ∨ 2 * (p - p / q * q) = q ∧ p / q % 2 = 0
  · exact .inl ⟨if_pos c, c⟩
  · exact .inr ⟨if_neg c, c⟩
/-- rounding rises -/
theorem rnd_mono (w : Way) (p r q : Int) (hq : 0 < q) (h : p ≤ r) : rnd w p q ≤ rnd w r q := by
  have m : ∀ {a b : Int}, a ≤ b → a / q ≤ b / q := fun h => Int.ediv_le_ediv hq h
  cases w with
  | down => exact m h
  | up =>
    show -(-p / q) ≤ -(-r / q)
    have := m (show -r ≤ -p by omega)
    omega
  | near =>
    have hle := m h
    have f : ∀ a : Int, 0 ≤ a - a / q * q ∧ a - a / q * q < q := fun a => by
      have e1 := Int.emod_add_mul_ediv a q
      have e2 := Int.emod_nonneg a (by omega : q ≠ 0)
      have e3 := Int.emod_lt_of_pos a hq
      have e4 : q * (a / q) = a / q * q := Int.mul_comm _ _
      omega
    have k1 := near_cases p q
    have k2 := near_cases r q
    by_cases hlt : p / q < r / q
    · rcases k1 with ⟨e1, _⟩ | ⟨e1, _⟩ <;> rcases k2 with ⟨e2, _⟩ | ⟨e2, _⟩ <;> rw [e1, e2] <;> omega
    · have heq : p / q = r / q := by omega
      rw [← heq] at k2
      rcases k1 with ⟨e1, c1⟩ | ⟨e1, c1⟩ <;> rcases k2 with ⟨e2, c2⟩ | ⟨e2, c2⟩ <;> rw [e1, e2] <;> omega
theorem rnd_zero (w : Way) (q : Int) (hq : 0 < q) : rnd w 0 q = 0 := by
  cases w with
  | down => show 0 / q = 0; exact Int.zero_ediv q
  | up => show -(-0 / q) = 0; simp
  | near =>
    show (if _ then _ else _) = _
    rw [Int.zero_ediv, if_pos (by left; simp; omega)]
theorem rnd_nonneg (w : Way) (p q : Int) (hq : 0 < q) (hp : 0 ≤ p) : 0 ≤ rnd w p q := by
  rw [← rnd_zero w q hq]
  exact rnd_mono w 0 p q hq hp
theorem fee_mono (w : Way) (s : Stp) (ok : s.Ok) {v u : Int} (h : v ≤ u) : fee w s v ≤ fee w s u := by
  unfold fee
  have := rnd_mono w (s.p * (v - s.l)) (s.p * (u - s.l)) s.q (by have := ok.q0; omega) (Int.mul_le_mul_of_nonneg_left (by omega) ok.p0)
  omega
theorem fee_start (w : Way) (s : Stp) (ok : s.Ok) : fee w s s.l = s.b := by
  unfold fee
  rw [Int.sub_self, Int.mul_zero, rnd_zero w s.q (by have := ok.q0; omega), Int.add_zero]
end PL.K46
end
section
set_option Elab.async false
set_option linter.all false
set_option maxRecDepth 100000
set_option maxHeartbeats 2000000
set_option autoImplicit false
namespace PL.K46
open PySem PySem.Spec PyProof.Rows L2 PL

def encT (w : Way) (ss : List Stp) : D := .tuple [.str w.s, .tuple (ss.map encS)]
structure TOk (ss : List Stp) : Prop where
  pos : 0 < ss.length
  len : ss.length ≤ 12
  ok : ∀ s ∈ ss, s.Ok
  zero : ∀ s, ss[0]? = some s → s.l = 0
  up : ss.Pairwise fun a b => a.l < b.l
def pick (f : Stp) (ss : List Stp) (v : Int) : Stp := ss.foldl (fun f s => if s.l ≤ v then s else f) f
theorem pick_cons (f s : Stp) (ss : List Stp) (v : Int) : pick f (s :: ss) v = pick (if s.l ≤ v then s else f) ss v := rfl
theorem pick_above (f : Stp) (v : Int) : ∀ (ss : List Stp), (∀ s ∈ ss, v < s.l) → pick f ss v = f
  | [], _ => rfl
  | s :: ss, h => by
    rw [pick_cons, if_neg (by have := h s List.mem_cons_self; omega)]
    exact pick_above f v ss fun x hx => h x (List.mem_cons_of_mem _ hx)
theorem pick_at (f : Stp) (v : Int) : ∀ (ss : List Stp) (k : Nat) (s : Stp), ss.Pairwise (fun a b => a.l < b.l) → ss[k]? = some s → s.l ≤ v → (∀ t, ss[k + 1]? = some t → v < t.l) → pick f ss v = s
  | [], k, s, _, h, _, _ => by cases h
  | a :: ss, 0, s, hp, h, h1, h2 => by
    cases h
    rw [pick_cons, if_pos h1]
    refine pick_above _ v ss fun x hx => ?_
    obtain ⟨i, hi, rfl⟩ := List.mem_iff_getElem.mp hx
    cases ss with
    | nil => cases hi
    | cons b r =>
      have hb := h2 b rfl
      cases i with
      | zero => exact hb
      | succ i =>
        have := (List.pairwise_cons.mp (List.pairwise_cons.mp hp).2).1 ((b :: r)[i + 1]) (by simp)
        omega
  | a :: ss, k + 1, s, hp, h, h1, h2 => by
    rw [pick_cons]
    exact pick_at _ v ss k s (List.pairwise_cons.mp hp).2 h h1 h2
/-- every value stands in one step -/
theorem place (ss : List Stp) (v : Int) : ∀ (h : ss.Pairwise fun a b => a.l < b.l) (h0 : ∃ s, ss[0]? = some s ∧ s.l ≤ v), ∃ (k : Nat) (s : Stp), ss[k]? = some s ∧ s.l ≤ v ∧ ∀ t, ss[k + 1]? = some t → v < t.l := by
  induction ss with
  | nil => rintro _ ⟨s, h, _⟩; cases h
  | cons a r ih =>
    rintro h ⟨s, h0, h1⟩
    cases h0
    cases r with
    | nil => exact ⟨0, a, rfl, h1, fun t h => by cases h⟩
    | cons b r' =>
      by_cases c : b.l ≤ v
      · obtain ⟨k, t, e1, e2, e3⟩ := ih (List.pairwise_cons.mp h).2 ⟨b, rfl, c⟩
        exact ⟨k + 1, t, e1, e2, e3⟩
      · exact ⟨0, a, rfl, h1, fun t e => by cases e; omega⟩
theorem TOk.place {ss : List Stp} (ok : TOk ss) {v : Int} (hv : 0 ≤ v) : ∃ (k : Nat) (s : Stp), ss[k]? = some s ∧ s.l ≤ v ∧ (∀ t, ss[k + 1]? = some t → v < t.l) ∧ s.Ok ∧ ∀ f, pick f ss v = s := by
  obtain ⟨s0, h0⟩ : ∃ s, ss[0]? = some s := ⟨ss[0]'ok.pos, by simp [ok.pos]⟩
  obtain ⟨k, s, e1, e2, e3⟩ := K46.place ss v ok.up ⟨s0, h0, by rw [ok.zero s0 h0]; exact hv⟩
  exact ⟨k, s, e1, e2, e3, ok.ok s (List.mem_of_getElem? e1), fun f => pick_at f v ss k s ok.up e1 e2 e3⟩
/-- the fee at a value -/
def F (w : Way) (ss : List Stp) (v : Int) : Int := match ss with
  | [] => 0
  | s :: r => fee w (pick s (s :: r) v) v
theorem F_at {w : Way} {ss : List Stp} (ok : TOk ss) {v : Int} {s : Stp} (h : ∀ f, pick f ss v = s) : F w ss v = fee w s v := by
  cases ss with
  | nil => exact absurd ok.pos (by simp)
  | cons a r => show fee w (pick a (a :: r) v) v = _; rw [h a]

/-! ### fee_of -/
theorem v_fee_of (w : Way) (ss : List Stp) (ok : TOk ss) (v : Int) (h0 : 0 ≤ v) (h1 : v ≤ 1000000000000) : sem_fee_of [encT w ss, .int v] = .ret (.fz (.int (F w ss v))) [] := by
  obtain ⟨k, s, e1, e2, e3, sok, hp⟩ := ok.place h0
  rw [F_at ok hp]
  have loop : ∀ (rs : List Stp) (f : Stp) (x : Sl), ∃ y, forD (gN 5) (sIf (tstB (eBin leD (eBin ixD (eVar 5) (eC (.int 0))) (eVar 1))) (sSet 4 (eVar 5)) sNx) (rs.map encS) [.fz (encT w ss), .fz (.int v), .fz (.str w.s), .fz (.tuple (ss.map encS)), .fz (encS f), x] =
      .nx [.fz (encT w ss), .fz (.int v), .fz (.str w.s), .fz (.tuple (ss.map encS)), .fz (encS (pick f rs v)), y] := by
    intro rs
    induction rs with
    | nil => exact fun f x => ⟨x, rfl⟩
    | cons r rs ih =>
      intro f x
      rw [List.map_cons, forD_cons, pick_cons]
      by_cases c : r.l ≤ v
      · obtain ⟨y, hy⟩ := ih r (.fz (encS r))
        refine ⟨y, ?_⟩
        rw [if_pos c, ← hy]
        simp [encS, c]
      · obtain ⟨y, hy⟩ := ih f (.fz (encS r))
        refine ⟨y, ?_⟩
        rw [if_neg c, ← hy]
        simp [encS, c]
  have hx0 : ixD (.tuple (ss.map encS)) (.int 0) = some (.fz (encS (ss[0]'ok.pos))) := ixD_t (by decide) (by simp [ok.pos])
  obtain ⟨y, hy⟩ := loop ss (ss[0]'ok.pos) .un
  rw [hp] at hy
  have v1 := v_fee_in w s sok v e2 h1
  rw [feeP_eq w s sok v] at v1
  simp only [sem_fee_of, semOf, f_fee_of, entry, args]
  unfold encT at hy ⊢
  simp [hx0, hy, v1]

/-! ### the law's fee -/
theorem filter_last (v : Int) : ∀ (ss : List Stp) (f : Stp), (∃ s ∈ ss, s.l ≤ v) → (ss.filter fun s => decide (s.l ≤ v)).getLast? = some (pick f ss v)
  | [], _, ⟨s, h, _⟩ => by cases h
  | a :: r, f, h => by
    rw [pick_cons]
    by_cases c : ∃ s ∈ r, s.l ≤ v
    · have ih := filter_last v r (if a.l ≤ v then a else f) c
      by_cases d : a.l ≤ v
      · rw [List.filter_cons_of_pos (by simpa using d)]
        cases e : r.filter fun s => decide (s.l ≤ v) with
        | nil => rw [e] at ih; cases ih
        | cons x y => rw [e] at ih; rw [List.getLast?_cons_cons]; exact ih
      · rw [List.filter_cons_of_neg (by simpa using d)]
        exact ih
    · have hr : ∀ s ∈ r, v < s.l := fun s hs => Int.not_le.mp fun z => c ⟨s, hs, z⟩
      have d : a.l ≤ v := by
        obtain ⟨s, hs, hv⟩ := h
        rcases List.mem_cons.mp hs with z | z
        · rw [← z]; exact hv
        · exact absurd ⟨s, z, hv⟩ c
      have e : (r.filter fun s => decide (s.l ≤ v)) = [] := List.filter_eq_nil_iff.mpr fun s hs => by have := hr s hs; simp; omega
      rw [List.filter_cons_of_pos (by simpa using d), e, if_pos d, pick_above a v r hr]
      rfl
theorem ixD_last {xs : List D} {d : D} (h : xs.getLast? = some d) : ixD (.list xs) (.int (-1)) = some (.fz d) := by
  show (match atI xs (-1) with | some d => some (P1.fz d) | none => none) = _
  have : atI xs (-1) = some d := by
    unfold atI ixN
    have hl : 0 < xs.length := by cases xs with | nil => cases h | cons a r => simp
    rw [if_neg (by omega), if_pos (by omega)]
    rw [List.getLast?_eq_getElem?] at h
    show xs[(-1 + (xs.length : Int)).toNat]? = some d
    have : (-1 + (xs.length : Int)).toNat = xs.length - 1 := by omega
    rw [this]
    exact h
  rw [this]
theorem neg_ediv_pos (a q : Int) (hq : 0 < q) (h : 0 < a - a / q * q) : -(-a / q) = a / q + 1 := by
  have e1 := Int.emod_add_mul_ediv a q
  have e3 := Int.emod_lt_of_pos a hq
  have e4 : q * (a / q) = a / q * q := Int.mul_comm _ _
  have f1 := Int.emod_add_mul_ediv (-a) q
  have f2 := Int.emod_nonneg (-a) (by omega : q ≠ 0)
  have f3 := Int.emod_lt_of_pos (-a) hq
  have f4 : q * (-a / q) = -a / q * q := Int.mul_comm _ _
  have s1 : (-a / q + a / q) * q = -a / q * q + a / q * q := Int.add_mul _ _ _
  rcases Int.lt_or_le (-a / q + a / q) 0 with g | g
  · rcases Int.lt_or_le (-a / q + a / q) (-1) with g2 | g2
    · have : (-a / q + a / q + 2) * q ≤ 0 := Int.mul_nonpos_of_nonpos_of_nonneg (by omega) (by omega)
      have s2 : (-a / q + a / q + 2) * q = (-a / q + a / q) * q + 2 * q := Int.add_mul _ _ _
      omega
    · omega
  · have := Int.mul_nonneg g (Int.le_of_lt hq)
    omega
theorem neg_ediv_zero (a q : Int) (hq : 0 < q) (h : a - a / q * q = 0) : -(-a / q) = a / q := by
  have : a = a / q * q := by omega
  have h2 : -a / q = -(a / q) := by
    conv => lhs; rw [this, ← Int.neg_mul]
    exact Int.mul_ediv_cancel _ (by omega)
  omega
theorem v_law_fee (w : Way) (ss : List Stp) (ok : TOk ss) (v : Int) (h0 : 0 ≤ v) (h1 : v ≤ 1000000000000) : sem__law_fee [encT w ss, .int v] = .ret (.fz (.int (F w ss v))) [] := by
  obtain ⟨k, s, e1, e2, e3, sok, hp⟩ := ok.place h0
  rw [F_at ok hp]
  have hmap := lcD_map (vs := [10]) (g := gN 10) (tt := tstB (eBin leD (eBin ixD (eVar 10) (eC (.int 0))) (eVar 1))) (te := eVar 10) (ρ := [.fz (encT w ss), .fz (.int v), .fz (.str w.s), .fz (.tuple (ss.map encS)), .un, .un, .un, .un, .un, .un, .un]) encS (fun s => decide (s.l ≤ v)) encS (fun r => by
    refine ⟨[.fz (encT w ss), .fz (.int v), .fz (.str w.s), .fz (.tuple (ss.map encS)), .un, .un, .un, .un, .un, .un, .fz (encS r)], by simp, ?_⟩
    by_cases c : r.l ≤ v
    · exact .inl ⟨by simpa using c, [.fz (encT w ss), .fz (.int v), .fz (.str w.s), .fz (.tuple (ss.map encS)), .un, .un, .un, .un, .un, .un, .fz (encS r)], [.fz (encT w ss), .fz (.int v), .fz (.str w.s), .fz (.tuple (ss.map encS)), .un, .un, .un, .un, .un, .un, .fz (encS r)], by simp [encS, c], by simp, by simp⟩
    · exact .inr ⟨by simpa using c, [.fz (encT w ss), .fz (.int v), .fz (.str w.s), .fz (.tuple (ss.map encS)), .un, .un, .un, .un, .un, .un, .fz (encS r)], by simp [encS, c], by simp⟩) ss
  have hlast : ((ss.filter fun s => decide (s.l ≤ v)).map encS).getLast? = some (encS s) := by
    rw [List.getLast?_map, filter_last v ss s ⟨s, List.mem_of_getElem? e1, e2⟩, hp]
    rfl
  have hix := ixD_last hlast
  have hlen : ((ss.filter fun s => decide (s.l ≤ v)).map encS).length ≤ 16777216 := by
    rw [List.length_map]
    have := List.length_filter_le (fun s : Stp => decide (s.l ≤ v)) ss
    have := ok.len
    omega
  obtain ⟨a1, a2, a3, a4, a5, a6, a7, a8, a9⟩ := sok
  have pr : 0 ≤ s.p * (v - s.l) := Int.mul_nonneg a5 (by omega)
  have pr2 : s.p * (v - s.l) ≤ 10000 * 1000000000000 := Int.mul_le_mul (by omega) (by omega) (by omega) (by omega)
  have m1 := mulD_small (i := s.p) (j := v - s.l) (lim4 (by omega) (by omega)) (lim4 (by omega) (by omega))
  have f1 := fdivD_ii (i := s.p * (v - s.l)) (j := s.q) (by omega) (lim9000 (by omega) (by omega))
  have hd0 : 0 ≤ s.p * (v - s.l) / s.q := Int.ediv_nonneg pr (by omega)
  have hd1 : s.p * (v - s.l) / s.q ≤ s.p * (v - s.l) := Int.ediv_le_self _ pr
  have m2 := mulD_small (i := s.p * (v - s.l) / s.q) (j := s.q) (lim4 (by omega) (by omega)) (lim4 (by omega) (by omega))
  have rest : 0 ≤ s.p * (v - s.l) - s.p * (v - s.l) / s.q * s.q ∧ s.p * (v - s.l) - s.p * (v - s.l) / s.q * s.q < s.q := by
    have e1 := Int.emod_add_mul_ediv (s.p * (v - s.l)) s.q
    have e2 := Int.emod_nonneg (s.p * (v - s.l)) (by omega : s.q ≠ 0)
    have e3 := Int.emod_lt_of_pos (s.p * (v - s.l)) (by omega : 0 < s.q)
    have e4 : s.q * (s.p * (v - s.l) / s.q) = s.p * (v - s.l) / s.q * s.q := Int.mul_comm _ _
    omega
  have m3 := mulD_small (i := 2) (j := s.p * (v - s.l) - s.p * (v - s.l) / s.q * s.q) (lim4 (by omega) (by omega)) (lim4 (by omega) (by omega))
  have md := modD_ii (i := s.p * (v - s.l) / s.q) (j := 2) (by decide)
  have nc := near_cases (s.p * (v - s.l)) s.q
  simp only [sem__law_fee, semOf, f__law_fee, entry, args]
  unfold encT at hmap ⊢
  have hgen : ∀ X : Int, X = s.p * (v - s.l) / s.q → fdivD (.int (s.p * (v - s.l))) (.int s.q) = some (.fz (.int X)) := fun X e => by rw [e]; exact f1
  have hlen' := hlen
  rw [List.length_map] at hlen'
  cases w with
  | down =>
    have e : (Way.down.s == ("up" : Str)) = false := by decide +kernel
    have e2 : (Way.down.s == ("near" : Str)) = false := by decide +kernel
    have ef : fee .down s v = s.b + s.p * (v - s.l) / s.q := rfl
    rw [ef]
    simp [hmap, hlen, hlen', hix, encS, encR, m1, f1, m2, e, e2]
  | up =>
    have e : (Way.up.s == ("up" : Str)) = true := by decide +kernel
    have e2 : (Way.up.s == ("near" : Str)) = false := by decide +kernel
    have ef : fee .up s v = s.b + -((-(s.p * (v - s.l))) / s.q) := rfl
    by_cases c : 0 < s.p * (v - s.l) - s.p * (v - s.l) / s.q * s.q
    · have e5 : -((-(s.p * (v - s.l))) / s.q) = s.p * (v - s.l) / s.q + 1 := neg_ediv_pos _ _ (by omega) c
      rw [ef, e5]
      simp [hmap, hlen, hlen', hix, encS, encR, m1, f1, m2, e, e2]
      intro z
      omega
    · have e5 : -((-(s.p * (v - s.l))) / s.q) = s.p * (v - s.l) / s.q := neg_ediv_zero _ _ (by omega) (by omega)
      rw [ef, e5]
      simp [hmap, hlen, hlen', hix, encS, encR, m1, f1, m2, e, e2]
      intro z
      omega
  | near =>
    have e : (Way.near.s == ("up" : Str)) = false := by decide +kernel
    have e2 : (Way.near.s == ("near" : Str)) = true := by decide +kernel
    have ef : fee .near s v = s.b + rnd .near (s.p * (v - s.l)) s.q := rfl
    have par := Int.emod_two_eq (s.p * (v - s.l) / s.q)
    by_cases c : s.q < 2 * (s.p * (v - s.l) - s.p * (v - s.l) / s.q * s.q)
    · have e5 : rnd .near (s.p * (v - s.l)) s.q = s.p * (v - s.l) / s.q + 1 := by rcases nc with ⟨_, z⟩ | ⟨z, _⟩ <;> omega
      rw [ef, e5]
      simp [hmap, hlen, hlen', hix, encS, encR, m1, f1, m2, m3, e, e2, c]
    · by_cases c2 : 2 * (s.p * (v - s.l) - s.p * (v - s.l) / s.q * s.q) = s.q
      · by_cases c3 : s.p * (v - s.l) / s.q % 2 = 1
        · have e5 : rnd .near (s.p * (v - s.l)) s.q = s.p * (v - s.l) / s.q + 1 := by rcases nc with ⟨_, z⟩ | ⟨z, _⟩ <;> omega
          rw [ef, e5]
          simp [hmap, hlen, hlen', hix, encS, encR, m1, f1, m2, m3, md, e, e2, c, c2, c3]
        · have e5 : rnd .near (s.p * (v - s.l)) s.q = s.p * (v - s.l) / s.q := by rcases nc with ⟨z, _⟩ | ⟨_, z⟩ <;> omega
          rw [ef, e5]
          simp [hmap, hlen, hlen', hix, encS, encR, m1, f1, m2, m3, md, e, e2, c, c2, c3]
      · have e5 : rnd .near (s.p * (v - s.l)) s.q = s.p * (v - s.l) / s.q := by rcases nc with ⟨z, _⟩ | ⟨_, z⟩ <;> omega
        rw [ef, e5]
        simp [hmap, hlen, hlen', hix, encS, encR, m1, f1, m2, m3, md, e, e2, c, c2]
/-! ### the first unfair pair -/
/-- the least start of a later step with a lower base -/
def hi (w : Way) (ss : List Stp) (v : Int) : Option Int := (ss.find? fun s => decide (v < s.l) && decide (s.b < F w ss v)).map Stp.l
def oI : Option Int → D
  | some i => .int i
  | none => .none
theorem v_highs (w : Way) (ss : List Stp) (ok : TOk ss) (v : Int) (h0 : 0 ≤ v) (h1 : v ≤ 1000000000000) : sem__law_highs [encT w ss, .int v] = .ret (.fz (oI (hi w ss v))) [] := by
  have v1 := v_law_fee w ss ok v h0 h1
  have loop : ∀ (rs : List Stp) (x : Sl), (∃ y, forD (gN 3) (sIf (tAndS (tstB (eBin gtD (eBin ixD (eVar 3) (eC (.int 0))) (eVar 1))) (tstB (eBin ltD (eBin ixD (eVar 3) (eC (.int 1))) (eVar 2)))) (sRet (eBin ixD (eVar 3) (eC (.int 0)))) sNx) (rs.map encS) [.fz (encT w ss), .fz (.int v), .fz (.int (F w ss v)), x] =
      (match rs.find? fun s => decide (v < s.l) && decide (s.b < F w ss v) with
        | some s => .rt (.val (.int s.l)) [.fz (encT w ss), .fz (.int v), .fz (.int (F w ss v)), y]
        | none => .nx [.fz (encT w ss), .fz (.int v), .fz (.int (F w ss v)), y])) := by
    intro rs
    induction rs with
    | nil => exact fun x => ⟨x, rfl⟩
    | cons r rs ih =>
      intro x
      rw [List.map_cons, forD_cons]
      by_cases c : v < r.l
      · by_cases c2 : r.b < F w ss v
        · refine ⟨.fz (encS r), ?_⟩
          rw [List.find?_cons_of_pos (by simp [c, c2])]
          simp [encS, c, c2]
        · obtain ⟨y, hy⟩ := ih (.fz (encS r))
          refine ⟨y, ?_⟩
          rw [List.find?_cons_of_neg (by simp [c, c2]), ← hy]
          simp [encS, c, c2]
      · obtain ⟨y, hy⟩ := ih (.fz (encS r))
        refine ⟨y, ?_⟩
        rw [List.find?_cons_of_neg (by simp [c]), ← hy]
        simp [encS, c]
  obtain ⟨y, hy⟩ := loop ss .un
  simp only [sem__law_highs, semOf, f__law_highs, entry, args]
  unfold encT at hy v1 ⊢
  unfold hi
  cases e : ss.find? fun s => decide (v < s.l) && decide (s.b < F w ss v) with
  | none =>
    rw [e] at hy
    simp [v1, hy, oI]
  | some s =>
    rw [e] at hy
    simp [v1, hy, oI]
end PL.K46
end
section
set_option Elab.async false
set_option linter.all false
set_option maxRecDepth 100000
set_option maxHeartbeats 2000000
set_option autoImplicit false
namespace PL.K46
open PySem PySem.Spec PyProof.Rows L2 PL

/-! ### first_above -/
theorem bisect (w : Way) (s : Stp) (ok : s.Ok) (bound : Int) (last : Int) (hl : last ≤ 1000000000000) : ∀ (n : Nat) (lo h : Int) (x : Sl), s.l ≤ lo → lo ≤ h → h ≤ last → h - lo < 2 ^ n → bound < fee w s h → (∀ y, s.l ≤ y → y < lo → fee w s y ≤ bound) →
    ∃ (z : Int) (y : Sl), whileD (tstB (eBin ltD (eVar 4) (eVar 5))) (sSeq (sSet 6 (eBin fdivD (eBin addD (eVar 4) (eVar 5)) (eC (.int 2)))) (sIf (tstB (eBin gtD (eCall [.d, .d, .d] sem_fee_in (aCons (eFz (eVar 0)) (aCons (eFz (eVar 1)) (aCons (eFz (eVar 6)) aNil)))) (eVar 3))) (sSet 5 (eVar 6)) (sSet 4 (eBin addD (eVar 6) (eC (.int 1)))))) (n + 1)
        [.fz (.str w.s), .fz (encS s), .fz (.int last), .fz (.int bound), .fz (.int lo), .fz (.int h), x] = .nx [.fz (.str w.s), .fz (encS s), .fz (.int last), .fz (.int bound), .fz (.int z), .fz (.int z), y] ∧ s.l ≤ z ∧ z ≤ last ∧ bound < fee w s z ∧ ∀ y, s.l ≤ y → y < z → fee w s y ≤ bound := by
  intro n
  induction n with
  | zero =>
    intro lo h x h1 h2 h3 h4 h5 h6
    have e : lo = h := by omega
    subst e
    refine ⟨lo, x, ?_, h1, h3, h5, h6⟩
    rw [while_succ]
    simp
  | succ n ih =>
    intro lo h x h1 h2 h3 h4 h5 h6
    rw [while_succ]
    by_cases c : lo < h
    · have f := fdivD_ii (i := lo + h) (j := 2) (by decide) (lim9000 (by decide) (by decide))
      obtain ⟨m, hm⟩ : ∃ m : Int, m = (lo + h) / 2 := ⟨_, rfl⟩
      have hm1 : lo ≤ m := by omega
      have hm2 : m < h := by omega
      have v := v_fee_in w s ok m (by omega) (by omega)
      rw [feeP_eq w s ok m] at v
      rw [← hm] at f
      have hp : h - lo < 2 * 2 ^ n := by
        have : (2 : Int) ^ (n + 1) = 2 * 2 ^ n := by rw [Int.pow_succ]; omega
        omega
      by_cases c2 : bound < fee w s m
      · obtain ⟨z, y, e, g⟩ := ih lo m (.fz (.int m)) h1 hm1 (by omega) (by omega) c2 h6
        refine ⟨z, y, ?_, g⟩
        rw [← e]
        simp [c, f, v, c2]
      · obtain ⟨z, y, e, g⟩ := ih (m + 1) h (.fz (.int m)) (by omega) (by omega) h3 (by omega) h5 (fun y hy hy2 => by
          rcases Int.lt_or_le y lo with q | q
          · exact h6 y hy q
          · have := fee_mono w s ok (show y ≤ m by omega)
            omega)
        refine ⟨z, y, ?_, g⟩
        rw [← e]
        simp [c, f, v, c2]
    · have e : lo = h := by omega
      subst e
      refine ⟨lo, x, ?_, h1, h3, h5, h6⟩
      simp
theorem v_first_above (w : Way) (s : Stp) (ok : s.Ok) (last bound : Int) (h1 : s.l ≤ last) (h2 : last ≤ 1000000000000) :
    (fee w s last ≤ bound ∧ sem_first_above [.str w.s, encS s, .int last, .int bound] = .ret (.fz .none) []) ∨
    ∃ z : Int, sem_first_above [.str w.s, encS s, .int last, .int bound] = .ret (.fz (.int z)) [] ∧ s.l ≤ z ∧ z ≤ last ∧ bound < fee w s z ∧ ∀ y, s.l ≤ y → y < z → fee w s y ≤ bound := by
  have v := v_fee_in w s ok last h1 h2
  rw [feeP_eq w s ok last] at v
  by_cases c : fee w s last ≤ bound
  · refine .inl ⟨c, ?_⟩
    simp only [sem_first_above, semOf, f_first_above, entry, args]
    simp [v, c]
  · obtain ⟨z, y, e, g⟩ := bisect w s ok bound last h2 99 s.l last .un (by omega) h1 (by omega) (by
      have := ok.l0
      have : (1000000000000 : Int) < 2 ^ 99 := by decide
      omega) (by omega) (fun y a b => by omega)
    refine .inr ⟨z, ?_, g⟩
    have hix : ixD (encS s) (.int 0) = some (.fz (.int s.l)) := rfl
    simp only [sem_first_above, semOf, f_first_above, entry, args]
    simp [v, c, hix, e]

/-! ### first_unfair -/
theorem cutD_from {xs : List D} {i : Int} (h : 0 ≤ i) : cutD xs (some i) none = xs.drop i.toNat := by
  unfold cutD
  have e1 : HT.sIx xs.length xs.length none = xs.length := rfl
  have e0 : HT.sIx xs.length 0 (some i) = min i.toNat xs.length := by
    show (if i < 0 then _ else _) = _
    rw [if_neg (by omega)]
  rw [e0, e1]
  rcases Nat.le_total i.toNat xs.length with g | g
  · rw [Nat.min_eq_left g]
    exact List.take_of_length_le (by simp)
  · rw [Nat.min_eq_right g, List.drop_eq_nil_of_le g]
    simp
theorem slD_from {xs : List D} {i : Int} (h : 0 ≤ i) : slD (.tuple xs) (some i) none = some (.fz (.tuple (xs.drop i.toNat))) := by
  show some (P1.fz (.tuple (cutD xs (some i) none))) = _
  rw [cutD_from h]
/-- the least base of some steps -/
def minB (ss : List Stp) : Option Int := fmin none (ss.map Stp.b)
theorem fmin_some : ∀ (ns : List Int) (b : Int), ∃ m, fmin (some b) ns = some m ∧ m ≤ b ∧ (∀ n ∈ ns, m ≤ n) ∧ (m = b ∨ m ∈ ns)
  | [], b => ⟨b, rfl, by omega, (fun _ h => nomatch h), .inl rfl⟩
  | n :: ns, b => by
    by_cases c : n < b
    · obtain ⟨m, e, h1, h2, h3⟩ := fmin_some ns n
      refine ⟨m, ?_, by omega, fun x hx => ?_, ?_⟩
      · show fmin (if n < b then some n else some b) ns = _
        rw [if_pos c]; exact e
      · rcases List.mem_cons.mp hx with z | z
        · omega
        · exact h2 x z
      · rcases h3 with z | z
        · exact .inr (by rw [z]; exact List.mem_cons_self)
        · exact .inr (List.mem_cons_of_mem _ z)
    · obtain ⟨m, e, h1, h2, h3⟩ := fmin_some ns b
      refine ⟨m, ?_, h1, fun x hx => ?_, ?_⟩
      · show fmin (if n < b then some n else some b) ns = _
        rw [if_neg c]; exact e
      · rcases List.mem_cons.mp hx with z | z
        · omega
        · exact h2 x z
      · rcases h3 with z | z
        · exact .inl z
        · exact .inr (List.mem_cons_of_mem _ z)
theorem minB_spec {ss : List Stp} (h : 0 < ss.length) : ∃ m, minB ss = some m ∧ (∀ s ∈ ss, m ≤ s.b) ∧ ∃ s ∈ ss, s.b = m := by
  cases ss with
  | nil => cases h
  | cons a r =>
    obtain ⟨m, e, h1, h2, h3⟩ := fmin_some (r.map Stp.b) a.b
    refine ⟨m, e, fun s hs => ?_, ?_⟩
    · rcases List.mem_cons.mp hs with z | z
      · rw [z]; exact h1
      · exact h2 _ (List.mem_map.mpr ⟨s, z, rfl⟩)
    · rcases h3 with z | z
      · exact ⟨a, List.mem_cons_self, z.symm⟩
      · obtain ⟨s, hs, e⟩ := List.mem_map.mp z
        exact ⟨s, List.mem_cons_of_mem _ hs, e⟩
theorem intsD_b : ∀ ss : List Stp, intsD (ss.map fun s => PyData.int s.b) = some (ss.map Stp.b)
  | [] => rfl
  | s :: ss => by
    show (match intsD (ss.map fun s => PyData.int s.b) with | some ns => some (s.b :: ns) | none => none) = _
    rw [intsD_b ss]
    rfl
/-- the steps behind the k-th -/
theorem later_of {ss : List Stp} (ok : TOk ss) {k : Nat} {s : Stp} {v : Int} (h : ss[k]? = some s) (h1 : s.l ≤ v) (h2 : ∀ t, ss[k + 1]? = some t → v < t.l) (f : Stp → Bool) : (ss.find? fun s => decide (v < s.l) && f s) = (ss.drop (k + 1)).find? f := by
  have key : ∀ (rs : List Stp) (k : Nat) (s : Stp), rs.Pairwise (fun a b => a.l < b.l) → rs[k]? = some s → s.l ≤ v → (∀ t, rs[k + 1]? = some t → v < t.l) → (rs.find? fun s => decide (v < s.l) && f s) = (rs.drop (k + 1)).find? f := by
    intro rs
    induction rs with
    | nil => intro k s _ h; cases h
    | cons a r ih =>
      intro k s hp h h1 h2
      cases k with
      | zero =>
        cases h
        rw [List.find?_cons_of_neg (by simp; intro z; omega)]
        show _ = r.find? f
        have all : ∀ t ∈ r, v < t.l := fun t ht => by
          cases r with
          | nil => cases ht
          | cons b r' =>
            have hb := h2 b rfl
            rcases List.mem_cons.mp ht with z | z
            · rw [z]; exact hb
            · have := (List.pairwise_cons.mp (List.pairwise_cons.mp hp).2).1 t z
              omega
        clear ih hp h2
        induction r with
        | nil => rfl
        | cons b r' ih2 =>
          have hb := all b List.mem_cons_self
          cases c : f b with
          | true => rw [List.find?_cons_of_pos (by simp [hb, c]), List.find?_cons_of_pos c]
          | false => rw [List.find?_cons_of_neg (by simp [c]), List.find?_cons_of_neg (by simp [c]), ih2 fun t ht => all t (List.mem_cons_of_mem _ ht)]
      | succ k =>
        have ha : a.l < s.l := (List.pairwise_cons.mp hp).1 s (List.mem_of_getElem? h)
        rw [List.find?_cons_of_neg (by simp; intro z; omega)]
        exact ih k s (List.pairwise_cons.mp hp).2 h h1 h2
  exact key ss k s ok.up h h1 h2
theorem hi_at {w : Way} {ss : List Stp} (ok : TOk ss) {k : Nat} {s : Stp} {v : Int} (h : ss[k]? = some s) (h1 : s.l ≤ v) (h2 : ∀ t, ss[k + 1]? = some t → v < t.l) : hi w ss v = ((ss.drop (k + 1)).find? fun t => decide (t.b < fee w s v)).map Stp.l := by
  unfold hi
  rw [F_at ok (fun f => pick_at f v ss k s ok.up h h1 h2), later_of ok h h1 h2]
/-- what first_unfair tells -/
def Told (w : Way) (ss : List Stp) : D → Prop
  | .none => ∀ y, 0 ≤ y → y ≤ 1000000000000 → hi w ss y = none
  | .tuple [.int x, .int h] => 0 ≤ x ∧ x ≤ 1000000000000 ∧ hi w ss x = some h ∧ ∀ y, 0 ≤ y → y < x → hi w ss y = none
  | _ => False
theorem minR_of {vs : List Nat} {ρ0 ρ2 : Env} {xs : List D} {ns : List Int} {r : Int} (h : intsD xs = some ns) (h2 : fmin none ns = some r) : minR vs ρ0 (.ok xs ρ2) = .ok (.val (.int r)) (restE ρ0 ρ2 vs) := by
  show (match intsD xs with
    | some ns => (match fmin none ns with
      | some r => R.ok (W.val (.int r)) (restE ρ0 ρ2 vs)
      | none => .bad)
    | none => .bad) = _
  rw [h]
  show (match fmin none ns with
      | some r => R.ok (W.val (.int r)) (restE ρ0 ρ2 vs)
      | none => .bad) = _
  rw [h2]
theorem ix_step {ss : List Stp} {k : Nat} {s : Stp} (h : ss[k]? = some s) : ixD (.tuple (ss.map encS)) (.int k) = some (.fz (encS s)) := ixD_t (by omega) (by simp [h])
theorem ix_l (s : Stp) : ixD (encS s) (.int 0) = some (.fz (.int s.l)) := rfl
theorem ix_b (s : Stp) : ixD (encS s) (.int 1) = some (.fz (.int s.b)) := rfl
/-- the loop that finds the later step -/
theorem find_loop (c w0 st k bd lo : Sl) (lo' : Int) (hlo : lo = .fz (.int lo')) (fe : Int) : ∀ (rs : List Stp) (x : Sl), ∃ y, forD (gN 7) (sIf (tstB (eBin ltD (eBin ixD (eVar 7) (eC (.int 1))) (eVar 6))) (sRet (eTup (aCons (eFz (eVar 5)) (aCons (eFz (eBin ixD (eVar 7) (eC (.int 0)))) aNil)))) sNx) (rs.map encS) [c, w0, st, k, bd, lo, .fz (.int fe), x] =
    (match rs.find? fun t => decide (t.b < fe) with
      | some t => .rt (.val (.tuple [.int lo', .int t.l])) [c, w0, st, k, bd, lo, .fz (.int fe), y]
      | none => .nx [c, w0, st, k, bd, lo, .fz (.int fe), y]) := by
  subst hlo
  intro rs
  induction rs with
  | nil => exact fun x => ⟨x, rfl⟩
  | cons r rs ih =>
    intro x
    rw [List.map_cons, forD_cons]
    by_cases d : r.b < fe
    · refine ⟨.fz (encS r), ?_⟩
      rw [List.find?_cons_of_pos (by simp [d])]
      simp [ix_l, ix_b, d]
    · obtain ⟨y, hy⟩ := ih (.fz (encS r))
      refine ⟨y, ?_⟩
      rw [List.find?_cons_of_neg (by simp [d]), ← hy]
      simp [ix_b, d]
def uBody : Env → So := sSeq (sSet 4 (eMinG [7] (iSq (eSl (eVar 2) (oSome (eBin addD (eVar 3) (eC (.int 1)))) oNone)) (gN 7) tYesS (eBin ixD (eVar 7) (eC (.int 1))))) (sSeq (sSet 5 (eCall [.d, .d, .d, .d] sem_first_above (aCons (eFz (eVar 1)) (aCons (eFz (eBin ixD (eVar 2) (eVar 3))) (aCons (eFz (eBin subD (eBin ixD (eBin ixD (eVar 2) (eBin addD (eVar 3) (eC (.int 1)))) (eC (.int 0))) (eC (.int 1)))) (aCons (eFz (eVar 4)) aNil)))))) (sIf (tstB (eBin isNotD (eVar 5) (eC .none))) (sSeq (sSet 6 (eCall [.d, .d, .d] sem_fee_in (aCons (eFz (eVar 1)) (aCons (eFz (eBin ixD (eVar 2) (eVar 3))) (aCons (eFz (eVar 5)) aNil))))) (sFor (iSq (eSl (eVar 2) (oSome (eBin addD (eVar 3) (eC (.int 1)))) oNone)) (gN 7) (sIf (tstB (eBin ltD (eBin ixD (eVar 7) (eC (.int 1))) (eVar 6))) (sRet (eTup (aCons (eFz (eVar 5)) (aCons (eFz (eBin ixD (eVar 7) (eC (.int 0)))) aNil)))) sNx))) sNx))
theorem pw_get {ss : List Stp} (ok : TOk ss) {i j : Nat} {s t : Stp} (hs : ss[i]? = some s) (ht : ss[j]? = some t) (h : i < j) : s.l < t.l := by
  obtain ⟨hi, e1⟩ := List.getElem?_eq_some_iff.mp hs
  obtain ⟨hj, e2⟩ := List.getElem?_eq_some_iff.mp ht
  have := List.pairwise_iff_getElem.mp ok.up i j hi hj h
  rw [e1, e2] at this
  exact this
theorem u_loop (w : Way) (ss : List Stp) (ok : TOk ss) : ∀ (m j : Nat) (x3 x4 x5 x6 x7 : Sl), j + m + 1 = ss.length → (∀ s, ss[j]? = some s → ∀ y, 0 ≤ y → y < s.l → hi w ss y = none) →
    (∃ ρ, forD (gN 3) uBody ((List.range' j m).map fun k => PyData.int (k : Nat)) [.fz (encT w ss), .fz (.str w.s), .fz (.tuple (ss.map encS)), x3, x4, x5, x6, x7] = .nx ρ ∧ (∃ s ρ', ρ = s :: ρ') ∧ Told w ss .none) ∨
    (∃ d ρ, forD (gN 3) uBody ((List.range' j m).map fun k => PyData.int (k : Nat)) [.fz (encT w ss), .fz (.str w.s), .fz (.tuple (ss.map encS)), x3, x4, x5, x6, x7] = .rt (.val d) ρ ∧ Told w ss d) := by
  intro m
  induction m with
  | zero =>
    intro j x3 x4 x5 x6 x7 hj hinv
    refine .inl ⟨_, rfl, ⟨_, _, rfl⟩, fun y h0 h1 => ?_⟩
    obtain ⟨s, hs⟩ : ∃ s, ss[j]? = some s := ⟨ss[j]'(by omega), by simp⟩
    rcases Int.lt_or_le y s.l with q | q
    · exact hinv s hs y h0 q
    · have hno : ss[j + 1]? = none := by rw [List.getElem?_eq_none]; omega
      rw [hi_at ok hs q (fun t ht => by rw [hno] at ht; cases ht), List.drop_eq_nil_of_le (by omega)]
      rfl
  | succ m ih =>
    intro j x3 x4 x5 x6 x7 hj hinv
    obtain ⟨s, hs⟩ : ∃ s, ss[j]? = some s := ⟨ss[j]'(by omega), by simp⟩
    obtain ⟨t, ht⟩ : ∃ t, ss[j + 1]? = some t := ⟨ss[j + 1]'(by omega), by simp⟩
    have sok := ok.ok s (List.mem_of_getElem? hs)
    have tok := ok.ok t (List.mem_of_getElem? ht)
    have hst : s.l < t.l := pw_get ok hs ht (by omega)
    rw [List.range'_succ, List.map_cons, forD_cons]
    -- the least base of the later steps
    obtain ⟨b, hb, hb1, sb, hsb, hb2⟩ := minB_spec (ss := ss.drop (j + 1)) (by rw [List.length_drop]; omega)
    have hmap := lcD_map (vs := [7]) (g := gN 7) (tt := tYesS) (te := eBin ixD (eVar 7) (eC (.int 1))) (ρ := [.fz (encT w ss), .fz (.str w.s), .fz (.tuple (ss.map encS)), .fz (.int (j : Nat)), x4, x5, x6, .un]) encS (fun _ => true) (fun s => PyData.int s.b) (fun r => ⟨[.fz (encT w ss), .fz (.str w.s), .fz (.tuple (ss.map encS)), .fz (.int (j : Nat)), x4, x5, x6, .fz (encS r)], by simp, .inl ⟨rfl, [.fz (encT w ss), .fz (.str w.s), .fz (.tuple (ss.map encS)), .fz (.int (j : Nat)), x4, x5, x6, .fz (encS r)], [.fz (encT w ss), .fz (.str w.s), .fz (.tuple (ss.map encS)), .fz (.int (j : Nat)), x4, x5, x6, .fz (encS r)], rfl, by simp [ix_b], by simp⟩⟩) (ss.drop (j + 1))
    rw [List.filter_eq_self.mpr (fun _ _ => rfl)] at hmap
    have hmin := minR_of (vs := [7]) (ρ0 := [.fz (encT w ss), .fz (.str w.s), .fz (.tuple (ss.map encS)), .fz (.int (j : Nat)), x4, x5, x6, x7]) (ρ2 := [.fz (encT w ss), .fz (.str w.s), .fz (.tuple (ss.map encS)), .fz (.int (j : Nat)), x4, x5, x6, .un]) (intsD_b (ss.drop (j + 1))) hb
    have hsl := slD_from (xs := ss.map encS) (i := (j : Int) + 1) (by omega)
    have ej : ((j : Int) + 1).toNat = j + 1 := by omega
    rw [ej, ← List.map_drop] at hsl
    have h1 := ix_step hs
    have h2 := ix_step ht
    have h2' : ixD (.tuple (ss.map encS)) (.int ((j : Int) + 1)) = some (.fz (encS t)) := h2
    have none_of : (∀ y, s.l ≤ y → y < t.l → fee w s y ≤ b) → ∀ r, ss[j + 1]? = some r → ∀ y, 0 ≤ y → y < r.l → hi w ss y = none := fun hf r hr y h0 hy => by
      rw [ht] at hr
      cases hr
      rcases Int.lt_or_le y s.l with q | q
      · exact hinv s hs y h0 q
      · rw [hi_at ok hs q (fun t' ht' => by rw [ht] at ht'; cases ht'; exact hy)]
        have : (ss.drop (j + 1)).find? (fun t => decide (t.b < fee w s y)) = none := List.find?_eq_none.mpr fun x hx => by
          have a1 := hb1 x hx
          have a2 := hf y q hy
          simp
          omega
        rw [this]
        rfl
    rcases v_first_above w s sok (t.l - 1) b (by omega) (by have := tok.l1; omega) with ⟨hf, hv⟩ | ⟨z, hv, z1, z2, z3, z4⟩
    · have hf2 : ∀ y, s.l ≤ y → y < t.l → fee w s y ≤ b := fun y a1 a2 => by
        have := fee_mono w s sok (show y ≤ t.l - 1 by omega)
        omega
      have step : gN 3 (.int (j : Nat)) [.fz (encT w ss), .fz (.str w.s), .fz (.tuple (ss.map encS)), x3, x4, x5, x6, x7] = some [.fz (encT w ss), .fz (.str w.s), .fz (.tuple (ss.map encS)), .fz (.int (j : Nat)), x4, x5, x6, x7] := by simp
      have body : uBody [.fz (encT w ss), .fz (.str w.s), .fz (.tuple (ss.map encS)), .fz (.int (j : Nat)), x4, x5, x6, x7] = .nx [.fz (encT w ss), .fz (.str w.s), .fz (.tuple (ss.map encS)), .fz (.int (j : Nat)), .fz (.int b), .fz .none, x6, x7] := by
        unfold uBody
        simp [-List.map_drop, hsl, hmap, hmin, h1, h2', ix_l, hv]
      rw [step, forT_some, body, forO_nx]
      exact ih (j + 1) _ _ _ _ _ (by omega) (none_of hf2)
    · have v := v_fee_in w s sok z z1 (by have := tok.l1; omega)
      rw [feeP_eq w s sok z] at v
      obtain ⟨y, hy⟩ := find_loop (.fz (encT w ss)) (.fz (.str w.s)) (.fz (.tuple (ss.map encS))) (.fz (.int (j : Nat))) (.fz (.int b)) (.fz (.int z)) z rfl (fee w s z) (ss.drop (j + 1)) x7
      have hh := hi_at (w := w) ok hs z1 (fun t' ht' => by rw [ht] at ht'; cases ht'; omega)
      cases ef : (ss.drop (j + 1)).find? (fun t => decide (t.b < fee w s z)) with
      | none =>
        have := List.find?_eq_none.mp ef sb hsb
        simp at this
        omega
      | some r =>
        rw [ef] at hy hh
        refine .inr ⟨.tuple [.int z, .int r.l], [.fz (encT w ss), .fz (.str w.s), .fz (.tuple (ss.map encS)), .fz (.int (j : Nat)), .fz (.int b), .fz (.int z), .fz (.int (fee w s z)), y], ?_, ?_⟩
        · have step : gN 3 (.int (j : Nat)) [.fz (encT w ss), .fz (.str w.s), .fz (.tuple (ss.map encS)), x3, x4, x5, x6, x7] = some [.fz (encT w ss), .fz (.str w.s), .fz (.tuple (ss.map encS)), .fz (.int (j : Nat)), x4, x5, x6, x7] := by simp
          rw [step, forT_some]
          unfold uBody
          simp [-List.map_drop, hsl, hmap, hmin, h1, h2', ix_l, hv, v, hy]
        · refine ⟨by have := sok.l0; omega, by have := tok.l1; omega, hh, fun y a1 a2 => ?_⟩
          rcases Int.lt_or_le y s.l with q | q
          · exact hinv s hs y a1 q
          · rw [hi_at ok hs q (fun t' ht' => by rw [ht] at ht'; cases ht'; omega)]
            have : (ss.drop (j + 1)).find? (fun t => decide (t.b < fee w s y)) = none := List.find?_eq_none.mpr fun x hx => by
              have a3 := hb1 x hx
              have a4 := z4 y q a2
              simp
              omega
            rw [this]
            rfl
theorem v_first_unfair (w : Way) (ss : List Stp) (ok : TOk ss) : ∃ d, sem_first_unfair [encT w ss] = .ret (.fz d) [] ∧ Told w ss d := by
  have hin : inR ((ss.length : Int) - 1) = true := by
    have := ok.pos
    have := ok.len
    unfold inR
    simp
    constructor <;> omega
  have hr : rngI 0 ((ss.length : Int) - 1) = (List.range' 0 (ss.length - 1)).map fun k => PyData.int (k : Nat) := by
    unfold rngI
    have e : ((ss.length : Int) - 1 - 0).toNat = ss.length - 1 := by omega
    rw [e, List.range_eq_range']
    exact List.map_congr_left fun k _ => by rw [Int.zero_add]
  have base : ∀ s, ss[0]? = some s → ∀ y, 0 ≤ y → y < s.l → hi w ss y = none := fun s hs y h0 h1 => by
    rw [ok.zero s hs] at h1
    omega
  have hp := ok.pos
  rcases u_loop w ss ok (ss.length - 1) 0 .un .un .un .un .un (by omega) base with ⟨ρ, e, ⟨s, ρ', rfl⟩, hT⟩ | ⟨d, ρ, e, hT⟩
  · refine ⟨.none, ?_, hT⟩
    simp only [sem_first_unfair, semOf, f_first_unfair, ← uBody.eq_1, entry, args]
    unfold encT at e ⊢
    simp [hin, hr, e]
  · refine ⟨d, ?_, hT⟩
    simp only [sem_first_unfair, semOf, f_first_unfair, ← uBody.eq_1, entry, args]
    unfold encT at e ⊢
    simp [hin, hr, e]
end PL.K46
end
section
set_option Elab.async false
set_option linter.all false
set_option maxRecDepth 100000
set_option maxHeartbeats 2000000
set_option autoImplicit false
namespace PL.K46
open PySem PySem.Spec PyProof.Rows L2 PL

theorem v_law_int (i : Int) : sem__law_int [.int i] = .ret (.fz (.bool true)) [] := by
  simp only [sem__law_int, semOf, f__law_int, entry, args]
  simp
/-! ### the law's great pairs -/
theorem fmap {w : Way} {ss : List Stp} {x h : Int} (e : hi w ss x = some h) : ∃ s ∈ ss, s.l = h ∧ x < h ∧ s.b < F w ss x := by
  unfold hi at e
  cases q : ss.find? fun s => decide (x < s.l) && decide (s.b < F w ss x) with
  | none => rw [q] at e; cases e
  | some s =>
    rw [q] at e
    cases e
    have h1 := List.find?_some q
    simp at h1
    exact ⟨s, List.mem_of_find?_eq_some q, rfl, h1.1, h1.2⟩
theorem ixT (a b : D) : ixD (.tuple [a, b]) (.int 1) = some (.fz b) := rfl
theorem gp_loop (w : Way) (ss : List Stp) (ok : TOk ss) (d : D) (bound : Int) (c : Bool) (lim : Int) (hd : isNoneD d = c) (hlim : c = false → ixD d (.int 0) = some (.fz (.int lim))) (hb : ∀ y, 0 ≤ y → y ≤ 1000000000000 → y + 1 ≤ bound → (c = false → y < lim) → hi w ss y = none) : ∀ (rs : List Stp) (x y z : Sl), (∀ s ∈ rs, 0 < s.l ∧ s.l ≤ 1000000000000) →
    ∃ x', forD (gN 4) (sIf (tAndS (tstB (eBin leD (eBin ixD (eVar 4) (eC (.int 0))) (eVar 3))) (tAndS (tstB (eBin isNotD (eCall [.d, .d] sem__law_highs (aCons (eFz (eVar 0)) (aCons (eFz (eBin subD (eBin ixD (eVar 4) (eC (.int 0))) (eC (.int 1)))) aNil))) (eC .none))) (tOrS (tstB (eBin isD (eVar 1) (eC .none))) (tstB (eBin ltD (eBin subD (eBin ixD (eVar 4) (eC (.int 0))) (eC (.int 1))) (eBin ixD (eVar 1) (eC (.int 0)))))))) (sRet (eC (.bool false))) sNx) (rs.map encS)
      [.fz (encT w ss), .fz d, .fz (.tuple (ss.map encS)), .fz (.int bound), x, y, z] = .nx [.fz (encT w ss), .fz d, .fz (.tuple (ss.map encS)), .fz (.int bound), x', y, z] := by
  intro rs
  induction rs with
  | nil => exact fun x y z _ => ⟨x, rfl⟩
  | cons r rs ih =>
    intro x y z hr
    rw [List.map_cons, forD_cons]
    obtain ⟨r0, r1⟩ := hr r List.mem_cons_self
    obtain ⟨x', hx⟩ := ih (.fz (encS r)) y z fun s hs => hr s (List.mem_cons_of_mem _ hs)
    refine ⟨x', ?_⟩
    rw [← hx]
    by_cases c1 : r.l ≤ bound
    · have v := v_highs w ss ok (r.l - 1) (by omega) (by omega)
      cases c with
      | true =>
        have hn := hb (r.l - 1) (by omega) (by omega) (by omega) (fun z => by cases z)
        rw [hn] at v
        simp [ix_l, c1, v, oI]
      | false =>
        have hl := hlim rfl
        by_cases c2 : r.l - 1 < lim
        · have hn := hb (r.l - 1) (by omega) (by omega) (by omega) (fun _ => c2)
          rw [hn] at v
          simp [ix_l, c1, v, oI]
        · cases hh : hi w ss (r.l - 1) with
          | none =>
            rw [hh] at v
            simp [ix_l, c1, v, oI]
          | some h =>
            rw [hh] at v
            simp [ix_l, c1, v, oI, hd, hl, c2]
    · simp [ix_l, c1]
theorem v_great_pair (w : Way) (ss : List Stp) (ok : TOk ss) (d : D) (h : Told w ss d) : sem__law_great_pair [encT w ss, d] = .ret (.fz (.bool true)) [] := by
  have hsl := slD_from (xs := ss.map encS) (i := 1) (by omega)
  have e1 : (1 : Int).toNat = 1 := rfl
  rw [e1, ← List.map_drop] at hsl
  have hpos : ∀ s ∈ ss.drop 1, 0 < s.l ∧ s.l ≤ 1000000000000 := fun s hs => by
    obtain ⟨i, hi', e⟩ := List.mem_iff_getElem.mp hs
    rw [List.length_drop] at hi'
    have hg : ss[i + 1]? = some s := by rw [← e, List.getElem_drop]; simp [Nat.add_comm]
    obtain ⟨s0, h0⟩ : ∃ s0, ss[0]? = some s0 := ⟨ss[0]'ok.pos, by simp [ok.pos]⟩
    have := pw_get ok h0 hg (by omega)
    rw [ok.zero s0 h0] at this
    exact ⟨this, (ok.ok s (List.mem_of_getElem? hg)).l1⟩
  have hixT : ixD (encT w ss) (.int 1) = some (.fz (.tuple (ss.map encS))) := rfl
  cases d with
  | none =>
    obtain ⟨x', hl⟩ := gp_loop w ss ok .none 1000000000000 true 0 rfl (fun z => by cases z) (fun y h0 h1 _ _ => h y h0 h1) (ss.drop 1) .un .un .un hpos
    generalize ss.drop 1 = rs at hsl hl
    simp only [sem__law_great_pair, semOf, f__law_great_pair, entry, args]
    simp [hixT, hsl, hl]
  | tuple xs =>
    match xs, h with
    | [.int x, .int hh], ⟨x0, x1, hx, hbelow⟩ =>
      obtain ⟨x', hl⟩ := gp_loop w ss ok (.tuple [.int x, .int hh]) x false x rfl (fun _ => rfl) (fun y h0 h1 h2 h3 => hbelow y h0 (h3 rfl)) (ss.drop 1) .un .un .un hpos
      obtain ⟨s, hs, e, hlt, _⟩ := fmap hx
      have v := v_highs w ss ok x x0 x1
      rw [hx] at v
      have hmap := lcD_map (vs := [4]) (g := gN 4) (tt := tYesS) (te := eBin ixD (eVar 4) (eC (.int 0))) (ρ := [.fz (encT w ss), .fz (.tuple [.int x, .int hh]), .fz (.tuple (ss.map encS)), .fz (.int x), .un, .fz (.int x), .fz (.int hh)]) encS (fun _ => true) (fun s => PyData.int s.l) (fun r => ⟨[.fz (encT w ss), .fz (.tuple [.int x, .int hh]), .fz (.tuple (ss.map encS)), .fz (.int x), .fz (encS r), .fz (.int x), .fz (.int hh)], by simp, .inl ⟨rfl, [.fz (encT w ss), .fz (.tuple [.int x, .int hh]), .fz (.tuple (ss.map encS)), .fz (.int x), .fz (encS r), .fz (.int x), .fz (.int hh)], [.fz (encT w ss), .fz (.tuple [.int x, .int hh]), .fz (.tuple (ss.map encS)), .fz (.int x), .fz (encS r), .fz (.int x), .fz (.int hh)], rfl, by simp [ix_l], by simp⟩⟩) ss
      rw [List.filter_eq_self.mpr (fun _ _ => rfl)] at hmap
      have hin := inD_ints x (ss.map Stp.l)
      have el : (ss.map Stp.l).map PyData.int = ss.map fun s => PyData.int s.l := by simp
      rw [el] at hin
      have hlen : ss.length ≤ 16777216 := by have := ok.len; omega
      have vi := v_law_int x
      have vj := v_law_int hh
      by_cases cm : x ∈ ss.map Stp.l
      · have hin' : inD (.int x) (.list (ss.map fun s => PyData.int s.l)) = some (.fz (.bool true)) := by rw [hin]; simp only [cm, decide_true]
        generalize ss.drop 1 = rs at hsl hl
        simp only [sem__law_great_pair, semOf, f__law_great_pair, entry, args]
        simp [hixT, hsl, hl, vi, vj, x0, hlt, v, oI, hmap, hlen, hin']
      · have hin' : inD (.int x) (.list (ss.map fun s => PyData.int s.l)) = some (.fz (.bool false)) := by rw [hin]; simp only [cm, decide_false]
        have xpos : 0 < x := by
          rcases Int.lt_or_le 0 x with q | q
          · exact q
          · exfalso
            have : x = 0 := by omega
            subst this
            obtain ⟨s0, h0⟩ : ∃ s0, ss[0]? = some s0 := ⟨ss[0]'ok.pos, by simp [ok.pos]⟩
            exact cm (List.mem_map.mpr ⟨s0, List.mem_of_getElem? h0, ok.zero s0 h0⟩)
        have v2 := v_highs w ss ok (x - 1) (by omega) (by omega)
        rw [hbelow (x - 1) (by omega) (by omega)] at v2
        generalize ss.drop 1 = rs at hsl hl
        simp only [sem__law_great_pair, semOf, f__law_great_pair, entry, args]
        simp [hixT, hsl, hl, vi, vj, x0, hlt, v, v2, oI, hmap, hlen, hin']
  | bool b => exact h.elim
  | int i => exact h.elim
  | str x => exact h.elim
  | list xs => exact h.elim
  | dict kvs => exact h.elim
end PL.K46
end
section
set_option Elab.async false
set_option linter.all false
set_option maxRecDepth 100000
set_option maxHeartbeats 2000000
set_option autoImplicit false
namespace PL.K46
open PySem PySem.Spec PyProof.Rows L2 PL

/-! ### all pairs -/
theorem F_le {w : Way} {ss : List Stp} (ok : TOk ss) {x y : Int} (h0 : 0 ≤ x) (hxy : x ≤ y) (h : ∀ s ∈ ss, x < s.l → s.l ≤ y → F w ss x ≤ s.b) : F w ss x ≤ F w ss y := by
  obtain ⟨i, s, a1, a2, a3, sok, hp⟩ := ok.place h0
  obtain ⟨j, t, b1, b2, b3, tok, hq⟩ := ok.place (v := y) (by omega)
  rw [F_at ok hq]
  rcases Int.lt_or_le x t.l with q | q
  · have := h t (List.mem_of_getElem? b1) q b2
    have m := fee_mono w t tok b2
    rw [fee_start w t tok] at m
    omega
  · have e : ∀ f, pick f ss x = t := fun f => pick_at f x ss j t ok.up b1 q (fun t' ht' => by have := b3 t' ht'; omega)
    rw [F_at ok e]
    exact fee_mono w t tok hxy
theorem F_start {w : Way} {ss : List Stp} (ok : TOk ss) {s : Stp} (hs : s ∈ ss) : F w ss s.l = s.b := by
  obtain ⟨k, hk, e⟩ := List.mem_iff_getElem.mp hs
  have e' : ss[k]? = some s := by rw [← e]; simp [hk]
  have := F_at (w := w) ok (v := s.l) (s := s) (fun f => pick_at f s.l ss k s ok.up e' (by omega) (fun t ht => pw_get ok e' ht (by omega)))
  rw [this, fee_start w s (ok.ok s hs)]
theorem no_pair {w : Way} {ss : List Stp} (ok : TOk ss) {x : Int} (h0 : 0 ≤ x) (h : hi w ss x = none) {y : Int} (hxy : x < y) : F w ss x ≤ F w ss y := by
  refine F_le ok h0 (by omega) fun s hs h1 h2 => ?_
  have : (ss.find? fun s => decide (x < s.l) && decide (s.b < F w ss x)) = none := by
    unfold hi at h
    cases q : ss.find? fun s => decide (x < s.l) && decide (s.b < F w ss x) with
    | none => rfl
    | some s => rw [q] at h; cases h
  have z := List.find?_eq_none.mp this s hs
  simp at z
  exact z h1
theorem find_before {α : Type} {p : α → Bool} : ∀ {xs : List α} {a : α}, xs.find? p = some a → ∃ as bs, xs = as ++ a :: bs ∧ ∀ x ∈ as, p x = false
  | [], a, h => by cases h
  | x :: xs, a, h => by
    cases hp : p x with
    | true =>
      rw [List.find?_cons_of_pos hp] at h
      cases h
      exact ⟨[], xs, rfl, fun _ h => by cases h⟩
    | false =>
      rw [List.find?_cons_of_neg (by simp [hp])] at h
      obtain ⟨as, bs, rfl, h2⟩ := find_before h
      refine ⟨x :: as, bs, rfl, fun y hy => ?_⟩
      rcases List.mem_cons.mp hy with z | z
      · rw [z]; exact hp
      · exact h2 y z
theorem the_pair {w : Way} {ss : List Stp} (ok : TOk ss) {x h : Int} (h0 : 0 ≤ x) (e : hi w ss x = some h) : x < h ∧ F w ss h < F w ss x ∧ ∀ y, x < y → y < h → F w ss x ≤ F w ss y := by
  unfold hi at e
  cases q : ss.find? fun s => decide (x < s.l) && decide (s.b < F w ss x) with
  | none => rw [q] at e; cases e
  | some s =>
    rw [q] at e
    cases e
    have h1 := List.find?_some q
    simp at h1
    have hs := List.mem_of_find?_eq_some q
    refine ⟨h1.1, by rw [F_start ok hs]; exact h1.2, fun y a b => ?_⟩
    obtain ⟨as, bs, e, hb⟩ := find_before q
    refine F_le ok h0 (by omega) fun t ht t1 t2 => ?_
    rw [e] at ht
    rcases List.mem_append.mp ht with z | z
    · have := hb t z
      simp [t1] at this
      exact this
    · have hup := ok.up
      rw [e] at hup
      have := (List.pairwise_append.mp hup).2.1
      rcases List.mem_cons.mp z with z | z
      · rw [z] at t2; omega
      · have := (List.pairwise_cons.mp this).1 t z
        omega
/-- the fees of small values -/
def fees (w : Way) (ss : List Stp) : List D := (List.range 60).map fun k => PyData.int (F w ss (k : Nat))
theorem fees_at (w : Way) (ss : List Stp) {i : Int} (h0 : 0 ≤ i) (h : i < 60) : ixD (.list (fees w ss)) (.int i) = some (.fz (.int (F w ss i))) := by
  refine ixD_l h0 ?_
  unfold fees
  rw [List.getElem?_map, List.getElem?_range (by omega)]
  show some (PyData.int (F w ss ((i.toNat : Nat) : Int))) = _
  rw [Int.toNat_of_nonneg h0]
def inner : Env → So := sIf (tstB (eBin gtD (eBin ixD (eVar 1) (eVar 2)) (eBin ixD (eVar 1) (eVar 3)))) (sRet (eTup (aCons (eFz (eVar 2)) (aCons (eFz (eVar 3)) aNil)))) sNx
theorem inner_none (w : Way) (ss : List Stp) (T : Sl) (lo : Int) (l0 : 0 ≤ lo) (l1 : lo < 60) : ∀ (n : Nat) (h : Int) (x y : Sl), lo < h → h + n ≤ 60 → (∀ z, lo < z → z < 60 → F w ss lo ≤ F w ss z) →
    ∃ x', forD (gN 3) inner ((List.range n).map fun k => PyData.int (h + (k : Nat))) [T, .fz (.list (fees w ss)), .fz (.int lo), x, y] = .nx [T, .fz (.list (fees w ss)), .fz (.int lo), x', y] := by
  intro n
  induction n with
  | zero => exact fun h x y _ _ _ => ⟨x, rfl⟩
  | succ n ih =>
    intro h x y h1 h2 h3
    rw [List.range_succ_eq_map, List.map_cons, forD_cons, List.map_map]
    obtain ⟨x', e⟩ := ih (h + 1) (.fz (.int h)) y (by omega) (by omega) h3
    refine ⟨x', ?_⟩
    have em : ((List.range n).map ((fun k => PyData.int (h + (k : Nat))) ∘ Nat.succ)) = (List.range n).map fun k => PyData.int (h + 1 + (k : Nat)) := List.map_congr_left fun k _ => by
      show PyData.int (h + ((k + 1 : Nat) : Int)) = _
      congr 1
      omega
    rw [em, ← e]
    have f1 := fees_at w ss l0 l1
    have f2 := fees_at w ss (i := h) (by omega) (by omega)
    have c : ¬ F w ss h < F w ss lo := by have := h3 h h1 (by omega); omega
    have e0 : h + ((0 : Nat) : Int) = h := by omega
    rw [e0]
    simp [inner, f1, f2, c]
theorem inner_some (w : Way) (ss : List Stp) (T : Sl) (lo hh : Int) (l0 : 0 ≤ lo) (l1 : lo < hh) (h60 : hh < 60) (hlt : F w ss hh < F w ss lo) : ∀ (n : Nat) (h : Int) (x y : Sl), lo < h → h ≤ hh → hh < h + n → h + n ≤ 60 → (∀ z, lo < z → z < hh → F w ss lo ≤ F w ss z) →
    ∃ ρ, forD (gN 3) inner ((List.range n).map fun k => PyData.int (h + (k : Nat))) [T, .fz (.list (fees w ss)), .fz (.int lo), x, y] = .rt (.val (.tuple [.int lo, .int hh])) ρ := by
  intro n
  induction n with
  | zero => intro h x y h1 h2 h3; omega
  | succ n ih =>
    intro h x y h1 h2 h3 h5 h4
    rw [List.range_succ_eq_map, List.map_cons, forD_cons, List.map_map]
    have em : ((List.range n).map ((fun k => PyData.int (h + (k : Nat))) ∘ Nat.succ)) = (List.range n).map fun k => PyData.int (h + 1 + (k : Nat)) := List.map_congr_left fun k _ => by
      show PyData.int (h + ((k + 1 : Nat) : Int)) = _
      congr 1
      omega
    have e0 : h + ((0 : Nat) : Int) = h := by omega
    rw [em, e0]
    have f1 := fees_at w ss (i := lo) l0 (by omega)
    have f2 := fees_at w ss (i := h) (by omega) (by omega)
    by_cases c : h = hh
    · subst c
      refine ⟨[T, .fz (.list (fees w ss)), .fz (.int lo), .fz (.int h), y], ?_⟩
      simp [inner, f1, f2, hlt]
    · have c2 : ¬ F w ss h < F w ss lo := by have := h4 h h1 (by omega); omega
      obtain ⟨ρ, e⟩ := ih (h + 1) (.fz (.int h)) y (by omega) (by omega) (by omega) (by omega) h4
      refine ⟨ρ, ?_⟩
      rw [← e]
      simp [inner, f1, f2, c2]
def outer : Env → So := sFor (iR2 (aCons (eNrm (eBin addD (eVar 2) (eC (.int 1)))) (aCons (eNrm (eC (.int 60))) aNil))) (gN 3) inner
theorem outer_step (w : Way) (ss : List Stp) (T : Sl) (lo : Int) (l0 : 0 ≤ lo) (l1 : lo < 60) (x y : Sl) : outer [T, .fz (.list (fees w ss)), .fz (.int lo), x, y] = forD (gN 3) inner ((List.range (60 - (lo + 1)).toNat).map fun k => PyData.int (lo + 1 + (k : Nat))) [T, .fz (.list (fees w ss)), .fz (.int lo), x, y] := by
  have h1 : (inR (lo + 1) && inR 60) = true := by
    unfold inR
    simp
    constructor <;> omega
  have h2 : inR (lo + 1) = true := (Bool.and_eq_true_iff.mp h1).1
  have h3 : inR 60 = true := (Bool.and_eq_true_iff.mp h1).2
  unfold outer
  simp [h2, h3, rngI]
theorem outer_loop (w : Way) (ss : List Stp) (ok : TOk ss) (T : Sl) (d : D) (hT : Told w ss d) (hsm : ∀ s ∈ ss, s.l ≤ 48) : ∀ (n : Nat) (lo : Int) (x3 x4 y : Sl), 0 ≤ lo → lo + n = 60 → (∀ x h, d = .tuple [.int x, .int h] → lo ≤ x) →
    (d = .none ∧ ∃ ρ, forD (gN 2) outer ((List.range n).map fun k => PyData.int (lo + (k : Nat))) [T, .fz (.list (fees w ss)), x3, x4, y] = .nx ρ ∧ ∃ s ρ', ρ = s :: ρ') ∨ (∃ ρ, forD (gN 2) outer ((List.range n).map fun k => PyData.int (lo + (k : Nat))) [T, .fz (.list (fees w ss)), x3, x4, y] = .rt (.val d) ρ) := by
  intro n
  induction n with
  | zero =>
    intro lo x3 x4 y h0 h1 h2
    cases d with
    | none => exact .inl ⟨rfl, _, rfl, _, _, rfl⟩
    | tuple xs =>
      exfalso
      match xs, hT with
      | [.int x, .int h], ⟨a, b, c, e⟩ =>
        have := h2 x h rfl
        obtain ⟨s, hs, q1, q2, _⟩ := fmap c
        have := hsm s hs
        omega
    | bool b => exact hT.elim
    | int i => exact hT.elim
    | str x => exact hT.elim
    | list xs => exact hT.elim
    | dict kvs => exact hT.elim
  | succ n ih =>
    intro lo x3 x4 y h0 h1 h2
    rw [List.range_succ_eq_map, List.map_cons, forD_cons, List.map_map]
    have em : ((List.range n).map ((fun k => PyData.int (lo + (k : Nat))) ∘ Nat.succ)) = (List.range n).map fun k => PyData.int (lo + 1 + (k : Nat)) := List.map_congr_left fun k _ => by
      show PyData.int (lo + ((k + 1 : Nat) : Int)) = _
      congr 1
      omega
    have e0 : lo + ((0 : Nat) : Int) = lo := by omega
    rw [em, e0]
    have hg : gN 2 (.int lo) [T, .fz (.list (fees w ss)), x3, x4, y] = some [T, .fz (.list (fees w ss)), .fz (.int lo), x4, y] := by simp
    rw [hg, forT_some, outer_step w ss T lo h0 (by omega)]
    have skip : hi w ss lo = none → (∀ x h, d = .tuple [.int x, .int h] → lo + 1 ≤ x) → (d = .none ∧ ∃ ρ, forO (gN 2) outer ((List.range n).map fun k => PyData.int (lo + 1 + (k : Nat))) (forD (gN 3) inner ((List.range (60 - (lo + 1)).toNat).map fun k => PyData.int (lo + 1 + (k : Nat))) [T, .fz (.list (fees w ss)), .fz (.int lo), x4, y]) = .nx ρ ∧ ∃ s ρ', ρ = s :: ρ') ∨
        (∃ ρ, forO (gN 2) outer ((List.range n).map fun k => PyData.int (lo + 1 + (k : Nat))) (forD (gN 3) inner ((List.range (60 - (lo + 1)).toNat).map fun k => PyData.int (lo + 1 + (k : Nat))) [T, .fz (.list (fees w ss)), .fz (.int lo), x4, y]) = .rt (.val d) ρ) := fun hn hx => by
      obtain ⟨x', e⟩ := inner_none w ss T lo h0 (by omega) (60 - (lo + 1)).toNat (lo + 1) x4 y (by omega) (by omega) (fun z a b => no_pair ok h0 hn a)
      rw [e, forO_nx]
      exact ih (lo + 1) _ _ _ (by omega) (by omega) hx
    cases d with
    | none => exact skip (hT lo h0 (by omega)) (fun x h e => by cases e)
    | tuple xs =>
      match xs, hT with
      | [.int x, .int h], ⟨a, b, c, e⟩ =>
        by_cases q : lo = x
        · subst q
          obtain ⟨p1, p2, p3⟩ := the_pair ok a c
          obtain ⟨s, hs, q1, q2, _⟩ := fmap c
          have := hsm s hs
          obtain ⟨ρ, e2⟩ := inner_some w ss T lo h h0 p1 (by omega) p2 (60 - (lo + 1)).toNat (lo + 1) x4 y (by omega) (by omega) (by omega) (by omega) p3
          exact .inr ⟨ρ, by rw [e2, forO_rt]⟩
        · have := h2 x h rfl
          exact skip (e lo h0 (by omega)) (fun x' h' e' => by cases e'; omega)
    | bool b => exact hT.elim
    | int i => exact hT.elim
    | str x => exact hT.elim
    | list xs => exact hT.elim
    | dict kvs => exact hT.elim
theorem v_all_pairs (w : Way) (ss : List Stp) (ok : TOk ss) (d : D) (hT : Told w ss d) (hsm : ∀ s ∈ ss, s.l ≤ 48) : sem__law_all_pairs [encT w ss] = .ret (.fz d) [] := by
  have hmapN : ∀ ks : List Nat, (∀ k ∈ ks, k < 60) → lcD [4] (gN 4) tYesS (eCall [.d, .d] sem__law_fee (aCons (eFz (eVar 0)) (aCons (eFz (eVar 4)) aNil))) (ks.map fun k => PyData.int (0 + (k : Nat))) [.fz (encT w ss), .un, .un, .un, .un] = .ok (ks.map fun k => PyData.int (F w ss (k : Nat))) [.fz (encT w ss), .un, .un, .un, .un] := by
    intro ks
    induction ks with
    | nil => exact fun _ => rfl
    | cons k ks ih =>
      intro hk
      have v := v_law_fee w ss ok (k : Nat) (by omega) (by have := hk k List.mem_cons_self; omega)
      rw [List.map_cons, lcD_cons]
      have hg : gN 4 (.int (0 + (k : Nat))) [.fz (encT w ss), .un, .un, .un, .un] = some [.fz (encT w ss), .un, .un, .un, .fz (.int (k : Nat))] := by simp
      rw [hg]
      have hte : eFz (eCall [.d, .d] sem__law_fee (aCons (eFz (eVar 0)) (aCons (eFz (eVar 4)) aNil))) [.fz (encT w ss), .un, .un, .un, .fz (.int (k : Nat))] = .ok (.val (.int (F w ss (k : Nat)))) [.fz (encT w ss), .un, .un, .un, .fz (.int (k : Nat))] := by simp [v]
      unfold lcT
      have hw : wipeE [.fz (encT w ss), .un, .un, .un, .fz (.int (k : Nat))] [4] = [.fz (encT w ss), .un, .un, .un, .un] := rfl
      simp only [tYes_eq, hte, hw, ih fun x hx => hk x (List.mem_cons_of_mem _ hx)]
      rfl
  have hm := hmapN (List.range 60) fun k hk => List.mem_range.mp hk
  have hin : inR 60 = true := by decide
  have hr : rngI 0 60 = (List.range 60).map fun k => PyData.int (0 + (k : Nat)) := rfl
  have hbase : ∀ x h, d = .tuple [.int x, .int h] → (0 : Int) ≤ x := fun x h e => by
    subst e
    exact hT.1
  have hlen : (fees w ss).length ≤ 16777216 := by unfold fees; simp
  have hm' : lcD [4] (gN 4) tYesS (eCall [.d, .d] sem__law_fee (aCons (eFz (eVar 0)) (aCons (eFz (eVar 4)) aNil))) (rngI 0 60) [.fz (encT w ss), .un, .un, .un, .un] = .ok (fees w ss) [.fz (encT w ss), .un, .un, .un, .un] := hm
  have hl := outer_loop w ss ok (.fz (encT w ss)) d hT hsm 60 0 .un .un .un (by omega) (by omega) hbase
  rw [← hr] at hl
  generalize hR : rngI 0 60 = R60 at hm' hl
  have eo : sFor (iR2 (aCons (eNrm (eBin addD (eVar 2) (eC (.int 1)))) (aCons (eNrm (eC (.int 60))) aNil))) (gN 3) (sIf (tstB (eBin gtD (eBin ixD (eVar 1) (eVar 2)) (eBin ixD (eVar 1) (eVar 3)))) (sRet (eTup (aCons (eFz (eVar 2)) (aCons (eFz (eVar 3)) aNil)))) sNx) = outer := rfl
  rcases hl with ⟨hd, ρ, e, s, ρ', er⟩ | ⟨ρ, e⟩
  · subst hd
    subst er
    simp only [sem__law_all_pairs, semOf, f__law_all_pairs, entry, args, eo]
    simp [hm', hin, e, hlen, hR]
  · simp only [sem__law_all_pairs, semOf, f__law_all_pairs, entry, args, eo]
    simp [hm', hin, e, hlen, hR]
end PL.K46
end
section
set_option Elab.async false
set_option linter.all false
set_option maxRecDepth 100000
set_option maxHeartbeats 2000000
set_option autoImplicit false
namespace PL.K46
open PySem PySem.Spec PyProof.Rows L2 PL

/-! ### what is a tariff -/
theorem v_number (x a b : Int) : sem_is_number [.int x, .int a, .int b] = .ret (.fz (.bool (decide (a ≤ x) && decide (x ≤ b)))) [] := by
  simp only [sem_is_number, semOf, f_is_number, entry, args]
  by_cases h : a ≤ x <;> simp [h]
theorem v_money (x : Int) : sem_is_money [.int x] = .ret (.fz (.bool (decide (0 ≤ x) && decide (x ≤ 1000000000000)))) [] := by
  simp only [sem_is_money, semOf, f_is_money, entry, args]
  simp [v_number]
theorem v_money_b (x : Bool) : sem_is_money [.bool x] = .ret (.fz (.bool false)) [] := by
  simp only [sem_is_money, semOf, f_is_money, entry, args]
  have : sem_is_number [.bool x, .int 0, .int 1000000000000] = .ret (.fz (.bool false)) [] := by
    simp only [sem_is_number, semOf, f_is_number, entry, args]
    have h1 : isiD "int" (.bool x) = true := rfl
    have h2 : isiD "bool" (.bool x) = true := rfl
    simp [h1, h2]
  simp [this]
def frB (p q : Int) : Bool := decide (-1000000000000000000000000000000000000000000000000000000000000 ≤ p) && decide (p ≤ 1000000000000000000000000000000000000000000000000000000000000) && (decide (1 ≤ q) && decide (q ≤ 1000000000000000000000000000000000000000000000000000000000000) && (gg p q == 1))
theorem v_fraction (p q : Int) : sem_is_fraction [.tuple [.int p, .int q]] = .ret (.fz (.bool (frB p q))) [] := by
  simp only [sem_is_fraction, semOf, f_is_fraction, entry, args]
  have hf : ∀ x : Sl, forD (gN 3) (sIf (tOrS (tNotS (tstV (eIsi "int" (eVar 3)))) (tstV (eIsi "bool" (eVar 3)))) (sRet (eC (.bool false))) sNx) [.int p, .int q] [.fz (.tuple [.int p, .int q]), .fz (.int p), .fz (.int q), x] = .nx [.fz (.tuple [.int p, .int q]), .fz (.int p), .fz (.int q), .fz (.int q)] := fun x => by
    simp [forD_cons, forD_nil]
  by_cases a1 : (-1000000000000000000000000000000000000000000000000000000000000 : Int) ≤ p
  · by_cases a2 : p ≤ 1000000000000000000000000000000000000000000000000000000000000
    · by_cases a3 : 1 ≤ q
      · by_cases a4 : q ≤ 1000000000000000000000000000000000000000000000000000000000000
        · simp [hf, frB, a1, a2, a3, a4, gg]
        · simp [hf, frB, a1, a2, a3, a4]
      · simp [hf, frB, a1, a2, a3]
    · simp [hf, frB, a1, a2]
  · simp [hf, frB, a1]
theorem ch3_le {fa fb fc fd : Env → R W} {ρ : Env} {a b c d : Int} (h1 : eNrm fa ρ = .ok (.val (.int a)) ρ) (h2 : eNrm fb ρ = .ok (.val (.int b)) ρ) (h3 : eNrm fc ρ = .ok (.val (.int c)) ρ) (h4 : eNrm fd ρ = .ok (.val (.int d)) ρ) :
    eCh3 leD leD leD fa fb fc fd ρ = .ok (.val (.bool (decide (a ≤ b) && decide (b ≤ c) && decide (c ≤ d)))) ρ := by
  have hd : ∀ d : D, W.dat ρ (.val d) = some d := fun _ => rfl
  have hb : ∀ x : Bool, boolP (some (P1.fz (.bool x))) = some x := fun _ => rfl
  have ho : ∀ x : Bool, outP (some (P1.fz (.bool x))) ρ = .ok (.val (.bool x)) ρ := fun _ => rfl
  unfold eCh3
  by_cases q1 : a ≤ b
  · by_cases q2 : b ≤ c
    · simp only [h1, h2, h3, h4, R.bind, hd, leD_ii, hb, ho, q1, q2, decide_true, Bool.true_and]
    · simp only [h1, h2, h3, h4, R.bind, hd, leD_ii, hb, ho, q1, q2, decide_true, decide_false, Bool.true_and, Bool.false_and]
  · simp only [h1, h2, h3, h4, R.bind, hd, leD_ii, hb, ho, q1, decide_true, decide_false, Bool.true_and, Bool.false_and]
def rtB (p q : Int) : Bool := frB p q && (decide (0 ≤ p) && decide (p ≤ q) && decide (q ≤ 10000))
theorem v_rate (p q : Int) : sem_is_rate [.tuple [.int p, .int q]] = .ret (.fz (.bool (rtB p q))) [] := by
  have v := v_fraction p q
  simp only [sem_is_rate, semOf, f_is_rate, entry, args]
  unfold rtB
  cases h : frB p q with
  | false => rw [h] at v; simp [v]
  | true =>
    rw [h] at v
    have c := ch3_le (fa := eC (.int 0)) (fb := eBin ixD (eVar 0) (eC (.int 0))) (fc := eBin ixD (eVar 0) (eC (.int 1))) (fd := eC (.int 10000)) (ρ := [.fz (.tuple [.int p, .int q])]) (a := 0) (b := p) (c := q) (d := 10000) (by simp) (by simp) (by simp) (by simp)
    simp [v, c]
def moB (x : Int) : Bool := decide (0 ≤ x) && decide (x ≤ 1000000000000)
theorem v_step (l b p q : Int) : sem_is_step [.tuple [.int l, .int b, .tuple [.int p, .int q]]] = .ret (.fz (.bool (moB l && (moB b && rtB p q)))) [] := by
  have v1 := v_money l
  have v2 := v_money b
  have v3 := v_rate p q
  rw [show (decide (0 ≤ l) && decide (l ≤ 1000000000000)) = moB l from rfl] at v1
  rw [show (decide (0 ≤ b) && decide (b ≤ 1000000000000)) = moB b from rfl] at v2
  simp only [sem_is_step, semOf, f_is_step, entry, args]
  cases h1 : moB l <;> cases h2 : moB b <;> (rw [h1] at v1; rw [h2] at v2; simp [v1, v2, v3])
theorem v_step_b (l : Int) (b : Bool) (r : D) : sem_is_step [.tuple [.int l, .bool b, r]] = .ret (.fz (.bool false)) [] := by
  have v1 := v_money l
  have v2 := v_money_b b
  rw [show (decide (0 ≤ l) && decide (l ≤ 1000000000000)) = moB l from rfl] at v1
  simp only [sem_is_step, semOf, f_is_step, entry, args]
  cases h1 : moB l <;> (rw [h1] at v1; simp [v1, v2])
theorem v_step_2 (a b : D) : sem_is_step [.tuple [a, b]] = .ret (.fz (.bool false)) [] := by
  simp only [sem_is_step, semOf, f_is_step, entry, args]
  simp
theorem v_step_l (xs : List D) : sem_is_step [.list xs] = .ret (.fz (.bool false)) [] := by
  simp only [sem_is_step, semOf, f_is_step, entry, args]
  have : isiD "tuple" (.list xs) = false := rfl
  simp [this]
theorem v_step_ok (s : Stp) (ok : s.Ok) : sem_is_step [encS s] = .ret (.fz (.bool true)) [] := by
  have v := v_step s.l s.b s.p s.q
  obtain ⟨l0, l1, b0, b1, p0, pq, q0, q1, g⟩ := ok
  have h1 : moB s.l = true := by simp [moB, l0, l1]
  have h2 : moB s.b = true := by simp [moB, b0, b1]
  have h3 : rtB s.p s.q = true := by
    have g' : (gg s.p s.q == 1) = true := by simp [gg, g]
    unfold rtB frB
    rw [g']
    simp
    omega
  rw [h1, h2, h3] at v
  exact v
/-- tariffs of any steps -/
theorem v_tar_len (w : Way) (xs : List D) (h : xs.length = 0 ∨ 12 < xs.length) : sem_is_tariff [.tuple [.str w.s, .tuple xs]] = .ret (.fz (.bool false)) [] := by
  have hw : notInD (.str w.s) d_WAYS = some (.fz (.bool false)) := by cases w <;> rfl
  simp only [sem_is_tariff, semOf, f_is_tariff, entry, args]
  by_cases h1 : (1 : Int) ≤ xs.length
  · have h2 : ¬ (xs.length : Int) ≤ 12 := by omega
    simp [hw, h1, h2]
  · simp [hw, h1]
theorem v_tar_bad (w : Way) (xs : List D) (p : D → Bool) (hp : ∀ x ∈ xs, sem_is_step [x] = .ret (.fz (.bool (p x))) []) (h : xs.all p = false) : sem_is_tariff [.tuple [.str w.s, .tuple xs]] = .ret (.fz (.bool false)) [] := by
  have hw : notInD (.str w.s) d_WAYS = some (.fz (.bool false)) := by cases w <;> rfl
  have hg := genD_all (vs := [3]) (g := gN 3) (te := eCall [.d] sem_is_step (aCons (eFz (eVar 3)) aNil)) (ρ := [.fz (.tuple [.str w.s, .tuple xs]), .fz (.str w.s), .fz (.tuple xs), .un, .un]) p xs (fun d hd => ⟨[.fz (.tuple [.str w.s, .tuple xs]), .fz (.str w.s), .fz (.tuple xs), .fz d, .un], [.fz (.tuple [.str w.s, .tuple xs]), .fz (.str w.s), .fz (.tuple xs), .fz d, .un], by simp, by simp [hp d hd], rfl⟩)
  by_cases h1 : (1 : Int) ≤ xs.length
  · by_cases h2 : (xs.length : Int) ≤ 12
    · rw [h] at hg
      simp only [sem_is_tariff, semOf, f_is_tariff, entry, args]
      simp [hw, h1, h2, hg]
    · exact v_tar_len w xs (by omega)
  · exact v_tar_len w xs (by omega)
end PL.K46
end
section
set_option Elab.async false
set_option linter.all false
set_option maxRecDepth 100000
set_option maxHeartbeats 2000000
set_option autoImplicit false
namespace PL.K46
open PySem PySem.Spec PyProof.Rows L2 PL

def lowAt (ss : List Stp) (k : Nat) : Int := match ss[k]? with
  | some s => s.l
  | none => 0
def lessD (ss : List Stp) : D → Bool
  | .int k => decide (lowAt ss k.toNat < lowAt ss (k.toNat + 1))
  | _ => false
theorem inR_nat {n : Nat} (h : n ≤ 1000) : inR (n : Int) = true := by
  have a : -(2 ^ 62) ≤ (n : Int) := by omega
  have b : (n : Int) < 2 ^ 62 := by omega
  unfold inR
  rw [decide_eq_true a, decide_eq_true b]
  rfl
theorem rng0 (n : Nat) : rngI 0 (n : Int) = (List.range n).map fun k => PyData.int ((k : Nat) : Int) := by
  show (List.range ((n : Int) - 0).toNat).map (fun k => PyData.int (0 + ((k : Nat) : Int))) = _
  rw [show ((n : Int) - 0).toNat = n by omega]
  exact List.map_congr_left fun k _ => by rw [Int.zero_add]
theorem v_tar_up (w : Way) (ss : List Stp) (h1 : 1 ≤ ss.length) (h2 : ss.length ≤ 12) (hs : ∀ s ∈ ss, sem_is_step [encS s] = .ret (.fz (.bool true)) []) (b : Bool)
    (hb : (∃ s, ss[0]? = some s ∧ s.l ≠ 0) ∧ b = false ∨ (∃ s, ss[0]? = some s ∧ s.l = 0) ∧ b = ((List.range (ss.length - 1)).map fun k => PyData.int ((k : Nat) : Int)).all (lessD ss)) : sem_is_tariff [encT w ss] = .ret (.fz (.bool b)) [] := by
  have hw : notInD (.str w.s) d_WAYS = some (.fz (.bool false)) := by cases w <;> rfl
  have hg := genD_all (vs := [3]) (g := gN 3) (te := eCall [.d] sem_is_step (aCons (eFz (eVar 3)) aNil)) (ρ := [.fz (encT w ss), .fz (.str w.s), .fz (.tuple (ss.map encS)), .un, .un]) (fun _ => true) (ss.map encS) (fun d hd => ⟨[.fz (encT w ss), .fz (.str w.s), .fz (.tuple (ss.map encS)), .fz d, .un], [.fz (encT w ss), .fz (.str w.s), .fz (.tuple (ss.map encS)), .fz d, .un], by simp, by
    obtain ⟨s, q1, q2⟩ := List.mem_map.mp hd
    simp [← q2, hs s q1], rfl⟩)
  have ha : ((ss.map encS).all fun _ => true) = true := by simp
  rw [ha] at hg
  have i1 : (1 : Int) ≤ (ss.length : Int) := by omega
  have i2 : (ss.length : Int) ≤ 12 := by omega
  have hu : ∀ k : List D → Option Env, True := fun _ => trivial
  have ht : isiD "tuple" (encT w ss) = true := rfl
  have hl : lenD [encT w ss] = some (.fz (.int 2)) := rfl
  obtain ⟨s0, e0⟩ : ∃ s, ss[0]? = some s := ⟨ss[0]'(by omega), by simp⟩
  have x0 : ixD (.tuple (ss.map encS)) (.int 0) = some (.fz (encS s0)) := ix_step (k := 0) e0
  have sub : ((ss.length : Int) - 1) = ((ss.length - 1 : Nat) : Int) := by omega
  have inr : inR ((ss.length - 1 : Nat) : Int) = true := inR_nat (by omega)
  have hg2 := genD_all (vs := [4]) (g := gN 4) (te := eBin ltD (eBin ixD (eBin ixD (eVar 2) (eVar 4)) (eC (.int 0))) (eBin ixD (eBin ixD (eVar 2) (eBin addD (eVar 4) (eC (.int 1)))) (eC (.int 0)))) (ρ := [.fz (encT w ss), .fz (.str w.s), .fz (.tuple (ss.map encS)), .un, .un]) (lessD ss) ((List.range (ss.length - 1)).map fun k => PyData.int ((k : Nat) : Int)) (fun d hd => by
    obtain ⟨k, q1, q2⟩ := List.mem_map.mp hd
    have q1 := List.mem_range.mp q1
    subst q2
    obtain ⟨s, es⟩ : ∃ s, ss[k]? = some s := ⟨ss[k]'(by omega), by simp⟩
    obtain ⟨t, et⟩ : ∃ t, ss[k + 1]? = some t := ⟨ss[k + 1]'(by omega), by simp⟩
    have xs := ix_step es
    have xt := ix_step et
    have ek : ((k : Int) + 1) = ((k + 1 : Nat) : Int) := by omega
    refine ⟨[.fz (encT w ss), .fz (.str w.s), .fz (.tuple (ss.map encS)), .un, .fz (.int (k : Nat))], [.fz (encT w ss), .fz (.str w.s), .fz (.tuple (ss.map encS)), .un, .fz (.int (k : Nat))], by simp, ?_, rfl⟩
    have e : lessD ss (.int (k : Nat)) = decide (s.l < t.l) := by
      show decide (lowAt ss ((k : Int).toNat) < lowAt ss ((k : Int).toNat + 1)) = _
      rw [Int.toNat_natCast]
      unfold lowAt
      rw [es, et]
    rw [e]
    simp [xs, ix_l, ek, xt, -Int.natCast_add])
  rw [← rng0] at hg2
  have un : ∀ ρ : Env, True := fun _ => trivial
  simp only [sem_is_tariff, semOf, f_is_tariff, entry, args]
  have e1 : encT w ss = .tuple [.str w.s, .tuple (ss.map encS)] := rfl
  rcases hb with ⟨⟨s, z1, z2⟩, rfl⟩ | ⟨⟨s, z1, z2⟩, rfl⟩
  · rw [e0] at z1
    cases z1
    rw [e1] at hg ⊢
    simp [hw, i1, i2, hg, x0, ix_l, z2]
  · rw [e0] at z1
    cases z1
    rw [← rng0]
    rw [e1] at hg hg2 ⊢
    rw [← sub] at inr hg2 ⊢
    have hlen : (ss.map encS).length = ss.length := List.length_map ..
    rw [← hlen] at i1 i2 inr hg2 ⊢
    generalize ss.map encS = X at hg hg2 i1 i2 inr x0 ⊢
    generalize hR : rngI 0 ((X.length : Int) - 1) = R at hg2 ⊢
    generalize R.all (lessD ss) = B at hg2 ⊢
    simp [hw, i1, i2, hg, x0, ix_l, z2, inr, hR, hg2]
end PL.K46
end
section
set_option Elab.async false
set_option linter.all false
set_option maxRecDepth 100000
set_option maxHeartbeats 2000000
set_option autoImplicit false
namespace PL.K46
open PySem PySem.Spec PyProof.Rows L2 PL

theorem v_tar_ok (w : Way) (ss : List Stp) (ok : TOk ss) : sem_is_tariff [encT w ss] = .ret (.fz (.bool true)) [] := by
  obtain ⟨s0, e0⟩ : ∃ s, ss[0]? = some s := ⟨ss[0]'ok.pos, by simp⟩
  refine v_tar_up w ss ok.pos ok.len (fun s hs => v_step_ok s (ok.ok s hs)) true (.inr ⟨⟨s0, e0, ok.zero s0 e0⟩, ?_⟩)
  symm
  rw [List.all_eq_true]
  intro d hd
  obtain ⟨k, q1, q2⟩ := List.mem_map.mp hd
  have q1 := List.mem_range.mp q1
  subst q2
  obtain ⟨s, es⟩ : ∃ s, ss[k]? = some s := ⟨ss[k]'(by omega), by simp⟩
  obtain ⟨t, et⟩ : ∃ t, ss[k + 1]? = some t := ⟨ss[k + 1]'(by omega), by simp⟩
  show decide (lowAt ss ((k : Int).toNat) < lowAt ss ((k : Int).toNat + 1)) = true
  rw [Int.toNat_natCast]
  unfold lowAt
  rw [es, et]
  exact decide_eq_true (pw_get ok es et (by omega))
theorem v_tar_first (w : Way) (s : Stp) (ok : s.Ok) (h : s.l ≠ 0) : sem_is_tariff [encT w [s]] = .ret (.fz (.bool false)) [] :=
  v_tar_up w [s] (by simp) (by simp) (fun t ht => by rw [List.mem_singleton.mp ht]; exact v_step_ok s ok) false (.inl ⟨⟨s, rfl, h⟩, rfl⟩)
theorem v_tar_dup (w : Way) (ss : List Stp) (ok : TOk ss) (s : Stp) (h : ss.getLast? = some s) : sem_is_tariff [encT w (ss ++ [s])] = .ret (.fz (.bool false)) [] := by
  have hpos := ok.pos
  by_cases c : ss.length = 12
  · have := v_tar_len w ((ss ++ [s]).map encS) (.inr (by simp; omega))
    exact this
  have hlen := ok.len
  have es : ss[ss.length - 1]? = some s := by rw [← List.getLast?_eq_getElem?]; exact h
  have hs : s ∈ ss := List.mem_of_getElem? es
  obtain ⟨s0, e0⟩ : ∃ s, ss[0]? = some s := ⟨ss[0]'ok.pos, by simp⟩
  have e0' : (ss ++ [s])[0]? = some s0 := by rw [List.getElem?_append_left hpos]; exact e0
  refine v_tar_up w (ss ++ [s]) (by simp) (by simp; omega) (fun t ht => ?_) false (.inr ⟨⟨s0, e0', ok.zero s0 e0⟩, ?_⟩)
  · rcases List.mem_append.mp ht with z | z
    · exact v_step_ok t (ok.ok t z)
    · rw [List.mem_singleton.mp z]; exact v_step_ok s (ok.ok s hs)
  · symm
    rw [List.all_eq_false]
    refine ⟨.int ((ss.length - 1 : Nat) : Int), List.mem_map.mpr ⟨ss.length - 1, List.mem_range.mpr (by simp; omega), rfl⟩, ?_⟩
    show ¬ decide (lowAt (ss ++ [s]) (((ss.length - 1 : Nat) : Int).toNat) < lowAt (ss ++ [s]) (((ss.length - 1 : Nat) : Int).toNat + 1)) = true
    rw [Int.toNat_natCast]
    have a1 : (ss ++ [s])[ss.length - 1]? = some s := by rw [List.getElem?_append_left (by omega)]; exact es
    have a2 : (ss ++ [s])[ss.length - 1 + 1]? = some s := by rw [show ss.length - 1 + 1 = ss.length by omega, List.getElem?_append_right (by omega)]; simp
    unfold lowAt
    rw [a1, a2]
    simp
/-! shapes that are no tariffs -/
theorem no_way (x : D) (r : D) (h : x = .str "Down" ∨ x = .none) : sem_is_tariff [.tuple [x, r]] = .ret (.fz (.bool false)) [] := by
  have hw : notInD (.str "Down") d_WAYS = some (.fz (.bool true)) := rfl
  have hn : isiD "str" .none = false := rfl
  simp only [sem_is_tariff, semOf, f_is_tariff, entry, args]
  rcases h with rfl | rfl
  · simp [hw]
  · simp [hn]
theorem no_list (w : Way) (xs : List D) : sem_is_tariff [.tuple [.str w.s, .list xs]] = .ret (.fz (.bool false)) [] := by
  have hw : notInD (.str w.s) d_WAYS = some (.fz (.bool false)) := by cases w <;> rfl
  have hn : isiD "tuple" (.list xs) = false := rfl
  simp only [sem_is_tariff, semOf, f_is_tariff, entry, args]
  simp [hw, hn]
theorem no_three (a b c : D) : sem_is_tariff [.tuple [a, b, c]] = .ret (.fz (.bool false)) [] := by
  simp only [sem_is_tariff, semOf, f_is_tariff, entry, args]
  simp
theorem no_tuple (x : D) (h : isiD "tuple" x = false) : sem_is_tariff [x] = .ret (.fz (.bool false)) [] := by
  simp only [sem_is_tariff, semOf, f_is_tariff, entry, args]
  simp [h]
/-- good steps behind which a bad one stands -/
theorem no_bad (w : Way) (ss : List Stp) (ok : ∀ s ∈ ss, s.Ok) (x : D) (hx : sem_is_step [x] = .ret (.fz (.bool false)) []) : sem_is_tariff [.tuple [.str w.s, .tuple (ss.map encS ++ [x])]] = .ret (.fz (.bool false)) [] := by
  classical
  by_cases c : ∃ s ∈ ss, encS s = x
  · obtain ⟨s, q1, q2⟩ := c
    have := v_step_ok s (ok s q1)
    rw [q2, hx] at this
    cases this
  refine v_tar_bad w _ (fun d => decide (d ≠ x)) (fun d hd => ?_) ?_
  · rcases List.mem_append.mp hd with z | z
    · obtain ⟨s, q1, q2⟩ := List.mem_map.mp z
      have : d ≠ x := fun e => c ⟨s, q1, q2.trans e⟩
      rw [decide_eq_true this, ← q2]
      exact v_step_ok s (ok s q1)
    · rw [List.mem_singleton.mp z, hx]
      simp
  · rw [List.all_append]
    simp
theorem bad_rate (l b p q : Int) (h : rtB p q = false) : sem_is_step [.tuple [.int l, .int b, .tuple [.int p, .int q]]] = .ret (.fz (.bool false)) [] := by
  have := v_step l b p q
  rw [h] at this
  simpa using this
theorem bad_base (l b p q : Int) (h : moB b = false) : sem_is_step [.tuple [.int l, .int b, .tuple [.int p, .int q]]] = .ret (.fz (.bool false)) [] := by
  have := v_step l b p q
  rw [h] at this
  simpa using this
theorem bad_low (l b p q : Int) (h : moB l = false) : sem_is_step [.tuple [.int l, .int b, .tuple [.int p, .int q]]] = .ret (.fz (.bool false)) [] := by
  have := v_step l b p q
  rw [h] at this
  simpa using this
theorem rt1 : rtB 2 4 = false := by decide +kernel
theorem rt2 : rtB 3 2 = false := by decide +kernel
theorem rt3 : rtB 1 10001 = false := by decide +kernel
theorem rt4 : rtB (-1) 2 = false := by decide +kernel
end PL.K46
end
section
set_option Elab.async false
set_option linter.all false
set_option maxRecDepth 100000
set_option maxHeartbeats 2000000
set_option autoImplicit false
namespace PL.K46
open PySem PySem.Spec PyProof.Rows L2 PL

def wl : Env → R W := eLst (aCons (eFz (eTup (aCons (eFz (eC (.str "Down"))) (aCons (eFz (eVar 3)) aNil)))) (aCons (eFz (eTup (aCons (eFz (eC .none)) (aCons (eFz (eVar 3)) aNil)))) (aCons (eFz (eTup (aCons (eFz (eVar 2)) (aCons (eFz (eN listD (aCons (eNrm (eVar 3)) aNil))) aNil)))) (aCons (eFz (eTup (aCons (eFz (eVar 2)) (aCons (eFz (eTup aNil)) aNil)))) (aCons (eFz (eTup (aCons (eFz (eVar 2)) (aCons (eFz (eVar 3)) (aCons (eFz (eC (.int 0))) aNil))))) (aCons (eFz (eLst (aCons (eFz (eVar 2)) (aCons (eFz (eVar 3)) aNil)))) (aCons (eFz (eVar 2)) (aCons (eFz (eC .none)) (aCons (eFz (eTup (aCons (eFz (eVar 2)) (aCons (eFz (eBin addD (eVar 7) (eTup (aCons (eFz (eTup (aCons (eFz (eVar 4)) (aCons (eFz (eVar 5)) (aCons (eFz (eTup (aCons (eFz (eC (.int 2))) (aCons (eFz (eC (.int 4))) aNil)))) aNil))))) aNil)))) aNil)))) (aCons (eFz (eTup (aCons (eFz (eVar 2)) (aCons (eFz (eBin addD (eVar 7) (eTup (aCons (eFz (eTup (aCons (eFz (eVar 4)) (aCons (eFz (eVar 5)) (aCons (eFz (eTup (aCons (eFz (eC (.int 3))) (aCons (eFz (eC (.int 2))) aNil)))) aNil))))) aNil)))) aNil)))) (aCons (eFz (eTup (aCons (eFz (eVar 2)) (aCons (eFz (eBin addD (eVar 7) (eTup (aCons (eFz (eTup (aCons (eFz (eVar 4)) (aCons (eFz (eVar 5)) aNil)))) aNil)))) aNil)))) (aCons (eFz (eTup (aCons (eFz (eVar 2)) (aCons (eFz (eBin addD (eVar 7) (eTup (aCons (eFz (eTup (aCons (eFz (eVar 4)) (aCons (eFz (eVar 5)) (aCons (eFz (eTup (aCons (eFz (eC (.int 1))) (aCons (eFz (eC (.int 10001))) aNil)))) aNil))))) aNil)))) aNil)))) (aCons (eFz (eTup (aCons (eFz (eVar 2)) (aCons (eFz (eBin addD (eVar 7) (eTup (aCons (eFz (eTup (aCons (eFz (eVar 4)) (aCons (eFz (eUn negD (eC (.int 1)))) (aCons (eFz (eVar 6)) aNil))))) aNil)))) aNil)))) (aCons (eFz (eTup (aCons (eFz (eVar 2)) (aCons (eFz (eBin addD (eVar 7) (eTup (aCons (eFz (eLst (aCons (eFz (eVar 4)) (aCons (eFz (eVar 5)) (aCons (eFz (eVar 6)) aNil))))) aNil)))) aNil)))) (aCons (eFz (eTup (aCons (eFz (eVar 2)) (aCons (eFz (eBin addD (eVar 7) (eTup (aCons (eFz (eTup (aCons (eFz (eVar 4)) (aCons (eFz (eBin addD (eBin powD (eC (.int 10)) (eC (.int 12))) (eC (.int 1)))) (aCons (eFz (eVar 6)) aNil))))) aNil)))) aNil)))) (aCons (eFz (eTup (aCons (eFz (eVar 2)) (aCons (eFz (eBin addD (eVar 7) (eTup (aCons (eFz (eTup (aCons (eFz (eVar 4)) (aCons (eFz (eC (.bool true))) (aCons (eFz (eVar 6)) aNil))))) aNil)))) aNil)))) (aCons (eFz (eTup (aCons (eFz (eVar 2)) (aCons (eFz (eBin addD (eVar 3) (eTup (aCons (eFz (eTup (aCons (eFz (eVar 4)) (aCons (eFz (eVar 5)) (aCons (eFz (eVar 6)) aNil))))) aNil)))) aNil)))) (aCons (eFz (eTup (aCons (eFz (eVar 2)) (aCons (eFz (eTup (aCons (eFz (eTup (aCons (eFz (eC (.int 1))) (aCons (eFz (eVar 5)) (aCons (eFz (eVar 6)) aNil))))) aNil))) aNil)))) (aCons (eFz (eTup (aCons (eFz (eVar 2)) (aCons (eFz (eBin addD (eVar 3) (eTup (aCons (eFz (eTup (aCons (eFz (eBin addD (eBin powD (eC (.int 10)) (eC (.int 12))) (eC (.int 1)))) (aCons (eFz (eVar 5)) (aCons (eFz (eVar 6)) aNil))))) aNil)))) aNil)))) (aCons (eFz (eTup (aCons (eFz (eVar 2)) (aCons (eFz (eBin addD (eVar 7) (eTup (aCons (eFz (eTup (aCons (eFz (eVar 4)) (aCons (eFz (eVar 5)) (aCons (eFz (eTup (aCons (eFz (eUn negD (eC (.int 1)))) (aCons (eFz (eC (.int 2))) aNil)))) aNil))))) aNil)))) aNil)))) aNil))))))))))))))))))))
def wb : Env → So := sIf (tstB (eBin isNotD (eCall [.d] sem_is_tariff (aCons (eFz (eVar 9)) aNil)) (eC (.bool false)))) (sRet (eC (.bool false))) sNx
def cm (n : Int) : Env → R W := eLc [10] (iR1 (aCons (eNrm (eC (.int n))) aNil)) (gN 10) tYesS (eTup (aCons (eFz (eVar 10)) (aCons (eFz (eVar 5)) (aCons (eFz (eVar 6)) aNil))))
def fw : Env → So := sSeq (sUn [gN 2, gN 3] (eVar 0)) (sSeq (sUn [gN 4, gN 5, gN 6] (eBin ixD (eVar 3) (eUn negD (eC (.int 1))))) (sSeq (sSet 7 (eSl (eVar 3) oNone (oSome (eUn negD (eC (.int 1)))))) (sSeq (sSet 8 wl) (sSeq (sFor (iSq (eVar 8)) (gN 9) wb) (sRet (eAndB (eBin isD (eCall [.d] sem_is_tariff (aCons (eFz (eTup (aCons (eFz (eVar 2)) (aCons (eFz (eN tupleD (aCons (eNrm (cm 12)) aNil))) aNil)))) aNil)) (eC (.bool true))) (eBin isD (eCall [.d] sem_is_tariff (aCons (eFz (eTup (aCons (eFz (eVar 2)) (aCons (eFz (eN tupleD (aCons (eNrm (cm 13)) aNil))) aNil)))) aNil)) (eC (.bool false)))))))))
theorem fw_eq : f__law_wrong = fw := rfl
def st (w : Way) (xs : List D) : D := .tuple [.str w.s, .tuple xs]
def wrongs (w : Way) (hs : List Stp) (s : Stp) : List D :=
  [.tuple [.str "Down", .tuple (hs.map encS ++ [encS s])], .tuple [.none, .tuple (hs.map encS ++ [encS s])], .tuple [.str w.s, .list (hs.map encS ++ [encS s])], .tuple [.str w.s, .tuple []],
   .tuple [.str w.s, .tuple (hs.map encS ++ [encS s]), .int 0], .list [.str w.s, .tuple (hs.map encS ++ [encS s])], .str w.s, .none,
   st w (hs.map encS ++ [.tuple [.int s.l, .int s.b, .tuple [.int 2, .int 4]]]),
   st w (hs.map encS ++ [.tuple [.int s.l, .int s.b, .tuple [.int 3, .int 2]]]),
   st w (hs.map encS ++ [.tuple [.int s.l, .int s.b]]),
   st w (hs.map encS ++ [.tuple [.int s.l, .int s.b, .tuple [.int 1, .int 10001]]]),
   st w (hs.map encS ++ [.tuple [.int s.l, .int (-1), encR s]]),
   st w (hs.map encS ++ [.list [.int s.l, .int s.b, encR s]]),
   st w (hs.map encS ++ [.tuple [.int s.l, .int 1000000000001, encR s]]),
   st w (hs.map encS ++ [.tuple [.int s.l, .bool true, encR s]]),
   st w ((hs.map encS ++ [encS s]) ++ [encS s]),
   st w [.tuple [.int 1, .int s.b, encR s]],
   st w ((hs.map encS ++ [encS s]) ++ [.tuple [.int 1000000000001, .int s.b, encR s]]),
   st w (hs.map encS ++ [.tuple [.int s.l, .int s.b, .tuple [.int (-1), .int 2]]])]
theorem wrongs_no (w : Way) (hs : List Stp) (s : Stp) (ok : TOk (hs ++ [s])) : ∀ d ∈ wrongs w hs s, sem_is_tariff [d] = .ret (.fz (.bool false)) [] := by
  have okh : ∀ t ∈ hs, t.Ok := fun t ht => ok.ok t (List.mem_append_left _ ht)
  have oks : s.Ok := ok.ok s (by simp)
  have em : hs.map encS ++ [encS s] = (hs ++ [s]).map encS := by simp
  have m1 : moB (-1) = false := by decide
  have m2 : moB 1000000000001 = false := by decide
  have hl : (hs ++ [s]).getLast? = some s := by simp
  intro d hd
  simp only [wrongs, List.mem_cons, List.not_mem_nil, or_false] at hd
  rcases hd with rfl | rfl | rfl | rfl | rfl | rfl | rfl | rfl | rfl | rfl | rfl | rfl | rfl | rfl | rfl | rfl | rfl | rfl | rfl | rfl
  · exact no_way _ _ (.inl rfl)
  · exact no_way _ _ (.inr rfl)
  · exact no_list w _
  · exact v_tar_len w [] (.inl rfl)
  · exact no_three _ _ _
  · exact no_tuple _ rfl
  · exact no_tuple _ rfl
  · exact no_tuple _ rfl
  · exact no_bad w hs okh _ (bad_rate _ _ _ _ rt1)
  · exact no_bad w hs okh _ (bad_rate _ _ _ _ rt2)
  · exact no_bad w hs okh _ (v_step_2 _ _)
  · exact no_bad w hs okh _ (bad_rate _ _ _ _ rt3)
  · exact no_bad w hs okh _ (bad_base _ _ _ _ m1)
  · exact no_bad w hs okh _ (v_step_l _)
  · exact no_bad w hs okh _ (bad_base _ _ _ _ m2)
  · exact no_bad w hs okh _ (v_step_b _ _ _)
  · have := v_tar_dup w (hs ++ [s]) ok s hl
    rw [em]
    have e : st w ((hs ++ [s]).map encS ++ [encS s]) = encT w ((hs ++ [s]) ++ [s]) := by unfold st encT; simp
    rw [e]
    exact this
  · exact v_tar_first w ⟨1, s.b, s.p, s.q⟩ ⟨by show (0 : Int) ≤ 1; omega, by show (1 : Int) ≤ _; omega, oks.b0, oks.b1, oks.p0, oks.pq, oks.q0, oks.q1, oks.g⟩ (by show (1 : Int) ≠ 0; omega)
  · rw [em]
    exact no_bad w (hs ++ [s]) ok.ok _ (bad_low _ _ _ _ m2)
  · exact no_bad w hs okh _ (bad_rate _ _ _ _ rt4)
theorem w_loop (T : D) (ys : List D) (a b c d e f g : Sl) (y : Sl) : ∀ (ds : List D) (x : Sl), (∀ d ∈ ds, sem_is_tariff [d] = .ret (.fz (.bool false)) []) →
    ∃ x', forD (gN 9) wb ds [.fz T, .io 0 ys, a, b, c, d, e, f, g, x, y] = .nx [.fz T, .io 0 ys, a, b, c, d, e, f, g, x', y] := by
  intro ds
  induction ds with
  | nil => exact fun x _ => ⟨x, rfl⟩
  | cons v ds ih =>
    intro x h
    obtain ⟨x', hx⟩ := ih (.fz v) fun d hd => h d (List.mem_cons_of_mem _ hd)
    refine ⟨x', ?_⟩
    rw [forD_cons, ← hx]
    simp [wb, h v List.mem_cons_self]
def rep (s : Stp) (n : Nat) : List Stp := (List.range n).map fun k => ⟨(k : Nat), s.b, s.p, s.q⟩
theorem rep_ok (s : Stp) (ok : s.Ok) {n : Nat} (h : 1 ≤ n) (h2 : n ≤ 12) : TOk (rep s n) := by
  refine ⟨by simp [rep]; omega, by simp [rep]; omega, fun t ht => ?_, fun t ht => ?_, ?_⟩
  · obtain ⟨k, q1, q2⟩ := List.mem_map.mp ht
    have q1 := List.mem_range.mp q1
    subst q2
    exact ⟨by show (0 : Int) ≤ (k : Nat); omega, by show ((k : Nat) : Int) ≤ _; omega, ok.b0, ok.b1, ok.p0, ok.pq, ok.q0, ok.q1, ok.g⟩
  · unfold rep at ht
    rw [List.getElem?_map, List.getElem?_range (by omega)] at ht
    cases ht
    rfl
  · unfold rep
    rw [List.pairwise_map]
    exact (List.pairwise_lt_range).imp fun {a b} h => by show ((a : Nat) : Int) < (b : Nat); omega
theorem iR1_n {fa : Env → R (List W)} {ρ : Env} {n : Int} (h : fa ρ = .ok [.o (.fz (.int n))] ρ) (hin : inR n = true) : iR1 fa ρ = .ok (rngI 0 n) ρ := by
  unfold iR1
  rw [h]
  show (if inR n = true then R.ok (rngI 0 n) ρ else .bad) = _
  rw [if_pos hin]
theorem v_cm (s : Stp) (n : Nat) (hn : n ≤ 1000) (T : D) (ys : List D) (a b c f g x : Sl) : cm (n : Int) [.fz T, .io 0 ys, a, b, c, .fz (.int s.b), .fz (encR s), f, g, x, .un] = .ok (.o (.fl ((rep s n).map encS))) [.fz T, .io 0 ys, a, b, c, .fz (.int s.b), .fz (encR s), f, g, x, .un] := by
  have hl := lcD_map (vs := [10]) (g := gN 10) (tt := tYesS) (te := eTup (aCons (eFz (eVar 10)) (aCons (eFz (eVar 5)) (aCons (eFz (eVar 6)) aNil)))) (ρ := [.fz T, .io 0 ys, a, b, c, .fz (.int s.b), .fz (encR s), f, g, x, .un]) (fun k : Nat => PyData.int ((k : Nat) : Int)) (fun _ => true) (fun k : Nat => encS ⟨(k : Nat), s.b, s.p, s.q⟩)
    (fun k => ⟨[.fz T, .io 0 ys, a, b, c, .fz (.int s.b), .fz (encR s), f, g, x, .fz (.int ((k : Nat) : Int))], by simp, .inl ⟨rfl, [.fz T, .io 0 ys, a, b, c, .fz (.int s.b), .fz (encR s), f, g, x, .fz (.int ((k : Nat) : Int))], [.fz T, .io 0 ys, a, b, c, .fz (.int s.b), .fz (encR s), f, g, x, .fz (.int ((k : Nat) : Int))], rfl, by simp; rfl, rfl⟩⟩) (List.range n)
  rw [← rng0] at hl
  have hf : ((List.range n).filter fun _ => true) = List.range n := by simp
  rw [hf] at hl
  have hr : (List.range n).map (fun k : Nat => encS ⟨(k : Nat), s.b, s.p, s.q⟩) = (rep s n).map encS := by
    unfold rep
    rw [List.map_map]
    rfl
  rw [hr] at hl
  have hlen : ((rep s n).map encS).length ≤ 16777216 := by simp [rep]; omega
  generalize (rep s n).map encS = X at hl hlen ⊢
  have hin := inR_nat hn
  have h1 := iR1_n (fa := aCons (eNrm (eC (.int (n : Int)))) aNil) (ρ := [.fz T, .io 0 ys, a, b, c, .fz (.int s.b), .fz (encR s), f, g, x, .un]) (n := (n : Int)) (by simp) hin
  unfold cm
  rw [ev_lc, h1]
  generalize rngI 0 (n : Int) = R at hl
  simp [hl, hlen]
end PL.K46
end
section
set_option Elab.async false
set_option linter.all false
set_option maxRecDepth 100000
set_option maxHeartbeats 2000000
set_option autoImplicit false
namespace PL.K46
open PySem PySem.Spec PyProof.Rows L2 PL
theorem ixD_lastT {xs : List D} {d : D} : ixD (.tuple (xs ++ [d])) (.int (-1)) = some (.fz d) := by
  show (match atI (xs ++ [d]) (-1) with | some d => some (P1.fz d) | none => none) = _
  have : atI (xs ++ [d]) (-1) = some d := by
    unfold atI ixN
    have hl : (xs ++ [d]).length = xs.length + 1 := by simp
    rw [if_neg (by omega), if_pos (by omega), hl]
    have : (-1 + ((xs.length + 1 : Nat) : Int)).toNat = xs.length := by omega
    rw [this]
    show (xs ++ [d])[xs.length]? = some d
    simp
  rw [this]
theorem slD_init {xs : List D} {d : D} : slD (.tuple (xs ++ [d])) none (some (-1)) = some (.fz (.tuple xs)) := by
  show some (P1.fz (.tuple (cutD (xs ++ [d]) none (some (-1))))) = _
  have e : cutD (xs ++ [d]) none (some (-1)) = xs := by
    unfold cutD
    have hl : (xs ++ [d]).length = xs.length + 1 := by simp
    have e0 : HT.sIx (xs ++ [d]).length 0 none = 0 := rfl
    have e1 : HT.sIx (xs ++ [d]).length (xs ++ [d]).length (some (-1)) = xs.length := by
      rw [hl]
      unfold HT.sIx
      simp
      omega
    rw [e0, e1]
    simp
  rw [e]
theorem addD_tt (xs ys : List D) (h : xs.length + ys.length ≤ 1000) : addD (.tuple xs) (.tuple ys) = some (.fz (.tuple (xs ++ ys))) := by
  show (if _ then _ else _) = _
  rw [if_pos (by rw [sizeLine_eq]; omega)]
theorem v_wl (w : Way) (hs : List Stp) (s : Stp) (hl : hs.length ≤ 11) (T : D) (ys : List D) (x y : Sl) :
    wl [.fz T, .io 0 ys, .fz (.str w.s), .fz (.tuple (hs.map encS ++ [encS s])), .fz (.int s.l), .fz (.int s.b), .fz (encR s), .fz (.tuple (hs.map encS)), .un, x, y] = .ok (.o (.fl (wrongs w hs s))) [.fz T, .io 0 ys, .fz (.str w.s), .fz (.tuple (hs.map encS ++ [encS s])), .fz (.int s.l), .fz (.int s.b), .fz (encR s), .fz (.tuple (hs.map encS)), .un, x, y] := by
  have hlen : (hs.map encS).length = hs.length := List.length_map ..
  have a1 : ∀ d, addD (.tuple (hs.map encS)) (.tuple [d]) = some (.fz (.tuple (hs.map encS ++ [d]))) := fun d => addD_tt _ _ (by rw [hlen]; simp; omega)
  have a2 : ∀ d, addD (.tuple (hs.map encS ++ [encS s])) (.tuple [d]) = some (.fz (.tuple (hs.map encS ++ [encS s] ++ [d]))) := fun d => addD_tt _ _ (by rw [List.length_append, hlen]; simp; omega)
  have e : encS s = .tuple [.int s.l, .int s.b, encR s] := rfl
  unfold wl
  simp only [wrongs, st]
  generalize hs.map encS = H at a1 a2 ⊢
  generalize hX : H ++ [encS s] = X at a2 ⊢
  generalize w.s = ws
  generalize hr : encR s = r at e ⊢
  simp [a1, a2, e, hr]
theorem v_law_wrong (w : Way) (hs : List Stp) (s : Stp) (ok : TOk (hs ++ [s])) (ys : List D) : sem__law_wrong [encT w (hs ++ [s]), .list ys] = .ret (.fz (.bool true)) [ys] := by
  have hl : hs.length ≤ 11 := by have := ok.len; simp at this; omega
  have oks : s.Ok := ok.ok s (by simp)
  have e0 : encT w (hs ++ [s]) = .tuple [.str w.s, .tuple (hs.map encS ++ [encS s])] := by unfold encT; simp
  have hx := ixD_lastT (xs := hs.map encS) (d := encS s)
  have hsl := slD_init (xs := hs.map encS) (d := encS s)
  have g1 := v_tar_ok w (rep s 12) (rep_ok s oks (by omega) (by omega))
  have g2 := v_tar_len w ((rep s 13).map encS) (.inr (by simp [rep]))
  have es : encS s = .tuple [.int s.l, .int s.b, encR s] := rfl
  have vw := v_wl w hs s hl (encT w (hs ++ [s])) ys .un .un
  obtain ⟨x', hw⟩ := w_loop (encT w (hs ++ [s])) ys (.fz (.str w.s)) (.fz (.tuple (hs.map encS ++ [encS s]))) (.fz (.int s.l)) (.fz (.int s.b)) (.fz (encR s)) (.fz (.tuple (hs.map encS))) (.fz (.list (wrongs w hs s))) .un (wrongs w hs s) .un (wrongs_no w hs s ok)
  have c12 := v_cm s 12 (by omega) (encT w (hs ++ [s])) ys (.fz (.str w.s)) (.fz (.tuple (hs.map encS ++ [encS s]))) (.fz (.int s.l)) (.fz (.tuple (hs.map encS))) (.fz (.list (wrongs w hs s))) x'
  have c13 := v_cm s 13 (by omega) (encT w (hs ++ [s])) ys (.fz (.str w.s)) (.fz (.tuple (hs.map encS ++ [encS s]))) (.fz (.int s.l)) (.fz (.tuple (hs.map encS))) (.fz (.list (wrongs w hs s))) x'
  have n12 : ((12 : Nat) : Int) = 12 := rfl
  have n13 : ((13 : Nat) : Int) = 13 := rfl
  rw [n12] at c12
  rw [n13] at c13
  have e12 : encT w (rep s 12) = .tuple [.str w.s, .tuple ((rep s 12).map encS)] := rfl
  rw [e12] at g1
  generalize (rep s 12).map encS = X12 at *
  generalize (rep s 13).map encS = X13 at *
  generalize wrongs w hs s = W at *
  rw [e0] at vw hw c12 c13 ⊢
  generalize hs.map encS = H at *
  generalize hX : H ++ [encS s] = X at *
  rw [es] at hx
  clear es hX e0 e12
  generalize encR s = r at *
  simp only [sem__law_wrong, semOf, fw_eq, fw, entry, args]
  simp [hx, hsl, vw, hw, c12, c13, g1, g2]
end PL.K46
end
section
set_option Elab.async false
set_option linter.all false
set_option maxRecDepth 100000
set_option maxHeartbeats 2000000
set_option autoImplicit false
namespace PL.K46
open PySem PySem.Spec PyProof.Rows L2 PL
def rb : Env → So := sIf (tAndS (tstB (eBin eqD (eBin modD (eVar 3) (eVar 4)) (eC (.int 0)))) (tAndS (tstB (eBin eqD (eBin modD (eVar 2) (eVar 4)) (eC (.int 0)))) (tstB (eBin gtD (eVar 2) (eC (.int 1)))))) (sSeq (sSet 3 (eBin fdivD (eVar 3) (eVar 4))) (sSet 2 (eBin fdivD (eVar 2) (eVar 4)))) sNx
def ro : Env → So := sFor (iR1 (aCons (eNrm (eC (.int 14))) aNil)) (gN 5) rb
def eb : Env → So := sSeq (sIf (tstB (eBin eqD (eVar 7) (eC (.int 0)))) sBk sNx) (sSeq (sSet 8 (eBin modD (eVar 6) (eVar 7))) (sSeq (sSet 6 (eVar 7)) (sSet 7 (eVar 8))))
def frt : Env → So := sSeq (sSet 2 (eBin addD (eC (.int 1)) (eCall [.io, .d] sem__law_draw (aCons (eNrm (eVar 0)) (aCons (eFz (eIf (tstV (eVar 1)) (eC (.int 10000)) (eC (.int 9)))) aNil))))) (sSeq (sSet 3 (eCall [.io, .d] sem__law_draw (aCons (eNrm (eVar 0)) (aCons (eFz (eBin addD (eVar 2) (eC (.int 1)))) aNil)))) (sSeq (sFor (iR2 (aCons (eNrm (eC (.int 2))) (aCons (eNrm (eC (.int 101))) aNil))) (gN 4) ro) (sSeq (sSet 6 (eVar 2)) (sSeq (sSet 7 (eVar 3)) (sSeq (sFor (iR1 (aCons (eNrm (eC (.int 40))) aNil)) (gN 5) eb) (sRet (eTup (aCons (eFz (eBin fdivD (eVar 3) (eVar 6))) (aCons (eFz (eBin fdivD (eVar 2) (eVar 6))) aNil)))))))))
theorem fr_eq : f__law_rate = frt := rfl
theorem draw_eq : sem__law_draw = semDraw := rfl
structure PQ (p q : Int) : Prop where
  p0 : 0 ≤ p
  pq : p ≤ q
  q0 : 1 ≤ q
  q1 : q ≤ 10000
theorem PQ.div {p q d : Int} (h : PQ p q) (hd : 2 ≤ d) (h1 : p % d = 0) (h2 : q % d = 0) : PQ (p / d) (q / d) := by
  obtain ⟨a, b, c, e⟩ := h
  obtain ⟨x, rfl⟩ := Int.dvd_of_emod_eq_zero h1
  obtain ⟨y, rfl⟩ := Int.dvd_of_emod_eq_zero h2
  rw [Int.mul_ediv_cancel_left _ (by omega), Int.mul_ediv_cancel_left _ (by omega)]
  have hx : 0 ≤ x := by
    apply Int.not_lt.mp
    intro h
    have := Int.mul_lt_mul_of_pos_left h (show 0 < d by omega)
    omega
  have hxy : x ≤ y := Int.le_of_mul_le_mul_left b (by omega)
  have hy : 1 ≤ y := by
    apply Int.not_lt.mp
    intro h
    have := Int.mul_le_mul_of_nonneg_left (show y ≤ 0 by omega) (show 0 ≤ d by omega)
    omega
  refine ⟨hx, hxy, hy, ?_⟩
  have := Int.mul_le_mul_of_nonneg_right (show 1 ≤ d by omega) (show 0 ≤ y by omega)
  omega
theorem r_in (ys : List D) (gr : Sl) (d : Int) (hd : 2 ≤ d) (hd2 : d ≤ 100) (x6 x7 x8 : Sl) : ∀ (ds : List D) (p q : Int) (x5 : Sl), PQ p q →
    ∃ p' q' x5', PQ p' q' ∧ forD (gN 5) rb ds [.io 0 ys, gr, .fz (.int q), .fz (.int p), .fz (.int d), x5, x6, x7, x8] = .nx [.io 0 ys, gr, .fz (.int q'), .fz (.int p'), .fz (.int d), x5', x6, x7, x8] := by
  intro ds
  induction ds with
  | nil => exact fun p q x5 h => ⟨p, q, x5, h, rfl⟩
  | cons v ds ih =>
    intro p q x5 h
    have m1 := modD_ii (i := p) (j := d) (by omega)
    have m2 := modD_ii (i := q) (j := d) (by omega)
    have f1 := fdivD_ii (i := p) (j := d) (by omega) (lim9000 (by omega) (by omega))
    have f2 := fdivD_ii (i := q) (j := d) (by omega) (lim9000 (by omega) (by omega))
    by_cases c : p % d = 0 ∧ q % d = 0 ∧ 1 < q
    · obtain ⟨p', q', x5', i1, i2⟩ := ih (p / d) (q / d) (.fz v) (h.div hd c.1 c.2.1)
      refine ⟨p', q', x5', i1, ?_⟩
      rw [forD_cons, ← i2]
      simp [rb, m1, m2, f1, f2, c.1, c.2.1, c.2.2]
    · obtain ⟨p', q', x5', i1, i2⟩ := ih p q (.fz v) h
      refine ⟨p', q', x5', i1, ?_⟩
      rw [forD_cons, ← i2]
      by_cases c1 : p % d = 0
      · by_cases c2 : q % d = 0
        · have c3 : ¬ 1 < q := fun z => c ⟨c1, c2, z⟩
          simp [rb, m1, m2, c1, c2, c3]
        · simp [rb, m1, m2, c1, c2]
      · simp [rb, m1, c1]
theorem r_out (ys : List D) (gr : Sl) (x6 x7 x8 : Sl) : ∀ (ds : List Int) (p q : Int) (x4 x5 : Sl), (∀ d ∈ ds, 2 ≤ d ∧ d ≤ 100) → PQ p q →
    ∃ p' q' x4' x5', PQ p' q' ∧ forD (gN 4) ro (ds.map PyData.int) [.io 0 ys, gr, .fz (.int q), .fz (.int p), x4, x5, x6, x7, x8] = .nx [.io 0 ys, gr, .fz (.int q'), .fz (.int p'), x4', x5', x6, x7, x8] := by
  intro ds
  induction ds with
  | nil => exact fun p q x4 x5 _ h => ⟨p, q, x4, x5, h, rfl⟩
  | cons v ds ih =>
    intro p q x4 x5 hd h
    obtain ⟨d1, d2⟩ := hd v List.mem_cons_self
    obtain ⟨p1, q1, x5', i1, i2⟩ := r_in ys gr v d1 d2 x6 x7 x8 (rngI 0 14) p q x5 h
    obtain ⟨p', q', x4', x5'', j1, j2⟩ := ih p1 q1 (.fz (.int v)) x5' (fun d z => hd d (List.mem_cons_of_mem _ z)) i1
    refine ⟨p', q', x4', x5'', j1, ?_⟩
    rw [List.map_cons, forD_cons, ← j2]
    have h14 : inR 14 = true := by decide
    generalize hR : rngI 0 14 = R at i2
    simp [ro, h14, hR, i2]
theorem e_loop (ys : List D) (gr q p x4 : Sl) : ∀ (n a b : Nat) (ds : List D) (x5 x8 : Sl), ds.length = n → 0 < a → b ≤ a → a * b < 2 ^ n →
    ∃ x5' x7' x8', forD (gN 5) eb ds [.io 0 ys, gr, q, p, x4, x5, .fz (.int a), .fz (.int b), x8] = .nx [.io 0 ys, gr, q, p, x4, x5', .fz (.int (Nat.gcd b a)), x7', x8'] := by
  intro n
  induction n with
  | zero =>
    intro a b ds x5 x8 h1 h2 h3 h4
    have hb : b = 0 := by
      rcases Nat.eq_zero_or_pos b with z | z
      · exact z
      · have := Nat.mul_pos h2 z
        omega
    subst hb
    have : ds = [] := List.length_eq_zero_iff.mp h1
    subst this
    refine ⟨x5, .fz (.int ((0 : Nat) : Int)), x8, ?_⟩
    rw [Nat.gcd_zero_left]
    rfl
  | succ n ih =>
    intro a b ds x5 x8 h1 h2 h3 h4
    obtain ⟨v, ds, rfl⟩ : ∃ v r, ds = v :: r := by
      cases ds with
      | nil => cases h1
      | cons v r => exact ⟨v, r, rfl⟩
    rcases Nat.eq_zero_or_pos b with z | z
    · subst z
      refine ⟨.fz v, .fz (.int 0), x8, ?_⟩
      rw [Nat.gcd_zero_left, forD_cons]
      simp [eb]
    · have hm := Nat.mod_lt a z
      have hs : a % b + b ≤ a := by
        have := Nat.mod_add_div a b
        have h5 : 1 ≤ a / b := Nat.div_pos h3 z
        have h6 := Nat.mul_le_mul_left b h5
        omega
      have h7 : 2 * (b * (a % b)) < 2 * 2 ^ n := by
        have h8 : 2 * (a % b) ≤ a := by omega
        have h9 := Nat.mul_le_mul_left b h8
        have e1 : b * (2 * (a % b)) = 2 * (b * (a % b)) := by rw [Nat.mul_left_comm]
        have e2 : b * a = a * b := Nat.mul_comm ..
        have e3 : 2 ^ (n + 1) = 2 * 2 ^ n := by rw [Nat.pow_succ, Nat.mul_comm]
        omega
      obtain ⟨x5', x7', x8', i⟩ := ih b (a % b) ds (.fz v) (.fz (.int ((a % b : Nat) : Int))) (by simpa using h1) z (by omega) (by omega)
      refine ⟨x5', x7', x8', ?_⟩
      rw [forD_cons, Nat.gcd_rec b a, ← i]
      have m := modD_ii (i := (a : Int)) (j := (b : Int)) (by omega)
      have em : (a : Int) % (b : Int) = ((a % b : Nat) : Int) := (Int.natCast_emod a b).symm
      rw [em] at m
      have nb : ¬ b = 0 := by omega
      simp [eb, m, nb, -Int.natCast_emod]
theorem v_law_rate {m : Nat} {xs : List D} (h : Dr m xs) (hm : m + 2 < 2 ^ 63) (g : Bool) : ∃ (p q : Int) (ys : List D), sem__law_rate [.list xs, .bool g] = .ret (.fz (.tuple [.int p, .int q])) [ys] ∧ PQ p q ∧ Nat.gcd p.natAbs q.natAbs = 1 ∧ Dr (m + 2) ys := by
  have hn : ∃ N : Int, (if g = true then (10000 : Int) else 9) = N ∧ 0 < N ∧ N ≤ 10000 := by
    cases g
    · exact ⟨9, rfl, by omega, by omega⟩
    · exact ⟨10000, rfl, by omega, by omega⟩
  obtain ⟨N, eN, n0, n1⟩ := hn
  obtain ⟨v, y1, d1, v0, v1, D1⟩ := v_draw (n := N) h (by omega) n0 (lim9000 n0 (by omega))
  obtain ⟨u, y2, d2, u0, u1, D2⟩ := v_draw (n := 1 + v + 1) D1 (by omega) (by omega) (lim9000 (by omega) (by omega))
  have pq : PQ u (1 + v) := ⟨u0, by omega, by omega, by omega⟩
  have hds : ∀ d ∈ (List.range 99).map (fun k : Nat => (2 : Int) + (k : Nat)), 2 ≤ d ∧ d ≤ 100 := by
    intro d hd
    obtain ⟨k, q1, q2⟩ := List.mem_map.mp hd
    have q1 := List.mem_range.mp q1
    omega
  have hr : rngI 2 101 = ((List.range 99).map (fun k : Nat => (2 : Int) + (k : Nat))).map PyData.int := by
    rw [List.map_map]
    rfl
  obtain ⟨p', q', x4', x5', i1, i2⟩ := r_out y2 (.fz (.bool g)) .un .un .un _ u (1 + v) .un .un hds pq
  rw [← hr] at i2
  obtain ⟨P, rfl⟩ := Int.eq_ofNat_of_zero_le i1.p0
  obtain ⟨Q, rfl⟩ := Int.eq_ofNat_of_zero_le (show 0 ≤ q' by have := i1.q0; omega)
  have Q0 : 1 ≤ Q := by have := i1.q0; omega
  have Q1 : Q ≤ 10000 := by have := i1.q1; omega
  have PQ' : P ≤ Q := by have := i1.pq; omega
  have hprod : Q * P < 2 ^ 40 := Nat.lt_of_le_of_lt (Nat.mul_le_mul Q1 (Nat.le_trans PQ' Q1)) (by decide)
  obtain ⟨x5'', x7', x8', e⟩ := e_loop y2 (.fz (.bool g)) (.fz (.int Q)) (.fz (.int P)) x4' 40 Q P (rngI 0 40) x5' .un (by rfl) Q0 PQ' hprod
  have gpos : 0 < Nat.gcd P Q := Nat.gcd_pos_of_pos_right _ Q0
  have gle : Nat.gcd P Q ≤ Q := Nat.gcd_le_right _ Q0
  have f1 := fdivD_ii (i := (P : Int)) (j := (Nat.gcd P Q : Nat)) (by omega) (lim9000 (by omega) (by omega))
  have f2 := fdivD_ii (i := (Q : Int)) (j := (Nat.gcd P Q : Nat)) (by omega) (lim9000 (by omega) (by omega))
  have c := Nat.coprime_div_gcd_div_gcd gpos
  refine ⟨((P / Nat.gcd P Q : Nat) : Int), ((Q / Nat.gcd P Q : Nat) : Int), y2, ?_, ⟨Int.natCast_nonneg _, ?_, ?_, ?_⟩, c, D2⟩
  · rw [← Int.natCast_ediv] at f1 f2
    have h1 : inR 2 = true := by decide
    have h2 : inR 101 = true := by decide
    have h3 : inR 40 = true := by decide
    generalize hR1 : rngI 2 101 = R1 at i2
    generalize hR2 : rngI 0 40 = R2 at e
    generalize ((P / Nat.gcd P Q : Nat) : Int) = A at *
    generalize ((Q / Nat.gcd P Q : Nat) : Int) = B at *
    generalize ((Nat.gcd P Q : Nat) : Int) = G at *
    cases g
    · have eN' : N = 9 := eN.symm
      subst eN'
      simp only [sem__law_rate, semOf, fr_eq, frt, entry, args, draw_eq]
      simp [d1, d2, h1, h2, h3, hR1, hR2, i2, e, f1, f2]
    · have eN' : N = 10000 := eN.symm
      subst eN'
      simp only [sem__law_rate, semOf, fr_eq, frt, entry, args, draw_eq]
      simp [d1, d2, h1, h2, h3, hR1, hR2, i2, e, f1, f2]
  · have := Nat.div_le_div_right (c := Nat.gcd P Q) PQ'
    omega
  · have := Nat.div_pos gle gpos
    omega
  · have := Nat.div_le_self Q (Nat.gcd P Q)
    omega
end PL.K46
end
section
set_option Elab.async false
set_option linter.all false
set_option maxRecDepth 100000
set_option maxHeartbeats 2000000
set_option autoImplicit false
namespace PL.K46
open PySem PySem.Spec PyProof.Rows L2 PL
def lb : Env → So := sSeq (sSet 5 (eBin addD (eC (.int 1)) (eCall [.io, .d] sem__law_draw (aCons (eNrm (eVar 0)) (aCons (eFz (eIf (tstV (eVar 1)) (eBin powD (eC (.int 10)) (eC (.int 12))) (eC (.int 48)))) aNil))))) (sIf (tstB (eBin notInD (eVar 5) (eVar 3))) (sDrop (eApp 3 (eVar 5))) sNx)
def tb : Env → So := sSeq (sSet 7 (eCall [.io, .d] sem__law_draw (aCons (eNrm (eVar 0)) (aCons (eFz (eIf (tstV (eVar 1)) (eBin addD (eBin powD (eC (.int 10)) (eC (.int 12))) (eC (.int 1))) (eC (.int 40)))) aNil)))) (sSeq (sIf (tAndS (tstV (eVar 1)) (tstB (eBin eqD (eCall [.io, .d] sem__law_draw (aCons (eNrm (eVar 0)) (aCons (eFz (eC (.int 2))) aNil))) (eC (.int 1))))) (sSet 7 (eN min2D (aCons (eNrm (eVar 5)) (aCons (eNrm (eBin powD (eC (.int 10)) (eC (.int 12)))) aNil)))) sNx) (sDrop (eApp 6 (eTup (aCons (eFz (eVar 5)) (aCons (eFz (eVar 7)) (aCons (eFz (eCall [.io, .d] sem__law_rate (aCons (eNrm (eVar 0)) (aCons (eFz (eVar 1)) aNil)))) aNil)))))))
def ft : Env → So := sSeq (sSet 1 (eBin eqD (eCall [.io, .d] sem__law_draw (aCons (eNrm (eVar 0)) (aCons (eFz (eC (.int 2))) aNil))) (eC (.int 1)))) (sSeq (sSet 2 (eBin addD (eC (.int 1)) (eCall [.io, .d] sem__law_draw (aCons (eNrm (eVar 0)) (aCons (eFz (eIf (tstV (eVar 1)) (eC (.int 12)) (eC (.int 6)))) aNil))))) (sSeq (sOwn 3 (eLst (aCons (eFz (eC (.int 0))) aNil))) (sSeq (sFor (iR1 (aCons (eNrm (eBin subD (eVar 2) (eC (.int 1)))) aNil)) (gN 4) lb) (sSeq (sOwn 6 (eLst aNil)) (sSeq (sSet 7 (eC (.int 0))) (sSeq (sFor (iSq (eN sortedD (aCons (eNrm (eVar 3)) aNil))) (gN 5) tb) (sRet (eTup (aCons (eFz (eTup (aCons (eFz (eBin ixD (eLst (aCons (eFz (eC (.str "down"))) (aCons (eFz (eC (.str "up"))) (aCons (eFz (eC (.str "near"))) aNil)))) (eCall [.io, .d] sem__law_draw (aCons (eNrm (eVar 0)) (aCons (eFz (eC (.int 3))) aNil))))) (aCons (eFz (eN tupleD (aCons (eNrm (eVar 6)) aNil))) aNil)))) (aCons (eFz (eVar 1)) aNil))))))))))
theorem ft_eq : f__law_tariff = ft := rfl
theorem sortedD_ints (ns : List Int) : sortedD [.list (ns.map PyData.int)] = some (.fl ((sortI ns).map PyData.int)) := by
  show (match intsD (ns.map PyData.int) with | some ns => some (P1.fl ((sortI ns).map PyData.int)) | none => none) = _
  rw [intsD_map]
structure LOk (lim : Int) (ns : List Int) : Prop where
  z : (0 : Int) ∈ ns
  nd : ns.Nodup
  le : ∀ n ∈ ns, 0 ≤ n ∧ n ≤ lim
def lim (g : Bool) : Int := if g = true then 1000000000000 else 48
theorem l_step (g : Bool) (c x4 x5 x6 x7 : Sl) {m : Nat} {xs : List D} (h : Dr m xs) (hm : m + 1 < 2 ^ 63) (ns : List Int) (ok : LOk (lim g) ns) (hlen : ns.length ≤ 1000) :
    ∃ ns' ys x5', LOk (lim g) ns' ∧ ns'.length ≤ ns.length + 1 ∧ Dr (m + 1) ys ∧ lb [.io 0 xs, .fz (.bool g), c, .fl (ns.map PyData.int), x4, x5, x6, x7] = .nx [.io 0 ys, .fz (.bool g), c, .fl (ns'.map PyData.int), x4, x5', x6, x7] := by
  have l0 : 0 < lim g := by cases g <;> decide
  have l1 : lim g ≤ 1000000000000 := by cases g <;> decide
  obtain ⟨v, ys, d1, v0, v1, D1⟩ := v_draw (n := lim g) h (by omega) l0 (lim9000 l0 (by omega))
  have hlen' : (ns.map PyData.int).length < 16777216 := by rw [List.length_map]; omega
  have nin := notInD_ints (1 + v) ns
  by_cases c1 : 1 + v ∈ ns
  · refine ⟨ns, ys, .fz (.int (1 + v)), ok, by omega, D1, ?_⟩
    rw [decide_eq_true c1] at nin
    generalize ns.map PyData.int = L at *
    cases g
    · have e : lim false = 48 := rfl
      rw [e] at d1
      simp [lb, draw_eq, d1, nin]
    · have e : lim true = 1000000000000 := rfl
      rw [e] at d1
      simp [lb, draw_eq, d1, nin]
  · refine ⟨ns ++ [1 + v], ys, .fz (.int (1 + v)), ⟨List.mem_append_left _ ok.z, ?_, ?_⟩, by simp, D1, ?_⟩
    · rw [List.nodup_append]
      refine ⟨ok.nd, by simp, fun a ha b hb e => ?_⟩
      rw [List.mem_singleton.mp hb] at e
      exact c1 (e ▸ ha)
    · intro n hn
      rcases List.mem_append.mp hn with z | z
      · exact ok.le n z
      · rw [List.mem_singleton.mp z]; omega
    · rw [decide_eq_false c1] at nin
      rw [List.map_append, List.map_cons, List.map_nil]
      generalize ns.map PyData.int = L at *
      cases g
      · have e : lim false = 48 := rfl
        rw [e] at d1
        simp [lb, draw_eq, d1, nin, hlen']
      · have e : lim true = 1000000000000 := rfl
        rw [e] at d1
        simp [lb, draw_eq, d1, nin, hlen']
theorem l_loop (g : Bool) (c x6 x7 : Sl) : ∀ (ds : List D) (m : Nat) (xs : List D) (ns : List Int) (x4 x5 : Sl), Dr m xs → m + ds.length < 2 ^ 63 → LOk (lim g) ns → ns.length + ds.length ≤ 1000 →
    ∃ ns' ys x4' x5', LOk (lim g) ns' ∧ ns'.length ≤ ns.length + ds.length ∧ Dr (m + ds.length) ys ∧ forD (gN 4) lb ds [.io 0 xs, .fz (.bool g), c, .fl (ns.map PyData.int), x4, x5, x6, x7] = .nx [.io 0 ys, .fz (.bool g), c, .fl (ns'.map PyData.int), x4', x5', x6, x7] := by
  intro ds
  induction ds with
  | nil => exact fun m xs ns x4 x5 h _ ok _ => ⟨ns, xs, x4, x5, ok, Nat.le_refl _, h, rfl⟩
  | cons d ds ih =>
    intro m xs ns x4 x5 h hm ok hl
    rw [List.length_cons] at hm hl
    obtain ⟨n1, y1, a5, o1, o2, D1, e1⟩ := l_step g c (.fz d) x5 x6 x7 h (by omega) ns ok (by omega)
    obtain ⟨n2, y2, a4, b5, p1, p2, D2, e2⟩ := ih (m + 1) y1 n1 (.fz d) a5 D1 (by omega) o1 (by omega)
    refine ⟨n2, y2, a4, b5, p1, by rw [List.length_cons]; omega, by rw [List.length_cons, show m + (ds.length + 1) = m + 1 + ds.length by omega]; exact D2, ?_⟩
    rw [forD_cons, ← e2]
    have eg : gN 4 d [.io 0 xs, .fz (.bool g), c, .fl (ns.map PyData.int), x4, x5, x6, x7] = some [.io 0 xs, .fz (.bool g), c, .fl (ns.map PyData.int), .fz d, x5, x6, x7] := by simp
    rw [eg, forT_some, e1, forO_nx]
theorem stp_ok {l b p q : Int} (l0 : 0 ≤ l) (l1 : l ≤ 1000000000000) (b0 : 0 ≤ b) (b1 : b ≤ 1000000000000) (h : PQ p q) (hg : Nat.gcd p.natAbs q.natAbs = 1) : (Stp.mk l b p q).Ok := ⟨l0, l1, b0, b1, h.p0, h.pq, h.q0, h.q1, hg⟩
theorem t_step (g : Bool) (c x3 x4 x7 : Sl) {m : Nat} {xs : List D} (h : Dr m xs) (hm : m + 4 < 2 ^ 63) (l : Int) (l0 : 0 ≤ l) (l1 : l ≤ 1000000000000) (L : List D) (hL : L.length ≤ 1000) :
    ∃ s ys x7', s.l = l ∧ s.Ok ∧ Dr (m + 4) ys ∧ tb [.io 0 xs, .fz (.bool g), c, x3, x4, .fz (.int l), .fl L, x7] = .nx [.io 0 ys, .fz (.bool g), c, x3, x4, .fz (.int l), .fl (L ++ [encS s]), x7'] := by
  have hL' : L.length < 16777216 := by omega
  cases g
  · obtain ⟨b, y1, d1, b0, b1, D1⟩ := v_draw (n := 40) h (by omega) (by decide) (lim9000 (by decide) (by decide))
    obtain ⟨p, q, y2, r, hpq, hg, D2⟩ := v_law_rate D1 (by omega) false
    refine ⟨⟨l, b, p, q⟩, y2, .fz (.int b), rfl, stp_ok l0 l1 b0 (by omega) hpq hg, D2.mono (by omega), ?_⟩
    simp [tb, draw_eq, d1, r, hL', encS, encR]
  · obtain ⟨b, y1, d1, b0, b1, D1⟩ := v_draw (n := 1000000000001) h (by omega) (by decide) (lim9000 (by decide) (by decide))
    obtain ⟨z, y2, d2, z0, z1, D2⟩ := v_draw (n := 2) D1 (by omega) (by decide) (lim9000 (by decide) (by decide))
    obtain ⟨p, q, y3, r, hpq, hg, D3⟩ := v_law_rate D2 (by omega) true
    by_cases hz : z = 1
    · refine ⟨⟨l, min l 1000000000000, p, q⟩, y3, .fz (.int (min l 1000000000000)), rfl, stp_ok l0 l1 (by omega) (by omega) hpq hg, D3, ?_⟩
      subst hz
      simp [tb, draw_eq, d1, d2, r, hL', encS, encR]
    · refine ⟨⟨l, b, p, q⟩, y3, .fz (.int b), rfl, stp_ok l0 l1 b0 (by omega) hpq hg, D3, ?_⟩
      simp [tb, draw_eq, d1, d2, r, hL', encS, encR, hz]
theorem t_loop (g : Bool) (c x3 x4 : Sl) : ∀ (ls : List Int) (m : Nat) (xs : List D) (done : List Stp) (x5 x7 : Sl), Dr m xs → m + 4 * ls.length < 2 ^ 63 → (∀ l ∈ ls, 0 ≤ l ∧ l ≤ 1000000000000) → done.length + ls.length ≤ 1000 →
    ∃ ss ys x5' x7', ss.map Stp.l = ls ∧ (∀ s ∈ ss, s.Ok) ∧ Dr (m + 4 * ls.length) ys ∧ forD (gN 5) tb (ls.map PyData.int) [.io 0 xs, .fz (.bool g), c, x3, x4, x5, .fl (done.map encS), x7] = .nx [.io 0 ys, .fz (.bool g), c, x3, x4, x5', .fl ((done ++ ss).map encS), x7'] := by
  intro ls
  induction ls with
  | nil => exact fun m xs done x5 x7 h _ _ _ => ⟨[], xs, x5, x7, rfl, (fun _ h => by cases h), h, by rw [List.append_nil]; rfl⟩
  | cons l ls ih =>
    intro m xs done x5 x7 h hm hl hd
    rw [List.length_cons] at hm hd
    obtain ⟨l0, l1⟩ := hl l List.mem_cons_self
    obtain ⟨s, y1, a7, s1, s2, D1, e1⟩ := t_step g c x3 x4 x7 h (by omega) l l0 l1 (done.map encS) (by rw [List.length_map]; omega)
    obtain ⟨ss, y2, a5, b7, q1, q2, D2, e2⟩ := ih (m + 4) y1 (done ++ [s]) (.fz (.int l)) a7 D1 (by omega) (fun x hx => hl x (List.mem_cons_of_mem _ hx)) (by rw [List.length_append, List.length_singleton]; omega)
    refine ⟨s :: ss, y2, a5, b7, by rw [List.map_cons, s1, q1], fun t ht => ?_, by rw [List.length_cons, show m + 4 * (ls.length + 1) = m + 4 + 4 * ls.length by omega]; exact D2, ?_⟩
    · rcases List.mem_cons.mp ht with z | z
      · rw [z]; exact s2
      · exact q2 t z
    · rw [show done ++ s :: ss = done ++ [s] ++ ss by simp, ← e2, List.map_cons, forD_cons]
      have eg : gN 5 (.int l) [.io 0 xs, .fz (.bool g), c, x3, x4, x5, .fl (done.map encS), x7] = some [.io 0 xs, .fz (.bool g), c, x3, x4, .fz (.int l), .fl (done.map encS), x7] := by simp
      have em : (done ++ [s]).map encS = done.map encS ++ [encS s] := by simp
      rw [eg, forT_some, e1, forO_nx, em]
theorem rng_len (n : Nat) : (rngI 0 (n : Int)).length = n := by rw [rng0]; simp
theorem tok_of {ss : List Stp} {ns : List Int} {lm : Int} (ok : LOk lm ns) (hl : ns.length ≤ 12) (e : ss.map Stp.l = sortI ns) (hs : ∀ s ∈ ss, s.Ok) : TOk ss := by
  have hp := sortI_perm ns
  have hlen : ss.length = ns.length := by rw [← List.length_map (f := Stp.l), e, hp.length_eq]
  have hpos : 0 < ns.length := List.length_pos_of_mem ok.z
  have hsrt := sortI_sorted ns
  have hnd : (sortI ns).Nodup := hp.symm.nodup ok.nd
  refine ⟨by omega, by omega, hs, fun s h0 => ?_, ?_⟩
  · have hz : (0 : Int) ∈ ss.map Stp.l := by rw [e]; exact hp.symm.mem_iff.mp ok.z
    cases ss with
    | nil => cases h0
    | cons t r =>
      cases h0
      have s0 := (hs s List.mem_cons_self).l0
      rw [← e, List.map_cons] at hsrt
      rw [List.map_cons] at hz
      rcases List.mem_cons.mp hz with z | z
      · exact z.symm
      · have := (List.pairwise_cons.mp hsrt).1 0 z
        omega
  · rw [← e] at hsrt hnd
    have h1 : ss.Pairwise (fun a b => a.l ≤ b.l) := List.pairwise_map.mp hsrt
    have h2 : ss.Pairwise (fun a b => a.l ≠ b.l) := List.pairwise_map.mp hnd
    exact (h1.and h2).imp fun {a b} h => by omega
theorem v_law_tariff {m : Nat} {xs : List D} (h : Dr m xs) (hm : m + 100 < 2 ^ 63) : ∃ (w : Way) (ss : List Stp) (g : Bool) (ys : List D), sem__law_tariff [.list xs] = .ret (.fz (.tuple [encT w ss, .bool g])) [ys] ∧ TOk ss ∧ (g = false → ∀ s ∈ ss, s.l ≤ 48) ∧ Dr (m + 100) ys := by
  obtain ⟨z, y1, d1, z0, z1, D1⟩ := v_draw (n := 2) h (by omega) (by decide) (lim9000 (by decide) (by decide))
  have hg : ∃ g : Bool, (z == 1) = g := ⟨_, rfl⟩
  obtain ⟨g, hg⟩ := hg
  have hN : ∃ N : Int, (if g = true then (12 : Int) else 6) = N ∧ 0 < N ∧ N ≤ 12 := by
    cases g
    · exact ⟨6, rfl, by omega, by omega⟩
    · exact ⟨12, rfl, by omega, by omega⟩
  obtain ⟨N, eN, n0, n1⟩ := hN
  obtain ⟨v, y2, d2, v0, v1, D2⟩ := v_draw (n := N) D1 (by omega) n0 (lim9000 n0 (by omega))
  obtain ⟨V, rfl⟩ := Int.eq_ofNat_of_zero_le v0
  have lok : LOk (lim g) [0] := ⟨by simp, by simp, fun n hn => by rw [List.mem_singleton.mp hn]; cases g <;> decide⟩
  have hrl := rng_len V
  obtain ⟨ns, y3, a4, a5, o1, o2, D3, e3⟩ := l_loop g (.fz (.int (1 + (V : Nat)))) .un .un (rngI 0 (V : Int)) _ y2 [0] .un .un D2 (by omega) lok (by simp; omega)
  rw [hrl] at D3 o2
  have hnl : ns.length ≤ 12 := by simp at o2; omega
  have hsl : (sortI ns).length ≤ 12 := by rw [(sortI_perm ns).length_eq]; exact hnl
  have l1 : lim g ≤ 1000000000000 := by cases g <;> decide
  obtain ⟨ss, y4, b5, b7, q1, q2, D4, e4⟩ := t_loop g (.fz (.int (1 + (V : Nat)))) (.fl (ns.map PyData.int)) a4 (sortI ns) _ y3 [] a5 (.fz (.int 0)) D3 (by omega) (fun l hl => by
    have := o1.le l ((sortI_perm ns).mem_iff.mp hl)
    omega) (by simp; omega)
  obtain ⟨u, y5, d5, u0, u1, D5⟩ := v_draw (n := 3) D4 (by omega) (by decide) (lim9000 (by decide) (by decide))
  have tok := tok_of o1 hnl q1 q2
  have hw : ∃ w : Way, ixD (.list [.str "down", .str "up", .str "near"]) (.int u) = some (.fz (.str w.s)) := by
    have : u = 0 ∨ u = 1 ∨ u = 2 := by omega
    rcases this with rfl | rfl | rfl
    · exact ⟨.down, rfl⟩
    · exact ⟨.up, rfl⟩
    · exact ⟨.near, rfl⟩
  obtain ⟨w, hw⟩ := hw
  refine ⟨w, ss, g, y5, ?_, tok, fun hgf s hs => ?_, D5.mono (by omega)⟩
  · have hin : inR (V : Int) = true := inR_nat (by omega)
    have h1 : ∀ (x1 x3 x4 x5 x6 x7 : Sl), iR1 (aCons (eNrm (eBin subD (eVar 2) (eC (.int 1)))) aNil) [.io 0 y2, x1, .fz (.int (1 + (V : Int))), x3, x4, x5, x6, x7] = .ok (rngI 0 (V : Int)) [.io 0 y2, x1, .fz (.int (1 + (V : Int))), x3, x4, x5, x6, x7] := fun x1 x3 x4 x5 x6 x7 => iR1_n (by
      simp
      omega) hin
    have hsd := sortedD_ints ns
    have e4' : forD (gN 5) tb ((sortI ns).map PyData.int) [.io 0 y3, .fz (.bool g), .fz (.int (1 + (V : Int))), .fl (ns.map PyData.int), a4, a5, .fl [], .fz (.int 0)] = .nx [.io 0 y4, .fz (.bool g), .fz (.int (1 + (V : Int))), .fl (ns.map PyData.int), a4, b5, .fl (ss.map encS), b7] := e4
    have e3' : forD (gN 4) lb (rngI 0 (V : Int)) [.io 0 y2, .fz (.bool g), .fz (.int (1 + (V : Int))), .fl [.int 0], .un, .un, .un, .un] = .nx [.io 0 y3, .fz (.bool g), .fz (.int (1 + (V : Int))), .fl (ns.map PyData.int), a4, a5, .un, .un] := e3
    clear e3 e4
    have et : encT w ss = .tuple [.str w.s, .tuple (ss.map encS)] := rfl
    rw [et]
    generalize hRR : rngI 0 (V : Int) = RR at *
    generalize ns.map PyData.int = NS at *
    generalize (sortI ns).map PyData.int = SS at *
    generalize ss.map encS = ES at *
    generalize w.s = ws at *
    have hE : eqD (.int z) (.int 1) = some (.fz (.bool g)) := by rw [eqD_ii, hg]
    simp only [sem__law_tariff, semOf, ft_eq, ft, entry, args, draw_eq]
    cases g
    · have eN' : N = 6 := eN.symm
      subst eN'
      simp [-eqD_ii, -ev_iR1, d1, hE, d2, h1, e3', hsd, e4', d5, hw]
    · have eN' : N = 12 := eN.symm
      subst eN'
      simp [-eqD_ii, -ev_iR1, d1, hE, d2, h1, e3', hsd, e4', d5, hw]
  · have : s.l ∈ sortI ns := by rw [← q1]; exact List.mem_map_of_mem hs
    have := o1.le _ ((sortI_perm ns).mem_iff.mp this)
    rw [hgf] at this
    exact this.2
end PL.K46
end
section
set_option Elab.async false
set_option linter.all false
set_option maxRecDepth 100000
set_option maxHeartbeats 2000000
set_option autoImplicit false
namespace PL.K46
open PySem PySem.Spec PyProof.Rows L2 PL
def vb : Env → So := sSet 5 (eBin addD (eVar 5) (eLst (aCons (eFz (eBin ixD (eVar 6) (eC (.int 0)))) (aCons (eFz (eN max2D (aCons (eNrm (eC (.int 0))) (aCons (eNrm (eBin subD (eBin ixD (eVar 6) (eC (.int 0))) (eC (.int 1)))) aNil)))) (aCons (eFz (eN min2D (aCons (eNrm (eBin powD (eC (.int 10)) (eC (.int 12)))) (aCons (eNrm (eBin addD (eBin addD (eBin ixD (eVar 6) (eC (.int 0))) (eC (.int 1))) (eCall [.io, .d] sem__law_draw (aCons (eNrm (eVar 1)) (aCons (eFz (eC (.int 50))) aNil))))) aNil)))) aNil)))))
def ub : Env → So := sSeq (sSet 8 (eCall [.d, .d] sem_fee_of (aCons (eFz (eVar 3)) (aCons (eFz (eVar 7)) aNil)))) (sIf (tOrS (tNotS (tstV (eCall [.d] sem__law_int (aCons (eFz (eVar 8)) aNil)))) (tstB (eBin neD (eVar 8) (eCall [.d, .d] sem__law_fee (aCons (eFz (eVar 3)) (aCons (eFz (eVar 7)) aNil)))))) (sRet (eC (.bool false))) sNx)
def mb : Env → So := sSeq (sUn [gN 3, gN 4] (eCall [.io] sem__law_tariff (aCons (eNrm (eVar 1)) aNil))) (sSeq (sIf (tOrS (tstB (eBin isNotD (eCall [.d] sem_is_tariff (aCons (eFz (eVar 3)) aNil)) (eC (.bool true)))) (tNotS (tstV (eCall [.d, .io] sem__law_wrong (aCons (eFz (eVar 3)) (aCons (eNrm (eVar 1)) aNil)))))) (sRet (eC (.bool false))) sNx) (sSeq (sSet 5 (eLst (aCons (eFz (eC (.int 0))) (aCons (eFz (eBin powD (eC (.int 10)) (eC (.int 12)))) (aCons (eFz (eCall [.io, .d] sem__law_draw (aCons (eNrm (eVar 1)) (aCons (eFz (eBin addD (eBin powD (eC (.int 10)) (eC (.int 12))) (eC (.int 1)))) aNil)))) (aCons (eFz (eCall [.io, .d] sem__law_draw (aCons (eNrm (eVar 1)) (aCons (eFz (eC (.int 60))) aNil)))) aNil)))))) (sSeq (sFor (iSq (eBin ixD (eVar 3) (eC (.int 1)))) (gN 6) vb) (sSeq (sFor (iSq (eVar 5)) (gN 7) ub) (sSeq (sSet 9 (eCall [.d] sem_first_unfair (aCons (eFz (eVar 3)) aNil))) (sIf (tOrS (tAndS (tNotS (tstV (eVar 4))) (tstB (eBin neD (eVar 9) (eCall [.d] sem__law_all_pairs (aCons (eFz (eVar 3)) aNil))))) (tNotS (tstV (eCall [.d, .d] sem__law_great_pair (aCons (eFz (eVar 3)) (aCons (eFz (eVar 9)) aNil)))))) (sRet (eC (.bool false))) sNx))))))
def fl46 : Env → So := sSeq (sOwn 1 (eCall [.sc] sem__law_open (aSc 0 aNil))) (sSeq (sFor (iR1 (aCons (eNrm (eBin addD (eC (.int 1)) (eCall [.io, .d] sem__law_draw (aCons (eNrm (eVar 1)) (aCons (eFz (eC (.int 3))) aNil))))) aNil)) (gN 2) mb) (sRet (eC (.bool true))))
theorem fl_eq : f_law = fl46 := rfl
theorem open_eq : sem__law_open = semOpen := rfl
def VOk (vs : List Int) : Prop := ∀ v ∈ vs, 0 ≤ v ∧ v ≤ 1000000000000
theorem addD_il (xs ys : List Int) (h : xs.length + ys.length ≤ 1000) : addD (.list (xs.map PyData.int)) (.list (ys.map PyData.int)) = some (.fl ((xs ++ ys).map PyData.int)) := by
  show (if _ then _ else _) = _
  rw [if_pos (by rw [List.length_map, List.length_map, sizeLine_eq]; omega), List.map_append]
theorem v_step1 {m : Nat} {xs : List D} (h : Dr m xs) (hm : m + 1 < 2 ^ 63) (sc x2 x3 x4 x7 x8 x9 : Sl) (s : Stp) (ok : s.Ok) (vs : List Int) (hv : VOk vs) (hl : vs.length ≤ 900) :
    ∃ vs' ys, VOk vs' ∧ vs'.length = vs.length + 3 ∧ Dr (m + 1) ys ∧ vb [sc, .fl xs, x2, x3, x4, .fz (.list (vs.map PyData.int)), .fz (encS s), x7, x8, x9] = .nx [sc, .fl ys, x2, x3, x4, .fz (.list (vs'.map PyData.int)), .fz (encS s), x7, x8, x9] := by
  obtain ⟨l0, l1, b0, b1, p0, pq, q0, q1, g⟩ := ok
  obtain ⟨u, ys, d1, u0, u1, D1⟩ := v_draw (n := 50) h (by omega) (by decide) (lim9000 (by decide) (by decide))
  have ha := addD_il vs [s.l, max 0 (s.l - 1), min 1000000000000 (s.l + 1 + u)] (by simp; omega)
  refine ⟨vs ++ [s.l, max 0 (s.l - 1), min 1000000000000 (s.l + 1 + u)], ys, fun v hh => ?_, by simp, D1, ?_⟩
  · rcases List.mem_append.mp hh with z | z
    · exact hv v z
    · simp only [List.mem_cons, List.not_mem_nil, or_false] at z
      rcases z with rfl | rfl | rfl <;> omega
  · rw [List.map_cons, List.map_cons, List.map_cons, List.map_nil] at ha
    generalize (vs ++ [s.l, max 0 (s.l - 1), min 1000000000000 (s.l + 1 + u)]).map PyData.int = R at *
    generalize vs.map PyData.int = L at *
    have hx := ix_l s
    generalize encS s = S at *
    simp [vb, draw_eq, d1, hx, ha]
theorem v_loop1 (sc x2 x3 x4 x7 x8 x9 : Sl) : ∀ (rs : List Stp) (m : Nat) (xs : List D) (vs : List Int) (x6 : Sl), (∀ s ∈ rs, s.Ok) → Dr m xs → m + rs.length < 2 ^ 63 → VOk vs → vs.length + 3 * rs.length ≤ 900 →
    ∃ vs' ys x6', VOk vs' ∧ Dr (m + rs.length) ys ∧ forD (gN 6) vb (rs.map encS) [sc, .fl xs, x2, x3, x4, .fz (.list (vs.map PyData.int)), x6, x7, x8, x9] = .nx [sc, .fl ys, x2, x3, x4, .fz (.list (vs'.map PyData.int)), x6', x7, x8, x9] := by
  intro rs
  induction rs with
  | nil => exact fun m xs vs x6 _ h _ hv _ => ⟨vs, xs, x6, hv, h, rfl⟩
  | cons s rs ih =>
    intro m xs vs x6 hs h hm hv hl
    rw [List.length_cons] at hm hl
    obtain ⟨v1, y1, o1, o2, D1, e1⟩ := v_step1 h (by omega) sc x2 x3 x4 x7 x8 x9 s (hs s List.mem_cons_self) vs hv (by omega)
    obtain ⟨v2, y2, a6, p1, D2, e2⟩ := ih (m + 1) y1 v1 (.fz (encS s)) (fun t ht => hs t (List.mem_cons_of_mem _ ht)) D1 (by omega) o1 (by omega)
    refine ⟨v2, y2, a6, p1, by rw [List.length_cons, show m + (rs.length + 1) = m + 1 + rs.length by omega]; exact D2, ?_⟩
    rw [List.map_cons, forD_cons, ← e2]
    have eg : gN 6 (encS s) [sc, .fl xs, x2, x3, x4, .fz (.list (vs.map PyData.int)), x6, x7, x8, x9] = some [sc, .fl xs, x2, x3, x4, .fz (.list (vs.map PyData.int)), .fz (encS s), x7, x8, x9] := by simp
    rw [eg, forT_some, e1, forO_nx]
theorem u_loop2 (w : Way) (ss : List Stp) (ok : TOk ss) (sc x1 x2 x4 x5 x6 x9 : Sl) : ∀ (vs : List Int) (x7 x8 : Sl), VOk vs →
    ∃ x7' x8', forD (gN 7) ub (vs.map PyData.int) [sc, x1, x2, .fz (encT w ss), x4, x5, x6, x7, x8, x9] = .nx [sc, x1, x2, .fz (encT w ss), x4, x5, x6, x7', x8', x9] := by
  intro vs
  induction vs with
  | nil => exact fun x7 x8 _ => ⟨x7, x8, rfl⟩
  | cons v vs ih =>
    intro x7 x8 hv
    obtain ⟨v0, v1⟩ := hv v List.mem_cons_self
    have f1 := v_fee_of w ss ok v v0 v1
    have f2 := v_law_fee w ss ok v v0 v1
    have f3 := v_law_int (F w ss v)
    obtain ⟨a7, a8, e⟩ := ih (.fz (.int v)) (.fz (.int (F w ss v))) fun x hx => hv x (List.mem_cons_of_mem _ hx)
    refine ⟨a7, a8, ?_⟩
    rw [List.map_cons, forD_cons, ← e]
    generalize encT w ss = T at *
    simp [ub, f1, f2, f3]
theorem neD_told {w : Way} {ss : List Stp} : ∀ {d : D}, Told w ss d → neD d d = some (.fz (.bool false))
  | .none, _ => rfl
  | .tuple [.int x, .int h], _ => by
    show (if _ then some (P1.fz (.bool (!(PyData.eqvAll [.int x, .int h] [.int x, .int h])))) else none) = _
    rw [if_pos ⟨by show 1 ≤ 64; omega, by show 1 ≤ 64; omega⟩, eqvAll_c, eqvAll_c, eqvAll_n, eqv_ii, eqv_ii]
    simp
theorem m_step (ns : List Int) {m : Nat} {xs : List D} (h : Dr m xs) (hm : m + 200 < 2 ^ 63) (x2 x3 x4 x5 x6 x7 x8 x9 : Sl) :
    ∃ ys y3 y4 y5 y6 y7 y8 y9, Dr (m + 200) ys ∧ mb [.sc ns, .fl xs, x2, x3, x4, x5, x6, x7, x8, x9] = .nx [.sc ns, .fl ys, x2, y3, y4, y5, y6, y7, y8, y9] := by
  obtain ⟨w, ss, g, y1, e1, ok, hg, D1⟩ := v_law_tariff h (by omega)
  obtain ⟨hs, s, rfl⟩ : ∃ hs s, ss = hs ++ [s] := by
    have : ss ≠ [] := fun e => by have := ok.pos; rw [e] at this; cases this
    exact ⟨ss.dropLast, ss.getLast this, (List.dropLast_concat_getLast this).symm⟩
  have e2 := v_tar_ok w (hs ++ [s]) ok
  have e3 := v_law_wrong w hs s ok y1
  generalize hs ++ [s] = ss at *
  obtain ⟨a, y2, d1, a0, a1, D2⟩ := v_draw (n := 1000000000001) D1 (by omega) (by decide) (lim9000 (by decide) (by decide))
  obtain ⟨b, y3, d2, b0, b1, D3⟩ := v_draw (n := 60) D2 (by omega) (by decide) (lim9000 (by decide) (by decide))
  have hv : VOk [0, 1000000000000, a, b] := fun v hh => by
    simp only [List.mem_cons, List.not_mem_nil, or_false] at hh
    rcases hh with rfl | rfl | rfl | rfl <;> omega
  obtain ⟨vs, y4, a6, hv2, D4, l1⟩ := v_loop1 (.sc ns) x2 (.fz (encT w ss)) (.fz (.bool g)) x7 x8 x9 ss _ y3 [0, 1000000000000, a, b] x6 ok.ok D3 (by have := ok.len; omega) hv (by have := ok.len; simp; omega)
  obtain ⟨a7, a8, l2⟩ := u_loop2 w ss ok (.sc ns) (.fl y4) x2 (.fz (.bool g)) (.fz (.list (vs.map PyData.int))) a6 x9 vs x7 x8 hv2
  obtain ⟨d, f1, ht⟩ := v_first_unfair w ss ok
  have f2 := v_great_pair w ss ok d ht
  have hix : ixD (encT w ss) (.int 1) = some (.fz (.tuple (ss.map encS))) := rfl
  have hne := neD_told ht
  refine ⟨y4, .fz (encT w ss), .fz (.bool g), .fz (.list (vs.map PyData.int)), a6, a7, a8, .fz d, D4.mono (by have := ok.len; omega), ?_⟩
  have l1' : forD (gN 6) vb (ss.map encS) [.sc ns, .fl y3, x2, .fz (encT w ss), .fz (.bool g), .fz (.list [.int 0, .int 1000000000000, .int a, .int b]), x6, x7, x8, x9] = .nx [.sc ns, .fl y4, x2, .fz (encT w ss), .fz (.bool g), .fz (.list (vs.map PyData.int)), a6, x7, x8, x9] := l1
  clear l1
  cases g
  · have f3 := v_all_pairs w ss ok d ht (hg rfl)
    generalize encT w ss = T at *
    generalize ss.map encS = X at *
    generalize vs.map PyData.int = V at *
    simp [mb, draw_eq, e1, e2, e3, d1, d2, hix, l1', l2, f1, f2, f3, hne]
  · generalize encT w ss = T at *
    generalize ss.map encS = X at *
    generalize vs.map PyData.int = V at *
    simp [mb, draw_eq, e1, e2, e3, d1, d2, hix, l1', l2, f1, f2, hne]
theorem m_loop (ns : List Int) : ∀ (ds : List D) (m : Nat) (xs : List D) (x2 x3 x4 x5 x6 x7 x8 x9 : Sl), Dr m xs → m + 200 * ds.length < 2 ^ 63 →
    ∃ ys y2 y3 y4 y5 y6 y7 y8 y9, forD (gN 2) mb ds [.sc ns, .fl xs, x2, x3, x4, x5, x6, x7, x8, x9] = .nx [.sc ns, .fl ys, y2, y3, y4, y5, y6, y7, y8, y9] := by
  intro ds
  induction ds with
  | nil => exact fun m xs x2 x3 x4 x5 x6 x7 x8 x9 h _ => ⟨xs, x2, x3, x4, x5, x6, x7, x8, x9, rfl⟩
  | cons d ds ih =>
    intro m xs x2 x3 x4 x5 x6 x7 x8 x9 h hm
    rw [List.length_cons] at hm
    obtain ⟨ys, y3, y4, y5, y6, y7, y8, y9, D1, e1⟩ := m_step ns h (by omega) (.fz d) x3 x4 x5 x6 x7 x8 x9
    obtain ⟨zs, z2, z3, z4, z5, z6, z7, z8, z9, e2⟩ := ih (m + 200) ys (.fz d) y3 y4 y5 y6 y7 y8 y9 D1 (by omega)
    refine ⟨zs, z2, z3, z4, z5, z6, z7, z8, z9, ?_⟩
    rw [forD_cons, ← e2]
    have eg : gN 2 d [.sc ns, .fl xs, x2, x3, x4, x5, x6, x7, x8, x9] = some [.sc ns, .fl xs, .fz d, x3, x4, x5, x6, x7, x8, x9] := by simp
    rw [eg, forT_some, e1, forO_nx]
theorem iR1_m {fa : Env → R (List W)} {ρ ρ1 : Env} {n : Int} (h : fa ρ = .ok [.o (.fz (.int n))] ρ1) (hin : inR n = true) : iR1 fa ρ = .ok (rngI 0 n) ρ1 := by
  unfold iR1
  rw [h]
  show (if inR n = true then R.ok (rngI 0 n) ρ1 else .bad) = _
  rw [if_pos hin]
theorem plain : Plain sem_law := fun ns hl _ => by
  obtain ⟨xs, e1, D1⟩ := v_open ns hl
  obtain ⟨u, ys, d1, u0, u1, D2⟩ := v_draw (n := 3) D1 (by omega) (by decide) (lim9000 (by decide) (by decide))
  obtain ⟨U, rfl⟩ := Int.eq_ofNat_of_zero_le u0
  have hlen := rng_len (1 + U)
  have hin : inR ((1 + U : Nat) : Int) = true := inR_nat (by omega)
  have h1 : iR1 (aCons (eNrm (eBin addD (eC (.int 1)) (eCall [.io, .d] semDraw (aCons (eNrm (eVar 1)) (aCons (eFz (eC (.int 3))) aNil))))) aNil) [.sc ns, .fl xs, .un, .un, .un, .un, .un, .un, .un, .un] = .ok (rngI 0 ((1 + U : Nat) : Int)) [.sc ns, .fl ys, .un, .un, .un, .un, .un, .un, .un, .un] := by
    exact iR1_m (by simp [d1]) hin
  generalize rngI 0 ((1 + U : Nat) : Int) = R at *
  obtain ⟨zs, z2, z3, z4, z5, z6, z7, z8, z9, e2⟩ := m_loop ns R _ ys .un .un .un .un .un .un .un .un D2 (by omega)
  have e0 : args [Md.sc] 0 [PyData.list (ns.map PyData.int)] = [.sc ns] := by
    show [match intsD (ns.map PyData.int) with | some ns => Sl.sc ns | none => .un] = _
    rw [intsD_map]
  simp only [sem_law, semOf, fl_eq, fl46, entry, e0, draw_eq, open_eq]
  simp [-ev_iR1, e1, h1, e2]
end PL.K46
end
section
set_option Elab.async false
set_option linter.all false
set_option maxRecDepth 100000
set_option maxHeartbeats 0
set_option autoImplicit false
namespace PL.K46
open PySem PySem.Spec PyProof.Rows L2 PL
def dd_is_number : He.DefD := ⟨("is_number", none), "is_number", "is_number", defArgs s_is_number, defBody s_is_number, defScope s_is_number, [], []⟩
def dd_is_fraction : He.DefD := ⟨("is_fraction", none), "is_fraction", "is_fraction", defArgs s_is_fraction, defBody s_is_fraction, defScope s_is_fraction, [], []⟩
def dd_lowest : He.DefD := ⟨("lowest", none), "lowest", "lowest", defArgs s_lowest, defBody s_lowest, defScope s_lowest, [], []⟩
def dd_times : He.DefD := ⟨("times", none), "times", "times", defArgs s_times, defBody s_times, defScope s_times, [], []⟩
def dd_rounded : He.DefD := ⟨("rounded", none), "rounded", "rounded", defArgs s_rounded, defBody s_rounded, defScope s_rounded, [], []⟩
def dd_is_money : He.DefD := ⟨("is_money", none), "is_money", "is_money", defArgs s_is_money, defBody s_is_money, defScope s_is_money, [], []⟩
def dd_is_rate : He.DefD := ⟨("is_rate", none), "is_rate", "is_rate", defArgs s_is_rate, defBody s_is_rate, defScope s_is_rate, [], []⟩
def dd_is_step : He.DefD := ⟨("is_step", none), "is_step", "is_step", defArgs s_is_step, defBody s_is_step, defScope s_is_step, [], []⟩
def dd_is_tariff : He.DefD := ⟨("is_tariff", none), "is_tariff", "is_tariff", defArgs s_is_tariff, defBody s_is_tariff, defScope s_is_tariff, [], []⟩
def dd_fee_in : He.DefD := ⟨("fee_in", none), "fee_in", "fee_in", defArgs s_fee_in, defBody s_fee_in, defScope s_fee_in, [], []⟩
def dd_fee_of : He.DefD := ⟨("fee_of", none), "fee_of", "fee_of", defArgs s_fee_of, defBody s_fee_of, defScope s_fee_of, [], []⟩
def dd_first_above : He.DefD := ⟨("first_above", none), "first_above", "first_above", defArgs s_first_above, defBody s_first_above, defScope s_first_above, [], []⟩
def dd_first_unfair : He.DefD := ⟨("first_unfair", none), "first_unfair", "first_unfair", defArgs s_first_unfair, defBody s_first_unfair, defScope s_first_unfair, [], []⟩
def dd__law_open : He.DefD := ⟨("_law_open", none), "_law_open", "_law_open", defArgs s__law_open, defBody s__law_open, defScope s__law_open, [], []⟩
def dd__law_mixed : He.DefD := ⟨("_law_mixed", none), "_law_mixed", "_law_mixed", defArgs s__law_mixed, defBody s__law_mixed, defScope s__law_mixed, [], []⟩
def dd__law_draw : He.DefD := ⟨("_law_draw", none), "_law_draw", "_law_draw", defArgs s__law_draw, defBody s__law_draw, defScope s__law_draw, [], []⟩
def dd__law_int : He.DefD := ⟨("_law_int", none), "_law_int", "_law_int", defArgs s__law_int, defBody s__law_int, defScope s__law_int, [], []⟩
def dd__law_rate : He.DefD := ⟨("_law_rate", none), "_law_rate", "_law_rate", defArgs s__law_rate, defBody s__law_rate, defScope s__law_rate, [], []⟩
def dd__law_tariff : He.DefD := ⟨("_law_tariff", none), "_law_tariff", "_law_tariff", defArgs s__law_tariff, defBody s__law_tariff, defScope s__law_tariff, [], []⟩
def dd__law_fee : He.DefD := ⟨("_law_fee", none), "_law_fee", "_law_fee", defArgs s__law_fee, defBody s__law_fee, defScope s__law_fee, [], []⟩
def dd__law_all_pairs : He.DefD := ⟨("_law_all_pairs", none), "_law_all_pairs", "_law_all_pairs", defArgs s__law_all_pairs, defBody s__law_all_pairs, defScope s__law_all_pairs, [], []⟩
def dd__law_highs : He.DefD := ⟨("_law_highs", none), "_law_highs", "_law_highs", defArgs s__law_highs, defBody s__law_highs, defScope s__law_highs, [], []⟩
def dd__law_great_pair : He.DefD := ⟨("_law_great_pair", none), "_law_great_pair", "_law_great_pair", defArgs s__law_great_pair, defBody s__law_great_pair, defScope s__law_great_pair, [], []⟩
def dd__law_wrong : He.DefD := ⟨("_law_wrong", none), "_law_wrong", "_law_wrong", defArgs s__law_wrong, defBody s__law_wrong, defScope s__law_wrong, [], []⟩
def dd_law : He.DefD := ⟨("law", none), "law", "law", defArgs s_law, defBody s_law, defScope s_law, [], []⟩
def fn : List He.DefD := [dd_is_number, dd_is_fraction, dd_lowest, dd_times, dd_rounded, dd_is_money, dd_is_rate, dd_is_step, dd_is_tariff, dd_fee_in, dd_fee_of, dd_first_above, dd_first_unfair, dd__law_open, dd__law_mixed, dd__law_draw, dd__law_int, dd__law_rate, dd__law_tariff, dd__law_fee, dd__law_all_pairs, dd__law_highs, dd__law_great_pair, dd__law_wrong, dd_law]
def fa : List He.Fa := [.glo "is_number", .glo "is_fraction", .glo "lowest", .glo "times", .glo "rounded", .glo "is_money", .glo "is_rate", .glo "is_step", .glo "is_tariff", .glo "fee_in", .glo "fee_of", .glo "first_above", .glo "first_unfair", .glo "_law_open", .glo "_law_mixed", .glo "_law_draw", .glo "_law_int", .glo "_law_rate", .glo "_law_tariff", .glo "_law_fee", .glo "_law_all_pairs", .glo "_law_highs", .glo "_law_great_pair", .glo "_law_wrong", .glo "law", .free "abs", .free "all", .free "bool", .free "int", .free "isinstance", .free "len", .free "list", .free "max", .free "min", .free "range", .free "sorted", .free "str", .free "tuple", .int "LIMIT" 1000000000000000000000000000000000000000000000000000000000000, .int "MOST_MONEY" 1000000000000, .int "MOST_WHOLE" 10000, .glo "NotThere", .exc "NotThere"]
def tf : List He.Defn := [("is_tariff", none), ("first_unfair", none)]
def exs (K : PySem.W.Frag) : Bool := [glB' K "WAYS" d_WAYS, glV' K "gcd" (.builtin "math.gcd")].all fun b => b
/-- the state of the layer behind the head -/
def mkG (P : Program) (w : World) (K : PySem.W.Frag) (mg : Str → Option Value) (base : Heap) : GG := ⟨P, w, K, mg, base, tf.map fun p => (He.cT K p).2, He.ga K⟩
theorem fr {P : Program} {w : World} {K : PySem.W.Frag} {mg : Str → Option Value} {base h : Heap} (X : K.In h) (N : h.Ns mainGlobals mg) (c : He.SaysD fa fn K) (e : exs K = true) : Fr (mkG P w K mg base) := by
  have e := List.all_eq_true.mp e
  have F : ∀ (i : Nat) (f : He.Fa), fa[i]? = some f → f.ok K = true := fun i f q => c.fact i q
  exact { f_abs := He.free_ok X N (F 25 _ rfl)
          f_all := He.free_ok X N (F 26 _ rfl)
          f_bool := He.free_ok X N (F 27 _ rfl)
          f_int := He.free_ok X N (F 28 _ rfl)
          f_isinstance := He.free_ok X N (F 29 _ rfl)
          f_len := He.free_ok X N (F 30 _ rfl)
          f_list := He.free_ok X N (F 31 _ rfl)
          f_max := He.free_ok X N (F 32 _ rfl)
          f_min := He.free_ok X N (F 33 _ rfl)
          f_range := He.free_ok X N (F 34 _ rfl)
          f_sorted := He.free_ok X N (F 35 _ rfl)
          f_str := He.free_ok X N (F 36 _ rfl)
          f_tuple := He.free_ok X N (F 37 _ rfl)
          c_LIMIT := He.int_ok X N (F 38 _ rfl)
          c_MOST_MONEY := He.int_ok X N (F 39 _ rfl)
          c_MOST_WHOLE := He.int_ok X N (F 40 _ rfl)
          c_WAYS := glB'_ok (G := mkG P w K mg base) X N (e _ (List.mem_of_getElem? (i := 0) rfl))
          e_NotThere := excD_of (G := mkG P w K mg base) X N rfl (F 42 _ rfl) (F 41 _ rfl)
          g_gcd := glV'_ok (G := mkG P w K mg base) X N (e _ (List.mem_of_getElem? (i := 1) rfl)) }
theorem all_ok {P : Program} {w : World} {K : PySem.W.Frag} {mg : Str → Option Value} {base : Heap} {f : Addr} {fd : FuncData} (X : K.In base) (N : base.Ns mainGlobals mg) (c : He.SaysD fa fn K) (e : exs K = true) (TB : ∀ p ∈ tf.map (He.cT K), GxR.TabB base mg p.1 p.2)
    (hf : mg "law" = some (.ref f)) (F : FunD K "law" "law" (defArgs s_law) (defBody s_law) (defScope s_law) [] [] f fd) : DefOk (mkG P w K mg base) 7 f fd ["script"] [.sc] sem_law := by
  have t : Fr (mkG P w K mg base) := fr X N c e
  obtain ⟨fd_is_number, F_is_number⟩ := c.def_ 0 (d := dd_is_number) rfl
  have g_is_number : (mkG P w K mg base).mg "is_number" = some (.ref (He.fAd K (dd_is_number).at_)) := He.glo_ok X N (c.fact 0 (f := .glo "is_number") rfl)
  have b_is_number : Binds K fd_is_number ["value", "least", "most"] [] := FunD.bindsN F_is_number fun _ _ _ _ _ _ us hl => match us, hl with | [_, _, _], _ => rfl
  have h_is_number : DefAt (mkG P w K mg base) "is_number" 1 3 [.d, .d, .d] sem_is_number := def_at F_is_number g_is_number sc_is_number rfl b_is_number (ok_is_number t )
  obtain ⟨fd_is_fraction, F_is_fraction⟩ := c.def_ 1 (d := dd_is_fraction) rfl
  have g_is_fraction : (mkG P w K mg base).mg "is_fraction" = some (.ref (He.fAd K (dd_is_fraction).at_)) := He.glo_ok X N (c.fact 1 (f := .glo "is_fraction") rfl)
  have b_is_fraction : Binds K fd_is_fraction ["value"] [] := FunD.bindsN F_is_fraction fun _ _ _ _ _ _ us hl => match us, hl with | [_], _ => rfl
  have h_is_fraction : DefAt (mkG P w K mg base) "is_fraction" 1 4 [.d] sem_is_fraction := def_at F_is_fraction g_is_fraction sc_is_fraction rfl b_is_fraction (ok_is_fraction t )
  obtain ⟨fd_lowest, F_lowest⟩ := c.def_ 2 (d := dd_lowest) rfl
  have g_lowest : (mkG P w K mg base).mg "lowest" = some (.ref (He.fAd K (dd_lowest).at_)) := He.glo_ok X N (c.fact 2 (f := .glo "lowest") rfl)
  have b_lowest : Binds K fd_lowest ["part", "whole"] [] := FunD.bindsN F_lowest fun _ _ _ _ _ _ us hl => match us, hl with | [_, _], _ => rfl
  have h_lowest : DefAt (mkG P w K mg base) "lowest" 1 3 [.d, .d] sem_lowest := def_at F_lowest g_lowest sc_lowest rfl b_lowest (ok_lowest t )
  obtain ⟨fd_times, F_times⟩ := c.def_ 3 (d := dd_times) rfl
  have g_times : (mkG P w K mg base).mg "times" = some (.ref (He.fAd K (dd_times).at_)) := He.glo_ok X N (c.fact 3 (f := .glo "times") rfl)
  have b_times : Binds K fd_times ["one", "other"] [] := FunD.bindsN F_times fun _ _ _ _ _ _ us hl => match us, hl with | [_, _], _ => rfl
  have h_times : DefAt (mkG P w K mg base) "times" 2 2 [.d, .d] sem_times := def_at F_times g_times sc_times rfl b_times (ok_times t h_lowest)
  obtain ⟨fd_rounded, F_rounded⟩ := c.def_ 4 (d := dd_rounded) rfl
  have g_rounded : (mkG P w K mg base).mg "rounded" = some (.ref (He.fAd K (dd_rounded).at_)) := He.glo_ok X N (c.fact 4 (f := .glo "rounded") rfl)
  have b_rounded : Binds K fd_rounded ["fraction", "way"] [] := FunD.bindsN F_rounded fun _ _ _ _ _ _ us hl => match us, hl with | [_, _], _ => rfl
  have h_rounded : DefAt (mkG P w K mg base) "rounded" 1 6 [.d, .d] sem_rounded := def_at F_rounded g_rounded sc_rounded rfl b_rounded (ok_rounded t )
  obtain ⟨fd_is_money, F_is_money⟩ := c.def_ 5 (d := dd_is_money) rfl
  have g_is_money : (mkG P w K mg base).mg "is_money" = some (.ref (He.fAd K (dd_is_money).at_)) := He.glo_ok X N (c.fact 5 (f := .glo "is_money") rfl)
  have b_is_money : Binds K fd_is_money ["value"] [] := FunD.bindsN F_is_money fun _ _ _ _ _ _ us hl => match us, hl with | [_], _ => rfl
  have h_is_money : DefAt (mkG P w K mg base) "is_money" 2 1 [.d] sem_is_money := def_at F_is_money g_is_money sc_is_money rfl b_is_money (ok_is_money t h_is_number)
  obtain ⟨fd_is_rate, F_is_rate⟩ := c.def_ 6 (d := dd_is_rate) rfl
  have g_is_rate : (mkG P w K mg base).mg "is_rate" = some (.ref (He.fAd K (dd_is_rate).at_)) := He.glo_ok X N (c.fact 6 (f := .glo "is_rate") rfl)
  have b_is_rate : Binds K fd_is_rate ["value"] [] := FunD.bindsN F_is_rate fun _ _ _ _ _ _ us hl => match us, hl with | [_], _ => rfl
  have h_is_rate : DefAt (mkG P w K mg base) "is_rate" 2 1 [.d] sem_is_rate := def_at F_is_rate g_is_rate sc_is_rate rfl b_is_rate (ok_is_rate t h_is_fraction)
  obtain ⟨fd_is_step, F_is_step⟩ := c.def_ 7 (d := dd_is_step) rfl
  have g_is_step : (mkG P w K mg base).mg "is_step" = some (.ref (He.fAd K (dd_is_step).at_)) := He.glo_ok X N (c.fact 7 (f := .glo "is_step") rfl)
  have b_is_step : Binds K fd_is_step ["value"] [] := FunD.bindsN F_is_step fun _ _ _ _ _ _ us hl => match us, hl with | [_], _ => rfl
  have h_is_step : DefAt (mkG P w K mg base) "is_step" 3 1 [.d] sem_is_step := def_at F_is_step g_is_step sc_is_step rfl b_is_step (ok_is_step t h_is_money h_is_rate)
  obtain ⟨fd_is_tariff, F_is_tariff⟩ := c.def_ 8 (d := dd_is_tariff) rfl
  have g_is_tariff : (mkG P w K mg base).mg "is_tariff" = some (.ref (He.fAd K (dd_is_tariff).at_)) := He.glo_ok X N (c.fact 8 (f := .glo "is_tariff") rfl)
  have b_is_tariff : Binds K fd_is_tariff ["value"] [] := FunD.bindsN F_is_tariff fun _ _ _ _ _ _ us hl => match us, hl with | [_], _ => rfl
  have h_is_tariff : DefAt (mkG P w K mg base) "is_tariff" 5 5 [.d] sem_is_tariff := by
    obtain ⟨cc, hcc⟩ := code_ref F_is_tariff
    have hm : (("is_tariff", none) : He.Defn) ∈ tf := List.mem_of_getElem? (i := 0) rfl
    have e1 : (He.cT K ("is_tariff", none)).1 = cc := code_eq F_is_tariff rfl hcc
    exact def_atT (G := mkG P w K mg base) F_is_tariff g_is_tariff (c := (He.cT K ("is_tariff", none)).1) (P := (He.cT K ("is_tariff", none)).2) (by rw [e1]; exact hcc) (TB _ (List.mem_map.mpr ⟨_, hm, rfl⟩)) (List.mem_map.mpr ⟨_, hm, rfl⟩) sc_is_tariff rfl b_is_tariff (ok_is_tariff t h_is_step)
  obtain ⟨fd_fee_in, F_fee_in⟩ := c.def_ 9 (d := dd_fee_in) rfl
  have g_fee_in : (mkG P w K mg base).mg "fee_in" = some (.ref (He.fAd K (dd_fee_in).at_)) := He.glo_ok X N (c.fact 9 (f := .glo "fee_in") rfl)
  have b_fee_in : Binds K fd_fee_in ["way", "step", "value"] [] := FunD.bindsN F_fee_in fun _ _ _ _ _ _ us hl => match us, hl with | [_, _, _], _ => rfl
  have h_fee_in : DefAt (mkG P w K mg base) "fee_in" 3 6 [.d, .d, .d] sem_fee_in := def_at F_fee_in g_fee_in sc_fee_in rfl b_fee_in (ok_fee_in t h_times h_rounded)
  obtain ⟨fd_fee_of, F_fee_of⟩ := c.def_ 10 (d := dd_fee_of) rfl
  have g_fee_of : (mkG P w K mg base).mg "fee_of" = some (.ref (He.fAd K (dd_fee_of).at_)) := He.glo_ok X N (c.fact 10 (f := .glo "fee_of") rfl)
  have b_fee_of : Binds K fd_fee_of ["tariff", "value"] [] := FunD.bindsN F_fee_of fun _ _ _ _ _ _ us hl => match us, hl with | [_, _], _ => rfl
  have h_fee_of : DefAt (mkG P w K mg base) "fee_of" 4 6 [.d, .d] sem_fee_of := def_at F_fee_of g_fee_of sc_fee_of rfl b_fee_of (ok_fee_of t h_fee_in)
  obtain ⟨fd_first_above, F_first_above⟩ := c.def_ 11 (d := dd_first_above) rfl
  have g_first_above : (mkG P w K mg base).mg "first_above" = some (.ref (He.fAd K (dd_first_above).at_)) := He.glo_ok X N (c.fact 11 (f := .glo "first_above") rfl)
  have b_first_above : Binds K fd_first_above ["way", "step", "last", "bound"] [] := FunD.bindsN F_first_above fun _ _ _ _ _ _ us hl => match us, hl with | [_, _, _, _], _ => rfl
  have h_first_above : DefAt (mkG P w K mg base) "first_above" 4 7 [.d, .d, .d, .d] sem_first_above := def_at F_first_above g_first_above sc_first_above rfl b_first_above (ok_first_above t h_fee_in)
  obtain ⟨fd_first_unfair, F_first_unfair⟩ := c.def_ 12 (d := dd_first_unfair) rfl
  have g_first_unfair : (mkG P w K mg base).mg "first_unfair" = some (.ref (He.fAd K (dd_first_unfair).at_)) := He.glo_ok X N (c.fact 12 (f := .glo "first_unfair") rfl)
  have b_first_unfair : Binds K fd_first_unfair ["tariff"] [] := FunD.bindsN F_first_unfair fun _ _ _ _ _ _ us hl => match us, hl with | [_], _ => rfl
  have h_first_unfair : DefAt (mkG P w K mg base) "first_unfair" 5 8 [.d] sem_first_unfair := by
    obtain ⟨cc, hcc⟩ := code_ref F_first_unfair
    have hm : (("first_unfair", none) : He.Defn) ∈ tf := List.mem_of_getElem? (i := 1) rfl
    have e1 : (He.cT K ("first_unfair", none)).1 = cc := code_eq F_first_unfair rfl hcc
    exact def_atT (G := mkG P w K mg base) F_first_unfair g_first_unfair (c := (He.cT K ("first_unfair", none)).1) (P := (He.cT K ("first_unfair", none)).2) (by rw [e1]; exact hcc) (TB _ (List.mem_map.mpr ⟨_, hm, rfl⟩)) (List.mem_map.mpr ⟨_, hm, rfl⟩) sc_first_unfair rfl b_first_unfair (ok_first_unfair t h_fee_in h_first_above)
  obtain ⟨fd__law_open, F__law_open⟩ := c.def_ 13 (d := dd__law_open) rfl
  have g__law_open : (mkG P w K mg base).mg "_law_open" = some (.ref (He.fAd K (dd__law_open).at_)) := He.glo_ok X N (c.fact 13 (f := .glo "_law_open") rfl)
  have b__law_open : Binds K fd__law_open ["script"] [] := FunD.bindsN F__law_open fun _ _ _ _ _ _ us hl => match us, hl with | [_], _ => rfl
  have h__law_open : DefAt (mkG P w K mg base) "_law_open" 1 3 [.sc] sem__law_open := def_at F__law_open g__law_open sc__law_open rfl b__law_open (ok__law_open t )
  obtain ⟨fd__law_mixed, F__law_mixed⟩ := c.def_ 14 (d := dd__law_mixed) rfl
  have g__law_mixed : (mkG P w K mg base).mg "_law_mixed" = some (.ref (He.fAd K (dd__law_mixed).at_)) := He.glo_ok X N (c.fact 14 (f := .glo "_law_mixed") rfl)
  have b__law_mixed : Binds K fd__law_mixed ["cell", "turn"] [] := FunD.bindsN F__law_mixed fun _ _ _ _ _ _ us hl => match us, hl with | [_, _], _ => rfl
  have h__law_mixed : DefAt (mkG P w K mg base) "_law_mixed" 1 3 [.d, .d] sem__law_mixed := def_at F__law_mixed g__law_mixed sc__law_mixed rfl b__law_mixed (ok__law_mixed t )
  obtain ⟨fd__law_draw, F__law_draw⟩ := c.def_ 15 (d := dd__law_draw) rfl
  have g__law_draw : (mkG P w K mg base).mg "_law_draw" = some (.ref (He.fAd K (dd__law_draw).at_)) := He.glo_ok X N (c.fact 15 (f := .glo "_law_draw") rfl)
  have b__law_draw : Binds K fd__law_draw ["draws", "size"] [] := FunD.bindsN F__law_draw fun _ _ _ _ _ _ us hl => match us, hl with | [_, _], _ => rfl
  have h__law_draw : DefAt (mkG P w K mg base) "_law_draw" 2 6 [.io, .d] sem__law_draw := def_at F__law_draw g__law_draw sc__law_draw rfl b__law_draw (ok__law_draw t h__law_mixed)
  obtain ⟨fd__law_int, F__law_int⟩ := c.def_ 16 (d := dd__law_int) rfl
  have g__law_int : (mkG P w K mg base).mg "_law_int" = some (.ref (He.fAd K (dd__law_int).at_)) := He.glo_ok X N (c.fact 16 (f := .glo "_law_int") rfl)
  have b__law_int : Binds K fd__law_int ["value"] [] := FunD.bindsN F__law_int fun _ _ _ _ _ _ us hl => match us, hl with | [_], _ => rfl
  have h__law_int : DefAt (mkG P w K mg base) "_law_int" 1 1 [.d] sem__law_int := def_at F__law_int g__law_int sc__law_int rfl b__law_int (ok__law_int t )
  obtain ⟨fd__law_rate, F__law_rate⟩ := c.def_ 17 (d := dd__law_rate) rfl
  have g__law_rate : (mkG P w K mg base).mg "_law_rate" = some (.ref (He.fAd K (dd__law_rate).at_)) := He.glo_ok X N (c.fact 17 (f := .glo "_law_rate") rfl)
  have b__law_rate : Binds K fd__law_rate ["draws", "great"] [] := FunD.bindsN F__law_rate fun _ _ _ _ _ _ us hl => match us, hl with | [_, _], _ => rfl
  have h__law_rate : DefAt (mkG P w K mg base) "_law_rate" 3 9 [.io, .d] sem__law_rate := def_at F__law_rate g__law_rate sc__law_rate rfl b__law_rate (ok__law_rate t h__law_draw)
  obtain ⟨fd__law_tariff, F__law_tariff⟩ := c.def_ 18 (d := dd__law_tariff) rfl
  have g__law_tariff : (mkG P w K mg base).mg "_law_tariff" = some (.ref (He.fAd K (dd__law_tariff).at_)) := He.glo_ok X N (c.fact 18 (f := .glo "_law_tariff") rfl)
  have b__law_tariff : Binds K fd__law_tariff ["draws"] [] := FunD.bindsN F__law_tariff fun _ _ _ _ _ _ us hl => match us, hl with | [_], _ => rfl
  have h__law_tariff : DefAt (mkG P w K mg base) "_law_tariff" 4 8 [.io] sem__law_tariff := def_at F__law_tariff g__law_tariff sc__law_tariff rfl b__law_tariff (ok__law_tariff t h__law_draw h__law_rate)
  obtain ⟨fd__law_fee, F__law_fee⟩ := c.def_ 19 (d := dd__law_fee) rfl
  have g__law_fee : (mkG P w K mg base).mg "_law_fee" = some (.ref (He.fAd K (dd__law_fee).at_)) := He.glo_ok X N (c.fact 19 (f := .glo "_law_fee") rfl)
  have b__law_fee : Binds K fd__law_fee ["tariff", "value"] [] := FunD.bindsN F__law_fee fun _ _ _ _ _ _ us hl => match us, hl with | [_, _], _ => rfl
  have h__law_fee : DefAt (mkG P w K mg base) "_law_fee" 1 11 [.d, .d] sem__law_fee := def_at F__law_fee g__law_fee sc__law_fee rfl b__law_fee (ok__law_fee t )
  obtain ⟨fd__law_all_pairs, F__law_all_pairs⟩ := c.def_ 20 (d := dd__law_all_pairs) rfl
  have g__law_all_pairs : (mkG P w K mg base).mg "_law_all_pairs" = some (.ref (He.fAd K (dd__law_all_pairs).at_)) := He.glo_ok X N (c.fact 20 (f := .glo "_law_all_pairs") rfl)
  have b__law_all_pairs : Binds K fd__law_all_pairs ["tariff"] [] := FunD.bindsN F__law_all_pairs fun _ _ _ _ _ _ us hl => match us, hl with | [_], _ => rfl
  have h__law_all_pairs : DefAt (mkG P w K mg base) "_law_all_pairs" 2 5 [.d] sem__law_all_pairs := def_at F__law_all_pairs g__law_all_pairs sc__law_all_pairs rfl b__law_all_pairs (ok__law_all_pairs t h__law_fee)
  obtain ⟨fd__law_highs, F__law_highs⟩ := c.def_ 21 (d := dd__law_highs) rfl
  have g__law_highs : (mkG P w K mg base).mg "_law_highs" = some (.ref (He.fAd K (dd__law_highs).at_)) := He.glo_ok X N (c.fact 21 (f := .glo "_law_highs") rfl)
  have b__law_highs : Binds K fd__law_highs ["tariff", "low"] [] := FunD.bindsN F__law_highs fun _ _ _ _ _ _ us hl => match us, hl with | [_, _], _ => rfl
  have h__law_highs : DefAt (mkG P w K mg base) "_law_highs" 2 4 [.d, .d] sem__law_highs := def_at F__law_highs g__law_highs sc__law_highs rfl b__law_highs (ok__law_highs t h__law_fee)
  obtain ⟨fd__law_great_pair, F__law_great_pair⟩ := c.def_ 22 (d := dd__law_great_pair) rfl
  have g__law_great_pair : (mkG P w K mg base).mg "_law_great_pair" = some (.ref (He.fAd K (dd__law_great_pair).at_)) := He.glo_ok X N (c.fact 22 (f := .glo "_law_great_pair") rfl)
  have b__law_great_pair : Binds K fd__law_great_pair ["tariff", "told"] [] := FunD.bindsN F__law_great_pair fun _ _ _ _ _ _ us hl => match us, hl with | [_, _], _ => rfl
  have h__law_great_pair : DefAt (mkG P w K mg base) "_law_great_pair" 3 7 [.d, .d] sem__law_great_pair := def_at F__law_great_pair g__law_great_pair sc__law_great_pair rfl b__law_great_pair (ok__law_great_pair t h__law_int h__law_highs)
  obtain ⟨fd__law_wrong, F__law_wrong⟩ := c.def_ 23 (d := dd__law_wrong) rfl
  have g__law_wrong : (mkG P w K mg base).mg "_law_wrong" = some (.ref (He.fAd K (dd__law_wrong).at_)) := He.glo_ok X N (c.fact 23 (f := .glo "_law_wrong") rfl)
  have b__law_wrong : Binds K fd__law_wrong ["tariff", "draws"] [] := FunD.bindsN F__law_wrong fun _ _ _ _ _ _ us hl => match us, hl with | [_, _], _ => rfl
  have h__law_wrong : DefAt (mkG P w K mg base) "_law_wrong" 6 11 [.d, .io] sem__law_wrong := def_at F__law_wrong g__law_wrong sc__law_wrong rfl b__law_wrong (ok__law_wrong t h_is_tariff)
  exact def_ok (G := mkG P w K mg base) F sc_law rfl (ok_law t h_is_tariff h_fee_of h_first_unfair h__law_open h__law_draw h__law_int h__law_tariff h__law_fee h__law_all_pairs h__law_great_pair h__law_wrong)
abbrev Rw : PySem.W.OpenRow := PySem.W.OpenLaw.row PySem.Challenge.rw_docketloom_k46_tariffs_and_unfair_pairs
abbrev qv : Program := PySem.W.view Rw.prog [0, 36]
abbrev hk : PySem.W.Hook := He.hookX 4 fa fn [] tf exs
def ob (s : PySem.W.SharedT) : He.AlX := He.obsX 4 fa fn [] tf exs (HandSHeadRun.getT s)
theorem ob_eq (s : PySem.W.SharedT) : ob s = hk.obs s.abs := He.obsX_eq (HandSHeadRun.getT_eq s)
def nm0 : List Str := ["DocketError", "NotThere", "is_number", "LIMIT", "is_fraction", "lowest", "times", "rounded", "MOST_MONEY", "MOST_WHOLE", "WAYS", "is_money", "is_rate", "is_step", "is_tariff", "fee_in", "fee_of", "first_above", "first_unfair", "_law_open", "_law_mixed", "_law_draw", "_law_int", "_law_rate", "_law_tariff", "_law_fee", "_law_all_pairs", "_law_highs", "_law_great_pair", "_law_wrong"]
def nms : List Str := nm0
theorem run (w : World) : HandSHeadRun.RunEqI Rw qv hk ob 2000 nms w := by
  unfold HandSHeadRun.RunEqI
  kernel_rfl
theorem holds (hp : Plain sem_law) : PySem.Challenge.rw_docketloom_k46_tariffs_and_unfair_pairs.Holds := by
  w_on; o_law
  refine HandSHeadRun.head_imp (r := Rw) (q := qv) (H := hk) (ob := ob) (M := 2000) (loose := nms) (d := HandSHeadRun.topDef Rw.prog 36) (kwd := []) ob_eq run (by kernel_rfl) (by kernel_rfl) (by kernel_rfl) (by rfl) (by first | assumption | decide +kernel) (by decide +kernel) ⟨rfl, rfl, rfl, rfl, rfl, by decide +kernel⟩ ?hw ?hc
  case hw => w_witness2
  case hc =>
    refine LamX.walk_ofTsE (l := PySem.Challenge.rw_docketloom_k46_tariffs_and_unfair_pairs) (n := 63) (k := 7) (x := "script") (CX := fun w => L2.CX PySem.Challenge.rw_docketloom_k46_tariffs_and_unfair_pairs.prog w) rfl (by decide) (by kernel_rfl) ⟨rfl, by decide, by decide⟩ ?F (fun w H s e s' z => cx_none z)
    intro w mg fa0 h Y G hmg0
    obtain ⟨K, KX, c⟩ := Y
    have hmg : mg "law" = some (.ref fa0) := by
      have e : (HandSHeadRun.topDef Rw.prog 36).name = ("law" : Str) := by kernel_rfl
      rw [← e]
      exact hmg0
    have cD : He.SaysD fa fn K := congrArg (fun z : He.AlT => z.1) c.t
    obtain ⟨fd, F⟩ := cD.def_ 24 (d := dd_law) rfl
    have ef : He.fAd K (dd_law).at_ = fa0 := by
      have := hmg.symm.trans (He.glo_ok KX G (cD.fact 24 (f := .glo "law") rfl))
      cases this
      rfl
    rw [ef] at F
    have b := FunD.bindsA (ps := ["script"]) F fun _ _ _ _ _ _ us hl => match us, hl with | [_], _ => rfl
    refine ⟨K, KX, law_at (cs := tf.map (He.cT K)) (fun p hp => ?_) (fun p hp => ?_) (fun p hp => ?_) (fun s u => b s [u] rfl) hp fun base KB NB TB => ⟨mkG _ w K mg base, rfl, rfl, rfl, rfl, rfl, fun P hP => ?_, all_ok KB NB cD c.more TB hmg F⟩⟩
    · obtain ⟨q, hq, rfl⟩ := List.mem_map.mp hp
      exact c.empty q hq
    · obtain ⟨q, hq, rfl⟩ := List.mem_map.mp hp
      exact c.out q hq
    · obtain ⟨q, hq, rfl⟩ := List.mem_map.mp hp
      exact PySem.W.codeHd_of_K KX (c.hd q hq)
    · obtain ⟨q, hq, rfl⟩ := List.mem_map.mp hP
      exact ⟨_, List.mem_map.mpr ⟨q, hq, rfl⟩, rfl⟩
end PL.K46
end
set_option maxRecDepth 100000
theorem PySem.Challenge.cw_docketloom_k46_tariffs_and_unfair_pairs_holds : PySem.Challenge.rw_docketloom_k46_tariffs_and_unfair_pairs.Holds := by
  exact PL.K46.holds PL.K46.plain
