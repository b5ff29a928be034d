import PyProof.Rows.All
import Wide.All
import OpenK.AllK
import Wide.FinOn
import HandS.ForMost
import HandS.Exc
import HandS.TryOnly
import HandS.ExcOwn
import HandS.WordsExc
import HandS.AnyAll
import HandS.GenOver
import HandS.GenList
import HandS.Wide
import HandS.Gcd
import HandS.IsInst
import HandS.Style
import HandS.Flow
import HandS.Conv
import HandS.Zip
import HandS.Comp
import HandS.HotCalls
import HandS.ExcIs
import HandS.TupAny
import HandS.Deep
import HandS.SortInts
import HandS.TupMul
import PyProof.StrOps2
import HandS.NoneIn
import HandS.Defaults
import HandS.HeadHook4
import HandS.HeadWalk
import HandS.Head3
import HandS.Dict
import PySem.Challenge.RW_docketloom_k47_fee_books
section
set_option Elab.async false
set_option linter.all false
set_option maxRecDepth 100000
set_option maxHeartbeats 2000000
namespace Gx
open PySem PySem.Spec PyProof.Rows L2

/-- the scope of a generator expression within a def whose names are N -/
structure GenSc (N : List Str) (sc scope : Scope) (own : List (Str × Nat)) : Prop where
  kind : scope.kind = .function
  co : scope.isCoroutine = false
  dot : scope.names.lookup (".0" : Str) = some NameKind.local
  ix : ∀ p ∈ own, N[p.2]? = some p.1
  free : ∀ y ∈ scope.names, y.2 = .free → sc.names.lookup y.1 = some .cell ∨ sc.names.lookup y.1 = some .free
  own : ∀ y ∈ scope.names, y.2 = .local → y.1 ∈ own.map (·.1) ∨ y.1 ∉ N
  nocell : ∀ y ∈ scope.names, y.2 ≠ .cell

def genC (N : List Str) (sc scope : Scope) (own : List (Str × Nat)) : Bool :=
  (scope.kind == .function) && !scope.isCoroutine && (scope.names.lookup (".0" : Str) == some NameKind.local)
    && own.all (fun p => N[p.2]? == some p.1)
    && scope.names.all (fun y => !(y.2 == .free) || (sc.names.lookup y.1 == some .cell || sc.names.lookup y.1 == some .free))
    && scope.names.all (fun y => !(y.2 == .local) || ((own.map (·.1)).contains y.1 || !N.contains y.1))
    && scope.names.all (fun y => !(y.2 == .cell))
theorem genSc_by {N : List Str} {sc scope : Scope} {own : List (Str × Nat)} (h : genC N sc scope own = true) : GenSc N sc scope own := by
  simp only [genC, Bool.and_eq_true, beq_iff_eq, Bool.not_eq_true', List.all_eq_true, Bool.or_eq_true, List.contains_iff_mem] at h
  obtain ⟨⟨⟨⟨⟨⟨h1, h2⟩, h3⟩, h4⟩, h5⟩, h6⟩, h7⟩ := h
  refine ⟨h1, h2, h3, h4, fun y hy e => ?_, fun y hy e => ?_, fun y hy e => ?_⟩
  · rcases h5 y hy with z | z
    · simp [e] at z
    · exact z
  · rcases h6 y hy with z | z | z
    · simp [e] at z
    · exact .inl z
    · exact .inr (by simpa using z)
  · have z := h7 y hy
    simp [e] at z

/-- the context of a generator's frame -/
abbrev cxGen (X : Cx) (A' : Around) (s : Shared) (H : Hp) (cenv : Env) (fp : List Addr) : Cx :=
  { X with A := A', s_0 := s, H_0 := H, env := cenv, outer := X.stack, stack := cenv :: X.stack, ex := fp, fn := fun _ => false, pn := [], xe := fun _ _ => False }

section
variable {X : Cx} {pins : List (Addr × Obj)} {σ : L2.St} {H : Hp} {s : Shared}

theorem gen_start {scope : Scope} {own : List (Str × Nat)} {fp : List Addr} {A' : Around} {code : Value} {a : Addr} {go : Obj} {h5 : Heap} {gs : GenState} {tk : Nat} {m : Str → Option Value}
    (I : Inv X pins σ H s) (ok : GenSc X.N X.env.scope scope own) (hN : X.N.Nodup) (hfp : ∀ b ∈ fp, FpOk X pins H b ∧ b < s.heap.objs.size)
    (hfr : A'.frames = some (genEnv scope (cloFrom X.env.cells scope.names []) s.heap.objs.size code builtinsNs X.env :: X.stack)) (hhd : X.calm = true → A'.handled = none)
    (hns : h5.Ns s.heap.objs.size m) (hk : ∀ b o, s.heap.get? b = some o → h5.get? b = some o)
    (ha : h5.get? a = some go) (hlt : s.heap.objs.size < a) (hgd : ∀ v, go.data ≠ .cell v) (hb : gs.bare = true) :
    Inv (cxGen X A' s H (genEnv scope (cloFrom X.env.cells scope.names []) s.heap.objs.size code builtinsNs X.env) fp) [(a, go)] (wipe σ (own.map (·.2))) H
      { s with gens := s.gens.push gs, toks := tk, heap := h5 } := by
  have hfree : ∀ y ∈ scope.names, y.2 = .free → ∃ c, X.env.cells.lookup y.1 = some c := fun y hy e => by
    rcases ok.free y hy e with k | k
    · exact I.ok.has _ (.inl k)
    · exact I.ok.has _ (.inr k)
  have cm : ∀ {y c}, (cloFrom X.env.cells scope.names []).lookup y = some c → X.env.cells.lookup y = some c ∧ c < s.heap.objs.size := fun {y c} hl => by
    rcases cloFrom_mem (PySem.mem_of_lookup hl) with hm | ⟨h1, rfl⟩
    · cases hm
    · obtain ⟨c, hc⟩ := hfree _ h1 rfl
      rw [hc]
      obtain ⟨w, z⟩ := I.cell _ _ hc
      exact ⟨rfl, z.lt⟩
  have fresh_a : H a = none := I.hok.fresh (Nat.le_of_lt hlt)
  generalize hce : genEnv scope (cloFrom X.env.cells scope.names []) s.heap.objs.size code builtinsNs X.env = ce at hfr ⊢
  have cL : ce.locals = s.heap.objs.size := by rw [← hce]; rfl
  have cC : ce.cells = cloFrom X.env.cells scope.names [] := by rw [← hce]; rfl
  have cS : ce.scope = scope := by rw [← hce]; rfl
  have cG : ce.globals = mainGlobals := by rw [← hce]; exact I.ok.glob
  have cB : ce.builtins = builtinsNs := by rw [← hce]; rfl
  have cF : ce.frame = some ce.locals := by rw [← hce]; rfl
  have okG : (cxGen X A' s H ce fp).Ok := by
    refine ⟨I.ok.mod, by show ce.scope.kind = _; rw [cS]; exact ok.kind, cG, cB, by show s.heap.objs.size ≤ ce.locals; rw [cL]; exact Nat.le_refl _,
      fun y z c e1 e2 => ?_, fun y hy => ?_, fun y c z _ => Bool.noConfusion (show false = true from z), hhd, hfr, .inr ⟨rfl, cF⟩, fun b hb => ⟨?_, fun y c e z => ?_⟩, I.bs, Nat.le_trans I.ok.bsz I.sz, fun b o e hb => ?_, fun b hb z => ?_, I.stack, I.stkFree⟩
    · have e1 : ce.cells.lookup y = some c := e1
      have e2 : ce.cells.lookup z = some c := e2
      rw [cC] at e1 e2
      exact I.ok.inj y z c (cm e1).1 (cm e2).1
    · show ∃ c, ce.cells.lookup y = some c
      have hy : ce.scope.names.lookup y = some .cell ∨ ce.scope.names.lookup y = some .free := hy
      rw [cS] at hy
      rcases hy with hy | hy
      · exact absurd rfl (ok.nocell _ (PySem.mem_of_lookup hy))
      · rw [cC]
        exact mem_lookup (cloFrom_has (cells := X.env.cells) (acc := []) (PySem.mem_of_lookup hy))
    · show b ≠ ce.locals
      rw [cL]; exact Nat.ne_of_lt (hfp b hb).2
    · have e : ce.cells.lookup y = some c := e
      rw [cC] at e
      exact (hfp b hb).1.2.2.2.2.1 y c (cm e).1 z
    · rcases (hfp b hb).1.2.2.2.1 with z | z
      · exact I.ok.noex b o e z
      · exact absurd (Nat.lt_of_lt_of_le (Heap.lt_size e) (Nat.le_trans I.ok.bsz z)) (Nat.lt_irrefl _)
    · rcases List.mem_cons.mp (I.stkSub b z) with z | z
      · exact (hfp b hb).1.2.1 z
      · exact (hfp b hb).1.2.2.1 z
  refine ⟨okG, rfl, ?_, Un.kept hk, ⟨m, ?_, fun i y av e1 e2 e3 => ?_⟩, fun y c e => ?_, ?_, fun y c e => ?_, fun p hp => ?_, I.hok.kept hk, by rw [wipe_length]; exact I.len⟩
  · exact I.bare.push hb
  · show h5.Ns ce.locals m
    rw [cL]; exact hns
  · obtain ⟨e2, hne⟩ := wipe_some e2
    have e3 : ce.scope.names.lookup y = some .local ∨ ce.scope.names.lookup y = some .cell ∨ ce.scope.names.lookup y = some .free := e3
    rw [cS] at e3
    rcases e3 with e3 | e3 | e3
    · exfalso
      rcases ok.own _ (PySem.mem_of_lookup e3) rfl with q | q
      · obtain ⟨p, hp, hpy⟩ := List.mem_map.mp q
        have e4 := ok.ix p hp
        have hpy : p.1 = y := hpy
        rw [hpy] at e4
        exact hne (List.mem_map.mpr ⟨p, hp, nodup_ix hN e4 e1⟩)
      · exact q (List.mem_of_getElem? e1)
    · exact absurd rfl (ok.nocell _ (PySem.mem_of_lookup e3))
    · obtain ⟨m0, hn0, hl0⟩ := I.loc
      have hvis : Vis X.env.scope y := (ok.free _ (PySem.mem_of_lookup e3) rfl).elim (fun k => .inr (.inl k)) (fun k => .inr (.inr k))
      obtain ⟨w, r, q⟩ := hl0 i y av e1 e2 hvis
      refine ⟨w, r, .inr ⟨.inr (show ce.scope.names.lookup y = some .free by rw [cS]; exact e3), ?_⟩⟩
      rcases q with ⟨k, _⟩ | ⟨_, c', e', z⟩
      · have k : X.env.scope.names.lookup y = some .local := k
        rcases ok.free _ (PySem.mem_of_lookup e3) rfl with k' | k' <;> rw [show X.env.scope.names.lookup y = _ from k'] at k <;> cases k
      · obtain ⟨c, hc⟩ := mem_lookup (cloFrom_has (cells := X.env.cells) (acc := []) (PySem.mem_of_lookup e3))
        have hcc := (cm hc).1
        rw [e'] at hcc
        cases hcc
        exact ⟨_, by rw [cC]; exact hc, z.keeps hk⟩
  · have e : ce.cells.lookup y = some c := e
    rw [cC] at e
    obtain ⟨w, z⟩ := I.cell y c (cm e).1
    exact ⟨w, z.keeps hk⟩
  · show H ce.locals = none
    rw [cL]; exact I.hok.fresh (Nat.le_refl _)
  · have e : ce.cells.lookup y = some c := e
    rw [cC] at e
    exact I.freeC y c (cm e).1
  · have e : p = (a, go) := by simpa using (show p ∈ ([] : List (Addr × Obj)) ++ [(a, go)] from hp)
    subst e
    refine ⟨ha, fresh_a, ?_, fun hz => ?_, hgd⟩
    · show a ≠ ce.locals
      rw [cL]; exact Nat.ne_of_gt hlt
    · rcases List.mem_cons.mp (I.stkSub a hz) with z | z
      · have := I.lt
        rw [← z] at this
        exact absurd (Nat.lt_trans hlt this) (Nat.lt_irrefl _)
      · exact I.nofs (Nat.le_of_lt hlt) z
end
end Gx
end
section
set_option Elab.async false
set_option linter.all false
set_option maxRecDepth 100000
set_option maxHeartbeats 2000000
namespace Gx
open PySem PySem.Spec PyProof.Rows L2

/-- what a turn over the source is to bring: the target is set, the tests pass or not, the element's bool stops the consumer or not -/
abbrev TurnB (stopOn : Bool) (J : It) (g : TG) (tt : TT) (te : TE) (vs : List Nat) (σ : L2.St) (Qe : V → Hp → Prop) (W : Nat → Nat → Hp → Prop) : Prop :=
  ∀ i m H, W i m H → (J.stop i H ∧ Qe (.bl (!stopOn)) H) ∨
    (J.go i H ∧ ∃ Nx : Hp → Prop, (∀ H', Nx H' → ∃ m', m' < m ∧ W (i + 1) m' H') ∧
      ∀ x H', J.yld i H x H' → g x (wipe σ vs) H' fun σ2 H2 => wipe σ2 vs = wipe σ vs ∧ tt σ2 H2 fun b H3 =>
        if b = true then te σ2 H3 fun y H4 => ∃ c : Bool, y = .bl c ∧ (if c = stopOn then Qe (.bl stopOn) H4 else Nx H4) else Nx H3)

abbrev EndB (Xg : Cx) (gp : List (Addr × Obj)) (stopOn : Bool) (Qe : V → Hp → Prop) : Nat → Shared → Shared → Prop := fun _ _ s1 =>
  ∃ (σ : L2.St) (H : Hp), Inv Xg gp σ H s1 ∧ Qe (.bl (!stopOn)) H
abbrev ProB (Xg : Cx) (gp : List (Addr × Obj)) (stopOn : Bool) (Qe : V → Hp → Prop) : Protocol := fun _ _ v s kap =>
  ∃ (c : Bool) (σ : L2.St) (H : Hp), v = Value.bool c ∧ Inv Xg gp σ H s ∧ (if c = stopOn then Qe (.bl stopOn) H else
    ∀ s2 : Shared, (∀ b o, s.heap.get? b = some o → s2.heap.get? b = some o) → s2.os = s.os → AllBare s2.gens → kap (.send .none) s2)

theorem Inv.moreOf {X : Cx} {pins : List (Addr × Obj)} {σ : L2.St} {H : Hp} {s s2 : Shared} (I : Inv X pins σ H s) (k : ∀ b o, s.heap.get? b = some o → s2.heap.get? b = some o) (ho : s2.os = s.os) (hb : AllBare s2.gens) : Inv X pins σ H s2 :=
  I.call' (ch := []) ho (Un.kept k) (I.hok.kept k) hb (fun b hb => absurd hb (by simp))

section
variable {X : Cx} {elt tg iter : Expr} {ifs : List Expr} {scope : Scope} {pos : Pos} {g : TG} {tt : TT} {te : TE} {vs : List Nat} {σ : L2.St}
  {A A' : Around} {s4 : Shared} {H4 : Hp} {ce : Env} {fp : List Addr} {it : Addr} {tn : Nat → Heap → Prop} {J : It} {gp : List (Addr × Obj)}

theorem seg_turns (stopOn : Bool) (Qe : V → Hp → Prop) (W : Nat → Nat → Hp → Prop) (hc : X.calm = true)
    (hA : A.over (.compLoop (.GeneratorExp elt [⟨tg, iter, ifs, 0⟩] scope pos) 0 (.ref it) .none ce) [] = A')
    (T : Turn X.prog X.w X.K tg J fp it tn)
    (pg : PG (cxGen X A' s4 H4 ce fp) tg g) (pt : PTs (cxGen X A' s4 H4 ce fp) ifs tt) (pe : PE (cxGen X A' s4 H4 ce fp) elt te)
    (hco : ce.scope.isCoroutine = false) (turn : TurnB stopOn J g tt te vs σ Qe W) (hgp : ∀ p ∈ gp, p.1 ∉ fp) :
    ∀ (m n i : Nat) (s0 s : Shared) (H : Hp), m < n → Inv (cxGen X A' s4 H4 ce fp) gp (wipe σ vs) H s → tn i s.heap → (∀ b ∈ fp, H b = none) → W i m H →
      Seg (model X.prog X.w) A (fun n s0 r s1 => r = .ok .next ∧ EndB (cxGen X A' s4 H4 ce fp) gp stopOn Qe n s0 s1) (ProB (cxGen X A' s4 H4 ce fp) gp stopOn Qe) n s0
        (.compLoop (.GeneratorExp elt [⟨tg, iter, ifs, 0⟩] scope pos) 0 (.ref it) .none ce)
        ((model X.prog X.w).den (.compLoop (.GeneratorExp elt [⟨tg, iter, ifs, 0⟩] scope pos) 0 (.ref it) .none ce)) [] s := by
  have run : ∀ {α : Type} {m : Sem α} {Q : α → Shared → Prop} {E : Value → Shared → Prop} {s : Shared}, wpAny (model X.prog X.w) A' m Q (fun _ _ => False) s →
      wpAny (model X.prog X.w) (A.over (.compLoop (.GeneratorExp elt [⟨tg, iter, ifs, 0⟩] scope pos) 0 (.ref it) .none ce) []) m Q E s := fun h => by
    rw [hA]; exact thnF h fun _ _ q => q
  have stat : ∀ {pn : List (Addr × Obj)} {σ' : L2.St} {H' : Hp} {s' : Shared}, Inv (cxGen X A' s4 H4 ce fp) pn σ' H' s' → (∀ b ∈ fp, H' b = none) → (∀ p ∈ pn, p.1 ∉ fp) → ∀ b ∈ fp, FpOk (cxGen X A' s4 H4 ce fp) pn H' b :=
    fun {pn σ' H' s'} I' hn hp b hb => ⟨hn b hb, (I'.ok.exf b hb).1, I'.ok.exfs b hb, .inl hb, fun x c e => (I'.ok.exf b hb).2 x c e, fun p hpm z => by
      have hpm : p ∈ ([] : List (Addr × Obj)) ++ pn := hpm
      exact hp p (by simpa using hpm) (by rw [z]; exact hb)⟩
  intro m
  induction m using Nat.strongRecOn with
  | ind m ih =>
    intro n i s0 s H hmn I st hn w
    show Seg _ A _ _ _ s0 _ ((compTurn (.GeneratorExp elt [⟨tg, iter, ifs, 0⟩] scope pos) 0 (.ref it) .none ce).onRaise (leaving ce)) [] s
    rw [compTurn_gen, Sem.onRaise_eq_wrap]
    refine seg_bind_wrap (wpAny_standAt ?_)
    rcases turn i m H w with ⟨stop, q⟩ | ⟨go, Nx, hNx, step⟩
    · refine seg_bind_wrap (run (thnF (T.done (cxGen X A' s4 H4 ce fp) rfl rfl rfl hc i gp s _ H (fun _ _ => False) I (stat I hn hgp) st stop) fun r s6 ⟨hr, I6⟩ => ?_))
      subst hr
      exact seg_end (.ok .next) ⟨rfl, _, H, I6, q⟩
    · refine seg_bind_wrap (run (thnF (T.item (cxGen X A' s4 H4 ce fp) rfl rfl rfl hc i gp s _ H (fun _ _ => False) I (stat I hn hgp) st go) fun r s6 ⟨u, hr, h6⟩ => ?_))
      subst hr
      refine seg_bind_wrap (run (thnF h6 fun _ s7 ⟨x, H7, I7, r7, y7, st7, n7⟩ => ?_))
      have I7' := I7.pinned (stat I7 n7 hgp) (T.obj _ _ st7)
      refine seg_bind_wrap (run (thnF (pg.run _ s7 _ H7 x u _ I7' r7 (step x H7 y7)) fun _ s8 ⟨σ8, H8, I8, hw8, q8⟩ => ?_))
      refine seg_bind_wrap (run (thnF (pt.run _ s8 σ8 H8 _ I8 q8) fun b s9 ⟨H9, I9, q9⟩ => ?_))
      have hl : (wipe σ vs).length = σ8.length := by rw [← hw8, wipe_length]
      have next : ∀ {k : Nat} {s' s1 : Shared} {H' : Hp}, m ≤ k → Inv (cxGen X A' s4 H4 ce fp) (gp ++ pinsAt fp s7.heap) σ8 H' s' → Nx H' →
          Seg (model X.prog X.w) A (fun n s0 r s1 => r = .ok .next ∧ EndB (cxGen X A' s4 H4 ce fp) gp stopOn Qe n s0 s1) (ProB (cxGen X A' s4 H4 ce fp) gp stopOn Qe) k s1
            (.compLoop (.GeneratorExp elt [⟨tg, iter, ifs, 0⟩] scope pos) 0 (.ref it) .none ce)
            ((model X.prog X.w).den (.compLoop (.GeneratorExp elt [⟨tg, iter, ifs, 0⟩] scope pos) 0 (.ref it) .none ce)) [] s' := fun {k s' s1 H'} hk I' nx => by
        obtain ⟨m', hm, w'⟩ := hNx H' nx
        have pin' : ∀ b ∈ fp, ∀ o, s7.heap.get? b = some o → s'.heap.get? b = some o ∧ H' b = none := fun b hb o e =>
          let z := I'.pin (b, o) (List.mem_append_right _ (List.mem_append_right _ (mem_pinsAt hb e)))
          ⟨z.1, z.2.1⟩
        refine ih m' hm k (i + 1) s1 s' H' (by omega) ((I'.unpinned (pins := gp)).weak hl (fun j v e => ?_)) (T.keep _ _ _ st7 fun b hb o e => (pin' b hb o e).1) (fun b hb => ?_) w'
        · rw [← hw8] at e
          exact (wipe_some e).1
        · obtain ⟨o, e, _⟩ := T.obj _ _ st7 b hb
          exact (pin' b hb o e).2
      cases b with
      | false =>
        simp only [Bool.false_eq_true, if_false] at q9 ⊢
        exact seg_again rfl (next (by omega) I9 q9)
      | true =>
        simp only [if_true] at q9 ⊢
        obtain ⟨k, rfl⟩ : ∃ k, n = k + 1 := ⟨n - 1, by omega⟩
        have hy : ∀ v, yieldOut ce v = yieldValue v := fun v => by simp only [yieldOut, hco, Bool.false_eq_true, if_false]
        simp only [hy]
        rw [Sem.bind_eq_wrap', Sem.bind_eq_wrap', Sem.wrap_wrap, Sem.wrap_wrap]
        refine seg_wrap (run (thnF (pe.run _ s9 σ8 H9 _ I9 q9) fun z s10 ⟨yv, H10, I10, r10, c, ey, q10⟩ => ?_))
        subst ey
        obtain rfl : z = Value.bool c := r10
        refine seg_at (seg_yield rfl rfl rfl ⟨c, σ8, H10, rfl, I10.unpinned, ?_⟩)
        by_cases e : c = stopOn
        · rw [if_pos e] at q10 ⊢
          exact q10
        · rw [if_neg e] at q10 ⊢
          exact fun s2 hk ho hb => seg_again rfl (next (by omega) (Inv.moreOf I10 hk ho hb) q10)
end
end Gx
end
section
set_option Elab.async false
set_option linter.all false
set_option maxRecDepth 100000
set_option maxHeartbeats 2000000
namespace Gx
open PySem PySem.Spec PyProof.Rows L2 GenW

section
variable {X : Cx} {Xg : Cx} {gp : List (Addr × Obj)} {stopOn : Bool} {Qe : V → Hp → Prop} {A : Around} {a : Addr} {gn : Nat} {Rz : Result → Shared → Prop}

/-- the state between two turns of the consumer -/
def Ready (M : Model) (A : Around) (Xg : Cx) (gp : List (Addr × Obj)) (stopOn : Bool) (Qe : V → Hp → Prop) (a : Addr) (gn n : Nat) (s : Shared) : Prop :=
  s.heap.NoLimit ∧ s.heap.IsGen a gn ∧ ∃ gs, s.gens[gn]? = some gs ∧
    gs.Goes M A.in1.in1 (fun n s0 r s1 => r = .ok .next ∧ EndB Xg gp stopOn Qe n s0 s1) (ProB Xg gp stopOn Qe) n (.send .none) (s.setGen gn .running)

/-- one step of the consumer: the generator is woken -/
theorem next_turn {E : Value → Shared → Prop} {s : Shared} {n : Nat} {Q : Option Value → Shared → Prop} (hh : A.handled = none) (hd : A.depth < recursionLimit)
    (hI : ∀ (σ : L2.St) (H : Hp) (s : Shared), Inv Xg gp σ H s → s.heap.IsGen a gn) (r : Ready (model Xg.prog Xg.w) A Xg gp stopOn Qe a gn n s)
    (hend : ∀ (σ : L2.St) (H : Hp) (s' : Shared), Inv Xg gp σ H s' → Qe (.bl (!stopOn)) H → Q none s')
    (hstop : ∀ (σ : L2.St) (H : Hp) (s' : Shared), Inv Xg gp σ H s' → Qe (.bl stopOn) H → Q (some (.bool stopOn)) s')
    (hgo : ∀ (k : Nat) (s' : Shared), n = k + 1 → Ready (model Xg.prog Xg.w) A Xg gp stopOn Qe a gn k s' → Q (some (.bool (!stopOn))) s') :
    wpAny (model Xg.prog Xg.w) A.in1 (pyNext (.ref a)) Q E s := by
  obtain ⟨hl, hg, gs, hgs, goes⟩ := r
  have hgl : gn < s.gens.size := (Array.getElem?_eq_some_iff.mp hgs).1
  refine wpAny_gsz (n := gn + 1) hgl ?_
  refine wpAny_pyNext_genexpQ (A := A.in1) (P := EndB Xg gp stopOn Qe) hh hl hd hg hgs goes (fun v s1 gs' hbare hv => ?_) (fun s1 hp h' hk => ?_)
  · obtain ⟨c, σ, H, rfl, I, hq⟩ := hv
    intro hsz
    have hsz1 : gn < s1.gens.size := by
      have q : (s1.setGen gn gs').gens.size = s1.gens.size := setGen_size _ _ _
      omega
    have I2 : Inv Xg gp σ H (s1.setGen gn gs') := Inv.moreOf I (fun _ _ e => e) rfl (allBare_setGen I.bare hbare)
    by_cases e : c = stopOn
    · rw [if_pos e] at hq
      subst e
      exact hstop σ H _ I2 hq
    · rw [if_neg e] at hq
      have ec : c = !stopOn := by cases c <;> cases stopOn <;> simp_all
      subst ec
      cases n with
      | zero => exact (hq s1 (fun _ _ e => e) rfl I.bare).elim
      | succ k =>
        refine hgo k _ rfl ⟨I2.nolimit, hI σ H _ I2, gs', setGen_at hsz1, ?_⟩
        refine hq _ (fun _ _ e => e) rfl ?_
        exact allBare_setGen (s := s1.setGen gn gs') I2.bare rfl
  · obtain ⟨σ, H, I, hq⟩ := hp
    intro _
    have I2 : Inv Xg gp σ H (s1.setGen gn .finished) := Inv.moreOf I (fun _ _ e => e) rfl (allBare_setGen I.bare rfl)
    exact hend σ H _ (Inv.moreOf I2 hk rfl I2.bare) hq

theorem all_turns (hh : A.handled = none) (hd : A.depth < recursionLimit) (hI : ∀ (σ : L2.St) (H : Hp) (s : Shared), Inv Xg gp σ H s → s.heap.IsGen a gn)
    (hend : ∀ (c : Bool) (σ : L2.St) (H : Hp) (s' : Shared), Inv Xg gp σ H s' → Qe (.bl c) H → Rz (.ok (.ret (.bool c))) s') :
    ∀ (n : Nat) (s : Shared), Ready (model Xg.prog Xg.w) A Xg gp false Qe a gn n s → codeAny (model Xg.prog Xg.w) A (.builtin "all.loop" ⟨[.ref a], []⟩) Rz s := by
  intro n
  induction n with
  | zero =>
    intro s r
    refine codeAny_builtin F.entry_all_loop ?_
    rw [Around.under_plainId F.plain_all_loop _]
    show wpAny _ A.in1 (pyNext (.ref a) >>= _) _ _ s
    refine wpAny_bind (next_turn hh hd hI r (fun σ H s' I q => ?_) (fun σ H s' I q => ?_) fun k s' e _ => by cases e)
    · exact wpAny_bind (wpAny_rule (wpAny_pure (hend true σ H s' I q)))
    · refine wpAny_bind (wpAny_holding (wpAny_truthy_bool (wpAny_bind (wpAny_letGo ?_))))
      simp only [Bool.false_eq_true, if_false]
      exact wpAny_bind (wpAny_rule (wpAny_pure (hend false σ H s' I q)))
  | succ n ih =>
    intro s r
    refine codeAny_builtin F.entry_all_loop ?_
    rw [Around.under_plainId F.plain_all_loop _]
    show wpAny _ A.in1 (pyNext (.ref a) >>= _) _ _ s
    refine wpAny_bind (next_turn hh hd hI r (fun σ H s' I q => ?_) (fun σ H s' I q => ?_) fun k s' e r' => ?_)
    · exact wpAny_bind (wpAny_rule (wpAny_pure (hend true σ H s' I q)))
    · refine wpAny_bind (wpAny_holding (wpAny_truthy_bool (wpAny_bind (wpAny_letGo ?_))))
      simp only [Bool.false_eq_true, if_false]
      exact wpAny_bind (wpAny_rule (wpAny_pure (hend false σ H s' I q)))
    · obtain rfl : n = k := Nat.succ.inj e
      refine wpAny_bind (wpAny_holding (wpAny_truthy_bool (wpAny_bind (wpAny_letGo ?_))))
      simp only [Bool.not_false, if_true]
      exact wpAny_pure ⟨plainId_quiet F.plain_all_loop _, ih s' r'⟩
theorem any_turns (hh : A.handled = none) (hd : A.depth < recursionLimit) (hI : ∀ (σ : L2.St) (H : Hp) (s : Shared), Inv Xg gp σ H s → s.heap.IsGen a gn)
    (hend : ∀ (c : Bool) (σ : L2.St) (H : Hp) (s' : Shared), Inv Xg gp σ H s' → Qe (.bl c) H → Rz (.ok (.ret (.bool c))) s') :
    ∀ (n : Nat) (s : Shared), Ready (model Xg.prog Xg.w) A Xg gp true Qe a gn n s → codeAny (model Xg.prog Xg.w) A (.builtin "any.loop" ⟨[.ref a], []⟩) Rz s := by
  intro n
  induction n with
  | zero =>
    intro s r
    refine codeAny_builtin F.entry_any_loop ?_
    rw [Around.under_plainId F.plain_any_loop _]
    show wpAny _ A.in1 (pyNext (.ref a) >>= _) _ _ s
    refine wpAny_bind (next_turn hh hd hI r (fun σ H s' I q => ?_) (fun σ H s' I q => ?_) fun k s' e _ => by cases e)
    · exact wpAny_bind (wpAny_rule (wpAny_pure (hend false σ H s' I q)))
    · refine wpAny_bind (wpAny_holding (wpAny_truthy_bool (wpAny_bind (wpAny_letGo ?_))))
      simp only [if_true]
      exact wpAny_bind (wpAny_rule (wpAny_pure (hend true σ H s' I q)))
  | succ n ih =>
    intro s r
    refine codeAny_builtin F.entry_any_loop ?_
    rw [Around.under_plainId F.plain_any_loop _]
    show wpAny _ A.in1 (pyNext (.ref a) >>= _) _ _ s
    refine wpAny_bind (next_turn hh hd hI r (fun σ H s' I q => ?_) (fun σ H s' I q => ?_) fun k s' e r' => ?_)
    · exact wpAny_bind (wpAny_rule (wpAny_pure (hend false σ H s' I q)))
    · refine wpAny_bind (wpAny_holding (wpAny_truthy_bool (wpAny_bind (wpAny_letGo ?_))))
      simp only [if_true]
      exact wpAny_bind (wpAny_rule (wpAny_pure (hend true σ H s' I q)))
    · obtain rfl : n = k := Nat.succ.inj e
      refine wpAny_bind (wpAny_holding (wpAny_truthy_bool (wpAny_bind (wpAny_letGo ?_))))
      simp only [Bool.not_true, Bool.false_eq_true, if_false]
      exact wpAny_pure ⟨plainId_quiet F.plain_any_loop _, ih s' r'⟩
end
end Gx
end
section
set_option Elab.async false
set_option linter.all false
set_option maxRecDepth 100000
set_option maxHeartbeats 4000000
namespace Gx
open PySem PySem.Spec PyProof.Rows L2 GenW

theorem over_gen {A : Around} {elt : Expr} {gs : List Comprehension} {scope : Scope} {pos : Pos} {it acc : Value} {env : Env} : A.over (.compLoop (.GeneratorExp elt gs scope pos) 0 it acc env) [] = A.deeper env := rfl

section
variable {X : Cx} {elt tg iter : Expr} {ifs : List Expr} {scope : Scope} {pos : Pos} {g : TG} {tt : TT} {te : TE} {vs : List Nat} {σ : L2.St}
  {A A' : Around} {s4 : Shared} {H4 : Hp} {ce : Env} {fp : List Addr} {it : Addr} {tn : Nat → Heap → Prop} {J : It} {gp : List (Addr × Obj)}

theorem seg_begin (stopOn : Bool) (Qe : V → Hp → Prop) (W : Nat → Nat → Hp → Prop) (hc : X.calm = true)
    (hA : A.deeper ce = A')
    (T : Turn X.prog X.w X.K tg J fp it tn)
    (pg : PG (cxGen X A' s4 H4 ce fp) tg g) (pt : PTs (cxGen X A' s4 H4 ce fp) ifs tt) (pe : PE (cxGen X A' s4 H4 ce fp) elt te)
    (hco : ce.scope.isCoroutine = false) (turn : TurnB stopOn J g tt te vs σ Qe W) (hgp : ∀ p ∈ gp, p.1 ∉ fp)
    (m n : Nat) (s0 s : Shared) (H : Hp) (hmn : m < n) (I : Inv (cxGen X A' s4 H4 ce fp) gp (wipe σ vs) H s) (st : tn 0 s.heap) (hn : ∀ b ∈ fp, H b = none) (w : W 0 m H) :
      Seg (model X.prog X.w) A (fun n s0 r s1 => r = .ok .next ∧ EndB (cxGen X A' s4 H4 ce fp) gp stopOn Qe n s0 s1) (ProB (cxGen X A' s4 H4 ce fp) gp stopOn Qe) n s0
        (.compStart (.GeneratorExp elt [⟨tg, iter, ifs, 0⟩] scope pos) 0 (.ref it) .none ce)
        ((model X.prog X.w).den (.compStart (.GeneratorExp elt [⟨tg, iter, ifs, 0⟩] scope pos) 0 (.ref it) .none ce)) [] s := by
  have loop := seg_turns (iter := iter) (scope := scope) (pos := pos) stopOn Qe W hc (by rw [over_gen]; exact hA) T pg pt pe hco turn hgp m n 0 s0 s H hmn I st hn w
  show Seg _ A _ _ _ s0 _ ((compStart (.GeneratorExp elt [⟨tg, iter, ifs, 0⟩] scope pos) 0 (.ref it) .none ce).onRaise (leaving ce)) [] s
  unfold compStart
  rw [Sem.onRaise_eq_wrap]
  show Seg _ A _ _ _ s0 _ ((ask >>= _).wrap _ _ _ _) [] s
  refine seg_bind_wrap (wpAny_askSetting ?_)
  split
  · exact seg_again rfl loop
  · refine seg_bind_wrap (wpAny_rule ?_)
    first
      | exact seg_bind_wrap (wpAny_standAt (seg_bind_wrap (T.self _ 0 s _ _ st (seg_again rfl loop))))
      | (show Seg _ A _ _ _ s0 _ ((standAt iter.pos >>= _).wrap _ _ _ _) [] s
         exact seg_bind_wrap (wpAny_standAt (seg_bind_wrap (T.self _ 0 s _ _ st (seg_again rfl loop)))))

/-- all(..), any(..) of a generator expression: P is the address of the table of the def's code -/
def tGenB (stopOn : Bool) (P : Addr) (wi : TI) (g : TG) (tt : TT) (te : TE) (vs : List Nat) : TE := fun σ H Q => wi σ H fun J H1 => GxR.TabG H1 P ∧
  ∀ H2, GxR.Tabbed P H1 H2 → ∃ W : Nat → Nat → Hp → Prop, (∃ m, W 0 m H2) ∧ TurnB stopOn J g tt te vs σ Q W

/-- the generator has been made, ready for its consumer -/
def Made (X : Cx) (pins : List (Addr × Obj)) (σ : L2.St) (stopOn : Bool) (Q : VK) (v : Value) (s5 : Shared) : Prop :=
  ∃ (a : Addr) (gn n : Nat) (Xg : Cx) (gp : List (Addr × Obj)), v = .ref a ∧ Xg.prog = X.prog ∧ Xg.w = X.w ∧
    (∀ (σ' : L2.St) (H : Hp) (s : Shared), Inv Xg gp σ' H s → s.heap.IsGen a gn) ∧ Ready (model Xg.prog Xg.w) X.A Xg gp stopOn Q a gn n s5 ∧
    (∀ (c : Bool) (σ' : L2.St) (H : Hp) (s' : Shared), Inv Xg gp σ' H s' → Q (.bl c) H → EP X pins σ Q (.bool c) s')

theorem gen_made {stopOn : Bool} {c P : Addr} {gpos : Pos} {own : List (Str × Nat)} {wi : TI} {k : Nat} {pins : List (Addr × Obj)} {s : Shared} {H : Hp} {Q : VK}
    (hc : X.calm = true) (hN : X.N.Nodup) (hr : Room k X.A) (TB : GxR.TabB X.base X.mg c P) (hcode : X.env.code = .ref c) (ok : GenSc X.N X.env.scope scope own) (hi : PI X tg iter wi)
    (hg : ∀ (A' : Around) (s : Shared) (H : Hp) (code : Value) (cl : List (Str × Addr)) (C : Addr) (fp : List Addr), (∃ env, A' = X.A.in1.in1.deeper env) → PG (cxGen X A' s H (genEnv scope cl C code builtinsNs X.env) fp) tg g)
    (ht : ∀ (A' : Around) (s : Shared) (H : Hp) (code : Value) (cl : List (Str × Addr)) (C : Addr) (fp : List Addr), (∃ env, A' = X.A.in1.in1.deeper env) → PTs (cxGen X A' s H (genEnv scope cl C code builtinsNs X.env) fp) ifs tt)
    (he : ∀ (A' : Around) (s : Shared) (H : Hp) (code : Value) (cl : List (Str × Addr)) (C : Addr) (fp : List Addr), (∃ env, A' = X.A.in1.in1.deeper env) → PE (cxGen X A' s H (genEnv scope cl C code builtinsNs X.env) fp) elt te)
    (hs : ∀ v, genFold iter X.env v = pure v) (I : Inv X pins σ H s) (h : tGenB stopOn P wi g tt te (own.map (·.2)) σ H Q) :
    wpAny (model X.prog X.w) X.A (eval (.GeneratorExp elt [⟨tg, iter, ifs, 0⟩] scope gpos) X.env) (Made X pins σ stopOn Q) X.xe s := by
  have hfree : ∀ y ∈ scope.names, y.2 = .free → ∃ c, X.env.cells.lookup y.1 = some c := fun y hy e => by
    rcases ok.free y hy e with k | k
    · exact I.ok.has _ (.inl k)
    · exact I.ok.has _ (.inr k)
  refine wpAny_GeneratorExp_make ok.co (closure_ok hfree) ok.nocell ok.dot ok.kind hr.depth ?_ hs
  refine thn (hi.run pins s σ H _ I h) fun xv s1 hx => thn hx fun itv s2 h2 => ?_
  obtain ⟨it, fp, tn, J, H1, e, I2, T, st2, f2, ⟨ps, hP, htr⟩, q⟩ := h2
  subst e
  refine ⟨I2.nolimit, ?_⟩
  have hPs : s2.heap.get? P = some { cls := .none, data := .fields ps } := I2.hok P _ hP
  have cd : PySem.W.CodeHd s2.heap c P := TB.code.keeps I2.bk
  -- behind the code object
  have cont : ∀ (code : Value) (h3 : Heap) (tk : Nat) (ps' : Array Value), Heap.ExtBut P s2.heap h3 → h3.get? P = some { cls := .none, data := .fields ps' } → (∃ more, ps' = ps ++ more) → TriplesOk ps'.toList →
      wpAny (model X.prog X.w) X.A (builtinsFor X.env.globals X.env.builtins) (fun bi s₄ => ∀ h', h'.Ns s₄.heap.objs.size (fun y => if y = ".0" then some (Value.ref it) else none) → Heap.SameBut s₄.heap.objs.size (s₄.heap.push { cls := .type "frame", data := .dict #[] }) h' →
          Made X pins σ stopOn Q (.ref h'.objs.size) { s₄ with
            gens := s₄.gens.push (.fresh (.compStart (.GeneratorExp elt [⟨tg, iter, ifs, 0⟩] scope gpos) 0 (.ref it) .none (genEnv scope (cloFrom X.env.cells scope.names []) s₄.heap.objs.size code bi X.env))),
            toks := s₄.toks + 1 + 1 + 1,
            heap := h'.push { cls := .type "generator", data := .fields #[.int s₄.gens.size 0, .str "<genexpr>" (s₄.toks + 1), .str (X.env.qual ++ "<genexpr>") (s₄.toks + 1 + 1)] } }) X.xe { s2 with heap := h3, toks := tk } := by
    intro code h3 tk ps' hx hP3 hmore ht3
    obtain ⟨more, em⟩ := hmore
    subst em
    have I3 : Inv X pins σ (upd H1 P (.tbl (ps ++ more))) { s2 with heap := h3, toks := tk } := GxR.inv_tab (s := s2) (g' := s2.gens) (d' := s2.drawn) (t' := tk) I2 hP (fun b o hb e => hx b o hb e) hP3 I2.bare
    have nP : ∀ b ∈ fp, b ≠ P := fun b hb z => by
      have q1 := (f2 b hb).1
      rw [z, hP] at q1
      cases q1
    have f3 : ∀ b ∈ fp, FpOk X pins (upd H1 P (.tbl (ps ++ more))) b := fun b hb => ⟨by rw [upd_ne (nP b hb)]; exact (f2 b hb).1, (f2 b hb).2⟩
    have st3 : tn 0 h3 := T.keep _ _ _ st2 fun b hb o e => hx b o (nP b hb) e
    obtain ⟨W, ⟨m0, w0⟩, turn⟩ := q _ (⟨⟨ps ++ more, upd_same, ht3⟩, fun b hb => upd_ne hb⟩ : GxR.Tabbed P H1 (upd H1 P (.tbl (ps ++ more))))
    generalize hH3 : upd H1 P (.tbl (ps ++ more)) = H3 at I3 f3 w0
    generalize hs3 : ({ s2 with heap := h3, toks := tk } : Shared) = s3 at I3 ⊢
    have e3 : s3.heap = h3 := by rw [← hs3]
    obtain ⟨bm, ob, b1, b2, b3, b4, b5, b6, b7, b8⟩ := TB.bm
    refine wpAny_builtinsFor (m := X.mg) (by rw [I3.ok.glob]; exact I3.mod.glob.keeps I3.bk) b1 b2 (I3.bk _ _ b5) b6 b7 b8 ?_
    intro h' hn' hs'
    have hsz : h'.objs.size = s3.heap.objs.size + 1 := by rw [hs'.1, Heap.size_push]
    have keep' : ∀ b o, s3.heap.get? b = some o → h'.get? b = some o := fun b o e => hs'.extBut b o (Nat.ne_of_lt (Heap.lt_size e)) (Heap.get?_push_of_some _ e)
    generalize hgo : ({ cls := .type "generator", data := .fields #[.int s3.gens.size 0, .str "<genexpr>" (s3.toks + 1), .str (X.env.qual ++ "<genexpr>") (s3.toks + 1 + 1)] } : Obj) = go
    have keep5 : ∀ b o, s3.heap.get? b = some o → (h'.push go).get? b = some o := fun b o e => Heap.get?_push_of_some _ (keep' b o e)
    have fin3 : ∀ b ∈ fp, FpOk X pins H3 b ∧ b < s3.heap.objs.size := fun b hb => ⟨f3 b hb, by
      obtain ⟨o, e, _⟩ := T.obj _ _ st3 b hb
      rw [e3]
      exact Heap.lt_size e⟩
    have hfr : (X.A.in1.in1.deeper (genEnv scope (cloFrom X.env.cells scope.names []) s3.heap.objs.size code builtinsNs X.env)).frames = some (genEnv scope (cloFrom X.env.cells scope.names []) s3.heap.objs.size code builtinsNs X.env :: X.stack) := by
      show X.A.frames.map _ = _
      rw [I3.ok.frames]
      rfl
    have ggo : (h'.push go).get? h'.objs.size = some go := Heap.get?_push_size _ (by rw [← hgo]; rfl)
    have dgo : ∀ v, go.data ≠ .cell v := fun v z => by
      rw [← hgo] at z
      cases z
    have Ig := gen_start (a := h'.objs.size) (go := go) (tk := s3.toks + 1 + 1 + 1) (code := code) (gs := .fresh (.compStart (.GeneratorExp elt [⟨tg, iter, ifs, 0⟩] scope gpos) 0 (.ref it) .none (genEnv scope (cloFrom X.env.cells scope.names []) s3.heap.objs.size code builtinsNs X.env)))
      I3 ok hN fin3 hfr (fun _ => hr.hd) (hn'.push _) keep5 ggo (by omega) dgo rfl
    refine ⟨h'.objs.size, s3.gens.size, m0 + 1, cxGen X (X.A.in1.in1.deeper (genEnv scope (cloFrom X.env.cells scope.names []) s3.heap.objs.size code builtinsNs X.env)) s3 H3 (genEnv scope (cloFrom X.env.cells scope.names []) s3.heap.objs.size code builtinsNs X.env) fp,
      [(h'.objs.size, go)], rfl, rfl, rfl, fun σ' H' s' I' => ?_, ⟨Ig.nolimit, ?_, _, Array.getElem?_push_size .., rfl, ?_⟩, fun cc σ' H' s' I' qq => ?_⟩
    · have z := (I'.pin (h'.objs.size, go) (List.mem_append_right _ List.mem_cons_self)).1
      exact ⟨_, _, _, z, by rw [← hgo], by rw [← hgo], by rw [← hgo]⟩
    · exact ⟨_, _, _, ggo, by rw [← hgo], by rw [← hgo], by rw [← hgo]⟩
    · refine seg_begin (fp := fp) (gp := [(h'.objs.size, go)]) stopOn Q W hc rfl T (hg _ _ _ _ _ _ _ ⟨_, rfl⟩) (ht _ _ _ _ _ _ _ ⟨_, rfl⟩) (he _ _ _ _ _ _ _ ⟨_, rfl⟩) ok.co turn (fun p hp hz => ?_) m0 (m0 + 1) _ _ _ (Nat.lt_succ_self _) (Inv.moreOf Ig (fun _ _ e => e) rfl ?_) ?_ (fun b hb => (f3 b hb).1) w0
      · obtain rfl : p = (h'.objs.size, go) := by simpa using hp
        have z1 := (fin3 _ hz).2
        have z1 : h'.objs.size < s3.heap.objs.size := z1
        omega
      · exact allBare_setGen Ig.bare rfl
      · exact T.keep _ _ _ st3 fun b hb o e => keep5 b o (by rw [e3]; exact e)
    · have I7 : Inv X pins σ H' s' := I3.call' (ch := fp) I'.os I'.base I'.hok I'.bare fun b hb => ⟨(f3 b hb).2.2.2.1, (f3 b hb).2.1, (f3 b hb).2.2.2.2.1, (f3 b hb).2.2.2.2.2⟩
      exact ⟨.bl cc, H', I7, rfl, qq⟩
  cases hf : codeAmong gpos ps.toList with
  | none =>
    refine wpAny_genexprCodeX hcode (cd.code hPs htr) (cd.tab hPs) hf fun c' h' tk hx hge hlt hco' _ htab' _ => ?_
    obtain ⟨o1, vs1, f1, tf, fl, tg1, inF, tx, tt1, op, _, _, _, _, _, _, _, _, _, htr', _⟩ := hco'
    exact cont _ h' tk _ hx htab'.2 ⟨_, rfl⟩ htr'
  | some cv =>
    refine wpAny_genexprCode_hit hcode (cd.code hPs htr) hf ?_
    exact cont cv s2.heap s2.toks ps (Heap.ExtBut.refl _ _) hPs ⟨#[], by simp⟩ htr
end
end Gx
end
section
set_option Elab.async false
set_option linter.all false
set_option maxRecDepth 100000
set_option maxHeartbeats 4000000
namespace Gx
open PySem PySem.Spec PyProof.Rows L2 GenW
section
variable {X : Cx} {elt tg iter : Expr} {ifs : List Expr} {scope : Scope} {g : TG} {tt : TT} {te : TE} {c P : Addr} {gpos p pos : Pos} {own : List (Str × Nat)} {wi : TI} {k : Nat}

theorem call_all_made {pins : List (Addr × Obj)} {σ : L2.St} {Q : VK} {v : Value} {s5 : Shared} (hr : Room k X.A) (h : Made X pins σ false Q v s5) :
    wpAny (model X.prog X.w) X.A (call (.builtin "all") [v]) (EP X pins σ Q) X.xe s5 := by
  obtain ⟨a, gn, n, Xg, gp, rfl, e1, e2, hI, r, hend⟩ := h
  refine call_function_tree F.kind_all F.plain_all F.entry_all (F.args_all1 _) ?_
  unfold Builtin.«all»
  refine wpAny_bind (m := oneArg "all" _) (wpAny_pure ?_)
  refine wpAny_bind (wpAny_pyIter_gen r.2.1 ?_)
  refine wpAny_pure ⟨plainId_quiet F.plain_all_loop _, ?_⟩
  have z := all_turns (A := X.A) (a := a) (gn := gn) (gp := gp) (Xg := Xg) (Qe := Q) (Rz := fun r s' => match r with
    | .ok (.ret v) => EP X pins σ Q v s'
    | .ok _ => False
    | .error e => X.xe e s') hr.hd hr.depth hI (fun b σ' H s' I' q => hend b σ' H s' I' q) n s5 r
  rw [e1, e2] at z
  exact z
theorem call_any_made {pins : List (Addr × Obj)} {σ : L2.St} {Q : VK} {v : Value} {s5 : Shared} (hr : Room k X.A) (h : Made X pins σ true Q v s5) :
    wpAny (model X.prog X.w) X.A (call (.builtin "any") [v]) (EP X pins σ Q) X.xe s5 := by
  obtain ⟨a, gn, n, Xg, gp, rfl, e1, e2, hI, r, hend⟩ := h
  refine call_function_tree F.kind_any F.plain_any F.entry_any (F.args_any1 _) ?_
  unfold Builtin.«any»
  refine wpAny_bind (m := oneArg "any" _) (wpAny_pure ?_)
  refine wpAny_bind (wpAny_pyIter_gen r.2.1 ?_)
  refine wpAny_pure ⟨plainId_quiet F.plain_any_loop _, ?_⟩
  have z := any_turns (A := X.A) (a := a) (gn := gn) (gp := gp) (Xg := Xg) (Qe := Q) (Rz := fun r s' => match r with
    | .ok (.ret v) => EP X pins σ Q v s'
    | .ok _ => False
    | .error e => X.xe e s') hr.hd hr.depth hI (fun b σ' H s' I' q => hend b σ' H s' I' q) n s5 r
  rw [e1, e2] at z
  exact z

theorem pe_allG (hc : X.calm = true) (hN : X.N.Nodup) (hr : Room k X.A) (hgl : Gl X "all") (hm : X.mg "all" = none) (TB : GxR.TabB X.base X.mg c P) (hcode : X.env.code = .ref c) (ok : GenSc X.N X.env.scope scope own) (hi : PI X tg iter wi)
    (hg : ∀ (A' : Around) (s : Shared) (H : Hp) (code : Value) (cl : List (Str × Addr)) (C : Addr) (fp : List Addr), (∃ env, A' = X.A.in1.in1.deeper env) → PG (cxGen X A' s H (genEnv scope cl C code builtinsNs X.env) fp) tg g)
    (ht : ∀ (A' : Around) (s : Shared) (H : Hp) (code : Value) (cl : List (Str × Addr)) (C : Addr) (fp : List Addr), (∃ env, A' = X.A.in1.in1.deeper env) → PTs (cxGen X A' s H (genEnv scope cl C code builtinsNs X.env) fp) ifs tt)
    (he : ∀ (A' : Around) (s : Shared) (H : Hp) (code : Value) (cl : List (Str × Addr)) (C : Addr) (fp : List Addr), (∃ env, A' = X.A.in1.in1.deeper env) → PE (cxGen X A' s H (genEnv scope cl C code builtinsNs X.env) fp) elt te)
    (hs : ∀ v, genFold iter X.env v = pure v)
    (hst : starEach [.GeneratorExp elt [⟨tg, iter, ifs, 0⟩] scope gpos] X.env = (false, eval (.GeneratorExp elt [⟨tg, iter, ifs, 0⟩] scope gpos) X.env) :: starEach [] X.env := by rfl) :
    PE X (.Call (.Name "all" p) [.GeneratorExp elt [⟨tg, iter, ifs, 0⟩] scope gpos] [] pos) (tGenB false P wi g tt te (own.map (·.2))) := by
  refine ⟨fun pins s σ H Q I h => ?_⟩
  refine wpAny_Call_Name_kw (ld_blt I hgl hm (by decide +kernel : bootBuiltins "all" = some (.builtin "all")) ?_)
  refine PyProof.Rows.callWith_builtin1 ?_ hst (by rfl)
  rw [hst]
  show wpAny _ _ (spliced ((false, eval (.GeneratorExp elt [⟨tg, iter, ifs, 0⟩] scope gpos) X.env) :: backTo pos (starEach [] X.env))) _ _ s
  exact Calls.spliced_cons (thn (gen_made hc hN hr TB hcode ok hi hg ht he hs I h) fun v s5 hv => Calls.spliced_nil (call_all_made hr hv))
theorem pe_anyG (hc : X.calm = true) (hN : X.N.Nodup) (hr : Room k X.A) (hgl : Gl X "any") (hm : X.mg "any" = none) (TB : GxR.TabB X.base X.mg c P) (hcode : X.env.code = .ref c) (ok : GenSc X.N X.env.scope scope own) (hi : PI X tg iter wi)
    (hg : ∀ (A' : Around) (s : Shared) (H : Hp) (code : Value) (cl : List (Str × Addr)) (C : Addr) (fp : List Addr), (∃ env, A' = X.A.in1.in1.deeper env) → PG (cxGen X A' s H (genEnv scope cl C code builtinsNs X.env) fp) tg g)
    (ht : ∀ (A' : Around) (s : Shared) (H : Hp) (code : Value) (cl : List (Str × Addr)) (C : Addr) (fp : List Addr), (∃ env, A' = X.A.in1.in1.deeper env) → PTs (cxGen X A' s H (genEnv scope cl C code builtinsNs X.env) fp) ifs tt)
    (he : ∀ (A' : Around) (s : Shared) (H : Hp) (code : Value) (cl : List (Str × Addr)) (C : Addr) (fp : List Addr), (∃ env, A' = X.A.in1.in1.deeper env) → PE (cxGen X A' s H (genEnv scope cl C code builtinsNs X.env) fp) elt te)
    (hs : ∀ v, genFold iter X.env v = pure v)
    (hst : starEach [.GeneratorExp elt [⟨tg, iter, ifs, 0⟩] scope gpos] X.env = (false, eval (.GeneratorExp elt [⟨tg, iter, ifs, 0⟩] scope gpos) X.env) :: starEach [] X.env := by rfl) :
    PE X (.Call (.Name "any" p) [.GeneratorExp elt [⟨tg, iter, ifs, 0⟩] scope gpos] [] pos) (tGenB true P wi g tt te (own.map (·.2))) := by
  refine ⟨fun pins s σ H Q I h => ?_⟩
  refine wpAny_Call_Name_kw (ld_blt I hgl hm (by decide +kernel : bootBuiltins "any" = some (.builtin "any")) ?_)
  refine PyProof.Rows.callWith_builtin1 ?_ hst (by rfl)
  rw [hst]
  show wpAny _ _ (spliced ((false, eval (.GeneratorExp elt [⟨tg, iter, ifs, 0⟩] scope gpos) X.env) :: backTo pos (starEach [] X.env))) _ _ s
  exact Calls.spliced_cons (thn (gen_made hc hN hr TB hcode ok hi hg ht he hs I h) fun v s5 hv => Calls.spliced_nil (call_any_made hr hv))
end
end Gx
end
section
set_option Elab.async false
set_option linter.all false
set_option maxRecDepth 100000
set_option maxHeartbeats 4000000
/-! generator expressions whose consumer keeps an object of its own (min, max, sum, tuple ..) -/
namespace Gx
open PySem PySem.Spec PyProof.Rows L2 GenW

abbrev TurnV (Ok : Obj → V → Prop) (Step : Obj → Value → Obj → Prop) (J : It) (g : TG) (tt : TT) (te : TE) (vs : List Nat) (σ : L2.St) (Qe : Obj → Hp → Prop) (W : Nat → Nat → Obj → Hp → Prop) : Prop :=
  ∀ i m o H, W i m o H → (J.stop i H ∧ Qe o H) ∨
    (J.go i H ∧ ∃ Nx : Obj → Hp → Prop, (∀ o' H', Nx o' H' → ∃ m', m' < m ∧ W (i + 1) m' o' H') ∧
      ∀ x H', J.yld i H x H' → g x (wipe σ vs) H' fun σ2 H2 => wipe σ2 vs = wipe σ vs ∧ tt σ2 H2 fun b H3 =>
        if b = true then te σ2 H3 fun y H4 => Ok o y ∧ ∀ v o', RelV y v → Step o v o' → Nx o' H4 else Nx o H3)
abbrev EndV (Xg : Cx) (gp : List (Addr × Obj)) (S : Addr) (Qe : Obj → Hp → Prop) : Nat → Shared → Shared → Prop := fun _ s0 s1 =>
  ∃ (σ : L2.St) (H : Hp) (o : Obj), s0.heap.get? S = some o ∧ Inv Xg (gp ++ [(S, o)]) σ H s1 ∧ Qe o H
abbrev ProV (Xg : Cx) (gp : List (Addr × Obj)) (S : Addr) (Ok : Obj → V → Prop) (Step : Obj → Value → Obj → Prop) : Protocol := fun _ s0 v s kap =>
  ∃ (y : V) (σ : L2.St) (H : Hp) (o : Obj), s0.heap.get? S = some o ∧ RelV y v ∧ Inv Xg (gp ++ [(S, o)]) σ H s ∧ Ok o y ∧
    ∀ (o' : Obj) (s2 : Shared), Step o v o' → (∀ u, o'.data ≠ .cell u) → (∀ b ob, b ≠ S → s.heap.get? b = some ob → s2.heap.get? b = some ob) → s2.heap.get? S = some o' → s2.os = s.os → AllBare s2.gens → kap (.send .none) s2

theorem Inv.repin {X : Cx} {gp rest : List (Addr × Obj)} {S : Addr} {o o' : Obj} {σ : L2.St} {H : Hp} {s s2 : Shared} (I : Inv X (gp ++ [(S, o)] ++ rest) σ H s) (hS : X.s_0.heap.objs.size ≤ S) (hpn : X.pn = []) (hg : ∀ p ∈ gp ++ rest, p.1 ≠ S)
    (k : ∀ b ob, b ≠ S → s.heap.get? b = some ob → s2.heap.get? b = some ob) (h2 : s2.heap.get? S = some o') (hc : ∀ v, o'.data ≠ .cell v) (ho : s2.os = s.os) (hb : AllBare s2.gens) : Inv X (gp ++ [(S, o')] ++ rest) σ H s2 := by
  have pS := I.pin (S, o) (List.mem_append_right _ (List.mem_append_left _ (List.mem_append_right _ List.mem_cons_self)))
  obtain ⟨p1, p2, p3, p4, p5⟩ := pS
  have I1 : Inv X (gp ++ rest) σ H s := I.pins_of fun p hp => I.pin p (List.mem_append_right _ ((List.mem_append.mp hp).elim (fun z => List.mem_append_left _ (List.mem_append_left _ z)) fun z => List.mem_append_right _ z))
  have I2 : Inv X (gp ++ rest) σ H { s with heap := s2.heap, toks := s2.toks } := I1.turned (it := S) k p2 p3 (.inr hS) (fun x c e z => by
    obtain ⟨v, q⟩ := I.cell x c e
    obtain ⟨ob, q1, q2⟩ := q
    rw [z] at q1
    have p1 : s.heap.get? S = some o := p1
    rw [p1] at q1
    cases q1
    exact p5 _ q2) (fun p hp => by
      rw [hpn] at hp
      exact hg p (by simpa using hp))
  have I3 : Inv X (gp ++ rest) σ H s2 := Inv.moreOf I2 (fun _ _ e => e) ho hb
  refine I3.pins_of fun p hp => ?_
  have hp' : p ∈ gp ++ rest ∨ p = (S, o') := by
    rcases List.mem_append.mp hp with z | z
    · rcases List.mem_append.mp z with z | z
      · exact .inl (List.mem_append_left _ z)
      · exact .inr (by simpa using z)
    · exact .inl (List.mem_append_right _ z)
  rcases hp' with z | z
  · exact I3.pin p (List.mem_append_right _ z)
  · subst z
    exact ⟨h2, p2, p3, p4, hc⟩

section
variable {X : Cx} {elt tg iter : Expr} {ifs : List Expr} {scope : Scope} {pos : Pos} {g : TG} {tt : TT} {te : TE} {vs : List Nat} {σ : L2.St}
  {A A' : Around} {s4 : Shared} {H4 : Hp} {ce : Env} {fp : List Addr} {it : Addr} {tn : Nat → Heap → Prop} {J : It} {gp : List (Addr × Obj)} {S : Addr} {Ok : Obj → V → Prop} {Step : Obj → Value → Obj → Prop}

theorem seg_turnsV (Qe : Obj → Hp → Prop) (W : Nat → Nat → Obj → Hp → Prop) (hc : X.calm = true)
    (hA : A.over (.compLoop (.GeneratorExp elt [⟨tg, iter, ifs, 0⟩] scope pos) 0 (.ref it) .none ce) [] = A')
    (T : Turn X.prog X.w X.K tg J fp it tn)
    (pg : PG (cxGen X A' s4 H4 ce fp) tg g) (pt : PTs (cxGen X A' s4 H4 ce fp) ifs tt) (pe : PE (cxGen X A' s4 H4 ce fp) elt te)
    (hco : ce.scope.isCoroutine = false) (turn : TurnV Ok Step J g tt te vs σ Qe W) (hgp : ∀ p ∈ gp, p.1 ∉ fp) (hSf : S ∉ fp) (hSg : ∀ p ∈ gp, p.1 ≠ S) (hS0 : s4.heap.objs.size ≤ S) :
    ∀ (m n i : Nat) (s0 s : Shared) (o : Obj) (H : Hp), m < n → s0.heap.get? S = some o → Inv (cxGen X A' s4 H4 ce fp) (gp ++ [(S, o)]) (wipe σ vs) H s → tn i s.heap → (∀ b ∈ fp, H b = none) → W i m o H →
      Seg (model X.prog X.w) A (fun n s0 r s1 => r = .ok .next ∧ EndV (cxGen X A' s4 H4 ce fp) gp S Qe n s0 s1) (ProV (cxGen X A' s4 H4 ce fp) gp S Ok Step) n s0
        (.compLoop (.GeneratorExp elt [⟨tg, iter, ifs, 0⟩] scope pos) 0 (.ref it) .none ce)
        ((model X.prog X.w).den (.compLoop (.GeneratorExp elt [⟨tg, iter, ifs, 0⟩] scope pos) 0 (.ref it) .none ce)) [] s := by
  have run : ∀ {α : Type} {m : Sem α} {Q : α → Shared → Prop} {E : Value → Shared → Prop} {s : Shared}, wpAny (model X.prog X.w) A' m Q (fun _ _ => False) s →
      wpAny (model X.prog X.w) (A.over (.compLoop (.GeneratorExp elt [⟨tg, iter, ifs, 0⟩] scope pos) 0 (.ref it) .none ce) []) m Q E s := fun h => by
    rw [hA]; exact thnF h fun _ _ q => q
  have stat : ∀ {pn : List (Addr × Obj)} {σ' : L2.St} {H' : Hp} {s' : Shared}, Inv (cxGen X A' s4 H4 ce fp) pn σ' H' s' → (∀ b ∈ fp, H' b = none) → (∀ p ∈ pn, p.1 ∉ fp) → ∀ b ∈ fp, FpOk (cxGen X A' s4 H4 ce fp) pn H' b :=
    fun {pn σ' H' s'} I' hn hp b hb => ⟨hn b hb, (I'.ok.exf b hb).1, I'.ok.exfs b hb, .inl hb, fun x c e => (I'.ok.exf b hb).2 x c e, fun p hpm z => by
      have hpm : p ∈ ([] : List (Addr × Obj)) ++ pn := hpm
      exact hp p (by simpa using hpm) (by rw [z]; exact hb)⟩
  have hgpS : ∀ o : Obj, ∀ p ∈ gp ++ [(S, o)], p.1 ∉ fp := fun o p hp => by
    rcases List.mem_append.mp hp with z | z
    · exact hgp p z
    · have : p = (S, o) := by simpa using z
      subst this
      exact hSf
  intro m
  induction m using Nat.strongRecOn with
  | ind m ih =>
    intro n i s0 s o H hmn hs0 I st hn w
    show Seg _ A _ _ _ s0 _ ((compTurn (.GeneratorExp elt [⟨tg, iter, ifs, 0⟩] scope pos) 0 (.ref it) .none ce).onRaise (leaving ce)) [] s
    rw [compTurn_gen, Sem.onRaise_eq_wrap]
    refine seg_bind_wrap (wpAny_standAt ?_)
    rcases turn i m o H w with ⟨stop, q⟩ | ⟨go, Nx, hNx, step⟩
    · refine seg_bind_wrap (run (thnF (T.done (cxGen X A' s4 H4 ce fp) rfl rfl rfl hc i (gp ++ [(S, o)]) s _ H (fun _ _ => False) I (stat I hn (hgpS o)) st stop) fun r s6 ⟨hr, I6⟩ => ?_))
      subst hr
      exact seg_end (.ok .next) ⟨rfl, _, H, o, hs0, I6, q⟩
    · refine seg_bind_wrap (run (thnF (T.item (cxGen X A' s4 H4 ce fp) rfl rfl rfl hc i (gp ++ [(S, o)]) s _ H (fun _ _ => False) I (stat I hn (hgpS o)) st go) fun r s6 ⟨u, hr, h6⟩ => ?_))
      subst hr
      refine seg_bind_wrap (run (thnF h6 fun _ s7 ⟨x, H7, I7, r7, y7, st7, n7⟩ => ?_))
      have I7' := I7.pinned (stat I7 n7 (hgpS o)) (T.obj _ _ st7)
      refine seg_bind_wrap (run (thnF (pg.run _ s7 _ H7 x u _ I7' r7 (step x H7 y7)) fun _ s8 ⟨σ8, H8, I8, hw8, q8⟩ => ?_))
      refine seg_bind_wrap (run (thnF (pt.run _ s8 σ8 H8 _ I8 q8) fun b s9 ⟨H9, I9, q9⟩ => ?_))
      have hl : (wipe σ vs).length = σ8.length := by rw [← hw8, wipe_length]
      have next : ∀ {k : Nat} {s' s1 : Shared} {o' : Obj} {H' : Hp}, m ≤ k → s1.heap.get? S = some o' → Inv (cxGen X A' s4 H4 ce fp) (gp ++ [(S, o')] ++ pinsAt fp s7.heap) σ8 H' s' → Nx o' H' →
          Seg (model X.prog X.w) A (fun n s0 r s1 => r = .ok .next ∧ EndV (cxGen X A' s4 H4 ce fp) gp S Qe n s0 s1) (ProV (cxGen X A' s4 H4 ce fp) gp S Ok Step) k s1
            (.compLoop (.GeneratorExp elt [⟨tg, iter, ifs, 0⟩] scope pos) 0 (.ref it) .none ce)
            ((model X.prog X.w).den (.compLoop (.GeneratorExp elt [⟨tg, iter, ifs, 0⟩] scope pos) 0 (.ref it) .none ce)) [] s' := fun {k s' s1 o' H'} hk hs1 I' nx => by
        obtain ⟨m', hm, w'⟩ := hNx o' H' nx
        have pin' : ∀ b ∈ fp, ∀ ob, s7.heap.get? b = some ob → s'.heap.get? b = some ob ∧ H' b = none := fun b hb ob e =>
          let z := I'.pin (b, ob) (List.mem_append_right _ (List.mem_append_right _ (mem_pinsAt hb e)))
          ⟨z.1, z.2.1⟩
        refine ih m' hm k (i + 1) s1 s' o' H' (by omega) hs1 ((I'.unpinned (pins := gp ++ [(S, o')])).weak hl (fun j v e => ?_)) (T.keep _ _ _ st7 fun b hb ob e => (pin' b hb ob e).1) (fun b hb => ?_) w'
        · rw [← hw8] at e
          exact (wipe_some e).1
        · obtain ⟨ob, e, _⟩ := T.obj _ _ st7 b hb
          exact (pin' b hb ob e).2
      cases b with
      | false =>
        simp only [Bool.false_eq_true, if_false] at q9 ⊢
        exact seg_again rfl (next (by omega) hs0 I9 q9)
      | true =>
        simp only [if_true] at q9 ⊢
        obtain ⟨k, rfl⟩ : ∃ k, n = k + 1 := ⟨n - 1, by omega⟩
        have hy : ∀ v, yieldOut ce v = yieldValue v := fun v => by simp only [yieldOut, hco, Bool.false_eq_true, if_false]
        simp only [hy]
        rw [Sem.bind_eq_wrap', Sem.bind_eq_wrap', Sem.wrap_wrap, Sem.wrap_wrap]
        refine seg_wrap (run (thnF (pe.run _ s9 σ8 H9 _ I9 q9) fun z s10 ⟨yv, H10, I10, r10, ey, q10⟩ => ?_))
        refine seg_at (seg_yield rfl rfl rfl ⟨yv, σ8, H10, o, hs0, r10, I10.unpinned, ey, fun o' s2 hst hcell hk hS2 ho hb => ?_⟩)
        refine seg_again rfl (next (o' := o') (by omega) hS2 (Inv.repin I10 hS0 rfl (fun p hp => ?_) hk hS2 hcell ho hb) (q10 z o' r10 hst))
        rcases List.mem_append.mp hp with q | q
        · exact hSg p q
        · exact fun e => hSf (by rw [← e]; exact (of_pinsAt q).1)
theorem seg_beginV (Qe : Obj → Hp → Prop) (W : Nat → Nat → Obj → Hp → Prop) (hc : X.calm = true)
    (hA : A.deeper ce = A')
    (T : Turn X.prog X.w X.K tg J fp it tn)
    (pg : PG (cxGen X A' s4 H4 ce fp) tg g) (pt : PTs (cxGen X A' s4 H4 ce fp) ifs tt) (pe : PE (cxGen X A' s4 H4 ce fp) elt te)
    (hco : ce.scope.isCoroutine = false) (turn : TurnV Ok Step J g tt te vs σ Qe W) (hgp : ∀ p ∈ gp, p.1 ∉ fp) (hSf : S ∉ fp) (hSg : ∀ p ∈ gp, p.1 ≠ S) (hS0 : s4.heap.objs.size ≤ S)
    (m n : Nat) (s0 s : Shared) (o : Obj) (H : Hp) (hmn : m < n) (hs0 : s0.heap.get? S = some o) (I : Inv (cxGen X A' s4 H4 ce fp) (gp ++ [(S, o)]) (wipe σ vs) H s) (st : tn 0 s.heap) (hn : ∀ b ∈ fp, H b = none) (w : W 0 m o H) :
      Seg (model X.prog X.w) A (fun n s0 r s1 => r = .ok .next ∧ EndV (cxGen X A' s4 H4 ce fp) gp S Qe n s0 s1) (ProV (cxGen X A' s4 H4 ce fp) gp S Ok Step) n s0
        (.compStart (.GeneratorExp elt [⟨tg, iter, ifs, 0⟩] scope pos) 0 (.ref it) .none ce)
        ((model X.prog X.w).den (.compStart (.GeneratorExp elt [⟨tg, iter, ifs, 0⟩] scope pos) 0 (.ref it) .none ce)) [] s := by
  have loop := seg_turnsV (iter := iter) (scope := scope) (pos := pos) Qe W hc (by rw [over_gen]; exact hA) T pg pt pe hco turn hgp hSf hSg hS0 m n 0 s0 s o H hmn hs0 I st hn w
  show Seg _ A _ _ _ s0 _ ((compStart (.GeneratorExp elt [⟨tg, iter, ifs, 0⟩] scope pos) 0 (.ref it) .none ce).onRaise (leaving ce)) [] s
  unfold compStart
  rw [Sem.onRaise_eq_wrap]
  show Seg _ A _ _ _ s0 _ ((ask >>= _).wrap _ _ _ _) [] s
  refine seg_bind_wrap (wpAny_askSetting ?_)
  split
  · exact seg_again rfl loop
  · refine seg_bind_wrap (wpAny_rule ?_)
    first
      | exact seg_bind_wrap (wpAny_standAt (seg_bind_wrap (T.self _ 0 s _ _ st (seg_again rfl loop))))
      | (show Seg _ A _ _ _ s0 _ ((standAt iter.pos >>= _).wrap _ _ _ _) [] s
         exact seg_bind_wrap (wpAny_standAt (seg_bind_wrap (T.self _ 0 s _ _ st (seg_again rfl loop)))))
end

section
variable {Xg : Cx} {gp : List (Addr × Obj)} {Qe : Obj → Hp → Prop} {A : Around} {a S : Addr} {gn : Nat} {Ok : Obj → V → Prop} {Step : Obj → Value → Obj → Prop}
/-- the state between two turns of the consumer, whose object is o -/
def ReadyV (M : Model) (A : Around) (Xg : Cx) (gp : List (Addr × Obj)) (S : Addr) (Ok : Obj → V → Prop) (Step : Obj → Value → Obj → Prop) (Qe : Obj → Hp → Prop) (a : Addr) (gn n : Nat) (s : Shared) : Prop :=
  s.heap.NoLimit ∧ s.heap.IsGen a gn ∧ ∃ gs, s.gens[gn]? = some gs ∧
    gs.Goes M A.in1.in1 (fun n s0 r s1 => r = .ok .next ∧ EndV Xg gp S Qe n s0 s1) (ProV Xg gp S Ok Step) n (.send .none) (s.setGen gn .running)
/-- one step of the consumer -/
theorem next_turnV {E : Value → Shared → Prop} {s : Shared} {n : Nat} {Q : Option Value → Shared → Prop} (hh : A.handled = none) (hd : A.depth < recursionLimit)
    (hI : ∀ (pins : List (Addr × Obj)) (σ : L2.St) (H : Hp) (s : Shared), Inv Xg (gp ++ pins) σ H s → s.heap.IsGen a gn) (hS0 : Xg.s_0.heap.objs.size ≤ S) (hpn : Xg.pn = []) (hSg : ∀ p ∈ gp, p.1 ≠ S)
    (r : ReadyV (model Xg.prog Xg.w) A Xg gp S Ok Step Qe a gn n s) {o : Obj} (hS : s.heap.get? S = some o)
    (hend : ∀ (σ : L2.St) (H : Hp) (s' : Shared), Inv Xg (gp ++ [(S, o)]) σ H s' → Qe o H → Q none s')
    (hgo : ∀ (y : V) (v : Value) (s' : Shared), RelV y v → Ok o y → s'.heap.get? S = some o →
      (∀ (o' : Obj) (h' : Heap) (tk : Nat), Step o v o' → (∀ u, o'.data ≠ .cell u) → (∀ b ob, b ≠ S → s'.heap.get? b = some ob → h'.get? b = some ob) → h'.get? S = some o' → ∃ k, n = k + 1 ∧ ReadyV (model Xg.prog Xg.w) A Xg gp S Ok Step Qe a gn k { s' with heap := h', toks := tk }) → Q (some v) s') :
    wpAny (model Xg.prog Xg.w) A.in1 (pyNext (.ref a)) Q E s := by
  obtain ⟨hl, hg, gs, hgs, goes⟩ := r
  have hgl : gn < s.gens.size := (Array.getElem?_eq_some_iff.mp hgs).1
  refine wpAny_gsz (n := gn + 1) hgl ?_
  refine wpAny_pyNext_genexpQ (A := A.in1) (P := EndV Xg gp S Qe) hh hl hd hg hgs goes (fun v s1 gs' hbare hv => ?_) (fun s1 hp h' hk => ?_)
  · obtain ⟨y, σ, H, o2, hs0, ry, I, hok, hq⟩ := hv
    have hs0 : s.heap.get? S = some o2 := hs0
    rw [hS] at hs0
    cases hs0
    intro hsz
    have hsz1 : gn < s1.gens.size := by
      have q : (s1.setGen gn gs').gens.size = s1.gens.size := setGen_size _ _ _
      omega
    have pS : s1.heap.get? S = some o := (I.pin (S, o) (List.mem_append_right _ (List.mem_append_right _ List.mem_cons_self))).1
    refine hgo y v _ ry hok pS fun o' h2 tk hst hcell hk hS2 => ?_
    cases n with
    | zero => exact (hq o' { s1 with heap := h2, toks := tk } hst hcell hk hS2 rfl I.bare).elim
    | succ k =>
      have Iq : Inv Xg (gp ++ [(S, o)] ++ []) σ H s1 := by rw [List.append_nil]; exact I
      have I2 : Inv Xg (gp ++ [(S, o')] ++ []) σ H ({ s1.setGen gn gs' with heap := h2, toks := tk } : Shared) := Inv.repin Iq hS0 hpn (fun p hp => hSg p (by simpa using hp)) hk hS2 hcell rfl (allBare_setGen I.bare hbare)
      rw [List.append_nil] at I2
      refine ⟨k, rfl, I2.nolimit, hI _ σ H _ I2, gs', setGen_at hsz1, ?_⟩
      refine hq o' _ hst hcell hk hS2 rfl ?_
      exact allBare_setGen (s := ({ s1.setGen gn gs' with heap := h2, toks := tk } : Shared)) I2.bare rfl
  · obtain ⟨σ, H, o2, hs0, I, hq⟩ := hp
    have hs0 : s.heap.get? S = some o2 := hs0
    rw [hS] at hs0
    cases hs0
    intro _
    have I2 : Inv Xg (gp ++ [(S, o)]) σ H (s1.setGen gn .finished) := Inv.moreOf I (fun _ _ e => e) rfl (allBare_setGen I.bare rfl)
    exact hend σ H _ (Inv.moreOf I2 hk rfl I2.bare) hq
end
end Gx
end
section
set_option Elab.async false
set_option linter.all false
set_option maxRecDepth 100000
set_option maxHeartbeats 4000000
namespace Gx
open PySem PySem.Spec PyProof.Rows L2 GenW

section
variable {X : Cx} {elt tg iter : Expr} {ifs : List Expr} {scope : Scope} {pos : Pos} {g : TG} {tt : TT} {te : TE} {vs : List Nat} {σ : L2.St}
/-- min(..), sum(..), .. of a generator expression -/
def tGenV (P : Addr) (wi : TI) (g : TG) (tt : TT) (te : TE) (vs : List Nat) (St0 : Obj → Prop) (Ok : Obj → V → Prop) (Step : Obj → Value → Obj → Prop) (Fin : Obj → V → Prop) : TE := fun σ H Q => wi σ H fun J H1 => GxR.TabG H1 P ∧
  ∀ H2, GxR.Tabbed P H1 H2 → ∀ o0, St0 o0 → ∃ W : Nat → Nat → Obj → Hp → Prop, (∃ m, W 0 m o0 H2) ∧ TurnV Ok Step J g tt te vs σ (fun o H => ∃ v, Fin o v ∧ Q v H) W
/-- the generator has been made; the consumer's object is laid behind it -/
def MadeV (X : Cx) (pins : List (Addr × Obj)) (σ : L2.St) (St0 : Obj → Prop) (Ok : Obj → V → Prop) (Step : Obj → Value → Obj → Prop) (Fin : Obj → V → Prop) (Q : VK) (v : Value) (s5 : Shared) : Prop :=
  ∃ (a : Addr) (gn : Nat) (Xg : Cx) (gp : List (Addr × Obj)), v = .ref a ∧ Xg.prog = X.prog ∧ Xg.w = X.w ∧ Xg.pn = [] ∧
    (∀ (pins' : List (Addr × Obj)) (σ' : L2.St) (H : Hp) (s : Shared), Inv Xg (gp ++ pins') σ' H s → s.heap.IsGen a gn) ∧ s5.heap.IsGen a gn ∧ (∀ p ∈ gp, p.1 < s5.heap.objs.size) ∧ Xg.s_0.heap.objs.size ≤ s5.heap.objs.size ∧
    (∀ (S : Addr) (o0 : Obj) (h6 : Heap) (tk6 : Nat), s5.heap.objs.size ≤ S → St0 o0 → (∀ u, o0.data ≠ .cell u) → (∀ b ob, s5.heap.get? b = some ob → h6.get? b = some ob) → h6.get? S = some o0 →
      ∃ n, ReadyV (model Xg.prog Xg.w) X.A Xg gp S Ok Step (fun o H => ∃ v, Fin o v ∧ Q v H) a gn n { s5 with heap := h6, toks := tk6 }) ∧
    (∀ (pins' : List (Addr × Obj)) (v : V) (u : Value) (σ' : L2.St) (H : Hp) (s' : Shared), Inv Xg (gp ++ pins') σ' H s' → RelV v u → Q v H → EP X pins σ Q u s')

theorem gen_madeV {St0 : Obj → Prop} {Ok : Obj → V → Prop} {Step : Obj → Value → Obj → Prop} {Fin : Obj → V → Prop} {c P : Addr} {gpos : Pos} {own : List (Str × Nat)} {wi : TI} {k : Nat} {pins : List (Addr × Obj)} {s : Shared} {H : Hp} {Q : VK}
    (hc : X.calm = true) (hN : X.N.Nodup) (hr : Room k X.A) (TB : GxR.TabB X.base X.mg c P) (hcode : X.env.code = .ref c) (ok : GenSc X.N X.env.scope scope own) (hi : PI X tg iter wi)
    (hg : ∀ (A' : Around) (s : Shared) (H : Hp) (code : Value) (cl : List (Str × Addr)) (C : Addr) (fp : List Addr), (∃ env, A' = X.A.in1.in1.deeper env) → PG (cxGen X A' s H (genEnv scope cl C code builtinsNs X.env) fp) tg g)
    (ht : ∀ (A' : Around) (s : Shared) (H : Hp) (code : Value) (cl : List (Str × Addr)) (C : Addr) (fp : List Addr), (∃ env, A' = X.A.in1.in1.deeper env) → PTs (cxGen X A' s H (genEnv scope cl C code builtinsNs X.env) fp) ifs tt)
    (he : ∀ (A' : Around) (s : Shared) (H : Hp) (code : Value) (cl : List (Str × Addr)) (C : Addr) (fp : List Addr), (∃ env, A' = X.A.in1.in1.deeper env) → PE (cxGen X A' s H (genEnv scope cl C code builtinsNs X.env) fp) elt te)
    (hs : ∀ v, genFold iter X.env v = pure v) (I : Inv X pins σ H s) (h : tGenV P wi g tt te (own.map (·.2)) St0 Ok Step Fin σ H Q) :
    wpAny (model X.prog X.w) X.A (eval (.GeneratorExp elt [⟨tg, iter, ifs, 0⟩] scope gpos) X.env) (MadeV X pins σ St0 Ok Step Fin Q) X.xe s := by
  have hfree : ∀ y ∈ scope.names, y.2 = .free → ∃ c, X.env.cells.lookup y.1 = some c := fun y hy e => by
    rcases ok.free y hy e with k | k
    · exact I.ok.has _ (.inl k)
    · exact I.ok.has _ (.inr k)
  refine wpAny_GeneratorExp_make ok.co (closure_ok hfree) ok.nocell ok.dot ok.kind hr.depth ?_ hs
  refine thn (hi.run pins s σ H _ I h) fun xv s1 hx => thn hx fun itv s2 h2 => ?_
  obtain ⟨it, fp, tn, J, H1, e, I2, T, st2, f2, ⟨ps, hP, htr⟩, q⟩ := h2
  subst e
  refine ⟨I2.nolimit, ?_⟩
  have hPs : s2.heap.get? P = some { cls := .none, data := .fields ps } := I2.hok P _ hP
  have cd : PySem.W.CodeHd s2.heap c P := TB.code.keeps I2.bk
  -- behind the code object
  have cont : ∀ (code : Value) (h3 : Heap) (tk : Nat) (ps' : Array Value), Heap.ExtBut P s2.heap h3 → h3.get? P = some { cls := .none, data := .fields ps' } → (∃ more, ps' = ps ++ more) → TriplesOk ps'.toList →
      wpAny (model X.prog X.w) X.A (builtinsFor X.env.globals X.env.builtins) (fun bi s₄ => ∀ h', h'.Ns s₄.heap.objs.size (fun y => if y = ".0" then some (Value.ref it) else none) → Heap.SameBut s₄.heap.objs.size (s₄.heap.push { cls := .type "frame", data := .dict #[] }) h' →
          MadeV X pins σ St0 Ok Step Fin Q (.ref h'.objs.size) { s₄ with
            gens := s₄.gens.push (.fresh (.compStart (.GeneratorExp elt [⟨tg, iter, ifs, 0⟩] scope gpos) 0 (.ref it) .none (genEnv scope (cloFrom X.env.cells scope.names []) s₄.heap.objs.size code bi X.env))),
            toks := s₄.toks + 1 + 1 + 1,
            heap := h'.push { cls := .type "generator", data := .fields #[.int s₄.gens.size 0, .str "<genexpr>" (s₄.toks + 1), .str (X.env.qual ++ "<genexpr>") (s₄.toks + 1 + 1)] } }) X.xe { s2 with heap := h3, toks := tk } := by
    intro code h3 tk ps' hx hP3 hmore ht3
    obtain ⟨more, em⟩ := hmore
    subst em
    have I3 : Inv X pins σ (upd H1 P (.tbl (ps ++ more))) { s2 with heap := h3, toks := tk } := GxR.inv_tab (s := s2) (g' := s2.gens) (d' := s2.drawn) (t' := tk) I2 hP (fun b o hb e => hx b o hb e) hP3 I2.bare
    have nP : ∀ b ∈ fp, b ≠ P := fun b hb z => by
      have q1 := (f2 b hb).1
      rw [z, hP] at q1
      cases q1
    have f3 : ∀ b ∈ fp, FpOk X pins (upd H1 P (.tbl (ps ++ more))) b := fun b hb => ⟨by rw [upd_ne (nP b hb)]; exact (f2 b hb).1, (f2 b hb).2⟩
    have st3 : tn 0 h3 := T.keep _ _ _ st2 fun b hb o e => hx b o (nP b hb) e
    have q := q _ (⟨⟨ps ++ more, upd_same, ht3⟩, fun b hb => upd_ne hb⟩ : GxR.Tabbed P H1 (upd H1 P (.tbl (ps ++ more))))
    generalize hH3 : upd H1 P (.tbl (ps ++ more)) = H3 at I3 f3 q
    generalize hs3 : ({ s2 with heap := h3, toks := tk } : Shared) = s3 at I3 ⊢
    have e3 : s3.heap = h3 := by rw [← hs3]
    obtain ⟨bm, ob, b1, b2, b3, b4, b5, b6, b7, b8⟩ := TB.bm
    refine wpAny_builtinsFor (m := X.mg) (by rw [I3.ok.glob]; exact I3.mod.glob.keeps I3.bk) b1 b2 (I3.bk _ _ b5) b6 b7 b8 ?_
    intro h' hn' hs'
    have hsz : h'.objs.size = s3.heap.objs.size + 1 := by rw [hs'.1, Heap.size_push]
    have keep' : ∀ b o, s3.heap.get? b = some o → h'.get? b = some o := fun b o e => hs'.extBut b o (Nat.ne_of_lt (Heap.lt_size e)) (Heap.get?_push_of_some _ e)
    generalize hgo : ({ cls := .type "generator", data := .fields #[.int s3.gens.size 0, .str "<genexpr>" (s3.toks + 1), .str (X.env.qual ++ "<genexpr>") (s3.toks + 1 + 1)] } : Obj) = go
    have keep5 : ∀ b o, s3.heap.get? b = some o → (h'.push go).get? b = some o := fun b o e => Heap.get?_push_of_some _ (keep' b o e)
    have fin3 : ∀ b ∈ fp, FpOk X pins H3 b ∧ b < s3.heap.objs.size := fun b hb => ⟨f3 b hb, by
      obtain ⟨o, e, _⟩ := T.obj _ _ st3 b hb
      rw [e3]
      exact Heap.lt_size e⟩
    have hfr : (X.A.in1.in1.deeper (genEnv scope (cloFrom X.env.cells scope.names []) s3.heap.objs.size code builtinsNs X.env)).frames = some (genEnv scope (cloFrom X.env.cells scope.names []) s3.heap.objs.size code builtinsNs X.env :: X.stack) := by
      show X.A.frames.map _ = _
      rw [I3.ok.frames]
      rfl
    have ggo : (h'.push go).get? h'.objs.size = some go := Heap.get?_push_size _ (by rw [← hgo]; rfl)
    have dgo : ∀ v, go.data ≠ .cell v := fun v z => by
      rw [← hgo] at z
      cases z
    have Ig := gen_start (a := h'.objs.size) (go := go) (tk := s3.toks + 1 + 1 + 1) (code := code) (gs := .fresh (.compStart (.GeneratorExp elt [⟨tg, iter, ifs, 0⟩] scope gpos) 0 (.ref it) .none (genEnv scope (cloFrom X.env.cells scope.names []) s3.heap.objs.size code builtinsNs X.env)))
      I3 ok hN fin3 hfr (fun _ => hr.hd) (hn'.push _) keep5 ggo (by omega) dgo rfl
    have hszg : s3.heap.objs.size < (h'.push go).objs.size := by rw [Heap.size_push]; omega
    refine ⟨h'.objs.size, s3.gens.size, cxGen X (X.A.in1.in1.deeper (genEnv scope (cloFrom X.env.cells scope.names []) s3.heap.objs.size code builtinsNs X.env)) s3 H3 (genEnv scope (cloFrom X.env.cells scope.names []) s3.heap.objs.size code builtinsNs X.env) fp,
      [(h'.objs.size, go)], rfl, rfl, rfl, rfl, fun pins' σ' H' s' I' => ?_, ?_, fun p hp => ?_, Nat.le_of_lt hszg, fun S o0 h6 tk6 hS6 st0 hcell hk6 hS6' => ?_, fun pins' v u σ' H' s' I' ru qq => ?_⟩
    · have z := (I'.pin (h'.objs.size, go) (List.mem_append_right _ (List.mem_append_left _ List.mem_cons_self))).1
      exact ⟨_, _, _, z, by rw [← hgo], by rw [← hgo], by rw [← hgo]⟩
    · exact ⟨_, _, _, ggo, by rw [← hgo], by rw [← hgo], by rw [← hgo]⟩
    · obtain rfl : p = (h'.objs.size, go) := by simpa using hp
      show h'.objs.size < (h'.push go).objs.size
      rw [Heap.size_push]; exact Nat.lt_succ_self _
    · obtain ⟨W, ⟨m0, w0⟩, turn⟩ := q o0 st0
      have hS6 : (h'.push go).objs.size ≤ S := hS6
      have Ig6 := Inv.moreOf (s2 := ({ s3 with gens := s3.gens.push (.fresh (.compStart (.GeneratorExp elt [⟨tg, iter, ifs, 0⟩] scope gpos) 0 (.ref it) .none (genEnv scope (cloFrom X.env.cells scope.names []) s3.heap.objs.size code builtinsNs X.env))), toks := tk6, heap := h6 } : Shared)) Ig hk6 rfl Ig.bare
      have nS : H3 S = none := Ig.hok.fresh hS6
      have Ig7 : Inv (cxGen X (X.A.in1.in1.deeper (genEnv scope (cloFrom X.env.cells scope.names []) s3.heap.objs.size code builtinsNs X.env)) s3 H3 (genEnv scope (cloFrom X.env.cells scope.names []) s3.heap.objs.size code builtinsNs X.env) fp) ([(h'.objs.size, go)] ++ [(S, o0)]) (wipe σ (own.map (·.2))) H3 _ := Ig6.pins_of fun p hp => by
        rcases List.mem_append.mp hp with z | z
        · exact Ig6.pin p (List.mem_append_right _ z)
        · obtain rfl : p = (S, o0) := by simpa using z
          refine ⟨hS6', nS, Nat.ne_of_gt (Nat.lt_of_lt_of_le Ig.lt hS6), Ig.nofs hS6, hcell⟩
      refine ⟨m0 + 1, Ig7.nolimit, ?_, _, Array.getElem?_push_size .., rfl, ?_⟩
      · exact ⟨_, _, _, hk6 _ _ ggo, by rw [← hgo], by rw [← hgo], by rw [← hgo]⟩
      · refine seg_beginV (fp := fp) (gp := [(h'.objs.size, go)]) (S := S) _ W hc rfl T (hg _ _ _ _ _ _ _ ⟨_, rfl⟩) (ht _ _ _ _ _ _ _ ⟨_, rfl⟩) (he _ _ _ _ _ _ _ ⟨_, rfl⟩) ok.co turn (fun p hp hz => ?_) (fun hz => ?_) (fun p hp hz => ?_) (by omega) m0 (m0 + 1) _ _ o0 _ (Nat.lt_succ_self _) hS6' (Inv.moreOf Ig7 (fun _ _ e => e) rfl ?_) ?_ (fun b hb => (f3 b hb).1) w0
        · obtain rfl : p = (h'.objs.size, go) := by simpa using hp
          have z1 := (fin3 _ hz).2
          have z1 : h'.objs.size < s3.heap.objs.size := z1
          omega
        · have z1 := (fin3 _ hz).2
          exact absurd (Nat.lt_of_lt_of_le hszg hS6) (Nat.lt_asymm z1)
        · obtain rfl : p = (h'.objs.size, go) := by simpa using hp
          have hz : h'.objs.size = S := hz
          rw [Heap.size_push] at hS6
          omega
        · exact allBare_setGen Ig.bare rfl
        · exact T.keep _ _ _ st3 fun b hb o e => hk6 b o (keep5 b o (by rw [e3]; exact e))
    · have I7 : Inv X pins σ H' s' := I3.call' (ch := fp) I'.os I'.base I'.hok I'.bare fun b hb => ⟨(f3 b hb).2.2.2.1, (f3 b hb).2.1, (f3 b hb).2.2.2.2.1, (f3 b hb).2.2.2.2.2⟩
      exact ⟨v, H', I7, ru, qq⟩
  cases hf : codeAmong gpos ps.toList with
  | none =>
    refine wpAny_genexprCodeX hcode (cd.code hPs htr) (cd.tab hPs) hf fun c' h' tk hx hge hlt hco' _ htab' _ => ?_
    obtain ⟨o1, vs1, f1, tf, fl, tg1, inF, tx, tt1, op, _, _, _, _, _, _, _, _, _, htr', _⟩ := hco'
    exact cont _ h' tk _ hx htab'.2 ⟨_, rfl⟩ htr'
  | some cv =>
    refine wpAny_genexprCode_hit hcode (cd.code hPs htr) hf ?_
    exact cont cv s2.heap s2.toks ps (Heap.ExtBut.refl _ _) hPs ⟨#[], by simp⟩ htr
end

/-! ### min -/
abbrev lob (l : List Value) (c : Nat) : Obj := { cls := .type "list", dict := none, data := .seq l.toArray c, slots := #[] }
def minSt0 (o : Obj) : Prop := ∃ c, o = lob [] c
def minSh (o : Obj) (b : Option Int) : Prop := match b with
  | none => ∃ c, o = lob [] c
  | some i => ∃ t c, o = lob [.int i t, .int i t] c
def minOk (o : Obj) (y : V) : Prop := (∃ n, y = .int n) ∧ ∃ b, minSh o b
def minStep (o : Obj) (v : Value) (o' : Obj) : Prop := ∀ n t, v = .int n t → ∀ b, minSh o b → minSh o' (match b with
  | none => some n
  | some i => if n < i then some n else some i)
def minFin (o : Obj) (v : V) : Prop := ∃ i, minSh o (some i) ∧ v = .int i
theorem lob_cell {l : List Value} {c : Nat} : ∀ u, (lob l c).data ≠ .cell u := fun u z => by cases z
theorem lob_upd {h : Heap} {S : Addr} {l l' : List Value} {c : Nat} (e : h.get? S = some (lob l c)) : ∃ c', (h.update S (Obj.mapSeq fun _ => l'.toArray)).get? S = some (lob l' c') := ⟨_, Heap.get?_update_self _ e rfl⟩
section
variable {X : Cx} {pins : List (Addr × Obj)} {σ : L2.St} {Q : VK}
theorem lt_intR {prog : Program} {w : World} {A : Around} {E : Value → Shared → Prop} {s : Shared} {a b : Int} {t u : Tok} {Q : Value → Shared → Prop} (h : Q (.bool (decide (a < b))) s) : wpAny (model prog w) A (richCompare .Lt (.int a t) (.int b u)) Q E s := wpAny_lt_int h
theorem min_turns {Xg : Cx} {gp : List (Addr × Obj)} {A : Around} {a S : Addr} {gn : Nat} {Rz : Result → Shared → Prop} {Qe : Obj → Hp → Prop} (hh : A.handled = none) (hd : A.depth < recursionLimit)
    (hI : ∀ (pins : List (Addr × Obj)) (σ : L2.St) (H : Hp) (s : Shared), Inv Xg (gp ++ pins) σ H s → s.heap.IsGen a gn) (hS0 : Xg.s_0.heap.objs.size ≤ S) (hpn : Xg.pn = []) (hSg : ∀ p ∈ gp, p.1 ≠ S) (hQe : ∀ o H, Qe o H → ∃ v, minFin o v)
    (hend : ∀ (i : Int) (t : Tok) (c : Nat) (σ : L2.St) (H : Hp) (s' : Shared), Inv Xg (gp ++ [(S, lob [] c)]) σ H s' → (∃ o, minSh o (some i) ∧ Qe o H) → Rz (.ok (.ret (.int i t))) s') :
    ∀ (n : Nat) (s : Shared) (o : Obj) (b : Option Int), ReadyV (model Xg.prog Xg.w) A Xg gp S minOk minStep Qe a gn n s → s.heap.get? S = some o → minSh o b → codeAny (model Xg.prog Xg.w) A (.builtin "min.loop" ⟨[.ref a, .none, .ref S], []⟩) Rz s := by
  have hname : (toString "min" ++ toString ".loop" : String) = "min.loop" := by decide
  intro n
  induction n using Nat.strongRecOn with
  | ind n ih =>
    intro s o b r hS hb
    refine codeAny_builtin F.entry_min_loop ?_
    rw [Around.under_plainId F.plain_min_loop _]
    cases b with
    | none =>
      obtain ⟨c, rfl⟩ := hb
      show wpAny _ A.in1 (seqItems? (.ref S) >>= _) _ _ s
      refine wpAny_bind (wpAny_seqItems hS rfl ?_)
      show wpAny _ A.in1 (tryCatch (pyNext (.ref a)) _ >>= _) _ _ s
      refine wpAny_bind (wpAny_tryCatch (next_turnV hh hd hI hS0 hpn hSg r hS (fun σ H s' I q => ?_) fun y v s' ry hok hS' go => ?_))
      · obtain ⟨v, i, ⟨t, c', e⟩, _⟩ := hQe _ _ q
        have e : (lob [] c).data = (lob [.int i t, .int i t] c').data := by rw [e]
        have : ([] : List Value).toArray = [Value.int i t, Value.int i t].toArray := by injection e
        simp at this
      · obtain ⟨⟨nn, rfl⟩, _⟩ := hok
        obtain ⟨t, rfl⟩ := ry
        show wpAny _ A.in1 (updateSeq S (fun _ => #[_, _]) >>= _) _ _ _
        refine wpAny_bind (wpAny_updateSeq hS' rfl ?_)
        rw [hname]
        obtain ⟨c2, hu⟩ := lob_upd (l' := [Value.int nn t, Value.int nn t]) hS'
        obtain ⟨k, rfl, r'⟩ := go (lob [.int nn t, .int nn t] c2) _ s'.toks (fun n' t' e b' hb' => by
          cases e
          cases b' with
          | none => exact ⟨t, c2, rfl⟩
          | some i' =>
            obtain ⟨t3, c3, e3⟩ := hb'
            have e3 : (lob [] c).data = (lob [.int i' t3, .int i' t3] c3).data := by rw [e3]
            have : ([] : List Value).toArray = [Value.int i' t3, Value.int i' t3].toArray := by injection e3
            simp at this) lob_cell (fun b ob hb e => (Heap.get?_update_other _ _ (Ne.symm hb)).trans e) hu
        exact wpAny_pure ⟨plainId_quiet F.plain_min_loop _, ih k (Nat.lt_succ_self k) _ _ (some nn) r' hu ⟨t, c2, rfl⟩⟩
    | some i =>
      obtain ⟨t, c, rfl⟩ := hb
      have uniq : ∀ {i' : Int} {t' : Tok} {c' : Nat}, lob [.int i t, .int i t] c = lob [.int i' t', .int i' t'] c' → i = i' := fun {i' t' c'} e => by
        have e : (lob [.int i t, .int i t] c).data = (lob [.int i' t', .int i' t'] c').data := by rw [e]
        have : [Value.int i t, Value.int i t].toArray = [Value.int i' t', Value.int i' t'].toArray := by injection e
        simp at this
        exact this.1
      show wpAny _ A.in1 (seqItems? (.ref S) >>= _) _ _ s
      refine wpAny_bind (wpAny_seqItems hS rfl ?_)
      show wpAny _ A.in1 (tryCatch (pyNext (.ref a)) _ >>= _) _ _ s
      refine wpAny_bind (wpAny_tryCatch (next_turnV hh hd hI hS0 hpn hSg r hS (fun σ H s' I q => ?_) fun y v s' ry hok hS' go => ?_))
      · have pS : s'.heap.get? S = some (lob [.int i t, .int i t] c) := (I.pin (S, _) (List.mem_append_right _ (List.mem_append_right _ List.mem_cons_self))).1
        show wpAny _ A.in1 (updateSeq S (fun _ => #[]) >>= _) _ _ _
        refine wpAny_bind (wpAny_updateSeq pS rfl (wpAny_bind (wpAny_letGo (wpAny_pure ?_))))
        obtain ⟨c2, hu⟩ := lob_upd (l' := []) pS
        have Iq : Inv Xg (gp ++ [(S, lob [.int i t, .int i t] c)] ++ []) σ H s' := by rw [List.append_nil]; exact I
        have I2 := Inv.repin (s2 := ({ s' with heap := s'.heap.update S (Obj.mapSeq fun _ => ([] : List Value).toArray) } : Shared)) Iq hS0 hpn (fun p hp => hSg p (by simpa using hp)) (fun b ob hb e => (Heap.get?_update_other _ _ (Ne.symm hb)).trans e) hu lob_cell rfl I.bare
        rw [List.append_nil] at I2
        exact hend i t c2 σ H _ I2 ⟨_, ⟨t, c, rfl⟩, q⟩
      · obtain ⟨⟨nn, rfl⟩, _⟩ := hok
        obtain ⟨t', rfl⟩ := ry
        show wpAny _ A.in1 (tryCatch (holding [Value.int nn t', Value.int nn t'] (richCompare .Lt (Value.int nn t') (Value.int i t) >>= _)) _ >>= _) _ _ _
        refine wpAny_bind (wpAny_tryCatch (wpAny_holding (wpAny_bind (lt_intR ?_))))
        refine wpAny_bind (wpAny_holding (wpAny_truthy_bool ?_))
        refine wpAny_bind (wpAny_letGo (wpAny_pure ?_))
        by_cases hlt : nn < i
        · rw [decide_eq_true hlt]
          simp only [if_true]
          refine wpAny_bind (wpAny_updateSeq hS' rfl (wpAny_bind (wpAny_letGo ?_)))
          rw [hname]
          obtain ⟨c2, hu⟩ := lob_upd (l' := [Value.int nn t', Value.int nn t']) hS'
          obtain ⟨k, rfl, r'⟩ := go (lob [.int nn t', .int nn t'] c2) _ s'.toks (fun n' t3 e b' hb' => by
            cases e
            cases b' with
            | none => exact ⟨t', c2, rfl⟩
            | some i' =>
              obtain ⟨t3, c3, e3⟩ := hb'
              have := uniq e3
              subst this
              show minSh _ (if nn < i then some nn else some i)
              rw [if_pos hlt]
              exact ⟨t', c2, rfl⟩) lob_cell (fun b ob hb e => (Heap.get?_update_other _ _ (Ne.symm hb)).trans e) hu
          exact wpAny_pure ⟨plainId_quiet F.plain_min_loop _, ih k (Nat.lt_succ_self k) _ _ (some nn) r' hu ⟨t', c2, rfl⟩⟩
        · rw [decide_eq_false hlt]
          simp only [Bool.false_eq_true, if_false]
          refine wpAny_bind (wpAny_letGo ?_)
          rw [hname]
          obtain ⟨k, rfl, r'⟩ := go (lob [.int i t, .int i t] c) s'.heap s'.toks (fun n' t3 e b' hb' => by
            cases e
            cases b' with
            | none =>
              obtain ⟨c3, e3⟩ := hb'
              have e3 : (lob [.int i t, .int i t] c).data = (lob [] c3).data := by rw [e3]
              have : [Value.int i t, Value.int i t].toArray = ([] : List Value).toArray := by injection e3
              simp at this
            | some i' =>
              obtain ⟨t3, c3, e3⟩ := hb'
              have := uniq e3
              subst this
              show minSh _ (if nn < i then some nn else some i)
              rw [if_neg hlt]
              exact ⟨t, c, rfl⟩) lob_cell (fun b ob _ e => e) hS'
          exact wpAny_pure ⟨plainId_quiet F.plain_min_loop _, ih k (Nat.lt_succ_self k) _ _ (some i) r' hS' ⟨t, c, rfl⟩⟩
theorem call_min_made {k : Nat} {v : Value} {s5 : Shared} (hr : Room k X.A) (h : MadeV X pins σ minSt0 minOk minStep minFin Q v s5) :
    wpAny (model X.prog X.w) X.A (call (.builtin "min") [v]) (EP X pins σ Q) X.xe s5 := by
  obtain ⟨a, gn, Xg, gp, rfl, e1, e2, epn, hI, hg, hgp, hsz, hst, hend⟩ := h
  have hname : (toString "min" ++ toString ".loop" : String) = "min.loop" := by decide
  refine call_function_tree F.kind_min F.plain_min F.entry_min (F.args_min1 _) ?_
  show wpAny _ X.A.in1 (Builtin.Builtins.bindParams "min" ["key", "default"] 0 ⟨[], []⟩ >>= _) _ _ s5
  refine wpAny_bind (wpAny_of_eq (show Builtin.Builtins.bindParams "min" ["key", "default"] 0 ⟨[], []⟩ = pure [none, none] from rfl) ?_)
  refine wpAny_bind (wpAny_pure ?_)
  refine wpAny_bind (wpAny_pyIter_gen hg ?_)
  refine wpAny_bind (wpAny_newObj_type ?_ (by show 0 ≤ sizeLine; exact Nat.zero_le _))
  rw [hname]
  obtain ⟨n, r⟩ := hst s5.heap.objs.size (lob [] 0) (s5.heap.push (lob [] 0)) s5.toks (Nat.le_refl _) ⟨0, rfl⟩ lob_cell (fun b ob e => Heap.get?_push_of_some _ e) (Heap.get?_push_size _ rfl)
  refine wpAny_pure ⟨plainId_quiet F.plain_min_loop _, ?_⟩
  have z := min_turns (A := X.A) (a := a) (S := s5.heap.objs.size) (gn := gn) (gp := gp) (Xg := Xg) (Qe := fun o H => ∃ v, minFin o v ∧ Q v H) (Rz := fun r s' => match r with
    | .ok (.ret v) => EP X pins σ Q v s'
    | .ok _ => False
    | .error e => X.xe e s') hr.hd hr.depth hI hsz epn (fun p hp => Nat.ne_of_lt (hgp p hp)) (fun o H ⟨v, h, _⟩ => ⟨v, h⟩) (fun i t c σ' H s' I ⟨o, ho, v, ⟨i', hi', ev⟩, q⟩ => by
      subst ev
      obtain ⟨t1, c1, e1⟩ := ho
      obtain ⟨t2, c2, e2⟩ := hi'
      have e : (lob [.int i t1, .int i t1] c1).data = (lob [.int i' t2, .int i' t2] c2).data := by rw [← e1, ← e2]
      have : [Value.int i t1, Value.int i t1].toArray = [Value.int i' t2, Value.int i' t2].toArray := by injection e
      simp at this
      rw [← this.1] at q
      exact hend _ (.int i) (.int i t) σ' H s' I ⟨t, rfl⟩ q) n _ (lob [] 0) none r (Heap.get?_push_size _ rfl) ⟨0, rfl⟩
  rw [e1, e2] at z
  exact z
end
section
variable {X : Cx} {elt tg iter : Expr} {ifs : List Expr} {scope : Scope} {g : TG} {tt : TT} {te : TE} {c P : Addr} {gpos p pos : Pos} {own : List (Str × Nat)} {wi : TI} {k : Nat}
theorem pe_minG (hc : X.calm = true) (hN : X.N.Nodup) (hr : Room k X.A) (hgl : Gl X "min") (hm : X.mg "min" = none) (TB : GxR.TabB X.base X.mg c P) (hcode : X.env.code = .ref c) (ok : GenSc X.N X.env.scope scope own) (hi : PI X tg iter wi)
    (hg : ∀ (A' : Around) (s : Shared) (H : Hp) (code : Value) (cl : List (Str × Addr)) (C : Addr) (fp : List Addr), (∃ env, A' = X.A.in1.in1.deeper env) → PG (cxGen X A' s H (genEnv scope cl C code builtinsNs X.env) fp) tg g)
    (ht : ∀ (A' : Around) (s : Shared) (H : Hp) (code : Value) (cl : List (Str × Addr)) (C : Addr) (fp : List Addr), (∃ env, A' = X.A.in1.in1.deeper env) → PTs (cxGen X A' s H (genEnv scope cl C code builtinsNs X.env) fp) ifs tt)
    (he : ∀ (A' : Around) (s : Shared) (H : Hp) (code : Value) (cl : List (Str × Addr)) (C : Addr) (fp : List Addr), (∃ env, A' = X.A.in1.in1.deeper env) → PE (cxGen X A' s H (genEnv scope cl C code builtinsNs X.env) fp) elt te)
    (hs : ∀ v, genFold iter X.env v = pure v)
    (hst : starEach [.GeneratorExp elt [⟨tg, iter, ifs, 0⟩] scope gpos] X.env = (false, eval (.GeneratorExp elt [⟨tg, iter, ifs, 0⟩] scope gpos) X.env) :: starEach [] X.env) :
    PE X (.Call (.Name "min" p) [.GeneratorExp elt [⟨tg, iter, ifs, 0⟩] scope gpos] [] pos) (tGenV P wi g tt te (own.map (·.2)) minSt0 minOk minStep minFin) := by
  refine ⟨fun pins s σ H Q I h => ?_⟩
  refine wpAny_Call_Name_kw (ld_blt I hgl hm (by decide +kernel : bootBuiltins "min" = some (.builtin "min")) ?_)
  refine PyProof.Rows.callWith_builtin1 ?_ hst (by rfl)
  rw [hst]
  show wpAny _ _ (spliced ((false, eval (.GeneratorExp elt [⟨tg, iter, ifs, 0⟩] scope gpos) X.env) :: backTo pos (starEach [] X.env))) _ _ s
  exact Calls.spliced_cons (thn (gen_madeV hc hN hr TB hcode ok hi hg ht he hs I h) fun v s5 hv => Calls.spliced_nil (call_min_made hr hv))
end
end Gx
end
section
set_option Elab.async false
set_option linter.all false
set_option maxRecDepth 100000
set_option maxHeartbeats 2000000
/-! Plain values over the hand layer: data without addresses, environments, what represents what. -/
namespace PL
open PySem PySem.Spec PyProof.Rows L2

abbrev D := PyData
/-! ### representation -/
mutual
def Rep (K : PySem.W.Frag) (F : Hp) : D → V → Prop
  | .none, v => v = .non
  | .bool b, v => v = .bl b
  | .int i, v => v = .int i
  | .str x, v => v = .str x ∧ x.length ≤ sizeLine ∧ PyData.strOk x = true
  | .list xs, v => ∃ a vs, v = .ref a ∧ F a = some (.lst vs) ∧ vs.length ≤ sizeLine ∧ Reps K F xs vs
  | .tuple xs, v => ∃ a vs, v = .ref a ∧ SqT K F a vs ∧ vs.length ≤ sizeLine ∧ Reps K F xs vs
  | .dict _, _ => False
def Reps (K : PySem.W.Frag) (F : Hp) : List D → List V → Prop
  | [], vs => vs = []
  | d :: ds, vs => ∃ v r, vs = v :: r ∧ Rep K F d v ∧ Reps K F ds r
end
section
variable {K : PySem.W.Frag} {F F' H H' : Hp}
theorem Same.sqT {a : Addr} {xs : List V} (e : Same H H') (h : SqT K H a xs) : SqT K H' a xs := by
  rcases h with (h | ⟨o, h⟩) | h
  · exact .inl (.inl (e _ _ h))
  · exact .inl (.inr ⟨o, e _ _ h⟩)
  · exact .inr h
mutual
theorem Rep.mono (s : Same F F') : ∀ {d : D} {v : V}, Rep K F d v → Rep K F' d v
  | .none, _, h => h
  | .bool _, _, h => h
  | .int _, _, h => h
  | .str _, _, h => h
  | .list xs, v, h => by
    rw [Rep] at h ⊢
    obtain ⟨a, vs, e, q, l, r⟩ := h
    exact ⟨a, vs, e, s _ _ q, l, Reps.mono s r⟩
  | .tuple xs, v, h => by
    rw [Rep] at h ⊢
    obtain ⟨a, vs, e, q, l, r⟩ := h
    exact ⟨a, vs, e, Same.sqT s q, l, Reps.mono s r⟩
  | .dict _, _, h => by rw [Rep] at h; exact h.elim
theorem Reps.mono (s : Same F F') : ∀ {ds : List D} {vs : List V}, Reps K F ds vs → Reps K F' ds vs
  | [], _, h => h
  | d :: ds, vs, h => by
    rw [Reps] at h ⊢
    obtain ⟨v, r, e, h1, h2⟩ := h
    exact ⟨v, r, e, Rep.mono s h1, Reps.mono s h2⟩
end
theorem reps_nil : Reps K F [] [] := by rw [Reps]
theorem reps_cons {d : D} {v : V} {ds : List D} {vs : List V} (h : Rep K F d v) (t : Reps K F ds vs) : Reps K F (d :: ds) (v :: vs) := by
  rw [Reps]
  exact ⟨v, vs, rfl, h, t⟩
theorem reps_cons_inv {d : D} {ds : List D} {vs : List V} (h : Reps K F (d :: ds) vs) : ∃ v r, vs = v :: r ∧ Rep K F d v ∧ Reps K F ds r := by
  rw [Reps] at h
  exact h
theorem Reps.len : ∀ {ds : List D} {vs : List V}, Reps K F ds vs → vs.length = ds.length
  | [], vs, h => by rw [Reps] at h; rw [h]; rfl
  | d :: ds, vs, h => by
    obtain ⟨v, r, rfl, _, h2⟩ := reps_cons_inv h
    rw [List.length_cons, List.length_cons, Reps.len h2]
theorem Reps.get : ∀ {ds : List D} {vs : List V} {i : Nat} {d : D}, Reps K F ds vs → ds[i]? = some d → ∃ v, vs[i]? = some v ∧ Rep K F d v
  | [], _, _, _, _, e => by simp at e
  | d :: ds, vs, i, x, h, e => by
    obtain ⟨v, r, rfl, h1, h2⟩ := reps_cons_inv h
    cases i with
    | zero =>
      simp at e
      subst e
      exact ⟨v, rfl, h1⟩
    | succ j =>
      simp at e
      obtain ⟨w, e2, q⟩ := Reps.get h2 e
      exact ⟨w, by simpa using e2, q⟩
theorem Reps.append : ∀ {ds es : List D} {vs us : List V}, Reps K F ds vs → Reps K F es us → Reps K F (ds ++ es) (vs ++ us)
  | [], es, vs, us, h, t => by
    rw [Reps] at h
    subst h
    exact t
  | d :: ds, es, vs, us, h, t => by
    obtain ⟨v, r, rfl, h1, h2⟩ := reps_cons_inv h
    exact reps_cons h1 (Reps.append h2 t)
theorem Reps.drop : ∀ {ds : List D} {vs : List V} (n : Nat), Reps K F ds vs → Reps K F (ds.drop n) (vs.drop n)
  | ds, vs, 0, h => by simpa using h
  | [], vs, n + 1, h => by
    rw [Reps] at h
    subst h
    exact reps_nil
  | d :: ds, vs, n + 1, h => by
    obtain ⟨v, r, rfl, h1, h2⟩ := reps_cons_inv h
    exact Reps.drop n h2
theorem Reps.take : ∀ {ds : List D} {vs : List V} (n : Nat), Reps K F ds vs → Reps K F (ds.take n) (vs.take n)
  | ds, vs, 0, h => by simpa using reps_nil
  | [], vs, n + 1, h => by
    rw [Reps] at h
    subst h
    exact reps_nil
  | d :: ds, vs, n + 1, h => by
    obtain ⟨v, r, rfl, h1, h2⟩ := reps_cons_inv h
    exact reps_cons h1 (Reps.take n h2)
theorem Reps.set {d : D} {v : V} (q : Rep K F d v) : ∀ {ds : List D} {vs : List V} (i : Nat), Reps K F ds vs → Reps K F (ds.set i d) (vs.set i v)
  | [], vs, i, h => by
    rw [Reps] at h
    subst h
    exact reps_nil
  | x :: ds, vs, 0, h => by
    obtain ⟨w, r, rfl, h1, h2⟩ := reps_cons_inv h
    exact reps_cons q h2
  | x :: ds, vs, i + 1, h => by
    obtain ⟨w, r, rfl, h1, h2⟩ := reps_cons_inv h
    exact reps_cons h1 (Reps.set q i h2)
theorem Reps.reverse : ∀ {ds : List D} {vs : List V}, Reps K F ds vs → Reps K F ds.reverse vs.reverse
  | [], vs, h => by
    rw [Reps] at h
    subst h
    exact reps_nil
  | x :: ds, vs, h => by
    obtain ⟨w, r, rfl, h1, h2⟩ := reps_cons_inv h
    rw [List.reverse_cons, List.reverse_cons]
    exact (Reps.reverse h2).append (reps_cons h1 reps_nil)
theorem Reps.dropLast {ds : List D} {vs : List V} (h : Reps K F ds vs) : Reps K F ds.dropLast vs.dropLast := by
  rw [List.dropLast_eq_take, List.dropLast_eq_take, h.len]
  exact h.take _
theorem Reps.replicate {ds : List D} {vs : List V} (h : Reps K F ds vs) : ∀ n : Nat, Reps K F (List.replicate n ds).flatten (List.replicate n vs).flatten
  | 0 => reps_nil
  | n + 1 => by
    rw [List.replicate_succ, List.replicate_succ, List.flatten_cons, List.flatten_cons]
    exact h.append (Reps.replicate h n)
/-- a list read at H whose items lie in F -/
def RepC (K : PySem.W.Frag) (F H : Hp) : D → V → Prop
  | .list xs, v => ∃ a vs, v = .ref a ∧ H a = some (.lst vs) ∧ vs.length ≤ sizeLine ∧ Reps K F xs vs
  | d, v => Rep K F d v
theorem Rep.c (s : Same F H) : ∀ {d : D} {v : V}, Rep K F d v → RepC K F H d v
  | .none, _, h => h
  | .bool _, _, h => h
  | .int _, _, h => h
  | .str _, _, h => h
  | .list xs, v, h => by
    rw [Rep] at h
    obtain ⟨a, vs, e, q, l, r⟩ := h
    exact ⟨a, vs, e, s _ _ q, l, r⟩
  | .tuple xs, v, h => h
  | .dict _, _, h => h
theorem RepC.rep (s : Same F H) : ∀ {d : D} {v : V}, RepC K F H d v → Rep K H d v
  | .none, _, h => Rep.mono s h
  | .bool _, _, h => Rep.mono s h
  | .int _, _, h => Rep.mono s h
  | .str _, _, h => Rep.mono s h
  | .list xs, v, h => by
    rw [Rep]
    obtain ⟨a, vs, e, q, l, r⟩ := h
    exact ⟨a, vs, e, q, l, Reps.mono s r⟩
  | .tuple xs, v, h => Rep.mono s h
  | .dict _, _, h => Rep.mono s h
mutual
theorem Rep.dp : ∀ {d : D} {v : V}, Rep K F d v → Dp K F v d
  | .none, _, h => by rw [Rep] at h; subst h; exact .non
  | .bool _, _, h => by rw [Rep] at h; subst h; exact .bl _
  | .int _, _, h => by rw [Rep] at h; subst h; exact .int _
  | .str _, _, h => by rw [Rep] at h; obtain ⟨rfl, _, _⟩ := h; exact .str _
  | .list xs, v, h => by
    rw [Rep] at h
    obtain ⟨a, vs, rfl, q, l, r⟩ := h
    exact .lst (SqL.of q) (Reps.dp r)
  | .tuple xs, v, h => by
    rw [Rep] at h
    obtain ⟨a, vs, rfl, q, l, r⟩ := h
    exact .tup q (Reps.dp r)
  | .dict _, _, h => by rw [Rep] at h; exact h.elim
theorem Reps.dp : ∀ {ds : List D} {vs : List V}, Reps K F ds vs → DpAll K F vs ds
  | [], vs, h => by rw [Reps] at h; subst h; exact .nil
  | d :: ds, vs, h => by
    obtain ⟨v, r, rfl, h1, h2⟩ := reps_cons_inv h
    exact .cons (Rep.dp h1) (Reps.dp h2)
end
mutual
theorem Rep.can : ∀ {d : D} {v : V}, Rep K F d v → d.canLay0 = true
  | .none, _, h => by rw [PyData.canLay0]
  | .bool _, _, h => by rw [PyData.canLay0]
  | .int _, _, h => by rw [PyData.canLay0]
  | .str x, _, h => by
    rw [Rep] at h
    rw [PyData.canLay0]
    exact h.2.2
  | .list xs, v, h => by
    rw [Rep] at h
    obtain ⟨a, vs, rfl, q, l, r⟩ := h
    rw [PyData.canLay0]
    exact Reps.can r
  | .tuple xs, v, h => by
    rw [Rep] at h
    obtain ⟨a, vs, rfl, q, l, r⟩ := h
    rw [PyData.canLay0]
    exact Reps.can r
  | .dict _, _, h => by rw [Rep] at h; exact h.elim
theorem Reps.can : ∀ {ds : List D} {vs : List V}, Reps K F ds vs → PyData.canLayAll0 ds = true
  | [], vs, h => by rw [PyData.canLayAll0]
  | d :: ds, vs, h => by
    obtain ⟨v, r, rfl, h1, h2⟩ := reps_cons_inv h
    rw [PyData.canLayAll0, Rep.can h1, Reps.can h2]
    rfl
end
end
end PL
end
section
set_option Elab.async false
set_option linter.all false
set_option maxRecDepth 100000
set_option maxHeartbeats 2000000
set_option autoImplicit false
/-! Environments, results, what is wanted behind a piece of code. -/
namespace PL
open PySem PySem.Spec PyProof.Rows L2

structure GG where
  P : Program
  w : World
  K : PySem.W.Frag
  mg : Str → Option Value
  base : Heap
  tb : List Addr
  cls : Str → Addr
  hx : Option (Addr × Str)
abbrev GG.at_ (G : GG) (h : Option (Addr × Str)) : GG := { G with hx := h }

inductive P1 where
  | fz (d : D) | fl (xs : List D)
/-- what a def hands back: frozen data, a new list of its own, a new tuple of such -/
inductive O where
  | fz (d : D) | fl (xs : List D) | tp (ps : List P1)
/-- a slot: nothing, frozen data, a list of one's own, a list that a caller has handed in to be changed, an error that is handled -/
inductive Sl where
  | un | fz (d : D) | fl (xs : List D) | io (j : Nat) (xs : List D) | er (c : Str) | sc (ns : List Int)
abbrev Env := List Sl
def Sl.own : Sl → Bool
  | .fl _ => true
  | .io _ _ => true
  | _ => false
/-- a value in the hand, or the list that a name holds -/
inductive W where
  | o (x : O) | own (i : Nat)
abbrev W.val (d : D) : W := .o (.fz d)
def P1.dat : P1 → D
  | .fz d => d
  | .fl xs => .list xs
def O.dat : O → D
  | .fz d => d
  | .fl xs => .list xs
  | .tp ps => .tuple (ps.map P1.dat)
def Sl.dat : Sl → Option D
  | .fz d => some d
  | .fl xs => some (.list xs)
  | .io _ xs => some (.list xs)
  | _ => none
def W.dat (ρ : Env) : W → Option D
  | .o x => some x.dat
  | .own i => (ρ[i]?).bind Sl.dat

/-- the frame of a def: the lists handed in, the heap at its entry -/
structure Fm where
  ios : List Addr
  H0 : Hp

structure HpOk (G : GG) (F H : Hp) : Prop where
  sub : Same F H
  nt : ∀ a ps, F a ≠ some (.tbl ps)
  tab : ∀ P ∈ G.tb, GxR.TabG H P

def SlOk (G : GG) (T : Fm) (F H : Hp) (ov : Option V) : Sl → Prop
  | .un => True
  | .fz d => ∃ v, ov = some v ∧ Rep G.K F d v
  | .fl xs => ∃ a vs, ov = some (.ref a) ∧ H a = some (.lst vs) ∧ F a = none ∧ T.H0 a = none ∧ vs.length ≤ sizeLine ∧ Reps G.K F xs vs
  | .io j xs => ∃ a vs, ov = some (.ref a) ∧ H a = some (.lst vs) ∧ F a = none ∧ T.ios[j]? = some a ∧ vs.length ≤ sizeLine ∧ Reps G.K F xs vs
  | .er c => ∃ a, ov = some (.ref a) ∧ G.hx = some (a, c)
  | .sc ns => ∃ a, ov = some (.ref a) ∧ SqL G.K F a (ns.map V.int) ∧ ns.length ≤ 63

def Owns (σ : L2.St) (ρ : Env) (a : Addr) : Prop := ∃ (i : Nat) (s : Sl), ρ[i]? = some s ∧ s.own = true ∧ σ[i]? = some (some (V.ref a))

structure EnvOk (G : GG) (T : Fm) (F H : Hp) (σ : L2.St) (ρ : Env) : Prop where
  hp : HpOk G F H
  live0 : ∀ a, T.H0 a ≠ none → H a ≠ none
  len : σ.length = ρ.length
  at_ : ∀ (i : Nat) (s : Sl), ρ[i]? = some s → SlOk G T F H (σ[i]?).join s
  sep : ∀ (i j : Nat) (a : Addr) (s t : Sl), ρ[i]? = some s → s.own = true → ρ[j]? = some t → t.own = true → σ[i]? = some (some (V.ref a)) → σ[j]? = some (some (V.ref a)) → i = j

structure Ext (A : Addr → Prop) (F H F' H' : Hp) : Prop where
  fle : Same F F'
  keep : ∀ a o, H a = some o → ¬ A a → (∀ ps, o ≠ .tbl ps) → H' a = some o
  fnew : ∀ a, H a ≠ none → ¬ A a → F' a = F a
  live : ∀ a, H a ≠ none → H' a ≠ none

theorem Ext.refl {A : Addr → Prop} {F H : Hp} : Ext A F H F H := ⟨fun _ _ e => e, fun _ _ e _ _ => e, fun _ _ _ => rfl, fun _ h => h⟩
theorem Ext.trans {A A1 : Addr → Prop} {F H F1 H1 F2 H2 : Hp} (x : Ext A F H F1 H1) (y : Ext A1 F1 H1 F2 H2) (h : ∀ a, A1 a → A a ∨ H a = none) : Ext A F H F2 H2 := by
  have na : ∀ a, H a ≠ none → ¬ A a → ¬ A1 a := fun a h1 h2 h3 => by
    rcases h a h3 with z | z
    · exact h2 z
    · exact h1 z
  refine ⟨x.fle.trans y.fle, fun a o e n t => ?_, fun a e n => ?_, fun a e => y.live a (x.live a e)⟩
  · exact y.keep a o (x.keep a o e n t) (na a (by rw [e]; simp) n) t
  · rw [y.fnew a (x.live a e) (na a e n), x.fnew a e n]
theorem Ext.weaken {A A1 : Addr → Prop} {F H F' H' : Hp} (x : Ext A F H F' H') (h : ∀ a, A a → A1 a) : Ext A1 F H F' H' :=
  ⟨x.fle, fun a o e n t => x.keep a o e (fun z => n (h a z)) t, fun a e n => x.fnew a e (fun z => n (h a z)), x.live⟩
/-- a frozen part is kept -/
theorem Ext.same {A : Addr → Prop} {F H F' H' : Hp} (x : Ext A F H F' H') : Same F F' := x.fle

def RepP (K : PySem.W.Frag) (F H : Hp) (v : V) : P1 → List Addr → Prop
  | .fz d, A => A = [] ∧ Rep K F d v
  | .fl xs, A => ∃ a vs, v = .ref a ∧ A = [a] ∧ H a = some (.lst vs) ∧ F a = none ∧ vs.length ≤ sizeLine ∧ Reps K F xs vs
def RepPs (K : PySem.W.Frag) (F H : Hp) : List P1 → List V → List Addr → Prop
  | [], vs, A => vs = [] ∧ A = []
  | p :: ps, vs, A => ∃ v r A1 A2, vs = v :: r ∧ A = A1 ++ A2 ∧ RepP K F H v p A1 ∧ RepPs K F H ps r A2
def RepO (K : PySem.W.Frag) (F H : Hp) (v : V) : O → List Addr → Prop
  | .fz d, A => A = [] ∧ Rep K F d v
  | .fl xs, A => ∃ a vs, v = .ref a ∧ A = [a] ∧ H a = some (.lst vs) ∧ F a = none ∧ vs.length ≤ sizeLine ∧ Reps K F xs vs
  | .tp ps, A => ∃ t vs, v = .ref t ∧ SqT K F t vs ∧ vs.length ≤ sizeLine ∧ RepPs K F H ps vs A

/-- a value in the hand; Hs: the heap at the start of the expression -/
def RepW (K : PySem.W.Frag) (Hs F H : Hp) (σ : L2.St) (ρ : Env) (v : V) : W → Prop
  | .o x => ∃ A, RepO K F H v x A ∧ A.Nodup ∧ ∀ a ∈ A, Hs a = none ∧ ¬ Owns σ ρ a
  | .own i => σ[i]? = some (some v) ∧ ∃ s, ρ[i]? = some s ∧ s.own = true

inductive R (α : Type) where
  | ok (x : α) (ρ : Env) | exc (c : Str) (ρ : Env) | bad
def R.bind {α β : Type} (r : R α) (k : α → Env → R β) : R β := match r with
  | .ok x ρ => k x ρ
  | .exc c ρ => .exc c ρ
  | .bad => .bad
@[simp] theorem R.bind_ok {α β : Type} (x : α) (ρ : Env) (k : α → Env → R β) : (R.ok x ρ).bind k = k x ρ := rfl
@[simp] theorem R.bind_exc {α β : Type} (c : Str) (ρ : Env) (k : α → Env → R β) : (R.exc c ρ : R α).bind k = .exc c ρ := rfl
@[simp] theorem R.bind_bad {α β : Type} (k : α → Env → R β) : (R.bad : R α).bind k = .bad := rfl

def RPost {α : Type} (G : GG) (T : Fm) (Wx : WX) (F H : Hp) (σ : L2.St) (ρ : Env) (Ok : α → Env → Hp → Hp → Prop) : R α → Prop
  | .ok x ρ' => ∀ F' H', Ext (Owns σ ρ) F H F' H' → EnvOk G T F' H' σ ρ' → (∀ a, Owns σ ρ' a → Owns σ ρ a) → Ok x ρ' F' H'
  | .exc c ρ' => ∀ F' H', Ext (Owns σ ρ) F H F' H' → EnvOk G T F' H' σ ρ' → (∀ a, Owns σ ρ' a → Owns σ ρ a) → Wx (.ref (G.cls c)) none σ H'
  | .bad => False

section
variable {α β : Type} {G : GG} {T : Fm} {Wx : WX} {F H F1 H1 : Hp} {σ : L2.St} {ρ ρ1 : Env}
theorem RPost.bind {Ok : β → Env → Hp → Hp → Prop} {r : R α} {k : α → Env → R β} (h : RPost G T Wx F H σ ρ Ok (r.bind k)) :
    RPost G T Wx F H σ ρ (fun x ρ1 F1 H1 => RPost G T Wx F1 H1 σ ρ1 Ok (k x ρ1)) r := by
  cases r with
  | bad => exact h
  | exc c ρ' => exact h
  | ok x ρ1 =>
    intro F1 H1 e1 ok1 l1
    have h : RPost G T Wx F H σ ρ Ok (k x ρ1) := h
    cases hk : k x ρ1 with
    | bad => rw [hk] at h; exact h
    | exc c ρ2 =>
      rw [hk] at h
      exact fun F2 H2 e2 ok2 l2 => h F2 H2 (e1.trans e2 fun a z => .inl (l1 a z)) ok2 fun a z => l1 a (l2 a z)
    | ok y ρ2 =>
      rw [hk] at h
      exact fun F2 H2 e2 ok2 l2 => h F2 H2 (e1.trans e2 fun a z => .inl (l1 a z)) ok2 fun a z => l1 a (l2 a z)
theorem RPost.imp {Ok Ok' : α → Env → Hp → Hp → Prop} {r : R α} (h : RPost G T Wx F H σ ρ Ok r)
    (i : ∀ x ρ' F' H', Ext (Owns σ ρ) F H F' H' → EnvOk G T F' H' σ ρ' → (∀ a, Owns σ ρ' a → Owns σ ρ a) → Ok x ρ' F' H' → Ok' x ρ' F' H') : RPost G T Wx F H σ ρ Ok' r := by
  cases r with
  | bad => exact h
  | exc c ρ' => exact h
  | ok x ρ' => exact fun F' H' e ok l => i x ρ' F' H' e ok l (h F' H' e ok l)
end

/-- what an expression is to bring -/
def EPost (G : GG) (T : Fm) (Wx : WX) (F H : Hp) (σ : L2.St) (ρ : Env) (Q : VK) : R W → Prop :=
  RPost G T Wx F H σ ρ fun w ρ' F' H' => ∀ v, RepW G.K H F' H' σ ρ' v w → Q v H'
/-- the reading of an expression that is worth f -/
def tE (G : GG) (Wx : WX) (f : Env → R W) : TE := fun σ H Q => ∃ T F ρ, EnvOk G T F H σ ρ ∧ EPost G T Wx F H σ ρ Q (f ρ)
def tT (G : GG) (Wx : WX) (f : Env → R Bool) : TT := fun σ H Q => ∃ T F ρ, EnvOk G T F H σ ρ ∧ RPost G T Wx F H σ ρ (fun b _ _ H' => Q b H') (f ρ)

theorem PE.to {X : Cx} {e : Expr} {t t' : TE} (h : PE X e t) (i : ∀ σ H Q, t' σ H Q → t σ H Q) : PE X e t' := ⟨fun pins s σ H Q I q => h.run pins s σ H Q I (i σ H Q q)⟩
theorem PT.to {X : Cx} {e : Expr} {t t' : TT} (h : PT X e t) (i : ∀ σ H Q, t' σ H Q → t σ H Q) : PT X e t' := ⟨fun pins s σ H Q I q => h.run pins s σ H Q I (i σ H Q q)⟩
theorem PS.to {X : Cx} {st : Stmt} {t t' : TS} (h : PS X st t) (i : ∀ D σ H, t' D σ H → t D σ H) : PS X st t' := ⟨fun pins s σ H D I q => h.run pins s σ H D I (i D σ H q)⟩
theorem PSs.to {X : Cx} {st : List Stmt} {t t' : TS} (h : PSs X st t) (i : ∀ D σ H, t' D σ H → t D σ H) : PSs X st t' := ⟨fun pins s σ H D I q => h.run pins s σ H D I (i D σ H q)⟩

/-! ### pure growth: something new is laid -/
structure New (F H F' H' : Hp) : Prop where
  fle : Same F F'
  hle : Same H H'
  fnew : ∀ a, H a ≠ none → F' a = F a
theorem New.refl {F H : Hp} : New F H F H := ⟨fun _ _ e => e, fun _ _ e => e, fun _ _ => rfl⟩
theorem New.live {F H F' H' : Hp} (n : New F H F' H') : ∀ a, H a ≠ none → H' a ≠ none := fun a h => by
  cases e : H a with
  | none => exact absurd e h
  | some o => rw [n.hle a o e]; simp
theorem New.ext {A : Addr → Prop} {F H F' H' : Hp} (n : New F H F' H') : Ext A F H F' H' := ⟨n.fle, fun a o e _ _ => n.hle a o e, fun a e _ => n.fnew a e, n.live⟩
theorem New.trans {F H F1 H1 F2 H2 : Hp} (a : New F H F1 H1) (b : New F1 H1 F2 H2) : New F H F2 H2 :=
  ⟨a.fle.trans b.fle, a.hle.trans b.hle, fun x h => by rw [b.fnew x (a.live x h), a.fnew x h]⟩
/-- a frozen object is laid -/
theorem New.frozen {G : GG} {F H : Hp} {p : Addr} {o : HO} (ok : HpOk G F H) (hp : H p = none) : New F H (upd F p o) (upd H p o) := by
  have hf : F p = none := ok.sub.free hp
  refine ⟨fun b u e => ?_, fun b u e => ?_, fun a h => ?_⟩
  · rw [upd_ne (ne_of_none e hf)]; exact e
  · rw [upd_ne (ne_of_none e hp)]; exact e
  · have : a ≠ p := fun z => h (by rw [z]; exact hp)
    rw [upd_ne this]
/-- an object of one's own is laid -/
theorem New.own {F H : Hp} {p : Addr} {o : HO} (hp : H p = none) : New F H F (upd H p o) :=
  ⟨fun _ _ e => e, fun b u e => by rw [upd_ne (ne_of_none e hp)]; exact e, fun _ _ => rfl⟩
theorem HpOk.frozen {G : GG} {F H : Hp} {p : Addr} {o : HO} (ok : HpOk G F H) (hp : H p = none) (ho : ∀ ps, o ≠ .tbl ps) : HpOk G (upd F p o) (upd H p o) := by
  refine ⟨fun b u e => ?_, fun a ps e => ?_, fun P hP => ?_⟩
  · by_cases z : b = p
    · subst z; rw [upd_same] at e ⊢; exact e
    · rw [upd_ne z] at e ⊢; exact ok.sub b u e
  · by_cases z : a = p
    · subst z; rw [upd_same] at e; exact ho ps (Option.some.inj e)
    · rw [upd_ne z] at e; exact ok.nt a ps e
  · obtain ⟨ps, e, t⟩ := ok.tab P hP
    exact ⟨ps, by rw [upd_ne (ne_of_none e hp)]; exact e, t⟩
theorem HpOk.own {G : GG} {F H : Hp} {p : Addr} {o : HO} (ok : HpOk G F H) (hp : H p = none) : HpOk G F (upd H p o) := by
  refine ⟨fun b u e => ?_, ok.nt, fun P hP => ?_⟩
  · rw [upd_ne (ne_of_none (ok.sub b u e) hp)]; exact ok.sub b u e
  · obtain ⟨ps, e, t⟩ := ok.tab P hP
    exact ⟨ps, by rw [upd_ne (ne_of_none e hp)]; exact e, t⟩
section
variable {G : GG} {T : Fm} {F H F' H' : Hp} {σ : L2.St} {ρ : Env}
theorem SlOk.new {ov : Option V} {s : Sl} (h : SlOk G T F H ov s) (n : New F H F' H') : SlOk G T F' H' ov s := by
  cases s with
  | un => trivial
  | er c => exact h
  | sc ns =>
    obtain ⟨a, e, q, l⟩ := h
    exact ⟨a, e, n.fle.seq q, l⟩
  | fz d =>
    obtain ⟨v, e, r⟩ := h
    exact ⟨v, e, r.mono n.fle⟩
  | fl xs =>
    obtain ⟨a, vs, e, h1, h2, h0, l, r⟩ := h
    exact ⟨a, vs, e, n.hle _ _ h1, by rw [n.fnew a (by rw [h1]; simp)]; exact h2, h0, l, r.mono n.fle⟩
  | io j xs =>
    obtain ⟨a, vs, e, h1, h2, h0, l, r⟩ := h
    exact ⟨a, vs, e, n.hle _ _ h1, by rw [n.fnew a (by rw [h1]; simp)]; exact h2, h0, l, r.mono n.fle⟩
theorem EnvOk.new (ok : EnvOk G T F H σ ρ) (n : New F H F' H') (hp : HpOk G F' H') : EnvOk G T F' H' σ ρ :=
  ⟨hp, fun a z => n.live a (ok.live0 a z), ok.len, fun i s e => (ok.at_ i s e).new n, ok.sep⟩
/-- what a name holds, as it may be read -/
theorem EnvOk.read (ok : EnvOk G T F H σ ρ) {i : Nat} {v : V} {d : D} (hv : σ[i]? = some (some v)) (hd : (ρ[i]?).bind Sl.dat = some d) : RepC G.K F H d v := by
  cases e : ρ[i]? with
  | none => rw [e] at hd; cases hd
  | some s =>
    rw [e] at hd
    have hd : s.dat = some d := hd
    have z := ok.at_ i s e
    rw [hv] at z
    cases s with
    | un => cases hd
    | er c => cases hd
    | sc ns => cases hd
    | fz d' =>
      cases hd
      obtain ⟨v', e', r⟩ := z
      cases e'
      exact r.c ok.hp.sub
    | fl xs =>
      cases hd
      obtain ⟨a, vs, e', h1, _, _, l, r⟩ := z
      cases e'
      exact ⟨a, vs, rfl, h1, l, r⟩
    | io j xs =>
      cases hd
      obtain ⟨a, vs, e', h1, _, _, l, r⟩ := z
      cases e'
      exact ⟨a, vs, rfl, h1, l, r⟩
end

/-! ### a value is settled: what is new in the hand is frozen -/
def O.nrm (x : O) : O := .fz x.dat
def W.nrm : W → W
  | .o x => .o x.nrm
  | w => w
/-- a settled value -/
def RepN (K : PySem.W.Frag) (F : Hp) (σ : L2.St) (v : V) : W → Prop
  | .o (.fz d) => Rep K F d v
  | .o _ => False
  | .own i => σ[i]? = some (some v)
theorem RepN.mono {K : PySem.W.Frag} {F F' : Hp} {σ : L2.St} {v : V} {w : W} (h : RepN K F σ v w) (s : Same F F') : RepN K F' σ v w := by
  cases w with
  | own i => exact h
  | o x =>
    cases x with
    | fz d => exact Rep.mono s h
    | fl xs => exact h
    | tp ps => exact h
/-- the value of a settled thing, read now -/
theorem RepN.read {G : GG} {T : Fm} {F H : Hp} {σ : L2.St} {ρ : Env} {v : V} {w : W} {d : D} (ok : EnvOk G T F H σ ρ) (h : RepN G.K F σ v w) (hd : w.dat ρ = some d) : RepC G.K F H d v := by
  cases w with
  | own i => exact ok.read h hd
  | o x =>
    cases x with
    | fz d' =>
      cases hd
      exact Rep.c ok.hp.sub h
    | fl xs => exact h.elim
    | tp ps => exact h.elim

section
variable {G : GG} {T : Fm} {F H : Hp} {σ : L2.St} {ρ : Env}
/-- the addresses As of lists in the hand are frozen -/
def frzAll (H F : Hp) (As : List Addr) : Hp := fun b => if b ∈ As then H b else F b
theorem frz_same {As : List Addr} (hA : ∀ a ∈ As, F a = none) : Same F (frzAll H F As) := fun b o e => by
  unfold frzAll
  rw [if_neg (fun hb => by rw [hA b hb] at e; cases e)]
  exact e
theorem frz_hp {As : List Addr} (ok : HpOk G F H) (hA : ∀ a ∈ As, ∃ vs, H a = some (.lst vs)) : HpOk G (frzAll H F As) H := by
  refine ⟨fun b o e => ?_, fun a ps e => ?_, ok.tab⟩
  · unfold frzAll at e
    split at e
    · exact e
    · exact ok.sub b o e
  · unfold frzAll at e
    split at e
    · rename_i hb
      obtain ⟨vs, z⟩ := hA a hb
      rw [z] at e; cases e
    · exact ok.nt a ps e
theorem frz_at {As : List Addr} {a : Addr} (h : a ∈ As) : frzAll H F As a = H a := if_pos h
theorem frz_ne {As : List Addr} {a : Addr} (h : a ∉ As) : frzAll H F As a = F a := if_neg h
theorem SlOk.frz {ov : Option V} {s : Sl} {As : List Addr} (h : SlOk G T F H ov s) (hA : ∀ a ∈ As, F a = none) (hn : s.own = true → ∀ a, ov = some (.ref a) → a ∉ As) : SlOk G T (frzAll H F As) H ov s := by
  have sm := frz_same (H := H) hA
  cases s with
  | un => trivial
  | er c => exact h
  | sc ns =>
    obtain ⟨a, e, q, l⟩ := h
    exact ⟨a, e, sm.seq q, l⟩
  | fz d =>
    obtain ⟨v, e, r⟩ := h
    exact ⟨v, e, r.mono sm⟩
  | fl xs =>
    obtain ⟨a, vs, e, h1, h2, h0, l, r⟩ := h
    exact ⟨a, vs, e, h1, by rw [frz_ne (hn rfl a e)]; exact h2, h0, l, r.mono sm⟩
  | io j xs =>
    obtain ⟨a, vs, e, h1, h2, h0, l, r⟩ := h
    exact ⟨a, vs, e, h1, by rw [frz_ne (hn rfl a e)]; exact h2, h0, l, r.mono sm⟩
theorem join_ref {i : Nat} {a : Addr} (h : (σ[i]?).join = some (V.ref a)) : σ[i]? = some (some (V.ref a)) := by
  cases e : σ[i]? with
  | none => rw [e] at h; cases h
  | some o =>
    rw [e] at h
    have h : o = some (.ref a) := h
    rw [h]
theorem EnvOk.frz {As : List Addr} (ok : EnvOk G T F H σ ρ) (hA : ∀ a ∈ As, F a = none ∧ (∃ vs, H a = some (.lst vs)) ∧ ¬ Owns σ ρ a) : EnvOk G T (frzAll H F As) H σ ρ :=
  ⟨frz_hp ok.hp fun a h => (hA a h).2.1, ok.live0, ok.len, fun i s e => (ok.at_ i s e).frz (fun a h => (hA a h).1) fun ho a ea hm => (hA a hm).2.2 ⟨i, s, e, ho, join_ref ea⟩, ok.sep⟩
theorem Ext.frz {A : Addr → Prop} {F' H' : Hp} {As : List Addr} (x : Ext A F H F' H') (hA : ∀ a ∈ As, F' a = none) (hs : ∀ a ∈ As, H a = none) : Ext A F H (frzAll H' F' As) H' :=
  ⟨x.fle.trans (frz_same hA), x.keep, fun a e n => by rw [frz_ne (fun hm => e (hs a hm))]; exact x.fnew a e n, x.live⟩
theorem repP_facts {K : PySem.W.Frag} {v : V} {p : P1} {A : List Addr} (h : RepP K F H v p A) : ∀ a ∈ A, F a = none ∧ ∃ vs, H a = some (.lst vs) := by
  cases p with
  | fz d => obtain ⟨rfl, _⟩ := h; simp
  | fl xs =>
    obtain ⟨a, vs, rfl, rfl, h1, h2, _⟩ := h
    intro b hb
    have : b = a := by simpa using hb
    subst this
    exact ⟨h2, vs, h1⟩
theorem repPs_facts {K : PySem.W.Frag} : ∀ {ps : List P1} {vs : List V} {A : List Addr}, RepPs K F H ps vs A → ∀ a ∈ A, F a = none ∧ ∃ vs, H a = some (.lst vs)
  | [], _, _, h => by obtain ⟨_, rfl⟩ := h; simp
  | p :: ps, _, _, h => by
    obtain ⟨v, r, A1, A2, rfl, rfl, h1, h2⟩ := h
    intro a ha
    rcases List.mem_append.mp ha with z | z
    · exact repP_facts h1 a z
    · exact repPs_facts h2 a z
theorem repO_facts {K : PySem.W.Frag} {v : V} {x : O} {A : List Addr} (h : RepO K F H v x A) : ∀ a ∈ A, F a = none ∧ ∃ vs, H a = some (.lst vs) := by
  cases x with
  | fz d => obtain ⟨rfl, _⟩ := h; simp
  | fl xs => exact repP_facts (p := .fl xs) h
  | tp ps =>
    obtain ⟨t, vs, rfl, _, _, h⟩ := h
    exact repPs_facts h
theorem repP_frz {K : PySem.W.Frag} {v : V} {p : P1} {A As : List Addr} (h : RepP K F H v p A) (hA : ∀ a ∈ As, F a = none) (hs : ∀ a ∈ A, a ∈ As) : Rep K (frzAll H F As) p.dat v := by
  have sm := frz_same (H := H) hA
  cases p with
  | fz d => exact Rep.mono sm h.2
  | fl xs =>
    obtain ⟨a, vs, rfl, rfl, h1, h2, l, r⟩ := h
    show Rep K _ (.list xs) _
    rw [Rep]
    exact ⟨a, vs, rfl, by rw [frz_at (hs a (by simp))]; exact h1, l, r.mono sm⟩
theorem repPs_frz {K : PySem.W.Frag} {As : List Addr} (hA : ∀ a ∈ As, F a = none) : ∀ {ps : List P1} {vs : List V} {A : List Addr}, RepPs K F H ps vs A → (∀ a ∈ A, a ∈ As) → Reps K (frzAll H F As) (ps.map P1.dat) vs
  | [], _, _, h, _ => by obtain ⟨rfl, _⟩ := h; exact reps_nil
  | p :: ps, _, _, h, hs => by
    obtain ⟨v, r, A1, A2, rfl, rfl, h1, h2⟩ := h
    exact reps_cons (repP_frz h1 hA fun a ha => hs a (List.mem_append_left _ ha)) (repPs_frz hA h2 fun a ha => hs a (List.mem_append_right _ ha))
theorem repO_frz {K : PySem.W.Frag} {v : V} {x : O} {A : List Addr} (h : RepO K F H v x A) : Rep K (frzAll H F A) x.dat v := by
  have hA : ∀ a ∈ A, F a = none := fun a ha => (repO_facts h a ha).1
  have sm := frz_same (H := H) hA
  cases x with
  | fz d => exact Rep.mono sm h.2
  | fl xs => exact repP_frz (p := .fl xs) h hA fun _ h => h
  | tp ps =>
    obtain ⟨t, vs, rfl, h1, l, h⟩ := h
    show Rep K _ (.tuple _) _
    rw [Rep]
    exact ⟨t, vs, rfl, Same.sqT sm h1, l, repPs_frz hA h fun _ h => h⟩
end

/-- the settled reading -/
def eNrm (f : Env → R W) : Env → R W := fun ρ => (f ρ).bind fun w ρ' => .ok w.nrm ρ'
/-- what a settled expression is to bring -/
def NPost (G : GG) (T : Fm) (Wx : WX) (F H : Hp) (σ : L2.St) (ρ : Env) (Q : VK) : R W → Prop :=
  RPost G T Wx F H σ ρ fun w ρ' F' H' => ∀ v, RepN G.K F' σ v w → Q v H'
theorem nrm_post {G : GG} {T : Fm} {Wx : WX} {F H : Hp} {σ : L2.St} {ρ : Env} {Q : VK} {r : R W} (h : RPost G T Wx F H σ ρ (fun w ρ' F' H' => ∀ v, RepN G.K F' σ v w → Q v H') (r.bind fun w ρ' => .ok w.nrm ρ')) : EPost G T Wx F H σ ρ Q r := by
  cases r with
  | bad => exact h
  | exc c ρ' => exact h
  | ok w ρ' =>
    intro F' H' e ok l v rw_
    cases w with
    | own i => exact h F' H' e ok l v rw_.1
    | o x =>
      obtain ⟨A, h1, h2, h3⟩ := rw_
      have hf := repO_facts h1
      exact h _ H' (e.frz (fun a ha => (hf a ha).1) fun a ha => (h3 a ha).1) (ok.frz fun a ha => ⟨(hf a ha).1, (hf a ha).2, (h3 a ha).2⟩) l v (repO_frz h1)
end PL
end
section
set_option Elab.async false
set_option linter.all false
set_option maxRecDepth 100000
set_option maxHeartbeats 2000000
set_option autoImplicit false
/-! Iterators that end while an exception is handled. -/
namespace HotI
open PySem PySem.Spec PyProof PyProof.Rows L2 HotX
/-- nothing is handled, or an exception of the heap that has no context is -/
def Cool (A : Around) (h : Heap) : Prop := A.handled = none ∨ ∃ x1, HotAt A x1 h
theorem HotAt.more {A : Around} {x1 : Addr} {h h' : Heap} (c : HotAt A x1 h) (k : ∀ o, h.get? x1 = some o → h'.get? x1 = some o) : HotAt A x1 h' := by
  obtain ⟨a, o, vs, b, d, e⟩ := c
  exact ⟨a, o, vs, k o b, d, e⟩
section
variable {prog : Program} {w : World} {A : Around} {E : Value → Shared → Prop} {s : Shared}
/-- the raise that ends an iterator -/
theorem stop_thrown {α : Type} {Q : α → Shared → Prop} (c : Cool A s.heap) (hE : ∀ (a : Addr) (h' : Heap), (∃ o, h'.get? a = some o ∧ o.cls = .type "StopIteration") → (∀ b o, s.heap.get? b = some o → h'.get? b = some o) → E (.ref a) { s with heap := h' }) :
    wpAny (model prog w) A (newExc (.type "StopIteration") [] >>= fun e => (raiseNew e : Sem α)) Q E s := by
  refine wpAny_bind ?_
  simp only [newExc, newTuple]
  refine wpAny_bind (wpAny_newObj_type (wpAny_bind (m := firstArgMember _ _) (wpAny_of_eq (a := Value.none) (by first | rfl | (simp only [firstArgMember]; rfl)) (wpAny_newObj_type ?_ (by size_fits)))) (by size_fits))
  have old : ∀ {o1 o2 : Obj} {b : Addr} {o : Obj}, s.heap.get? b = some o → ((s.heap.push o1).push o2).get? b = some o := fun e => Heap.get?_push_of_some _ (Heap.get?_push_of_some _ e)
  rcases c with hh | ⟨x1, hot⟩
  · simp only [raiseNew]
    refine wpAny_bind (wpAny_handled ?_)
    rw [hh]
    exact wpAny_bind (wpAny_pure (wpAny_throw (hE _ _ ⟨_, Heap.get?_push_size _ rfl, rfl⟩ fun b o e => old e)))
  · have ne : ∀ {o1 : Obj}, x1 ≠ (s.heap.push o1).objs.size := fun {o1} => by
      obtain ⟨_, o, _, g, _⟩ := hot
      exact Nat.ne_of_lt (Heap.lt_size (Heap.get?_push_of_some o1 g))
    refine raiseNew_hot (x1 := x1) (HotAt.more hot fun o e => old e) ne (Heap.get?_push_size _ rfl) rfl (by first | (simp; done) | (simp; omega) | (simp only [Array.size_append]; simp; omega)) (hE _ _ ⟨_, Heap.get?_update_self _ (Heap.get?_push_size _ rfl) rfl, rfl⟩ fun b o e => ?_)
    rw [Heap.get?_update_other _ _ (Nat.ne_of_gt (Heap.lt_size (Heap.get?_push_of_some _ e)))]
    exact old e
/-- a list's iterator at its end -/
theorem list_over {it l : Addr} {i : Nat} {items : Array Value} {Q : Option Value → Shared → Prop} (c : Cool A s.heap) (ni : ∀ x1, HotAt A x1 s.heap → x1 ≠ it) (hit : s.heap.IsListIter it l i) (hl : s.heap.IsList l items) (hx : items[i]? = none)
    (hQ : ∀ h', Heap.ExtBut it s.heap h' → Q none { s with heap := h' }) : wpAny (model prog w) A (pyNext (.ref it)) Q E s := by
  obtain ⟨oi, gi, _, di⟩ := id hit
  obtain ⟨ol, gl, _, _, dl⟩ := hl
  unfold pyNext
  refine wpAny_bind (wpAny_attempt (wpAny_callSpecial?_slot (name := Str.ofString "__next__") hit.typeIs slot_listiter_next (wpAny_call_entry slot_listiter_next hit.typeIs entry_listiter_next ?_ (args_listiter_next _))))
  show wpAny _ _ (field (.ref it) 0 >>= _) _ _ s
  refine wpAny_bind (wpAny_field gi di (x := .ref l) rfl ?_)
  show wpAny _ _ (if (Value.ref l == Value.none) = true then _ else _) _ _ s
  rw [if_neg (fun z : (Value.ref l == Value.none) = true => by cases z)]
  refine wpAny_bind (wpAny_field gi di (x := .int i 0) rfl (wpAny_bind (wpAny_seqItems gl dl ?_)))
  simp only [Int.toNat_natCast, hx]
  refine wpAny_bind (wpAny_rule (wpAny_bind (wpAny_setField gi di (by simp) (stop_thrown (A := A.in1) ?_ fun a h' ⟨o, g, k⟩ old => ?_))))
  · rcases c with z | ⟨x1, z⟩
    · exact .inl z
    · refine .inr ⟨x1, HotAt.more (A := A.in1) z fun o e => ?_⟩
      rw [Heap.get?_update_other _ _ (ni x1 z).symm]
      exact e
  · refine wpAny_bind (wpAny_isInstance (T := "StopIteration") (b := true) ⟨o, g, k⟩ isSubtype_stop (wpAny_pure (hQ _ fun b u hb e => old b u ?_)))
    rw [Heap.get?_update_other _ _ (Ne.symm hb)]
    exact e
end
end HotI
end
section
set_option Elab.async false
set_option linter.all false
set_option maxRecDepth 100000
set_option maxHeartbeats 2000000
set_option autoImplicit false
/-! (a, b) = a tuple, and the turns over a list, while an exception is handled. -/
namespace HotI
open PySem PySem.Spec PyProof PyProof.Rows L2 HotX L2H
section
variable {prog : Program} {w : World} {A : Around} {E : Value → Shared → Prop} {s : Shared}
theorem tup_over {it t : Addr} {i : Nat} {items : Array Value} {Q : Option Value → Shared → Prop} (c : Cool A s.heap) (ni : ∀ x1, HotAt A x1 s.heap → x1 ≠ it) (hit : IsTupIter s.heap it t i) (ht : IsTup s.heap t items) (hx : items[i]? = none)
    (hQ : ∀ h', Heap.ExtBut it s.heap h' → Q none { s with heap := h' }) : wpAny (model prog w) A (pyNext (.ref it)) Q E s := by
  obtain ⟨oi, gi, _, di⟩ := id hit
  obtain ⟨ol, gl, _, _, dl⟩ := ht
  unfold pyNext
  refine wpAny_bind (wpAny_attempt (wpAny_callSpecial?_slot (name := Str.ofString "__next__") hit.typeIs slot_tupleiter_next (wpAny_call_entry slot_tupleiter_next hit.typeIs entry_tupleiter_next ?_ (args_tupleiter_next _))))
  show wpAny _ _ (field (.ref it) 0 >>= _) _ _ s
  refine wpAny_bind (wpAny_field gi di (x := .ref t) rfl ?_)
  show wpAny _ _ (if (Value.ref t == Value.none) = true then _ else _) _ _ s
  rw [if_neg (fun z : (Value.ref t == Value.none) = true => by cases z)]
  refine wpAny_bind (wpAny_field gi di (x := .int i 0) rfl (wpAny_bind (wpAny_seqItems gl dl ?_)))
  simp only [Int.toNat_natCast, hx]
  refine wpAny_bind (wpAny_rule (wpAny_bind (wpAny_setField gi di (by simp) (stop_thrown (A := A.in1) ?_ fun a h' ⟨o, g, k⟩ old => ?_))))
  · rcases c with z | ⟨x1, z⟩
    · exact .inl z
    · refine .inr ⟨x1, HotAt.more (A := A.in1) z fun o e => ?_⟩
      rw [Heap.get?_update_other _ _ (ni x1 z).symm]
      exact e
  · refine wpAny_bind (wpAny_isInstance (T := "StopIteration") (b := true) ⟨o, g, k⟩ isSubtype_stop (wpAny_pure (hQ _ fun b u hb e => old b u ?_)))
    rw [Heap.get?_update_other _ _ (Ne.symm hb)]
    exact e
/-- (x, y, ..) = the tuple at t -/
theorem assign_over {env : Env} {elts : List Expr} {x1 : Nat} {pos : Pos} {t : Addr} {items : Array Value} {Q : Unit → Shared → Prop} (c : Cool A s.heap) (ht : IsTup s.heap t items)
    (hn : (assignEach elts env).length = items.size) (hst : (assignEach elts env).findIdx? (·.1) = none)
    (h : ∀ h', Heap.ExtBut s.heap.objs.size s.heap h' → wpAny (model prog w) A (assignInOrder ((assignEach elts env).map (·.2)) items.toList) Q E { s with heap := h' }) :
    wpAny (model prog w) A (assign (.Tuple elts x1 pos) env (.ref t)) Q E s := by
  rw [assign_Tuple]
  refine wpAny_bind (wpAny_standAt ?_)
  unfold unpack
  rw [hn, hst]
  refine wpAny_bind (wpAny_holding ?_)
  have tn : t ≠ s.heap.objs.size := by
    obtain ⟨o, g, _⟩ := ht
    exact Nat.ne_of_lt (Heap.lt_size g)
  unfold unpackItems notIterableAtAll
  refine wpAny_bind (wpAny_bind (wpAny_specialOf ht.typeIs slot_tuple_iter.lookup (wpAny_pure ?_)))
  simp only [Bool.false_eq_true, if_false]
  refine wpAny_bind (wpAny_holding (iter_tuple ht (wpAny_bind (wpAny_holding (draw_tuple tn items.size 0 _ _ ⟨_, Heap.get?_push_size _ rfl, rfl, rfl⟩ (ht.push _) (by omega) fun h1 g1 b1 => ?_)))))
  rw [show List.take items.size (List.drop 0 items.toList) = items.toList by rw [List.drop_zero]; exact List.take_of_length_le (by simp), if_neg (by simp)]
  have up : ∀ b o, s.heap.get? b = some o → h1.get? b = some o := fun b o e => b1.extBut b o (Nat.ne_of_lt (Heap.lt_size e)) (Heap.get?_push_of_some _ e)
  have c1 : Cool A h1 := by
    rcases c with z | ⟨x1, z⟩
    · exact .inl z
    · exact .inr ⟨x1, HotI.HotAt.more z fun o e => up _ o e⟩
  refine wpAny_bind (wpAny_holding (tup_over (s := { s with heap := h1 }) c1 (fun x1 z => ?_) g1 ((ht.push _).extBut b1.extBut tn) (by simp) fun h2 b2 => ?_))
  · rcases c with y | ⟨x2, y⟩
    · have z1 := z.1
      rw [y] at z1
      cases z1
    · have z1 := z.1
      rw [y.1] at z1
      cases z1
      obtain ⟨_, o, _, g, _⟩ := y
      exact Nat.ne_of_lt (Heap.lt_size g)
  · simp only [Option.isSome_none, Bool.false_eq_true, if_false]
    exact wpAny_pure (h h2 fun b o hb e => b2 b o hb (up b o e))
/-- (a, b, ..) = a tuple of that length -/
theorem pg_tupH {X : Cx} {es : List Expr} {k : Nat} {pos : Pos} {t : TGs} {n : Nat} (hc : HotC X) (h : PGs X es t) (hn : (assignEach es X.env).length = n := by rfl) (hst : (assignEach es X.env).findIdx? (·.1) = none := by rfl) : PG X (.Tuple es k pos) (gTup X.K n t) := by
  refine ⟨fun pins s σ H v u Q I r ⟨a, xs, e1, hq, hl, hw⟩ => ?_⟩
  subst e1
  cases r
  obtain ⟨its, rv, ht, _⟩ := I.tuple hq
  refine assign_over (.inr (hc.at I)) ht (by simp [hn, ← hl, rv.length]) hst fun h' hx => h.run pins _ σ H xs _ Q (I.kept (t' := s.toks) fun b o e => hx b o (Nat.ne_of_lt (Heap.lt_size e)) e) (by simpa using rv) hw
/-- the turns over a list -/
theorem turn_listH {P : Program} {w : World} {K : PySem.W.Frag} {tg : Expr} (a it : Addr) : TurnH P w K tg (Itl K a) [it] it (fun i h => h.IsListIter it a i) where
  mem := (turn_list (P := P) (w := w) (K := K) (tg := tg) a it).mem
  obj := (turn_list (P := P) (w := w) (K := K) (tg := tg) a it).obj
  keep := (turn_list (P := P) (w := w) (K := K) (tg := tg) a it).keep
  self := (turn_list (P := P) (w := w) (K := K) (tg := tg) a it).self
  item := by
    intro X hP hw hK _ i pins s σ H E I hf st ⟨xs, x, hq, hx⟩
    subst hP hw hK
    obtain ⟨its, rv, p, _⟩ := I.list hq
    obtain ⟨u, hu, ru⟩ := rv.get hx
    obtain ⟨f0, f1, f2, f3, f4, f5⟩ := hf it (List.mem_singleton.mpr rfl)
    refine wpAny_pyNext_list_item st p.isList (x := u) (by simpa using hu) fun h' st' sb => ?_
    obtain ⟨o, e, c, d⟩ := id st'
    exact ⟨u, rfl, go_of (s := { s with heap := h' }) e c d (by decide) ⟨x, H, I.turned (t' := s.toks) (fun b o hb e => (sb.2 b hb).trans e) f0 f1 f3 f4 f5, ru, ⟨rfl, fun ys hy => by rw [I.list_inj hy hq]; exact hx⟩, st', fun b hb => (hf b hb).1⟩⟩
  done := by
    intro X hP hw hK hc i pins s σ H E I hf st ⟨xs, hq, hx⟩
    subst hP hw hK
    obtain ⟨its, rv, p, _⟩ := I.list hq
    obtain ⟨f0, f1, f2, f3, f4, f5⟩ := hf it (List.mem_singleton.mpr rfl)
    have hl := rv.length
    refine list_over (.inr (hc.at I)) (fun x2 z => ?_) st p.isList (by simp; omega) fun h' eb => ⟨rfl, I.turned (t' := s.toks) (fun b o hb e => eb b o hb e) f0 f1 f3 f4 f5⟩
    obtain ⟨p, ⟨hh, _⟩, hp⟩ := hc
    have z1 := z.1
    rw [hh] at z1
    cases z1
    exact f5 p (List.mem_append_left _ hp)
end
end HotI
end
section
set_option Elab.async false
set_option linter.all false
set_option maxRecDepth 100000
set_option maxHeartbeats 2000000
set_option autoImplicit false
/-! List comprehensions while an exception is handled. -/
namespace HotI
open PySem PySem.Spec PyProof PyProof.Rows L2 HotX L2H
/-- a comprehension's block that keeps the handled exception in sight -/
abbrev blkH (X : Cx) (p : Addr × Obj) (s : Shared) (H : Hp) (scope : Scope) (ce : Env) (fp : List Addr) : Cx := { X.blk s H scope ce fp with pn := [p], calm := false }
theorem okH {X : Cx} {p : Addr × Obj} {s : Shared} {H : Hp} {scope : Scope} {ce : Env} {fp : List Addr} (ok : (X.blk s H scope ce fp).Ok) : (blkH X p s H scope ce fp).Ok := { ok with hd := fun z => Bool.noConfusion (show false = true from z) }
section
variable {X : Cx} {pins : List (Addr × Obj)} {σ : L2.St} {H : Hp} {s : Shared}
theorem Inv.see {p : Addr × Obj} {s0 : Shared} {H0 : Hp} {scope : Scope} {ce : Env} {fp : List Addr} (I : L2.Inv (X.blk s0 H0 scope ce fp) [] σ H s) (h : s.heap.get? p.1 = some p.2 ∧ H p.1 = none ∧ p.1 ≠ ce.locals ∧ p.1 ∉ frs X.stack ∧ ∀ v, p.2.data ≠ .cell v) :
    L2.Inv (blkH X p s0 H0 scope ce fp) [] σ H s :=
  ⟨okH I.ok, I.os, I.bare, I.base, I.loc, I.cell, I.free, I.freeC, fun q hq => by
    have e : q = p := by simpa using hq
    rw [e]
    exact h, I.hok, I.len⟩
theorem pi_listH {tg l : Expr} {tl : TE} (hl : PE X l tl) : PIH X tg l (iList X.K tl) := by
  refine ⟨fun pins s σ H R I h => thn (hl.run pins s σ H _ I h) fun v s1 ⟨x, H1, I1, r1, a, e, ⟨xs, hq⟩, q⟩ => ?_⟩
  subst e
  cases r1
  obtain ⟨its, rv, pl, _⟩ := I1.list hq
  refine wpAny_pyIter_list pl.isList ⟨s1.heap.objs.size, [s1.heap.objs.size], _, _, H1, rfl, I1.kept (t' := s1.toks) fun b o e => Heap.get?_push_of_some _ e, turn_listH a _, ⟨_, Heap.get?_push_size _ rfl, rfl, rfl⟩, fun b hb => ?_, q⟩
  rw [List.mem_singleton.mp hb]
  exact I1.fpOk (Nat.le_refl _) (I1.hok.fresh (Nat.le_refl _))
/-- the block, turn by turn -/
theorem loopH {p : Addr × Obj} {Hb : Hp} {s0 s4 : Shared} {Q : Hp → Prop} {elt tg iter : Expr} {ifs : List Expr} {scope : Scope} {vs : List Nat} {pos : Pos} {ce : Env} {g : TG} {tt : TT} {te : TE} {J : It} {it D : Addr} {fp : List Addr} {tn : Nat → Heap → Prop} {R : Result → Shared → Prop}
    (hp : Hot1 X.A p) (T : TurnH X.prog X.w X.K tg J fp it tn) (hg : PG (blkH X p s0 Hb scope ce fp) tg g) (ht : PTs (blkH X p s0 Hb scope ce fp) ifs tt) (he : PE (blkH X p s0 Hb scope ce fp) elt te)
    (W : Nat → Nat → Hp → Prop) (m0 : Nat) (w0 : W 0 m0 Hb) (I4 : L2.Inv (blkH X p s0 Hb scope ce fp) [] (wipe σ vs) Hb s4) (st4 : tn 0 s4.heap) (n4 : ∀ b ∈ fp, Hb b = none) (px : ∀ b ∈ fp, p.1 ≠ b)
    (turn : ∀ i m H, W i m H → (J.stop i H ∧ Q H) ∨ (J.go i H ∧ ∃ Nx : Hp → Prop, (∀ H', Nx H' → ∃ m', m' < m ∧ W (i + 1) m' H') ∧ ∀ x H', J.yld i H x H' → g x (wipe σ vs) H' fun σ2 H2 => wipe σ2 vs = wipe σ vs ∧ tt σ2 H2 fun b H3 =>
      if b = true then te σ2 H3 fun y H4 => ∃ acc, H4 D = some (.lst acc) ∧ acc.length < sizeLine ∧ Nx (upd H4 D (.lst (acc ++ [y]))) else Nx H3))
    (fin : ∀ H' s', L2.Inv (blkH X p s0 Hb scope ce fp) [] (wipe σ vs) H' s' → Q H' → R (.ok .next) s') :
    codeAny (model X.prog X.w) X.A (.compLoop (.ListComp elt [⟨tg, iter, ifs, 0⟩] scope pos) 0 (.ref it) (.ref D) ce) R s4 := by
  have hot : HotC (blkH X p s0 Hb scope ce fp) := ⟨p, hp, List.mem_singleton.mpr rfl⟩
  have fpo : ∀ {H' : Hp} {s' : Shared} {τ : L2.St}, L2.Inv (blkH X p s0 Hb scope ce fp) [] τ H' s' → (∀ b ∈ fp, H' b = none) → ∀ b ∈ fp, FpOk (blkH X p s0 Hb scope ce fp) [] H' b := fun {H' s' τ} I' hn b hb => by
    refine ⟨hn b hb, (I'.ok.exf b hb).1, I'.ok.exfs b hb, .inl hb, fun x c e => (I'.ok.exf b hb).2 x c e, fun q hq => ?_⟩
    have e : q = p := by simpa using hq
    rw [e]
    exact px b hb
  refine compLoop_any (fun n s' => ∃ i H', (L2.Inv (blkH X p s0 Hb scope ce fp) [] (wipe σ vs) H' s' ∧ tn i s'.heap) ∧ (∀ b ∈ fp, H' b = none) ∧ W i n H') ?_ m0 ⟨0, Hb, ⟨I4, st4⟩, n4, w0⟩
  rintro n s5 ⟨i, H5, ⟨I5, st5⟩, n5, w5⟩
  rcases turn i n H5 w5 with ⟨hstop, hq⟩ | ⟨hgo, Nx, smaller, step⟩
  · exact thnF (T.done (blkH X p s0 Hb scope ce fp) rfl rfl rfl hot i [] s5 _ H5 (fun _ _ => False) I5 (fpo I5 n5) st5 hstop) fun r s6 ⟨e, I6⟩ => by
      subst e
      exact fin H5 s6 I6 hq
  · refine thnF (T.item (blkH X p s0 Hb scope ce fp) rfl rfl rfl hot i [] s5 _ H5 (fun _ _ => False) I5 (fpo I5 n5) st5 hgo) fun r s6 ⟨u, e, h6⟩ => ?_
    subst e
    refine thnF h6 fun _ s7 ⟨x, H7, I7, r7, y7, st7, n7⟩ => thnF (hg.run _ s7 _ H7 x u _ (I7.pinned (fpo I7 n7) (T.obj _ _ st7)) r7 (step x H7 y7)) fun _ s8 ⟨σ8, H8, I8, w8, q8⟩ => ?_
    have next : ∀ {s' : Shared} {H' : Hp}, L2.Inv (blkH X p s0 Hb scope ce fp) ([] ++ pinsAt fp s7.heap) σ8 H' s' → Nx H' → ∃ m, m < n ∧ ∃ i H', (L2.Inv (blkH X p s0 Hb scope ce fp) [] (wipe σ vs) H' s' ∧ tn i s'.heap) ∧ (∀ b ∈ fp, H' b = none) ∧ W i m H' := fun {s' H'} J' nx => by
      obtain ⟨m', lt, w'⟩ := smaller H' nx
      have held : ∀ b ∈ fp, ∀ o, s7.heap.get? b = some o → s'.heap.get? b = some o ∧ H' b = none := fun b hb o e => ⟨(J'.pin (b, o) (by simp [mem_pinsAt hb e])).1, (J'.pin (b, o) (by simp [mem_pinsAt hb e])).2.1⟩
      refine ⟨m', lt, i + 1, H', ⟨(J'.unpinned (pins := [])).weak (by rw [← w8, wipe_length]) (fun j v e => ?_), T.keep _ _ _ st7 fun b hb o e => (held b hb o e).1⟩, fun b hb => ?_, w'⟩
      · rw [← w8] at e
        exact (wipe_some e).1
      · obtain ⟨o, e, _⟩ := T.obj _ _ st7 b hb
        exact (held b hb o e).2
    refine thnF (ht.run _ s8 σ8 H8 _ I8 q8) fun b s9 ⟨H9, I9, q9⟩ => ?_
    cases b with
    | false =>
      simp only [Bool.false_eq_true, if_false] at q9 ⊢
      exact next I9 q9
    | true =>
      simp only [if_true] at q9 ⊢
      refine thnF (he.run _ s9 σ8 H9 _ I9 q9) fun z s10 ⟨y, H10, I10, r10, acc, hD, hz, nx⟩ => app_ok (X := blkH X p s0 Hb scope ce fp) I10 hD hz r10 fun s11 I11 => next I11 nx
end
end HotI
end
section
set_option Elab.async false
set_option linter.all false
set_option maxRecDepth 100000
set_option maxHeartbeats 2000000
set_option autoImplicit false
/-! List comprehensions while an exception is handled: the whole. -/
namespace HotI
open PySem PySem.Spec PyProof PyProof.Rows L2 HotX L2H
section
variable {X : Cx} {pins : List (Addr × Obj)} {σ : L2.St} {H : Hp} {s : Shared}
theorem compH {p : Addr × Obj} {Q : VK} {elt tg iter : Expr} {ifs : List Expr} {scope : Scope} {own : List (Str × Nat)} {pos pos' : Pos} {wi : TI} {g : TG} {tt : TT} {te : TE} {use : Option (Value → Sem Unit)} {Qf : Value → Shared → Prop}
    (hp : Hot1 X.A p) (hpn : p ∈ X.pn) (hN : X.N.Nodup) (I : L2.Inv X pins σ H s) (hi : PIH X tg iter wi) (ok : BlkOk X.N X.env.scope scope own)
    (hg : ∀ (s : Shared) (H : Hp) (ce : Env) (fp : List Addr), (∃ C cl, ce = compEnvC scope cl C X.env) → PG (blkH X p s H scope ce fp) tg g)
    (ht : ∀ (s : Shared) (H : Hp) (ce : Env) (fp : List Addr), (∃ C cl, ce = compEnvC scope cl C X.env) → PTs (blkH X p s H scope ce fp) ifs tt)
    (he : ∀ (s : Shared) (H : Hp) (ce : Env) (fp : List Addr), (∃ C cl, ce = compEnvC scope cl C X.env) → PE (blkH X p s H scope ce fp) elt te) (hs : ∀ x, foldedSetIterable iter X.env x = pure x)
    (h : tLc wi g tt te (own.map (·.2)) σ H Q)
    (out : ∀ D C s' m H', L2.Inv X pins σ H' s' → Q (.ref D) H' → s'.heap.Ns C m → FpOk X pins H' C → compPost (model X.prog X.w) X.A X.xe use Qf (.ref D) C (.ok .next) s') :
    wpAny (model X.prog X.w) X.A (comprehension (.ListComp elt [⟨tg, iter, ifs, 0⟩] scope pos) scope X.env pos' (newList []) false (eval iter X.env) use) Qf X.xe s := by
  refine wpAny_comprehension_free (use := use) rfl hs (closure_ok fun y hy e => (ok.free y hy e).elim (fun k => I.ok.has _ (.inl k)) fun k => I.ok.has _ (.inr k)) ok.kind (fun y hy e => by rw [ok.uniq y hy, e]) (thn (hi.run pins s σ H _ I h) fun xv s1 hx => thn hx fun itv s2 ⟨it, fp, tn, J, H2, e, I2, T, st2, f2, q⟩ => ?_)
  subst e
  refine wpAny_newObj_type (newEnv_comp ?_) (by show 0 ≤ sizeLine; decide)
  generalize eD : s2.heap.objs.size = D
  obtain ⟨W, ⟨m0, w0⟩, turn⟩ := q D (I2.hok.fresh (Nat.le_of_eq eD))
  generalize e3 : ({ s2 with heap := s2.heap.push { cls := .type "list", data := .seq ([] : List Value).toArray } } : Shared) = s3
  have hp3 : s3.heap = s2.heap.push { cls := .type "list", data := .seq ([] : List Value).toArray } := by rw [← e3]
  have I3 : L2.Inv X pins σ (upd H2 D (.lst [])) s3 := by
    subst e3
    exact I2.laid (t' := s2.toks) (fun b o e => Heap.get?_push_of_some _ e) (Nat.le_of_eq eD) ⟨Nat.zero_le _, [], 0, .nil, by rw [← eD]; exact Heap.get?_push_size _ rfl⟩
  have small : ∀ b ∈ fp, b < s2.heap.objs.size := fun b hb => let ⟨_, e, _⟩ := T.obj _ _ st2 b hb; Heap.lt_size e
  have f3 : ∀ b ∈ fp, FpOk X pins (upd H2 D (.lst [])) b ∧ b < s3.heap.objs.size := fun b hb => ⟨⟨by rw [upd_ne (by rw [← eD]; exact Nat.ne_of_lt (small b hb))]; exact (f2 b hb).1, (f2 b hb).2⟩, by rw [hp3, Heap.size_push]; exact Nat.lt_succ_of_lt (small b hb)⟩
  generalize eH : upd H2 D (.lst []) = H3 at I3 w0 f3
  have st3 : tn 0 s3.heap := T.keep _ _ _ st2 fun b _ o e => by rw [hp3]; exact Heap.get?_push_of_some _ e
  have I4 := block_start I3 ok hN f3
  show codeAny _ _ (.compStart (.ListComp elt [⟨tg, iter, ifs, 0⟩] scope pos) 0 (.ref it) (.ref D) (compEnvC scope (cellsFrom (s3.heap.objs.size + 1) scope.names (cloFrom X.env.cells scope.names [])) s3.heap.objs.size X.env)) (compPost (model X.prog X.w) X.A X.xe use Qf (.ref D) s3.heap.objs.size) { s3 with heap := pushCells (s3.heap.push { cls := .type "dict", data := .dict #[] }) scope.names }
  generalize ec : compEnvC scope (cellsFrom (s3.heap.objs.size + 1) scope.names (cloFrom X.env.cells scope.names [])) s3.heap.objs.size X.env = ce at I4 ⊢
  have lc : ce.locals = s3.heap.objs.size := by subst ec; rfl
  generalize e4 : ({ s3 with heap := pushCells (s3.heap.push { cls := .type "dict", data := .dict #[] }) scope.names } : Shared) = s4 at I4 ⊢
  have up4 : ∀ b o, s3.heap.get? b = some o → s4.heap.get? b = some o := fun b o e => by rw [← e4]; exact pushCells_keeps _ _ _ _ (Heap.get?_push_of_some _ e)
  have st4 : tn 0 s4.heap := T.keep _ _ _ st3 fun b _ o e => up4 b o e
  obtain ⟨p1, p2, p3, p4, p5⟩ := I3.pin p (List.mem_append_left _ hpn)
  have nst : p.1 ∉ frs X.stack := by
    rcases I3.ok.stk with z | ⟨z, z2⟩
    · rw [z]; exact p4
    · rw [z]
      show p.1 ∉ List.filterMap (·.frame) (X.env :: X.outer)
      rw [List.filterMap_cons_some z2]
      exact fun y => (List.mem_cons.mp y).elim p3 p4
  have I4' : L2.Inv (blkH X p s3 H3 scope ce fp) [] (wipe σ (own.map (·.2))) H3 s4 := Inv.see I4 ⟨up4 _ _ p1, p2, fun z => by
    rw [lc] at z
    exact absurd (Heap.lt_size p1) (by rw [z]; exact Nat.lt_irrefl _), nst, p5⟩
  have cc : ∃ C cl, ce = compEnvC scope cl C X.env := ⟨_, _, ec.symm⟩
  have px : ∀ b ∈ fp, p.1 ≠ b := fun b hb => (f3 b hb).1.2.2.2.2.2 p (List.mem_append_left _ hpn)
  have loop := loopH (D := D) (iter := iter) (pos := pos) (R := compPost (model X.prog X.w) X.A X.xe use Qf (.ref D) s3.heap.objs.size) (Q := Q (.ref D)) hp T (hg s3 H3 ce fp cc) (ht s3 H3 ce fp cc) (he s3 H3 ce fp cc) W m0 w0 I4' st4 (fun b hb => (f3 b hb).1.1) px turn fun H' s' I6 q6 => by
    have I7 : L2.Inv X pins σ H' s' := I3.call' (ch := fp) I6.os I6.base I6.hok I6.bare fun b hb => ⟨(f3 b hb).1.2.2.2.1, (f3 b hb).1.2.1, (f3 b hb).1.2.2.2.2.1, (f3 b hb).1.2.2.2.2.2⟩
    obtain ⟨m, hn, _⟩ := I6.loc
    have nC : H' ce.locals = none := I6.free
    have hn : s'.heap.Ns ce.locals m := hn
    rw [lc] at nC hn
    exact out D s3.heap.objs.size s' m H' I7 q6 hn (I3.fpOk (Nat.le_refl _) nC)
  exact codeAny_compStart_list loop (T.self X.A 0 _ _ _ st4 loop)
/-- as a value -/
theorem pe_lcH {p : Addr × Obj} {elt tg iter : Expr} {ifs : List Expr} {scope : Scope} {own : List (Str × Nat)} {pos : Pos} {wi : TI} {g : TG} {tt : TT} {te : TE} (hp : Hot1 X.A p) (hpn : p ∈ X.pn) (hN : X.N.Nodup) (hi : PIH X tg iter wi) (ok : BlkOk X.N X.env.scope scope own)
    (hg : ∀ (s : Shared) (H : Hp) (ce : Env) (fp : List Addr), (∃ C cl, ce = compEnvC scope cl C X.env) → PG (blkH X p s H scope ce fp) tg g)
    (ht : ∀ (s : Shared) (H : Hp) (ce : Env) (fp : List Addr), (∃ C cl, ce = compEnvC scope cl C X.env) → PTs (blkH X p s H scope ce fp) ifs tt)
    (he : ∀ (s : Shared) (H : Hp) (ce : Env) (fp : List Addr), (∃ C cl, ce = compEnvC scope cl C X.env) → PE (blkH X p s H scope ce fp) elt te) (hs : ∀ x, foldedSetIterable iter X.env x = pure x := by intro _; rfl) : PE X (.ListComp elt [⟨tg, iter, ifs, 0⟩] scope pos) (tLc wi g tt te (own.map (·.2))) := by
  refine ⟨fun pins s σ H Q I h => ?_⟩
  rw [eval_ListComp]
  exact compH hp hpn hN I hi ok hg ht he hs h fun D C s' m H' I' q hn ⟨f0, f1, f2, f3, f4, f5⟩ => ⟨m, hn, fun h2 sb => ⟨.ref D, H', I'.turned (t' := s'.toks) (fun b o hb e => (sb.2 b hb).trans e) f0 f1 f3 f4 f5, rfl, q⟩⟩
/-- name = [..] on one line -/
theorem ps_setLcH {p : Addr × Obj} {i : Nat} {y : Str} {py : Pos} {elt tg iter : Expr} {ifs : List Expr} {scope : Scope} {own : List (Str × Nat)} {pos spos : Pos} {wi : TI} {g : TG} {tt : TT} {te : TE} (hp : Hot1 X.A p) (hpn : p ∈ X.pn) (hN : X.N.Nodup) (hy : X.N[i]? = some y) (hyl : X.env.scope.names.lookup y = some .local)
    (hsw : swapsWith (.ListComp elt [⟨tg, iter, ifs, 0⟩] scope pos) (some (.Name y py)) spos.line X.env = pure true) (hi : PIH X tg iter wi) (ok : BlkOk X.N X.env.scope scope own)
    (hg : ∀ (s : Shared) (H : Hp) (ce : Env) (fp : List Addr), (∃ C cl, ce = compEnvC scope cl C X.env) → PG (blkH X p s H scope ce fp) tg g)
    (ht : ∀ (s : Shared) (H : Hp) (ce : Env) (fp : List Addr), (∃ C cl, ce = compEnvC scope cl C X.env) → PTs (blkH X p s H scope ce fp) ifs tt)
    (he : ∀ (s : Shared) (H : Hp) (ce : Env) (fp : List Addr), (∃ C cl, ce = compEnvC scope cl C X.env) → PE (blkH X p s H scope ce fp) elt te) (hs : ∀ x, foldedSetIterable iter X.env x = pure x := by intro _; rfl) : PS X (.Assign [.Name y py] (.ListComp elt [⟨tg, iter, ifs, 0⟩] scope pos) spos) (tAsg (tLc wi g tt te (own.map (·.2))) (gName i)) := by
  refine ⟨fun pins s σ H D I h => ?_⟩
  rw [exec_Assign_Name_used _ _ _ _ hsw]
  refine wpAny_bind (wpAny_standAt (wpAny_bind ?_))
  have h : tLc wi g tt te (own.map (·.2)) σ H (fun x H1 => gName i x σ H1 D.nx) := h
  show wpAny _ X.A (do let _ ← comprehension (.ListComp elt [⟨tg, iter, ifs, 0⟩] scope pos) scope X.env (firstIterPos [⟨tg, iter, ifs, 0⟩] pos) (newList []) false (eval iter X.env) (some (assign (.Name y py) X.env))) _ _ s
  refine wpAny_bind (thn (compH (Qf := fun _ s' => SP X pins D .next s') hp hpn hN I hi ok hg ht he hs h fun L C s' m H' I' q hn ⟨f0, f1, f2, f3, f4, f5⟩ => ?_) fun _ s' hq => wpAny_pure (wpAny_pure hq))
  refine wpAny_assign_Name (store_ok2 (v := V.ref L) I' hN hy (.inl hyl) rfl (fun s2 I2 ⟨a, sb, ha⟩ => ?_) (.inr hyl))
  have ne : C ≠ a := ha.elim (fun z => by rw [z]; exact f1) fun z e => f4 y a z e.symm
  exact ⟨m, hn.sameBut sb ne, fun h3 sb3 => ⟨_, H', I2.turned (t' := s2.toks) (fun b o hb e => (sb3.2 b hb).trans e) f0 f1 f3 f4 f5, q⟩⟩
end
end HotI
end
section
set_option Elab.async false
set_option linter.all false
set_option maxRecDepth 100000
set_option maxHeartbeats 2000000
set_option autoImplicit false
/-! Sources of loops, calm or hot. -/
namespace HotI
open PySem PySem.Spec PyProof PyProof.Rows L2 HotX L2H
theorem turn_tupleH {P : Program} {w : World} {K : PySem.W.Frag} {tg : Expr} (a it : Addr) : TurnH P w K tg (Itt K a) [it] it (fun i h => h.IsTupleIter it a i) where
  mem := (turn_tuple (P := P) (w := w) (K := K) (tg := tg) a it).mem
  obj := (turn_tuple (P := P) (w := w) (K := K) (tg := tg) a it).obj
  keep := (turn_tuple (P := P) (w := w) (K := K) (tg := tg) a it).keep
  self := (turn_tuple (P := P) (w := w) (K := K) (tg := tg) a it).self
  item := by
    intro X hP hw hK _ i pins s σ H E I hf st ⟨xs, x, hq, hx⟩
    subst hP hw hK
    obtain ⟨its, rv, p, _⟩ := I.tuple hq
    obtain ⟨u, hu, ru⟩ := rv.get hx
    obtain ⟨f0, f1, f2, f3, f4, f5⟩ := hf it (List.mem_singleton.mpr rfl)
    refine next_tuple_item (i := i) (items := its.toArray) st p (x := u) (by simpa using hu) fun h' st' sb => ?_
    obtain ⟨o, e, c, d⟩ := id st'
    exact ⟨u, rfl, go_of (s := { s with heap := h' }) e c d (by decide) ⟨x, H, I.turned (t' := s.toks) (fun b o hb e => (sb.2 b hb).trans e) f0 f1 f3 f4 f5, ru, ⟨rfl, fun ys hy => by rw [I.tuple_inj hy hq]; exact hx⟩, st', fun b hb => (hf b hb).1⟩⟩
  done := by
    intro X hP hw hK hc i pins s σ H E I hf st ⟨xs, hq, hx⟩
    subst hP hw hK
    obtain ⟨its, rv, p, _⟩ := I.tuple hq
    obtain ⟨f0, f1, f2, f3, f4, f5⟩ := hf it (List.mem_singleton.mpr rfl)
    have hl := rv.length
    refine tup_over (i := i) (items := its.toArray) (.inr (hc.at I)) (fun x2 z => ?_) st p (by simp; omega) fun h' eb => ⟨rfl, I.turned (t' := s.toks) (fun b o hb e => eb b o hb e) f0 f1 f3 f4 f5⟩
    obtain ⟨q, ⟨hh, _⟩, hq⟩ := hc
    have z1 := z.1
    rw [hh] at z1
    cases z1
    exact f5 q (List.mem_append_left _ hq)
/-- over range(a, b), hot -/
theorem pi_range2H {X : Cx} {tg a b : Expr} {ta : TA} {p pos : Pos} (hg : Gl X "range") (hm : X.mg "range" = none) (ha : PA X [a, b] ta) (hs : starEach [a, b] X.env = [(false, eval a X.env), (false, eval b X.env)]) (hs2 : starEach [b] X.env = [(false, eval b X.env)]) : PIH X tg (.Call (.Name "range" p) [a, b] [] pos) (iRng2 ta) := by
  refine ⟨fun pins s σ H R I h => Call_ (ld_blt I hg hm boot_range (PyProof.Rows.callWith_type1 (thn (ha.run pos pins s σ H _ I h) fun us s1 ⟨vs, H1, I1, r1, i, j, e, ⟨q1, q2, q3, q4⟩, q⟩ => ?_) (by rw [hs, hs2]) (by rw [hs2]; rfl)))⟩
  subst e
  cases r1 with
  | cons r rr => cases rr with
    | cons r' rr =>
      cases rr
      obtain ⟨⟨t, rfl⟩, ⟨t', rfl⟩⟩ := And.intro r r'
      exact call_range_2 (range_itH I1 q1 q2 q3 q4 q)
end HotI
end
section
set_option Elab.async false
set_option linter.all false
set_option maxRecDepth 100000
set_option maxHeartbeats 2000000
/-! Defs called in an except suite whose promise leans on what is known of the handled exception. -/
namespace HotE
open PySem PySem.Spec PyProof.Rows L2 HotX L2H
/-- what a def promises where the handled exception is of the sort Pp -/
structure FnE (Pp : Addr × Obj → Prop) (P : Program) (w : World) (K : PySem.W.Frag) (mg : Str → Option Value) (base : Heap) (CX : CXT) (k : Nat) (f : Addr) (fd : FuncData) (ps : List Str) (sp : Sp) : Prop where
  len : ∀ vs H Q E, sp vs H Q E → vs.length = ps.length
  run : ∀ (A : Around) (outer : List Env) (s : Shared) (H : Hp) (args : Args) (us : List Value) (vs : List V) (Q : VK) (E : XK) (p : Addr × Obj), Pp p → RoomH k A → Hot1 A p → PinOk outer H s p →
    Env0 P w K mg base A outer s H → BindsTo s fd args (ps.zip us) → Vals vs us → sp vs H Q E → codeAny (model P w) A (.call (.ref f) args) (CR CX outer P w H s Q E) s
theorem fn_ofE {Pp : Addr × Obj → Prop} {CX : CXT} {P : Program} {w : World} {K : PySem.W.Frag} {mg : Str → Option Value} {base : Heap} {k : Nat} {f : Addr} {nm ql : Str} {pm : Arguments} {body : List Stmt} {scope : Scope} {v1 v2 v3 v4 cdv ct oc : Value} {an od : Option Addr}
    {osl : Array (Option Value)} {N ps : List Str} {sp : Sp} (hf : K.lookup f = some ⟨oc, od, .func (PySem.W.fnOf nm ql pm body scope v1 v2 v3 v4 an cdv ct), osl⟩) (hc : PySem.W.codeIn K cdv ql = true) (S : FnScope N ps scope)
    (len : ∀ vs H Q E, sp vs H Q E → vs.length = ps.length)
    (hB : ∀ (A : Around) (outer : List Env) (s : Shared) (H : Hp) (vs : List V) (Q : VK) (E : XK) (p : Addr × Obj), Pp p → Hot1 A p → RoomH k (A.deeper (envOfC ql scope s.heap.objs.size f cdv)) → sp vs H Q E →
      ∃ t, PSs (cxH CX P w K mg base N ql scope f cdv A outer s H E p) body t ∧ t { nx := fun _ H' => Q .non H', rt := Q } (L2.start N vs) H) :
    FnE Pp P w K mg base CX (k + 1) f (PySem.W.fnOf nm ql pm body scope v1 v2 v3 v4 an cdv ct) ps sp := by
  refine ⟨len, fun A outer s H args us vs Q E p hp room hot pin env bind vals prom => ?_⟩
  have hlen := len _ _ _ _ prom
  have inS : K.In s.heap := env.mod.kin.keeps fun b o q => (env.bs b o q).1
  have noL : s.heap.NoLimit := env.mod.nolimit.keeps fun b o q => (env.bs b o q).1
  have kinds : ∀ y ∈ ps.zip us, scope.names.lookup y.1 = some .local ∨ (scope.names.lookup y.1 = some .cell ∧ ((cellsFrom (s.heap.objs.size + 1) scope.names []).lookup y.1).isSome = true) := by
    rintro ⟨n, v⟩ hy
    rcases S.par n (List.of_mem_zip hy).1 with q | q
    · left; exact q
    · right; exact ⟨q, PySem.W.cellsFrom_some _ _ _ (.inl q)⟩
  refine codeAny_call_function room.depth (inS _ _ hf) rfl S.co S.gen rfl (PySem.W.codeRec_of inS hc) (bind _ _ _ _ ?_)
  refine wpAny_newFunctionEnv_cells S.kind kinds fun env1 he s1 x => ?_
  subst he
  refine ⟨noL.keeps x.toInCall.keep, codeAny_func ?_⟩
  obtain ⟨t, ht, hq⟩ := hB A outer s H vs Q E p hp hot (room.deeper _) prom
  have J : Inv (cxH CX P w K mg base N ql scope f cdv A outer s H E p) [] (L2.start N vs) H s1 := inv_startH S pin env hlen vals x
  refine wpAny_mono (ht.run [] s1 (L2.start N vs) H _ J hq) (fun fl s' hs => ?_) fun e s' q => q
  have last : ∀ {σ' : L2.St} {H' : Hp} {v : V} {u : Value}, Inv (cxH CX P w K mg base N ql scope f cdv A outer s H E p) [] σ' H' s' → RelV v u → Q v H' → CE outer P w H s Q u s' := by
    intro σ' H' v u J' rv q
    exact ⟨v, H', J'.os, J'.bare, J'.base, J'.hok, rv, q⟩
  match fl, hs with
  | .ret u, ⟨v, σ', H', J', rv, q⟩ => exact last J' rv q
  | .next, ⟨σ', H', J', q⟩ => exact last (v := V.non) (u := Value.none) J' rfl q
  | .brk, ⟨_, _, _, q⟩ => exact q.elim
  | .cont, ⟨_, _, _, q⟩ => exact q.elim
section
variable {X : Cx} {CX : CXT} {k : Nat} {f : Addr} {fd : FuncData} {ps : List Str} {sp : Sp} {E : L2.St → XK} {x : Str} {q pos : Pos} {e : Expr} {es : List Expr} {t : TA} {Pp : Addr × Obj → Prop}
theorem run_fnE {pins : List (Addr × Obj)} {σ : L2.St} {H : Hp} {s : Shared} {Q : VK} {us : List Value} {vs : List V} {p : Addr × Obj} (F : FnE Pp X.prog X.w X.K X.mg X.base CX k f fd ps sp) (hr : RoomH k X.A) (hot : Hot1 X.A p) (hp : p ∈ X.pn) (hP : Pp p)
    (hb : Binds X.K fd ps []) (hx : PassesAt CX X σ (E σ)) (I : Inv X pins σ H s) (r : Vals vs us) (h : sp vs H Q (E σ)) : wpAny (model X.prog X.w) X.A (call (.ref f) us) (EP X pins σ Q) X.xe s := by
  have lu : us.length = ps.length := r.length ▸ F.len _ _ _ _ h
  have bd := hb s us I.kIn (by rw [List.append_nil]; exact lu)
  rw [List.append_nil] at bd
  obtain ⟨g1, g2, g3, g4, g5⟩ := I.pin p (List.mem_append_left _ hp)
  have pk : PinOk X.stack H s p := ⟨g1, g2, fun hm => (List.mem_cons.mp (I.stkSub p.1 hm)).elim g3 g4, g5⟩
  refine wpAny_call (codeAny_mono (F.run X.A X.stack s H ⟨us, []⟩ us vs Q (E σ) p hP hr hot pk I.env0 bd r h) fun r s' hq => ?_)
  match r, hq with
  | .error e, hq => exact hx pins H s e s' I hq
  | .ok (.ret u), hq => exact I.after hq
  | .ok .next, hq => exact hq.elim
  | .ok .brk, hq => exact hq.elim
  | .ok .cont, hq => exact hq.elim
theorem pe_callE {p : Addr × Obj} (F : FnE Pp X.prog X.w X.K X.mg X.base CX k f fd ps sp) (hr : RoomH k X.A) (hot : Hot1 X.A p) (hp : p ∈ X.pn) (hP : Pp p) (hg : Gl X x) (hm : X.mg x = some (.ref f)) (hk : PySem.W.keepIn X.K (.ref f) = true) (hb : Binds X.K fd ps [])
    (hx : ∀ σ, PassesAt CX X σ (E σ)) (ha : PA X (e :: es) t) (hdb : (x == ("__debug__" : Str)) = false) (he : starEach (e :: es) X.env = (false, eval e X.env) :: starEach es X.env) (hpl : (backTo pos (starEach es X.env)).any (·.1) = false) :
    PE X (.Call (.Name x q) (e :: es) [] pos) (tCallS sp E t) :=
  ⟨fun pins s σ H Q I h => wpAny_Call_Name_kw (ld_glob I hg hm (PySem.W.callWith_K (h₀ := X.base) I.ok.mod.kin hk (thn (ha.run pos pins s σ H _ I h) fun us s1 ⟨vs, H1, I1, r, q⟩ => ⟨I1.kIn, run_fnE F hr hot hp hP hb (hx σ) I1 r q⟩) he hpl) hdb)⟩
/-- isinstance(e, c), e the exception that is handled -/
theorem call_isP {D : Addr} {p : Addr × Obj} (C : ExcC X.K D) (hp : p ∈ X.pn) (hc : p.2.cls = .ref D) (hd : p.2.dict = none) (hf : ∃ vs, p.2.data = .fields vs) : CallR X (.builtin "isinstance") (rIsE X.K D p.1) := by
  intro pins s σ H xs us Q I r h
  obtain ⟨c, cv, b, rfl, hcv, e, q⟩ := h
  match r with
  | .cons rx (.cons rt .nil) =>
    cases rx
    have ec := hcv _ rt
    subst ec
    have hget := (I.pin p (List.mem_append_left _ hp)).1
    obtain ⟨vs, hv⟩ := hf
    have J : PySem.W.InstAt s.heap p.1 p.2 D none := by
      obtain ⟨pa, oc, od, oda, osl⟩ := p
      dsimp only at hc hd hv hget ⊢
      subst hc hd hv
      exact ⟨hget, rfl, rfl, trivial⟩
    have kx := PySem.W.handS_kitx_exc (ox := p.2) (x := p.1) C.hg C.hk C.hs C.hd C.ha C.hn C.ht C.hm
    exact PySem.W.kia_one kx I.kIn J e (fun z => nomatch z) fun tk => ⟨.bl b, H, I.kept (t' := tk) fun _ _ z => z, rfl, q⟩
end
end HotE
end
section
set_option Elab.async false
set_option linter.all false
set_option maxRecDepth 100000
set_option maxHeartbeats 2000000
set_option autoImplicit false
/-! The rules: names, constants, operators, displays, calls of built-ins. -/
namespace PL
open PySem PySem.Spec PyProof.Rows L2

/-! ### the static context of a piece of code -/
structure Ct where
  G : GG
  N : List Str
  sc : Scope
  k : Nat
  fnb : Str → Bool
  tab : Option (Addr × Addr)
  hot : Bool
  top : Bool
/-- p's object is the exception that is known to be handled -/
def HxOk (G : GG) (p : Addr × Obj) : Prop := ∀ a c, G.hx = some (a, c) → p.1 = a ∧ p.2.cls = .ref (G.cls c) ∧ p.2.dict = none
structure Cok (X : Cx) (C : Ct) (Wx : WX) : Prop where
  hN : X.N = C.N
  hsc : X.env.scope = C.sc
  nd : C.N.Nodup
  way : (X.calm = true ∧ Room C.k X.A ∧ C.G.hx = none) ∨ (C.hot = true ∧ ∃ p, L2H.Hot1 X.A p ∧ p ∈ X.pn ∧ HxOk C.G p)
  prog : X.prog = C.G.P
  w : X.w = C.G.w
  K : X.K = C.G.K
  mg : X.mg = C.G.mg
  base : X.base = C.G.base
  roomH : L2H.RoomH C.k X.A
  takes : L2N.Takes X Wx
  own : PassesOwn (model X.prog X.w) X.A X.env X.xe
  fn : ∀ x, X.fn x = C.fnb x
  cod : ∀ c P, C.tab = some (c, P) → X.env.code = .ref c ∧ GxR.TabB X.base X.mg c P ∧ P ∈ C.G.tb
  top : C.top = true → X.stack = X.env :: X.outer ∧ X.env.frame = some X.env.locals
/-- e is worth f -/
def PD (C : Ct) (e : Expr) (f : Env → R W) : Prop := ∀ (X : Cx) (Wx : WX), Cok X C Wx → PE X e (tE C.G Wx f)
def PDT (C : Ct) (e : Expr) (f : Env → R Bool) : Prop := ∀ (X : Cx) (Wx : WX), Cok X C Wx → PT X e (tT C.G Wx f)

/-! ### names -/
def nmB (N : List Str) (sc : Scope) (i : Nat) (x : Str) : Bool :=
  N[i]? == some x && (sc.names.lookup x == some .local || sc.names.lookup x == some .cell || sc.names.lookup x == some .free) && !(x == ("__debug__" : Str)) && !(x == ("__classdict__" : Str))
theorem nmB_spec {N : List Str} {sc : Scope} {i : Nat} {x : Str} (h : nmB N sc i x = true) : N[i]? = some x ∧ Vis sc x ∧ (x == ("__debug__" : Str)) = false ∧ (x == ("__classdict__" : Str)) = false := by
  unfold nmB at h
  simp only [Bool.and_eq_true, Bool.or_eq_true, beq_iff_eq, Bool.not_eq_true'] at h
  obtain ⟨⟨⟨h1, h2⟩, h3⟩, h4⟩ := h
  refine ⟨h1, ?_, h3, h4⟩
  rcases h2 with (h | h) | h
  · exact .inl h
  · exact .inr (.inl h)
  · exact .inr (.inr h)
def glB (sc : Scope) (x : Str) : Bool := sc.names.lookup x == some .globalImplicit && !(x == ("__debug__" : Str)) && !(x == ("__name__" : Str))
theorem glB_spec {sc : Scope} {x : Str} (h : glB sc x = true) : sc.names.lookup x = some .globalImplicit ∧ (x == ("__debug__" : Str)) = false ∧ x ≠ "__name__" := by
  unfold glB at h
  simp only [Bool.and_eq_true, beq_iff_eq, Bool.not_eq_true', beq_eq_false_iff_ne] at h
  exact ⟨h.1.1, by simpa using h.1.2, h.2⟩
section
variable {C : Ct} {X : Cx} {Wx : WX}
theorem Cok.gl (ok : Cok X C Wx) {x : Str} (h : glB C.sc x = true) : Gl X x := by
  show X.env.scope.names.lookup x = _
  rw [ok.hsc]
  exact (glB_spec h).1
theorem Cok.calm (ok : Cok X C Wx) (h : C.hot = false) : X.calm = true := by
  rcases ok.way with z | ⟨z, _⟩
  · exact z.1
  · rw [h] at z; cases z
theorem Cok.room (ok : Cok X C Wx) (h : C.hot = false) : Room C.k X.A := by
  rcases ok.way with z | ⟨z, _⟩
  · exact z.2.1
  · rw [h] at z; cases z
theorem Cok.hx0 (ok : Cok X C Wx) (h : C.hot = false) : C.G.hx = none := by
  rcases ok.way with z | ⟨z, _⟩
  · exact z.2.2
  · rw [h] at z; cases z
theorem Cok.nodup (ok : Cok X C Wx) : X.N.Nodup := by rw [ok.hN]; exact ok.nd
end

def eVar (i : Nat) : Env → R W := fun ρ => match ρ[i]? with
  | some (.fz d) => .ok (.val d) ρ
  | some (.fl _) => .ok (.own i) ρ
  | some (.io _ _) => .ok (.own i) ρ
  | _ => .bad
def eC (d : D) : Env → R W := fun ρ => .ok (.val d) ρ

section
variable {G : GG} {T : Fm} {Wx : WX} {F H : Hp} {σ : L2.St} {ρ : Env} {Q : VK}
/-- a value at hand, nothing changes -/
theorem RPost.here {α : Type} {Ok : α → Env → Hp → Hp → Prop} {x : α} (ok : EnvOk G T F H σ ρ) (h : RPost G T Wx F H σ ρ Ok (.ok x ρ)) : Ok x ρ F H :=
  h F H Ext.refl ok fun _ z => z
theorem repW_val {K : PySem.W.Frag} {Hs : Hp} {v : V} {d : D} (r : Rep K F d v) : RepW K Hs F H σ ρ v (.val d) := ⟨[], ⟨rfl, r⟩, List.nodup_nil, by simp⟩
theorem EPost.val {d : D} {v : V} (ok : EnvOk G T F H σ ρ) (h : EPost G T Wx F H σ ρ Q (.ok (.val d) ρ)) (r : Rep G.K F d v) : Q v H :=
  RPost.here ok h v (repW_val r)
/-- a new frozen value -/
theorem EPost.new {d : D} {v : V} {F' H' : Hp} (ok : EnvOk G T F H σ ρ) (h : EPost G T Wx F H σ ρ Q (.ok (.val d) ρ)) (n : New F H F' H') (hp : HpOk G F' H') (r : Rep G.K F' d v) : Q v H' :=
  h F' H' n.ext (ok.new n hp) (fun _ z => z) v (repW_val r)
end

section
variable {C : Ct}
theorem pd_var {i : Nat} {x : Str} {pos : Pos} (h : nmB C.N C.sc i x = true) : PD C (.Name x pos) (eVar i) := by
  intro X Wx ok
  obtain ⟨h1, h2, h3, h4⟩ := nmB_spec h
  refine PE.to (pe_var (i := i) (by rw [ok.hN]; exact h1) (by rw [ok.hsc]; exact h2) h3 h4) ?_
  rintro σ H Q ⟨T, F, ρ, en, p⟩
  unfold eVar at p
  cases e : ρ[i]? with
  | none => rw [e] at p; exact p.elim
  | some s =>
    rw [e] at p
    have z := en.at_ i s e
    cases s with
    | un => exact p.elim
    | er c => exact p.elim
    | sc ns => exact p.elim
    | fz d =>
      obtain ⟨v, ev, r⟩ := z
      have ev' : σ[i]? = some (some v) := by
        cases q : σ[i]? with
        | none => rw [q] at ev; cases ev
        | some o => rw [q] at ev; have ev : o = some v := ev; rw [ev]
      exact ⟨v, ev', EPost.val en p r⟩
    | fl xs =>
      obtain ⟨a, vs, ev, _⟩ := z
      exact ⟨.ref a, join_ref ev, RPost.here en p (.ref a) ⟨join_ref ev, _, e, rfl⟩⟩
    | io j xs =>
      obtain ⟨a, vs, ev, _⟩ := z
      exact ⟨.ref a, join_ref ev, RPost.here en p (.ref a) ⟨join_ref ev, _, e, rfl⟩⟩
theorem pd_int {i : Int} {j : Nat} {pos : Pos} : PD C (.Constant (.int i) j pos) (eC (.int i)) := by
  intro X Wx ok
  exact PE.to pe_int fun σ H Q ⟨T, F, ρ, en, p⟩ => EPost.val en p (by rw [Rep])
theorem pd_bl {b : Bool} {j : Nat} {pos : Pos} : PD C (.Constant (.bool b) j pos) (eC (.bool b)) := by
  intro X Wx ok
  exact PE.to pe_bl fun σ H Q ⟨T, F, ρ, en, p⟩ => EPost.val en p (by rw [Rep])
theorem pd_non {j : Nat} {pos : Pos} : PD C (.Constant .none j pos) (eC .none) := by
  intro X Wx ok
  exact PE.to pe_non fun σ H Q ⟨T, F, ρ, en, p⟩ => EPost.val en p (by rw [Rep])
def strB (x : Str) : Bool := decide (x.length ≤ sizeLine) && PyData.strOk x
theorem pd_str {x : Str} {j : Nat} {pos : Pos} (h : strB x = true) : PD C (.Constant (.str x) j pos) (eC (.str x)) := by
  intro X Wx ok
  have h' := Bool.and_eq_true_iff.mp h
  exact PE.to pe_str fun σ H Q ⟨T, F, ρ, en, p⟩ => EPost.val en p (by rw [Rep]; exact ⟨rfl, of_decide_eq_true h'.1, h'.2⟩)
/-- a constant of the module: data of the written part -/
theorem pd_glob {x : Str} {d : D} {v : V} {u : Value} {pos : Pos} (hg : glB C.sc x = true) (hm : C.G.mg x = some u) (rv : RelV v u) (r : Rep C.G.K (fun _ => none) d v) : PD C (.Name x pos) (eC d) := by
  intro X Wx ok
  refine PE.to (pe_glob (ok.gl hg) (by rw [ok.mg]; exact hm) rv (glB_spec hg).2.1) fun σ H Q ⟨T, F, ρ, en, p⟩ => EPost.val en p (r.mono fun _ _ e => by cases e)
end

/-! ### operations by values -/
def RepCs (K : PySem.W.Frag) (F H : Hp) : List D → List V → Prop
  | [], vs => vs = []
  | d :: ds, vs => ∃ v r, vs = v :: r ∧ RepC K F H d v ∧ RepCs K F H ds r
/-- the outcome of an operation: frozen data or a new list -/
def Res (K : PySem.W.Frag) (F' H H' : Hp) (v : V) (p : P1) : Prop := ∃ A, RepP K F' H' v p A ∧ ∀ a ∈ A, H a = none
def Prim2 (G : GG) (r : R2) (g : D → D → Option P1) : Prop := ∀ (F H : Hp) (x y : V) (a b : D) (p : P1) (Q : VK), HpOk G F H → RepC G.K F H a x → RepC G.K F H b y → g a b = some p →
  (∀ v F' H', New F H F' H' → HpOk G F' H' → Res G.K F' H H' v p → Q v H') → r x y H Q
def Prim1 (G : GG) (r : V → Hp → VK → Prop) (g : D → Option P1) : Prop := ∀ (F H : Hp) (x : V) (a : D) (p : P1) (Q : VK), HpOk G F H → RepC G.K F H a x → g a = some p →
  (∀ v F' H', New F H F' H' → HpOk G F' H' → Res G.K F' H H' v p → Q v H') → r x H Q
def PrimN (G : GG) (r : List V → Hp → VK → Prop) (g : List D → Option P1) : Prop := ∀ (F H : Hp) (vs : List V) (ds : List D) (p : P1) (Q : VK), HpOk G F H → RepCs G.K F H ds vs → g ds = some p →
  (∀ v F' H', New F H F' H' → HpOk G F' H' → Res G.K F' H H' v p → Q v H') → r vs H Q
def P1.o : P1 → O
  | .fz d => .fz d
  | .fl xs => .fl xs
def outP (p : Option P1) (ρ : Env) : R W := match p with
  | some p => .ok (.o p.o) ρ
  | none => .bad
def eBin (g : D → D → Option P1) (fa fb : Env → R W) : Env → R W := fun ρ => (eNrm fa ρ).bind fun wa ρ1 => (eNrm fb ρ1).bind fun wb ρ2 => match wa.dat ρ2, wb.dat ρ2 with
  | some a, some b => outP (g a b) ρ2
  | _, _ => .bad
def eUn (g : D → Option P1) (fa : Env → R W) : Env → R W := fun ρ => (eNrm fa ρ).bind fun wa ρ1 => match wa.dat ρ1 with
  | some a => outP (g a) ρ1
  | _ => .bad

section
variable {G : GG} {T : Fm} {Wx : WX} {F H Hs : Hp} {σ : L2.St} {ρ : Env} {Q : VK}
theorem tE_nrm {f : Env → R W} (en : EnvOk G T F H σ ρ) (h : NPost G T Wx F H σ ρ Q (eNrm f ρ)) : tE G Wx f σ H Q := ⟨T, F, ρ, en, nrm_post h⟩
/-- an outcome in the hand -/
theorem out_post {p : Option P1} {ρ : Env} (hl : ∀ a, Hs a ≠ none → H a ≠ none) (en : EnvOk G T F H σ ρ) (h : RPost G T Wx F H σ ρ (fun w ρ' F' H' => ∀ v, RepW G.K Hs F' H' σ ρ' v w → Q v H') (outP p ρ)) : ∃ p', p = some p' ∧ ∀ v F' H', New F H F' H' → HpOk G F' H' → Res G.K F' H H' v p' → Q v H' := by
  cases p with
  | none => exact h.elim
  | some p =>
    refine ⟨p, rfl, fun v F' H' n hp ⟨A, r, fa⟩ => ?_⟩
    refine h F' H' n.ext (en.new n hp) (fun _ z => z) v ⟨A, ?_, ?_, fun a ha => ⟨Classical.byContradiction fun z => hl a z (fa a ha), fun ⟨i, s, e1, e2, e3⟩ => ?_⟩⟩
    · cases p <;> exact r
    · cases p with
      | fz d => obtain ⟨rfl, _⟩ := r; exact List.nodup_nil
      | fl xs => obtain ⟨a, vs, _, rfl, _⟩ := r; simp
    · have z := en.at_ i s e1
      rw [e3] at z
      have nn := fa a ha
      cases s with
      | un => cases e2
      | er c => cases e2
      | sc ns => cases e2
      | fz d => cases e2
      | fl xs => obtain ⟨a', vs, e, h1, _⟩ := z; cases e; rw [nn] at h1; cases h1
      | io j xs => obtain ⟨a', vs, e, h1, _⟩ := z; cases e; rw [nn] at h1; cases h1
theorem bin_core {r : R2} {g : D → D → Option P1} {fa fb : Env → R W} (hp : Prim2 G r g) (h : tE G Wx (eBin g fa fb) σ H Q) : tOp r (tE G Wx fa) (tE G Wx fb) σ H Q := by
  obtain ⟨T, F, ρ, en, p⟩ := h
  refine tE_nrm en ((RPost.bind p).imp fun wa ρ1 F1 H1 e1 en1 l1 p1 v rv => ?_)
  refine tE_nrm en1 ((RPost.bind p1).imp fun wb ρ2 F2 H2 e2 en2 l2 p2 u ru => ?_)
  cases ea : wa.dat ρ2 with
  | none => rw [ea] at p2; exact p2.elim
  | some a =>
    cases eb : wb.dat ρ2 with
    | none => rw [ea, eb] at p2; exact p2.elim
    | some b =>
      rw [ea, eb] at p2
      obtain ⟨p', eg, q⟩ := out_post (fun a z => e2.live a (e1.live a z)) en2 p2
      exact hp F2 H2 v u a b p' Q en2.hp ((rv.mono e2.fle).read en2 ea) (ru.read en2 eb) eg q
theorem un_core {r : V → Hp → VK → Prop} {g : D → Option P1} {fa : Env → R W} (hp : Prim1 G r g) (h : tE G Wx (eUn g fa) σ H Q) : tUn r (tE G Wx fa) σ H Q := by
  obtain ⟨T, F, ρ, en, p⟩ := h
  refine tE_nrm en ((RPost.bind p).imp fun wa ρ1 F1 H1 e1 en1 l1 p1 v rv => ?_)
  cases ea : wa.dat ρ1 with
  | none => rw [ea] at p1; exact p1.elim
  | some a =>
    rw [ea] at p1
    obtain ⟨p', eg, q⟩ := out_post e1.live en1 p1
    exact hp F1 H1 v a p' Q en1.hp (rv.read en1 ea) eg q
end

section
variable {C : Ct} {a b : Expr} {fa fb : Env → R W} {pos : Pos}
theorem pd_op {op : Operator} {r : Cx → R2} {g : D → D → Option P1} (ho : ∀ X Wx, Cok X C Wx → OpR X (binaryOp op) (r X)) (hp : ∀ X Wx, Cok X C Wx → Prim2 C.G (r X) g) (ha : PD C a fa) (hb : PD C b fb) : PD C (.BinOp a op b pos) (eBin g fa fb) := by
  intro X Wx ok
  exact PE.to (pe_op (ho X Wx ok) (ha X Wx ok) (hb X Wx ok)) fun σ H Q h => bin_core (hp X Wx ok) h
theorem pd_un {op : UnaryOp} {r : Cx → V → Hp → VK → Prop} {g : D → Option P1} (ho : ∀ X Wx, Cok X C Wx → UnR X (unaryOp op) (r X)) (hp : ∀ X Wx, Cok X C Wx → Prim1 C.G (r X) g) (ha : PD C a fa) : PD C (.UnaryOp op a pos) (eUn g fa) := by
  intro X Wx ok
  exact PE.to (pe_un (ho X Wx ok) (ha X Wx ok)) fun σ H Q h => un_core (hp X Wx ok) h
theorem pd_cmp {op : CmpOp} {r : Cx → R2} {g : D → D → Option P1} (ho : ∀ X Wx, Cok X C Wx → OpR X (compareOp op) (r X)) (hp : ∀ X Wx, Cok X C Wx → Prim2 C.G (r X) g) (ha : PD C a fa) (hb : PD C b fb) (hm : behindInMarks op b = false) : PD C (.Compare a [op] [b] pos) (eBin g fa fb) := by
  intro X Wx ok
  exact PE.to (pe_cmpR (ho X Wx ok) (ha X Wx ok) (hb X Wx ok) hm) fun σ H Q h => bin_core (hp X Wx ok) h
end
end PL
end
section
set_option Elab.async false
set_option linter.all false
set_option maxRecDepth 100000
set_option maxHeartbeats 2000000
set_option autoImplicit false
/-! Operators, comparisons, subscripts, built-ins by values. -/
namespace PL
open PySem PySem.Spec PyProof.Rows L2

section
variable {G : GG} {F H F' H' : Hp}
theorem res_sc {d : D} {v : V} (r : Rep G.K F d v) : Res G.K F H H v (.fz d) := ⟨[], ⟨rfl, r⟩, by simp⟩
theorem res_fz {d : D} {v : V} (r : Rep G.K F' d v) : Res G.K F' H H' v (.fz d) := ⟨[], ⟨rfl, r⟩, by simp⟩
theorem RepC.rep' (ok : HpOk G F H) {d : D} {v : V} (h : RepC G.K F H d v) : Rep G.K H d v := RepC.rep ok.sub h
theorem repC_int {i : Int} {v : V} (h : RepC G.K F H (.int i) v) : v = .int i := by
  have h : Rep G.K F (.int i) v := h
  rw [Rep] at h; exact h
theorem repC_bl {b : Bool} {v : V} (h : RepC G.K F H (.bool b) v) : v = .bl b := by
  have h : Rep G.K F (.bool b) v := h
  rw [Rep] at h; exact h
theorem repC_str {x : Str} {v : V} (h : RepC G.K F H (.str x) v) : v = .str x ∧ x.length ≤ sizeLine ∧ PyData.strOk x = true := by
  have h : Rep G.K F (.str x) v := h
  rw [Rep] at h; exact h
theorem repC_non {v : V} (h : RepC G.K F H .none v) : v = .non := by
  have h : Rep G.K F .none v := h
  rw [Rep] at h; exact h
theorem repC_lst {xs : List D} {v : V} (h : RepC G.K F H (.list xs) v) : ∃ a vs, v = .ref a ∧ H a = some (.lst vs) ∧ vs.length ≤ sizeLine ∧ Reps G.K F xs vs := h
theorem repC_tup {xs : List D} {v : V} (h : RepC G.K F H (.tuple xs) v) : ∃ a vs, v = .ref a ∧ SqT G.K F a vs ∧ vs.length ≤ sizeLine ∧ Reps G.K F xs vs := by
  have h : Rep G.K F (.tuple xs) v := h
  rw [Rep] at h; exact h
theorem rep_int {i : Int} : Rep G.K F (.int i) (.int i) := by rw [Rep]
theorem rep_bl {b : Bool} : Rep G.K F (.bool b) (.bl b) := by rw [Rep]
theorem rep_non : Rep G.K F .none .non := by rw [Rep]
theorem rep_str {x : Str} (h1 : x.length ≤ sizeLine) (h2 : PyData.strOk x = true) : Rep G.K F (.str x) (.str x) := by rw [Rep]; exact ⟨rfl, h1, h2⟩
theorem rep_tup {xs : List D} {a : Addr} {vs : List V} (h : F a = some (.tup vs)) (l : vs.length ≤ sizeLine) (r : Reps G.K F xs vs) : Rep G.K F (.tuple xs) (.ref a) := by
  rw [Rep]; exact ⟨a, vs, rfl, SqT.of h, l, r⟩
/-- a new tuple -/
theorem new_tup {xs : List D} {vs : List V} {p : Addr} (ok : HpOk G F H) (l : vs.length ≤ sizeLine) (r : Reps G.K F xs vs) (hp : H p = none) :
    New F H (upd F p (.tup vs)) (upd H p (.tup vs)) ∧ HpOk G (upd F p (.tup vs)) (upd H p (.tup vs)) ∧ Rep G.K (upd F p (.tup vs)) (.tuple xs) (.ref p) := by
  have n := New.frozen (o := .tup vs) ok hp
  exact ⟨n, ok.frozen hp (fun ps e => by cases e), rep_tup upd_same l (r.mono n.fle)⟩
/-- a new list -/
theorem new_lst {xs : List D} {vs : List V} {p : Addr} (ok : HpOk G F H) (l : vs.length ≤ sizeLine) (r : Reps G.K F xs vs) (hp : H p = none) :
    New F H F (upd H p (.lst vs)) ∧ HpOk G F (upd H p (.lst vs)) ∧ Res G.K F H (upd H p (.lst vs)) (.ref p) (.fl xs) := by
  have n := New.own (F := F) (o := .lst vs) hp
  exact ⟨n, ok.own hp, [p], ⟨p, vs, rfl, rfl, upd_same, ok.sub.free hp, l, r⟩, by simp [hp]⟩
end

/-! ### arithmetic -/
def addD : D → D → Option P1
  | .int i, .int j => some (.fz (.int (i + j)))
  | .list xs, .list ys => if xs.length + ys.length ≤ sizeLine then some (.fl (xs ++ ys)) else none
  | .tuple xs, .tuple ys => if xs.length + ys.length ≤ sizeLine then some (.fz (.tuple (xs ++ ys))) else none
  | .str x, .str y => if x.length + y.length ≤ sizeLine ∧ PyData.strOk (x ++ y) = true then some (.fz (.str (x ++ y))) else none
  | _, _ => none
def subD : D → D → Option P1
  | .int i, .int j => some (.fz (.int (i - j)))
  | _, _ => none
def repS (z : Str) (k : Int) : Str := if k = 1 then z else ⟨(List.replicate k.toNat z.cps).foldl (· ++ ·) #[]⟩
def mulD : D → D → Option P1
  | .int i, .int j => if i.natAbs.log2 + j.natAbs.log2 < 1000000 then some (.fz (.int (i * j))) else none
  | .list xs, .int k => if -(2 ^ 63) ≤ k ∧ k < 2 ^ 63 ∧ xs.length * k.toNat ≤ sizeLine then some (.fl (List.replicate k.toNat xs).flatten) else none
  | .tuple xs, .int k => if xs.isEmpty = false ∧ 2 ≤ k ∧ k ≤ 1000 ∧ xs.length ≤ 1000 then some (.fz (.tuple (List.replicate k.toNat xs).flatten)) else none
  | .str z, .int k => if 1 ≤ k ∧ k ≤ 1000 ∧ 1 ≤ z.length ∧ z.length ≤ 1000 ∧ (repS z k).length ≤ sizeLine ∧ PyData.strOk (repS z k) = true then some (.fz (.str (repS z k))) else none
  | _, _ => none
def fdivD : D → D → Option P1
  | .int i, .int j => if 0 < j ∧ j.natAbs.log2 < 9000 then some (.fz (.int (i / j))) else none
  | _, _ => none
def modD : D → D → Option P1
  | .int i, .int j => if 0 < j then some (.fz (.int (i % j))) else none
  | _, _ => none
def powD : D → D → Option P1
  | .int i, .int j => if 0 ≤ j ∧ j ≤ 1000000 ∧ i.natAbs < 2 ^ 64 then some (.fz (.int (i ^ j.toNat))) else none
  | _, _ => none
def shrD : D → D → Option P1
  | .int i, .int j => if 0 ≤ j then some (.fz (.int (i / 2 ^ j.toNat))) else none
  | _, _ => none
def xorD : D → D → Option P1
  | .int i, .int j => some (.fz (.int (Builtin.bitXor i j)))
  | _, _ => none
def negD : D → Option P1
  | .int i => some (.fz (.int (-i)))
  | _ => none

def rAddA (K : PySem.W.Frag) : R2 := fun x y H Q => (∃ i j, x = .int i ∧ y = .int j ∧ Q (.int (i + j)) H) ∨ rCat x y H Q ∨ rCatA K x y H Q ∨ (∃ i j, x = .str i ∧ y = .str j ∧ i.length + j.length ≤ sizeLine ∧ Q (.str (i ++ j)) H)
theorem op_addA {X : Cx} : OpR X (binaryOp .Add) (rAddA X.K) := op_add.or (op_cat.or (op_catA.or op_add_str))
theorem pr_add {G : GG} {K : PySem.W.Frag} (hK : K = G.K) : Prim2 G (rAddA K) addD := by
  subst hK
  intro F H x y a b p Q ok ra rb e q
  cases a <;> cases b <;> try (simp [addD] at e; done)
  · rename_i i j
    obtain rfl := repC_int ra
    obtain rfl := repC_int rb
    cases e
    exact .inl ⟨i, j, rfl, rfl, q _ F H New.refl ok (res_sc rep_int)⟩
  · rename_i i j
    obtain ⟨rfl, h1, h2⟩ := repC_str ra
    obtain ⟨rfl, h3, h4⟩ := repC_str rb
    simp only [addD] at e
    split at e
    · rename_i hz
      cases e
      exact .inr (.inr (.inr ⟨i, j, rfl, rfl, hz.1, q _ F H New.refl ok (res_sc (rep_str (by
        have : (i ++ j).length = i.length + j.length := by
          first
            | rfl
            | simp
            | exact PySem.Str.length_append ..
        omega) hz.2))⟩))
    · cases e
  · rename_i xs ys
    obtain ⟨l, vs, rfl, h1, z1, r1⟩ := repC_lst ra
    obtain ⟨b, us, rfl, h2, z2, r2⟩ := repC_lst rb
    simp only [addD] at e
    split at e
    · rename_i hz
      cases e
      have hl : vs.length + us.length ≤ sizeLine := by rw [r1.len, r2.len]; exact hz
      refine .inr (.inl ⟨l, b, vs, us, rfl, rfl, h1, h2, hl, fun p hp => ?_⟩)
      obtain ⟨n, k, r⟩ := new_lst ok (by rw [List.length_append]; exact hl) (r1.append r2) hp
      exact q _ _ _ n k r
    · cases e
  · rename_i xs ys
    obtain ⟨l, vs, rfl, h1, z1, r1⟩ := repC_tup ra
    obtain ⟨b, us, rfl, h2, z2, r2⟩ := repC_tup rb
    simp only [addD] at e
    split at e
    · rename_i hz
      cases e
      have hl : vs.length + us.length ≤ sizeLine := by rw [r1.len, r2.len]; exact hz
      refine .inr (.inr (.inl ⟨l, b, vs, us, rfl, rfl, Same.sqT ok.sub h1, Same.sqT ok.sub h2, hl, fun e0 => ?_, fun _ e0 => ?_, fun _ _ p hp => ?_⟩))
      · have z : xs = [] := by
          have := r1.len
          rw [e0] at this
          exact List.length_eq_zero_iff.mp this.symm
        rw [z, List.nil_append] at q
        exact q _ F H New.refl ok (res_sc (by rw [Rep]; exact ⟨b, us, rfl, h2, z2, r2⟩))
      · have z : ys = [] := by
          have := r2.len
          rw [e0] at this
          exact List.length_eq_zero_iff.mp this.symm
        rw [z, List.append_nil] at q
        exact q _ F H New.refl ok (res_sc (by rw [Rep]; exact ⟨l, vs, rfl, h1, z1, r1⟩))
      · obtain ⟨n, k, r⟩ := new_tup ok (by rw [List.length_append]; exact hl) (r1.append r2) hp
        exact q _ _ _ n k (res_fz r)
    · cases e
theorem pr_int0 {G : GG} {g : Int → Int → Int} {gd : D → D → Option P1} (h1 : ∀ i j, gd (.int i) (.int j) = some (.fz (.int (g i j)))) (h2 : ∀ a b p, gd a b = some p → ∃ i j, a = .int i ∧ b = .int j) : Prim2 G (rI0 fun i j => .int (g i j)) gd := by
  intro F H x y a b p Q ok ra rb e q
  obtain ⟨i, j, rfl, rfl⟩ := h2 a b p e
  obtain rfl := repC_int ra
  obtain rfl := repC_int rb
  rw [h1] at e
  cases e
  exact ⟨i, j, rfl, rfl, q _ F H New.refl ok (res_sc rep_int)⟩
theorem pr_int {G : GG} {Cn : Int → Int → Prop} {g : Int → Int → Int} {gd : D → D → Option P1} (h : ∀ a b p, gd a b = some p → ∃ i j, a = .int i ∧ b = .int j ∧ Cn i j ∧ p = .fz (.int (g i j))) : Prim2 G (rI Cn fun i j => .int (g i j)) gd := by
  intro F H x y a b p Q ok ra rb e q
  obtain ⟨i, j, rfl, rfl, c, rfl⟩ := h a b p e
  obtain rfl := repC_int ra
  obtain rfl := repC_int rb
  exact ⟨i, j, rfl, rfl, c, q _ F H New.refl ok (res_sc rep_int)⟩
theorem pr_sub {G : GG} : Prim2 G (rI0 fun i j => .int (i - j)) subD := pr_int0 (fun _ _ => rfl) fun a b p e => by cases a <;> cases b <;> first | exact ⟨_, _, rfl, rfl⟩ | simp [subD] at e
theorem pr_xor {G : GG} : Prim2 G (rI0 fun i j => .int (Builtin.bitXor i j)) xorD := pr_int0 (fun _ _ => rfl) fun a b p e => by cases a <;> cases b <;> first | exact ⟨_, _, rfl, rfl⟩ | simp [xorD] at e
theorem pr_fdiv {G : GG} : Prim2 G (rI CDivW fun i j => .int (i / j)) fdivD := pr_int fun a b p e => by
  cases a <;> cases b <;> try (simp [fdivD] at e; done)
  simp only [fdivD] at e
  split at e
  · rename_i h; cases e; exact ⟨_, _, rfl, rfl, h, rfl⟩
  · cases e
theorem pr_mod {G : GG} : Prim2 G (rI (fun _ j => 0 < j) fun i j => .int (i % j)) modD := pr_int fun a b p e => by
  cases a <;> cases b <;> try (simp [modD] at e; done)
  simp only [modD] at e
  split at e
  · rename_i h; cases e; exact ⟨_, _, rfl, rfl, h, rfl⟩
  · cases e
theorem pr_pow {G : GG} : Prim2 G (rI CPow fun i j => .int (i ^ j.toNat)) powD := pr_int fun a b p e => by
  cases a <;> cases b <;> try (simp [powD] at e; done)
  simp only [powD] at e
  split at e
  · rename_i h; cases e; exact ⟨_, _, rfl, rfl, h, rfl⟩
  · cases e
theorem pr_shr {G : GG} : Prim2 G (rI (fun _ j => 0 ≤ j) fun i j => .int (i / 2 ^ j.toNat)) shrD := pr_int fun a b p e => by
  cases a <;> cases b <;> try (simp [shrD] at e; done)
  simp only [shrD] at e
  split at e
  · rename_i h; cases e; exact ⟨_, _, rfl, rfl, h, rfl⟩
  · cases e
def rMulS : R2 := fun x y H Q => ∃ z k, x = .str z ∧ y = .int k ∧ 1 ≤ k ∧ k ≤ 1000 ∧ 1 ≤ z.length ∧ z.length ≤ 1000 ∧ (repS z k).length ≤ sizeLine ∧ Q (.str (repS z k)) H
theorem op_mulS {X : Cx} : OpR X (binaryOp .Mult) rMulS := by
  intro pins s σ H x y v u Q I rx ry h
  obtain ⟨z, k, rfl, rfl, h1, h2, h3, h4, h5, q⟩ := h
  obtain ⟨t, rfl⟩ := rx
  obtain ⟨t2, rfl⟩ := ry
  refine P.mul_str ?_ ?_ ?_ ?_
  · rw [decide_eq_false (by omega), decide_eq_false (by omega)]; rfl
  · intro _ _ c
    have : (1000 : Int) ≤ (2 ^ 63 - 1) / k := by
      rw [Int.le_ediv_iff_mul_le (by omega)]
      omega
    omega
  · intro _ _
    have : z.length * k.toNat ≤ 1000 * 1000 := Nat.mul_le_mul h4 (by omega)
    show decide (z.length * k.toNat > sizeLine) = false
    have c : 1000 * 1000 ≤ sizeLine := by decide
    exact decide_eq_false (by omega)
  · rw [if_neg (by omega)]
    have z0 : (z.length == 0) = false := by
      rw [beq_eq_false_iff_ne]
      omega
    rw [z0, Bool.or_false]
    unfold repS at h5 q
    by_cases c : k = 1
    · rw [if_pos c] at q
      rw [if_pos (by rw [c]; rfl)]
      exact ⟨.str z, H, I, ⟨t, rfl⟩, q⟩
    · rw [if_neg c] at q h5
      rw [if_neg (by rw [beq_iff_eq]; exact c)]
      exact ⟨h5, .str _, H, I.tok _, ⟨_, rfl⟩, q⟩
def rMulA (K : PySem.W.Frag) : R2 := fun x y H Q => (∃ i j, x = .int i ∧ y = .int j ∧ CMulW i j ∧ Q (.int (i * j)) H) ∨ rRep x y H Q ∨ rRepT K x y H Q ∨ rMulS x y H Q
theorem op_mulA {X : Cx} : OpR X (binaryOp .Mult) (rMulA X.K) := op_mulW.or (op_rep.or (op_repT.or op_mulS))
theorem pr_mul {G : GG} {K : PySem.W.Frag} (hK : K = G.K) : Prim2 G (rMulA K) mulD := by
  subst hK
  intro F H x y a b p Q ok ra rb e q
  cases a <;> cases b <;> try (simp [mulD] at e; done)
  · rename_i i j
    obtain rfl := repC_int ra
    obtain rfl := repC_int rb
    simp only [mulD] at e
    split at e
    · rename_i h
      cases e
      exact .inl ⟨i, j, rfl, rfl, h, q _ F H New.refl ok (res_sc rep_int)⟩
    · cases e
  · rename_i z k
    obtain ⟨rfl, _, _⟩ := repC_str ra
    obtain rfl := repC_int rb
    simp only [mulD] at e
    split at e
    · rename_i h
      cases e
      obtain ⟨h1, h2, h3, h4, h5, h6⟩ := h
      exact .inr (.inr (.inr ⟨z, k, rfl, rfl, h1, h2, h3, h4, h5, q _ F H New.refl ok (res_sc (rep_str h5 h6))⟩))
    · cases e
  · rename_i xs k
    obtain ⟨l, vs, rfl, h1, z1, r1⟩ := repC_lst ra
    obtain rfl := repC_int rb
    simp only [mulD] at e
    split at e
    · rename_i h
      cases e
      have hz : vs.length * k.toNat ≤ sizeLine := by rw [r1.len]; exact h.2.2
      refine .inr (.inl ⟨l, k, vs, rfl, rfl, h1, h.1, h.2.1, hz, fun p hp => ?_⟩)
      obtain ⟨n, kk, r⟩ := new_lst ok (by rw [PyProof.Rows.lm_len_rep_flat, Nat.mul_comm]; exact hz) (r1.replicate k.toNat) hp
      exact q _ _ _ n kk r
    · cases e
  · rename_i xs k
    obtain ⟨l, vs, rfl, h1, z1, r1⟩ := repC_tup ra
    obtain rfl := repC_int rb
    simp only [mulD] at e
    split at e
    · rename_i h
      cases e
      obtain ⟨h0, h2, h3, h4⟩ := h
      have hlen : vs.length = xs.length := r1.len
      have hz : (List.replicate k.toNat vs).flatten.length ≤ sizeLine := by
        rw [PyProof.Rows.lm_len_rep_flat, hlen]
        have a : k.toNat ≤ 1000 := by omega
        have b : k.toNat * xs.length ≤ 1000 * 1000 := Nat.mul_le_mul a h4
        have c : 1000 * 1000 ≤ sizeLine := by decide
        omega
      refine .inr (.inr (.inl ⟨l, k, vs, rfl, rfl, Same.sqT ok.sub h1, fun e0 => ?_, h2, h3, by omega, fun p hp => ?_⟩))
      · rw [e0] at hlen
        cases xs with
        | nil => cases h0
        | cons a r => simp at hlen
      · obtain ⟨n, kk, r⟩ := new_tup ok hz (r1.replicate k.toNat) hp
        exact q _ _ _ n kk (res_fz r)
    · cases e
theorem pr_neg {G : GG} : Prim1 G (rU fun i => .int (-i)) negD := by
  intro F H x a p Q ok ra e q
  cases a <;> try (simp [negD] at e; done)
  obtain rfl := repC_int ra
  cases e
  exact ⟨_, rfl, q _ F H New.refl ok (res_sc rep_int)⟩

/-! ### comparisons -/
def eqD (a b : D) : Option P1 := if a.depth ≤ 64 ∧ b.depth ≤ 64 then some (.fz (.bool (PyData.eqv a b))) else none
def neD (a b : D) : Option P1 := if a.depth ≤ 64 ∧ b.depth ≤ 64 then some (.fz (.bool (!PyData.eqv a b))) else none
theorem shaped_of {G : GG} {F H : Hp} {d : D} {v : V} (ok : HpOk G F H) (r : RepC G.K F H d v) (h : d.depth ≤ 64) : SeqAt.shaped d = true := by
  unfold SeqAt.shaped
  rw [Rep.can (r.rep' ok), decide_eq_true h]
  rfl
theorem pr_eq {G : GG} {K : PySem.W.Frag} (hK : K = G.K) : Prim2 G (rEqD K) eqD := by
  subst hK
  intro F H x y a b p Q ok ra rb e q
  simp only [eqD] at e
  split at e
  · rename_i h
    cases e
    exact ⟨a, b, Rep.dp (ra.rep' ok), Rep.dp (rb.rep' ok), shaped_of ok ra h.1, shaped_of ok rb h.2, q _ F H New.refl ok (res_sc rep_bl)⟩
  · cases e
theorem pr_ne {G : GG} {K : PySem.W.Frag} (hK : K = G.K) : Prim2 G (rNeD K) neD := by
  subst hK
  intro F H x y a b p Q ok ra rb e q
  simp only [neD] at e
  split at e
  · rename_i h
    cases e
    exact ⟨a, b, Rep.dp (ra.rep' ok), Rep.dp (rb.rep' ok), shaped_of ok ra h.1, shaped_of ok rb h.2, q _ F H New.refl ok (res_sc rep_bl)⟩
  · cases e
def ltD : D → D → Option P1
  | .int i, .int j => some (.fz (.bool (decide (i < j))))
  | .str x, .str y => some (.fz (.bool (decide (x.cps.toList < y.cps.toList))))
  | _, _ => none
def leD : D → D → Option P1
  | .int i, .int j => some (.fz (.bool (decide (i ≤ j))))
  | .str x, .str y => some (.fz (.bool (!decide (y.cps.toList < x.cps.toList))))
  | _, _ => none
def gtD : D → D → Option P1
  | .int i, .int j => some (.fz (.bool (decide (j < i))))
  | .str x, .str y => some (.fz (.bool (decide (y.cps.toList < x.cps.toList))))
  | _, _ => none
def geD : D → D → Option P1
  | .int i, .int j => some (.fz (.bool (decide (j ≤ i))))
  | _, _ => none
abbrev rStrB (g : Str → Str → Bool) : R2 := fun x y H Q => ∃ i j, x = .str i ∧ y = .str j ∧ Q (.bl (g i j)) H
abbrev rIS (f : Int → Int → Bool) (g : Str → Str → Bool) : R2 := fun x y H Q => (∃ i j, x = .int i ∧ y = .int j ∧ Q (.bl (f i j)) H) ∨ rStrB g x y H Q
theorem op_ltA {X : Cx} : OpR X (compareOp .Lt) (rIS (fun i j => decide (i < j)) fun i j => decide (i.cps.toList < j.cps.toList)) := op_lt.or op_lt_str
theorem op_leA {X : Cx} : OpR X (compareOp .LtE) (rIS (fun i j => decide (i ≤ j)) fun i j => !decide (j.cps.toList < i.cps.toList)) := op_le.or op_le_str
theorem op_gtA {X : Cx} : OpR X (compareOp .Gt) (rIS (fun i j => decide (j < i)) fun i j => decide (j.cps.toList < i.cps.toList)) := op_gt.or op_gt_str
theorem pr_IS {G : GG} {f : Int → Int → Bool} {g : Str → Str → Bool} {gd : D → D → Option P1}
    (h : ∀ a b p, gd a b = some p → (∃ i j, a = .int i ∧ b = .int j ∧ p = .fz (.bool (f i j))) ∨ ∃ i j, a = .str i ∧ b = .str j ∧ p = .fz (.bool (g i j))) : Prim2 G (rIS f g) gd := by
  intro F H x y a b p Q ok ra rb e q
  rcases h a b p e with ⟨i, j, rfl, rfl, rfl⟩ | ⟨i, j, rfl, rfl, rfl⟩
  · obtain rfl := repC_int ra
    obtain rfl := repC_int rb
    exact .inl ⟨i, j, rfl, rfl, q _ F H New.refl ok (res_sc rep_bl)⟩
  · obtain ⟨rfl, _, _⟩ := repC_str ra
    obtain ⟨rfl, _, _⟩ := repC_str rb
    exact .inr ⟨i, j, rfl, rfl, q _ F H New.refl ok (res_sc rep_bl)⟩
theorem pr_lt {G : GG} : Prim2 G (rIS (fun i j => decide (i < j)) fun i j => decide (i.cps.toList < j.cps.toList)) ltD := pr_IS fun a b p e => by
  cases a <;> cases b <;> first | (cases e; exact .inl ⟨_, _, rfl, rfl, rfl⟩) | (cases e; exact .inr ⟨_, _, rfl, rfl, rfl⟩) | (simp [ltD] at e)
theorem pr_le {G : GG} : Prim2 G (rIS (fun i j => decide (i ≤ j)) fun i j => !decide (j.cps.toList < i.cps.toList)) leD := pr_IS fun a b p e => by
  cases a <;> cases b <;> first | (cases e; exact .inl ⟨_, _, rfl, rfl, rfl⟩) | (cases e; exact .inr ⟨_, _, rfl, rfl, rfl⟩) | (simp [leD] at e)
theorem pr_gt {G : GG} : Prim2 G (rIS (fun i j => decide (j < i)) fun i j => decide (j.cps.toList < i.cps.toList)) gtD := pr_IS fun a b p e => by
  cases a <;> cases b <;> first | (cases e; exact .inl ⟨_, _, rfl, rfl, rfl⟩) | (cases e; exact .inr ⟨_, _, rfl, rfl, rfl⟩) | (simp [gtD] at e)
theorem pr_ge {G : GG} : Prim2 G (rI0 fun i j => .bl (decide (j ≤ i))) geD := by
  intro F H x y a b p Q ok ra rb e q
  cases a <;> cases b <;> try (simp [geD] at e; done)
  obtain rfl := repC_int ra
  obtain rfl := repC_int rb
  cases e
  exact ⟨_, _, rfl, rfl, q _ F H New.refl ok (res_sc rep_bl)⟩
def flatD : D → Bool
  | .none => true
  | .bool _ => true
  | .int _ => true
  | .str _ => true
  | _ => false
theorem flat_rep {K : PySem.W.Frag} {F : Hp} {d : D} {v : V} (h : flatD d = true) (r : Rep K F d v) : flatV v = true := by
  cases d <;> try (simp [flatD] at h; done)
  all_goals (rw [Rep] at r)
  · subst r; rfl
  · subst r; rfl
  · subst r; rfl
  · obtain ⟨rfl, _⟩ := r; rfl
theorem eqv_rep {K : PySem.W.Frag} {F : Hp} {d e : D} {v u : V} (h : flatD d = true) (h' : flatD e = true) (r : Rep K F d v) (r' : Rep K F e u) : eqV v u = PyData.eqv d e := by
  cases d <;> try (simp [flatD] at h; done)
  all_goals (cases e <;> try (simp [flatD] at h'; done))
  all_goals (rw [Rep] at r)
  all_goals (rw [Rep] at r')
  all_goals (first | (subst r; subst r'; rfl) | (obtain ⟨rfl, _⟩ := r; subst r'; rfl) | (subst r; obtain ⟨rfl, _⟩ := r'; rfl) | (obtain ⟨rfl, _⟩ := r; obtain ⟨rfl, _⟩ := r'; rfl) | (obtain ⟨rfl, _⟩ := r; obtain ⟨rfl, _⟩ := r'; simp [eqV, PyData.eqv]))
theorem inV_rep {K : PySem.W.Frag} {F : Hp} {d : D} {v : V} (h : flatD d = true) (r : Rep K F d v) : ∀ {ds : List D} {vs : List V}, Reps K F ds vs → ds.all flatD = true → vs.all flatV = true ∧ inV v vs = ds.any fun z => PyData.eqv z d
  | [], vs, rs, _ => by
    rw [Reps] at rs
    subst rs
    exact ⟨rfl, rfl⟩
  | z :: ds, vs, rs, hf => by
    obtain ⟨w, t, rfl, r1, r2⟩ := reps_cons_inv rs
    have hf' := Bool.and_eq_true_iff.mp (show (flatD z && ds.all flatD) = true from hf)
    obtain ⟨i1, i2⟩ := inV_rep h r r2 hf'.2
    refine ⟨?_, ?_⟩
    · show (flatV w && t.all flatV) = true
      rw [flat_rep hf'.1 r1, i1]; rfl
    · show (eqV w v || inV v t) = (PyData.eqv z d || ds.any fun z => PyData.eqv z d)
      rw [eqv_rep hf'.1 h r1 r, i2]
def inD (x : D) : D → Option P1
  | .list ds => if x.depth ≤ 64 ∧ (PyData.list ds).depth ≤ 64 then some (.fz (.bool (ds.any fun z => PyData.eqv z x))) else none
  | .tuple ds => if flatD x = true ∧ ds.all flatD = true then some (.fz (.bool (ds.any fun z => PyData.eqv z x))) else none
  | _ => none
def notInD (x : D) : D → Option P1
  | .list ds => if x.depth ≤ 64 ∧ (PyData.list ds).depth ≤ 64 then some (.fz (.bool (!ds.any fun z => PyData.eqv z x))) else none
  | .tuple ds => if flatD x = true ∧ ds.all flatD = true then some (.fz (.bool (!ds.any fun z => PyData.eqv z x))) else none
  | _ => none
abbrev rInA (K : PySem.W.Frag) : R2 := fun x y H Q => rInD K x y H Q ∨ rIn K false x y H Q
abbrev rNotInA (K : PySem.W.Frag) : R2 := fun x y H Q => rNotInD K x y H Q ∨ rIn K true x y H Q
theorem pr_in {G : GG} {K : PySem.W.Frag} (hK : K = G.K) : Prim2 G (rInA K) inD := by
  subst hK
  intro F H x y a b p Q ok ra rb e q
  cases b <;> try (simp [inD] at e; done)
  · rename_i ds
    simp only [inD] at e
    split at e
    · rename_i h
      cases e
      exact .inl ⟨a, ds, Rep.dp (ra.rep' ok), Rep.dp (rb.rep' ok), shaped_of ok ra h.1, shaped_of ok rb h.2, q _ F H New.refl ok (res_sc rep_bl)⟩
    · cases e
  · rename_i ds
    simp only [inD] at e
    split at e
    · rename_i h
      cases e
      obtain ⟨t, vs, rfl, h1, z1, r1⟩ := repC_tup rb
      obtain ⟨i1, i2⟩ := inV_rep h.1 (ra.rep' ok) (r1.mono ok.sub) h.2
      refine .inr ⟨t, vs, rfl, .inr (Same.sqT ok.sub h1), flat_rep h.1 (ra.rep' ok), i1, ?_⟩
      rw [if_neg Bool.false_ne_true, i2]
      exact q _ F H New.refl ok (res_sc rep_bl)
    · cases e
theorem pr_notIn {G : GG} {K : PySem.W.Frag} (hK : K = G.K) : Prim2 G (rNotInA K) notInD := by
  subst hK
  intro F H x y a b p Q ok ra rb e q
  cases b <;> try (simp [notInD] at e; done)
  · rename_i ds
    simp only [notInD] at e
    split at e
    · rename_i h
      cases e
      exact .inl ⟨a, ds, Rep.dp (ra.rep' ok), Rep.dp (rb.rep' ok), shaped_of ok ra h.1, shaped_of ok rb h.2, q _ F H New.refl ok (res_sc rep_bl)⟩
    · cases e
  · rename_i ds
    simp only [notInD] at e
    split at e
    · rename_i h
      cases e
      obtain ⟨t, vs, rfl, h1, z1, r1⟩ := repC_tup rb
      obtain ⟨i1, i2⟩ := inV_rep h.1 (ra.rep' ok) (r1.mono ok.sub) h.2
      refine .inr ⟨t, vs, rfl, .inr (Same.sqT ok.sub h1), flat_rep h.1 (ra.rep' ok), i1, ?_⟩
      rw [if_pos rfl, i2]
      exact q _ F H New.refl ok (res_sc rep_bl)
    · cases e
def isNoneD : D → Bool
  | .none => true
  | _ => false
def isD : D → D → Option P1
  | a, .none => some (.fz (.bool (isNoneD a)))
  | .bool x, .bool y => some (.fz (.bool (decide (x = y))))
  | _, _ => none
def isNotD : D → D → Option P1
  | a, .none => some (.fz (.bool (!isNoneD a)))
  | .bool x, .bool y => some (.fz (.bool (!decide (x = y))))
  | _, _ => none
theorem none_rep {G : GG} {F H : Hp} {d : D} {v : V} (ok : HpOk G F H) (r : RepC G.K F H d v) : decide (v = .non) = isNoneD d := by
  have r := r.rep' ok
  cases d
  all_goals (rw [Rep] at r)
  · subst r; rfl
  · subst r; rfl
  · subst r; rfl
  · obtain ⟨rfl, _⟩ := r; rfl
  · obtain ⟨a, vs, rfl, _⟩ := r; rfl
  · obtain ⟨a, vs, rfl, _⟩ := r; rfl
  · exact r.elim
abbrev rIsA : R2 := fun x y H Q => (y = .non ∧ Q (.bl (decide (x = .non))) H) ∨ rIsB x y H Q
abbrev rIsNotA : R2 := fun x y H Q => (y = .non ∧ Q (.bl (!decide (x = .non))) H) ∨ rNotB x y H Q
theorem op_isA {X : Cx} : OpR X (compareOp .Is) rIsA := op_isN.or op_isBl
theorem op_isNotA {X : Cx} : OpR X (compareOp .IsNot) rIsNotA := op_notN.or op_notBl
theorem pr_is {G : GG} : Prim2 G rIsA isD := by
  intro F H x y a b p Q ok ra rb e q
  have hb : b = .none ∨ ∃ k, b = .bool k := by
    cases b
    case none => exact .inl rfl
    case bool k => exact .inr ⟨k, rfl⟩
    all_goals (exfalso; cases a <;> simp [isD] at e)
  rcases hb with rfl | ⟨k, rfl⟩
  · obtain rfl := repC_non rb
    cases a <;> (cases e; exact .inl ⟨rfl, by rw [none_rep ok ra]; exact q _ F H New.refl ok (res_sc rep_bl)⟩)
  · cases a <;> try (simp [isD] at e; done)
    obtain rfl := repC_bl ra
    obtain rfl := repC_bl rb
    cases e
    exact .inr ⟨_, _, rfl, rfl, q _ F H New.refl ok (res_sc rep_bl)⟩
theorem pr_isNot {G : GG} : Prim2 G rIsNotA isNotD := by
  intro F H x y a b p Q ok ra rb e q
  have hb : b = .none ∨ ∃ k, b = .bool k := by
    cases b
    case none => exact .inl rfl
    case bool k => exact .inr ⟨k, rfl⟩
    all_goals (exfalso; cases a <;> simp [isNotD] at e)
  rcases hb with rfl | ⟨k, rfl⟩
  · obtain rfl := repC_non rb
    cases a <;> (cases e; exact .inl ⟨rfl, by rw [none_rep ok ra]; exact q _ F H New.refl ok (res_sc rep_bl)⟩)
  · cases a <;> try (simp [isNotD] at e; done)
    obtain rfl := repC_bl ra
    obtain rfl := repC_bl rb
    cases e
    exact .inr ⟨_, _, rfl, rfl, q _ F H New.refl ok (res_sc rep_bl)⟩
end PL
end
section
set_option Elab.async false
set_option linter.all false
set_option maxRecDepth 100000
set_option maxHeartbeats 2000000
set_option autoImplicit false
/-! Arguments, displays, tests, and, or, chains, subscripts, slices, calls of built-ins. -/
namespace PL
open PySem PySem.Spec PyProof.Rows L2

/-! ### a list that a name holds is frozen -/
def fz1 (w : W) (ρ : Env) : R W := match w with
  | .o x => .ok (.o x) ρ
  | .own i => match ρ[i]? with
    | some (.fl xs) => .ok (.val (.list xs)) (ρ.set i (.fz (.list xs)))
    | some (.fz d) => .ok (.val d) ρ
    | _ => .bad
def eFz (f : Env → R W) : Env → R W := fun ρ => (eNrm f ρ).bind fz1
section
variable {G : GG} {T : Fm} {Wx : WX} {F H Hs : Hp} {σ : L2.St} {ρ : Env} {Q : VK}
theorem get_set {i j : Nat} {s : Sl} (h : i < ρ.length) : (ρ.set i s)[j]? = if j = i then some s else ρ[j]? := by
  by_cases e : j = i
  · subst e; rw [List.getElem?_set_self h, if_pos rfl]
  · rw [List.getElem?_set_ne (Ne.symm e), if_neg e]
theorem own_set {i : Nat} {s : Sl} (hs : s.own = false) (hi : i < ρ.length) {a : Addr} (h : Owns σ (ρ.set i s) a) : Owns σ ρ a := by
  obtain ⟨j, t, e1, e2, e3⟩ := h
  rw [get_set hi] at e1
  split at e1
  · cases e1; rw [hs] at e2; cases e2
  · exact ⟨j, t, e1, e2, e3⟩
theorem EnvOk.freeze {i : Nat} {xs : List D} {v : V} (en : EnvOk G T F H σ ρ) (hi : ρ[i]? = some (.fl xs)) (hv : σ[i]? = some (some v)) :
    ∃ F', Ext (Owns σ ρ) F H F' H ∧ EnvOk G T F' H σ (ρ.set i (.fz (.list xs))) ∧ Rep G.K F' (.list xs) v := by
  have hlt : i < ρ.length := (List.getElem?_eq_some_iff.mp hi).1
  obtain ⟨a, vs, ev, h1, h2, h0, l, r⟩ := en.at_ i _ hi
  rw [hv] at ev
  have ev : v = V.ref a := Option.some.inj ev
  subst ev
  have hA : ∀ b ∈ [a], F b = none := fun b hb => by rw [List.mem_singleton.mp hb]; exact h2
  have sm := frz_same (H := H) hA
  have rl : Rep G.K (frzAll H F [a]) (.list xs) (.ref a) := by
    rw [Rep]
    exact ⟨a, vs, rfl, by rw [frz_at (by simp)]; exact h1, l, r.mono sm⟩
  refine ⟨frzAll H F [a], ⟨sm, fun _ _ e _ _ => e, fun b hb hn => frz_ne fun hm => hn ?_, fun _ z => z⟩, ⟨frz_hp en.hp fun b hb => by rw [List.mem_singleton.mp hb]; exact ⟨vs, h1⟩, en.live0, by rw [List.length_set]; exact en.len, fun j s e => ?_, fun j k b s t e1 o1 e2 o2 s1 s2 => ?_⟩, rl⟩
  · rw [List.mem_singleton.mp hm]
    exact ⟨i, _, hi, rfl, hv⟩
  · rw [get_set hlt] at e
    split at e
    · rename_i ej
      subst ej
      cases e
      exact ⟨.ref a, by rw [hv] <;> rfl, rl⟩
    · rename_i ej
      refine (en.at_ j s e).frz hA fun ho b eb hm => ej ?_
      have : b = a := by simpa using hm
      subst this
      exact en.sep j i b s _ e ho hi rfl (join_ref eb) hv
  · rw [get_set hlt] at e1 e2
    split at e1
    · cases e1; cases o1
    · split at e2
      · cases e2; cases o2
      · exact en.sep j k b s t e1 o1 e2 o2 s1 s2
/-- with the weaker freshness of a composite expression -/
theorem fz_post {r : R W} (h : RPost G T Wx F H σ ρ (fun w ρ' F' H' => ∀ v, RepN G.K F' σ v w → Q v H') ((r.bind fun w ρ' => .ok w.nrm ρ').bind fz1)) : EPost G T Wx F H σ ρ Q r := by
  refine nrm_post ((RPost.bind h).imp fun w ρ1 F1 H1 e1 en1 l1 p1 v rv => ?_)
  cases w with
  | o x =>
    exact RPost.here en1 p1 v rv
  | own i =>
    have rv : σ[i]? = some (some v) := rv
    unfold fz1 at p1
    cases e : ρ1[i]? with
    | none => simp only [e] at p1; exact p1.elim
    | some s =>
      simp only [e] at p1
      have z := en1.at_ i s e
      cases s with
      | un => exact p1.elim
      | er c => exact p1.elim
      | sc ns => exact p1.elim
      | io j xs => exact p1.elim
      | fz d =>
        obtain ⟨v', ev, r'⟩ := z
        rw [rv] at ev
        cases ev
        exact RPost.here en1 p1 v r'
      | fl xs =>
        obtain ⟨F2, x2, en2, r2⟩ := en1.freeze e rv
        exact p1 F2 H1 x2 en2 (fun a ha => own_set rfl (List.getElem?_eq_some_iff.mp e).1 ha) v r2
theorem tE_fz {f : Env → R W} (en : EnvOk G T F H σ ρ) (h : NPost G T Wx F H σ ρ Q (eFz f ρ)) : tE G Wx f σ H Q := ⟨T, F, ρ, en, fz_post h⟩
end

/-! ### arguments -/
def RepNs (K : PySem.W.Frag) (F : Hp) (σ : L2.St) : List W → List V → Prop
  | [], vs => vs = []
  | w :: ws, vs => ∃ v r, vs = v :: r ∧ RepN K F σ v w ∧ RepNs K F σ ws r
theorem RepNs.mono {K : PySem.W.Frag} {F F' : Hp} {σ : L2.St} (s : Same F F') : ∀ {ws : List W} {vs : List V}, RepNs K F σ ws vs → RepNs K F' σ ws vs
  | [], _, h => h
  | w :: ws, _, h => by
    obtain ⟨v, r, rfl, h1, h2⟩ := h
    exact ⟨v, r, rfl, h1.mono s, RepNs.mono s h2⟩
def datAll (ρ : Env) : List W → Option (List D)
  | [] => some []
  | w :: ws => match w.dat ρ, datAll ρ ws with
    | some d, some ds => some (d :: ds)
    | _, _ => none
theorem RepNs.read {G : GG} {T : Fm} {F H : Hp} {σ : L2.St} {ρ : Env} (en : EnvOk G T F H σ ρ) : ∀ {ws : List W} {vs : List V} {ds : List D}, RepNs G.K F σ ws vs → datAll ρ ws = some ds → RepCs G.K F H ds vs
  | [], _, _, h, e => by
    cases e
    exact h
  | w :: ws, _, ds, h, e => by
    obtain ⟨v, r, rfl, h1, h2⟩ := h
    unfold datAll at e
    cases e1 : w.dat ρ with
    | none => rw [e1] at e; cases e
    | some d =>
      cases e2 : datAll ρ ws with
      | none => rw [e1, e2] at e; cases e
      | some ds' =>
        rw [e1, e2] at e
        cases e
        exact ⟨v, r, rfl, h1.read en e1, RepNs.read en h2 e2⟩
def tA (G : GG) (Wx : WX) (f : Env → R (List W)) : TA := fun σ H Q => ∃ T F ρ, EnvOk G T F H σ ρ ∧ RPost G T Wx F H σ ρ (fun ws _ F' H' => ∀ vs, RepNs G.K F' σ ws vs → Q vs H') (f ρ)
def PDA (C : Ct) (es : List Expr) (f : Env → R (List W)) : Prop := ∀ (X : Cx) (Wx : WX), Cok X C Wx → PA X es (tA C.G Wx f)
theorem PA.to {X : Cx} {es : List Expr} {t t' : TA} (h : PA X es t) (i : ∀ σ H Q, t' σ H Q → t σ H Q) : PA X es t' := ⟨fun pos pins s σ H Q I q => h.run pos pins s σ H Q I (i σ H Q q)⟩
def aNil : Env → R (List W) := fun ρ => .ok [] ρ
def aCons (f : Env → R W) (r : Env → R (List W)) : Env → R (List W) := fun ρ => (f ρ).bind fun w ρ1 => (r ρ1).bind fun ws ρ2 => .ok (w :: ws) ρ2
section
variable {C : Ct} {e : Expr} {es : List Expr} {f : Env → R W} {r : Env → R (List W)}
theorem pda_nil : PDA C [] aNil := fun X Wx ok => PA.to pa_nil fun σ H Q ⟨T, F, ρ, en, p⟩ => RPost.here en p [] rfl
/-- a borrowed argument -/
theorem pda_cons (h : PD C e f) (t : PDA C es r) (hs : ∀ env, starEach (e :: es) env = (false, eval e env) :: starEach es env := by intro _; rfl) : PDA C (e :: es) (aCons (eNrm f) r) := fun X Wx ok => by
  refine PA.to (pa_cons (h X Wx ok) (t X Wx ok) (hs _)) fun σ H Q ⟨T, F, ρ, en, p⟩ => ?_
  refine tE_nrm en ((RPost.bind p).imp fun w ρ1 F1 H1 e1 en1 l1 p1 v rv => ⟨T, F1, ρ1, en1, ?_⟩)
  exact (RPost.bind p1).imp fun ws ρ2 F2 H2 e2 en2 l2 p2 vs rvs => RPost.here en2 p2 (v :: vs) ⟨v, vs, rfl, rv.mono e2.fle, rvs⟩
/-- an argument that is kept -/
theorem pda_keep (h : PD C e f) (t : PDA C es r) (hs : ∀ env, starEach (e :: es) env = (false, eval e env) :: starEach es env := by intro _; rfl) : PDA C (e :: es) (aCons (eFz f) r) := fun X Wx ok => by
  refine PA.to (pa_cons (h X Wx ok) (t X Wx ok) (hs _)) fun σ H Q ⟨T, F, ρ, en, p⟩ => ?_
  refine tE_fz en ((RPost.bind p).imp fun w ρ1 F1 H1 e1 en1 l1 p1 v rv => ⟨T, F1, ρ1, en1, ?_⟩)
  exact (RPost.bind p1).imp fun ws ρ2 F2 H2 e2 en2 l2 p2 vs rvs => RPost.here en2 p2 (v :: vs) ⟨v, vs, rfl, rv.mono e2.fle, rvs⟩
end

/-! ### calls of built-ins -/
def eN (g : List D → Option P1) (fa : Env → R (List W)) : Env → R W := fun ρ => (fa ρ).bind fun ws ρ1 => match datAll ρ1 ws with
  | some ds => outP (g ds) ρ1
  | none => .bad
theorem n_core {G : GG} {Wx : WX} {r : List V → Hp → VK → Prop} {g : List D → Option P1} {fa : Env → R (List W)} {σ : L2.St} {H : Hp} {Q : VK} (hp : PrimN G r g) (h : tE G Wx (eN g fa) σ H Q) : tCB r (tA G Wx fa) σ H Q := by
  obtain ⟨T, F, ρ, en, p⟩ := h
  refine ⟨T, F, ρ, en, (RPost.bind p).imp fun ws ρ1 F1 H1 e1 en1 l1 p1 vs rv => ?_⟩
  cases ea : datAll ρ1 ws with
  | none => rw [ea] at p1; exact p1.elim
  | some ds =>
    rw [ea] at p1
    obtain ⟨p', eg, q⟩ := out_post e1.live en1 p1
    exact hp F1 H1 vs ds p' Q en1.hp (rv.read en1 ea) eg q
section
variable {C : Ct} {e : Expr} {es : List Expr} {fa : Env → R (List W)} {x : Str} {p pos : Pos} {id Tn : String} {g : List D → Option P1}
theorem pd_callB {r : Cx → List V → Hp → VK → Prop} (hc : ∀ X Wx, Cok X C Wx → CallR X (.builtin id) (r X)) (hp : ∀ X Wx, Cok X C Wx → PrimN C.G (r X) g) (hg : glB C.sc x = true) (hm : C.G.mg x = none) (hv : bootBuiltins x = some (.builtin id)) (ha : PDA C (e :: es) fa)
    (he : ∀ env, starEach (e :: es) env = (false, eval e env) :: starEach es env := by intro _; rfl) (hpl : ∀ env, (backTo pos (starEach es env)).any (·.1) = false := by intro _; rfl) : PD C (.Call (.Name x p) (e :: es) [] pos) (eN g fa) := by
  intro X Wx ok
  exact PE.to (pe_callB (hc X Wx ok) (ok.gl hg) (by rw [ok.mg]; exact hm) hv (ha X Wx ok) (glB_spec hg).2.2 (glB_spec hg).2.1 (he _) (hpl _)) fun σ H Q h => n_core (hp X Wx ok) h
theorem pd_callTy {r : Cx → List V → Hp → VK → Prop} (hc : ∀ X Wx, Cok X C Wx → CallR X (.type Tn) (r X)) (hp : ∀ X Wx, Cok X C Wx → PrimN C.G (r X) g) (hg : glB C.sc x = true) (hm : C.G.mg x = none) (hv : bootBuiltins x = some (.type Tn)) (ha : PDA C (e :: es) fa)
    (he : ∀ env, starEach (e :: es) env = (false, eval e env) :: starEach es env := by intro _; rfl) (hpl : ∀ env, (backTo pos (starEach es env)).any (·.1) = false := by intro _; rfl) : PD C (.Call (.Name x p) (e :: es) [] pos) (eN g fa) := by
  intro X Wx ok
  exact PE.to (pe_callTy (hc X Wx ok) (ok.gl hg) (by rw [ok.mg]; exact hm) hv (ha X Wx ok) (glB_spec hg).2.2 (glB_spec hg).2.1 (he _) (hpl _)) fun σ H Q h => n_core (hp X Wx ok) h
/-- a built-in that stands in the module by a name of its own (from math import gcd) -/
theorem pd_callF {r : Cx → List V → Hp → VK → Prop} (hc : ∀ X Wx, Cok X C Wx → CallR X (.builtin id) (r X)) (hp : ∀ X Wx, Cok X C Wx → PrimN C.G (r X) g) (hg : glB C.sc x = true) (hm : C.G.mg x = some (.builtin id)) (ha : PDA C (e :: es) fa)
    (he : ∀ env, starEach (e :: es) env = (false, eval e env) :: starEach es env := by intro _; rfl) (hpl : ∀ env, (backTo pos (starEach es env)).any (·.1) = false := by intro _; rfl) : PD C (.Call (.Name x p) (e :: es) [] pos) (eN g fa) := by
  intro X Wx ok
  exact PE.to (pe_callBfun (hc X Wx ok) (ok.gl hg) (by rw [ok.mg]; exact hm) (ha X Wx ok) (glB_spec hg).2.1 (he _) (hpl _)) fun σ H Q h => n_core (hp X Wx ok) h
end

/-! ### displays -/
def valAll : List W → Option (List D)
  | [] => some []
  | .o (.fz d) :: ws => match valAll ws with
    | some ds => some (d :: ds)
    | none => none
  | _ :: _ => none
theorem RepNs.vals {K : PySem.W.Frag} {F : Hp} {σ : L2.St} : ∀ {ws : List W} {vs : List V} {ds : List D}, RepNs K F σ ws vs → valAll ws = some ds → Reps K F ds vs
  | [], _, _, h, e => by
    cases e
    rw [Reps]
    exact h
  | w :: ws, _, ds, h, e => by
    obtain ⟨v, r, rfl, h1, h2⟩ := h
    cases w with
    | own i => cases e
    | o x =>
      cases x with
      | fl xs => cases e
      | tp ps => cases e
      | fz d =>
        unfold valAll at e
        cases e2 : valAll ws with
        | none => rw [e2] at e; cases e
        | some ds' =>
          rw [e2] at e
          cases e
          exact reps_cons h1 (RepNs.vals h2 e2)
def eTup (fa : Env → R (List W)) : Env → R W := fun ρ => (fa ρ).bind fun ws ρ1 => match valAll ws with
  | some ds => if ds.length ≤ sizeLine then .ok (.val (.tuple ds)) ρ1 else .bad
  | none => .bad
def eLst (fa : Env → R (List W)) : Env → R W := fun ρ => (fa ρ).bind fun ws ρ1 => match valAll ws with
  | some ds => if ds.length ≤ sizeLine then .ok (.o (.fl ds)) ρ1 else .bad
  | none => .bad
section
variable {C : Ct} {es : List Expr} {fa : Env → R (List W)} {pos : Pos}
theorem pd_tup {k : Nat} (h : PDA C es fa) : PD C (.Tuple es k pos) (eTup fa) := by
  intro X Wx ok
  refine PE.to (pe_tup (h X Wx ok)) fun σ H Q ⟨T, F, ρ, en, p⟩ => ⟨T, F, ρ, en, (RPost.bind p).imp fun ws ρ1 F1 H1 e1 en1 l1 p1 vs rv => ?_⟩
  cases ea : valAll ws with
  | none => rw [ea] at p1; exact p1.elim
  | some ds =>
    rw [ea] at p1
    by_cases hz : ds.length ≤ sizeLine
    · simp only [hz, if_true] at p1
      have rs := rv.vals ea
      have hl : vs.length ≤ sizeLine := by rw [rs.len]; exact hz
      refine ⟨hl, fun a ha => ?_⟩
      obtain ⟨n, k, r⟩ := new_tup en1.hp hl rs ha
      exact p1 _ _ n.ext (en1.new n k) (fun _ z => z) _ (repW_val r)
    · simp only [hz, if_false] at p1
      exact p1.elim
theorem pd_lst (h : PDA C es fa) : PD C (.List es pos) (eLst fa) := by
  intro X Wx ok
  refine PE.to (pe_lst (h X Wx ok)) fun σ H Q ⟨T, F, ρ, en, p⟩ => ⟨T, F, ρ, en, (RPost.bind p).imp fun ws ρ1 F1 H1 e1 en1 l1 p1 vs rv => ?_⟩
  cases ea : valAll ws with
  | none => rw [ea] at p1; exact p1.elim
  | some ds =>
    rw [ea] at p1
    by_cases hz : ds.length ≤ sizeLine
    · simp only [hz, if_true] at p1
      have rs := rv.vals ea
      have hl : vs.length ≤ sizeLine := by rw [rs.len]; exact hz
      refine ⟨hl, fun a ha => ?_⟩
      obtain ⟨n, k, r⟩ := new_lst en1.hp hl rs ha
      obtain ⟨p', eg, q⟩ := out_post (p := some (.fl ds)) e1.live en1 p1
      cases eg
      exact q _ _ _ n k r
    · simp only [hz, if_false] at p1
      exact p1.elim
end

/-! ### tests -/
def boolW (w : W) (ρ : Env) : R Bool := match w.dat ρ with
  | some (.bool b) => .ok b ρ
  | _ => .bad
/-- the test of an expression that is worth a bool -/
def tstB (f : Env → R W) : Env → R Bool := fun ρ => (eNrm f ρ).bind boolW
def truD : D → Bool
  | .none => false
  | .bool b => b
  | .int i => i != 0
  | .str x => (x.length : Int) != 0
  | .list xs => !xs.isEmpty
  | .tuple xs => !xs.isEmpty
  | .dict _ => false
def truW (w : W) (ρ : Env) : R Bool := match w.dat ρ with
  | some d => .ok (truD d) ρ
  | _ => .bad
def tstV (f : Env → R W) : Env → R Bool := fun ρ => (eNrm f ρ).bind truW
def tAndS (f g : Env → R Bool) : Env → R Bool := fun ρ => (f ρ).bind fun b ρ1 => if b = true then g ρ1 else .ok false ρ1
def tOrS (f g : Env → R Bool) : Env → R Bool := fun ρ => (f ρ).bind fun b ρ1 => if b = true then .ok true ρ1 else g ρ1
def tNotS (f : Env → R Bool) : Env → R Bool := fun ρ => (f ρ).bind fun b ρ1 => .ok (!b) ρ1
def PDW (C : Ct) (e : Expr) (f : Env → R Bool) : Prop := ∀ (X : Cx) (Wx : WX), Cok X C Wx → PW X e (tT C.G Wx f)
theorem PW.to {X : Cx} {e : Expr} {t t' : TT} (h : PW X e t) (i : ∀ σ H Q, t' σ H Q → t σ H Q) : PW X e t' := ⟨fun wh pins s σ H Q I q => h.run wh pins s σ H Q I (i σ H Q q)⟩
theorem repC_bool {G : GG} {T : Fm} {F H : Hp} {σ : L2.St} {ρ : Env} {v : V} {w : W} {b : Bool} (en : EnvOk G T F H σ ρ) (rv : RepN G.K F σ v w) (e : w.dat ρ = some (.bool b)) : v = .bl b := repC_bl (rv.read en e)
section
variable {C : Ct} {a b : Expr} {rest : List Expr} {f g : Env → R W} {ft gt : Env → R Bool} {pos : Pos}
theorem bool_core {G : GG} {Wx : WX} {σ : L2.St} {H : Hp} {Q : Bool → Hp → Prop} (h : tT G Wx (tstB f) σ H Q) : tE G Wx f σ H fun x H1 => ∃ k, x = .bl k ∧ Q k H1 := by
  obtain ⟨T, F, ρ, en, p⟩ := h
  refine tE_nrm en ((RPost.bind p).imp fun w ρ1 F1 H1 e1 en1 l1 p1 v rv => ?_)
  unfold boolW at p1
  cases ew : w.dat ρ1 with
  | none => simp only [ew] at p1; exact p1.elim
  | some d =>
    simp only [ew] at p1
    cases d with
    | bool b => exact ⟨b, repC_bool en1 rv ew, RPost.here en1 p1⟩
    | none => exact p1.elim
    | int i => exact p1.elim
    | str x => exact p1.elim
    | list xs => exact p1.elim
    | tuple xs => exact p1.elim
    | dict kvs => exact p1.elim
/-- a comparison, a call, a constant .. that is worth a bool, as a test -/
theorem pdt_val (h : PD C a f) (he : ∀ env whole, isTrue a env whole = (do let v ← whole; standAt a.pos; holding [v] (truthy v)) := by intro _ _; rfl) : PDT C a (tstB f) := fun X Wx ok => by
  exact PT.to (pt_val (h X Wx ok) (he _)) fun σ H Q p => bool_core p
theorem pdt_cmp {op : CmpOp} {r : Cx → R2} {gg : D → D → Option P1} {fa fb : Env → R W} (ho : ∀ X Wx, Cok X C Wx → OpR X (compareOp op) (r X)) (hp : ∀ X Wx, Cok X C Wx → Prim2 C.G (r X) gg) (ha : PD C a fa) (hb : PD C b fb) (hm : behindInMarks op b = false) : PDT C (.Compare a [op] [b] pos) (tstB (eBin gg fa fb)) := fun X Wx ok => by
  refine PT.to (pt_cmpR (ho X Wx ok) (ha X Wx ok) (hb X Wx ok) hm) fun σ H Q p => ?_
  exact bin_core (hp X Wx ok) (bool_core p)
theorem truV_of {G : GG} {F H : Hp} {d : D} {v : V} (ok : HpOk G F H) (r : RepC G.K F H d v) (hd : ∀ kvs, d ≠ .dict kvs) : TruV G.K v H (truD d) := by
  have r := r.rep' ok
  cases d with
  | none => rw [Rep] at r; subst r; rfl
  | bool b => rw [Rep] at r; subst r; rfl
  | int i => rw [Rep] at r; subst r; rfl
  | str x => rw [Rep] at r; obtain ⟨rfl, hx, _⟩ := r; exact ⟨hx, rfl⟩
  | list xs =>
    rw [Rep] at r
    obtain ⟨p, vs, rfl, h1, l, rs⟩ := r
    refine .inl ⟨vs, SqL.of h1, ?_⟩
    have := rs.len
    cases xs <;> cases vs <;> simp_all [truD]
  | tuple xs =>
    rw [Rep] at r
    obtain ⟨p, vs, rfl, h1, l, rs⟩ := r
    refine .inr (.inl ⟨vs, h1, ?_⟩)
    have := rs.len
    cases xs <;> cases vs <;> simp_all [truD]
  | dict kvs => exact absurd rfl (hd kvs)
theorem pdt_truth (h : PD C a f) (he : ∀ env whole, isTrue a env whole = (do let v ← whole; standAt a.pos; holding [v] (truthy v)) := by intro _ _; rfl) : PDT C a (tstV f) := fun X Wx ok => by
  refine PT.to (pt_truth (h X Wx ok) (he _)) fun σ H Q ⟨T, F, ρ, en, p⟩ => ?_
  refine tE_nrm en ((RPost.bind p).imp fun w ρ1 F1 H1 e1 en1 l1 p1 v rv => ?_)
  unfold truW at p1
  cases ew : w.dat ρ1 with
  | none => simp only [ew] at p1; exact p1.elim
  | some d =>
    simp only [ew] at p1
    have rc := rv.read en1 ew
    refine ⟨truD d, ?_, RPost.here en1 p1⟩
    rw [ok.K]
    exact truV_of en1.hp rc fun kvs e => by
      subst e
      have z := rc.rep' en1.hp
      rw [Rep] at z
      exact z
theorem pdw_and1 (h : PDT C a ft) : PDW C (.BoolOp .And [a] pos) ft := fun X Wx ok => pw_and1 (h X Wx ok)
theorem pdw_or1 (h : PDT C a ft) : PDW C (.BoolOp .Or [a] pos) ft := fun X Wx ok => pw_or1 (h X Wx ok)
theorem pdw_and (h : PDT C a ft) (t : PDW C (.BoolOp .And (b :: rest) pos) gt) : PDW C (.BoolOp .And (a :: b :: rest) pos) (tAndS ft gt) := fun X Wx ok => by
  refine PW.to (pw_and (h X Wx ok) (t X Wx ok)) fun σ H Q ⟨T, F, ρ, en, p⟩ => ⟨T, F, ρ, en, (RPost.bind p).imp fun c ρ1 F1 H1 e1 en1 l1 p1 => ?_⟩
  cases c with
  | true => exact ⟨T, F1, ρ1, en1, p1⟩
  | false => exact RPost.here en1 p1
theorem pdw_or (h : PDT C a ft) (t : PDW C (.BoolOp .Or (b :: rest) pos) gt) : PDW C (.BoolOp .Or (a :: b :: rest) pos) (tOrS ft gt) := fun X Wx ok => by
  refine PW.to (pw_or (h X Wx ok) (t X Wx ok)) fun σ H Q ⟨T, F, ρ, en, p⟩ => ⟨T, F, ρ, en, (RPost.bind p).imp fun c ρ1 F1 H1 e1 en1 l1 p1 => ?_⟩
  cases c with
  | true => exact RPost.here en1 p1
  | false => exact ⟨T, F1, ρ1, en1, p1⟩
theorem PDW.t (h : PDW C a ft) : PDT C a ft := fun X Wx ok => (h X Wx ok).pt
theorem pdt_not (h : PDT C a ft) : PDT C (.UnaryOp .Not a pos) (tNotS ft) := fun X Wx ok => by
  exact PT.to (pt_not (h X Wx ok)) fun σ H Q ⟨T, F, ρ, en, p⟩ => ⟨T, F, ρ, en, (RPost.bind p).imp fun c ρ1 F1 H1 e1 en1 l1 p1 => RPost.here en1 p1⟩
/-! as values -/
def eAndB (f g : Env → R W) : Env → R W := fun ρ => (tstB f ρ).bind fun b ρ1 => if b = true then g ρ1 else .ok (.val (.bool false)) ρ1
def eOrB (f g : Env → R W) : Env → R W := fun ρ => (tstB f ρ).bind fun b ρ1 => if b = true then .ok (.val (.bool true)) ρ1 else g ρ1
def eNotB (f : Env → R W) : Env → R W := fun ρ => (tstB f ρ).bind fun b ρ1 => .ok (.val (.bool (!b))) ρ1
def eIf (ft : Env → R Bool) (f g : Env → R W) : Env → R W := fun ρ => (ft ρ).bind fun b ρ1 => if b = true then f ρ1 else g ρ1
/-- a later start of the expression is as good -/
theorem EPost.late {G : GG} {T : Fm} {Wx : WX} {Hs F H : Hp} {σ : L2.St} {ρ : Env} {Q : VK} {r : R W} (hl : ∀ a, Hs a ≠ none → H a ≠ none) (h : RPost G T Wx F H σ ρ (fun w ρ' F' H' => ∀ v, RepW G.K Hs F' H' σ ρ' v w → Q v H') r) : EPost G T Wx F H σ ρ Q r :=
  h.imp fun w ρ' F' H' e en l q v rv => q v (by
    cases w with
    | own i => exact rv
    | o x =>
      obtain ⟨A, h1, h2, h3⟩ := rv
      exact ⟨A, h1, h2, fun a ha => ⟨Classical.byContradiction fun z => hl a z (h3 a ha).1, (h3 a ha).2⟩⟩)
theorem pd_and (h : PD C a f) (t : PD C (.BoolOp .And (b :: rest) pos) g) : PD C (.BoolOp .And (a :: b :: rest) pos) (eAndB f g) := fun X Wx ok => by
  refine PE.to (pe_and (h X Wx ok) (t X Wx ok)) fun σ H Q ⟨T, F, ρ, en, p⟩ => ?_
  refine bool_core (Q := fun c H1 => if c = true then tE C.G Wx g σ H1 Q else Q (.bl false) H1) ⟨T, F, ρ, en, (RPost.bind p).imp fun c ρ1 F1 H1 e1 en1 l1 p1 => ?_⟩
  cases c with
  | true => exact ⟨T, F1, ρ1, en1, EPost.late e1.live p1⟩
  | false => exact RPost.here en1 p1 _ (repW_val rep_bl)
theorem pd_or (h : PD C a f) (t : PD C (.BoolOp .Or (b :: rest) pos) g) : PD C (.BoolOp .Or (a :: b :: rest) pos) (eOrB f g) := fun X Wx ok => by
  refine PE.to (pe_or (h X Wx ok) (t X Wx ok)) fun σ H Q ⟨T, F, ρ, en, p⟩ => ?_
  refine bool_core (Q := fun c H1 => if c = true then Q (.bl true) H1 else tE C.G Wx g σ H1 Q) ⟨T, F, ρ, en, (RPost.bind p).imp fun c ρ1 F1 H1 e1 en1 l1 p1 => ?_⟩
  cases c with
  | false => exact ⟨T, F1, ρ1, en1, EPost.late e1.live p1⟩
  | true => exact RPost.here en1 p1 _ (repW_val rep_bl)
theorem pd_one {op : BoolOp} (h : PD C a f) : PD C (.BoolOp op [a] pos) f := fun X Wx ok => pe_one (h X Wx ok)
theorem pd_not (h : PD C a f) : PD C (.UnaryOp .Not a pos) (eNotB f) := fun X Wx ok => by
  refine PE.to (pe_not (h X Wx ok)) fun σ H Q ⟨T, F, ρ, en, p⟩ => ?_
  exact bool_core (Q := fun c H1 => Q (.bl (!c)) H1) ⟨T, F, ρ, en, (RPost.bind p).imp fun c ρ1 F1 H1 e1 en1 l1 p1 => RPost.here en1 p1 _ (repW_val rep_bl)⟩
theorem pd_if {c : Expr} (hc : PDT C c ft) (h : PD C a f) (t : PD C b g) : PD C (.IfExp c a b pos) (eIf ft f g) := fun X Wx ok => by
  refine PE.to (pe_ifExp (hc X Wx ok) (h X Wx ok) (t X Wx ok)) fun σ H Q ⟨T, F, ρ, en, p⟩ => ⟨T, F, ρ, en, (RPost.bind p).imp fun c ρ1 F1 H1 e1 en1 l1 p1 => ?_⟩
  cases c with
  | true => exact ⟨T, F1, ρ1, en1, EPost.late e1.live p1⟩
  | false => exact ⟨T, F1, ρ1, en1, EPost.late e1.live p1⟩
end
end PL
end
section
set_option Elab.async false
set_option linter.all false
set_option maxRecDepth 100000
set_option maxHeartbeats 2000000
set_option autoImplicit false
/-! Chains, subscripts, slices, the usual built-ins. -/
namespace PL
open PySem PySem.Spec PyProof.Rows L2

/-! ### chains of comparisons: a op b op' c, a op b op' c op'' d -/
def tChain3 (r r' r'' : R2) (ta tb tc td : TE) : TE := fun σ H Q => ta σ H fun x H1 => tb σ H1 fun y H2 => r x y H2 fun z H3 => ∃ k, z = .bl k ∧
  (if k = true then tc σ H3 fun w' H4 => r' y w' H4 fun z2 H5 => ∃ k2, z2 = .bl k2 ∧ (if k2 = true then td σ H5 fun v' H6 => r'' w' v' H6 Q else Q (.bl false) H5) else Q (.bl false) H3)
section
variable {X : Cx} {a b c d : Expr} {ta tb tc td : TE} {pos : Pos}
theorem pe_chain3 {op op' op'' : CmpOp} {r r' r'' : R2} (ho : OpR X (compareOp op) r) (ho' : OpR X (compareOp op') r') (ho'' : OpR X (compareOp op'') r'') (ha : PE X a ta) (hb : PE X b tb) (hc : PE X c tc) (hd : PE X d td)
    (hm : lastMarks [op, op', op''] [b, c, d] = false) : PE X (.Compare a [op, op', op''] [b, c, d] pos) (tChain3 r r' r'' ta tb tc td) := by
  refine ⟨fun pins s σ H Q I h => ?_⟩
  refine Compare_chain (thn (ha.run pins s σ H _ I h) fun v s1 ⟨x, H1, I1, r1, q1⟩ => chain_link (thn (hb.run pins s1 σ H1 _ I1 q1) fun u s2 ⟨y, H2, I2, r2, q2⟩ =>
    thn (ho pins s2 σ H2 x y v u _ I2 r1 r2 q2) fun e s3 ⟨z, H3, I3, r3, k, ez, q3⟩ => ?_)) hm
  subst ez
  cases r3
  refine wpAny_truthy_bool ?_
  cases k with
  | false => exact ite_ff ⟨.bl false, H3, I3, rfl, q3⟩
  | true =>
    refine ite_tt (chain_link (thn (hc.run pins s3 σ H3 _ I3 q3) fun w' s4 ⟨z', H4, I4, r4, q4⟩ => thn (ho' pins s4 σ H4 y z' u w' _ I4 r2 r4 q4) fun e2 s5 ⟨z2, H5, I5, r5, k2, ez2, q5⟩ => ?_))
    subst ez2
    cases r5
    refine wpAny_truthy_bool ?_
    cases k2 with
    | false => exact ite_ff ⟨.bl false, H5, I5, rfl, q5⟩
    | true => exact ite_tt (chain_last (thn (hd.run pins s5 σ H5 _ I5 q5) fun v2 s6 ⟨z3, H6, I6, r6, q6⟩ => ho'' pins s6 σ H6 z' z3 w' v2 Q I6 r4 r6 q6))
end
def boolP (p : Option P1) : Option Bool := match p with
  | some (.fz (.bool b)) => some b
  | _ => none
def eCh2 (g g' : D → D → Option P1) (fa fb fc : Env → R W) : Env → R W := fun ρ => (eNrm fa ρ).bind fun wa ρ1 => (eNrm fb ρ1).bind fun wb ρ2 => match wa.dat ρ2, wb.dat ρ2 with
  | some a, some b => match boolP (g a b) with
    | some true => (eNrm fc ρ2).bind fun wc ρ3 => match wb.dat ρ3, wc.dat ρ3 with
      | some b, some c => outP (g' b c) ρ3
      | _, _ => .bad
    | some false => .ok (.val (.bool false)) ρ2
    | none => .bad
  | _, _ => .bad
def eCh3 (g g' g'' : D → D → Option P1) (fa fb fc fd : Env → R W) : Env → R W := fun ρ => (eNrm fa ρ).bind fun wa ρ1 => (eNrm fb ρ1).bind fun wb ρ2 => match wa.dat ρ2, wb.dat ρ2 with
  | some a, some b => match boolP (g a b) with
    | some true => (eNrm fc ρ2).bind fun wc ρ3 => match wb.dat ρ3, wc.dat ρ3 with
      | some b, some c => match boolP (g' b c) with
        | some true => (eNrm fd ρ3).bind fun wd ρ4 => match wc.dat ρ4, wd.dat ρ4 with
          | some c, some d => outP (g'' c d) ρ4
          | _, _ => .bad
        | some false => .ok (.val (.bool false)) ρ3
        | none => .bad
      | _, _ => .bad
    | some false => .ok (.val (.bool false)) ρ2
    | none => .bad
  | _, _ => .bad
/-- behind pure growth what was wanted is wanted still -/
theorem RPost.mono3 {α : Type} {G : GG} {T : Fm} {Wx : WX} {F H F1 H1 : Hp} {σ : L2.St} {ρ : Env} {Ok Ok' : α → Env → Hp → Hp → Prop} {r : R α} (h : RPost G T Wx F H σ ρ Ok r) (n : New F H F1 H1)
    (i : ∀ x ρ' F' H', Ext (Owns σ ρ) F1 H1 F' H' → EnvOk G T F' H' σ ρ' → (∀ a, Owns σ ρ' a → Owns σ ρ a) → Ok x ρ' F' H' → Ok' x ρ' F' H') : RPost G T Wx F1 H1 σ ρ Ok' r := by
  have cmp : ∀ {F' H' : Hp}, Ext (Owns σ ρ) F1 H1 F' H' → Ext (Owns σ ρ) F H F' H' := fun e => (n.ext (A := Owns σ ρ)).trans e fun _ z => .inl z
  cases r with
  | bad => exact h
  | exc c ρ' => exact fun F' H' e ok l => h F' H' (cmp e) ok l
  | ok x ρ' => exact fun F' H' e ok l => i x ρ' F' H' e ok l (h F' H' (cmp e) ok l)
section
variable {G : GG} {T : Fm} {Wx : WX} {F H : Hp} {σ : L2.St} {ρ : Env}
/-- a comparison whose answer is a bool, in the middle of a chain -/
theorem mid_bool {r : R2} {g : D → D → Option P1} {x y : V} {a b : D} {k : Bool} {Q : VK} (hp : Prim2 G r g) (ok : HpOk G F H) (ra : RepC G.K F H a x) (rb : RepC G.K F H b y) (e : boolP (g a b) = some k)
    (q : ∀ F' H', New F H F' H' → HpOk G F' H' → Q (.bl k) H') : r x y H Q := by
  have eg : g a b = some (.fz (.bool k)) := by
    unfold boolP at e
    split at e
    · rename_i h; cases e; exact h
    · cases e
  refine hp F H x y a b _ Q ok ra rb eg fun v F' H' n k' ⟨A, rr, _⟩ => ?_
  obtain ⟨_, rr⟩ := rr
  rw [Rep] at rr
  subst rr
  exact q F' H' n k'
end
section
variable {C : Ct} {a b c d : Expr} {fa fb fc fd : Env → R W} {pos : Pos}
theorem ch2_core {G : GG} {Wx : WX} {r r' : R2} {g g' : D → D → Option P1} {σ : L2.St} {H : Hp} {Q : VK} (hp : Prim2 G r g) (hp' : Prim2 G r' g') (h : tE G Wx (eCh2 g g' fa fb fc) σ H Q) : tChain r r' (tE G Wx fa) (tE G Wx fb) (tE G Wx fc) σ H Q := by
  obtain ⟨T, F, ρ, en, p⟩ := h
  refine tE_nrm en ((RPost.bind p).imp fun wa ρ1 F1 H1 e1 en1 l1 p1 va ra => ?_)
  refine tE_nrm en1 ((RPost.bind p1).imp fun wb ρ2 F2 H2 e2 en2 l2 p2 vb rb => ?_)
  cases ea : wa.dat ρ2 with
  | none => simp only [ea] at p2; exact p2.elim
  | some da =>
    cases eb : wb.dat ρ2 with
    | none => simp only [ea, eb] at p2; exact p2.elim
    | some db =>
      simp only [ea, eb] at p2
      cases ek : boolP (g da db) with
      | none => simp only [ek] at p2; exact p2.elim
      | some k =>
        simp only [ek] at p2
        refine mid_bool hp en2.hp ((ra.mono e2.fle).read en2 ea) (rb.read en2 eb) ek fun F3 H3 n3 k3 => ⟨k, rfl, ?_⟩
        have en3 := en2.new n3 k3
        cases k with
        | false =>
          exact p2 F3 H3 n3.ext en3 (fun _ z => z) _ (repW_val rep_bl)
        | true =>
          refine tE_nrm en3 ?_
          refine (RPost.bind p2).mono3 n3 ?_
          intro wc ρ4 F4 H4 e4 en4 l4 p4 vc rc
          cases eb4 : wb.dat ρ4 with
          | none => simp only [eb4] at p4; exact p4.elim
          | some db4 =>
            cases ec4 : wc.dat ρ4 with
            | none => simp only [eb4, ec4] at p4; exact p4.elim
            | some dc4 =>
              simp only [eb4, ec4] at p4
              obtain ⟨p', eg, q⟩ := out_post (fun a z => e4.live a (n3.live a (e2.live a (e1.live a z)))) en4 p4
              exact hp' F4 H4 vb vc db4 dc4 p' Q en4.hp (((rb.mono n3.fle).mono e4.fle).read en4 eb4) (rc.read en4 ec4) eg q
end
section
variable {C : Ct} {a b c d : Expr} {fa fb fc fd : Env → R W} {pos : Pos}
theorem ch3_core {G : GG} {Wx : WX} {r r' r'' : R2} {g g' g'' : D → D → Option P1} {σ : L2.St} {H : Hp} {Q : VK} (hp : Prim2 G r g) (hp' : Prim2 G r' g') (hp'' : Prim2 G r'' g'') (h : tE G Wx (eCh3 g g' g'' fa fb fc fd) σ H Q) : tChain3 r r' r'' (tE G Wx fa) (tE G Wx fb) (tE G Wx fc) (tE G Wx fd) σ H Q := by
  obtain ⟨T, F, ρ, en, p⟩ := h
  refine tE_nrm en ((RPost.bind p).imp fun wa ρ1 F1 H1 e1 en1 l1 p1 va ra => ?_)
  refine tE_nrm en1 ((RPost.bind p1).imp fun wb ρ2 F2 H2 e2 en2 l2 p2 vb rb => ?_)
  cases ea : wa.dat ρ2 with
  | none => simp only [ea] at p2; exact p2.elim
  | some da =>
    cases eb : wb.dat ρ2 with
    | none => simp only [ea, eb] at p2; exact p2.elim
    | some db =>
      simp only [ea, eb] at p2
      cases ek : boolP (g da db) with
      | none => simp only [ek] at p2; exact p2.elim
      | some k =>
        simp only [ek] at p2
        refine mid_bool hp en2.hp ((ra.mono e2.fle).read en2 ea) (rb.read en2 eb) ek fun F3 H3 n3 k3 => ⟨k, rfl, ?_⟩
        have en3 := en2.new n3 k3
        cases k with
        | false => exact p2 F3 H3 n3.ext en3 (fun _ z => z) _ (repW_val rep_bl)
        | true =>
          refine tE_nrm en3 ((RPost.bind p2).mono3 n3 ?_)
          intro wc ρ4 F4 H4 e4 en4 l4 p4 vc rc
          cases eb4 : wb.dat ρ4 with
          | none => simp only [eb4] at p4; exact p4.elim
          | some db4 =>
            cases ec4 : wc.dat ρ4 with
            | none => simp only [eb4, ec4] at p4; exact p4.elim
            | some dc4 =>
              simp only [eb4, ec4] at p4
              cases ek2 : boolP (g' db4 dc4) with
              | none => simp only [ek2] at p4; exact p4.elim
              | some k2 =>
                simp only [ek2] at p4
                refine mid_bool hp' en4.hp (((rb.mono n3.fle).mono e4.fle).read en4 eb4) (rc.read en4 ec4) ek2 fun F5 H5 n5 k5 => ⟨k2, rfl, ?_⟩
                have en5 := en4.new n5 k5
                cases k2 with
                | false => exact p4 F5 H5 n5.ext en5 (fun _ z => z) _ (repW_val rep_bl)
                | true =>
                  refine tE_nrm en5 ((RPost.bind p4).mono3 n5 ?_)
                  intro wd ρ6 F6 H6 e6 en6 l6 p6 vd rd
                  cases ec6 : wc.dat ρ6 with
                  | none => simp only [ec6] at p6; exact p6.elim
                  | some dc6 =>
                    cases ed6 : wd.dat ρ6 with
                    | none => simp only [ec6, ed6] at p6; exact p6.elim
                    | some dd6 =>
                      simp only [ec6, ed6] at p6
                      obtain ⟨p', eg, q⟩ := out_post (fun a z => e6.live a (n5.live a (e4.live a (n3.live a (e2.live a (e1.live a z)))))) en6 p6
                      exact hp'' F6 H6 vc vd dc6 dd6 p' Q en6.hp (((rc.mono n5.fle).mono e6.fle).read en6 ec6) (rd.read en6 ed6) eg q
theorem pd_ch2 {op op' : CmpOp} {r r' : Cx → R2} {g g' : D → D → Option P1} (ho : ∀ X Wx, Cok X C Wx → OpR X (compareOp op) (r X)) (hp : ∀ X Wx, Cok X C Wx → Prim2 C.G (r X) g) (ho' : ∀ X Wx, Cok X C Wx → OpR X (compareOp op') (r' X)) (hp' : ∀ X Wx, Cok X C Wx → Prim2 C.G (r' X) g')
    (ha : PD C a fa) (hb : PD C b fb) (hc : PD C c fc) (hm : lastMarks [op, op'] [b, c] = false) : PD C (.Compare a [op, op'] [b, c] pos) (eCh2 g g' fa fb fc) := fun X Wx ok =>
  PE.to (pe_chain (ho X Wx ok) (ho' X Wx ok) (ha X Wx ok) (hb X Wx ok) (hc X Wx ok) hm) fun σ H Q h => ch2_core (hp X Wx ok) (hp' X Wx ok) h
theorem pdt_ch2 {op op' : CmpOp} {r r' : Cx → R2} {g g' : D → D → Option P1} (ho : ∀ X Wx, Cok X C Wx → OpR X (compareOp op) (r X)) (hp : ∀ X Wx, Cok X C Wx → Prim2 C.G (r X) g) (ho' : ∀ X Wx, Cok X C Wx → OpR X (compareOp op') (r' X)) (hp' : ∀ X Wx, Cok X C Wx → Prim2 C.G (r' X) g')
    (ha : PD C a fa) (hb : PD C b fb) (hc : PD C c fc) (hm : lastMarks [op, op'] [b, c] = false) : PDT C (.Compare a [op, op'] [b, c] pos) (tstB (eCh2 g g' fa fb fc)) := fun X Wx ok =>
  PT.to (pt_chain (ho X Wx ok) (ho' X Wx ok) (ha X Wx ok) (hb X Wx ok) (hc X Wx ok) hm) fun σ H Q h => ch2_core (hp X Wx ok) (hp' X Wx ok) (bool_core h)
theorem pd_ch3 {op op' op'' : CmpOp} {r r' r'' : Cx → R2} {g g' g'' : D → D → Option P1} (ho : ∀ X Wx, Cok X C Wx → OpR X (compareOp op) (r X)) (hp : ∀ X Wx, Cok X C Wx → Prim2 C.G (r X) g) (ho' : ∀ X Wx, Cok X C Wx → OpR X (compareOp op') (r' X)) (hp' : ∀ X Wx, Cok X C Wx → Prim2 C.G (r' X) g')
    (ho'' : ∀ X Wx, Cok X C Wx → OpR X (compareOp op'') (r'' X)) (hp'' : ∀ X Wx, Cok X C Wx → Prim2 C.G (r'' X) g'') (ha : PD C a fa) (hb : PD C b fb) (hc : PD C c fc) (hd : PD C d fd) (hm : lastMarks [op, op', op''] [b, c, d] = false) : PD C (.Compare a [op, op', op''] [b, c, d] pos) (eCh3 g g' g'' fa fb fc fd) := fun X Wx ok =>
  PE.to (pe_chain3 (ho X Wx ok) (ho' X Wx ok) (ho'' X Wx ok) (ha X Wx ok) (hb X Wx ok) (hc X Wx ok) (hd X Wx ok) hm) fun σ H Q h => ch3_core (hp X Wx ok) (hp' X Wx ok) (hp'' X Wx ok) h
end

/-! ### subscripts -/
def ixD : D → D → Option P1
  | .list xs, .int i => match atI xs i with
    | some d => some (.fz d)
    | none => none
  | .tuple xs, .int i => match atI xs i with
    | some d => some (.fz d)
    | none => none
  | .str x, .int i => match atI x.cps.toList i with
    | some c => if PyData.strOk ⟨#[c]⟩ = true then some (.fz (.str ⟨#[c]⟩)) else none
    | none => none
  | _, _ => none
theorem reps_atI {K : PySem.W.Frag} {F : Hp} {ds : List D} {vs : List V} {i : Int} {d : D} (r : Reps K F ds vs) (e : atI ds i = some d) : ∃ v, atI vs i = some v ∧ Rep K F d v := by
  unfold atI at e ⊢
  rw [r.len]
  cases q : ixN ds.length i with
  | none => rw [q] at e; cases e
  | some j =>
    rw [q] at e
    have e : ds[j]? = some d := e
    obtain ⟨v, h1, h2⟩ := r.get e
    exact ⟨v, h1, h2⟩
theorem pr_ix {G : GG} {K : PySem.W.Frag} (hK : K = G.K) : Prim2 G (rIx K) ixD := by
  subst hK
  intro F H x y a b p Q ok ra rb e q
  cases a <;> cases b <;> try (simp [ixD] at e; done)
  · rename_i z i
    obtain ⟨rfl, h1, h2⟩ := repC_str ra
    obtain rfl := repC_int rb
    simp only [ixD] at e
    split at e
    · rename_i c hc
      split at e
      · rename_i ho
        cases e
        exact .inr (.inr ⟨z, i, c, rfl, rfl, h1, hc, q _ F H New.refl ok (res_sc (rep_str (by show 1 ≤ sizeLine; decide) ho))⟩)
      · cases e
    · cases e
  · rename_i xs i
    obtain ⟨l, vs, rfl, h1, z1, r1⟩ := repC_lst ra
    obtain rfl := repC_int rb
    simp only [ixD] at e
    split at e
    · rename_i d hd
      cases e
      obtain ⟨v, hv, rv⟩ := reps_atI r1 hd
      exact .inl ⟨l, vs, i, v, rfl, rfl, SqL.of h1, hv, q _ F H New.refl ok (res_sc rv)⟩
    · cases e
  · rename_i xs i
    obtain ⟨l, vs, rfl, h1, z1, r1⟩ := repC_tup ra
    obtain rfl := repC_int rb
    simp only [ixD] at e
    split at e
    · rename_i d hd
      cases e
      obtain ⟨v, hv, rv⟩ := reps_atI r1 hd
      exact .inr (.inl ⟨l, vs, i, v, rfl, rfl, Same.sqT ok.sub h1, hv, q _ F H New.refl ok (res_sc rv)⟩)
    · cases e
section
variable {C : Ct} {a b : Expr} {fa fb : Env → R W} {pos : Pos}
theorem pd_ix (ha : PD C a fa) (hb : PD C b fb) (hs : PlainIx b) : PD C (.Subscript a b pos) (eBin ixD fa fb) := fun X Wx ok =>
  PE.to (pe_ix ix_seq (ha X Wx ok) (hb X Wx ok) hs) fun σ H Q h => bin_core (pr_ix ok.K) h
end

/-! ### slices -/
def cutD (xs : List D) (lo hi : Option Int) : List D := (xs.drop (HT.sIx xs.length 0 lo)).take (HT.sIx xs.length xs.length hi - HT.sIx xs.length 0 lo)
theorem reps_cut {K : PySem.W.Frag} {F : Hp} {ds : List D} {vs : List V} (lo hi : Option Int) (r : Reps K F ds vs) : Reps K F (cutD ds lo hi) (cutV vs lo hi) := by
  unfold cutD cutV
  rw [r.len]
  exact (r.drop _).take _
def slD (a : D) (lo hi : Option Int) : Option P1 := match a with
  | .list xs => some (.fl (cutD xs lo hi))
  | .tuple xs => some (.fz (.tuple (cutD xs lo hi)))
  | .str x => if PyData.strOk (cutS x lo hi) = true then some (.fz (.str (cutS x lo hi))) else none
  | _ => none
def oNone : Env → R (Option Int) := fun ρ => .ok none ρ
def oSome (f : Env → R W) : Env → R (Option Int) := fun ρ => (eNrm f ρ).bind fun w ρ1 => match w.dat ρ1 with
  | some (.int i) => .ok (some i) ρ1
  | _ => .bad
def eSl (fa : Env → R W) (fl fh : Env → R (Option Int)) : Env → R W := fun ρ => (eNrm fa ρ).bind fun wa ρ1 => (fl ρ1).bind fun lo ρ2 => (fh ρ2).bind fun hi ρ3 => match wa.dat ρ3 with
  | some a => outP (slD a lo hi) ρ3
  | none => .bad
def tO (G : GG) (Wx : WX) (f : Env → R (Option Int)) : TO := fun σ H Q => ∃ T F ρ, EnvOk G T F H σ ρ ∧ RPost G T Wx F H σ ρ (fun o _ _ H' => Q o H') (f ρ)
def PDO (C : Ct) (o : Option Expr) (f : Env → R (Option Int)) : Prop := ∀ (X : Cx) (Wx : WX), Cok X C Wx → PO X o (tO C.G Wx f)
theorem PO.to {X : Cx} {o : Option Expr} {t t' : TO} (h : PO X o t) (i : ∀ σ H Q, t' σ H Q → t σ H Q) : PO X o t' := ⟨fun pins s σ H Q I q => h.run pins s σ H Q I (i σ H Q q)⟩
section
variable {C : Ct} {a : Expr} {lo hi : Option Expr} {fa : Env → R W} {fl fh : Env → R (Option Int)} {pos p2 : Pos}
theorem pdo_none : PDO C none oNone := fun X Wx ok => PO.to po_none fun σ H Q ⟨T, F, ρ, en, p⟩ => RPost.here en p
theorem pdo_some (h : PD C a fa) : PDO C (some a) (oSome fa) := fun X Wx ok => by
  refine PO.to (po_some (h X Wx ok)) fun σ H Q ⟨T, F, ρ, en, p⟩ => ?_
  refine tE_nrm en ((RPost.bind p).imp fun w ρ1 F1 H1 e1 en1 l1 p1 v rv => ?_)
  cases ew : w.dat ρ1 with
  | none => simp only [ew] at p1; exact p1.elim
  | some d =>
    cases d with
    | int i =>
      simp only [ew] at p1
      exact ⟨i, repC_int (rv.read en1 ew), RPost.here en1 p1⟩
    | none => simp only [ew] at p1; exact p1.elim
    | bool b => simp only [ew] at p1; exact p1.elim
    | str x => simp only [ew] at p1; exact p1.elim
    | list xs => simp only [ew] at p1; exact p1.elim
    | tuple xs => simp only [ew] at p1; exact p1.elim
    | dict kvs => simp only [ew] at p1; exact p1.elim
abbrev rSlAll (K : PySem.W.Frag) : V → Option Int → Option Int → Hp → VK → Prop := fun x lo hi H Q => rSlL K x lo hi H Q ∨ rSlA K x lo hi H Q ∨ rSlS x lo hi H Q
theorem pr_sl {G : GG} {K : PySem.W.Frag} (hK : K = G.K) {F H : Hp} {x : V} {a : D} {lo hi : Option Int} {p : P1} {Q : VK} (ok : HpOk G F H) (ra : RepC G.K F H a x) (e : slD a lo hi = some p)
    (q : ∀ v F' H', New F H F' H' → HpOk G F' H' → Res G.K F' H H' v p → Q v H') : rSlAll K x lo hi H Q := by
  subst hK
  cases a <;> try (simp [slD] at e; done)
  · rename_i z
    obtain ⟨rfl, h1, h2⟩ := repC_str ra
    simp only [slD] at e
    split at e
    · rename_i ho
      cases e
      exact .inr (.inr ⟨z, rfl, h1, q _ F H New.refl ok (res_sc (rep_str (Nat.le_trans (cutS_length z _ _) h1) ho))⟩)
    · cases e
  · rename_i xs
    obtain ⟨l, vs, rfl, h1, z1, r1⟩ := repC_lst ra
    cases e
    refine .inl ⟨l, vs, rfl, SqL.of h1, fun p hp => ?_⟩
    obtain ⟨n, k, r⟩ := new_lst ok (Nat.le_trans (cutV_length vs lo hi) z1) (reps_cut lo hi r1) hp
    exact q _ _ _ n k r
  · rename_i xs
    obtain ⟨l, vs, rfl, h1, z1, r1⟩ := repC_tup ra
    cases e
    refine .inr (.inl ⟨l, vs, rfl, Same.sqT ok.sub h1, fun w => ?_, fun _ p hp => ?_⟩)
    · have e : cutD xs lo hi = xs := by
        unfold cutD
        rw [← r1.len, w.1, w.2, r1.len]
        simp
      rw [e] at q
      exact q _ F H New.refl ok (res_sc (by rw [Rep]; exact ⟨l, vs, rfl, h1, z1, r1⟩))
    · obtain ⟨n, k, r⟩ := new_tup ok (Nat.le_trans (cutV_length vs lo hi) z1) (reps_cut lo hi r1) hp
      exact q _ _ _ n k (res_fz r)
theorem pd_sl (ha : PD C a fa) (hl : PDO C lo fl) (hh : PDO C hi fh) : PD C (.Subscript a (.Slice lo hi none p2) pos) (eSl fa fl fh) := fun X Wx ok => by
  refine PE.to (pe_slice (r := rSlAll X.K) (sl_list.or (sl_tupA.or sl_str)) (ha X Wx ok) (hl X Wx ok) (hh X Wx ok)) fun σ H Q ⟨T, F, ρ, en, p⟩ => ?_
  refine tE_nrm en ((RPost.bind p).imp fun wa ρ1 F1 H1 e1 en1 l1 p1 v rv => ⟨T, F1, ρ1, en1, ?_⟩)
  refine (RPost.bind p1).imp fun l ρ2 F2 H2 e2 en2 l2 p2 => ⟨T, F2, ρ2, en2, ?_⟩
  refine (RPost.bind p2).imp fun u ρ3 F3 H3 e3 en3 l3 p3 => ?_
  cases ea : wa.dat ρ3 with
  | none => simp only [ea] at p3; exact p3.elim
  | some da =>
    simp only [ea] at p3
    obtain ⟨p', eg, q⟩ := out_post (fun a z => e3.live a (e2.live a (e1.live a z))) en3 p3
    exact pr_sl ok.K en3.hp (((rv.mono e2.fle).mono e3.fle).read en3 ea) eg q
end

/-! ### the usual built-ins -/
theorem repCs_one {K : PySem.W.Frag} {F H : Hp} {ds : List D} {vs : List V} {d : D} (h : RepCs K F H ds vs) (e : ds = [d]) : ∃ v, vs = [v] ∧ RepC K F H d v := by
  subst e
  obtain ⟨v, r, rfl, h1, h2⟩ := h
  have h2 : r = [] := h2
  subst h2
  exact ⟨v, rfl, h1⟩
theorem repCs_two {K : PySem.W.Frag} {F H : Hp} {ds : List D} {vs : List V} {d e : D} (h : RepCs K F H ds vs) (q : ds = [d, e]) : ∃ v u, vs = [v, u] ∧ RepC K F H d v ∧ RepC K F H e u := by
  subst q
  obtain ⟨v, r, rfl, h1, h2⟩ := h
  obtain ⟨u, rfl, h3⟩ := repCs_one h2 rfl
  exact ⟨v, u, rfl, h1, h3⟩
def lenD : List D → Option P1
  | [.list xs] => some (.fz (.int xs.length))
  | [.tuple xs] => some (.fz (.int xs.length))
  | [.str x] => some (.fz (.int x.length))
  | _ => none
abbrev rLenA (K : PySem.W.Frag) : List V → Hp → VK → Prop := fun xs H Q => (∃ p ys, xs = [.ref p] ∧ (SqL K H p ys ∨ SqT K H p ys) ∧ Q (.int ys.length) H) ∨ (∃ z, xs = [.str z] ∧ z.length ≤ sizeLine ∧ Q (.int z.length) H)
theorem call_lenA {X : Cx} : CallR X (.builtin "len") (rLenA X.K) := call_len_seq.or call_len_str
theorem pr_len {G : GG} {K : PySem.W.Frag} (hK : K = G.K) : PrimN G (rLenA K) lenD := by
  subst hK
  intro F H vs ds p Q ok ra e q
  unfold lenD at e
  split at e <;> try (cases e; done)
  · rename_i xs
    cases e
    obtain ⟨v, rfl, r⟩ := repCs_one ra rfl
    obtain ⟨l, us, rfl, h1, z1, r1⟩ := repC_lst r
    refine .inl ⟨l, us, rfl, .inl (SqL.of h1), ?_⟩
    rw [r1.len]
    exact q _ F H New.refl ok (res_sc rep_int)
  · rename_i xs
    cases e
    obtain ⟨v, rfl, r⟩ := repCs_one ra rfl
    obtain ⟨l, us, rfl, h1, z1, r1⟩ := repC_tup r
    refine .inl ⟨l, us, rfl, .inr (Same.sqT ok.sub h1), ?_⟩
    rw [r1.len]
    exact q _ F H New.refl ok (res_sc rep_int)
  · rename_i x
    cases e
    obtain ⟨v, rfl, r⟩ := repCs_one ra rfl
    obtain ⟨rfl, h1, _⟩ := repC_str r
    exact .inr ⟨x, rfl, h1, q _ F H New.refl ok (res_sc rep_int)⟩
def absD : List D → Option P1
  | [.int i] => some (.fz (.int (if i < 0 then -i else i)))
  | _ => none
theorem pr_abs {G : GG} : PrimN G (fun xs H Q => ∃ i, xs = [.int i] ∧ Q (.int (if i < 0 then -i else i)) H) absD := by
  intro F H vs ds p Q ok ra e q
  unfold absD at e
  split at e <;> try (cases e; done)
  cases e
  obtain ⟨v, rfl, r⟩ := repCs_one ra rfl
  obtain rfl := repC_int r
  exact ⟨_, rfl, q _ F H New.refl ok (res_sc rep_int)⟩
def intD : List D → Option P1
  | [.int i] => some (.fz (.int i))
  | [.bool b] => some (.fz (.int (if b then 1 else 0)))
  | _ => none
theorem pr_intC {G : GG} : PrimN G (fun xs H Q => (∃ i, xs = [.int i] ∧ Q (.int i) H) ∨ ∃ k, xs = [.bl k] ∧ Q (.int (if k then 1 else 0)) H) intD := by
  intro F H vs ds p Q ok ra e q
  unfold intD at e
  split at e <;> try (cases e; done)
  · cases e
    obtain ⟨v, rfl, r⟩ := repCs_one ra rfl
    obtain rfl := repC_int r
    exact .inl ⟨_, rfl, q _ F H New.refl ok (res_sc rep_int)⟩
  · cases e
    obtain ⟨v, rfl, r⟩ := repCs_one ra rfl
    obtain rfl := repC_bl r
    exact .inr ⟨_, rfl, q _ F H New.refl ok (res_sc rep_int)⟩
def max2D : List D → Option P1
  | [.int i, .int j] => some (.fz (.int (max i j)))
  | _ => none
def min2D : List D → Option P1
  | [.int i, .int j] => some (.fz (.int (min i j)))
  | _ => none
theorem pr_max2 {G : GG} : PrimN G (fun xs H Q => ∃ i j, xs = [.int i, .int j] ∧ Q (.int (if j > i then j else i)) H) max2D := by
  intro F H vs ds p Q ok ra e q
  unfold max2D at e
  split at e <;> try (cases e; done)
  rename_i i j
  cases e
  obtain ⟨v, u, rfl, r1, r2⟩ := repCs_two ra rfl
  obtain rfl := repC_int r1
  obtain rfl := repC_int r2
  refine ⟨_, _, rfl, ?_⟩
  have e : (if j > i then j else i) = max i j := by split <;> omega
  rw [e]
  exact q _ F H New.refl ok (res_sc rep_int)
theorem pr_min2 {G : GG} : PrimN G (fun xs H Q => ∃ i j, xs = [.int i, .int j] ∧ Q (.int (if j < i then j else i)) H) min2D := by
  intro F H vs ds p Q ok ra e q
  unfold min2D at e
  split at e <;> try (cases e; done)
  rename_i i j
  cases e
  obtain ⟨v, u, rfl, r1, r2⟩ := repCs_two ra rfl
  obtain rfl := repC_int r1
  obtain rfl := repC_int r2
  refine ⟨_, _, rfl, ?_⟩
  have e : (if j < i then j else i) = min i j := by split <;> omega
  rw [e]
  exact q _ F H New.refl ok (res_sc rep_int)
def tupleD : List D → Option P1
  | [.list xs] => some (.fz (.tuple xs))
  | [.tuple xs] => some (.fz (.tuple xs))
  | _ => none
theorem pr_tuple {G : GG} {K : PySem.W.Frag} (hK : K = G.K) : PrimN G (fun xs H Q => ∃ p ys, xs = [.ref p] ∧ ((SqL K H p ys ∧ ∀ l, H l = none → Q (.ref l) (upd H l (.tup ys))) ∨ (SqT K H p ys ∧ Q (.ref p) H))) tupleD := by
  subst hK
  intro F H vs ds p Q ok ra e q
  unfold tupleD at e
  split at e <;> try (cases e; done)
  · rename_i xs
    cases e
    obtain ⟨v, rfl, r⟩ := repCs_one ra rfl
    obtain ⟨l, us, rfl, h1, z1, r1⟩ := repC_lst r
    refine ⟨l, us, rfl, .inl ⟨SqL.of h1, fun p hp => ?_⟩⟩
    obtain ⟨n, k, r⟩ := new_tup ok z1 r1 hp
    exact q _ _ _ n k (res_fz r)
  · rename_i xs
    cases e
    obtain ⟨v, rfl, r⟩ := repCs_one ra rfl
    obtain ⟨l, us, rfl, h1, z1, r1⟩ := repC_tup r
    exact ⟨l, us, rfl, .inr ⟨Same.sqT ok.sub h1, q _ F H New.refl ok (res_sc (by rw [Rep]; exact ⟨l, us, rfl, h1, z1, r1⟩))⟩⟩
def listD : List D → Option P1
  | [.list xs] => some (.fl xs)
  | [.tuple xs] => some (.fl xs)
  | _ => none
theorem pr_list {G : GG} {K : PySem.W.Frag} (hK : K = G.K) : PrimN G (fun xs H Q => ∃ p ys, xs = [.ref p] ∧ (SqL K H p ys ∨ SqT K H p ys) ∧ ∀ l, H l = none → Q (.ref l) (upd H l (.lst ys))) listD := by
  subst hK
  intro F H vs ds p Q ok ra e q
  unfold listD at e
  split at e <;> try (cases e; done)
  · rename_i xs
    cases e
    obtain ⟨v, rfl, r⟩ := repCs_one ra rfl
    obtain ⟨l, us, rfl, h1, z1, r1⟩ := repC_lst r
    refine ⟨l, us, rfl, .inl (SqL.of h1), fun p hp => ?_⟩
    obtain ⟨n, k, r⟩ := new_lst ok z1 r1 hp
    exact q _ _ _ n k r
  · rename_i xs
    cases e
    obtain ⟨v, rfl, r⟩ := repCs_one ra rfl
    obtain ⟨l, us, rfl, h1, z1, r1⟩ := repC_tup r
    refine ⟨l, us, rfl, .inr (Same.sqT ok.sub h1), fun p hp => ?_⟩
    obtain ⟨n, k, r⟩ := new_lst ok z1 r1 hp
    exact q _ _ _ n k r
def gcdD : List D → Option P1
  | [.int i, .int j] => some (.fz (.int ((Nat.gcd i.natAbs j.natAbs : Nat) : Int)))
  | _ => none
theorem pr_gcd {G : GG} : PrimN G rGcd gcdD := by
  intro F H vs ds p Q ok ra e q
  unfold gcdD at e
  split at e <;> try (cases e; done)
  cases e
  obtain ⟨v, u, rfl, r1, r2⟩ := repCs_two ra rfl
  obtain rfl := repC_int r1
  obtain rfl := repC_int r2
  exact ⟨_, _, rfl, q _ F H New.refl ok (res_sc rep_int)⟩
/-- data that are ints -/
def intsD : List D → Option (List Int)
  | [] => some []
  | .int i :: ds => match intsD ds with
    | some ns => some (i :: ns)
    | none => none
  | _ :: _ => none
theorem intsD_map : ∀ (ns : List Int), intsD (ns.map PyData.int) = some ns
  | [] => rfl
  | n :: ns => by rw [List.map_cons, intsD, intsD_map ns]
theorem reps_ints {K : PySem.W.Frag} {F : Hp} : ∀ {ds : List D} {vs : List V} {ns : List Int}, Reps K F ds vs → intsD ds = some ns → vs = ns.map V.int
  | [], vs, ns, r, e => by
    cases e
    rw [Reps] at r
    exact r
  | d :: ds, vs, ns, r, e => by
    obtain ⟨v, t, rfl, r1, r2⟩ := reps_cons_inv r
    cases d <;> try (simp [intsD] at e; done)
    rename_i i
    rw [intsD] at e
    cases q : intsD ds with
    | none => rw [q] at e; cases e
    | some ms =>
      rw [q] at e
      cases e
      rw [Rep] at r1
      subst r1
      rw [reps_ints r2 q]
      rfl
theorem ints_reps {K : PySem.W.Frag} {F : Hp} : ∀ (ns : List Int), Reps K F (ns.map PyData.int) (ns.map V.int)
  | [] => reps_nil
  | n :: ns => reps_cons (by rw [Rep]) (ints_reps ns)
def sumD : List D → Option P1
  | [.list ds] => match intsD ds with
    | some ns => some (.fz (.int ns.sum))
    | none => none
  | _ => none
theorem pr_sum {G : GG} {K : PySem.W.Frag} (hK : K = G.K) : PrimN G (rSum K) sumD := by
  subst hK
  intro F H vs ds p Q ok ra e q
  unfold sumD at e
  split at e <;> try (cases e; done)
  rename_i xs
  cases ei : intsD xs with
  | none => rw [ei] at e; cases e
  | some ns =>
    rw [ei] at e
    cases e
    obtain ⟨v, rfl, r⟩ := repCs_one ra rfl
    obtain ⟨l, us, rfl, h1, z1, r1⟩ := repC_lst r
    rw [reps_ints r1 ei] at h1
    exact ⟨l, ns, rfl, SqL.of h1, q _ F H New.refl ok (res_sc rep_int)⟩
def sortI (ns : List Int) : List Int := ns.mergeSort fun a b => decide (a ≤ b)
theorem sortI_perm (ns : List Int) : (sortI ns).Perm ns := List.mergeSort_perm _ _
theorem sortI_sorted (ns : List Int) : (sortI ns).Pairwise (· ≤ ·) := by
  have h := List.pairwise_mergeSort (le := fun a b : Int => decide (a ≤ b)) (fun a b c h1 h2 => by simp at *; omega) (fun a b => by simp; omega) ns
  exact h.imp fun {a b} h => by simpa using h
theorem sorted_eq : ∀ {xs ys : List Int}, xs.Perm ys → xs.Pairwise (· ≤ ·) → ys.Pairwise (· ≤ ·) → xs = ys := fun {xs ys} h1 h2 h3 => by
  exact h1.eq_of_pairwise (fun a b _ _ h4 h5 => by omega) h2 h3
def sortedD : List D → Option P1
  | [.list ds] => match intsD ds with
    | some ns => some (.fl ((sortI ns).map PyData.int))
    | none => none
  | _ => none
theorem pr_sorted {G : GG} {K : PySem.W.Frag} (hK : K = G.K) : PrimN G (rSortedI K) sortedD := by
  subst hK
  intro F H vs ds p Q ok ra e q
  unfold sortedD at e
  split at e <;> try (cases e; done)
  rename_i xs
  cases ei : intsD xs with
  | none => rw [ei] at e; cases e
  | some ns =>
    rw [ei] at e
    cases e
    obtain ⟨v, rfl, r⟩ := repCs_one ra rfl
    obtain ⟨l, us, rfl, h1, z1, r1⟩ := repC_lst r
    have eu := reps_ints r1 ei
    rw [eu] at h1 z1
    refine ⟨l, ns, rfl, SqL.of h1, fun ns' p hperm hsort hp => ?_⟩
    have es : ns' = sortI ns := sorted_eq (hperm.trans (sortI_perm ns).symm) hsort (sortI_sorted ns)
    subst es
    have hl : ((sortI ns).map V.int).length ≤ sizeLine := by
      rw [List.length_map, (sortI_perm ns).length_eq]
      rw [List.length_map] at z1
      exact z1
    obtain ⟨n, k, r⟩ := new_lst ok hl (ints_reps (sortI ns)) hp
    exact q _ _ _ n k r

/-! ### isinstance against a built-in type -/
def tyD : D → String
  | .none => "NoneType"
  | .bool _ => "bool"
  | .int _ => "int"
  | .str _ => "str"
  | .list _ => "list"
  | .tuple _ => "tuple"
  | .dict _ => "dict"
def isiD (Tn : String) (d : D) : Bool := tyD d == Tn || (tyD d == "bool" && Tn == "int")
theorem tyX_of {G : GG} {F H : Hp} {d : D} {v : V} (ok : HpOk G F H) (r : RepC G.K F H d v) (hd : ∀ kvs, d ≠ .dict kvs) : TyX G.K H v (.type (tyD d)) := by
  cases d with
  | none => obtain rfl := repC_non r; exact .base .non
  | bool b => obtain rfl := repC_bl r; exact .base (.bl b)
  | int i => obtain rfl := repC_int r; exact .base (.int i)
  | str x => obtain ⟨rfl, _⟩ := repC_str r; exact .base (.str x)
  | list xs =>
    obtain ⟨l, vs, rfl, h1, _⟩ := repC_lst r
    exact .base (.lst h1)
  | tuple xs =>
    obtain ⟨l, vs, rfl, h1, _⟩ := repC_tup r
    rcases Same.sqT ok.sub h1 with (h | ⟨o, h⟩) | ⟨o, its, n, h, hc, _⟩
    · exact .base (.tup h)
    · exact .fTuple h
    · exact .kTuple h hc
  | dict kvs => exact absurd rfl (hd kvs)
def kitOkB (Tn : String) : Bool := ["NoneType", "bool", "int", "str", "list", "tuple"].all fun t => kitB t Tn == some (t == Tn || (t == "bool" && Tn == "int"))
theorem kit_at {Tn : String} (h : kitOkB Tn = true) {d : D} (hd : ∀ kvs, d ≠ .dict kvs) : kitB (tyD d) Tn = some (isiD Tn d) := by
  unfold kitOkB at h
  simp only [List.all_cons, List.all_nil, Bool.and_true, Bool.and_eq_true, beq_iff_eq] at h
  obtain ⟨h1, h2, h3, h4, h5, h6⟩ := h
  cases d with
  | none => exact h1
  | bool b => exact h2
  | int i => exact h3
  | str x => exact h4
  | list xs => exact h5
  | tuple xs => exact h6
  | dict kvs => exact absurd rfl (hd kvs)
def eIsi (Tn : String) (fa : Env → R W) : Env → R W := fun ρ => (eNrm fa ρ).bind fun w ρ1 => match w.dat ρ1 with
  | some d => .ok (.val (.bool (isiD Tn d))) ρ1
  | none => .bad
theorem pd_isi {C : Ct} {a : Expr} {fa : Env → R W} {Tn : String} {x : Str} {p p2 pos : Pos} (hg : glB C.sc "isinstance" = true) (hm : C.G.mg "isinstance" = none) (hx : glB C.sc x = true) (hmx : C.G.mg x = none) (hv : bootBuiltins x = some (.type Tn)) (hk : kitOkB Tn = true)
    (ha : PD C a fa) (he : ∀ env, starEach [a, .Name x p2] env = (false, eval a env) :: starEach [.Name x p2] env := by intro _; rfl) : PD C (.Call (.Name "isinstance" p) [a, .Name x p2] [] pos) (eIsi Tn fa) := fun X Wx ok => by
  refine PE.to (pe_callB call_isi (ok.gl hg) (by rw [ok.mg]; exact hm) (by decide +kernel : bootBuiltins "isinstance" = some (.builtin "isinstance"))
    (pa_cons (ha X Wx ok) (pa_cons (pe_bltn (v := .ty Tn) (ok.gl hx) (by rw [ok.mg]; exact hmx) hv rfl (glB_spec hx).2.2 (glB_spec hx).2.1) pa_nil) (he _)) (by decide) (by decide) (he _)) fun σ H Q ⟨T, F, ρ, en, pp⟩ => ?_
  refine tE_nrm en ((RPost.bind pp).imp fun w ρ1 F1 H1 e1 en1 l1 p1 v rv => ?_)
  cases ew : w.dat ρ1 with
  | none => simp only [ew] at p1; exact p1.elim
  | some d =>
    simp only [ew] at p1
    have rc := rv.read en1 ew
    have hd : ∀ kvs, d ≠ .dict kvs := fun kvs e => by
      subst e
      have z := rc.rep' en1.hp
      rw [Rep] at z
      exact z
    refine ⟨v, .ty Tn, .type (tyD d), .type Tn, isiD Tn d, rfl, .ty Tn, ?_, kit_ty (kit_at hk hd), RPost.here en1 p1 _ (repW_val rep_bl)⟩
    rw [ok.K]
    exact tyX_of en1.hp rc hd
end PL
end
section
set_option Elab.async false
set_option linter.all false
set_option maxRecDepth 100000
set_option maxHeartbeats 2000000
set_option autoImplicit false
/-! What loops walk; targets; statements. -/
namespace PL
open PySem PySem.Spec PyProof.Rows L2
open L2H (HotC PIH TurnH)

/-! ### what loops walk -/
/-- J yields the items ds, whatever else is laid -/
structure Feeds (G : GG) (J : It) (F : Hp) (ds : List D) : Prop where
  go : ∀ (i : Nat) (F' H' : Hp), Same F F' → HpOk G F' H' → i < ds.length → J.go i H'
  yld : ∀ (i : Nat) (d : D) (F' H' : Hp) (x : V) (H'' : Hp), Same F F' → HpOk G F' H' → ds[i]? = some d → J.yld i H' x H'' → ∃ F'', New F' H' F'' H'' ∧ HpOk G F'' H'' ∧ Rep G.K F'' d x
  stop : ∀ (i : Nat) (F' H' : Hp), Same F F' → HpOk G F' H' → ds.length ≤ i → J.stop i H'
section
variable {G : GG} {F : Hp}
theorem feeds_range (lo : Int) (n : Nat) : Feeds G (Itr lo n) F ((List.range n).map fun k => PyData.int (lo + (k : Nat))) where
  go := fun i F' H' s ok h => by
    have h : i < n := by simpa using h
    exact h
  yld := fun i d F' H' x H'' s ok h y => by
    obtain ⟨rfl, rfl⟩ := y
    have hd : d = .int (lo + (i : Nat)) := by
      rw [List.getElem?_map] at h
      cases e : (List.range n)[i]? with
      | none => rw [e] at h; cases h
      | some k =>
        rw [e] at h
        obtain ⟨_, e2⟩ := List.getElem?_eq_some_iff.mp e
        rw [List.getElem_range] at e2
        subst e2
        exact (Option.some.inj h).symm
    subst hd
    exact ⟨F', New.refl, ok, rep_int⟩
  stop := fun i F' H' s ok h => by
    have h : n ≤ i := by simpa using h
    exact h
end
/-- the readings of sources -/
def tI (G : GG) (Wx : WX) (f : Env → R (List D)) : TI := fun σ H Rr => ∃ T F ρ, EnvOk G T F H σ ρ ∧ RPost G T Wx F H σ ρ (fun ds _ F' H' => ∀ J, Feeds G J F' ds → Rr J H') (f ρ)
/-- a source of a loop, calm or hot -/
structure PJ (X : Cx) (tg e : Expr) (t : TI) : Prop where
  calm : X.calm = true → PI X tg e t
  hot : HotC X → PIH X tg e t
def PDI (C : Ct) (tg e : Expr) (f : Env → R (List D)) : Prop := ∀ (X : Cx) (Wx : WX), Cok X C Wx → PJ X tg e (tI C.G Wx f)
theorem PI.to {X : Cx} {tg e : Expr} {t t' : TI} (h : PI X tg e t) (i : ∀ σ H Rr, t' σ H Rr → t σ H Rr) : PI X tg e t' := ⟨fun pins s σ H Rr I q => h.run pins s σ H Rr I (i σ H Rr q)⟩

theorem PJ.to {X : Cx} {tg e : Expr} {t t' : TI} (h : PJ X tg e t) (i : ∀ σ H Rr, t' σ H Rr → t σ H Rr) : PJ X tg e t' := ⟨fun c => PL.PI.to (h.calm c) i, fun c => ⟨fun pins s σ H Rr I q => (h.hot c).run pins s σ H Rr I (i σ H Rr q)⟩⟩
/-- a list or a tuple -/
def iSeq (K : PySem.W.Frag) (tl : TE) : TI := fun σ H R => tl σ H fun x H1 => ∃ a, x = .ref a ∧ ((∃ xs, SqL K H1 a xs ∧ R (Itl K a) H1) ∨ (∃ xs, SqT K H1 a xs ∧ R (Itt K a) H1))
theorem pi_seq {X : Cx} {tg l : Expr} {tl : TE} (hl : PE X l tl) : PI X tg l (iSeq X.K tl) := by
  refine ⟨fun pins s σ H R I h => ?_⟩
  refine thn (hl.run pins s σ H _ I h) fun v s1 ⟨x, H1, I1, r1, q1⟩ => ?_
  obtain ⟨a, e, q⟩ := q1
  subst e
  cases r1
  rcases q with ⟨xs, hq, q⟩ | ⟨xs, hq, q⟩
  · obtain ⟨its, rv, p, hz⟩ := I1.list hq
    refine wpAny_pyIter_list p.isList ?_
    refine ⟨s1.heap.objs.size, [s1.heap.objs.size], _, _, H1, rfl, I1.kept (t' := s1.toks) fun b o e => Heap.get?_push_of_some _ e, turn_list a _, ⟨_, Heap.get?_push_size _ rfl, rfl, rfl⟩, fun b hb => ?_, q⟩
    have e : b = s1.heap.objs.size := by simpa using hb
    subst e
    exact I1.fpOk (Nat.le_refl _) (I1.hok.fresh (Nat.le_refl _))
  · obtain ⟨its, rv, p, hz⟩ := I1.tuple hq
    refine wpAny_pyIter_tuple (show s1.heap.IsTuple a its.toArray from p) ?_
    refine ⟨s1.heap.objs.size, [s1.heap.objs.size], _, _, H1, rfl, I1.kept (t' := s1.toks) fun b o e => Heap.get?_push_of_some _ e, turn_tuple a _, ⟨_, Heap.get?_push_size _ rfl, rfl, rfl⟩, fun b hb => ?_, q⟩
    have e : b = s1.heap.objs.size := by simpa using hb
    subst e
    exact I1.fpOk (Nat.le_refl _) (I1.hok.fresh (Nat.le_refl _))
theorem pi_seqH {X : Cx} {tg l : Expr} {tl : TE} (hl : PE X l tl) : PIH X tg l (iSeq X.K tl) := by
  refine ⟨fun pins s σ H R I h => thn (hl.run pins s σ H _ I h) fun v s1 ⟨x, H1, I1, r1, a, e, q⟩ => ?_⟩
  subst e
  cases r1
  have fo : ∀ b ∈ [s1.heap.objs.size], FpOk X pins H1 b := fun b hb => by rw [List.mem_singleton.mp hb]; exact I1.fpOk (Nat.le_refl _) (I1.hok.fresh (Nat.le_refl _))
  rcases q with ⟨xs, hq, q⟩ | ⟨xs, hq, q⟩
  · obtain ⟨its, rv, pl, _⟩ := I1.list hq
    exact wpAny_pyIter_list pl.isList ⟨s1.heap.objs.size, [s1.heap.objs.size], _, _, H1, rfl, I1.kept (t' := s1.toks) fun b o e => Heap.get?_push_of_some _ e, HotI.turn_listH a _, ⟨_, Heap.get?_push_size _ rfl, rfl, rfl⟩, fo, q⟩
  · obtain ⟨its, rv, pl, _⟩ := I1.tuple hq
    exact wpAny_pyIter_tuple (show s1.heap.IsTuple a its.toArray from pl) ⟨s1.heap.objs.size, [s1.heap.objs.size], _, _, H1, rfl, I1.kept (t' := s1.toks) fun b o e => Heap.get?_push_of_some _ e, HotI.turn_tupleH a _, ⟨_, Heap.get?_push_size _ rfl, rfl, rfl⟩, fo, q⟩
theorem pj_seq {X : Cx} {tg l : Expr} {tl : TE} (hl : PE X l tl) : PJ X tg l (iSeq X.K tl) := ⟨fun _ => pi_seq hl, fun _ => pi_seqH hl⟩
theorem hpL {G : GG} {F F' H' : Hp} {a : Addr} {vs : List V} (s : Same F F') (ok : HpOk G F' H') (h : F a = some (.lst vs)) : SqL G.K H' a vs := SqL.of (ok.sub _ _ (s _ _ h))
theorem feeds_list {G : GG} {F : Hp} {a : Addr} {ds : List D} {vs : List V} (h : F a = some (.lst vs)) (r : Reps G.K F ds vs) : Feeds G (Itl G.K a) F ds where
  go := fun i F' H' s ok hi => by
    have hi' : i < vs.length := by rw [r.len]; exact hi
    exact ⟨vs, vs[i], hpL s ok h, by simp [hi']⟩
  yld := fun i d F' H' x H'' s ok hd y => by
    obtain ⟨rfl, y⟩ := y
    obtain ⟨v, hv, rv⟩ := r.get hd
    have z := y vs (hpL s ok h)
    rw [hv] at z
    cases z
    exact ⟨F', New.refl, ok, rv.mono s⟩
  stop := fun i F' H' s ok hi => ⟨vs, hpL s ok h, by rw [r.len]; exact hi⟩
theorem hpT {G : GG} {F F' H' : Hp} {a : Addr} {vs : List V} (s : Same F F') (ok : HpOk G F' H') (h : SqT G.K F a vs) : SqT G.K H' a vs := Same.sqT ok.sub (Same.sqT s h)
theorem feeds_tup {G : GG} {F : Hp} {a : Addr} {ds : List D} {vs : List V} (h : SqT G.K F a vs) (r : Reps G.K F ds vs) : Feeds G (Itt G.K a) F ds where
  go := fun i F' H' s ok hi => by
    have hi' : i < vs.length := by rw [r.len]; exact hi
    exact ⟨vs, vs[i], hpT s ok h, by simp [hi']⟩
  yld := fun i d F' H' x H'' s ok hd y => by
    obtain ⟨rfl, y⟩ := y
    obtain ⟨v, hv, rv⟩ := r.get hd
    have z := y vs (hpT s ok h)
    rw [hv] at z
    cases z
    exact ⟨F', New.refl, ok, rv.mono s⟩
  stop := fun i F' H' s ok hi => ⟨vs, hpT s ok h, by rw [r.len]; exact hi⟩
def itW (w : W) (ρ : Env) : R (List D) := match w with
  | .o (.fz (.list ds)) => .ok ds ρ
  | .o (.fz (.tuple ds)) => .ok ds ρ
  | _ => .bad
/-- over a list or a tuple; a list of one's own is frozen -/
def iSq (f : Env → R W) : Env → R (List D) := fun ρ => (eFz f ρ).bind itW
theorem pdi_seq {C : Ct} {tg e : Expr} {f : Env → R W} (h : PD C e f) : PDI C tg e (iSq f) := fun X Wx ok => by
  refine PJ.to (pj_seq (h X Wx ok)) fun σ H Rr ⟨T, F, ρ, en, p⟩ => ?_
  refine tE_fz en ((RPost.bind p).imp fun w ρ1 F1 H1 e1 en1 l1 p1 v rv => ?_)
  cases w with
  | own i => exact p1.elim
  | o x =>
    cases x with
    | fl xs => exact p1.elim
    | tp ps => exact p1.elim
    | fz d =>
      have rv : Rep C.G.K F1 d v := rv
      cases d with
      | list ds =>
        rw [Rep] at rv
        obtain ⟨a, vs, rfl, h1, l, r⟩ := rv
        refine ⟨a, rfl, .inl ⟨vs, ?_, ?_⟩⟩
        · rw [ok.K]; exact hpL (fun _ _ e => e) en1.hp h1
        · rw [ok.K]; exact RPost.here en1 p1 _ (feeds_list h1 r)
      | tuple ds =>
        rw [Rep] at rv
        obtain ⟨a, vs, rfl, h1, l, r⟩ := rv
        refine ⟨a, rfl, .inr ⟨vs, ?_, ?_⟩⟩
        · rw [ok.K]; exact hpT (fun _ _ e => e) en1.hp h1
        · rw [ok.K]; exact RPost.here en1 p1 _ (feeds_tup h1 r)
      | none => exact p1.elim
      | bool b => exact p1.elim
      | int i => exact p1.elim
      | str x => exact p1.elim
      | dict kvs => exact p1.elim
/-! ranges -/
def rngI (lo hi : Int) : List D := (List.range (hi - lo).toNat).map fun k => PyData.int (lo + (k : Nat))
def inR (i : Int) : Bool := decide (-(2 ^ 62) ≤ i) && decide (i < 2 ^ 62)
theorem inR_spec {i : Int} (h : inR i = true) : -(2 ^ 62) ≤ i ∧ i < 2 ^ 62 := by
  have := Bool.and_eq_true_iff.mp h
  exact ⟨of_decide_eq_true this.1, of_decide_eq_true this.2⟩
def iR1 (fa : Env → R (List W)) : Env → R (List D) := fun ρ => (fa ρ).bind fun ws ρ1 => match datAll ρ1 ws with
  | some [.int j] => if inR j = true then .ok (rngI 0 j) ρ1 else .bad
  | _ => .bad
def iR2 (fa : Env → R (List W)) : Env → R (List D) := fun ρ => (fa ρ).bind fun ws ρ1 => match datAll ρ1 ws with
  | some [.int i, .int j] => if (inR i && inR j) = true then .ok (rngI i j) ρ1 else .bad
  | _ => .bad
theorem pdi_range1 {C : Ct} {tg a : Expr} {fa : Env → R (List W)} {p pos : Pos} (hg : glB C.sc "range" = true) (hm : C.G.mg "range" = none) (ha : PDA C [a] fa) (hs : ∀ env, starEach [a] env = [(false, eval a env)] := by intro _; rfl) :
    PDI C tg (.Call (.Name "range" p) [a] [] pos) (iR1 fa) := fun X Wx ok => by
  refine PJ.to ⟨fun _ => pi_range1 (ok.gl hg) (by rw [ok.mg]; exact hm) (ha X Wx ok) (hs _), fun _ => L2H.pi_range1H (ok.gl hg) (by rw [ok.mg]; exact hm) (ha X Wx ok) (hs _)⟩ fun σ H Rr ⟨T, F, ρ, en, p⟩ => ⟨T, F, ρ, en, (RPost.bind p).imp fun ws ρ1 F1 H1 e1 en1 l1 p1 vs rv => ?_⟩
  cases ea : datAll ρ1 ws with
  | none => simp only [ea] at p1; exact p1.elim
  | some ds =>
    simp only [ea] at p1
    have rr := rv.read en1 ea
    split at p1 <;> try (exact p1.elim)
    rename_i j ej
    cases ej
    obtain ⟨v, rfl, r⟩ := repCs_one rr rfl
    obtain rfl := repC_int r
    by_cases hj : inR j = true
    · rw [if_pos hj] at p1
      obtain ⟨h1, h2⟩ := inR_spec hj
      refine ⟨j, rfl, h1, h2, ?_⟩
      have z := RPost.here en1 p1 (Itr 0 (j - 0).toNat) (feeds_range 0 _)
      rw [Int.sub_zero] at z
      exact z
    · rw [if_neg hj] at p1; exact p1.elim
theorem pdi_range2 {C : Ct} {tg a b : Expr} {fa : Env → R (List W)} {p pos : Pos} (hg : glB C.sc "range" = true) (hm : C.G.mg "range" = none) (ha : PDA C [a, b] fa) (hs : ∀ env, starEach [a, b] env = [(false, eval a env), (false, eval b env)] := by intro _; rfl)
    (hs2 : ∀ env, starEach [b] env = [(false, eval b env)] := by intro _; rfl) : PDI C tg (.Call (.Name "range" p) [a, b] [] pos) (iR2 fa) := fun X Wx ok => by
  refine PJ.to ⟨fun _ => pi_range2 (ok.gl hg) (by rw [ok.mg]; exact hm) (ha X Wx ok) (hs _) (hs2 _), fun _ => HotI.pi_range2H (ok.gl hg) (by rw [ok.mg]; exact hm) (ha X Wx ok) (hs _) (hs2 _)⟩ fun σ H Rr ⟨T, F, ρ, en, p⟩ => ⟨T, F, ρ, en, (RPost.bind p).imp fun ws ρ1 F1 H1 e1 en1 l1 p1 vs rv => ?_⟩
  cases ea : datAll ρ1 ws with
  | none => simp only [ea] at p1; exact p1.elim
  | some ds =>
    simp only [ea] at p1
    have rr := rv.read en1 ea
    split at p1 <;> try (exact p1.elim)
    rename_i i j ej
    cases ej
    obtain ⟨v, u, rfl, r, r'⟩ := repCs_two rr rfl
    obtain rfl := repC_int r
    obtain rfl := repC_int r'
    by_cases hj : (inR i && inR j) = true
    · rw [if_pos hj] at p1
      obtain ⟨h0, h0'⟩ := Bool.and_eq_true_iff.mp hj
      obtain ⟨h1, h2⟩ := inR_spec h0
      obtain ⟨h3, h4⟩ := inR_spec h0'
      exact ⟨i, j, rfl, ⟨h1, h2, h3, h4⟩, RPost.here en1 p1 (Itr i (j - i).toNat) (feeds_range i _)⟩
    · rw [if_neg hj] at p1; exact p1.elim

/-! ### targets -/
abbrev TgD := D → Env → Option Env
def gN (i : Nat) : TgD := fun d ρ => if i < ρ.length then some (ρ.set i (.fz d)) else none
def gAll : List TgD → List D → Env → Option Env
  | [], [], ρ => some ρ
  | g :: gs, d :: ds, ρ => match g d ρ with
    | some ρ1 => gAll gs ds ρ1
    | none => none
  | _, _, _ => none
def gT (gs : List TgD) : TgD := fun d ρ => match d with
  | .tuple ds => gAll gs ds ρ
  | .list ds => gAll gs ds ρ
  | _ => none
/-- the store of a value at hand -/
def GPost (G : GG) (T : Fm) (vs : List Nat) (F H : Hp) (σ : L2.St) (ρ : Env) (Q : L2.St → Hp → Prop) (o : Option Env) : Prop :=
  ∃ ρ', o = some ρ' ∧ ∀ σ', EnvOk G T F H σ' ρ' → (∀ a, Owns σ' ρ' a → Owns σ ρ a) → wipe σ' vs = wipe σ vs → Q σ' H
def tG (G : GG) (vs : List Nat) (g : TgD) : TG := fun v σ H Q => ∃ T F ρ d, EnvOk G T F H σ ρ ∧ Rep G.K F d v ∧ GPost G T vs F H σ ρ Q (g d ρ)
def tGs (G : GG) (vs : List Nat) (gs : List TgD) : TGs := fun us σ H Q => ∃ T F ρ ds, EnvOk G T F H σ ρ ∧ Reps G.K F ds us ∧ GPost G T vs F H σ ρ Q (gAll gs ds ρ)
/-- a, b, .. = a tuple or a list at hand -/
def tGC (G : GG) (vs : List Nat) (gs : List TgD) : TG := fun v σ H Q => ∃ T F ρ d, EnvOk G T F H σ ρ ∧ RepC G.K F H d v ∧ GPost G T vs F H σ ρ Q (gT gs d ρ)
def PDG (C : Ct) (tg : Expr) (vs : List Nat) (g : TgD) : Prop := ∀ (X : Cx) (Wx : WX), Cok X C Wx → PG X tg (tG C.G vs g)
def PDGs (C : Ct) (tgs : List Expr) (vs : List Nat) (gs : List TgD) : Prop := ∀ (X : Cx) (Wx : WX), Cok X C Wx → PGs X tgs (tGs C.G vs gs)
def PDGC (C : Ct) (tg : Expr) (vs : List Nat) (gs : List TgD) : Prop := ∀ (X : Cx) (Wx : WX), Cok X C Wx → PG X tg (tGC C.G vs gs)
theorem PG.to {X : Cx} {tg : Expr} {t t' : TG} (h : PG X tg t) (i : ∀ v σ H Q, t' v σ H Q → t v σ H Q) : PG X tg t' := ⟨fun pins s σ H v u Q I r q => h.run pins s σ H v u Q I r (i v σ H Q q)⟩
theorem PGs.to {X : Cx} {tgs : List Expr} {t t' : TGs} (h : PGs X tgs t) (i : ∀ v σ H Q, t' v σ H Q → t v σ H Q) : PGs X tgs t' := ⟨fun pins s σ H v u Q I r q => h.run pins s σ H v u Q I r (i v σ H Q q)⟩
theorem wipe_set {σ : L2.St} {i : Nat} {o : Option V} : ∀ {vs : List Nat}, i ∈ vs → wipe (σ.set i o) vs = wipe σ vs
  | v :: vs, h => by
    unfold wipe
    by_cases e : i ∈ vs
    · rw [wipe_set e]
    · have : i = v := by
        rcases List.mem_cons.mp h with z | z
        · exact z
        · exact absurd z e
      subst this
      apply List.ext_getElem?
      intro j
      by_cases hj : i = j
      · subst hj
        by_cases hl : i < σ.length
        · rw [List.getElem?_set_self (by rw [wipe_length, List.length_set]; exact hl), List.getElem?_set_self (by rw [wipe_length]; exact hl)]
        · rw [List.getElem?_eq_none (by rw [List.length_set, wipe_length, List.length_set]; omega), List.getElem?_eq_none (by rw [List.length_set, wipe_length]; omega)]
      · rw [List.getElem?_set_ne hj, List.getElem?_set_ne hj]
        by_cases hm : j ∈ vs
        · have out : ∀ (τ : L2.St), (wipe τ vs)[j]? = if j < τ.length then some none else none := by
            intro τ
            clear h e hj
            induction vs with
            | nil => cases hm
            | cons w ws ih =>
              unfold wipe
              by_cases hw : w = j
              · subst hw
                by_cases hl : w < τ.length
                · rw [if_pos hl, List.getElem?_set_self (by rw [wipe_length]; exact hl)]
                · rw [if_neg hl, List.getElem?_eq_none (by rw [List.length_set, wipe_length]; omega)]
              · rw [List.getElem?_set_ne hw]
                exact ih (by
                  rcases List.mem_cons.mp hm with z | z
                  · exact absurd z.symm hw
                  · exact z)
          rw [out, out, List.length_set]
        · rw [wipe_out hm, wipe_out hm, List.getElem?_set_ne hj]
theorem EnvOk.setFz {G : GG} {T : Fm} {F H : Hp} {σ : L2.St} {ρ : Env} {i : Nat} {d : D} {v : V} (en : EnvOk G T F H σ ρ) (hi : i < ρ.length) (r : Rep G.K F d v) : EnvOk G T F H (σ.set i (some v)) (ρ.set i (.fz d)) ∧ ∀ a, Owns (σ.set i (some v)) (ρ.set i (.fz d)) a → Owns σ ρ a := by
  have hi' : i < σ.length := by rw [en.len]; exact hi
  refine ⟨⟨en.hp, en.live0, by rw [List.length_set, List.length_set]; exact en.len, fun j s e => ?_, fun j k a s t e1 o1 e2 o2 s1 s2 => ?_⟩, fun a ⟨j, s, e1, e2, e3⟩ => ?_⟩
  · rw [get_set hi] at e
    split at e
    · rename_i ej
      subst ej
      cases e
      rw [List.getElem?_set_self hi']
      exact ⟨v, rfl, r⟩
    · rename_i ej
      rw [List.getElem?_set_ne (Ne.symm ej)]
      exact en.at_ j s e
  · rw [get_set hi] at e1 e2
    split at e1
    · cases e1; cases o1
    · rename_i ej
      split at e2
      · cases e2; cases o2
      · rename_i ek
        rw [List.getElem?_set_ne (Ne.symm ej)] at s1
        rw [List.getElem?_set_ne (Ne.symm ek)] at s2
        exact en.sep j k a s t e1 o1 e2 o2 s1 s2
  · rw [get_set hi] at e1
    split at e1
    · cases e1; cases e2
    · rename_i ej
      rw [List.getElem?_set_ne (Ne.symm ej)] at e3
      exact ⟨j, s, e1, e2, e3⟩
def locB (C : Ct) (i : Nat) (x : Str) : Bool := C.N[i]? == some x && (C.sc.names.lookup x == some .local || (C.sc.names.lookup x == some .cell && C.fnb x))
theorem locB_spec {C : Ct} {i : Nat} {x : Str} (h : locB C i x = true) : C.N[i]? = some x ∧ Loc C.sc x ∧ (C.fnb x = true ∨ C.sc.names.lookup x = some .local) := by
  unfold locB at h
  simp only [Bool.and_eq_true, Bool.or_eq_true, beq_iff_eq] at h
  obtain ⟨h1, h2⟩ := h
  refine ⟨h1, ?_, ?_⟩
  · rcases h2 with h | h
    · exact .inl h
    · exact .inr h.1
  · rcases h2 with h | h
    · exact .inr h
    · exact .inl h.2
section
variable {C : Ct} {vs : List Nat}
theorem pdg_name {i : Nat} {x : Str} {pos : Pos} (h : locB C i x = true) (hv : i ∈ vs) : PDG C (.Name x pos) vs (gN i) := fun X Wx ok => by
  obtain ⟨h1, h2, h3⟩ := locB_spec h
  refine PG.to (pg_name ok.nodup (i := i) (by rw [ok.hN]; exact h1) (by rw [ok.hsc]; exact h2) (by rw [ok.fn, ok.hsc]; exact h3)) fun v σ H Q ⟨T, F, ρ, d, en, r, ρ', e, q⟩ => ?_
  unfold gN at e
  by_cases hi : i < ρ.length
  · rw [if_pos hi] at e
    cases e
    obtain ⟨en', l⟩ := en.setFz hi r
    exact q _ en' l (wipe_set hv)
  · rw [if_neg hi] at e; cases e
theorem pdgs_nil : PDGs C [] vs [] := fun X Wx ok => PGs.to pgs_nil fun us σ H Q ⟨T, F, ρ, ds, en, r, ρ', e, q⟩ => by
  cases ds with
  | nil =>
    rw [Reps] at r
    cases e
    exact ⟨r, q σ en (fun _ z => z) rfl⟩
  | cons d ds => cases e
theorem pdgs_cons {t : Expr} {ts : List Expr} {g : TgD} {gs : List TgD} (h1 : PDG C t vs g) (h2 : PDGs C ts vs gs)
    (hs : ∀ env, (assignEach (t :: ts) env).map (·.2) = assign t env :: (assignEach ts env).map (·.2) := by intro _; rfl) : PDGs C (t :: ts) vs (g :: gs) := fun X Wx ok => by
  refine PGs.to (pgs_cons (h1 X Wx ok) (h2 X Wx ok) (hs _)) fun us σ H Q ⟨T, F, ρ, ds, en, r, ρ', e, q⟩ => ?_
  cases ds with
  | nil => cases e
  | cons d ds =>
    obtain ⟨v, us', rfl, r1, r2⟩ := reps_cons_inv r
    unfold gAll at e
    cases eg : g d ρ with
    | none => simp only [eg] at e; cases e
    | some ρ1 =>
      simp only [eg] at e
      exact ⟨v, us', rfl, T, F, ρ, d, en, r1, ρ1, eg, fun σ1 en1 l1 w1 => ⟨T, F, ρ1, ds, en1, r2, ρ', e, fun σ2 en2 l2 w2 => q σ2 en2 (fun a z => l1 a (l2 a z)) (w2.trans w1)⟩⟩
theorem pg_two {X : Cx} {es : List Expr} {k : Nat} {pos : Pos} {t : TGs} {n : Nat} (hc : X.calm = true) (h : PGs X es t)
    (hn : (assignEach es X.env).length = n) (hst : (assignEach es X.env).findIdx? (·.1) = none) : PG X (.Tuple es k pos) (fun v σ H Q => gTup X.K n t v σ H Q ∨ gUnl X.K n t v σ H Q) :=
  ⟨fun pins s σ H v u Q I r hw => hw.elim (fun q => (pg_tup hc h hn hst).run pins s σ H v u Q I r q) fun q => (pg_unl hc h hn hst).run pins s σ H v u Q I r q⟩
theorem gAll_len : ∀ {gs : List TgD} {ds : List D} {ρ ρ' : Env}, gAll gs ds ρ = some ρ' → ds.length = gs.length
  | [], [], _, _, _ => rfl
  | [], _ :: _, _, _, e => by cases e
  | _ :: _, [], _, _, e => by cases e
  | g :: gs, d :: ds, ρ, ρ', e => by
    unfold gAll at e
    cases eg : g d ρ with
    | none => simp only [eg] at e; cases e
    | some ρ1 =>
      simp only [eg] at e
      rw [List.length_cons, List.length_cons, gAll_len e]
theorem pdgc_tup {ts : List Expr} {k : Nat} {pos : Pos} {gs : List TgD} (h : PDGs C ts vs gs) (hn : ∀ env, (assignEach ts env).length = gs.length := by intro _; rfl) (hst : ∀ env, (assignEach ts env).findIdx? (·.1) = none := by intro _; rfl) (hh : C.hot = false := by rfl) : PDGC C (.Tuple ts k pos) vs gs := fun X Wx ok => by
  refine PG.to (pg_two (ok.calm hh) (h X Wx ok) (hn _) (hst _)) fun v σ H Q ⟨T, F, ρ, d, en, r, ρ', e, q⟩ => ?_
  cases d with
  | tuple ds =>
    obtain ⟨a, us, rfl, h1, l, rs⟩ := repC_tup r
    have hl := gAll_len e
    refine .inl ⟨a, us, rfl, ?_, by rw [rs.len, hl], T, F, ρ, ds, en, rs, ρ', e, q⟩
    rw [ok.K]
    exact Same.sqT en.hp.sub h1
  | list ds =>
    obtain ⟨a, us, rfl, h1, l, rs⟩ := repC_lst r
    have hl := gAll_len e
    refine .inr ⟨a, us, rfl, ?_, by rw [rs.len, hl], T, F, ρ, ds, en, rs, ρ', e, q⟩
    rw [ok.K]
    exact SqL.of h1
  | none => cases e
  | bool b => cases e
  | int i => cases e
  | str x => cases e
  | dict kvs => cases e
theorem pdg_tup {ts : List Expr} {k : Nat} {pos : Pos} {gs : List TgD} (h : PDGs C ts vs gs) (hn : ∀ env, (assignEach ts env).length = gs.length := by intro _; rfl) (hst : ∀ env, (assignEach ts env).findIdx? (·.1) = none := by intro _; rfl) (hh : C.hot = false := by rfl) : PDG C (.Tuple ts k pos) vs (gT gs) := fun X Wx ok =>
  PG.to (pdgc_tup h hn hst hh X Wx ok) fun v σ H Q ⟨T, F, ρ, d, en, r, ρ', e, q⟩ => ⟨T, F, ρ, d, en, r.c en.hp.sub, ρ', e, q⟩
/-- a pair and the like: tuples alone; calm or hot -/
def gTt (gs : List TgD) : TgD := fun d ρ => match d with
  | .tuple ds => gAll gs ds ρ
  | _ => none
theorem hot_of {X : Cx} {Wx : WX} {C : Ct} (ok : Cok X C Wx) : X.calm = true ∨ HotC X := ok.way.elim (fun z => .inl z.1) fun ⟨_, p, h1, h2, _⟩ => .inr ⟨p, h1, h2⟩
theorem pg_tupJ {X : Cx} {es : List Expr} {k : Nat} {pos : Pos} {t : TGs} {n : Nat} (hc : X.calm = true ∨ HotC X) (h : PGs X es t) (hn : (assignEach es X.env).length = n) (hst : (assignEach es X.env).findIdx? (·.1) = none) : PG X (.Tuple es k pos) (gTup X.K n t) :=
  hc.elim (fun c => pg_tup c h hn hst) fun c => HotI.pg_tupH c h hn hst
theorem pdg_tupT {ts : List Expr} {k : Nat} {pos : Pos} {gs : List TgD} (h : PDGs C ts vs gs) (hn : ∀ env, (assignEach ts env).length = gs.length := by intro _; rfl) (hst : ∀ env, (assignEach ts env).findIdx? (·.1) = none := by intro _; rfl) : PDG C (.Tuple ts k pos) vs (gTt gs) := fun X Wx ok => by
  refine PG.to (pg_tupJ (hot_of ok) (h X Wx ok) (hn _) (hst _)) fun v σ H Q ⟨T, F, ρ, d, en, r, ρ', e, q⟩ => ?_
  cases d with
  | tuple ds =>
    obtain ⟨a, us, rfl, h1, l, rs⟩ := repC_tup (r.c en.hp.sub)
    refine ⟨a, us, rfl, ?_, by rw [rs.len, gAll_len e], T, F, ρ, ds, en, rs, ρ', e, q⟩
    rw [ok.K]
    exact Same.sqT en.hp.sub h1
  | list ds => cases e
  | none => cases e
  | bool b => cases e
  | int i => cases e
  | str x => cases e
  | dict kvs => cases e
end
end PL
end
section
set_option Elab.async false
set_option linter.all false
set_option maxRecDepth 100000
set_option maxHeartbeats 2000000
set_option autoImplicit false
/-! Statements. -/
namespace PL
open PySem PySem.Spec PyProof.Rows L2

inductive So where
  | nx (ρ : Env) | bk (ρ : Env) | ct (ρ : Env) | rt (w : W) (ρ : Env) | exc (c : Str) (ρ : Env) | bad
def R.so {α : Type} (r : R α) (k : α → Env → So) : So := match r with
  | .ok x ρ => k x ρ
  | .exc c ρ => .exc c ρ
  | .bad => .bad
@[simp] theorem R.so_ok {α : Type} (x : α) (ρ : Env) (k : α → Env → So) : (R.ok x ρ).so k = k x ρ := rfl
@[simp] theorem R.so_exc {α : Type} (c : Str) (ρ : Env) (k : α → Env → So) : (R.exc c ρ : R α).so k = .exc c ρ := rfl
@[simp] theorem R.so_bad {α : Type} (k : α → Env → So) : (R.bad : R α).so k = .bad := rfl
def Grow (H : Hp) (σ : L2.St) (ρ : Env) (σ' : L2.St) (ρ' : Env) : Prop := ∀ a, Owns σ' ρ' a → Owns σ ρ a ∨ H a = none
/-- a value that is returned -/
def RepT (G : GG) (T : Fm) (F H : Hp) (σ : L2.St) (ρ : Env) (v : V) : W → Prop
  | .o x => ∃ A, RepO G.K F H v x A ∧ A.Nodup ∧ ∀ a ∈ A, T.H0 a = none ∧ ¬ Owns σ ρ a
  | .own i => σ[i]? = some (some v)
def SPost (G : GG) (T : Fm) (Wx : WX) (F H : Hp) (σ : L2.St) (ρ : Env) (Dn : Ends) : So → Prop
  | .nx ρ' => ∀ σ' F' H', Ext (Owns σ ρ) F H F' H' → EnvOk G T F' H' σ' ρ' → Grow H σ ρ σ' ρ' → Dn.nx σ' H'
  | .bk ρ' => ∀ σ' F' H', Ext (Owns σ ρ) F H F' H' → EnvOk G T F' H' σ' ρ' → Grow H σ ρ σ' ρ' → Dn.bk σ' H'
  | .ct ρ' => ∀ σ' F' H', Ext (Owns σ ρ) F H F' H' → EnvOk G T F' H' σ' ρ' → Grow H σ ρ σ' ρ' → Dn.ct σ' H'
  | .rt w ρ' => ∀ σ' F' H' v, Ext (Owns σ ρ) F H F' H' → EnvOk G T F' H' σ' ρ' → Grow H σ ρ σ' ρ' → RepT G T F' H' σ' ρ' v w → Dn.rt v H'
  | .exc c ρ' => ∀ σ' F' H', Ext (Owns σ ρ) F H F' H' → EnvOk G T F' H' σ' ρ' → Grow H σ ρ σ' ρ' → Wx (.ref (G.cls c)) none σ' H'
  | .bad => False
def tS (G : GG) (Wx : WX) (f : Env → So) : TS := fun Dn σ H => ∃ T F ρ, EnvOk G T F H σ ρ ∧ SPost G T Wx F H σ ρ Dn (f ρ)
def PDS (C : Ct) (st : Stmt) (f : Env → So) : Prop := ∀ (X : Cx) (Wx : WX), Cok X C Wx → PS X st (tS C.G Wx f)
def PDSs (C : Ct) (st : List Stmt) (f : Env → So) : Prop := ∀ (X : Cx) (Wx : WX), Cok X C Wx → PSs X st (tS C.G Wx f)

section
variable {G : GG} {T : Fm} {Wx : WX} {F H F1 H1 : Hp} {σ σ1 : L2.St} {ρ ρ1 : Env} {Dn Dn' : Ends}
/-- a later start -/
theorem SPost.on {o : So} (h : SPost G T Wx F H σ ρ Dn o) (x : Ext (Owns σ ρ) F H F1 H1) (g : Grow H σ ρ σ1 ρ1) : SPost G T Wx F1 H1 σ1 ρ1 Dn o := by
  have ex : ∀ {F' H' : Hp}, Ext (Owns σ1 ρ1) F1 H1 F' H' → Ext (Owns σ ρ) F H F' H' := fun y => x.trans y g
  have gr : ∀ {σ' : L2.St} {ρ' : Env}, Grow H1 σ1 ρ1 σ' ρ' → Grow H σ ρ σ' ρ' := fun y a z => by
    rcases y a z with w | w
    · exact g a w
    · exact .inr (Classical.byContradiction fun q => x.live a q w)
  cases o with
  | bad => exact h
  | nx ρ' => exact fun σ' F' H' e ok l => h σ' F' H' (ex e) ok (gr l)
  | bk ρ' => exact fun σ' F' H' e ok l => h σ' F' H' (ex e) ok (gr l)
  | ct ρ' => exact fun σ' F' H' e ok l => h σ' F' H' (ex e) ok (gr l)
  | rt w ρ' => exact fun σ' F' H' v e ok l r => h σ' F' H' v (ex e) ok (gr l) r
  | exc c ρ' => exact fun σ' F' H' e ok l => h σ' F' H' (ex e) ok (gr l)
theorem grow_refl {H : Hp} {σ : L2.St} {ρ : Env} : Grow H σ ρ σ ρ := fun _ z => .inl z
/-- an expression ahead -/
theorem SPost.so {α : Type} {r : R α} {k : α → Env → So} (h : SPost G T Wx F H σ ρ Dn (r.so k)) :
    RPost G T Wx F H σ ρ (fun x ρ1 F1 H1 => SPost G T Wx F1 H1 σ ρ1 Dn (k x ρ1)) r := by
  cases r with
  | bad => exact h
  | exc c ρ' => exact fun F' H' e ok l => h σ F' H' e ok fun a z => .inl (l a z)
  | ok x ρ1 => exact fun F1 H1 e ok l => SPost.on (σ1 := σ) (ρ1 := ρ1) h e fun a z => .inl (l a z)
theorem SPost.nxt {ρ' : Env} (h : SPost G T Wx F H σ ρ Dn (.nx ρ')) (ok : EnvOk G T F1 H1 σ1 ρ') (x : Ext (Owns σ ρ) F H F1 H1) (g : Grow H σ ρ σ1 ρ') : Dn.nx σ1 H1 := h σ1 F1 H1 x ok g
/-- other ends -/
theorem SPost.ends {o : So} (h : SPost G T Wx F H σ ρ Dn o) (i1 : ∀ σ H, Dn.nx σ H → Dn'.nx σ H) (i2 : ∀ σ H, Dn.bk σ H → Dn'.bk σ H) (i3 : ∀ σ H, Dn.ct σ H → Dn'.ct σ H) (i4 : ∀ v H, Dn.rt v H → Dn'.rt v H) : SPost G T Wx F H σ ρ Dn' o := by
  cases o with
  | bad => exact h
  | nx ρ' => exact fun σ' F' H' e ok l => i1 _ _ (h σ' F' H' e ok l)
  | bk ρ' => exact fun σ' F' H' e ok l => i2 _ _ (h σ' F' H' e ok l)
  | ct ρ' => exact fun σ' F' H' e ok l => i3 _ _ (h σ' F' H' e ok l)
  | rt w ρ' => exact fun σ' F' H' v e ok l r => i4 _ _ (h σ' F' H' v e ok l r)
  | exc c ρ' => exact h
end

/-! ### small statements, sequences, if -/
def So.seq (o : So) (g : Env → So) : So := match o with
  | .nx ρ => g ρ
  | o => o
def sSeq (f g : Env → So) : Env → So := fun ρ => (f ρ).seq g
def sNx : Env → So := fun ρ => .nx ρ
def sBk : Env → So := fun ρ => .bk ρ
def sCt : Env → So := fun ρ => .ct ρ
def sIf (c : Env → R Bool) (f g : Env → So) : Env → So := fun ρ => (c ρ).so fun b ρ1 => if b = true then f ρ1 else g ρ1
def sDrop (f : Env → R W) : Env → So := fun ρ => (f ρ).so fun _ ρ1 => .nx ρ1
section
variable {C : Ct} {st : Stmt} {rest : List Stmt} {f g : Env → So} {pos : Pos}
theorem pdss_nil : PDSs C [] sNx := fun X Wx ok => PSs.to pss_nil fun Dn σ H ⟨T, F, ρ, en, p⟩ => p.nxt en Ext.refl grow_refl
theorem pds_pass : PDS C (.Pass pos) sNx := fun X Wx ok => PS.to ps_pass fun Dn σ H ⟨T, F, ρ, en, p⟩ => p.nxt en Ext.refl grow_refl
theorem pds_break : PDS C (.Break pos) sBk := fun X Wx ok => PS.to ps_break fun Dn σ H ⟨T, F, ρ, en, p⟩ => p _ _ _ Ext.refl en grow_refl
theorem pds_cont : PDS C (.Continue pos) sCt := fun X Wx ok => PS.to ps_continue fun Dn σ H ⟨T, F, ρ, en, p⟩ => p _ _ _ Ext.refl en grow_refl
theorem seq_core {G : GG} {T : Fm} {Wx : WX} {F H : Hp} {σ : L2.St} {ρ : Env} {Dn : Ends} {o : So} {u : TS} (hu : ∀ Dn σ H, tS G Wx g Dn σ H → u Dn σ H) (p : SPost G T Wx F H σ ρ Dn (o.seq g)) :
    SPost G T Wx F H σ ρ { Dn with nx := u Dn } o := by
  cases o with
  | nx ρ' => exact fun σ' F' H' e en l => hu _ _ _ ⟨T, F', ρ', en, SPost.on p e l⟩
  | bad => exact p
  | bk ρ' => exact p
  | ct ρ' => exact p
  | rt w ρ' => exact p
  | exc c ρ' => exact p
theorem pdss_cons (h : PDS C st f) (t : PDSs C rest g) : PDSs C (st :: rest) (sSeq f g) := fun X Wx ok =>
  PSs.to (pss_cons (h X Wx ok) (t X Wx ok)) fun Dn σ H ⟨T, F, ρ, en, p⟩ => ⟨T, F, ρ, en, seq_core (fun _ _ _ z => z) p⟩
theorem pdss_one (h : PDS C st f) : PDSs C [st] f := fun X Wx ok => pss_one (h X Wx ok)
theorem pds_if {c : Expr} {a b : List Stmt} {fc : Env → R Bool} (hc : PDT C c fc) (ha : PDSs C a f) (hb : PDSs C b g) : PDS C (.If c a b pos) (sIf fc f g) := fun X Wx ok =>
  PS.to (ps_if (hc X Wx ok) (ha X Wx ok) (hb X Wx ok)) fun Dn σ H ⟨T, F, ρ, en, p⟩ => ⟨T, F, ρ, en, (SPost.so p).imp fun b ρ1 F1 H1 e1 en1 l1 p1 => by
    cases b with
    | true => exact ⟨T, F1, ρ1, en1, p1⟩
    | false => exact ⟨T, F1, ρ1, en1, p1⟩⟩
theorem pds_drop {e : Expr} {fe : Env → R W} (h : PD C e fe) (hs : ∀ env, swapsWith e none pos.line env = pure false := by intro _; rfl) : PDS C (.Expr e pos) (sDrop fe) := fun X Wx ok =>
  PS.to (ps_expr (h X Wx ok) (hs _)) fun Dn σ H ⟨T, F, ρ, en, p⟩ => ⟨T, F, ρ, en, (SPost.so p).imp fun w ρ1 F1 H1 e1 en1 l1 p1 v rv => p1.nxt en1 Ext.refl grow_refl⟩
end

/-! ### return -/
def sRet (f : Env → R W) : Env → So := fun ρ => (f ρ).so fun w ρ1 => .rt w ρ1
def sRetN : Env → So := fun ρ => .rt (.val .none) ρ
section
variable {C : Ct} {f : Env → R W} {e : Expr} {pos : Pos}
theorem pds_ret (h : PD C e f) : PDS C (.Return (some e) pos) (sRet f) := fun X Wx ok =>
  PS.to (ps_ret (h X Wx ok)) fun Dn σ H ⟨T, F, ρ, en, p⟩ => ⟨T, F, ρ, en, (SPost.so p).imp fun w ρ1 F1 H1 e1 en1 l1 p1 v rv => p1 σ F1 H1 v Ext.refl en1 grow_refl (by
    cases w with
    | own i => exact rv.1
    | o x =>
      obtain ⟨A, h1, h2, h3⟩ := rv
      exact ⟨A, h1, h2, fun a ha => ⟨Classical.byContradiction fun z => en.live0 a z (h3 a ha).1, (h3 a ha).2⟩⟩)⟩
theorem pds_retN : PDS C (.Return none pos) sRetN := fun X Wx ok =>
  PS.to ps_retN fun Dn σ H ⟨T, F, ρ, en, p⟩ => p σ F H .non Ext.refl en grow_refl ⟨[], ⟨rfl, rep_non⟩, List.nodup_nil, by simp⟩
end

/-! ### assignments -/
/-- the value is frozen -/
def stFz (i : Nat) (w : W) (ρ : Env) : So := match w with
  | .o (.fz d) => if i < ρ.length then .nx (ρ.set i (.fz d)) else .bad
  | _ => .bad
def sSet (i : Nat) (f : Env → R W) : Env → So := fun ρ => (eFz f ρ).so (stFz i)
/-- a new list is the name's own -/
def stOw (i : Nat) (w : W) (ρ : Env) : So := match w with
  | .o (.fl xs) => if i < ρ.length then .nx (ρ.set i (.fl xs)) else .bad
  | _ => .bad
def sOwn (i : Nat) (f : Env → R W) : Env → So := fun ρ => (f ρ).so (stOw i)
theorem EnvOk.setFl {G : GG} {T : Fm} {F H : Hp} {σ : L2.St} {ρ : Env} {i : Nat} {xs : List D} {a : Addr} {vs : List V} (en : EnvOk G T F H σ ρ) (hi : i < ρ.length) (h1 : H a = some (.lst vs)) (h2 : F a = none) (h0 : T.H0 a = none) (l : vs.length ≤ sizeLine) (r : Reps G.K F xs vs) (hn : ¬ Owns σ ρ a) :
    EnvOk G T F H (σ.set i (some (.ref a))) (ρ.set i (.fl xs)) ∧ ∀ b, Owns (σ.set i (some (.ref a))) (ρ.set i (.fl xs)) b → Owns σ ρ b ∨ b = a := by
  have hi' : i < σ.length := by rw [en.len]; exact hi
  refine ⟨⟨en.hp, en.live0, by rw [List.length_set, List.length_set]; exact en.len, fun j s e => ?_, fun j k b s t e1 o1 e2 o2 s1 s2 => ?_⟩, fun b ⟨j, s, e1, e2, e3⟩ => ?_⟩
  · rw [get_set hi] at e
    split at e
    · rename_i ej
      subst ej
      cases e
      rw [List.getElem?_set_self hi']
      exact ⟨a, vs, rfl, h1, h2, h0, l, r⟩
    · rename_i ej
      rw [List.getElem?_set_ne (Ne.symm ej)]
      exact en.at_ j s e
  · rw [get_set hi] at e1 e2
    split at e1
    · rename_i ej
      subst ej
      rw [List.getElem?_set_self hi'] at s1
      split at e2
      · rename_i ek; exact ek.symm
      · rename_i ek
        rw [List.getElem?_set_ne (Ne.symm ek)] at s2
        cases s1
        exact absurd ⟨k, t, e2, o2, s2⟩ hn
    · rename_i ej
      rw [List.getElem?_set_ne (Ne.symm ej)] at s1
      split at e2
      · rename_i ek
        subst ek
        rw [List.getElem?_set_self hi'] at s2
        cases s2
        exact absurd ⟨j, s, e1, o1, s1⟩ hn
      · rename_i ek
        rw [List.getElem?_set_ne (Ne.symm ek)] at s2
        exact en.sep j k b s t e1 o1 e2 o2 s1 s2
  · rw [get_set hi] at e1
    split at e1
    · rename_i ej
      subst ej
      rw [List.getElem?_set_self hi'] at e3
      cases e3
      exact .inr rfl
    · rename_i ej
      rw [List.getElem?_set_ne (Ne.symm ej)] at e3
      exact .inl ⟨j, s, e1, e2, e3⟩
theorem so_bad {G : GG} {T : Fm} {Wx : WX} {F H : Hp} {σ : L2.St} {ρ : Env} {Dn : Ends} (h : SPost G T Wx F H σ ρ Dn .bad) : False := h
section
variable {C : Ct} {f : Env → R W} {e : Expr} {pos : Pos} {i : Nat} {x : Str} {pos' : Pos}
/-- the store of a settled value, by the rules for names -/
theorem set_core {X : Cx} {Wx : WX} {te : TE} {Dn : Ends} {σ : L2.St} {H : Hp} (hte : ∀ Q, tE C.G Wx f σ H Q → te σ H Q) (h : tS C.G Wx (sSet i f) Dn σ H) : tAsg te (gName i) Dn σ H := by
  obtain ⟨T, F, ρ, en, p⟩ := h
  refine hte _ (tE_fz en ((SPost.so p).imp fun w ρ1 F1 H1 e1 en1 l1 p1 v rv => ?_))
  cases w with
  | own j => exact p1.elim
  | o x =>
    cases x with
    | fl xs => exact p1.elim
    | tp ps => exact p1.elim
    | fz d =>
      unfold stFz at p1
      by_cases hi : i < ρ1.length
      · simp only [hi, if_true] at p1
        obtain ⟨en2, l2⟩ := en1.setFz hi rv
        exact p1.nxt en2 Ext.refl fun a z => .inl (l2 a z)
      · simp only [hi, if_false] at p1
        exact p1.elim
theorem own_core {X : Cx} {Wx : WX} {te : TE} {Dn : Ends} {σ : L2.St} {H : Hp} (hte : ∀ Q, tE C.G Wx f σ H Q → te σ H Q) (h : tS C.G Wx (sOwn i f) Dn σ H) : tAsg te (gName i) Dn σ H := by
  obtain ⟨T, F, ρ, en, p⟩ := h
  refine hte _ ⟨T, F, ρ, en, ?_⟩
  -- the ends of the statement, seen from its start
  cases hr : f ρ with
  | bad => unfold sOwn at p; rw [hr] at p; exact p
  | exc c ρ' => unfold sOwn at p; rw [hr] at p; exact fun F' H' e ok l => p σ F' H' e ok fun a z => .inl (l a z)
  | ok w ρ1 =>
    unfold sOwn at p
    rw [hr] at p
    have p : SPost C.G T Wx F H σ ρ Dn (stOw i w ρ1) := p
    intro F1 H1 e1 en1 l1 v rv
    cases w with
    | own j => exact p.elim
    | o x =>
      cases x with
      | fz d => exact p.elim
      | tp ps => exact p.elim
      | fl xs =>
        unfold stOw at p
        by_cases hi : i < ρ1.length
        · simp only [hi, if_true] at p
          obtain ⟨A, ⟨a, vs, rfl, rfl, h1, h2, l, r⟩, _, h3⟩ := rv
          obtain ⟨h4, h5⟩ := h3 a (by simp)
          obtain ⟨en2, l2⟩ := en1.setFl hi h1 h2 (Classical.byContradiction fun z => en.live0 a z h4) l r h5
          exact p _ F1 H1 e1 en2 fun b z => by
            rcases l2 b z with w | w
            · exact .inl (l1 b w)
            · exact .inr (by rw [w]; exact h4)
        · simp only [hi, if_false] at p
          exact p.elim
theorem pds_set (h : PD C e f) (hl : locB C i x = true) (hs : ∀ env, swapsWith e (some (.Name x pos')) pos.line env = pure false := by intro _; rfl) : PDS C (.Assign [.Name x pos'] e pos) (sSet i f) := fun X Wx ok => by
  obtain ⟨h1, h2, h3⟩ := locB_spec hl
  exact PS.to (ps_set ok.nodup (i := i) (by rw [ok.hN]; exact h1) (by rw [ok.hsc]; exact h2) (h X Wx ok) (hs _) (by rw [ok.fn, ok.hsc]; exact h3)) fun Dn σ H q => set_core (X := X) (fun _ z => z) q
theorem pds_own (h : PD C e f) (hl : locB C i x = true) (hs : ∀ env, swapsWith e (some (.Name x pos')) pos.line env = pure false := by intro _; rfl) : PDS C (.Assign [.Name x pos'] e pos) (sOwn i f) := fun X Wx ok => by
  obtain ⟨h1, h2, h3⟩ := locB_spec hl
  exact PS.to (ps_set ok.nodup (i := i) (by rw [ok.hN]; exact h1) (by rw [ok.hsc]; exact h2) (h X Wx ok) (hs _) (by rw [ok.fn, ok.hsc]; exact h3)) fun Dn σ H q => own_core (X := X) (fun _ z => z) q
end

/-! ### a, b, .. = e -/
def stUn (gs : List TgD) (w : W) (ρ : Env) : So := match w.dat ρ with
  | some d => match gT gs d ρ with
    | some ρ' => .nx ρ'
    | none => .bad
  | none => .bad
def sUn (gs : List TgD) (f : Env → R W) : Env → So := fun ρ => (eNrm f ρ).so (stUn gs)
section
variable {C : Ct} {f : Env → R W} {e tg : Expr} {pos : Pos} {gs : List TgD} {vs : List Nat}
theorem pds_un (h : PD C e f) (hg : PDGC C tg vs gs) (hs : ∀ env, swapsWithSole [tg] e pos.line env = pure false := by intro _; rfl) (hw : ∀ env, swappedStores [tg] e env = pure none := by intro _; rfl)
    (h1 : ∀ env, (assignEach [tg] env).map (·.2) = [assign tg env] := by intro _; rfl) : PDS C (.Assign [tg] e pos) (sUn gs f) := fun X Wx ok => by
  refine PS.to (ps_asg (h X Wx ok) (hg X Wx ok) (hs _) (hw _) (h1 _)) fun Dn σ H ⟨T, F, ρ, en, p⟩ => ?_
  refine tE_nrm en ((SPost.so p).imp fun w ρ1 F1 H1 e1 en1 l1 p1 v rv => ?_)
  unfold stUn at p1
  cases ew : w.dat ρ1 with
  | none => simp only [ew] at p1; exact p1.elim
  | some d =>
    simp only [ew] at p1
    cases eg : gT gs d ρ1 with
    | none => simp only [eg] at p1; exact p1.elim
    | some ρ2 =>
      simp only [eg] at p1
      exact ⟨T, F1, ρ1, d, en1, rv.read en1 ew, ρ2, eg, fun σ2 en2 l2 _ => p1.nxt en2 Ext.refl fun a z => .inl (l2 a z)⟩
end

/-! ### for, while -/
def forD (g : TgD) (tb : Env → So) : List D → Env → So
  | [], ρ => .nx ρ
  | d :: ds, ρ => match g d ρ with
    | none => .bad
    | some ρ1 => match tb ρ1 with
      | .nx ρ2 => forD g tb ds ρ2
      | .ct ρ2 => forD g tb ds ρ2
      | .bk ρ2 => .nx ρ2
      | .rt w ρ2 => .rt w ρ2
      | .exc c ρ2 => .exc c ρ2
      | .bad => .bad
def sFor (fi : Env → R (List D)) (g : TgD) (tb : Env → So) : Env → So := fun ρ => (fi ρ).so fun ds ρ1 => forD g tb ds ρ1
def whileD (c : Env → R Bool) (tb : Env → So) : Nat → Env → So
  | 0, _ => .bad
  | n + 1, ρ => (c ρ).so fun b ρ1 => if b = true then (match tb ρ1 with
      | .nx ρ2 => whileD c tb n ρ2
      | .ct ρ2 => whileD c tb n ρ2
      | .bk ρ2 => .nx ρ2
      | .rt w ρ2 => .rt w ρ2
      | .exc c ρ2 => .exc c ρ2
      | .bad => .bad) else .nx ρ1
def sWhile (fuel : Env → Nat) (c : Env → R Bool) (tb : Env → So) : Env → So := fun ρ => whileD c tb (fuel ρ) ρ
theorem Same.trans3 {F F1 F2 : Hp} (a : Same F F1) (b : Same F1 F2) : Same F F2 := a.trans b
theorem Feeds.later {G : GG} {J : It} {F F1 : Hp} {ds : List D} (h : Feeds G J F ds) (s : Same F F1) : Feeds G J F1 ds :=
  ⟨fun i F' H' s' ok hi => h.go i F' H' (s.trans s') ok hi, fun i d F' H' x H'' s' ok hd y => h.yld i d F' H' x H'' (s.trans s') ok hd y, fun i F' H' s' ok hi => h.stop i F' H' (s.trans s') ok hi⟩
section
variable {C : Ct} {fi : Env → R (List D)} {g : TgD} {tb : Env → So} {e tg iter c : Expr} {body : List Stmt} {pos : Pos} {vs : List Nat} {fc : Env → R Bool}
theorem for_core {G : GG} {T : Fm} {Wx : WX} {Dn : Ends} {J : It} {Fs : Hp} {ds : List D} (hJ : Feeds G J Fs ds) :
    ∀ (i m : Nat) (σ : L2.St) (H : Hp), (m + i = ds.length ∧ ∃ F ρ, Same Fs F ∧ EnvOk G T F H σ ρ ∧ SPost G T Wx F H σ ρ Dn (forD g tb (ds.drop i) ρ)) →
      (J.stop i H ∧ Dn.nx σ H) ∨ (J.go i H ∧ ∃ N : L2.St → Hp → Prop, (∀ σ' H', N σ' H' → ∃ m', m' < m ∧ (m' + (i + 1) = ds.length ∧ ∃ F ρ, Same Fs F ∧ EnvOk G T F H' σ' ρ ∧ SPost G T Wx F H' σ' ρ Dn (forD g tb (ds.drop (i + 1)) ρ))) ∧
        ∀ x H', J.yld i H x H' → tG G vs g x σ H' fun σ2 H2 => tS G Wx tb { Dn with nx := N, ct := N, bk := Dn.nx } σ2 H2) := by
  rintro i m σ H ⟨hm, F, ρ, sF, en, p⟩
  by_cases hi : i < ds.length
  · refine .inr ⟨hJ.go i F H sF en.hp hi, fun σ' H' => ∃ F ρ, Same Fs F ∧ EnvOk G T F H' σ' ρ ∧ SPost G T Wx F H' σ' ρ Dn (forD g tb (ds.drop (i + 1)) ρ), fun σ' H' h => ⟨m - 1, by omega, by omega, h⟩, fun x H' y => ?_⟩
    have hd : ds[i]? = some ds[i] := by simp [hi]
    obtain ⟨F1, n1, ok1, r1⟩ := hJ.yld i _ F H x H' sF en.hp hd y
    have en1 := en.new n1 ok1
    rw [List.drop_eq_getElem_cons hi] at p
    unfold forD at p
    cases eg : g ds[i] ρ with
    | none => simp only [eg] at p; exact p.elim
    | some ρ1 =>
      simp only [eg] at p
      refine ⟨T, F1, ρ, ds[i], en1, r1, ρ1, eg, fun σ2 en2 l2 _ => ⟨T, F1, ρ1, en2, ?_⟩⟩
      have x1 : Ext (Owns σ ρ) F H F1 H' := n1.ext
      have g1 : Grow H σ ρ σ2 ρ1 := fun a z => .inl (l2 a z)
      cases hb : tb ρ1 with
      | bad => rw [hb] at p; exact p
      | nx ρ2 =>
        rw [hb] at p
        exact fun σ3 F3 H3 e3 en3 l3 => ⟨F3, ρ2, (sF.trans n1.fle).trans e3.fle, en3, SPost.on (SPost.on p x1 g1) e3 l3⟩
      | ct ρ2 =>
        rw [hb] at p
        exact fun σ3 F3 H3 e3 en3 l3 => ⟨F3, ρ2, (sF.trans n1.fle).trans e3.fle, en3, SPost.on (SPost.on p x1 g1) e3 l3⟩
      | bk ρ2 =>
        rw [hb] at p
        exact fun σ3 F3 H3 e3 en3 l3 => SPost.nxt (SPost.on p x1 g1) en3 e3 l3
      | rt w ρ2 =>
        rw [hb] at p
        exact fun σ3 F3 H3 v e3 en3 l3 r3 => SPost.on p x1 g1 σ3 F3 H3 v e3 en3 l3 r3
      | exc c ρ2 =>
        rw [hb] at p
        exact fun σ3 F3 H3 e3 en3 l3 => SPost.on p x1 g1 σ3 F3 H3 e3 en3 l3
  · have hi' : ds.length ≤ i := by omega
    rw [List.drop_eq_nil_of_le hi'] at p
    exact .inl ⟨hJ.stop i F H sF en.hp hi', p.nxt en Ext.refl grow_refl⟩
theorem pds_for (hi : PDI C tg iter fi) (hg : PDG C tg vs g) (hb : PDSs C body tb) (hs : ∀ env x, foldedSetIterable iter env x = pure x := by intro _ _; rfl) : PDS C (.For tg iter body [] pos) (sFor fi g tb) := fun X Wx ok => by
  refine PS.to ((hot_of ok).elim (fun c => ps_for ok.own c ((hi X Wx ok).calm c) (hg X Wx ok) (hb X Wx ok) (hs _)) fun c => L2H.ps_forH ok.own c ((hi X Wx ok).hot c) (hg X Wx ok) (hb X Wx ok) (hs _)) fun Dn σ H ⟨T, F, ρ, en, p⟩ => ⟨T, F, ρ, en, (SPost.so p).imp fun ds ρ1 F1 H1 e1 en1 l1 p1 J hJ => ?_⟩
  exact ⟨fun i m σ H => m + i = ds.length ∧ ∃ F ρ, Same F1 F ∧ EnvOk C.G T F H σ ρ ∧ SPost C.G T Wx F H σ ρ Dn (forD g tb (ds.drop i) ρ), ⟨ds.length, rfl, F1, ρ1, fun _ _ e => e, en1, p1⟩, for_core hJ⟩
theorem pds_while (hc : PDT C c fc) (hb : PDSs C body tb) (fuel : Env → Nat) : PDS C (.While c body [] pos) (sWhile fuel fc tb) := fun X Wx ok => by
  refine PS.to (ps_while ok.own (hc X Wx ok) (hb X Wx ok)) fun Dn σ H ⟨T, F, ρ, en, p⟩ => ?_
  refine ⟨fun m σ H => ∃ F ρ, EnvOk C.G T F H σ ρ ∧ SPost C.G T Wx F H σ ρ Dn (whileD fc tb m ρ), ⟨fuel ρ, F, ρ, en, p⟩, ?_⟩
  rintro m σ H ⟨F, ρ, en, p⟩
  cases m with
  | zero => exact p.elim
  | succ n =>
    unfold whileD at p
    refine ⟨T, F, ρ, en, (SPost.so p).imp fun b ρ1 F1 H1 e1 en1 l1 p1 => ?_⟩
    cases b with
    | false => exact p1.nxt en1 Ext.refl grow_refl
    | true =>
      simp only [if_true] at p1 ⊢
      refine ⟨fun σ' H' => ∃ F ρ, EnvOk C.G T F H' σ' ρ ∧ SPost C.G T Wx F H' σ' ρ Dn (whileD fc tb n ρ), fun σ' H' h => ⟨n, Nat.lt_succ_self n, h⟩, T, F1, ρ1, en1, ?_⟩
      cases ht : tb ρ1 with
      | bad => rw [ht] at p1; exact p1
      | nx ρ2 =>
        rw [ht] at p1
        exact fun σ3 F3 H3 e3 en3 l3 => ⟨F3, ρ2, en3, SPost.on p1 e3 l3⟩
      | ct ρ2 =>
        rw [ht] at p1
        exact fun σ3 F3 H3 e3 en3 l3 => ⟨F3, ρ2, en3, SPost.on p1 e3 l3⟩
      | bk ρ2 =>
        rw [ht] at p1
        exact fun σ3 F3 H3 e3 en3 l3 => SPost.nxt p1 en3 e3 l3
      | rt w ρ2 =>
        rw [ht] at p1
        exact fun σ3 F3 H3 v e3 en3 l3 r3 => p1 σ3 F3 H3 v e3 en3 l3 r3
      | exc c ρ2 =>
        rw [ht] at p1
        exact fun σ3 F3 H3 e3 en3 l3 => p1 σ3 F3 H3 e3 en3 l3
end
end PL
end
section
set_option Elab.async false
set_option linter.all false
set_option maxRecDepth 100000
set_option maxHeartbeats 2000000
set_option autoImplicit false
/-! Lists that change; raise; defs and their calls. -/
namespace PL
open PySem PySem.Spec PyProof.Rows L2

/-! ### a list of one's own changes -/
def Sl.put (xs : List D) : Sl → Sl
  | .fl _ => .fl xs
  | .io j _ => .io j xs
  | s => s
def ownL (ρ : Env) (i : Nat) : Option (List D) := match ρ[i]? with
  | some (.fl xs) => some xs
  | some (.io _ xs) => some xs
  | _ => none
def setL (ρ : Env) (i : Nat) (xs : List D) : Env := match ρ[i]? with
  | some s => ρ.set i (s.put xs)
  | none => ρ
section
variable {G : GG} {T : Fm} {F H : Hp} {σ : L2.St} {ρ : Env}
theorem ownL_spec {i : Nat} {xs : List D} (h : ownL ρ i = some xs) : ∃ s, ρ[i]? = some s ∧ s.own = true ∧ s.dat = some (.list xs) ∧ ∀ ys, setL ρ i ys = ρ.set i (s.put ys) := by
  unfold ownL at h
  split at h
  · rename_i zs e
    cases h
    exact ⟨_, e, rfl, rfl, fun ys => by unfold setL; rw [e]⟩
  · rename_i j zs e
    cases h
    exact ⟨_, e, rfl, rfl, fun ys => by unfold setL; rw [e]⟩
  · cases h
theorem EnvOk.own {i : Nat} {xs : List D} (en : EnvOk G T F H σ ρ) (h : ownL ρ i = some xs) : ∃ a vs, σ[i]? = some (some (.ref a)) ∧ H a = some (.lst vs) ∧ F a = none ∧ vs.length ≤ sizeLine ∧ Reps G.K F xs vs ∧ Owns σ ρ a := by
  obtain ⟨s, e, ho, hd, _⟩ := ownL_spec h
  have z := en.at_ i s e
  cases s with
  | un => cases ho
  | er c => cases ho
  | sc ns => cases ho
  | fz d => cases ho
  | fl ys =>
    cases hd
    obtain ⟨a, vs, ev, h1, h2, _, l, r⟩ := z
    exact ⟨a, vs, join_ref ev, h1, h2, l, r, i, _, e, rfl, join_ref ev⟩
  | io j ys =>
    cases hd
    obtain ⟨a, vs, ev, h1, h2, _, l, r⟩ := z
    exact ⟨a, vs, join_ref ev, h1, h2, l, r, i, _, e, rfl, join_ref ev⟩
theorem put_own {s : Sl} {ys : List D} : (s.put ys).own = s.own := by cases s <;> rfl
theorem EnvOk.write {i : Nat} {xs ys : List D} {a : Addr} {us : List V} (en : EnvOk G T F H σ ρ) (h : ownL ρ i = some xs) (ha : σ[i]? = some (some (.ref a))) (l : us.length ≤ sizeLine) (r : Reps G.K F ys us) :
    EnvOk G T F (upd H a (.lst us)) σ (setL ρ i ys) ∧ Ext (Owns σ ρ) F H F (upd H a (.lst us)) ∧ ∀ b, Owns σ (setL ρ i ys) b → Owns σ ρ b := by
  obtain ⟨s, e, ho, hd, hs⟩ := ownL_spec h
  rw [hs]
  have hi : i < ρ.length := (List.getElem?_eq_some_iff.mp e).1
  obtain ⟨a', vs, ha', h1, h2, _, _, how⟩ := en.own h
  rw [ha] at ha'
  cases ha'
  have oth : ∀ (j : Nat) (t : Sl), ρ[j]? = some t → t.own = true → j ≠ i → σ[j]? ≠ some (some (.ref a)) := fun j t e1 o1 n s1 => n (en.sep j i a t s e1 o1 e ho s1 ha)
  refine ⟨⟨⟨fun b o eb => ?_, en.hp.nt, fun P hP => ?_⟩, fun b hb => ?_, by rw [List.length_set]; exact en.len, fun j t ej => ?_, fun j k b t u e1 o1 e2 o2 s1 s2 => ?_⟩, ⟨fun _ _ q => q, fun b o eb n _ => ?_, fun _ _ _ => rfl, fun b hb => ?_⟩, fun b ⟨j, t, e1, e2, e3⟩ => ?_⟩
  · have : b ≠ a := fun q => by rw [q, h2] at eb; cases eb
    rw [upd_ne this]
    exact en.hp.sub b o eb
  · obtain ⟨ps, ep, tp⟩ := en.hp.tab P hP
    have : P ≠ a := fun q => by rw [q, h1] at ep; cases ep
    exact ⟨ps, by rw [upd_ne this]; exact ep, tp⟩
  · by_cases q : b = a
    · rw [q, upd_same]; simp
    · rw [upd_ne q]; exact en.live0 b hb
  · rw [get_set hi] at ej
    split at ej
    · rename_i eji
      subst eji
      cases ej
      have z := en.at_ j s e
      cases s with
      | un => cases ho
      | er c => cases ho
      | sc ns => cases ho
      | fz d => cases ho
      | fl zs =>
        obtain ⟨b, ws, ev, k1, k2, k0, _, _⟩ := z
        have : b = a := by rw [join_ref ev] at ha; cases ha; rfl
        subst this
        exact ⟨b, us, ev, upd_same, k2, k0, l, r⟩
      | io q zs =>
        obtain ⟨b, ws, ev, k1, k2, k0, _, _⟩ := z
        have : b = a := by rw [join_ref ev] at ha; cases ha; rfl
        subst this
        exact ⟨b, us, ev, upd_same, k2, k0, l, r⟩
    · rename_i eji
      have z := en.at_ j t ej
      cases t with
      | un => trivial
      | er c => exact z
      | sc ns => exact z
      | fz d => exact z
      | fl zs =>
        obtain ⟨b, ws, ev, k1, k2, k0, k3, k4⟩ := z
        have : b ≠ a := fun q => oth j _ ej rfl eji (by rw [join_ref ev, q])
        exact ⟨b, ws, ev, by rw [upd_ne this]; exact k1, k2, k0, k3, k4⟩
      | io q zs =>
        obtain ⟨b, ws, ev, k1, k2, k0, k3, k4⟩ := z
        have : b ≠ a := fun q => oth j _ ej rfl eji (by rw [join_ref ev, q])
        exact ⟨b, ws, ev, by rw [upd_ne this]; exact k1, k2, k0, k3, k4⟩
  · have lift : ∀ (j : Nat) (t : Sl), (ρ.set i (s.put ys))[j]? = some t → t.own = true → ∃ t', ρ[j]? = some t' ∧ t'.own = true := fun j t ej ot => by
      rw [get_set hi] at ej
      split at ej
      · rename_i eji
        subst eji
        exact ⟨s, e, ho⟩
      · exact ⟨t, ej, ot⟩
    obtain ⟨t', e1', o1'⟩ := lift j t e1 o1
    obtain ⟨u', e2', o2'⟩ := lift k u e2 o2
    exact en.sep j k b t' u' e1' o1' e2' o2' s1 s2
  · have : b ≠ a := fun q => n (by rw [q]; exact how)
    rw [upd_ne this]
    exact eb
  · by_cases q : b = a
    · rw [q, upd_same]; simp
    · rw [upd_ne q]; exact hb
  · rw [get_set hi] at e1
    split at e1
    · rename_i eji
      subst eji
      exact ⟨j, s, e, ho, e3⟩
    · exact ⟨j, t, e1, e2, e3⟩
end
/-- xs.append(e) -/
def eApp (i : Nat) (fe : Env → R W) : Env → R W := fun ρ => match ownL ρ i with
  | none => .bad
  | some _ => (eFz fe ρ).bind fun w ρ1 => match w, ownL ρ1 i with
    | .o (.fz d), some xs => if xs.length < sizeLine then .ok (.val .none) (setL ρ1 i (xs ++ [d])) else .bad
    | _, _ => .bad
section
variable {C : Ct} {e : Expr} {fe : Env → R W} {i : Nat} {x : Str} {p apos cpos : Pos}
theorem pd_app (hx : nmB C.N C.sc i x = true) (h : PD C e fe)
    (hbase : ∀ env, attributeBase (.Name x p) "append" env (eval (.Name x p) env) = eval (.Name x p) env := by intro _; rfl)
    (hfew : ∀ env, ((backTo cpos (starEach [e] env)).all (fun x => !x.1) && (backToKw cpos (keywordEach [] env)).all (fun x => x.1.isSome)
      && decide (([e] : List Expr).length + ([] : List Keyword).length + (if ([] : List Keyword).isEmpty then 0 else 1) < 30)) = true := by intro _; rfl)
    (hline : (apos.endLine == cpos.line) = true := by rfl) (hs : ∀ env, starEach [e] env = (false, eval e env) :: starEach [] env := by intro _; rfl) (hplain : ∀ env, (backTo cpos (starEach [] env)).any (·.1) = false := by intro _; rfl) :
    PD C (.Call (.Attribute (.Name x p) "append" apos) [e] [] cpos) (eApp i fe) := fun X Wx ok => by
  obtain ⟨h1, h2, h3, h4⟩ := nmB_spec hx
  refine PE.to (pe_bm PySem.F.plainAttrs_list PySem.F.slot_list_append PySem.F.type_list_append mt_append (pe_var (i := i) (by rw [ok.hN]; exact h1) (by rw [ok.hsc]; exact h2) h3 h4) (pa_cons (h X Wx ok) pa_nil (hs _)) (hbase _) (hfew _) hline (hs _) (hplain _)) ?_
  rintro σ H Q ⟨T, F, ρ, en, pp⟩
  unfold eApp at pp
  cases eo : ownL ρ i with
  | none => rw [eo] at pp; exact pp.elim
  | some xs0 =>
    rw [eo] at pp
    obtain ⟨a, vs, ha, hH, hF, hl, hr, how⟩ := en.own eo
    refine ⟨.ref a, ha, .inl ⟨rfl, vs, SqL.of hH⟩, ?_⟩
    refine tE_fz en ((RPost.bind pp).imp fun w ρ1 F1 H1 e1 en1 l1 p1 v rv => ?_)
    cases w with
    | own j => exact p1.elim
    | o y =>
      cases y with
      | fl ys => exact p1.elim
      | tp ps => exact p1.elim
      | fz d =>
        cases eo1 : ownL ρ1 i with
        | none => simp only [eo1] at p1; exact p1.elim
        | some xs =>
          simp only [eo1] at p1
          by_cases hz : xs.length < sizeLine
          · simp only [hz, if_true] at p1
            obtain ⟨a1, vs1, ha1, hH1, hF1, hl1, hr1, how1⟩ := en1.own eo1
            rw [ha] at ha1
            cases ha1
            have hlen := hr1.len
            obtain ⟨en2, x2, l2⟩ := en1.write (us := vs1 ++ [v]) eo1 ha (by rw [List.length_append, List.length_singleton]; omega) (hr1.append (reps_cons rv reps_nil))
            exact ⟨a, vs1, v, rfl, rfl, hH1, by omega, p1 _ _ x2 en2 l2 _ (repW_val rep_non)⟩
          · simp only [hz, if_false] at p1
            exact p1.elim
end
/-- xs[k] = e -/
def stSub (i : Nat) (fi : Env → R W) (w : W) (ρ : Env) : So := match ownL ρ i with
  | none => .bad
  | some _ => (eNrm fi ρ).so fun wi ρ2 => match w, wi.dat ρ2, ownL ρ2 i with
    | .o (.fz d), some (.int k), some xs => match ixN xs.length k with
      | some j => .nx (setL ρ2 i (xs.set j d))
      | none => .bad
    | _, _, _ => .bad
def sSub (i : Nat) (fi f : Env → R W) : Env → So := fun ρ => (eFz f ρ).so (stSub i fi)
section
variable {C : Ct} {e ix : Expr} {f fi : Env → R W} {i : Nat} {x : Str} {p p2 pos : Pos}
theorem pds_sub (hx : nmB C.N C.sc i x = true) (h : PD C e f) (hi : PD C ix fi) (hs : ∀ env, swapsWithSole [.Subscript (.Name x p) ix p2] e pos.line env = pure false := by intro _; rfl) (hw : ∀ env, swappedStores [.Subscript (.Name x p) ix p2] e env = pure none := by intro _; rfl)
    (h1 : ∀ env, (assignEach [.Subscript (.Name x p) ix p2] env).map (·.2) = [assign (.Subscript (.Name x p) ix p2) env] := by intro _; rfl)
    (hasg : ∀ env v, assign (.Subscript (.Name x p) ix p2) env v = (do
      let ov ← holding [v] (eval (.Name x p) env)
      let iv ← holding [v, ov] (eval ix env)
      standAt p2
      holding [v, ov, iv] (setItem ov iv v)
      release [v, ov, iv] []) := by intro _ _; rfl) : PDS C (.Assign [.Subscript (.Name x p) ix p2] e pos) (sSub i fi f) := fun X Wx ok => by
  obtain ⟨n1, n2, n3, n4⟩ := nmB_spec hx
  refine PS.to (ps_asg (h X Wx ok) (pg_sub (pe_var (i := i) (by rw [ok.hN]; exact n1) (by rw [ok.hsc]; exact n2) n3 n4) (hi X Wx ok) set_list (hasg _)) (hs _) (hw _) (h1 _)) ?_
  rintro Dn σ H ⟨T, F, ρ, en, pp⟩
  refine tE_fz en ((SPost.so pp).imp fun w ρ1 F1 H1 e1 en1 l1 p1 v rv => ?_)
  unfold stSub at p1
  cases eo : ownL ρ1 i with
  | none => simp only [eo] at p1; exact p1.elim
  | some xs0 =>
    simp only [eo] at p1
    obtain ⟨a, vs, ha, hH, hF, hl, hr, how⟩ := en1.own eo
    refine ⟨.ref a, ha, ?_⟩
    refine tE_nrm en1 ((SPost.so p1).imp fun wi ρ2 F2 H2 e2 en2 l2 p2 u ru => ?_)
    split at p2 <;> try (exact p2.elim)
    rename_i d k xs ek eo2
    split at p2 <;> try (exact p2.elim)
    rename_i j hj
    obtain ⟨a2, vs2, ha2, hH2, hF2, hl2, hr2, how2⟩ := en2.own eo2
    rw [ha] at ha2
    cases ha2
    have rv : Rep C.G.K F1 d v := rv
    obtain rfl := repC_int (ru.read en2 ek)
    obtain ⟨en3, x3, l3⟩ := en2.write (us := vs2.set j v) eo2 ha (by rw [List.length_set]; exact hl2) (hr2.set (rv.mono e2.fle) j)
    exact ⟨a, vs2, k, j, rfl, rfl, hH2, by rw [hr2.len]; exact hj, p2.nxt en3 x3 fun b z => .inl (l3 b z)⟩
end
/-- name += e, ints -/
def sAug (g : Int → Int → Int) (i : Nat) (f : Env → R W) : Env → So := fun ρ => match ρ[i]? with
  | some (.fz (.int a)) => (eNrm f ρ).so fun w ρ1 => match w.dat ρ1 with
    | some (.int b) => if i < ρ1.length then .nx (ρ1.set i (.fz (.int (g a b)))) else .bad
    | _ => .bad
  | _ => .bad
section
variable {C : Ct} {e : Expr} {f : Env → R W} {i : Nat} {x : Str} {p pos : Pos} {op : Operator} {g : Int → Int → Int}
theorem pds_aug (ho : ∀ X : Cx, PIp X op (ipI g)) (hl : locB C i x = true) (h : PD C e f) : PDS C (.AugAssign (.Name x p) op e pos) (sAug g i f) := fun X Wx ok => by
  obtain ⟨h1, h2, h3⟩ := locB_spec hl
  refine PS.to (ps_aug ok.nodup (i := i) (by rw [ok.hN]; exact h1) (by rw [ok.hsc]; exact h2) (h X Wx ok) (ho X) (by rw [ok.fn, ok.hsc]; exact h3)) ?_
  rintro Dn σ H ⟨T, F, ρ, en, pp⟩
  unfold sAug at pp
  split at pp <;> try (exact pp.elim)
  rename_i a ea
  obtain ⟨v, ev, r⟩ := en.at_ i _ ea
  rw [Rep] at r
  subst r
  have ev' : σ[i]? = some (some (.int a)) := by
    cases q : σ[i]? with
    | none => rw [q] at ev; cases ev
    | some o => rw [q] at ev; have ev : o = some (V.int a) := ev; rw [ev]
  refine ⟨.int a, ev', ?_⟩
  refine tE_nrm en ((SPost.so pp).imp fun w ρ1 F1 H1 e1 en1 l1 p1 v rv => ?_)
  split at p1 <;> try (exact p1.elim)
  rename_i b eb
  by_cases hi : i < ρ1.length
  · simp only [hi, if_true] at p1
    obtain rfl := repC_int (rv.read en1 eb)
    obtain ⟨en2, l2⟩ := en1.setFz (v := .int (g a b)) hi rep_int
    exact ⟨a, b, rfl, rfl, p1.nxt en2 Ext.refl fun z q => .inl (l2 z q)⟩
  · simp only [hi, if_false] at p1
    exact p1.elim
end

/-! ### raise -/
abbrev veB : List Value := [.type "ValueError", .type "Exception", .type "BaseException", .type "object"]
/-- the class x of exceptions stands at its place -/
structure ExcD (G : GG) (x : Str) : Prop where
  in_ : PySem.W.excIn G.K (G.cls x) veB "ValueError.__new__" = true
  mg : G.mg x = some (.ref (G.cls x))
  kp : PySem.W.keepIn G.K (.ref (G.cls x)) = true
  sub : PySem.W.subIn G.K (.ref (G.cls x)) (.type "BaseException") = some true
  ty : PySem.W.typeIn G.K (.ref (G.cls x)) = some (.type "type")
def sRaise (c : Str) : Env → So := fun ρ => .exc c ρ
theorem pds_raise {C : Ct} {x m : Str} {j : Nat} {p p2 pos pos2 : Pos} (hx : ExcD C.G x) (hg : glB C.sc x = true) (hh : C.hot = false := by rfl) :
    PDS C (.Raise (some (.Call (.Name x p) [.Constant (.str m) j p2] [] pos)) none pos2) (sRaise x) := fun X Wx ok => by
  refine PS.to (L2N.ps_raise (ok.calm hh) ok.takes (L2N.pmk_own PySem.F.excBase_ValueError (C := C.G.cls x) (by rw [ok.K]; exact hx.in_) (by rw [ok.mg]; exact hx.mg) (by rw [ok.K]; exact hx.kp) (raises_own (by rw [ok.K]; exact hx.sub) (by rw [ok.K]; exact hx.ty)) (ok.gl hg) (glB_spec hg).2.1)) fun Dn σ H ⟨T, F, ρ, en, pp⟩ => pp σ F H Ext.refl en grow_refl
end PL
end
section
set_option Elab.async false
set_option linter.all false
set_option maxRecDepth 100000
set_option maxHeartbeats 2000000
set_option autoImplicit false
/-! Defs and their calls. -/
namespace PL
open PySem PySem.Spec PyProof.Rows L2

/-- how an argument is taken: as data; a list to be changed; the script -/
inductive Md where
  | d | io | sc | er
inductive DOut where
  | ret (o : O) (outs : List (List D)) | exc (c : Str) (outs : List (List D)) | bad
abbrev DefSem := List D → DOut
def RepArgs (G : GG) (F H : Hp) : List Md → List D → List V → List Addr → Prop
  | [], ds, vs, ios => ds = [] ∧ vs = [] ∧ ios = []
  | .d :: ms, ds, vs, ios => ∃ d ds' v vs', ds = d :: ds' ∧ vs = v :: vs' ∧ Rep G.K F d v ∧ RepArgs G F H ms ds' vs' ios
  | .io :: ms, ds, vs, ios => ∃ xs ds' a vs' r us, ds = .list xs :: ds' ∧ vs = .ref a :: vs' ∧ ios = a :: r ∧ H a = some (.lst us) ∧ F a = none ∧ us.length ≤ sizeLine ∧ Reps G.K F xs us ∧ RepArgs G F H ms ds' vs' r
  | .sc :: ms, ds, vs, ios => ∃ (ns : List Int) (ds' : List D) (a : Addr) (vs' : List V), ds = .list (ns.map PyData.int) :: ds' ∧ vs = .ref a :: vs' ∧ SqL G.K F a (ns.map V.int) ∧ ns.length ≤ 63 ∧ RepArgs G F H ms ds' vs' ios
  | .er :: ms, ds, vs, ios => ∃ (c : Str) (ds' : List D) (a : Addr) (vs' : List V), ds = .str c :: ds' ∧ vs = .ref a :: vs' ∧ G.hx = some (a, c) ∧ RepArgs G F H ms ds' vs' ios
def IosOk (G : GG) (F H : Hp) (ios : List Addr) (outs : List (List D)) : Prop :=
  ∀ (k : Nat) (a : Addr), ios[k]? = some a → ∃ xs us, outs[k]? = some xs ∧ H a = some (.lst us) ∧ F a = none ∧ us.length ≤ sizeLine ∧ Reps G.K F xs us
def DPost (G : GG) (F H : Hp) (ios : List Addr) (Q : VK) (E : XK) : DOut → Prop
  | .ret o outs => ∀ F' H' v A, Ext (· ∈ ios) F H F' H' → HpOk G F' H' → RepO G.K F' H' v o A → A.Nodup → (∀ a ∈ A, H a = none) → IosOk G F' H' ios outs → Q v H'
  | .exc c outs => ∀ F' H', Ext (· ∈ ios) F H F' H' → HpOk G F' H' → IosOk G F' H' ios outs → E (.ref (G.cls c)) none H'
  | .bad => False
def spD (G : GG) (ms : List Md) (f : DefSem) : Sp := fun vs H Q E => ∃ F ds ios, HpOk G F H ∧ RepArgs G F H ms ds vs ios ∧ ios.Nodup ∧ DPost G F H ios Q E (f ds)
theorem repArgs_len {G : GG} {F H : Hp} : ∀ {ms : List Md} {ds : List D} {vs : List V} {ios : List Addr}, RepArgs G F H ms ds vs ios → vs.length = ms.length ∧ ds.length = ms.length
  | [], _, _, _, h => by obtain ⟨rfl, rfl, _⟩ := h; exact ⟨rfl, rfl⟩
  | .d :: ms, _, _, _, h => by
    obtain ⟨d, ds', v, vs', rfl, rfl, _, h⟩ := h
    obtain ⟨h1, h2⟩ := repArgs_len h
    exact ⟨by rw [List.length_cons, List.length_cons, h1], by rw [List.length_cons, List.length_cons, h2]⟩
  | .io :: ms, _, _, _, h => by
    obtain ⟨xs, ds', a, vs', r, us, rfl, rfl, rfl, _, _, _, _, h⟩ := h
    obtain ⟨h1, h2⟩ := repArgs_len h
    exact ⟨by rw [List.length_cons, List.length_cons, h1], by rw [List.length_cons, List.length_cons, h2]⟩
  | .sc :: ms, _, _, _, h => by
    obtain ⟨ns, ds', a, vs', rfl, rfl, _, _, h⟩ := h
    obtain ⟨h1, h2⟩ := repArgs_len h
    exact ⟨by rw [List.length_cons, List.length_cons, h1], by rw [List.length_cons, List.length_cons, h2]⟩
  | .er :: ms, _, _, _, h => by
    obtain ⟨c, ds', a, vs', rfl, rfl, _, h⟩ := h
    obtain ⟨h1, h2⟩ := repArgs_len h
    exact ⟨by rw [List.length_cons, List.length_cons, h1], by rw [List.length_cons, List.length_cons, h2]⟩
/-- the entry -/
def args : List Md → Nat → List D → Env
  | .d :: ms, j, d :: ds => .fz d :: args ms j ds
  | .io :: ms, j, .list xs :: ds => .io j xs :: args ms (j + 1) ds
  | .sc :: ms, j, .list xs :: ds => (match intsD xs with | some ns => .sc ns | none => .un) :: args ms j ds
  | .er :: ms, j, .str c :: ds => .er c :: args ms j ds
  | _ :: ms, j, _ :: ds => .un :: args ms j ds
  | _, _, _ => []
def entry (n : Nat) (ms : List Md) (ds : List D) : Env := args ms 0 ds ++ List.replicate (n - ms.length) .un
theorem args_len {G : GG} {F H : Hp} : ∀ {ms : List Md} {ds : List D} {vs : List V} {ios : List Addr} {j : Nat}, RepArgs G F H ms ds vs ios → (args ms j ds).length = ms.length
  | [], _, _, _, _, h => by obtain ⟨rfl, rfl, _⟩ := h; rfl
  | .d :: ms, _, _, _, j, h => by
    obtain ⟨d, ds', v, vs', rfl, rfl, _, h⟩ := h
    show (args ms j ds').length + 1 = ms.length + 1
    rw [args_len h]
  | .io :: ms, _, _, _, j, h => by
    obtain ⟨xs, ds', a, vs', r, us, rfl, rfl, rfl, _, _, _, _, h⟩ := h
    show (args ms (j + 1) ds').length + 1 = ms.length + 1
    rw [args_len h]
  | .sc :: ms, _, _, _, j, h => by
    obtain ⟨ns, ds', a, vs', rfl, rfl, _, _, h⟩ := h
    show (args ms j ds').length + 1 = ms.length + 1
    rw [args_len h]
  | .er :: ms, _, _, _, j, h => by
    obtain ⟨c, ds', a, vs', rfl, rfl, _, h⟩ := h
    show (args ms j ds').length + 1 = ms.length + 1
    rw [args_len h]
/-- slots at the entry: T's ios from the j-th on -/
theorem args_at {G : GG} {T : Fm} {F H : Hp} : ∀ {ms : List Md} {ds : List D} {vs : List V} {ios : List Addr} {j : Nat}, RepArgs G F H ms ds vs ios → (∀ (k : Nat) (a : Addr), ios[k]? = some a → T.ios[j + k]? = some a) →
    ∀ (i : Nat) (s : Sl), (args ms j ds)[i]? = some s → SlOk G T F H (vs[i]?) s ∧ (s.own = true → ∃ (k : Nat) (a : Addr), ios[k]? = some a ∧ vs[i]? = some (.ref a) ∧ ∀ (i' : Nat) (s' : Sl), (args ms j ds)[i']? = some s' → s'.own = true → vs[i']? = some (.ref a) → ios.Nodup → i' = i)
  | [], ds, vs, ios, j, h, hj, i, s, e => by
    obtain ⟨rfl, rfl, _⟩ := h
    cases i <;> cases e
  | .d :: ms, _, _, ios, j, h, hj, i, s, e => by
    obtain ⟨d, ds', v, vs', rfl, rfl, r, h⟩ := h
    cases i with
    | zero =>
      have e : some (Sl.fz d) = some s := e
      cases e
      exact ⟨⟨v, rfl, r⟩, fun z => by cases z⟩
    | succ i =>
      have e : (args ms j ds')[i]? = some s := e
      obtain ⟨h1, h2⟩ := args_at h hj i s e
      refine ⟨h1, fun z => ?_⟩
      obtain ⟨k, a, h3, h4, h5⟩ := h2 z
      refine ⟨k, a, h3, h4, fun i' s' e' o' v' nd => ?_⟩
      cases i' with
      | zero =>
        have e' : some (Sl.fz d) = some s' := e'
        cases e'; cases o'
      | succ i' => rw [h5 i' s' e' o' v' nd]
  | .io :: ms, _, _, _, j, h, hj, i, s, e => by
    obtain ⟨xs, ds', a, vs', r, us, rfl, rfl, rfl, q1, q2, q3, q4, h⟩ := h
    have hj' : ∀ (k : Nat) (b : Addr), r[k]? = some b → T.ios[j + 1 + k]? = some b := fun k b hk => by
      have := hj (k + 1) b hk
      rw [show j + 1 + k = j + (k + 1) by omega]
      exact this
    have mem_of : ∀ (i' : Nat) (s' : Sl) (b : Addr), (args ms (j + 1) ds')[i']? = some s' → s'.own = true → vs'[i']? = some (.ref b) → b ∈ r := fun i' s' b e' o' v' => by
      obtain ⟨_, h2⟩ := args_at h hj' i' s' e'
      obtain ⟨k, c, h3, h4, _⟩ := h2 o'
      rw [v'] at h4
      cases h4
      exact List.mem_of_getElem? h3
    cases i with
    | zero =>
      have e : some (Sl.io j xs) = some s := e
      cases e
      refine ⟨⟨a, us, rfl, q1, q2, by have := hj 0 a rfl; simpa using this, q3, q4⟩, fun _ => ⟨0, a, rfl, rfl, fun i' s' e' o' v' nd => ?_⟩⟩
      cases i' with
      | zero => rfl
      | succ i' => exact absurd (mem_of i' s' a e' o' v') (List.nodup_cons.mp nd).1
    | succ i =>
      have e : (args ms (j + 1) ds')[i]? = some s := e
      obtain ⟨h1, h2⟩ := args_at h hj' i s e
      refine ⟨h1, fun z => ?_⟩
      obtain ⟨k, b, h3, h4, h5⟩ := h2 z
      refine ⟨k + 1, b, h3, h4, fun i' s' e' o' v' nd => ?_⟩
      cases i' with
      | zero =>
        have v' : some (V.ref a) = some (.ref b) := v'
        cases v'
        exact absurd (List.mem_of_getElem? h3) (List.nodup_cons.mp nd).1
      | succ i' => rw [h5 i' s' e' o' v' (List.nodup_cons.mp nd).2]
  | .sc :: ms, _, _, ios, j, h, hj, i, s, e => by
    obtain ⟨ns, ds', a, vs', rfl, rfl, q1, q2, h⟩ := h
    have e0 : args (.sc :: ms) j (PyData.list (ns.map PyData.int) :: ds') = .sc ns :: args ms j ds' := by
      show (match intsD (ns.map PyData.int) with | some ns => Sl.sc ns | none => .un) :: args ms j ds' = _
      rw [intsD_map]
    rw [e0] at e ⊢
    cases i with
    | zero =>
      have e : some (Sl.sc ns) = some s := e
      cases e
      exact ⟨⟨a, rfl, q1, q2⟩, fun z => by cases z⟩
    | succ i =>
      have e : (args ms j ds')[i]? = some s := e
      obtain ⟨h1, h2⟩ := args_at h hj i s e
      refine ⟨h1, fun z => ?_⟩
      obtain ⟨k, b, h3, h4, h5⟩ := h2 z
      refine ⟨k, b, h3, h4, fun i' s' e' o' v' nd => ?_⟩
      cases i' with
      | zero =>
        have e' : some (Sl.sc ns) = some s' := e'
        cases e'; cases o'
      | succ i' => rw [h5 i' s' e' o' v' nd]
  | .er :: ms, _, _, ios, j, h, hj, i, s, e => by
    obtain ⟨c, ds', a, vs', rfl, rfl, q1, h⟩ := h
    cases i with
    | zero =>
      have e : some (Sl.er c) = some s := e
      cases e
      exact ⟨⟨a, rfl, q1⟩, fun z => by cases z⟩
    | succ i =>
      have e : (args ms j ds')[i]? = some s := e
      obtain ⟨h1, h2⟩ := args_at h hj i s e
      refine ⟨h1, fun z => ?_⟩
      obtain ⟨k, b, h3, h4, h5⟩ := h2 z
      refine ⟨k, b, h3, h4, fun i' s' e' o' v' nd => ?_⟩
      cases i' with
      | zero =>
        have e' : some (Sl.er c) = some s' := e'
        cases e'; cases o'
      | succ i' => rw [h5 i' s' e' o' v' nd]
theorem start_get {N : List Str} {vs : List V} {i : Nat} : (L2.start N vs)[i]? = if i < vs.length then (vs[i]?).map some else if i < N.length then some none else none := by
  unfold L2.start
  by_cases h : i < vs.length
  · rw [if_pos h, List.getElem?_append_left (by simpa using h), List.getElem?_map]
  · rw [if_neg h, List.getElem?_append_right (by simpa using h), List.getElem?_replicate, List.length_map]
    by_cases h2 : i < N.length
    · rw [if_pos (by omega), if_pos h2]
    · rw [if_neg (by omega), if_neg h2]
theorem entry_ok {G : GG} {F H : Hp} {N : List Str} {ms : List Md} {ds : List D} {vs : List V} {ios : List Addr} (hp : HpOk G F H) (r : RepArgs G F H ms ds vs ios) (nd : ios.Nodup) (hl : ms.length ≤ N.length) : EnvOk G ⟨ios, H⟩ F H (L2.start N vs) (entry N.length ms ds) := by
  obtain ⟨l1, l2⟩ := repArgs_len r
  have l3 : (args ms 0 ds).length = ms.length := args_len r
  have at0 := args_at (T := ⟨ios, H⟩) (j := 0) r (fun k a h => by simpa using h)
  have old : ∀ (i : Nat) (s : Sl), (entry N.length ms ds)[i]? = some s → s = .un ∨ ((args ms 0 ds)[i]? = some s ∧ i < vs.length) := fun i s e => by
    unfold entry at e
    by_cases h : i < (args ms 0 ds).length
    · rw [List.getElem?_append_left h] at e
      exact .inr ⟨e, by omega⟩
    · rw [List.getElem?_append_right (by omega), List.getElem?_replicate] at e
      split at e
      · cases e; exact .inl rfl
      · cases e
  have sg : ∀ (i : Nat), i < vs.length → ((L2.start N vs)[i]?).join = vs[i]? := fun i h => by
    rw [start_get, if_pos h]
    cases vs[i]? <;> rfl
  refine ⟨hp, fun _ z => z, ?_, fun i s e => ?_, fun i k a s t e1 o1 e2 o2 s1 s2 => ?_⟩
  · unfold L2.start entry
    rw [List.length_append, List.length_append, List.length_map, List.length_replicate, List.length_replicate, l1, l3]
  · rcases old i s e with rfl | ⟨e, hi⟩
    · trivial
    · rw [sg i hi]
      exact (at0 i s e).1
  · rcases old i s e1 with rfl | ⟨e1, hi⟩
    · cases o1
    · rcases old k t e2 with rfl | ⟨e2, hk⟩
      · cases o2
      · obtain ⟨m, b, h3, h4, h5⟩ := (at0 i s e1).2 o1
        have v1 : vs[i]? = some (.ref a) := by
          rw [start_get, if_pos hi] at s1
          cases q : vs[i]? with
          | none => rw [q] at s1; cases s1
          | some x => rw [q] at s1; cases s1; rfl
        have v2 : vs[k]? = some (.ref a) := by
          rw [start_get, if_pos hk] at s2
          cases q : vs[k]? with
          | none => rw [q] at s2; cases s2
          | some x => rw [q] at s2; cases s2; rfl
        rw [v1] at h4
        cases h4
        exact (h5 k t e2 o2 v2 nd).symm
/-- the lists handed in, at the end: slots from i on, the j-th of them next -/
def iosOf : List Md → Nat → Nat → Env → Option (List (List D))
  | [], _, _, _ => some []
  | .io :: ms, i, j, ρ => match ρ[i]? with
    | some (.io j' xs) => if j' = j then (match iosOf ms (i + 1) (j + 1) ρ with
      | some r => some (xs :: r)
      | none => none) else none
    | _ => none
  | .d :: ms, i, j, ρ => iosOf ms (i + 1) j ρ
  | .sc :: ms, i, j, ρ => iosOf ms (i + 1) j ρ
  | .er :: ms, i, j, ρ => iosOf ms (i + 1) j ρ
def mkRet (o : O) : Option (List (List D)) → DOut
  | some outs => .ret o outs
  | none => .bad
def mkExc (c : Str) : Option (List (List D)) → DOut
  | some outs => .exc c outs
  | none => .bad
def outOf (ms : List Md) : So → DOut
  | .nx ρ => mkRet (.fz .none) (iosOf ms 0 0 ρ)
  | .rt (.o x) ρ => mkRet x (iosOf ms 0 0 ρ)
  | .rt (.own i) ρ => match ρ[i]? with
    | some (.fl xs) => mkRet (.fl xs) (iosOf ms 0 0 ρ)
    | _ => .bad
  | .exc c ρ => mkExc c (iosOf ms 0 0 ρ)
  | _ => .bad
def semOf (n : Nat) (ms : List Md) (t : Env → So) : DefSem := fun ds => outOf ms (t (entry n ms ds))
theorem ios_count {G : GG} {F H : Hp} : ∀ {ms : List Md} {ds : List D} {vs : List V} {ios : List Addr}, RepArgs G F H ms ds vs ios → ∀ {i j : Nat} {ρ : Env} {outs : List (List D)}, iosOf ms i j ρ = some outs → ios.length = outs.length ∧ ∀ (k : Nat) (xs : List D), outs[k]? = some xs → ∃ i' : Nat, ρ[i']? = some (.io (j + k) xs)
  | [], _, _, _, h, i, j, ρ, outs, e => by
    obtain ⟨_, _, rfl⟩ := h
    cases e
    exact ⟨rfl, fun k xs z => by cases z⟩
  | .d :: ms, _, _, _, h, i, j, ρ, outs, e => by
    obtain ⟨d, ds', v, vs', rfl, rfl, r, h⟩ := h
    exact ios_count h e
  | .sc :: ms, _, _, _, h, i, j, ρ, outs, e => by
    obtain ⟨ns, ds', a, vs', rfl, rfl, q1, q2, h⟩ := h
    exact ios_count h e
  | .er :: ms, _, _, _, h, i, j, ρ, outs, e => by
    obtain ⟨c, ds', a, vs', rfl, rfl, q1, h⟩ := h
    exact ios_count h e
  | .io :: ms, _, _, _, h, i, j, ρ, outs, e => by
    obtain ⟨xs, ds', a, vs', r, us, rfl, rfl, rfl, q1, q2, q3, q4, h⟩ := h
    unfold iosOf at e
    split at e <;> try (cases e; done)
    rename_i j' ys ei
    split at e <;> try (cases e; done)
    rename_i ej
    subst ej
    cases e2 : iosOf ms (i + 1) (j' + 1) ρ with
    | none => rw [e2] at e; cases e
    | some r' =>
      rw [e2] at e
      cases e
      obtain ⟨h1, h2⟩ := ios_count h e2
      refine ⟨by rw [List.length_cons, List.length_cons, h1], fun k xs z => ?_⟩
      cases k with
      | zero =>
        cases z
        exact ⟨i, ei⟩
      | succ k =>
        obtain ⟨i', hi'⟩ := h2 k xs z
        exact ⟨i', by rw [hi', show j' + 1 + k = j' + (k + 1) by omega]⟩
theorem ios_end {G : GG} {F H F' H' : Hp} {ms : List Md} {ds : List D} {vs : List V} {ios : List Addr} {σ : L2.St} {ρ : Env} {outs : List (List D)} (r : RepArgs G F H ms ds vs ios) (en : EnvOk G ⟨ios, H⟩ F' H' σ ρ) (e : iosOf ms 0 0 ρ = some outs) : IosOk G F' H' ios outs := by
  obtain ⟨h1, h2⟩ := ios_count r e
  intro k a hk
  have hlt : k < outs.length := by
    have := (List.getElem?_eq_some_iff.mp hk).1
    omega
  obtain ⟨i, hi⟩ := h2 k outs[k] (by simp [hlt])
  obtain ⟨b, us, ev, q1, q2, q3, q4, q5⟩ := en.at_ i _ hi
  have q3 : ios[0 + k]? = some b := q3
  rw [Nat.zero_add, hk] at q3
  cases q3
  exact ⟨_, us, by simp [hlt], q1, q2, q4, q5⟩
theorem ios_old {G : GG} {F H : Hp} : ∀ {ms : List Md} {ds : List D} {vs : List V} {ios : List Addr}, RepArgs G F H ms ds vs ios → ∀ a ∈ ios, ∃ us, H a = some (.lst us)
  | [], _, _, _, h, a, ha => by obtain ⟨_, _, rfl⟩ := h; cases ha
  | .d :: ms, _, _, _, h, a, ha => by
    obtain ⟨d, ds', v, vs', rfl, rfl, r, h⟩ := h
    exact ios_old h a ha
  | .sc :: ms, _, _, _, h, a, ha => by
    obtain ⟨ns, ds', b, vs', rfl, rfl, q1, q2, h⟩ := h
    exact ios_old h a ha
  | .er :: ms, _, _, _, h, a, ha => by
    obtain ⟨c, ds', b, vs', rfl, rfl, q1, h⟩ := h
    exact ios_old h a ha
  | .io :: ms, _, _, _, h, a, ha => by
    obtain ⟨xs, ds', b, vs', r, us, rfl, rfl, rfl, q1, q2, q3, q4, h⟩ := h
    rcases List.mem_cons.mp ha with z | z
    · rw [z]; exact ⟨us, q1⟩
    · exact ios_old h a z
/-- own slots at the entry are the lists handed in -/
theorem entry_owns {G : GG} {F H : Hp} {N : List Str} {ms : List Md} {ds : List D} {vs : List V} {ios : List Addr} (r : RepArgs G F H ms ds vs ios) {a : Addr} (h : Owns (L2.start N vs) (entry N.length ms ds) a) : a ∈ ios := by
  obtain ⟨l1, l2⟩ := repArgs_len r
  have l3 : (args ms 0 ds).length = ms.length := args_len r
  obtain ⟨i, s, e1, e2, e3⟩ := h
  unfold entry at e1
  by_cases hlt : i < (args ms 0 ds).length
  · rw [List.getElem?_append_left hlt] at e1
    obtain ⟨k, b, h3, h4, _⟩ := (args_at (T := ⟨ios, H⟩) (j := 0) r (fun k a h => by simpa using h) i s e1).2 e2
    rw [start_get, if_pos (by omega)] at e3
    rw [h4] at e3
    cases e3
    exact List.mem_of_getElem? h3
  · rw [List.getElem?_append_right (by omega), List.getElem?_replicate] at e1
    split at e1
    · cases e1; cases e2
    · cases e1
theorem def_post {G : GG} {F H : Hp} {N : List Str} {ms : List Md} {ds : List D} {vs : List V} {ios : List Addr} {Q : VK} {E : XK} {o : So} (hp : HpOk G F H) (r : RepArgs G F H ms ds vs ios) (h : DPost G F H ios Q E (outOf ms o)) :
    SPost G ⟨ios, H⟩ (fun cls d _ H => E cls d H) F H (L2.start N vs) (entry N.length ms ds) { nx := fun _ H' => Q .non H', rt := Q } o := by
  have ext : ∀ {F' H' : Hp}, Ext (Owns (L2.start N vs) (entry N.length ms ds)) F H F' H' → Ext (· ∈ ios) F H F' H' := fun e => e.weaken fun a z => entry_owns r z
  cases o with
  | bad => exact h
  | bk ρ' => exact False.elim h
  | ct ρ' => exact False.elim h
  | nx ρ' =>
    have h : DPost G F H ios Q E (mkRet (.fz .none) (iosOf ms 0 0 ρ')) := h
    cases ei : iosOf ms 0 0 ρ' with
    | none => rw [ei] at h; exact False.elim h
    | some outs =>
      rw [ei] at h
      exact fun σ' F' H' e en l => h F' H' .non [] (ext e) en.hp ⟨rfl, rep_non⟩ List.nodup_nil (by simp) (ios_end r en ei)
  | exc c ρ' =>
    have h : DPost G F H ios Q E (mkExc c (iosOf ms 0 0 ρ')) := h
    cases ei : iosOf ms 0 0 ρ' with
    | none => rw [ei] at h; exact False.elim h
    | some outs =>
      rw [ei] at h
      exact fun σ' F' H' e en l => h F' H' (ext e) en.hp (ios_end r en ei)
  | rt w ρ' =>
    cases w with
    | o x =>
      have h : DPost G F H ios Q E (mkRet x (iosOf ms 0 0 ρ')) := h
      cases ei : iosOf ms 0 0 ρ' with
      | none => rw [ei] at h; exact False.elim h
      | some outs =>
        rw [ei] at h
        rintro σ' F' H' v e en l ⟨A, r1, r2, r3⟩
        exact h F' H' v A (ext e) en.hp r1 r2 (fun a ha => (r3 a ha).1) (ios_end r en ei)
    | own i =>
      have h : DPost G F H ios Q E (match ρ'[i]? with | some (.fl xs) => mkRet (.fl xs) (iosOf ms 0 0 ρ') | _ => .bad) := h
      split at h
      · rename_i xs es
        cases ei : iosOf ms 0 0 ρ' with
        | none => rw [ei] at h; exact False.elim h
        | some outs =>
          rw [ei] at h
          intro σ' F' H' v e en l rv
          obtain ⟨a, us, ev, q1, q2, q0, q3, q4⟩ := en.at_ i _ es
          have rv : σ'[i]? = some (some v) := rv
          rw [rv] at ev
          have ev : v = .ref a := Option.some.inj ev
          subst ev
          exact h F' H' (.ref a) [a] (ext e) en.hp ⟨a, us, rfl, rfl, q1, q2, q3, q4⟩ (by simp) (fun b hb => by rw [List.mem_singleton.mp hb]; exact q0) (ios_end r en ei)
      · exact False.elim h
/-- a def keeps its promise -/
abbrev DefOk (G : GG) (k : Nat) (f : Addr) (fd : FuncData) (ps : List Str) (ms : List Md) (sem : DefSem) : Prop := FnOk G.P G.w G.K G.mg G.base (L2N.CX G.P G.w) k f fd ps (spD G ms sem)
theorem def_body {G : GG} (hz : G.hx = none) {k : Nat} {N ps : List Str} {ms : List Md} {qual : Str} {scope : Scope} {f : Addr} {cdv : Value} {t : Env → So} {body : List Stmt} {tab : Option (Addr × Addr)} (S : FnScope N ps scope) (hms : ms.length = ps.length)
    (hcod : ∀ c P, tab = some (c, P) → cdv = .ref c ∧ GxR.TabB G.base G.mg c P ∧ P ∈ G.tb) {hot : Bool} (hb : PDSs ⟨G, N, scope, k, fun _ => true, tab, hot, true⟩ body t)
    (A : Around) (outer : List PySem.Env) (s : Shared) (H : Hp) (vs : List V) (Q : VK) (E : XK) (hr : Room k (A.deeper (envOfC qual scope s.heap.objs.size f cdv))) (h : spD G ms (semOf N.length ms t) vs H Q E) :
    ∃ t', PSs (cxOf (L2N.CX G.P G.w) G.P G.w G.K G.mg G.base N qual scope f cdv A outer s H E) body t' ∧ t' { nx := fun _ H' => Q .non H', rt := Q } (L2.start N vs) H := by
  obtain ⟨F, ds, ios, hp, r, nd, h⟩ := h
  have hpl : ps.length ≤ N.length := by have := congrArg List.length S.pre; rw [List.length_take] at this; omega
  refine ⟨_, hb _ (fun cls d _ H => E cls d H) ⟨rfl, rfl, S.nd, .inl ⟨rfl, hr, hz⟩, rfl, rfl, rfl, rfl, rfl, L2H.roomH_of hr, L2N.takes_of rfl rfl rfl rfl, L2.passes_of rfl, fun _ => rfl, hcod, fun _ => ⟨rfl, rfl⟩⟩, ⟨ios, H⟩, F, entry N.length ms ds, entry_ok hp r nd (by omega), def_post hp r h⟩
/-- .. and while an exception is handled -/
theorem def_bodyH {G : GG} {k : Nat} {N ps : List Str} {ms : List Md} {qual : Str} {scope : Scope} {f : Addr} {cdv : Value} {t : Env → So} {body : List Stmt} (S : FnScope N ps scope) (hms : ms.length = ps.length) (hb : PDSs ⟨G, N, scope, k, fun _ => true, none, true, true⟩ body t)
    (A : Around) (outer : List PySem.Env) (s : Shared) (H : Hp) (vs : List V) (Q : VK) (E : XK) (p : Addr × Obj) (hP : HxOk G p) (hot : L2H.Hot1 A p) (hr : L2H.RoomH k (A.deeper (envOfC qual scope s.heap.objs.size f cdv))) (h : spD G ms (semOf N.length ms t) vs H Q E) :
    ∃ t', PSs (L2H.cxH (L2N.CX G.P G.w) G.P G.w G.K G.mg G.base N qual scope f cdv A outer s H E p) body t' ∧ t' { nx := fun _ H' => Q .non H', rt := Q } (L2.start N vs) H := by
  obtain ⟨F, ds, ios, hp, r, nd, h⟩ := h
  have hpl : ps.length ≤ N.length := by have := congrArg List.length S.pre; rw [List.length_take] at this; omega
  exact ⟨_, hb _ (fun cls d _ H => E cls d H) ⟨rfl, rfl, S.nd, .inr ⟨rfl, p, hot, List.mem_singleton.mpr rfl, hP⟩, rfl, rfl, rfl, rfl, rfl, hr, L2N.takes_of rfl rfl rfl rfl, L2.passes_of rfl, fun _ => rfl, fun c P e => (by cases e), fun _ => ⟨rfl, rfl⟩⟩, ⟨ios, H⟩, F, entry N.length ms ds, entry_ok hp r nd (by omega), def_post hp r h⟩
theorem spD_len {G : GG} {ms : List Md} {sem : DefSem} {ps : List Str} (hms : ms.length = ps.length) (vs : List V) (H : Hp) (Q : VK) (E : XK) (h : spD G ms sem vs H Q E) : vs.length = ps.length := by
  obtain ⟨F, ds, ios, hp, r, nd, h⟩ := h
  rw [(repArgs_len r).1, hms]
end PL
end
section
set_option Elab.async false
set_option linter.all false
set_option maxRecDepth 100000
set_option maxHeartbeats 2000000
set_option autoImplicit false
/-! Calls of defs. -/
namespace PL
open PySem PySem.Spec PyProof.Rows L2

/-! ### arguments as a call takes them -/
def argD : List Md → List W → Env → Option (List D × List Nat)
  | [], [], _ => some ([], [])
  | .d :: ms, .o (.fz d) :: ws, ρ => match argD ms ws ρ with
    | some (ds, is) => some (d :: ds, is)
    | none => none
  | .io :: ms, .own i :: ws, ρ => match ownL ρ i, argD ms ws ρ with
    | some xs, some (ds, is) => some (.list xs :: ds, i :: is)
    | _, _ => none
  | .sc :: ms, .own i :: ws, ρ => match ρ[i]?, argD ms ws ρ with
    | some (.sc ns), some (ds, is) => some (.list (ns.map PyData.int) :: ds, is)
    | _, _ => none
  | .er :: ms, .own i :: ws, ρ => match ρ[i]?, argD ms ws ρ with
    | some (.er c), some (ds, is) => some (.str c :: ds, is)
    | _, _ => none
  | _, _, _ => none
def putL (ρ : Env) : List Nat → List (List D) → Env
  | i :: is, xs :: outs => putL (setL ρ i xs) is outs
  | _, _ => ρ
section
variable {G : GG} {T : Fm} {F H F' H' : Hp} {σ : L2.St} {ρ : Env}
theorem setL_get {i j : Nat} {xs : List D} : (setL ρ i xs)[j]? = if j = i then (ρ[j]?).map (Sl.put xs) else ρ[j]? := by
  unfold setL
  cases e : ρ[i]? with
  | none =>
    by_cases q : j = i
    · subst q; rw [if_pos rfl, e]; rfl
    · rw [if_neg q]
  | some s =>
    have hi : i < ρ.length := (List.getElem?_eq_some_iff.mp e).1
    show (ρ.set i (s.put xs))[j]? = _
    rw [get_set hi]
    by_cases q : j = i
    · subst q; rw [if_pos rfl, if_pos rfl, e]; rfl
    · rw [if_neg q, if_neg q]
theorem setL_len {i : Nat} {xs : List D} : (setL ρ i xs).length = ρ.length := by
  unfold setL
  split
  · rw [List.length_set]
  · rfl
theorem putL_len : ∀ {is : List Nat} {outs : List (List D)} {ρ : Env}, (putL ρ is outs).length = ρ.length
  | [], _, _ => by unfold putL; rfl
  | _ :: _, [], _ => by unfold putL; rfl
  | i :: is, xs :: outs, ρ => by unfold putL; rw [putL_len, setL_len]
theorem putL_out : ∀ {is : List Nat} {outs : List (List D)} {ρ : Env} {j : Nat}, j ∉ is → (putL ρ is outs)[j]? = ρ[j]?
  | [], _, _, _, _ => by unfold putL; rfl
  | _ :: _, [], _, _, _ => by unfold putL; rfl
  | i :: is, xs :: outs, ρ, j, h => by
    unfold putL
    rw [putL_out (fun z => h (List.mem_cons_of_mem _ z)), setL_get, if_neg (fun z => h (by rw [z]; exact List.mem_cons_self))]
theorem putL_in : ∀ {is : List Nat} {outs : List (List D)} {ρ : Env} {k j : Nat} {xs : List D}, is.Nodup → is[k]? = some j → outs[k]? = some xs → (putL ρ is outs)[j]? = (ρ[j]?).map (Sl.put xs)
  | [], _, _, _, _, _, _, h, _ => by cases h
  | _ :: _, [], _, _, _, _, _, _, h => by cases h
  | i :: is, ys :: outs, ρ, 0, j, xs, nd, h1, h2 => by
    cases h1
    cases h2
    unfold putL
    rw [putL_out (List.nodup_cons.mp nd).1, setL_get, if_pos rfl]
  | i :: is, ys :: outs, ρ, k + 1, j, xs, nd, h1, h2 => by
    unfold putL
    have hj : j ≠ i := fun z => (List.nodup_cons.mp nd).1 (by rw [← z]; exact List.mem_of_getElem? h1)
    rw [putL_in (List.nodup_cons.mp nd).2 h1 h2, setL_get, if_neg hj]
/-- the slots is hold the lists at ios -/
def Slots (σ : L2.St) (ρ : Env) (is : List Nat) (ios : List Addr) : Prop := is.length = ios.length ∧ ∀ (k i : Nat), is[k]? = some i → ∃ a s, ios[k]? = some a ∧ ρ[i]? = some s ∧ s.own = true ∧ σ[i]? = some (some (V.ref a))
theorem arg_reps (en : EnvOk G T F H σ ρ) : ∀ {ms : List Md} {ws : List W} {vs : List V} {ds : List D} {is : List Nat}, RepNs G.K F σ ws vs → argD ms ws ρ = some (ds, is) → ∃ ios, RepArgs G F H ms ds vs ios ∧ Slots σ ρ is ios
  | [], [], vs, ds, is, r, e => by
    cases e
    have r : vs = [] := r
    exact ⟨[], ⟨rfl, r, rfl⟩, rfl, fun k i h => by cases h⟩
  | [], _ :: _, _, _, _, _, e => by cases e
  | .d :: ms, [], _, _, _, _, e => by cases e
  | .io :: ms, [], _, _, _, _, e => by cases e
  | .sc :: ms, [], _, _, _, _, e => by cases e
  | .er :: ms, [], _, _, _, _, e => by cases e
  | .d :: ms, w :: ws, vs, ds, is, r, e => by
    obtain ⟨v, vs', rfl, r1, r2⟩ := r
    cases w with
    | own i => cases e
    | o x =>
      cases x with
      | fl xs => cases e
      | tp ps => cases e
      | fz d =>
        unfold argD at e
        cases e2 : argD ms ws ρ with
        | none => rw [e2] at e; cases e
        | some q =>
          obtain ⟨ds', is'⟩ := q
          rw [e2] at e
          cases e
          obtain ⟨ios, h1, h2⟩ := arg_reps en r2 e2
          exact ⟨ios, ⟨d, ds', v, vs', rfl, rfl, r1, h1⟩, h2⟩
  | .io :: ms, w :: ws, vs, ds, is, r, e => by
    obtain ⟨v, vs', rfl, r1, r2⟩ := r
    cases w with
    | o x => cases x <;> cases e
    | own i =>
      unfold argD at e
      cases eo : ownL ρ i with
      | none => rw [eo] at e; cases e
      | some xs =>
        cases e2 : argD ms ws ρ with
        | none => rw [eo, e2] at e; cases e
        | some q =>
          obtain ⟨ds', is'⟩ := q
          rw [eo, e2] at e
          cases e
          obtain ⟨ios, h1, h2, h3⟩ := arg_reps en r2 e2
          obtain ⟨a, us, ha, q1, q2, q3, q4, _⟩ := en.own eo
          have r1 : σ[i]? = some (some v) := r1
          rw [r1] at ha
          cases ha
          obtain ⟨s, es, os, _, _⟩ := ownL_spec eo
          refine ⟨a :: ios, ⟨xs, ds', a, vs', ios, us, rfl, rfl, rfl, q1, q2, q3, q4, h1⟩, by rw [List.length_cons, List.length_cons, h2], fun k j hk => ?_⟩
          cases k with
          | zero => cases hk; exact ⟨a, s, rfl, es, os, r1⟩
          | succ k => exact h3 k j hk
  | .sc :: ms, w :: ws, vs, ds, is, r, e => by
    obtain ⟨v, vs', rfl, r1, r2⟩ := r
    cases w with
    | o x => cases x <;> cases e
    | own i =>
      unfold argD at e
      cases eo : ρ[i]? with
      | none => rw [eo] at e; cases e
      | some s =>
        cases s with
        | un => rw [eo] at e; cases e
        | er c => rw [eo] at e; cases e
        | fz d => rw [eo] at e; cases e
        | fl xs => rw [eo] at e; cases e
        | io j xs => rw [eo] at e; cases e
        | sc ns =>
          cases e2 : argD ms ws ρ with
          | none => rw [eo, e2] at e; cases e
          | some q =>
            obtain ⟨ds', is'⟩ := q
            rw [eo, e2] at e
            cases e
            obtain ⟨ios, h1, h2⟩ := arg_reps en r2 e2
            obtain ⟨a, ea, q1, q2⟩ := en.at_ i _ eo
            have r1 : σ[i]? = some (some v) := r1
            rw [r1] at ea
            have ea : v = .ref a := Option.some.inj ea
            subst ea
            exact ⟨ios, ⟨ns, ds', a, vs', rfl, rfl, q1, q2, h1⟩, h2⟩
  | .er :: ms, w :: ws, vs, ds, is, r, e => by
    obtain ⟨v, vs', rfl, r1, r2⟩ := r
    cases w with
    | o x => cases x <;> cases e
    | own i =>
      unfold argD at e
      cases eo : ρ[i]? with
      | none => rw [eo] at e; cases e
      | some s =>
        cases s with
        | un => rw [eo] at e; cases e
        | sc ns => rw [eo] at e; cases e
        | fz d => rw [eo] at e; cases e
        | fl xs => rw [eo] at e; cases e
        | io j xs => rw [eo] at e; cases e
        | er c =>
          cases e2 : argD ms ws ρ with
          | none => rw [eo, e2] at e; cases e
          | some q =>
            obtain ⟨ds', is'⟩ := q
            rw [eo, e2] at e
            cases e
            obtain ⟨ios, h1, h2⟩ := arg_reps en r2 e2
            obtain ⟨a, ea, q1⟩ := en.at_ i _ eo
            have r1 : σ[i]? = some (some v) := r1
            rw [r1] at ea
            have ea : v = .ref a := Option.some.inj ea
            subst ea
            exact ⟨ios, ⟨c, ds', a, vs', rfl, rfl, q1, h1⟩, h2⟩
theorem slots_nodup (en : EnvOk G T F H σ ρ) {is : List Nat} {ios : List Addr} (h : Slots σ ρ is ios) (nd : is.Nodup) : ios.Nodup := by
  obtain ⟨h1, h2⟩ := h
  refine List.pairwise_iff_getElem.mpr fun k l hk hl hkl e => ?_
  have hk' : k < is.length := by omega
  have hl' : l < is.length := by omega
  obtain ⟨a, s, e1, e2, e3, e4⟩ := h2 k is[k] (by simp [hk'])
  obtain ⟨b, t, f1, f2, f3, f4⟩ := h2 l is[l] (by simp [hl'])
  have hab : a = b := by
    have z1 : ios[k]? = some ios[k] := by simp [hk]
    have z2 : ios[l]? = some ios[l] := by simp [hl]
    rw [e1] at z1
    rw [f1] at z2
    rw [Option.some.inj z1, Option.some.inj z2, e]
  subst hab
  have q := en.sep _ _ _ _ _ e2 e3 f2 f3 e4 f4
  exact List.pairwise_iff_getElem.mp nd k l hk' hl' hkl q
theorem EnvOk.calls (en : EnvOk G T F H σ ρ) {is : List Nat} {ios : List Addr} {outs : List (List D)} (h : Slots σ ρ is ios) (nd : is.Nodup) (x : Ext (· ∈ ios) F H F' H') (hp : HpOk G F' H') (io : IosOk G F' H' ios outs) :
    EnvOk G T F' H' σ (putL ρ is outs) ∧ Ext (Owns σ ρ) F H F' H' ∧ ∀ a, Owns σ (putL ρ is outs) a → Owns σ ρ a := by
  obtain ⟨h1, h2⟩ := h
  have inS : ∀ (a : Addr), a ∈ ios → ∃ (k i : Nat) (s : Sl), ios[k]? = some a ∧ is[k]? = some i ∧ ρ[i]? = some s ∧ s.own = true ∧ σ[i]? = some (some (V.ref a)) := fun a ha => by
    obtain ⟨k, hk, e⟩ := List.mem_iff_getElem.mp ha
    have hk' : k < is.length := by omega
    obtain ⟨b, s, e1, e2, e3, e4⟩ := h2 k is[k] (by simp [hk'])
    have : b = a := by
      have z : ios[k]? = some a := by simp [hk, e]
      rw [z] at e1; cases e1; rfl
    subst this
    exact ⟨k, _, s, e1, by simp [hk'], e2, e3, e4⟩
  have oth : ∀ (j : Nat) (s : Sl) (a : Addr), ρ[j]? = some s → s.own = true → σ[j]? = some (some (V.ref a)) → j ∉ is → a ∉ ios := fun j s a e1 e2 e3 hj ha => by
    obtain ⟨k, i, t, f1, f2, f3, f4, f5⟩ := inS a ha
    have := en.sep j i a s t e1 e2 f3 f4 e3 f5
    subst this
    exact hj (List.mem_of_getElem? f2)
  have slot : ∀ (j : Nat) (s' : Sl), (putL ρ is outs)[j]? = some s' → ∃ s, ρ[j]? = some s ∧ s'.own = s.own := fun j s' e => by
    by_cases hj : j ∈ is
    · obtain ⟨k, hk, ek⟩ := List.mem_iff_getElem.mp hj
      obtain ⟨a, s, e1, e2, e3, e4⟩ := h2 k j (by simp [hk, ek])
      obtain ⟨xs, us, o1, _⟩ := io k a e1
      rw [putL_in nd (by simp [hk, ek]) o1, e2] at e
      cases e
      exact ⟨s, e2, put_own⟩
    · rw [putL_out hj] at e
      exact ⟨s', e, rfl⟩
  refine ⟨⟨hp, fun a z => x.live a (en.live0 a z), by rw [putL_len]; exact en.len, fun j s' e => ?_, fun j k a s t e1 o1 e2 o2 s1 s2 => ?_⟩, x.weaken fun a ha => ?_, fun a ⟨j, s', e1, e2, e3⟩ => ?_⟩
  · by_cases hj : j ∈ is
    · obtain ⟨k, hk, ek⟩ := List.mem_iff_getElem.mp hj
      obtain ⟨a, s, e1, e2, e3, e4⟩ := h2 k j (by simp [hk, ek])
      obtain ⟨xs, us, o1, q1, q2, q3, q4⟩ := io k a e1
      rw [putL_in nd (by simp [hk, ek]) o1, e2] at e
      cases e
      have z := en.at_ j s e2
      rw [e4] at z ⊢
      cases s with
      | un => cases e3
      | er c => cases e3
      | sc ns => cases e3
      | fz d => cases e3
      | fl zs =>
        obtain ⟨b, ws, ev, _, _, k0, _, _⟩ := z
        cases ev
        exact ⟨a, us, rfl, q1, q2, k0, q3, q4⟩
      | io m zs =>
        obtain ⟨b, ws, ev, _, _, k0, _, _⟩ := z
        cases ev
        exact ⟨a, us, rfl, q1, q2, k0, q3, q4⟩
    · rw [putL_out hj] at e
      have z := en.at_ j s' e
      cases s' with
      | un => trivial
      | er c => exact z
      | sc ns =>
        obtain ⟨a, ev, q, l⟩ := z
        exact ⟨a, ev, x.fle.seq q, l⟩
      | fz d =>
        obtain ⟨v, ev, r⟩ := z
        exact ⟨v, ev, r.mono x.fle⟩
      | fl zs =>
        obtain ⟨a, us, ev, q1, q2, q0, q3, q4⟩ := z
        have na := oth j _ a e rfl (join_ref ev) hj
        exact ⟨a, us, ev, x.keep a _ q1 na (fun ps z => by cases z), by rw [x.fnew a (by rw [q1]; simp) na]; exact q2, q0, q3, q4.mono x.fle⟩
      | io m zs =>
        obtain ⟨a, us, ev, q1, q2, q0, q3, q4⟩ := z
        have na := oth j _ a e rfl (join_ref ev) hj
        exact ⟨a, us, ev, x.keep a _ q1 na (fun ps z => by cases z), by rw [x.fnew a (by rw [q1]; simp) na]; exact q2, q0, q3, q4.mono x.fle⟩
  · obtain ⟨s0, f1, f2⟩ := slot j s e1
    obtain ⟨t0, g1, g2⟩ := slot k t e2
    rw [f2] at o1
    rw [g2] at o2
    exact en.sep j k a s0 t0 f1 o1 g1 o2 s1 s2
  · obtain ⟨k, i, s, f1, f2, f3, f4, f5⟩ := inS a ha
    exact ⟨i, s, f3, f4, f5⟩
  · obtain ⟨s0, f1, f2⟩ := slot j s' e1
    rw [f2] at e2
    exact ⟨j, s0, f1, e2, e3⟩
end
def outR (is : List Nat) (o : DOut) (ρ : Env) : R W := match o with
  | .ret x outs => .ok (.o x) (putL ρ is outs)
  | .exc c outs => .exc c (putL ρ is outs)
  | .bad => .bad
def eCall (ms : List Md) (f : DefSem) (fa : Env → R (List W)) : Env → R W := fun ρ => (fa ρ).bind fun ws ρ1 => match argD ms ws ρ1 with
  | some (ds, is) => if is.Nodup then outR is (f ds) ρ1 else .bad
  | none => .bad
theorem not_own {G : GG} {T : Fm} {F H : Hp} {σ : L2.St} {ρ : Env} (en : EnvOk G T F H σ ρ) {a : Addr} (h : H a = none) : ¬ Owns σ ρ a := fun ⟨i, s, e1, e2, e3⟩ => by
  have z := en.at_ i s e1
  rw [e3] at z
  cases s with
  | un => cases e2
  | er c => cases e2
  | sc ns => cases e2
  | fz d => cases e2
  | fl xs => obtain ⟨a', vs, e, h1, _⟩ := z; cases e; rw [h] at h1; cases h1
  | io j xs => obtain ⟨a', vs, e, h1, _⟩ := z; cases e; rw [h] at h1; cases h1
theorem call_core {G : GG} {T : Fm} {Wx : WX} {Hs F H : Hp} {σ : L2.St} {ρ : Env} {Q : VK} {ms : List Md} {f : DefSem} {ws : List W} {vs : List V} {ds : List D} {is : List Nat} (hl : ∀ a, Hs a ≠ none → H a ≠ none) (en : EnvOk G T F H σ ρ) (r : RepNs G.K F σ ws vs) (e : argD ms ws ρ = some (ds, is)) (nd : is.Nodup)
    (p : RPost G T Wx F H σ ρ (fun w ρ' F' H' => ∀ v, RepW G.K Hs F' H' σ ρ' v w → Q v H') (outR is (f ds) ρ)) : spD G ms f vs H Q (WE Wx σ) := by
  obtain ⟨ios, h1, h2⟩ := arg_reps en r e
  refine ⟨F, ds, ios, en.hp, h1, slots_nodup en h2 nd, ?_⟩
  cases ho : f ds with
  | bad => rw [ho] at p; exact p
  | exc c outs =>
    rw [ho] at p
    intro F' H' x hp io
    obtain ⟨en', x', l'⟩ := en.calls h2 nd x hp io
    exact p F' H' x' en' l'
  | ret o outs =>
    rw [ho] at p
    intro F' H' v A x hp ro hA fa io
    obtain ⟨en', x', l'⟩ := en.calls h2 nd x hp io
    exact p F' H' x' en' l' v ⟨A, ro, hA, fun a ha => ⟨Classical.byContradiction fun z => hl a z (fa a ha), fun z => not_own en (fa a ha) (l' a z)⟩⟩
/-- a def stands in the module -/
structure DefAt (G : GG) (x : Str) (k : Nat) (n : Nat) (ms : List Md) (sem : DefSem) : Prop where
  ex : ∃ (f : Addr) (fd : FuncData) (ps : List Str), G.mg x = some (.ref f) ∧ PySem.W.keepIn G.K (.ref f) = true ∧ Binds G.K fd ps [] ∧ DefOk G k f fd ps ms sem
/-- .. and may be called while an exception is handled -/
structure DefHot (G : GG) (x : Str) (k : Nat) (n : Nat) (ms : List Md) (sem : DefSem) : Prop where
  ex : ∃ (f : Addr) (fd : FuncData) (ps : List Str), G.mg x = some (.ref f) ∧ PySem.W.keepIn G.K (.ref f) = true ∧ Binds G.K fd ps [] ∧ DefOk (G.at_ none) k f fd ps ms sem ∧ ∀ h, HotE.FnE (HxOk (G.at_ h)) G.P G.w G.K G.mg G.base (L2N.CX G.P G.w) k f fd ps (spD (G.at_ h) ms sem)
theorem GG.at0 {G : GG} (h : G.hx = none) : G.at_ none = G := by
  cases G
  cases h
  rfl
theorem DefHot.to {G : GG} {x : Str} {k n : Nat} {ms : List Md} {sem : DefSem} (d : DefHot G x k n ms sem) (h : Option (Addr × Str)) : DefHot (G.at_ h) x k n ms sem :=
  let ⟨f, fd, ps, h1, h2, h3, h4, h5⟩ := d.ex
  ⟨f, fd, ps, h1, h2, h3, h4, h5⟩
section
variable {C : Ct} {x : Str} {k n : Nat} {ms : List Md} {sem : DefSem} {e : Expr} {es : List Expr} {fa : Env → R (List W)} {p pos : Pos}
theorem pd_call (d : DefAt C.G x k n ms sem) (hk : k ≤ C.k) (hg : glB C.sc x = true) (ha : PDA C (e :: es) fa)
    (he : ∀ env, starEach (e :: es) env = (false, eval e env) :: starEach es env := by intro _; rfl) (hpl : ∀ env, (backTo pos (starEach es env)).any (·.1) = false := by intro _; rfl) (hh : C.hot = false := by rfl) :
    PD C (.Call (.Name x p) (e :: es) [] pos) (eCall ms sem fa) := fun X Wx ok => by
  obtain ⟨f, fd, ps, h1, h2, h3, h4⟩ := d.ex
  have h4' : FnOk X.prog X.w X.K X.mg X.base (L2N.CX X.prog X.w) k f fd ps (spD C.G ms sem) := by
    rw [ok.prog, ok.w, ok.K, ok.mg, ok.base]; exact h4
  refine PE.to (pe_callS h4' ((ok.room hh).mono hk) (ok.gl hg) (by rw [ok.mg]; exact h1) (by rw [ok.K]; exact h2) (by rw [ok.K]; exact h3) (L2N.passAt ok.takes) (ha X Wx ok) (glB_spec hg).2.1 (he _) (hpl _)) fun σ H Q ⟨T, F, ρ, en, pp⟩ => ⟨T, F, ρ, en, (RPost.bind pp).imp fun ws ρ1 F1 H1 e1 en1 l1 p1 vs rv => ?_⟩
  cases ea : argD ms ws ρ1 with
  | none => simp only [ea] at p1; exact p1.elim
  | some q =>
    obtain ⟨ds, is⟩ := q
    simp only [ea] at p1
    by_cases nd : is.Nodup
    · simp only [nd, if_true] at p1
      exact call_core e1.live en1 rv ea nd p1
    · simp only [nd, if_false] at p1
      exact p1.elim
theorem pd_callJ (d : DefHot C.G x k n ms sem) (hk : k ≤ C.k) (hg : glB C.sc x = true) (ha : PDA C (e :: es) fa)
    (he : ∀ env, starEach (e :: es) env = (false, eval e env) :: starEach es env := by intro _; rfl) (hpl : ∀ env, (backTo pos (starEach es env)).any (·.1) = false := by intro _; rfl) :
    PD C (.Call (.Name x p) (e :: es) [] pos) (eCall ms sem fa) := fun X Wx ok => by
  obtain ⟨f, fd, ps, h1, h2, h3, h4, h5⟩ := d.ex
  have h4' : C.G.hx = none → FnOk X.prog X.w X.K X.mg X.base (L2N.CX X.prog X.w) k f fd ps (spD C.G ms sem) := fun z => by
    rw [ok.prog, ok.w, ok.K, ok.mg, ok.base]
    have h4 : FnOk C.G.P C.G.w C.G.K C.G.mg C.G.base (L2N.CX C.G.P C.G.w) k f fd ps (spD (C.G.at_ none) ms sem) := h4
    rw [GG.at0 z] at h4
    exact h4
  have h5' : HotE.FnE (HxOk C.G) X.prog X.w X.K X.mg X.base (L2N.CX X.prog X.w) k f fd ps (spD C.G ms sem) := by
    rw [ok.prog, ok.w, ok.K, ok.mg, ok.base]; exact h5 C.G.hx
  refine PE.to (ok.way.elim (fun z => pe_callS (h4' z.2.2) (z.2.1.mono hk) (ok.gl hg) (by rw [ok.mg]; exact h1) (by rw [ok.K]; exact h2) (by rw [ok.K]; exact h3) (L2N.passAt ok.takes) (ha X Wx ok) (glB_spec hg).2.1 (he _) (hpl _)) fun ⟨_, p, z1, z2, z3⟩ => HotE.pe_callE h5' (ok.roomH.mono hk) z1 z2 z3 (ok.gl hg) (by rw [ok.mg]; exact h1) (by rw [ok.K]; exact h2) (by rw [ok.K]; exact h3) (L2N.passAt ok.takes) (ha X Wx ok) (glB_spec hg).2.1 (he _) (hpl _)) fun σ H Q ⟨T, F, ρ, en, pp⟩ => ⟨T, F, ρ, en, (RPost.bind pp).imp fun ws ρ1 F1 H1 e1 en1 l1 p1 vs rv => ?_⟩
  cases ea : argD ms ws ρ1 with
  | none => simp only [ea] at p1; exact p1.elim
  | some q =>
    obtain ⟨ds, is⟩ := q
    simp only [ea] at p1
    by_cases nd : is.Nodup
    · simp only [nd, if_true] at p1
      exact call_core e1.live en1 rv ea nd p1
    · simp only [nd, if_false] at p1
      exact p1.elim
/-- the handled exception, handed on -/
def aEr (i : Nat) (r : Env → R (List W)) : Env → R (List W) := fun ρ => match ρ[i]? with
  | some (.er _) => (r ρ).bind fun ws ρ2 => .ok (.own i :: ws) ρ2
  | _ => .bad
theorem pda_er {i : Nat} {r : Env → R (List W)} (hx : nmB C.N C.sc i x = true) (t : PDA C es r) (hs : ∀ env, starEach (.Name x p :: es) env = (false, eval (.Name x p) env) :: starEach es env := by intro _; rfl) : PDA C (.Name x p :: es) (aEr i r) := fun X Wx ok => by
  obtain ⟨h1, h2, h3, h4⟩ := nmB_spec hx
  refine PA.to (pa_cons (pe_var (i := i) (by rw [ok.hN]; exact h1) (by rw [ok.hsc]; exact h2) h3 h4) (t X Wx ok) (hs _)) fun σ H Q ⟨T, F, ρ, en, pp⟩ => ?_
  unfold aEr at pp
  split at pp <;> try (exact pp.elim)
  rename_i c es'
  obtain ⟨a, ev, q1⟩ := en.at_ i _ es'
  refine ⟨.ref a, join_ref ev, T, F, ρ, en, ?_⟩
  exact (RPost.bind pp).imp fun ws ρ2 F2 H2 e2 en2 l2 p2 vs rvs => RPost.here en2 p2 (.ref a :: vs) ⟨.ref a, vs, rfl, join_ref ev, rvs⟩
/-- the script, handed on -/
def aSc (i : Nat) (r : Env → R (List W)) : Env → R (List W) := fun ρ => match ρ[i]? with
  | some (.sc _) => (r ρ).bind fun ws ρ2 => .ok (.own i :: ws) ρ2
  | _ => .bad
theorem pda_sc {i : Nat} {r : Env → R (List W)} (hx : nmB C.N C.sc i x = true) (t : PDA C es r) (hs : ∀ env, starEach (.Name x p :: es) env = (false, eval (.Name x p) env) :: starEach es env := by intro _; rfl) : PDA C (.Name x p :: es) (aSc i r) := fun X Wx ok => by
  obtain ⟨h1, h2, h3, h4⟩ := nmB_spec hx
  refine PA.to (pa_cons (pe_var (i := i) (by rw [ok.hN]; exact h1) (by rw [ok.hsc]; exact h2) h3 h4) (t X Wx ok) (hs _)) fun σ H Q ⟨T, F, ρ, en, pp⟩ => ?_
  unfold aSc at pp
  split at pp <;> try (exact pp.elim)
  rename_i ns es'
  obtain ⟨a, ev, q1, q2⟩ := en.at_ i _ es'
  refine ⟨.ref a, join_ref ev, T, F, ρ, en, ?_⟩
  exact (RPost.bind pp).imp fun ws ρ2 F2 H2 e2 en2 l2 p2 vs rvs => RPost.here en2 p2 (.ref a :: vs) ⟨.ref a, vs, rfl, join_ref ev, rvs⟩
end
end PL
end
section
set_option Elab.async false
set_option linter.all false
set_option maxRecDepth 100000
set_option maxHeartbeats 2000000
set_option autoImplicit false
/-! Blocks: comprehensions, generator expressions for all and any. -/
namespace PL
open PySem PySem.Spec PyProof.Rows L2

/-! ### the slots of a block's own names -/
def wipeE (ρ : Env) : List Nat → Env
  | [] => ρ
  | v :: vs => (wipeE ρ vs).set v .un
def restE (ρ0 ρ : Env) : List Nat → Env
  | [] => ρ
  | v :: vs => (restE ρ0 ρ vs).set v ((ρ0[v]?).getD .un)
theorem wipeE_len (ρ : Env) : ∀ vs : List Nat, (wipeE ρ vs).length = ρ.length
  | [] => rfl
  | v :: vs => by unfold wipeE; rw [List.length_set, wipeE_len]
theorem restE_len (ρ0 ρ : Env) : ∀ vs : List Nat, (restE ρ0 ρ vs).length = ρ.length
  | [] => rfl
  | v :: vs => by unfold restE; rw [List.length_set, restE_len]
theorem wipeE_get (ρ : Env) (j : Nat) : ∀ vs : List Nat, (wipeE ρ vs)[j]? = if j ∈ vs then (ρ[j]?).map fun _ => Sl.un else ρ[j]?
  | [] => rfl
  | v :: vs => by
    unfold wipeE
    by_cases hv : j = v
    · subst hv
      rw [if_pos List.mem_cons_self]
      by_cases hl : j < ρ.length
      · rw [List.getElem?_set_self (by rw [wipeE_len]; exact hl)]
        simp [hl]
      · rw [List.getElem?_eq_none (by rw [List.length_set, wipeE_len]; omega), List.getElem?_eq_none (by omega)]
        rfl
    · rw [List.getElem?_set_ne (Ne.symm hv), wipeE_get ρ j vs]
      simp [hv]
theorem restE_get (ρ0 ρ : Env) (j : Nat) (hl : ρ0.length = ρ.length) : ∀ vs : List Nat, (restE ρ0 ρ vs)[j]? = if j ∈ vs then ρ0[j]? else ρ[j]?
  | [] => rfl
  | v :: vs => by
    unfold restE
    by_cases hv : j = v
    · subst hv
      rw [if_pos List.mem_cons_self]
      by_cases hj : j < ρ.length
      · rw [List.getElem?_set_self (by rw [restE_len]; exact hj)]
        have : j < ρ0.length := by omega
        simp [this]
      · rw [List.getElem?_eq_none (by rw [List.length_set, restE_len]; omega), List.getElem?_eq_none (by omega)]
    · rw [List.getElem?_set_ne (Ne.symm hv), restE_get ρ0 ρ j hl vs]
      simp [hv]
theorem wipe_get {σ : L2.St} (j : Nat) : ∀ vs : List Nat, (wipe σ vs)[j]? = if j ∈ vs then (σ[j]?).map fun _ => Option.none else σ[j]?
  | [] => rfl
  | v :: vs => by
    unfold wipe
    by_cases hv : j = v
    · subst hv
      rw [if_pos List.mem_cons_self]
      by_cases hl : j < σ.length
      · rw [List.getElem?_set_self (by rw [wipe_length]; exact hl)]
        simp [hl]
      · rw [List.getElem?_eq_none (by rw [List.length_set, wipe_length]; omega), List.getElem?_eq_none (by omega)]
        rfl
    · rw [List.getElem?_set_ne (Ne.symm hv), wipe_get j vs]
      simp [hv]
theorem wipe_idem {σ : L2.St} {vs : List Nat} : wipe (wipe σ vs) vs = wipe σ vs := by
  apply List.ext_getElem?
  intro j
  rw [wipe_get, wipe_get]
  by_cases h : j ∈ vs
  · rw [if_pos h, if_pos h]
    cases σ[j]? <;> rfl
  · rw [if_neg h, if_neg h]
section
variable {G : GG} {T : Fm} {F H F' H' : Hp} {σ : L2.St} {ρ ρ0 : Env} {vs : List Nat}
theorem owns_wipe {a : Addr} (h : Owns (wipe σ vs) (wipeE ρ vs) a) : Owns σ ρ a := by
  obtain ⟨i, s, e1, e2, e3⟩ := h
  rw [wipeE_get] at e1
  rw [wipe_get] at e3
  by_cases hi : i ∈ vs
  · rw [if_pos hi] at e1
    cases q : ρ[i]? with
    | none => rw [q] at e1; cases e1
    | some t => rw [q] at e1; cases e1; cases e2
  · rw [if_neg hi] at e1 e3
    exact ⟨i, s, e1, e2, e3⟩
theorem EnvOk.wipe (en : EnvOk G T F H σ ρ) (vs : List Nat) : EnvOk G T F H (wipe σ vs) (wipeE ρ vs) := by
  have back : ∀ (i : Nat) (s : Sl), (wipeE ρ vs)[i]? = some s → s = .un ∨ (i ∉ vs ∧ ρ[i]? = some s) := fun i s e => by
    rw [wipeE_get] at e
    by_cases hi : i ∈ vs
    · rw [if_pos hi] at e
      cases q : ρ[i]? with
      | none => rw [q] at e; cases e
      | some t => rw [q] at e; cases e; exact .inl rfl
    · rw [if_neg hi] at e
      exact .inr ⟨hi, e⟩
  refine ⟨en.hp, en.live0, by rw [wipe_length, wipeE_len]; exact en.len, fun i s e => ?_, fun i j a s t e1 o1 e2 o2 s1 s2 => ?_⟩
  · rcases back i s e with rfl | ⟨hi, e⟩
    · trivial
    · rw [wipe_get, if_neg hi]
      exact en.at_ i s e
  · rcases back i s e1 with rfl | ⟨hi, e1⟩
    · cases o1
    · rcases back j t e2 with rfl | ⟨hj, e2⟩
      · cases o2
      · rw [wipe_get, if_neg hi] at s1
        rw [wipe_get, if_neg hj] at s2
        exact en.sep i j a s t e1 o1 e2 o2 s1 s2
/-- behind the block -/
theorem EnvOk.unblock (en0 : EnvOk G T F H σ ρ0) {ρb : Env} (en : EnvOk G T F' H' (L2.wipe σ vs) ρb) (x : Ext (Owns (L2.wipe σ vs) (wipeE ρ0 vs)) F H F' H') (l : ∀ a, Owns (L2.wipe σ vs) ρb a → Owns (L2.wipe σ vs) (wipeE ρ0 vs) a) :
    EnvOk G T F' H' σ (restE ρ0 ρb vs) ∧ ∀ a, Owns σ (restE ρ0 ρb vs) a → Owns σ ρ0 a := by
  have hl : ρ0.length = ρb.length := by rw [← en0.len, ← en.len, wipe_length]
  have kept : ∀ (j : Nat) (s : Sl) (a : Addr), ρ0[j]? = some s → s.own = true → j ∈ vs → σ[j]? = some (some (V.ref a)) → ¬ Owns (L2.wipe σ vs) (wipeE ρ0 vs) a := fun j s a e1 o1 hj s1 ⟨i, t, f1, f2, f3⟩ => by
    rw [wipeE_get] at f1
    rw [wipe_get] at f3
    by_cases hi : i ∈ vs
    · rw [if_pos hi] at f1
      cases q : ρ0[i]? with
      | none => rw [q] at f1; cases f1
      | some u => rw [q] at f1; cases f1; cases f2
    · rw [if_neg hi] at f1 f3
      have := en0.sep i j a t s f1 f2 e1 o1 f3 s1
      exact hi (by rw [this]; exact hj)
  have inb : ∀ (i : Nat) (t : Sl) (a : Addr), i ∉ vs → ρb[i]? = some t → t.own = true → σ[i]? = some (some (V.ref a)) → Owns (L2.wipe σ vs) (wipeE ρ0 vs) a := fun i t a hi e o s1 => l a ⟨i, t, e, o, by rw [wipe_get, if_neg hi]; exact s1⟩
  refine ⟨⟨en.hp, en.live0, by rw [restE_len, ← hl]; exact en0.len, fun j s e => ?_, fun i j a s t e1 o1 e2 o2 s1 s2 => ?_⟩, fun a ⟨i, s, e1, e2, e3⟩ => ?_⟩
  · rw [restE_get _ _ _ hl] at e
    by_cases hj : j ∈ vs
    · rw [if_pos hj] at e
      have z := en0.at_ j s e
      cases s with
      | un => trivial
      | er c => exact z
      | sc ns =>
        obtain ⟨a, ev, q, q2⟩ := z
        exact ⟨a, ev, x.fle.seq q, q2⟩
      | fz d =>
        obtain ⟨v, ev, r⟩ := z
        exact ⟨v, ev, r.mono x.fle⟩
      | fl zs =>
        obtain ⟨a, us, ev, q1, q2, q0, q3, q4⟩ := z
        have na := kept j _ a e rfl hj (join_ref ev)
        exact ⟨a, us, ev, x.keep a _ q1 na (fun ps z => by cases z), by rw [x.fnew a (by rw [q1]; simp) na]; exact q2, q0, q3, q4.mono x.fle⟩
      | io m zs =>
        obtain ⟨a, us, ev, q1, q2, q0, q3, q4⟩ := z
        have na := kept j _ a e rfl hj (join_ref ev)
        exact ⟨a, us, ev, x.keep a _ q1 na (fun ps z => by cases z), by rw [x.fnew a (by rw [q1]; simp) na]; exact q2, q0, q3, q4.mono x.fle⟩
    · rw [if_neg hj] at e
      have z := en.at_ j s e
      rw [wipe_get, if_neg hj] at z
      exact z
  · rw [restE_get _ _ _ hl] at e1 e2
    by_cases hi : i ∈ vs
    · rw [if_pos hi] at e1
      by_cases hj : j ∈ vs
      · rw [if_pos hj] at e2
        exact en0.sep i j a s t e1 o1 e2 o2 s1 s2
      · rw [if_neg hj] at e2
        exact absurd (inb j t a hj e2 o2 s2) (kept i s a e1 o1 hi s1)
    · rw [if_neg hi] at e1
      by_cases hj : j ∈ vs
      · rw [if_pos hj] at e2
        exact absurd (inb i s a hi e1 o1 s1) (kept j t a e2 o2 hj s2)
      · rw [if_neg hj] at e2
        exact en.sep i j a s t e1 o1 e2 o2 (by rw [wipe_get, if_neg hi]; exact s1) (by rw [wipe_get, if_neg hj]; exact s2)
  · rw [restE_get _ _ _ hl] at e1
    by_cases hi : i ∈ vs
    · rw [if_pos hi] at e1
      exact ⟨i, s, e1, e2, e3⟩
    · rw [if_neg hi] at e1
      exact owns_wipe (inb i s a hi e1 e2 e3)
end

/-! ### tests of a clause -/
theorem PTs.to {X : Cx} {ifs : List Expr} {t t' : TT} (h : PTs X ifs t) (i : ∀ σ H Q, t' σ H Q → t σ H Q) : PTs X ifs t' := ⟨fun pins s σ H Q I q => h.run pins s σ H Q I (i σ H Q q)⟩
def PDTs (C : Ct) (ifs : List Expr) (f : Env → R Bool) : Prop := ∀ (X : Cx) (Wx : WX), Cok X C Wx → PTs X ifs (tT C.G Wx f)
def tYesS : Env → R Bool := fun ρ => .ok true ρ
theorem pdts_nil {C : Ct} : PDTs C [] tYesS := fun X Wx ok => PTs.to pts_nil fun σ H Q ⟨T, F, ρ, en, p⟩ => RPost.here en p
theorem pdts_one {C : Ct} {c : Expr} {f : Env → R Bool} (h : PDT C c f) : PDTs C [c] f := fun X Wx ok => pts_one (h X Wx ok)

/-! ### contexts of blocks -/
abbrev Ct.blk (C : Ct) (scope : Scope) : Ct := { C with sc := relS scope C.sc, fnb := fun x => scope.names.lookup x == some .cell, tab := none, top := false }
theorem takesN {X : Cx} : L2N.Takes X (fun _ _ _ _ => False) := fun u s' ⟨a, B, sI, pins, σ, H, cls, d, e, I, nb, up, sky, na, os, ag, w⟩ => w.elim
theorem Cok.blk {X : Cx} {C : Ct} {Wx : WX} (ok : Cok X C Wx) (c : X.calm = true ∧ Room C.k X.A ∧ C.G.hx = none) {scope : Scope} (s : Shared) (H : Hp) (cl : List (Str × Addr)) (a : Addr) (fp : List Addr) : Cok (X.blk s H scope (compEnvC scope cl a X.env) fp) (C.blk scope) (fun _ _ _ _ => False) := by
  refine ⟨ok.hN, ?_, ok.nd, .inl c, ok.prog, ok.w, ok.K, ok.mg, ok.base, ok.roomH, takesN, PassesOwn.never, fun _ => rfl, fun _ _ e => (by cases e), fun e => nomatch e⟩
  show relS scope X.env.scope = relS scope C.sc
  rw [ok.hsc]
theorem Cok.blkH {X : Cx} {C : Ct} {Wx : WX} (ok : Cok X C Wx) (hh : C.hot = true) {p : Addr × Obj} (hp : L2H.Hot1 X.A p) (hq : HxOk C.G p) {scope : Scope} (s : Shared) (H : Hp) (ce : PySem.Env) (fp : List Addr) (hce : ∃ a cl, ce = compEnvC scope cl a X.env) : Cok (HotI.blkH X p s H scope ce fp) (C.blk scope) (fun _ _ _ _ => False) := by
  obtain ⟨a, cl, rfl⟩ := hce
  refine ⟨ok.hN, ?_, ok.nd, .inr ⟨hh, p, hp, List.mem_singleton.mpr rfl, hq⟩, ok.prog, ok.w, ok.K, ok.mg, ok.base, ok.roomH, takesN, PassesOwn.never, fun _ => rfl, fun _ _ e => (by cases e), fun e => nomatch e⟩
  show relS scope X.env.scope = relS scope C.sc
  rw [ok.hsc]
abbrev Ct.gen (C : Ct) (scope : Scope) (k : Nat) : Ct := { C with sc := scope, k := k, fnb := fun _ => false, tab := none, top := false }
theorem Room.gen {k : Nat} {A : Around} (r : Room (k + 1) A) (env : PySem.Env) : Room k (A.in1.in1.deeper env) :=
  ⟨r.hd, by have := r.dp; show A.depth + 1 + 3 * k + 5 < _; omega, by have := r.un; show A.units + 1 + 1 + 3 + 16 * k + 200 < _; omega⟩
theorem Cok.gen {X : Cx} {C : Ct} {Wx : WX} {k : Nat} (ok : Cok X C Wx) (hh : C.hot = false) (hk : C.k = k + 1) {scope : Scope} (A' : Around) (s : Shared) (H : Hp) (code : Value) (cl : List (Str × Addr)) (c : Addr) (fp : List Addr) (hA : ∃ env, A' = X.A.in1.in1.deeper env) :
    Cok (Gx.cxGen X A' s H (genEnv scope cl c code builtinsNs X.env) fp) (C.gen scope k) (fun _ _ _ _ => False) := by
  obtain ⟨env, rfl⟩ := hA
  have hr := ok.room hh
  rw [hk] at hr
  exact ⟨ok.hN, rfl, ok.nd, .inl ⟨ok.calm hh, Room.gen hr env, ok.hx0 hh⟩, ok.prog, ok.w, ok.K, ok.mg, ok.base, L2H.roomH_of (Room.gen hr env), takesN, PassesOwn.never, fun _ => rfl, fun _ _ e => (by cases e), fun e => nomatch e⟩
end PL
end
section
set_option Elab.async false
set_option linter.all false
set_option maxRecDepth 100000
set_option maxHeartbeats 2000000
set_option autoImplicit false
/-! List comprehensions; all and any of generator expressions. -/
namespace PL
open PySem PySem.Spec PyProof.Rows L2

def lcD (vs : List Nat) (g : TgD) (tt : Env → R Bool) (te : Env → R W) : List D → Env → R (List D)
  | [], ρ => .ok [] ρ
  | d :: ds, ρ => match g d ρ with
    | none => .bad
    | some ρ1 => match tt ρ1 with
      | .ok true ρ2 => (match eFz te ρ2 with
        | .ok (.o (.fz x)) ρ3 => (match lcD vs g tt te ds (wipeE ρ3 vs) with
          | .ok xs ρ4 => .ok (x :: xs) ρ4
          | _ => .bad)
        | _ => .bad)
      | .ok false ρ2 => lcD vs g tt te ds (wipeE ρ2 vs)
      | _ => .bad
def lcR (vs : List Nat) (ρ0 : Env) : R (List D) → R W
  | .ok xs ρ2 => if xs.length ≤ sizeLine then .ok (.o (.fl xs)) (restE ρ0 ρ2 vs) else .bad
  | _ => .bad
def eLc (vs : List Nat) (fi : Env → R (List D)) (g : TgD) (tt : Env → R Bool) (te : Env → R W) : Env → R W := fun ρ => (fi ρ).bind fun ds ρ1 => lcR vs ρ1 (lcD vs g tt te ds (wipeE ρ1 vs))
abbrev Wno : WX := fun _ _ _ _ => False
section
variable {G : GG} {T : Fm} {Wx : WX} {Hs : Hp} {σ : L2.St} {Q : VK} {vs : List Nat} {g : TgD} {tt : Env → R Bool} {te : Env → R W} {fi : Env → R (List D)}
theorem lc_core0 {H : Hp} (h : tE G Wx (eLc vs fi g tt te) σ H Q) : tLc (tI G Wx fi) (tG G vs g) (tT G Wno tt) (tE G Wno te) vs σ H Q := by
  obtain ⟨T, F, ρ, en, p⟩ := h
  refine ⟨T, F, ρ, en, (RPost.bind p).imp fun ds ρ1 F1 H1 e1 en1 l1 p1 J hJ D hD => ?_⟩
  cases el : lcD vs g tt te ds (wipeE ρ1 vs) with
  | bad => rw [el] at p1; exact False.elim p1
  | exc c ρ' => rw [el] at p1; exact False.elim p1
  | ok xs ρe =>
    rw [el] at p1
    by_cases hz : xs.length ≤ sizeLine
    · simp only [lcR, hz, if_true] at p1
      have hFD : F1 D = none := en1.hp.sub.free hD
      have n0 : New F1 H1 F1 (upd H1 D (.lst [])) := New.own hD
      have en0 : EnvOk G T F1 (upd H1 D (.lst [])) (wipe σ vs) (wipeE ρ1 vs) := (en1.new n0 (en1.hp.own hD)).wipe vs
      have nD : ¬ Owns σ ρ1 D := not_own en1 hD
      have nDw : ¬ Owns (wipe σ vs) (wipeE ρ1 vs) D := fun z => nD (owns_wipe z)
      -- the invariant
      refine ⟨fun i m H => m + i = ds.length ∧ ∃ F ρ acc accV ys, EnvOk G T F H (wipe σ vs) ρ ∧ Ext (Owns (wipe σ vs) (wipeE ρ1 vs)) F1 H1 F H ∧ (∀ a, Owns (wipe σ vs) ρ a → Owns (wipe σ vs) (wipeE ρ1 vs) a) ∧ lcD vs g tt te (ds.drop i) ρ = .ok ys ρe ∧ acc ++ ys = xs ∧
        H D = some (.lst accV) ∧ F D = none ∧ Reps G.K F acc accV, ⟨ds.length, rfl, F1, _, [], [], xs, en0, n0.ext, fun _ z => z, el, rfl, upd_same, hFD, reps_nil⟩, ?_⟩
      rintro i m H2 ⟨hm, F2, ρ2, acc, accV, ys, en2, x2, l2, hl, hx, hHD, hFD2, hr⟩
      by_cases hi : i < ds.length
      · refine .inr ⟨hJ.go i F2 H2 x2.fle en2.hp hi, fun H => (m - 1) + (i + 1) = ds.length ∧ ∃ F ρ acc accV ys, EnvOk G T F H (wipe σ vs) ρ ∧ Ext (Owns (wipe σ vs) (wipeE ρ1 vs)) F1 H1 F H ∧ (∀ a, Owns (wipe σ vs) ρ a → Owns (wipe σ vs) (wipeE ρ1 vs) a) ∧ lcD vs g tt te (ds.drop (i + 1)) ρ = .ok ys ρe ∧ acc ++ ys = xs ∧
          H D = some (.lst accV) ∧ F D = none ∧ Reps G.K F acc accV, fun H' h => ⟨m - 1, by omega, h⟩, fun x H' y => ?_⟩
        obtain ⟨F3, n3, ok3, r3⟩ := hJ.yld i _ F2 H2 x H' x2.fle en2.hp (show ds[i]? = some ds[i] by simp [hi]) y
        have en3 := en2.new n3 ok3
        rw [List.drop_eq_getElem_cons hi] at hl
        unfold lcD at hl
        cases eg : g ds[i] ρ2 with
        | none => simp only [eg] at hl; cases hl
        | some ρ3 =>
          simp only [eg] at hl
          refine ⟨T, F3, ρ2, _, en3, r3, ρ3, eg, fun σ4 en4 l4 w4 => ?_⟩
          rw [wipe_idem] at w4
          refine ⟨w4, T, F3, ρ3, en4, ?_⟩
          have hHD3 : H' D = some (.lst accV) := n3.hle D _ hHD
          have hFD3 : F3 D = none := by rw [n3.fnew D (by rw [hHD]; simp)]; exact hFD2
          have x3 : Ext (Owns (wipe σ vs) (wipeE ρ1 vs)) F1 H1 F3 H' := x2.trans (n3.ext (A := fun _ => False)) fun a z => z.elim
          have own4 : ∀ a, Owns σ4 ρ3 a → Owns (wipe σ vs) (wipeE ρ1 vs) a := fun a z => l2 a (l4 a z)
          -- from the turn's state to the block's
          have back : ∀ {F5 H5 : Hp} {ρ5 : Env}, EnvOk G T F5 H5 σ4 ρ5 → EnvOk G T F5 H5 (wipe σ vs) (wipeE ρ5 vs) := fun {F5 H5 ρ5} e => by
            have := e.wipe vs
            rw [w4] at this
            exact this
          have backO : ∀ {ρ5 : Env}, (∀ a, Owns σ4 ρ5 a → Owns σ4 ρ3 a) → ∀ a, Owns (wipe σ vs) (wipeE ρ5 vs) a → Owns (wipe σ vs) (wipeE ρ1 vs) a := fun {ρ5} l a z => by
            rw [← w4] at z
            exact own4 a (l a (owns_wipe z))
          cases et : tt ρ3 with
          | bad => rw [et] at hl; cases hl
          | exc c ρ' => rw [et] at hl; cases hl
          | ok b ρ4 =>
            rw [et] at hl
            intro F5 H5 e5 en5 l5
            have x5 : Ext (Owns (wipe σ vs) (wipeE ρ1 vs)) F1 H1 F5 H5 := x3.trans e5 fun a z => .inl (own4 a z)
            have nD3 : ¬ Owns σ4 ρ3 D := fun z => nDw (own4 D z)
            have hHD5 : H5 D = some (.lst accV) := e5.keep D _ hHD3 nD3 (fun ps z => by cases z)
            have hFD5 : F5 D = none := by rw [e5.fnew D (by rw [hHD3]; simp) nD3]; exact hFD3
            have hr5 : Reps G.K F5 acc accV := (hr.mono n3.fle).mono e5.fle
            cases b with
            | false =>
              refine iteF ?_
              exact ⟨by omega, F5, _, acc, accV, ys, back en5, x5, backO l5, hl, hx, hHD5, hFD5, hr5⟩
            | true =>
              refine iteT ?_
              have hl : (match eFz te ρ4 with
                | .ok (.o (.fz x)) ρ3 => (match lcD vs g tt te (ds.drop (i + 1)) (wipeE ρ3 vs) with
                  | .ok xs ρ4 => R.ok (x :: xs) ρ4
                  | _ => .bad)
                | _ => .bad) = .ok ys ρe := hl
              cases ee : eFz te ρ4 with
              | bad => rw [ee] at hl; cases hl
              | exc c ρ' => rw [ee] at hl; cases hl
              | ok w ρ5 =>
                rw [ee] at hl
                cases w with
                | own j => cases hl
                | o o1 =>
                  cases o1 with
                  | fl zs => cases hl
                  | tp ps => cases hl
                  | fz d =>
                    have hl : (match lcD vs g tt te (ds.drop (i + 1)) (wipeE ρ5 vs) with
                      | .ok xs ρ4 => R.ok (d :: xs) ρ4
                      | _ => .bad) = .ok ys ρe := hl
                    cases e6 : lcD vs g tt te (ds.drop (i + 1)) (wipeE ρ5 vs) with
                    | bad => rw [e6] at hl; cases hl
                    | exc c ρ' => rw [e6] at hl; cases hl
                    | ok zs ρ6 =>
                      rw [e6] at hl
                      cases hl
                      refine tE_fz en5 ?_
                      rw [ee]
                      intro F7 H7 e7 en7 l7 v rv
                      have rv : Rep G.K F7 d v := rv
                      have own5 : ∀ a, Owns σ4 ρ4 a → Owns (wipe σ vs) (wipeE ρ1 vs) a := fun a z => own4 a (l5 a z)
                      have nD5 : ¬ Owns σ4 ρ4 D := fun z => nDw (own5 D z)
                      have hHD7 : H7 D = some (.lst accV) := e7.keep D _ hHD5 nD5 (fun ps z => by cases z)
                      have hFD7 : F7 D = none := by rw [e7.fnew D (by rw [hHD5]; simp) nD5]; exact hFD5
                      have x7 : Ext (Owns (wipe σ vs) (wipeE ρ1 vs)) F1 H1 F7 H7 := x5.trans e7 fun a z => .inl (own5 a z)
                      have hr7 : Reps G.K F7 acc accV := hr5.mono e7.fle
                      have hlen := hr7.len
                      have hxl : acc.length + (zs.length + 1) = xs.length := by rw [← hx, List.length_append, List.length_cons]
                      have xw : Ext (fun a => a = D) F7 H7 F7 (upd H7 D (.lst (accV ++ [v]))) := ⟨fun _ _ q => q, fun b o eb n _ => by rw [upd_ne n]; exact eb, fun _ _ _ => rfl, fun b hb => by
                        by_cases q : b = D
                        · rw [q, upd_same]; simp
                        · rw [upd_ne q]; exact hb⟩
                      have hpw : HpOk G F7 (upd H7 D (.lst (accV ++ [v]))) := ⟨fun b o eb => by
                          have : b ≠ D := fun q => by rw [q, hFD7] at eb; cases eb
                          rw [upd_ne this]; exact en7.hp.sub b o eb, en7.hp.nt, fun P hP => by
                          obtain ⟨ps, ep, tp⟩ := en7.hp.tab P hP
                          have : P ≠ D := fun q => by rw [q, hHD7] at ep; cases ep
                          exact ⟨ps, by rw [upd_ne this]; exact ep, tp⟩⟩
                      have en8 : EnvOk G T F7 (upd H7 D (.lst (accV ++ [v]))) (wipe σ vs) (wipeE ρ5 vs) := by
                        have z := back en7
                        have zz := z.calls (is := []) (ios := []) (outs := []) ⟨rfl, fun k i h => by cases h⟩ List.nodup_nil (Ext.refl (A := fun b => b ∈ ([] : List Addr))) z.hp (fun k a h => by cases h)
                        refine ⟨hpw, fun a q => xw.live a (z.live0 a q), z.len, fun j s e => ?_, z.sep⟩
                        have y := z.at_ j s e
                        cases s with
                        | un => trivial
                        | er c => exact y
                        | sc ns => exact y
                        | fz d => exact y
                        | fl us =>
                          obtain ⟨a, ws, ev, k1, k2, k0, k3, k4⟩ := y
                          have : a ≠ D := fun q => nDw (backO (fun a z => l5 a (l7 a z)) D ⟨j, _, e, rfl, by rw [← q]; exact join_ref ev⟩)
                          exact ⟨a, ws, ev, by rw [upd_ne this]; exact k1, k2, k0, k3, k4⟩
                        | io m us =>
                          obtain ⟨a, ws, ev, k1, k2, k0, k3, k4⟩ := y
                          have : a ≠ D := fun q => nDw (backO (fun a z => l5 a (l7 a z)) D ⟨j, _, e, rfl, by rw [← q]; exact join_ref ev⟩)
                          exact ⟨a, ws, ev, by rw [upd_ne this]; exact k1, k2, k0, k3, k4⟩
                      refine ⟨accV, hHD7, by omega, by omega, F7, _, acc ++ [d], accV ++ [v], zs, en8, x7.trans xw fun a q => .inr (by rw [q]; exact hD), backO (fun a z => l5 a (l7 a z)), e6, by rw [← hx]; simp, upd_same, hFD7, hr7.append (reps_cons rv reps_nil)⟩
      · have hi' : ds.length ≤ i := by omega
        rw [List.drop_eq_nil_of_le hi'] at hl
        cases hl
        rw [List.append_nil] at hx
        subst hx
        refine .inl ⟨hJ.stop i F2 H2 x2.fle en2.hp hi', ?_⟩
        obtain ⟨en9, l9⟩ := en1.unblock en2 x2 l2
        have x9 : Ext (Owns σ ρ1) F1 H1 F2 H2 := x2.weaken fun a z => owns_wipe z
        refine p1 F2 H2 x9 en9 l9 (.ref D) ⟨[D], ⟨D, accV, rfl, rfl, hHD, hFD2, by rw [hr.len]; exact hz, hr⟩, by simp, fun a ha => ?_⟩
        rw [List.mem_singleton.mp ha]
        exact ⟨Classical.byContradiction fun z => e1.live D z hD, fun z => nD (l9 D z)⟩
    · simp only [lcR, hz, if_false] at p1
      exact False.elim p1
end
end PL
end
section
set_option Elab.async false
set_option linter.all false
set_option maxRecDepth 100000
set_option maxHeartbeats 2000000
set_option autoImplicit false
/-! The rules for comprehensions and generator expressions. -/
namespace PL
open PySem PySem.Spec PyProof.Rows L2

section
variable {C : Ct} {elt tg iter : Expr} {ifs : List Expr} {scope : Scope} {own : List (Str × Nat)} {pos : Pos} {fi : Env → R (List D)} {g : TgD} {tt : Env → R Bool} {te : Env → R W}
theorem pd_lc (hi : PDI C tg iter fi) (hb : blkC C.N C.sc scope own = true) (hg : PDG (C.blk scope) tg (own.map (·.2)) g) (ht : PDTs (C.blk scope) ifs tt) (he : PD (C.blk scope) elt te) (hs : ∀ env x, foldedSetIterable iter env x = pure x := by intro _ _; rfl) :
    PD C (.ListComp elt [⟨tg, iter, ifs, 0⟩] scope pos) (eLc (own.map (·.2)) fi g tt te) := fun X Wx ok => by
  refine PE.to (ok.way.elim (fun z => pe_lc (own := own) z.1 ok.nodup ((hi X Wx ok).calm z.1) (by rw [ok.hN, ok.hsc]; exact blkOk_by hb)
      (fun s H c cl fp => hg _ _ (ok.blk z s H cl c fp)) (fun s H c cl fp => ht _ _ (ok.blk z s H cl c fp)) (fun s H c cl fp => he _ _ (ok.blk z s H cl c fp)) (hs _))
    fun ⟨hh, p, z1, z2, z3⟩ => HotI.pe_lcH (own := own) z1 z2 ok.nodup ((hi X Wx ok).hot ⟨p, z1, z2⟩) (by rw [ok.hN, ok.hsc]; exact blkOk_by hb)
      (fun s H ce fp q => hg _ _ (ok.blkH hh z1 z3 s H ce fp q)) (fun s H ce fp q => ht _ _ (ok.blkH hh z1 z3 s H ce fp q)) (fun s H ce fp q => he _ _ (ok.blkH hh z1 z3 s H ce fp q)) (hs _)) fun σ H Q h => lc_core0 h
/-- name = [..] on one line -/
theorem ps_lc {i : Nat} {y : Str} {py spos : Pos} {X : Cx} {Wx : WX} (ok : Cok X C Wx) (hl : locB C i y = true) (hloc : C.sc.names.lookup y = some .local) (hk : C.sc.kind = .function) (hline : (py.line == spos.line) = true) (hline2 : (pos.line == spos.line) = true) (hns : (scope.names.any fun (n, k) => n == y && (k == .local || k == .cell)) = false)
    (hi : PDI C tg iter fi) (hb : blkC C.N C.sc scope own = true) (hg : PDG (C.blk scope) tg (own.map (·.2)) g) (ht : PDTs (C.blk scope) ifs tt) (he : PD (C.blk scope) elt te) (hs : ∀ env x, foldedSetIterable iter env x = pure x) :
    PS X (.Assign [.Name y py] (.ListComp elt [⟨tg, iter, ifs, 0⟩] scope pos) spos) (tAsg (tLc (tI C.G Wx fi) (tG C.G (own.map (·.2)) g) (tT C.G Wno tt) (tE C.G Wno te) (own.map (·.2))) (gName i)) := by
  obtain ⟨h1, h2, h3⟩ := locB_spec hl
  have hsw : swapsWith (.ListComp elt [⟨tg, iter, ifs, 0⟩] scope pos) (some (.Name y py)) spos.line X.env = pure true := by
    have e2 : pos.line = spos.line := by simpa using hline2
    have e1 : py.line = spos.line := by simpa using hline
    exact sw_true (elt := elt) (gs := [⟨tg, iter, ifs, 0⟩]) (scope := scope) (pos := pos) (py := py) (y := y) (l := spos.line) (env := X.env) (by rw [ok.hsc]; exact hk) (by rw [ok.hsc]; exact hloc) (by rw [e1, e2]; simp) hns
  exact ok.way.elim (fun z => ps_setLc (own := own) z.1 ok.nodup (by rw [ok.hN]; exact h1) (by rw [ok.hsc]; exact hloc) hsw ((hi X Wx ok).calm z.1) (by rw [ok.hN, ok.hsc]; exact blkOk_by hb)
      (fun s H c cl fp => hg _ _ (ok.blk z s H cl c fp)) (fun s H c cl fp => ht _ _ (ok.blk z s H cl c fp)) (fun s H c cl fp => he _ _ (ok.blk z s H cl c fp)) (hs _))
    fun ⟨hh, p, z1, z2, z3⟩ => HotI.ps_setLcH (own := own) z1 z2 ok.nodup (by rw [ok.hN]; exact h1) (by rw [ok.hsc]; exact hloc) hsw ((hi X Wx ok).hot ⟨p, z1, z2⟩) (by rw [ok.hN, ok.hsc]; exact blkOk_by hb)
      (fun s H ce fp q => hg _ _ (ok.blkH hh z1 z3 s H ce fp q)) (fun s H ce fp q => ht _ _ (ok.blkH hh z1 z3 s H ce fp q)) (fun s H ce fp q => he _ _ (ok.blkH hh z1 z3 s H ce fp q)) (hs _)
def lcB (C : Ct) (i : Nat) (y : Str) (scope : Scope) (py pos spos : Pos) : Bool :=
  locB C i y && (C.sc.names.lookup y == some .local) && (match C.sc.kind with | .function => true | _ => false) && (py.line == spos.line) && (pos.line == spos.line) && !(scope.names.any fun (n, k) => n == y && (k == .local || k == .cell))
theorem lcB_spec {i : Nat} {y : Str} {py spos : Pos} (h : lcB C i y scope py pos spos = true) : locB C i y = true ∧ C.sc.names.lookup y = some .local ∧ C.sc.kind = .function ∧ (py.line == spos.line) = true ∧ (pos.line == spos.line) = true ∧ (scope.names.any fun (n, k) => n == y && (k == .local || k == .cell)) = false := by
  unfold lcB at h
  simp only [Bool.and_eq_true, Bool.not_eq_true'] at h
  obtain ⟨⟨⟨⟨⟨h1, h2⟩, h3⟩, h4⟩, h5⟩, h6⟩ := h
  refine ⟨h1, by simpa using h2, ?_, h4, h5, h6⟩
  split at h3
  · assumption
  · cases h3
theorem pds_setLc {i : Nat} {y : Str} {py spos : Pos} (h : lcB C i y scope py pos spos = true)
    (hi : PDI C tg iter fi) (hb : blkC C.N C.sc scope own = true) (hg : PDG (C.blk scope) tg (own.map (·.2)) g) (ht : PDTs (C.blk scope) ifs tt) (he : PD (C.blk scope) elt te) (hs : ∀ env x, foldedSetIterable iter env x = pure x := by intro _ _; rfl) :
    PDS C (.Assign [.Name y py] (.ListComp elt [⟨tg, iter, ifs, 0⟩] scope pos) spos) (sSet i (eLc (own.map (·.2)) fi g tt te)) := fun X Wx ok => by
  obtain ⟨h1, h2, h3, h4, h5, h6⟩ := lcB_spec h
  exact PS.to (ps_lc ok h1 h2 h3 h4 h5 h6 hi hb hg ht he hs) fun Dn σ H q => set_core (X := X) (fun _ z => lc_core0 z) q
theorem pds_ownLc {i : Nat} {y : Str} {py spos : Pos} (h : lcB C i y scope py pos spos = true)
    (hi : PDI C tg iter fi) (hb : blkC C.N C.sc scope own = true) (hg : PDG (C.blk scope) tg (own.map (·.2)) g) (ht : PDTs (C.blk scope) ifs tt) (he : PD (C.blk scope) elt te) (hs : ∀ env x, foldedSetIterable iter env x = pure x := by intro _ _; rfl) :
    PDS C (.Assign [.Name y py] (.ListComp elt [⟨tg, iter, ifs, 0⟩] scope pos) spos) (sOwn i (eLc (own.map (·.2)) fi g tt te)) := fun X Wx ok => by
  obtain ⟨h1, h2, h3, h4, h5, h6⟩ := lcB_spec h
  exact PS.to (ps_lc ok h1 h2 h3 h4 h5 h6 hi hb hg ht he hs) fun Dn σ H q => own_core (X := X) (fun _ z => lc_core0 z) q
end

/-! ### all, any of a generator expression -/
def genD (stopOn : Bool) (vs : List Nat) (g : TgD) (tt : Env → R Bool) (te : Env → R W) : List D → Env → R Bool
  | [], ρ => .ok (!stopOn) ρ
  | d :: ds, ρ => match g d ρ with
    | none => .bad
    | some ρ1 => match tt ρ1 with
      | .ok true ρ2 => (match tstB te ρ2 with
        | .ok c ρ3 => if c = stopOn then .ok stopOn (wipeE ρ3 vs) else genD stopOn vs g tt te ds (wipeE ρ3 vs)
        | _ => .bad)
      | .ok false ρ2 => genD stopOn vs g tt te ds (wipeE ρ2 vs)
      | _ => .bad
def genR (vs : List Nat) (ρ0 : Env) : R Bool → R W
  | .ok b ρ2 => .ok (.val (.bool b)) (restE ρ0 ρ2 vs)
  | _ => .bad
def eGen (stopOn : Bool) (vs : List Nat) (fi : Env → R (List D)) (g : TgD) (tt : Env → R Bool) (te : Env → R W) : Env → R W := fun ρ => (fi ρ).bind fun ds ρ1 => genR vs ρ1 (genD stopOn vs g tt te ds (wipeE ρ1 vs))
section
variable {G : GG} {T : Fm} {Wx : WX} {σ : L2.St} {Q : VK} {vs : List Nat} {g : TgD} {tt : Env → R Bool} {te : Env → R W} {fi : Env → R (List D)} {stopOn : Bool} {P : Addr}
theorem tabbed_ok {F H H2 : Hp} {ρ : Env} (en : EnvOk G T F H σ ρ) (hP : P ∈ G.tb) (t : GxR.Tabbed P H H2) : EnvOk G T F H2 σ ρ ∧ Ext (fun _ => False) F H F H2 := by
  obtain ⟨t1, t2⟩ := t
  obtain ⟨ps, hps, _⟩ := en.hp.tab P hP
  have ne : ∀ (b : Addr) (o : HO), H b = some o → (∀ ps, o ≠ .tbl ps) → H2 b = some o := fun b o e n => by
    have : b ≠ P := fun q => by rw [q, hps] at e; cases e; exact n _ rfl
    rw [t2 b this]; exact e
  have live : ∀ b, H b ≠ none → H2 b ≠ none := fun b hb => by
    by_cases q : b = P
    · rw [q]
      obtain ⟨ps', e', _⟩ := t1
      rw [e']; simp
    · rw [t2 b q]; exact hb
  refine ⟨⟨⟨fun b o e => ne b o (en.hp.sub b o e) (fun ps z => en.hp.nt b ps (by rw [e, z])), en.hp.nt, fun P' hP' => ?_⟩, fun a z => live a (en.live0 a z), en.len, fun i s e => ?_, en.sep⟩, ⟨fun _ _ q => q, fun a o e _ n => ne a o e n, fun _ _ _ => rfl, live⟩⟩
  · by_cases q : P' = P
    · rw [q]; exact t1
    · obtain ⟨ps', e', tp⟩ := en.hp.tab P' hP'
      exact ⟨ps', by rw [t2 P' q]; exact e', tp⟩
  · have z := en.at_ i s e
    cases s with
    | un => trivial
    | er c => exact z
    | sc ns => exact z
    | fz d => exact z
    | fl us =>
      obtain ⟨a, ws, ev, k1, k2, k0, k3, k4⟩ := z
      exact ⟨a, ws, ev, ne a _ k1 (fun ps z => by cases z), k2, k0, k3, k4⟩
    | io m us =>
      obtain ⟨a, ws, ev, k1, k2, k0, k3, k4⟩ := z
      exact ⟨a, ws, ev, ne a _ k1 (fun ps z => by cases z), k2, k0, k3, k4⟩
theorem gen_core {H : Hp} (hP : P ∈ G.tb) (h : tE G Wx (eGen stopOn vs fi g tt te) σ H Q) : Gx.tGenB stopOn P (tI G Wx fi) (tG G vs g) (tT G Wno tt) (tE G Wno te) vs σ H Q := by
  obtain ⟨T, F, ρ, en, p⟩ := h
  refine ⟨T, F, ρ, en, (RPost.bind p).imp fun ds ρ1 F1 H1 e1 en1 l1 p1 J hJ => ⟨en1.hp.tab P hP, fun H2 tb => ?_⟩⟩
  cases el : genD stopOn vs g tt te ds (wipeE ρ1 vs) with
  | bad => rw [el] at p1; exact False.elim p1
  | exc c ρ' => rw [el] at p1; exact False.elim p1
  | ok b0 ρe =>
    rw [el] at p1
    have p1 : RPost G T Wx F1 H1 σ ρ1 _ (R.ok (W.val (.bool b0)) (restE ρ1 ρe vs)) := p1
    obtain ⟨enT, xT⟩ := tabbed_ok en1 hP tb
    have fin : ∀ {F' H' : Hp}, EnvOk G T F' H' (wipe σ vs) ρe → Ext (Owns (wipe σ vs) (wipeE ρ1 vs)) F1 H1 F' H' → (∀ a, Owns (wipe σ vs) ρe a → Owns (wipe σ vs) (wipeE ρ1 vs) a) → Q (.bl b0) H' := fun {F' H'} e x l => by
      obtain ⟨e9, l9⟩ := en1.unblock e x l
      exact p1 F' H' (x.weaken fun a z => owns_wipe z) e9 l9 _ (repW_val rep_bl)
    refine ⟨fun i m H => m + i = ds.length ∧ ∃ F ρ, EnvOk G T F H (wipe σ vs) ρ ∧ Ext (Owns (wipe σ vs) (wipeE ρ1 vs)) F1 H1 F H ∧ (∀ a, Owns (wipe σ vs) ρ a → Owns (wipe σ vs) (wipeE ρ1 vs) a) ∧ genD stopOn vs g tt te (ds.drop i) ρ = .ok b0 ρe,
      ⟨ds.length, rfl, F1, _, enT.wipe vs, xT.weaken fun _ z => z.elim, fun _ z => z, el⟩, ?_⟩
    rintro i m H3 ⟨hm, F2, ρ2, en2, x2, l2, hl⟩
    by_cases hi : i < ds.length
    · refine .inr ⟨hJ.go i F2 H3 x2.fle en2.hp hi, fun H => (m - 1) + (i + 1) = ds.length ∧ ∃ F ρ, EnvOk G T F H (wipe σ vs) ρ ∧ Ext (Owns (wipe σ vs) (wipeE ρ1 vs)) F1 H1 F H ∧ (∀ a, Owns (wipe σ vs) ρ a → Owns (wipe σ vs) (wipeE ρ1 vs) a) ∧ genD stopOn vs g tt te (ds.drop (i + 1)) ρ = .ok b0 ρe,
        fun H' h => ⟨m - 1, by omega, h⟩, fun x H' y => ?_⟩
      obtain ⟨F3, n3, ok3, r3⟩ := hJ.yld i _ F2 H3 x H' x2.fle en2.hp (show ds[i]? = some ds[i] by simp [hi]) y
      have en3 := en2.new n3 ok3
      rw [List.drop_eq_getElem_cons hi] at hl
      unfold genD at hl
      cases eg : g ds[i] ρ2 with
      | none => simp only [eg] at hl; cases hl
      | some ρ3 =>
        simp only [eg] at hl
        refine ⟨T, F3, ρ2, _, en3, r3, ρ3, eg, fun σ4 en4 l4 w4 => ?_⟩
        rw [wipe_idem] at w4
        refine ⟨w4, T, F3, ρ3, en4, ?_⟩
        have x3 : Ext (Owns (wipe σ vs) (wipeE ρ1 vs)) F1 H1 F3 H' := x2.trans (n3.ext (A := fun _ => False)) fun a z => z.elim
        have own4 : ∀ a, Owns σ4 ρ3 a → Owns (wipe σ vs) (wipeE ρ1 vs) a := fun a z => l2 a (l4 a z)
        have back : ∀ {F5 H5 : Hp} {ρ5 : Env}, EnvOk G T F5 H5 σ4 ρ5 → EnvOk G T F5 H5 (wipe σ vs) (wipeE ρ5 vs) := fun {F5 H5 ρ5} e => by
          have := e.wipe vs
          rw [w4] at this
          exact this
        have backO : ∀ {ρ5 : Env}, (∀ a, Owns σ4 ρ5 a → Owns σ4 ρ3 a) → ∀ a, Owns (wipe σ vs) (wipeE ρ5 vs) a → Owns (wipe σ vs) (wipeE ρ1 vs) a := fun {ρ5} l a z => by
          rw [← w4] at z
          exact own4 a (l a (owns_wipe z))
        cases et : tt ρ3 with
        | bad => rw [et] at hl; cases hl
        | exc c ρ' => rw [et] at hl; cases hl
        | ok b ρ4 =>
          rw [et] at hl
          intro F5 H5 e5 en5 l5
          have x5 : Ext (Owns (wipe σ vs) (wipeE ρ1 vs)) F1 H1 F5 H5 := x3.trans e5 fun a z => .inl (own4 a z)
          cases b with
          | false =>
            refine iteF ?_
            exact ⟨by omega, F5, _, back en5, x5, backO l5, hl⟩
          | true =>
            refine iteT ?_
            have hl : (match tstB te ρ4 with
              | .ok c ρ3 => if c = stopOn then R.ok stopOn (wipeE ρ3 vs) else genD stopOn vs g tt te (ds.drop (i + 1)) (wipeE ρ3 vs)
              | _ => .bad) = .ok b0 ρe := hl
            cases ee : tstB te ρ4 with
            | bad => rw [ee] at hl; cases hl
            | exc c ρ' => rw [ee] at hl; cases hl
            | ok c ρ5 =>
              rw [ee] at hl
              refine bool_core (Q := fun k H4 => if k = stopOn then Q (.bl stopOn) H4 else (m - 1) + (i + 1) = ds.length ∧ ∃ F ρ, EnvOk G T F H4 (wipe σ vs) ρ ∧ Ext (Owns (wipe σ vs) (wipeE ρ1 vs)) F1 H1 F H4 ∧ (∀ a, Owns (wipe σ vs) ρ a → Owns (wipe σ vs) (wipeE ρ1 vs) a) ∧ genD stopOn vs g tt te (ds.drop (i + 1)) ρ = .ok b0 ρe) ⟨T, F5, ρ4, en5, ?_⟩
              rw [ee]
              intro F7 H7 e7 en7 l7
              show if c = stopOn then _ else _
              have x7 : Ext (Owns (wipe σ vs) (wipeE ρ1 vs)) F1 H1 F7 H7 := x5.trans e7 fun a z => .inl (own4 a (l5 a z))
              by_cases hc : c = stopOn
              · rw [if_pos hc]
                have hl : (if c = stopOn then R.ok stopOn (wipeE ρ5 vs) else genD stopOn vs g tt te (ds.drop (i + 1)) (wipeE ρ5 vs)) = .ok b0 ρe := hl
                rw [if_pos hc] at hl
                cases hl
                exact fin (back en7) x7 (backO fun a z => l5 a (l7 a z))
              · rw [if_neg hc]
                have hl : (if c = stopOn then R.ok stopOn (wipeE ρ5 vs) else genD stopOn vs g tt te (ds.drop (i + 1)) (wipeE ρ5 vs)) = .ok b0 ρe := hl
                rw [if_neg hc] at hl
                exact ⟨by omega, F7, _, back en7, x7, backO fun a z => l5 a (l7 a z), hl⟩
    · have hi' : ds.length ≤ i := by omega
      rw [List.drop_eq_nil_of_le hi'] at hl
      cases hl
      exact .inl ⟨hJ.stop i F2 H3 x2.fle en2.hp hi', fin en2 x2 l2⟩
end
section
variable {C : Ct} {elt tg iter : Expr} {ifs : List Expr} {scope : Scope} {own : List (Str × Nat)} {p gpos pos : Pos} {fi : Env → R (List D)} {g : TgD} {tt : Env → R Bool} {te : Env → R W} {k : Nat} {c P : Addr}
theorem pd_all (ht0 : C.tab = some (c, P)) (hk : C.k = k + 1) (hgl : glB C.sc "all" = true) (hm : C.G.mg "all" = none) (hb : Gx.genC C.N C.sc scope own = true) (hi : PDI C tg iter fi) (hg : PDG (C.gen scope k) tg (own.map (·.2)) g) (ht : PDTs (C.gen scope k) ifs tt) (he : PD (C.gen scope k) elt te)
    (hs : ∀ env v, genFold iter env v = pure v := by intro _ _; rfl)
    (hst : ∀ env, starEach [.GeneratorExp elt [⟨tg, iter, ifs, 0⟩] scope gpos] env = (false, eval (.GeneratorExp elt [⟨tg, iter, ifs, 0⟩] scope gpos) env) :: starEach [] env := by intro _; rfl) (hh : C.hot = false := by rfl) :
    PD C (.Call (.Name "all" p) [.GeneratorExp elt [⟨tg, iter, ifs, 0⟩] scope gpos] [] pos) (eGen false (own.map (·.2)) fi g tt te) := fun X Wx ok => by
  obtain ⟨h1, h2, h3⟩ := ok.cod c P ht0
  refine PE.to (Gx.pe_allG (own := own) (ok.calm hh) ok.nodup (ok.room hh) (ok.gl hgl) (by rw [ok.mg]; exact hm) h2 h1 (by rw [ok.hN, ok.hsc]; exact Gx.genSc_by hb) ((hi X Wx ok).calm (ok.calm hh))
    (fun A' s H code cl c fp hA => hg _ _ (ok.gen hh hk A' s H code cl c fp hA)) (fun A' s H code cl c fp hA => ht _ _ (ok.gen hh hk A' s H code cl c fp hA)) (fun A' s H code cl c fp hA => he _ _ (ok.gen hh hk A' s H code cl c fp hA)) (hs _) (hst _)) fun σ H Q h => gen_core h3 h
theorem pd_any (ht0 : C.tab = some (c, P)) (hk : C.k = k + 1) (hgl : glB C.sc "any" = true) (hm : C.G.mg "any" = none) (hb : Gx.genC C.N C.sc scope own = true) (hi : PDI C tg iter fi) (hg : PDG (C.gen scope k) tg (own.map (·.2)) g) (ht : PDTs (C.gen scope k) ifs tt) (he : PD (C.gen scope k) elt te)
    (hs : ∀ env v, genFold iter env v = pure v := by intro _ _; rfl)
    (hst : ∀ env, starEach [.GeneratorExp elt [⟨tg, iter, ifs, 0⟩] scope gpos] env = (false, eval (.GeneratorExp elt [⟨tg, iter, ifs, 0⟩] scope gpos) env) :: starEach [] env := by intro _; rfl) (hh : C.hot = false := by rfl) :
    PD C (.Call (.Name "any" p) [.GeneratorExp elt [⟨tg, iter, ifs, 0⟩] scope gpos] [] pos) (eGen true (own.map (·.2)) fi g tt te) := fun X Wx ok => by
  obtain ⟨h1, h2, h3⟩ := ok.cod c P ht0
  refine PE.to (Gx.pe_anyG (own := own) (ok.calm hh) ok.nodup (ok.room hh) (ok.gl hgl) (by rw [ok.mg]; exact hm) h2 h1 (by rw [ok.hN, ok.hsc]; exact Gx.genSc_by hb) ((hi X Wx ok).calm (ok.calm hh))
    (fun A' s H code cl c fp hA => hg _ _ (ok.gen hh hk A' s H code cl c fp hA)) (fun A' s H code cl c fp hA => ht _ _ (ok.gen hh hk A' s H code cl c fp hA)) (fun A' s H code cl c fp hA => he _ _ (ok.gen hh hk A' s H code cl c fp hA)) (hs _) (hst _)) fun σ H Q h => gen_core h3 h
end
end PL
end
section
set_option Elab.async false
set_option linter.all false
set_option maxRecDepth 100000
set_option maxHeartbeats 2000000
set_option autoImplicit false
/-! min of a generator expression. -/
namespace PL
open PySem PySem.Spec PyProof.Rows L2

def fmin (b : Option Int) (ns : List Int) : Option Int := ns.foldl (fun b n => match b with
  | none => some n
  | some i => if n < i then some n else some i) b
def minR (vs : List Nat) (ρ0 : Env) : R (List D) → R W
  | .ok xs ρ2 => (match intsD xs with
    | some ns => (match fmin none ns with
      | some r => .ok (.val (.int r)) (restE ρ0 ρ2 vs)
      | none => .bad)
    | none => .bad)
  | _ => .bad
def eMinG (vs : List Nat) (fi : Env → R (List D)) (g : TgD) (tt : Env → R Bool) (te : Env → R W) : Env → R W := fun ρ => (fi ρ).bind fun ds ρ1 => minR vs ρ1 (lcD vs g tt te ds (wipeE ρ1 vs))
section
variable {G : GG} {T : Fm} {Wx : WX} {σ : L2.St} {Q : VK} {vs : List Nat} {g : TgD} {tt : Env → R Bool} {te : Env → R W} {fi : Env → R (List D)} {P : Addr}
theorem minG_core {H : Hp} (hP : P ∈ G.tb) (h : tE G Wx (eMinG vs fi g tt te) σ H Q) : Gx.tGenV P (tI G Wx fi) (tG G vs g) (tT G Wno tt) (tE G Wno te) vs Gx.minSt0 Gx.minOk Gx.minStep Gx.minFin σ H Q := by
  obtain ⟨T, F, ρ, en, p⟩ := h
  refine ⟨T, F, ρ, en, (RPost.bind p).imp fun ds ρ1 F1 H1 e1 en1 l1 p1 J hJ => ⟨en1.hp.tab P hP, fun H2 tb o0 ho0 => ?_⟩⟩
  cases el : lcD vs g tt te ds (wipeE ρ1 vs) with
  | bad => rw [el] at p1; exact False.elim p1
  | exc c ρ' => rw [el] at p1; exact False.elim p1
  | ok xs ρe =>
    rw [el] at p1
    cases ei : intsD xs with
    | none => simp only [minR, ei] at p1; exact False.elim p1
    | some ns =>
      cases er : fmin none ns with
      | none => simp only [minR, ei, er] at p1; exact False.elim p1
      | some r =>
        simp only [minR, ei, er] at p1
        obtain ⟨enT, xT⟩ := tabbed_ok en1 hP tb
        refine ⟨fun i m o H => m + i = ds.length ∧ ∃ F ρ ys b nys, EnvOk G T F H (wipe σ vs) ρ ∧ Ext (Owns (wipe σ vs) (wipeE ρ1 vs)) F1 H1 F H ∧ (∀ a, Owns (wipe σ vs) ρ a → Owns (wipe σ vs) (wipeE ρ1 vs) a) ∧ lcD vs g tt te (ds.drop i) ρ = .ok ys ρe ∧ intsD ys = some nys ∧ Gx.minSh o b ∧ fmin b nys = some r,
          ⟨ds.length, rfl, F1, _, xs, none, ns, enT.wipe vs, xT.weaken fun _ z => z.elim, fun _ z => z, el, ei, ho0, er⟩, ?_⟩
        rintro i m o H3 ⟨hm, F2, ρ2, ys, b, nys, en2, x2, l2, hl, hy, hb, hf⟩
        by_cases hi : i < ds.length
        · refine .inr ⟨hJ.go i F2 H3 x2.fle en2.hp hi, fun o H => (m - 1) + (i + 1) = ds.length ∧ ∃ F ρ ys b nys, EnvOk G T F H (wipe σ vs) ρ ∧ Ext (Owns (wipe σ vs) (wipeE ρ1 vs)) F1 H1 F H ∧ (∀ a, Owns (wipe σ vs) ρ a → Owns (wipe σ vs) (wipeE ρ1 vs) a) ∧ lcD vs g tt te (ds.drop (i + 1)) ρ = .ok ys ρe ∧ intsD ys = some nys ∧ Gx.minSh o b ∧ fmin b nys = some r,
            fun o' H' h => ⟨m - 1, by omega, h⟩, fun x H' y => ?_⟩
          obtain ⟨F3, n3, ok3, r3⟩ := hJ.yld i _ F2 H3 x H' x2.fle en2.hp (show ds[i]? = some ds[i] by simp [hi]) y
          have en3 := en2.new n3 ok3
          rw [List.drop_eq_getElem_cons hi] at hl
          unfold lcD at hl
          cases eg : g ds[i] ρ2 with
          | none => simp only [eg] at hl; cases hl
          | some ρ3 =>
            simp only [eg] at hl
            refine ⟨T, F3, ρ2, _, en3, r3, ρ3, eg, fun σ4 en4 l4 w4 => ?_⟩
            rw [wipe_idem] at w4
            refine ⟨w4, T, F3, ρ3, en4, ?_⟩
            have x3 : Ext (Owns (wipe σ vs) (wipeE ρ1 vs)) F1 H1 F3 H' := x2.trans (n3.ext (A := fun _ => False)) fun a z => z.elim
            have own4 : ∀ a, Owns σ4 ρ3 a → Owns (wipe σ vs) (wipeE ρ1 vs) a := fun a z => l2 a (l4 a z)
            have back : ∀ {F5 H5 : Hp} {ρ5 : Env}, EnvOk G T F5 H5 σ4 ρ5 → EnvOk G T F5 H5 (wipe σ vs) (wipeE ρ5 vs) := fun {F5 H5 ρ5} e => by
              have := e.wipe vs
              rw [w4] at this
              exact this
            have backO : ∀ {ρ5 : Env}, (∀ a, Owns σ4 ρ5 a → Owns σ4 ρ3 a) → ∀ a, Owns (wipe σ vs) (wipeE ρ5 vs) a → Owns (wipe σ vs) (wipeE ρ1 vs) a := fun {ρ5} l a z => by
              rw [← w4] at z
              exact own4 a (l a (owns_wipe z))
            cases et : tt ρ3 with
            | bad => rw [et] at hl; cases hl
            | exc c ρ' => rw [et] at hl; cases hl
            | ok b' ρ4 =>
              rw [et] at hl
              intro F5 H5 e5 en5 l5
              have x5 : Ext (Owns (wipe σ vs) (wipeE ρ1 vs)) F1 H1 F5 H5 := x3.trans e5 fun a z => .inl (own4 a z)
              cases b' with
              | false =>
                refine iteF ?_
                exact ⟨by omega, F5, _, ys, b, nys, back en5, x5, backO l5, hl, hy, hb, hf⟩
              | true =>
                refine iteT ?_
                have hl : (match eFz te ρ4 with
                  | .ok (.o (.fz x)) ρ3 => (match lcD vs g tt te (ds.drop (i + 1)) (wipeE ρ3 vs) with
                    | .ok xs ρ4 => R.ok (x :: xs) ρ4
                    | _ => .bad)
                  | _ => .bad) = .ok ys ρe := hl
                cases ee : eFz te ρ4 with
                | bad => rw [ee] at hl; cases hl
                | exc c ρ' => rw [ee] at hl; cases hl
                | ok w ρ5 =>
                  rw [ee] at hl
                  cases w with
                  | own j => cases hl
                  | o o1 =>
                    cases o1 with
                    | fl zs => cases hl
                    | tp ps => cases hl
                    | fz d =>
                      have hl : (match lcD vs g tt te (ds.drop (i + 1)) (wipeE ρ5 vs) with
                        | .ok xs ρ4 => R.ok (d :: xs) ρ4
                        | _ => .bad) = .ok ys ρe := hl
                      cases e6 : lcD vs g tt te (ds.drop (i + 1)) (wipeE ρ5 vs) with
                      | bad => rw [e6] at hl; cases hl
                      | exc c ρ' => rw [e6] at hl; cases hl
                      | ok zs ρ6 =>
                        rw [e6] at hl
                        cases hl
                        obtain ⟨n, rfl⟩ : ∃ n, d = .int n := by cases d <;> first | exact ⟨_, rfl⟩ | (simp [intsD] at hy)
                        have hy : (match intsD zs with | some ns => some (n :: ns) | none => none) = some nys := hy
                        cases ez : intsD zs with
                        | none => rw [ez] at hy; cases hy
                        | some mz =>
                          rw [ez] at hy
                          cases hy
                          refine tE_fz en5 ?_
                          rw [ee]
                          intro F7 H7 e7 en7 l7 v rv
                          have rv : Rep G.K F7 (.int n) v := rv
                          rw [Rep] at rv
                          subst rv
                          have x7 : Ext (Owns (wipe σ vs) (wipeE ρ1 vs)) F1 H1 F7 H7 := x5.trans e7 fun a z => .inl (own4 a (l5 a z))
                          refine ⟨⟨⟨n, rfl⟩, b, hb⟩, fun u o' ru st => ?_⟩
                          obtain ⟨t, rfl⟩ := ru
                          refine ⟨by omega, F7, _, zs, _, mz, back en7, x7, backO fun a z => l5 a (l7 a z), e6, ez, st n t rfl b hb, ?_⟩
                          rw [← hf]
                          rfl
        · have hi' : ds.length ≤ i := by omega
          rw [List.drop_eq_nil_of_le hi'] at hl
          cases hl
          cases hy
          have hf : b = some r := hf
          subst hf
          obtain ⟨e9, l9⟩ := en1.unblock en2 x2 l2
          exact .inl ⟨hJ.stop i F2 H3 x2.fle en2.hp hi', .int r, ⟨r, hb, rfl⟩, p1 F2 H3 (x2.weaken fun a z => owns_wipe z) e9 l9 _ (repW_val rep_int)⟩
end
section
variable {C : Ct} {elt tg iter : Expr} {ifs : List Expr} {scope : Scope} {own : List (Str × Nat)} {p gpos pos : Pos} {fi : Env → R (List D)} {g : TgD} {tt : Env → R Bool} {te : Env → R W} {k : Nat} {c P : Addr}
theorem pd_minG (ht0 : C.tab = some (c, P)) (hk : C.k = k + 1) (hgl : glB C.sc "min" = true) (hm : C.G.mg "min" = none) (hb : Gx.genC C.N C.sc scope own = true) (hi : PDI C tg iter fi) (hg : PDG (C.gen scope k) tg (own.map (·.2)) g) (ht : PDTs (C.gen scope k) ifs tt) (he : PD (C.gen scope k) elt te)
    (hs : ∀ env v, genFold iter env v = pure v := by intro _ _; rfl)
    (hst : ∀ env, starEach [.GeneratorExp elt [⟨tg, iter, ifs, 0⟩] scope gpos] env = (false, eval (.GeneratorExp elt [⟨tg, iter, ifs, 0⟩] scope gpos) env) :: starEach [] env := by intro _; rfl) (hh : C.hot = false := by rfl) :
    PD C (.Call (.Name "min" p) [.GeneratorExp elt [⟨tg, iter, ifs, 0⟩] scope gpos] [] pos) (eMinG (own.map (·.2)) fi g tt te) := fun X Wx ok => by
  obtain ⟨h1, h2, h3⟩ := ok.cod c P ht0
  refine PE.to (Gx.pe_minG (own := own) (ok.calm hh) ok.nodup (ok.room hh) (ok.gl hgl) (by rw [ok.mg]; exact hm) h2 h1 (by rw [ok.hN, ok.hsc]; exact Gx.genSc_by hb) ((hi X Wx ok).calm (ok.calm hh))
    (fun A' s H code cl c fp hA => hg _ _ (ok.gen hh hk A' s H code cl c fp hA)) (fun A' s H code cl c fp hA => ht _ _ (ok.gen hh hk A' s H code cl c fp hA)) (fun A' s H code cl c fp hA => he _ _ (ok.gen hh hk A' s H code cl c fp hA)) (hs _) (hst _)) fun σ H Q h => minG_core h3 h
end
end PL
end
section
set_option Elab.async false
set_option linter.all false
set_option maxRecDepth 100000
set_option maxHeartbeats 2000000
set_option autoImplicit false
/-! The rules in short. -/
namespace PL
open PySem PySem.Spec PyProof.Rows L2

section
variable {C : Ct} {a b c : Expr} {fa fb fc : Env → R W} {pos : Pos}
theorem hu1 {X : Cx} {Wx : WX} (ok : Cok X C Wx) : X.A.units + 64 < cLine := by have := ok.roomH.un; omega
theorem hu2 {X : Cx} {Wx : WX} (ok : Cok X C Wx) : X.A.units + 65 < cLine := by have := ok.roomH.un; omega
theorem pd_add (ha : PD C a fa) (hb : PD C b fb) : PD C (.BinOp a .Add b pos) (eBin addD fa fb) := pd_op (r := fun X => rAddA X.K) (fun _ _ _ => op_addA) (fun _ _ ok => pr_add ok.K) ha hb
theorem pd_sub (ha : PD C a fa) (hb : PD C b fb) : PD C (.BinOp a .Sub b pos) (eBin subD fa fb) := pd_op (r := fun _ => _) (fun _ _ _ => op_sub) (fun _ _ _ => pr_sub) ha hb
theorem pd_mul (ha : PD C a fa) (hb : PD C b fb) : PD C (.BinOp a .Mult b pos) (eBin mulD fa fb) := pd_op (r := fun X => rMulA X.K) (fun _ _ _ => op_mulA) (fun _ _ ok => pr_mul ok.K) ha hb
theorem pd_fdiv (ha : PD C a fa) (hb : PD C b fb) : PD C (.BinOp a .FloorDiv b pos) (eBin fdivD fa fb) := pd_op (r := fun _ => _) (fun _ _ _ => op_fdivW) (fun _ _ _ => pr_fdiv) ha hb
theorem pd_mod (ha : PD C a fa) (hb : PD C b fb) : PD C (.BinOp a .Mod b pos) (eBin modD fa fb) := pd_op (r := fun _ => _) (fun _ _ _ => op_mod) (fun _ _ _ => pr_mod) ha hb
theorem pd_pow (ha : PD C a fa) (hb : PD C b fb) : PD C (.BinOp a .Pow b pos) (eBin powD fa fb) := pd_op (r := fun _ => _) (fun _ _ _ => op_pow) (fun _ _ _ => pr_pow) ha hb
theorem pd_shr (ha : PD C a fa) (hb : PD C b fb) : PD C (.BinOp a .RShift b pos) (eBin shrD fa fb) := pd_op (r := fun _ => _) (fun _ _ _ => op_shr) (fun _ _ _ => pr_shr) ha hb
theorem pd_xor (ha : PD C a fa) (hb : PD C b fb) : PD C (.BinOp a .BitXor b pos) (eBin xorD fa fb) := pd_op (r := fun _ => _) (fun _ _ _ => op_xor) (fun _ _ _ => pr_xor) ha hb
theorem pd_neg (ha : PD C a fa) : PD C (.UnaryOp .USub a pos) (eUn negD fa) := pd_un (r := fun _ => _) (fun _ _ _ => un_neg) (fun _ _ _ => pr_neg) ha
/-- a comparison's rule: the operator's reading -/
structure CmpOk (C : Ct) (op : CmpOp) (g : D → D → Option P1) : Prop where
  ex : ∃ r : Cx → R2, (∀ X Wx, Cok X C Wx → OpR X (compareOp op) (r X)) ∧ ∀ X Wx, Cok X C Wx → Prim2 C.G (r X) g
theorem cmp_eq : CmpOk C .Eq eqD := ⟨fun X => rEqD X.K, fun _ _ ok => op_eqD (hu1 ok), fun _ _ ok => pr_eq ok.K⟩
theorem cmp_ne : CmpOk C .NotEq neD := ⟨fun X => rNeD X.K, fun _ _ ok => op_neD (hu1 ok), fun _ _ ok => pr_ne ok.K⟩
theorem cmp_lt : CmpOk C .Lt ltD := ⟨fun _ => _, fun _ _ _ => op_ltA, fun _ _ _ => pr_lt⟩
theorem cmp_le : CmpOk C .LtE leD := ⟨fun _ => _, fun _ _ _ => op_leA, fun _ _ _ => pr_le⟩
theorem cmp_gt : CmpOk C .Gt gtD := ⟨fun _ => _, fun _ _ _ => op_gtA, fun _ _ _ => pr_gt⟩
theorem cmp_ge : CmpOk C .GtE geD := ⟨fun _ => _, fun _ _ _ => op_ge, fun _ _ _ => pr_ge⟩
theorem cmp_in : CmpOk C .In inD := ⟨fun X => rInA X.K, fun _ _ ok => (op_inD (hu2 ok)).or op_in_seq, fun _ _ ok => pr_in ok.K⟩
theorem cmp_notIn : CmpOk C .NotIn notInD := ⟨fun X => rNotInA X.K, fun _ _ ok => (op_notInD (hu2 ok)).or op_notIn_seq, fun _ _ ok => pr_notIn ok.K⟩
theorem cmp_is : CmpOk C .Is isD := ⟨fun _ => rIsA, fun _ _ _ => op_isA, fun _ _ _ => pr_is⟩
theorem cmp_isNot : CmpOk C .IsNot isNotD := ⟨fun _ => rIsNotA, fun _ _ _ => op_isNotA, fun _ _ _ => pr_isNot⟩
theorem pd_c {op : CmpOp} {g : D → D → Option P1} (h : CmpOk C op g) (ha : PD C a fa) (hb : PD C b fb) (hm : behindInMarks op b = false := by rfl) : PD C (.Compare a [op] [b] pos) (eBin g fa fb) := by
  obtain ⟨r, h1, h2⟩ := h.ex
  exact pd_cmp h1 h2 ha hb hm
theorem pdt_c {op : CmpOp} {g : D → D → Option P1} (h : CmpOk C op g) (ha : PD C a fa) (hb : PD C b fb) (hm : behindInMarks op b = false := by rfl) : PDT C (.Compare a [op] [b] pos) (tstB (eBin g fa fb)) := by
  obtain ⟨r, h1, h2⟩ := h.ex
  exact pdt_cmp h1 h2 ha hb hm
theorem pd_c2 {op op' : CmpOp} {g g' : D → D → Option P1} (h : CmpOk C op g) (h' : CmpOk C op' g') (ha : PD C a fa) (hb : PD C b fb) (hc : PD C c fc) (hm : lastMarks [op, op'] [b, c] = false := by rfl) : PD C (.Compare a [op, op'] [b, c] pos) (eCh2 g g' fa fb fc) := by
  obtain ⟨r, h1, h2⟩ := h.ex
  obtain ⟨r', h3, h4⟩ := h'.ex
  exact pd_ch2 h1 h2 h3 h4 ha hb hc hm
theorem pdt_c2 {op op' : CmpOp} {g g' : D → D → Option P1} (h : CmpOk C op g) (h' : CmpOk C op' g') (ha : PD C a fa) (hb : PD C b fb) (hc : PD C c fc) (hm : lastMarks [op, op'] [b, c] = false := by rfl) : PDT C (.Compare a [op, op'] [b, c] pos) (tstB (eCh2 g g' fa fb fc)) := by
  obtain ⟨r, h1, h2⟩ := h.ex
  obtain ⟨r', h3, h4⟩ := h'.ex
  exact pdt_ch2 h1 h2 h3 h4 ha hb hc hm
theorem pd_c3 {d : Expr} {fd : Env → R W} {op op' op'' : CmpOp} {g g' g'' : D → D → Option P1} (h : CmpOk C op g) (h' : CmpOk C op' g') (h'' : CmpOk C op'' g'') (ha : PD C a fa) (hb : PD C b fb) (hc : PD C c fc) (hd : PD C d fd) (hm : lastMarks [op, op', op''] [b, c, d] = false := by rfl) : PD C (.Compare a [op, op', op''] [b, c, d] pos) (eCh3 g g' g'' fa fb fc fd) := by
  obtain ⟨r, h1, h2⟩ := h.ex
  obtain ⟨r', h3, h4⟩ := h'.ex
  obtain ⟨r'', h5, h6⟩ := h''.ex
  exact pd_ch3 h1 h2 h3 h4 h5 h6 ha hb hc hd hm
end
section
variable {C : Ct} {e : Expr} {es : List Expr} {fa : Env → R (List W)} {p pos : Pos}
/-- a built-in's rule: its name, its reading -/
structure BiOk (C : Ct) (x : Str) (g : List D → Option P1) : Prop where
  ex : ∃ (v : Value) (r : Cx → List V → Hp → VK → Prop), bootBuiltins x = some v ∧ ((∃ id, v = .builtin id) ∨ ∃ Tn, v = .type Tn) ∧ (∀ X Wx, Cok X C Wx → CallR X v (r X)) ∧ ∀ X Wx, Cok X C Wx → PrimN C.G (r X) g
theorem bi_len : BiOk C "len" lenD := ⟨_, fun X => rLenA X.K, PySem.boot_len, .inl ⟨_, rfl⟩, fun _ _ _ => call_lenA, fun _ _ ok => pr_len ok.K⟩
theorem bi_abs : BiOk C "abs" absD := ⟨_, fun _ => _, (by decide +kernel : bootBuiltins "abs" = some (.builtin "abs")), .inl ⟨_, rfl⟩, fun _ _ _ => call_abs, fun _ _ _ => pr_abs⟩
theorem bi_max2 (hh : C.hot = false := by rfl) : BiOk C "max" max2D := ⟨_, fun _ => _, (by decide +kernel : bootBuiltins "max" = some (.builtin "max")), .inl ⟨_, rfl⟩, fun _ _ ok => call_max2 (ok.calm hh), fun _ _ _ => pr_max2⟩
theorem bi_min2 (hh : C.hot = false := by rfl) : BiOk C "min" min2D := ⟨_, fun _ => _, (by decide +kernel : bootBuiltins "min" = some (.builtin "min")), .inl ⟨_, rfl⟩, fun _ _ ok => call_min2 (ok.calm hh), fun _ _ _ => pr_min2⟩
theorem bi_sum (hh : C.hot = false := by rfl) : BiOk C "sum" sumD := ⟨_, fun X => rSum X.K, (by decide +kernel : bootBuiltins "sum" = some (.builtin "sum")), .inl ⟨_, rfl⟩, fun _ _ ok => cr_sum (ok.calm hh), fun _ _ ok => pr_sum ok.K⟩
theorem bi_sorted : BiOk C "sorted" sortedD := ⟨_, fun X => rSortedI X.K, (by decide +kernel : bootBuiltins "sorted" = some (.builtin "sorted")), .inl ⟨_, rfl⟩, fun _ _ _ => cr_sortedI, fun _ _ ok => pr_sorted ok.K⟩
theorem bi_tuple : BiOk C "tuple" tupleD := ⟨_, fun X => _, (by decide +kernel : bootBuiltins "tuple" = some (.type "tuple")), .inr ⟨_, rfl⟩, fun _ _ _ => call_tuple_of, fun _ _ ok => pr_tuple ok.K⟩
theorem bi_list : BiOk C "list" listD := ⟨_, fun X => _, (by decide +kernel : bootBuiltins "list" = some (.type "list")), .inr ⟨_, rfl⟩, fun _ _ _ => call_list_of, fun _ _ ok => pr_list ok.K⟩
theorem pd_b {x : Str} {g : List D → Option P1} (h : BiOk C x g) (hg : glB C.sc x = true) (hm : C.G.mg x = none) (ha : PDA C (e :: es) fa)
    (he : ∀ env, starEach (e :: es) env = (false, eval e env) :: starEach es env := by intro _; rfl) (hpl : ∀ env, (backTo pos (starEach es env)).any (·.1) = false := by intro _; rfl) : PD C (.Call (.Name x p) (e :: es) [] pos) (eN g fa) := by
  obtain ⟨v, r, h1, h2, h3, h4⟩ := h.ex
  rcases h2 with ⟨id, rfl⟩ | ⟨Tn, rfl⟩
  · exact pd_callB h3 h4 hg hm h1 ha he hpl
  · exact pd_callTy h3 h4 hg hm h1 ha he hpl
theorem pd_gcd {x : Str} (hg : glB C.sc x = true) (hm : C.G.mg x = some (.builtin "math.gcd")) (ha : PDA C (e :: es) fa)
    (he : ∀ env, starEach (e :: es) env = (false, eval e env) :: starEach es env := by intro _; rfl) (hpl : ∀ env, (backTo pos (starEach es env)).any (·.1) = false := by intro _; rfl) : PD C (.Call (.Name x p) (e :: es) [] pos) (eN gcdD fa) :=
  pd_callF (r := fun _ => rGcd) (fun _ _ _ => cr_gcd) (fun _ _ _ => pr_gcd) hg hm ha he hpl
theorem pd_glI {C : Ct} {x : Str} {i : Int} {pos : Pos} (hg : glB C.sc x = true) (hm : ∃ t, C.G.mg x = some (.int i t)) : PD C (.Name x pos) (eC (.int i)) := by
  obtain ⟨t, hm⟩ := hm
  exact pd_glob hg hm (v := .int i) ⟨t, rfl⟩ (by rw [Rep])
/-- a constant of the module that is a tuple in the written part -/
def GlD (G : GG) (x : Str) (d : D) : Prop := ∃ (v : V) (u : Value), G.mg x = some u ∧ RelV v u ∧ Rep G.K (fun _ => none) d v
theorem pd_glD {C : Ct} {x : Str} {d : D} {pos : Pos} (hg : glB C.sc x = true) (hm : GlD C.G x d) : PD C (.Name x pos) (eC d) := by
  obtain ⟨v, u, h1, h2, h3⟩ := hm
  exact pd_glob hg h1 h2 h3
end
end PL
end
section
set_option Elab.async false
set_option linter.all false
set_option maxRecDepth 100000
set_option maxHeartbeats 2000000
set_option autoImplicit false
/-! The script; defs as they stand. -/
namespace PL
open PySem PySem.Spec PyProof.Rows L2

theorem bi_int {C : Ct} : BiOk C "int" intD := ⟨_, fun X => _, (by decide +kernel : bootBuiltins "int" = some (.type "int")), .inr ⟨_, rfl⟩, fun _ _ _ => call_int1, fun _ _ ok => pr_intC⟩
/-- script[:63] -/
def eSc (i : Nat) : Env → R W := fun ρ => match ρ[i]? with
  | some (.sc ns) => .ok (.o (.fl (ns.map PyData.int))) ρ
  | _ => .bad
theorem pd_scSl {C : Ct} {i : Nat} {x : Str} {p p1 p2 pos : Pos} {j : Nat} (hx : nmB C.N C.sc i x = true) : PD C (.Subscript (.Name x p) (.Slice none (some (.Constant (.int 63) j p1)) none p2) pos) (eSc i) := fun X Wx ok => by
  obtain ⟨h1, h2, h3, h4⟩ := nmB_spec hx
  refine PE.to (pe_slice (r := rSlAll X.K) (sl_list.or (sl_tupA.or sl_str)) (pe_var (i := i) (by rw [ok.hN]; exact h1) (by rw [ok.hsc]; exact h2) h3 h4) po_none (po_some pe_int)) fun σ H Q ⟨T, F, ρ, en, pp⟩ => ?_
  unfold eSc at pp
  split at pp <;> try (exact False.elim pp)
  rename_i ns es
  obtain ⟨a, ev, q1, q2⟩ := en.at_ i _ es
  refine ⟨.ref a, join_ref ev, (63 : Int), rfl, ?_⟩
  refine .inl ⟨a, ns.map V.int, rfl, ?_, fun l hl => ?_⟩
  · rw [ok.K]; exact en.hp.sub.seq q1
  · have e : cutV (ns.map V.int) none (some 63) = ns.map V.int := by
      unfold cutV
      have hlen : (ns.map V.int).length ≤ 63 := by rw [List.length_map]; exact q2
      have e0 : HT.sIx (ns.map V.int).length 0 none = 0 := rfl
      have e1 : HT.sIx (ns.map V.int).length (ns.map V.int).length (some 63) = (ns.map V.int).length := by
        unfold HT.sIx
        simp
        omega
      rw [e0, e1]
      simp
      exact List.take_of_length_le (by simp)
    rw [e]
    have hz : (ns.map V.int).length ≤ sizeLine := by rw [List.length_map]; exact Nat.le_trans q2 (by decide)
    obtain ⟨n, k, r⟩ := new_lst en.hp hz (ints_reps (K := C.G.K) (F := F) ns) hl
    obtain ⟨p', eg, q⟩ := out_post (p := some (.fl (ns.map PyData.int))) (Hs := H) (fun _ z => z) en pp
    cases eg
    exact q _ _ _ n k r

/-! ### defs as they stand -/
theorem def_at {G : GG} {x : Str} {params : Arguments} {body : List Stmt} {scope : Scope} {f : Addr} {fd : FuncData} {N ps : List Str} {k : Nat} {ms : List Md} {t : Env → So} (F : FunD G.K x x params body scope [] [] f fd) (hg : G.mg x = some (.ref f)) (S : FnScope N ps scope) (hms : ms.length = ps.length) (hbi : Binds G.K fd ps [])
    (hb : PDSs ⟨G, N, scope, k, fun _ => true, none, false, true⟩ body t) (hz : G.hx = none := by rfl) : DefAt G x (k + 1) N.length ms (semOf N.length ms t) :=
  ⟨f, fd, ps, hg, F.kp, hbi, F.ok S (spD_len hms) fun cdv A outer s H vs Q E hr h => def_body hz S hms (fun c P e => by cases e) hb A outer s H vs Q E hr h⟩
/-- .. with a table for generator expressions -/
theorem def_atT {G : GG} {x : Str} {params : Arguments} {body : List Stmt} {scope : Scope} {f c P : Addr} {fd : FuncData} {N ps : List Str} {k : Nat} {ms : List Md} {t : Env → So} (F : FunD G.K x x params body scope [] [] f fd) (hg : G.mg x = some (.ref f)) (hc : fd.code = .ref c) (TB : GxR.TabB G.base G.mg c P) (hP : P ∈ G.tb) (S : FnScope N ps scope) (hms : ms.length = ps.length) (hbi : Binds G.K fd ps [])
    (hb : PDSs ⟨G, N, scope, k, fun _ => true, some (c, P), false, true⟩ body t) (hz : G.hx = none := by rfl) : DefAt G x (k + 1) N.length ms (semOf N.length ms t) := by
  refine ⟨f, fd, ps, hg, F.kp, hbi, ?_⟩
  obtain ⟨oc, od, dV, kV, doc, pm, an, cdv, ct, osl, rfl, lk, hcd, _, _⟩ := F.ex
  have hc : cdv = .ref c := hc
  exact fn_of lk hcd S (spD_len hms) fun A outer s H vs Q E hr h => def_body hz S hms (fun c' P' e => by cases e; exact ⟨hc, TB, hP⟩) hb A outer s H vs Q E hr h
/-- .. that may be called while an exception is handled -/
theorem def_hot {G : GG} {x : Str} {params : Arguments} {body : List Stmt} {scope : Scope} {f : Addr} {fd : FuncData} {N ps : List Str} {k : Nat} {ms : List Md} {t : Env → So} (F : FunD G.K x x params body scope [] [] f fd) (hg : G.mg x = some (.ref f)) (S : FnScope N ps scope) (hms : ms.length = ps.length) (hbi : Binds G.K fd ps [])
    (hb : ∀ h, PDSs ⟨G.at_ h, N, scope, k, fun _ => true, none, true, true⟩ body t) : DefHot G x (k + 1) N.length ms (semOf N.length ms t) := by
  refine ⟨f, fd, ps, hg, F.kp, hbi, F.ok S (spD_len hms) fun cdv A outer s H vs Q E hr q => def_body (G := G.at_ none) rfl S hms (fun c P e => by cases e) (hb none) A outer s H vs Q E hr q, fun h => ?_⟩
  obtain ⟨oc, od, dV, kV, doc, pm, an, cdv, ct, osl, rfl, lk, hcd, _, _⟩ := F.ex
  exact HotE.fn_ofE (Pp := HxOk (G.at_ h)) lk hcd S (spD_len hms) fun A outer s H vs Q E p hP hot hr q => def_bodyH (G := G.at_ h) S hms (hb h) A outer s H vs Q E p hP hot hr q
end PL
end
section
set_option Elab.async false
set_option linter.all false
set_option maxRecDepth 100000
set_option maxHeartbeats 2000000
set_option autoImplicit false
/-! try: body, except X as n: suite; isinstance of what is handled. -/
namespace PL
open PySem PySem.Spec PyProof.Rows L2

/-! ### isinstance(error, X) -/
def excCB (K : PySem.W.Frag) (D : Addr) : Bool :=
  He.eqO (PySem.W.findIn K (.ref D) "__getattribute__") (some (some (.builtin "BaseException.__getattribute__"))) && (He.eqO (PySem.W.findIn K (.ref D) "__getattr__") (some none) &&
  (decide (PySem.W.subIn K (.ref D) (.type "BaseException") = some true) && (decide (PySem.W.hasDictIn K D = true) &&
  (He.eqO (PySem.W.findIn K (.ref D) "__class__") (some (some (.builtin "object.__class__"))) && (He.eqO (PySem.W.specialIn K (.builtin "object.__class__") "__get__") (some (some (.builtin "getset_descriptor.__get__"))) &&
  (decide (PySem.W.takesIn K (.builtin "object.__class__") = some true) && decide (PySem.W.mroIn K D (.type "object") = some true)))))))
theorem excCB_ok {K : PySem.W.Frag} {D : Addr} (h : excCB K D = true) : ExcC K D := by
  simp only [excCB, Bool.and_eq_true, decide_eq_true_eq] at h
  obtain ⟨h1, h2, h3, h4, h5, h6, h7, h8⟩ := h
  exact ⟨He.eqO_ok h1, He.eqO_ok h2, h3, h4, He.eqO_ok h5, He.eqO_ok h6, h7, h8⟩
/-- isinstance of an exception of each of the listed classes against what the name x holds -/
structure IsE (G : GG) (x : Str) (tbl : List (Str × Bool)) : Prop where
  ex : ∃ (c : V) (cv : Value), (∀ u, RelV c u → u = cv) ∧ RelV c cv ∧ (G.mg x = some cv ∨ (G.mg x = none ∧ bootBuiltins x = some cv ∧ x ≠ "__name__")) ∧ ∀ q ∈ tbl, ExcC G.K (G.cls q.1) ∧ PySem.W.kitOne G.K (.ref (G.cls q.1)) cv = some q.2
def isEB (K : PySem.W.Frag) (cv : Value) (tbl : List (Str × Bool)) : Bool := tbl.all fun q => excCB K (He.ga K q.1) && decide (PySem.W.kitOne K (.ref (He.ga K q.1)) cv = some q.2)
theorem isEB_ok {G : GG} (hc : G.cls = He.ga G.K) {cv : Value} {tbl : List (Str × Bool)} (h : isEB G.K cv tbl = true) : ∀ q ∈ tbl, ExcC G.K (G.cls q.1) ∧ PySem.W.kitOne G.K (.ref (G.cls q.1)) cv = some q.2 := fun q hq => by
  have z := List.all_eq_true.mp h q hq
  simp only [Bool.and_eq_true, decide_eq_true_eq] at z
  rw [hc]
  exact ⟨excCB_ok z.1, z.2⟩
/-- .. against an own class -/
theorem isE_own {G : GG} (hc : G.cls = He.ga G.K) {x : Str} {tbl : List (Str × Bool)} (e : G.mg x = some (.ref (G.cls x))) (h : isEB G.K (.ref (He.ga G.K x)) tbl = true) : IsE G x tbl :=
  ⟨.ref (G.cls x), .ref (G.cls x), fun _ r => r, rfl, .inl e, isEB_ok hc (by rw [hc]; exact h)⟩
/-- .. against a built-in class -/
theorem isE_blt {G : GG} (hc : G.cls = He.ga G.K) {x : Str} {Tn : String} {tbl : List (Str × Bool)} (hm : G.mg x = none) (hb : bootBuiltins x = some (.type Tn)) (hx : x ≠ "__name__") (h : isEB G.K (.type Tn) tbl = true) : IsE G x tbl :=
  ⟨.ty Tn, .type Tn, fun _ r => r, rfl, .inr ⟨hm, hb, hx⟩, isEB_ok hc h⟩
theorem IsE.to {G : GG} {x : Str} {tbl : List (Str × Bool)} (h : IsE G x tbl) (q : Option (Addr × Str)) : IsE (G.at_ q) x tbl := ⟨h.ex⟩
theorem ExcD.to {G : GG} {x : Str} (h : ExcD G x) (q : Option (Addr × Str)) : ExcD (G.at_ q) x := ⟨h.in_, h.mg, h.kp, h.sub, h.ty⟩
def erS : Option Sl → Option Str
  | some (.er c) => some c
  | _ => none
def isEO (tbl : List (Str × Bool)) (ρ : Env) : Option Str → R W
  | some c => (match tbl.lookup c with
    | some b => .ok (.val (.bool b)) ρ
    | none => .bad)
  | none => .bad
def eIsE (tbl : List (Str × Bool)) (i : Nat) : Env → R W := fun ρ => isEO tbl ρ (erS ρ[i]?)
theorem mem_of_lookup' {α β : Type} [BEq α] [LawfulBEq α] {a : α} {b : β} : ∀ {l : List (α × β)}, l.lookup a = some b → (a, b) ∈ l
  | [], h => by cases h
  | (x, y) :: l, h => by
    rw [List.lookup_cons] at h
    by_cases e : (a == x) = true
    · rw [e] at h
      have h : some y = some b := h
      cases h
      rw [eq_of_beq e]
      exact List.mem_cons_self
    · rw [Bool.not_eq_true] at e
      rw [e] at h
      exact List.mem_cons_of_mem _ (mem_of_lookup' h)
theorem pd_isE {C : Ct} {i : Nat} {y x : Str} {tbl : List (Str × Bool)} {p p1 p2 pos : Pos} (hx : IsE C.G x tbl) (hg : glB C.sc "isinstance" = true) (hm : C.G.mg "isinstance" = none) (hgx : glB C.sc x = true) (hy : nmB C.N C.sc i y = true)
    (he : ∀ env, starEach [.Name y p1, .Name x p2] env = (false, eval (.Name y p1) env) :: starEach [.Name x p2] env := by intro _; rfl) : PD C (.Call (.Name "isinstance" p) [.Name y p1, .Name x p2] [] pos) (eIsE tbl i) := by
  intro X Wx ok
  obtain ⟨h1, h2, h3, h4⟩ := nmB_spec hy
  obtain ⟨c, cv, hcv, rcv, hnm, hall⟩ := hx.ex
  -- hot, or calm: calm cannot be, since the slot says which exception is handled
  have pc : PE X (.Name x p2) (fun σ H Q => Q c H) := by
    rcases hnm with hnm | ⟨n1, n2, n3⟩
    · exact pe_glob (ok.gl hgx) (by rw [ok.mg]; exact hnm) rcv (glB_spec hgx).2.1
    · exact pe_bltn (ok.gl hgx) (by rw [ok.mg]; exact n1) n2 rcv n3 (glB_spec hgx).2.1
  have base : ∀ (r : List V → Hp → VK → Prop), CallR X (.builtin "isinstance") r → PE X (.Call (.Name "isinstance" p) [.Name y p1, .Name x p2] [] pos) (fun σ H Q => ∃ v, σ[i]? = some (some v) ∧ r [v, c] H Q) := fun r hr =>
    PE.to (pe_callB hr (ok.gl hg) (by rw [ok.mg]; exact hm) (by decide +kernel : bootBuiltins "isinstance" = some (.builtin "isinstance")) (pa_cons (pe_var (i := i) (by rw [ok.hN]; exact h1) (by rw [ok.hsc]; exact h2) h3 h4) (pa_cons pc pa_nil) (he _)) (by decide) (by decide) (he _)) fun σ H Q ⟨v, hv, q⟩ => ⟨v, hv, q⟩
  refine ⟨fun pins s σ H Q I h => ?_⟩
  obtain ⟨T, F, ρ, en, pp⟩ := h
  unfold eIsE isEO at pp
  split at pp <;> try (exact pp.elim)
  rename_i k ek
  split at pp <;> try (exact pp.elim)
  rename_i b eb
  have es : ρ[i]? = some (.er k) := by
    unfold erS at ek
    split at ek
    · rename_i c' e'; cases ek; exact e'
    · cases ek
  obtain ⟨a, ev, q1⟩ := en.at_ i _ es
  obtain ⟨z1, z2⟩ := hall (k, b) (mem_of_lookup' eb)
  rcases ok.way with ⟨w1, w2, w3⟩ | ⟨_, P, hot, hp, hP⟩
  · rw [w3] at q1; cases q1
  · obtain ⟨e1, e2, e3⟩ := hP a k q1
    have hf : ∃ vs, P.2.data = .fields vs := hot.2.imp fun _ z => z.1
    refine (base _ (HotE.call_isP (D := C.G.cls k) (by rw [ok.K]; exact z1) hp e2 e3 hf)).run pins s σ H Q I ⟨.ref a, join_ref ev, c, cv, b, by rw [e1], hcv, by rw [ok.K]; exact z2, RPost.here en pp _ (repW_val rep_bl)⟩
/-! ### try -/
def Sl.clean : Sl → Sl
  | .er _ => .un
  | s => s
def clean (ρ : Env) : Env := ρ.map Sl.clean
def sTryE (i : Nat) : So → So
  | .nx ρ => .nx ((clean ρ).set i .un)
  | .bk ρ => .bk ((clean ρ).set i .un)
  | .ct ρ => .ct ((clean ρ).set i .un)
  | .rt w ρ => .rt w (clean ρ)
  | _ => .bad
def sTryK (i : Nat) (hs : List Str) (fs : Env → So) : So → So
  | .exc c ρ => if c ∈ hs then (if i < ρ.length then sTryE i (fs ((clean ρ).set i (.er c))) else .bad) else .bad
  | o => o
def sTry (i : Nat) (hs : List Str) (fb fs : Env → So) : Env → So := fun ρ => sTryK i hs fs (fb ρ)
theorem HpOk.to {G : GG} {F H : Hp} (h : HpOk G F H) (q : Option (Addr × Str)) : HpOk (G.at_ q) F H := ⟨h.sub, h.nt, h.tab⟩
theorem clean_own {s : Sl} : s.clean.own = true → s.own = true := by cases s <;> exact id
theorem clean_eq {s : Sl} (h : s.own = true) : s.clean = s := by cases s <;> first | rfl | cases h
section
variable {G : GG} {T : Fm} {F H : Hp} {σ : L2.St} {ρ : Env}
theorem owns_clean {a : Addr} : Owns σ (clean ρ) a → Owns σ ρ a := fun ⟨i, s, e1, e2, e3⟩ => by
  unfold clean at e1
  rw [List.getElem?_map] at e1
  cases e : ρ[i]? with
  | none => rw [e] at e1; cases e1
  | some t =>
    rw [e] at e1
    have e1 : t.clean = s := Option.some.inj e1
    subst e1
    exact ⟨i, t, e, clean_own e2, e3⟩
theorem EnvOk.clean (en : EnvOk G T F H σ ρ) (q : Option (Addr × Str)) : EnvOk (G.at_ q) T F H σ (clean ρ) := by
  have back : ∀ (i : Nat) (s : Sl), (PL.clean ρ)[i]? = some s → ∃ t, ρ[i]? = some t ∧ t.clean = s := fun i s e => by
    unfold PL.clean at e
    rw [List.getElem?_map] at e
    cases z : ρ[i]? with
    | none => rw [z] at e; cases e
    | some t => rw [z] at e; exact ⟨t, rfl, Option.some.inj e⟩
  refine ⟨en.hp.to q, en.live0, by rw [PL.clean, List.length_map]; exact en.len, fun i s e => ?_, fun i j a s t e1 o1 e2 o2 s1 s2 => ?_⟩
  · obtain ⟨t, e1, rfl⟩ := back i s e
    have z := en.at_ i t e1
    cases t <;> first | exact trivial | exact z
  · obtain ⟨s', f1, rfl⟩ := back i s e1
    obtain ⟨t', f2, rfl⟩ := back j t e2
    exact en.sep i j a s' t' f1 (clean_own o1) f2 (clean_own o2) s1 s2
theorem EnvOk.setS {i : Nat} {ov : Option V} {s : Sl} (en : EnvOk G T F H σ ρ) (hi : i < ρ.length) (ho : s.own = false) (ok : SlOk G T F H ov s) : EnvOk G T F H (σ.set i ov) (ρ.set i s) ∧ ∀ a, Owns (σ.set i ov) (ρ.set i s) a → Owns σ ρ a := by
  have hi' : i < σ.length := by rw [en.len]; exact hi
  have old : ∀ (j : Nat) (t : Sl), (ρ.set i s)[j]? = some t → t.own = true → j ≠ i ∧ ρ[j]? = some t := fun j t e o => by
    rw [get_set hi] at e
    split at e
    · rename_i q; cases e; rw [ho] at o; cases o
    · rename_i q; exact ⟨q, e⟩
  refine ⟨⟨en.hp, en.live0, by rw [List.length_set, List.length_set]; exact en.len, fun j t e => ?_, fun j k a t u e1 o1 e2 o2 s1 s2 => ?_⟩, fun a ⟨j, t, e1, e2, e3⟩ => ?_⟩
  · rw [get_set hi] at e
    split at e
    · rename_i q
      subst q
      cases e
      rw [List.getElem?_set_self hi']
      exact ok
    · rename_i q
      rw [List.getElem?_set_ne (Ne.symm q)]
      exact en.at_ j t e
  · obtain ⟨n1, f1⟩ := old j t e1 o1
    obtain ⟨n2, f2⟩ := old k u e2 o2
    rw [List.getElem?_set_ne (Ne.symm n1)] at s1
    rw [List.getElem?_set_ne (Ne.symm n2)] at s2
    exact en.sep j k a t u f1 o1 f2 o2 s1 s2
  · obtain ⟨n1, f1⟩ := old j t e1 e2
    rw [List.getElem?_set_ne (Ne.symm n1)] at e3
    exact ⟨j, t, f1, e2, e3⟩
theorem RepT.clean {v : V} {w : W} {q : Option (Addr × Str)} (h : RepT (G.at_ q) T F H σ ρ v w) : RepT G T F H σ (clean ρ) v w := by
  cases w with
  | own i => exact h
  | o x =>
    obtain ⟨A, h1, h2, h3⟩ := h
    exact ⟨A, h1, h2, fun a ha => ⟨(h3 a ha).1, fun z => (h3 a ha).2 (owns_clean z)⟩⟩
end
abbrev Ct.suite (C : Ct) (a : Addr) (c : Str) : Ct := { C with G := C.G.at_ (some (a, c)), hot := true, tab := none }
theorem PSs.ex {X : Cx} {st : List Stmt} {ι : Type} {P : ι → Prop} {t : ι → TS} (h : ∀ i, P i → PSs X st (t i)) : PSs X st (fun D σ H => ∃ i, P i ∧ t i D σ H) :=
  ⟨fun pins s σ H D I ⟨i, hp, q⟩ => (h i hp).run pins s σ H D I q⟩
def tryB (C : Ct) (i : Nat) (n : Str) : Bool := C.N[i]? == some n && C.sc.names.lookup n == some .local
theorem pds_try {C : Ct} {x n : Str} {i : Nat} {hs : List Str} {body suite : List Stmt} {b₀ : Stmt} {np pos pos' : Pos} {fb fs : Env → So} (hh : C.hot = false) (ht : C.top = true) (hi : tryB C i n = true) (hg : glB C.sc x = true) (hm : C.G.mg x = some (.ref (C.G.cls x)))
    (hexm : ∀ c ∈ hs, PySem.W.exmOne C.G.K (.ref (C.G.cls c)) (.ref (C.G.cls x)) = some true) (hb : PDSs C body fb) (hsu : ∀ a c, PDSs (C.suite a c) (b₀ :: suite) fs) :
    PDS C (.Try body [.ExceptHandler (some (.Name x np)) (some n) (b₀ :: suite) pos'] [] [] pos) (sTry i hs fb fs) := by
  intro X Wx ok
  simp only [tryB, Bool.and_eq_true, beq_iff_eq] at hi
  obtain ⟨st, fr⟩ := ok.top ht
  have room := ok.room hh
  refine PS.to (L2N.ps_try_as (i := i) (c := .ref (C.G.cls x)) (ts := fun a cls d D σ H => ∃ c, (cls = .ref (C.G.cls c) ∧ d = none) ∧ tS (C.G.at_ (some (a, c))) (fun _ _ _ _ => False) fs D σ H) (tb := fun W => tS C.G W fb) st fr ok.nodup
    (by rw [ok.hN]; exact hi.1) (by show X.env.scope.names.lookup n = _; rw [ok.hsc]; exact hi.2) ⟨ok.gl hg, (glB_spec hg).2.1, .inl (by rw [ok.mg]; exact hm)⟩ ok.takes
    (fun W pn xe tk po => hb _ W ⟨ok.hN, ok.hsc, ok.nd, .inl ⟨ok.calm hh, room, ok.hx0 hh⟩, ok.prog, ok.w, ok.K, ok.mg, ok.base, ok.roomH, tk, po, ok.fn, ok.cod, ok.top⟩)
    (fun a oe cls d pn hz hf => PSs.ex fun c ⟨hc, hd⟩ => hsu a c _ _ ⟨ok.hN, ok.hsc, ok.nd, .inr ⟨rfl, (a, oe), ⟨rfl, ?_⟩, List.mem_cons_self, fun a' c' e => ?_⟩, ok.prog, ok.w, ok.K, ok.mg, ok.base, ⟨ok.roomH.dp, ok.roomH.un⟩, takesN, PassesOwn.never, ok.fn, fun _ _ e => (by cases e), ok.top⟩)) ?_
  · obtain ⟨vs, hv⟩ := hf
    exact ⟨vs, hv, hz.2.2 vs hv⟩
  · cases e
    exact ⟨rfl, hz.1.trans hc, hz.2.1.trans hd⟩
  rintro Dn σ H ⟨T, F, ρ, en, pp⟩
  refine ⟨T, F, ρ, en, ?_⟩
  unfold sTry at pp
  cases ef : fb ρ with
  | bad => rw [ef] at pp; exact pp.elim
  | nx ρ' => rw [ef] at pp; exact pp
  | bk ρ' => rw [ef] at pp; exact pp
  | ct ρ' => rw [ef] at pp; exact pp
  | rt w ρ' => rw [ef] at pp; exact pp
  | exc c ρ' =>
    rw [ef] at pp
    simp only [sTryK] at pp
    split at pp
    case isFalse => exact pp.elim
    rename_i hc
    split at pp
    case isFalse => exact pp.elim
    rename_i hl
    intro σ1 F1 H1 e1 en1 g1
    refine ⟨true, by rw [ok.K]; exact hexm c hc, fun _ a ha => ⟨c, ⟨rfl, rfl⟩, ?_⟩, fun z => nomatch z⟩
    have enc := en1.clean (some (a, c))
    obtain ⟨en2, l2⟩ := enc.setS (i := i) (ov := some (V.ref a)) (s := .er c) (by rw [clean, List.length_map]; exact hl) rfl ⟨a, rfl, rfl⟩
    refine ⟨T, F1, _, en2, ?_⟩
    have own1 : ∀ b, Owns (σ1.set i (some (V.ref a))) ((clean ρ').set i (.er c)) b → Owns σ ρ b ∨ H b = none := fun b z => g1 b (owns_clean (l2 b z))
    have gr : ∀ {σ2 : L2.St} {r : Env} {b : Addr}, Grow H1 (σ1.set i (some (V.ref a))) ((clean ρ').set i (.er c)) σ2 r → Owns σ2 r b → Owns σ ρ b ∨ H b = none := fun {σ2 r b} g z => by
      rcases g b z with z | z
      · exact own1 b z
      · right
        exact Classical.byContradiction fun y => e1.live b y z
    have back : ∀ {σ2 : L2.St} {r : Env} {F2 H2 : Hp}, EnvOk (C.G.at_ (some (a, c))) T F2 H2 σ2 r → i < r.length → EnvOk C.G T F2 H2 (σ2.set i none) ((clean r).set i .un) ∧ ∀ b, Owns (σ2.set i none) ((clean r).set i .un) b → Owns σ2 r b := fun {σ2 r F2 H2} en3 hlr => by
      obtain ⟨k1, k2⟩ := (EnvOk.clean en3 C.G.hx).setS (i := i) (ov := none) (s := .un) (by rw [clean, List.length_map]; exact hlr) rfl trivial
      exact ⟨k1, fun b z => owns_clean (k2 b z)⟩
    have il : ∀ {σ2 : L2.St} {r : Env} {F2 H2 : Hp}, EnvOk (C.G.at_ (some (a, c))) T F2 H2 σ2 r → i ≥ r.length → (clean r).set i .un = clean r ∧ σ2.set i none = σ2 := fun {σ2 r F2 H2} en3 hlr => ⟨List.set_eq_of_length_le (by rw [clean, List.length_map]; omega), List.set_eq_of_length_le (by rw [en3.len]; omega)⟩
    have back2 : ∀ {σ2 : L2.St} {r : Env} {F2 H2 : Hp}, EnvOk (C.G.at_ (some (a, c))) T F2 H2 σ2 r → EnvOk C.G T F2 H2 (σ2.set i none) ((clean r).set i .un) ∧ ∀ b, Owns (σ2.set i none) ((clean r).set i .un) b → Owns σ2 r b := fun {σ2 r F2 H2} en3 => by
      by_cases hlr : i < r.length
      · exact back en3 hlr
      · obtain ⟨k1, k2⟩ := il en3 (by omega)
        rw [k1, k2]
        exact ⟨EnvOk.clean en3 C.G.hx, fun b z => owns_clean z⟩
    cases es : fs ((clean ρ').set i (.er c)) with
    | bad => rw [es] at pp; exact pp.elim
    | exc c' r => rw [es] at pp; exact pp.elim
    | nx r =>
      rw [es] at pp
      intro σ2 F2 H2 e2 en3 g2
      obtain ⟨k1, k2⟩ := back2 en3
      exact pp _ F2 H2 (e1.trans e2 own1) k1 fun b z => gr g2 (k2 b z)
    | bk r =>
      rw [es] at pp
      intro σ2 F2 H2 e2 en3 g2
      obtain ⟨k1, k2⟩ := back2 en3
      exact pp _ F2 H2 (e1.trans e2 own1) k1 fun b z => gr g2 (k2 b z)
    | ct r =>
      rw [es] at pp
      intro σ2 F2 H2 e2 en3 g2
      obtain ⟨k1, k2⟩ := back2 en3
      exact pp _ F2 H2 (e1.trans e2 own1) k1 fun b z => gr g2 (k2 b z)
    | rt w r =>
      rw [es] at pp
      intro σ2 F2 H2 v e2 en3 g2 rv
      exact pp σ2 F2 H2 v (e1.trans e2 own1) (EnvOk.clean en3 C.G.hx) (fun b z => gr g2 (owns_clean z)) (RepT.clean rv)
end PL
end
section
set_option Elab.async false
set_option linter.all false
set_option maxRecDepth 100000
set_option maxHeartbeats 2000000
set_option autoImplicit false
/-! From the facts of the head to the layer, and the law's end. -/
namespace PL
open PySem PySem.Spec PyProof.Rows L2

/-! ### data of the written part -/
mutual
def repB (K : PySem.W.Frag) : D → Value → Bool
  | .none, .none => true
  | .bool b, .bool c => b == c
  | .int i, .int j _ => i == j
  | .str x, .str y _ => x == y && strB x
  | .tuple ds, .ref a => (match K.lookup a with
    | some ⟨.type c, _, .seq its _, _⟩ => decide (c = "tuple") && decide (its.size ≤ sizeLine) && repsB K ds its.toList
    | _ => false)
  | _, _ => false
def repsB (K : PySem.W.Frag) : List D → List Value → Bool
  | [], [] => true
  | d :: ds, v :: vs => repB K d v && repsB K ds vs
  | _, _ => false
end
theorem strB_spec {x : Str} (h : strB x = true) : x.length ≤ sizeLine ∧ PyData.strOk x = true := by
  have h' := Bool.and_eq_true_iff.mp h
  exact ⟨of_decide_eq_true h'.1, h'.2⟩
mutual
theorem repB_ok {K : PySem.W.Frag} : ∀ {d : D} {u : Value}, repB K d u = true → ∃ v, RelV v u ∧ Rep K (fun _ => Option.none) d v
  | .none, u, h => by
    cases u <;> try (simp [repB] at h; done)
    exact ⟨.non, rfl, by rw [Rep]⟩
  | .bool b, u, h => by
    cases u <;> try (simp [repB] at h; done)
    simp [repB] at h
    subst h
    exact ⟨.bl b, rfl, by rw [Rep]⟩
  | .int i, u, h => by
    cases u <;> try (simp [repB] at h; done)
    simp [repB] at h
    subst h
    exact ⟨.int i, ⟨_, rfl⟩, by rw [Rep]⟩
  | .str x, u, h => by
    cases u <;> try (simp [repB] at h; done)
    simp [repB] at h
    obtain ⟨rfl, h2⟩ := h
    obtain ⟨h3, h4⟩ := strB_spec h2
    exact ⟨.str x, ⟨_, rfl⟩, by rw [Rep]; exact ⟨rfl, h3, h4⟩⟩
  | .list xs, u, h => by cases u <;> simp [repB] at h
  | .dict xs, u, h => by cases u <;> simp [repB] at h
  | .tuple ds, u, h => by
    cases u <;> try (simp [repB] at h; done)
    rename_i a
    unfold repB at h
    split at h <;> try (cases h; done)
    rename_i c od its n sl e
    obtain ⟨h1, h2⟩ := Bool.and_eq_true_iff.mp h
    obtain ⟨h3, h4⟩ := Bool.and_eq_true_iff.mp h1
    obtain ⟨vs, r1, r2⟩ := repsB_ok h2
    have hc : c = "tuple" := of_decide_eq_true h3
    have hz : its.size ≤ sizeLine := of_decide_eq_true h4
    subst hc
    have hlen := r1.length
    refine ⟨.ref a, rfl, ?_⟩
    rw [Rep]
    exact ⟨a, vs, rfl, .inr ⟨_, its, n, e, rfl, rfl, hz, r1⟩, by rw [hlen, Array.length_toList]; exact hz, r2⟩
theorem repsB_ok {K : PySem.W.Frag} : ∀ {ds : List D} {us : List Value}, repsB K ds us = true → ∃ vs, Vals vs us ∧ Reps K (fun _ => Option.none) ds vs
  | [], [], _ => ⟨[], .nil, reps_nil⟩
  | [], _ :: _, h => by cases h
  | _ :: _, [], h => by cases h
  | d :: ds, u :: us, h => by
    unfold repsB at h
    obtain ⟨h1, h2⟩ := Bool.and_eq_true_iff.mp h
    obtain ⟨v, r1, r2⟩ := repB_ok h1
    obtain ⟨vs, r3, r4⟩ := repsB_ok h2
    exact ⟨v :: vs, .cons r1 r3, reps_cons r2 r4⟩
end
/-- the constant x of the module is d -/
def glB' (K : PySem.W.Frag) (x : Str) (d : D) : Bool := match PySem.W.nsIn K mainGlobals x with
  | some (some u) => repB K d u
  | _ => false
theorem glB'_ok {G : GG} {h : Heap} (X : G.K.In h) (Gn : h.Ns mainGlobals G.mg) {x : Str} {d : D} (c : glB' G.K x d = true) : GlD G x d := by
  unfold glB' at c
  split at c <;> try (cases c; done)
  rename_i u e
  obtain ⟨v, r1, r2⟩ := repB_ok c
  exact ⟨v, u, PySem.W.mg_of X Gn e, r1, r2⟩
/-- the name x of the module is that value -/
def glV' (K : PySem.W.Frag) (x : Str) (v : Value) : Bool := He.eqO (PySem.W.nsIn K mainGlobals x) (some (some v))
theorem glV'_ok {G : GG} {h : Heap} (X : G.K.In h) (Gn : h.Ns mainGlobals G.mg) {x : Str} {v : Value} (c : glV' G.K x v = true) : G.mg x = some v := PySem.W.mg_of X Gn (He.eqO_ok c)
theorem excD_of {G : GG} {h : Heap} (X : G.K.In h) (Gn : h.Ns mainGlobals G.mg) (hc : G.cls = He.ga G.K) {x : Str} (c : (He.Fa.exc x).ok G.K = true) (g : (He.Fa.glo x).ok G.K = true) : ExcD G x := by
  obtain ⟨h1, h2, h3, h4⟩ := He.exc_ok c
  exact ⟨by rw [hc]; exact h1, by rw [hc]; exact He.glo_ok X Gn g, by rw [hc]; exact h2, by rw [hc]; exact h3, by rw [hc]; exact h4⟩

/-! ### the law's end -/
def spLaw (K : PySem.W.Frag) (cs : List (Addr × Addr)) : Sp := fun vs H Q _ => ∃ (a : Addr) (ns : List Int), vs = [.ref a] ∧ SqL K H a (ns.map V.int) ∧ ns.length ≤ 63 ∧ (∀ z ∈ ns, Builtin.Int.intBits z ≤ 1048576) ∧ (∀ p ∈ cs, H p.2 = some (.tbl #[])) ∧ ∀ H', Q (.bl true) H'
/-- the plain law: at every script it answers True -/
def Plain (sem : DefSem) : Prop := ∀ ns : List Int, ns.length ≤ 63 → (∀ z ∈ ns, Builtin.Int.intBits z ≤ 1048576) → sem [.list (ns.map PyData.int)] = .ret (.fz (.bool true)) []
theorem law_sp {G : GG} {cs : List (Addr × Addr)} {sem : DefSem} (hp : Plain sem) (htb : ∀ P ∈ G.tb, ∃ p ∈ cs, p.2 = P) (vs : List V) (H : Hp) (Q : VK) (E : XK) (h : spLaw G.K cs vs H Q E) : spD G [.sc] sem vs H Q E := by
  obtain ⟨a, ns, rfl, hs, hl, hb, ht, q⟩ := h
  have tabs : ∀ P ∈ G.tb, GxR.TabG H P := fun P hP => by
    obtain ⟨p, hp1, rfl⟩ := htb P hP
    exact ⟨#[], ht p hp1, trivial⟩
  have fin : ∀ F : Hp, HpOk G F H → SqL G.K F a (ns.map V.int) → spD G [.sc] sem [.ref a] H Q E := fun F hF hq => by
    refine ⟨F, [.list (ns.map PyData.int)], [], hF, ⟨ns, [], a, [], rfl, rfl, hq, hl, rfl, rfl, rfl⟩, List.nodup_nil, ?_⟩
    rw [hp ns hl hb]
    rintro F' H' v A x hp' ⟨_, r⟩ _ _ _
    rw [Rep] at r
    subst r
    exact q H'
  rcases hs with (h | ⟨o, h⟩) | h
  · refine fin (fun b => if b = a then H a else none) ⟨fun b o e => ?_, fun b ps e => ?_, tabs⟩ (.inl (.inl ?_))
    · split at e
      · rename_i z; rw [z]; exact e
      · cases e
    · split at e
      · rw [h] at e; cases e
      · cases e
    · show (if a = a then H a else none) = _
      rw [if_pos rfl]; exact h
  · refine fin (fun b => if b = a then H a else none) ⟨fun b o e => ?_, fun b ps e => ?_, tabs⟩ (.inl (.inr ⟨o, ?_⟩))
    · split at e
      · rename_i z; rw [z]; exact e
      · cases e
    · split at e
      · rw [h] at e; cases e
      · cases e
    · show (if a = a then H a else none) = _
      rw [if_pos rfl]; exact h
  · exact fin (fun _ => none) ⟨fun b o e => (nomatch e), fun b ps e => (nomatch e), tabs⟩ (.inr h)
theorem law_at {l : PySem.W.OpenLaw} {w : World} {K : PySem.W.Frag} {mg : Str → Option Value} {fa : Addr} {h : Heap} {cs : List (Addr × Addr)} {sem : DefSem} {fd : FuncData} {k : Nat} {x : Str} (hT : ∀ p ∈ cs, h.get? p.2 = some { cls := .none, data := .fields #[] }) (nT : ∀ p ∈ cs, K.lookup p.2 = none)
    (C : ∀ p ∈ cs, PySem.W.CodeHd h p.1 p.2) (hb : ∀ (s : Shared) (u : Value), BindsTo s fd ⟨[u], []⟩ [(x, u)]) (hp : Plain sem)
    (hd : ∀ base : Heap, K.In base → base.Ns mainGlobals mg → (∀ p ∈ cs, GxR.TabB base mg p.1 p.2) → ∃ G : GG, G.P = l.prog ∧ G.w = w ∧ G.K = K ∧ G.mg = mg ∧ G.base = base ∧ (∀ P ∈ G.tb, ∃ p ∈ cs, p.2 = P) ∧ DefOk G k fa fd [x] [.sc] sem) : LamX.LawAtS l w K (L2N.CX l.prog w) k 63 x mg fa h := by
  refine ⟨fd, cs, spLaw K cs, hT, nT, C, hb, fun H a ns hl hbits hH hS => ⟨a, ns, rfl, hS, hl, hbits, hH, fun _ => rfl⟩, fun base KB NB TB => ?_⟩
  obtain ⟨G, e1, e2, e3, e4, e5, htb, F⟩ := hd base KB NB fun p hp => ⟨(TB p hp).code, (TB p hp).bm, (TB p hp).gP⟩
  rw [← e1, ← e2, ← e3, ← e4, ← e5]
  exact F.imp fun vs H Q E z => law_sp hp htb vs H Q E z
theorem code_ref {K : PySem.W.Frag} {x : Str} {params : Arguments} {body : List Stmt} {scope : Scope} {f : Addr} {fd : FuncData} (F : FunD K x x params body scope [] [] f fd) : ∃ c, fd.code = .ref c := by
  obtain ⟨oc, od, dV, kV, doc, pm, an, cdv, ct, osl, rfl, lk, hcd, _, _⟩ := F.ex
  exact He.codeIn_ref hcd
theorem code_eq {K : PySem.W.Frag} {x : Str} {p : He.Defn} {params : Arguments} {body : List Stmt} {scope : Scope} {f c : Addr} {fd : FuncData} (F : FunD K x x params body scope [] [] f fd) (hf : f = He.fAd K p) (hc : fd.code = .ref c) : (He.cT K p).1 = c := by
  obtain ⟨oc, od, dV, kV, doc, pm, an, cdv, ct, osl, _, lk, hcd, _, _⟩ := F.ex
  subst hf
  exact He.codeOf_eq lk hc
theorem def_ok {G : GG} {x : Str} {params : Arguments} {body : List Stmt} {scope : Scope} {f : Addr} {fd : FuncData} {N ps : List Str} {k : Nat} {ms : List Md} {t : Env → So} (F : FunD G.K x x params body scope [] [] f fd) (S : FnScope N ps scope) (hms : ms.length = ps.length)
    (hb : PDSs ⟨G, N, scope, k, fun _ => true, none, false, true⟩ body t) (hz : G.hx = none := by rfl) : DefOk G (k + 1) f fd ps ms (semOf N.length ms t) :=
  F.ok S (spD_len hms) fun cdv A outer s H vs Q E hr h => def_body hz S hms (fun c P e => by cases e) hb A outer s H vs Q E hr h
theorem cx_none {P : Program} {w : World} {H : Hp} {s : Shared} {e : Value} {s' : Shared} (h : L2N.CX P w [] H s (fun _ _ _ => False) e s') : False := by
  obtain ⟨_, _, _, _, _, _, _, _, _, _, _, _, z⟩ := h
  exact z
end PL
end
section
set_option Elab.async false
set_option linter.all false
set_option maxRecDepth 100000
set_option maxHeartbeats 2000000
set_option autoImplicit false
/-! Plain evaluation: what the readings are worth at environments written out. -/
namespace PL
open PySem L2

section
variable {α β : Type}
@[simp] theorem bind_ite {c : Prop} [Decidable c] (a b : R α) (k : α → Env → R β) : (if c then a else b).bind k = if c then a.bind k else b.bind k := by split <;> rfl
@[simp] theorem so_ite {c : Prop} [Decidable c] (a b : R α) (k : α → Env → So) : (if c then a else b).so k = if c then a.so k else b.so k := by split <;> rfl
end
@[simp] theorem seq_nx (ρ : Env) (g : Env → So) : (So.nx ρ).seq g = g ρ := rfl
@[simp] theorem seq_bk (ρ : Env) (g : Env → So) : (So.bk ρ).seq g = .bk ρ := rfl
@[simp] theorem seq_ct (ρ : Env) (g : Env → So) : (So.ct ρ).seq g = .ct ρ := rfl
@[simp] theorem seq_rt (w : W) (ρ : Env) (g : Env → So) : (So.rt w ρ).seq g = .rt w ρ := rfl
@[simp] theorem seq_exc (c : Str) (ρ : Env) (g : Env → So) : (So.exc c ρ).seq g = .exc c ρ := rfl
@[simp] theorem seq_bad (g : Env → So) : So.bad.seq g = .bad := rfl
@[simp] theorem seq_ite {c : Prop} [Decidable c] (a b : So) (g : Env → So) : (if c then a else b).seq g = if c then a.seq g else b.seq g := by split <;> rfl
@[simp] theorem ev_seq (f g : Env → So) (s : Sl) (ρ : Env) : sSeq f g (s :: ρ) = (f (s :: ρ)).seq g := rfl
@[simp] theorem ev_nx (ρ : Env) : sNx ρ = .nx ρ := rfl
@[simp] theorem ev_bk (ρ : Env) : sBk ρ = .bk ρ := rfl
@[simp] theorem ev_ct (ρ : Env) : sCt ρ = .ct ρ := rfl
/-! the ends of a def -/
@[simp] theorem out_nx (ms : List Md) (ρ : Env) : outOf ms (.nx ρ) = mkRet (.fz .none) (iosOf ms 0 0 ρ) := rfl
@[simp] theorem out_rt (ms : List Md) (x : O) (ρ : Env) : outOf ms (.rt (.o x) ρ) = mkRet x (iosOf ms 0 0 ρ) := rfl
def ownR (ms : List Md) (ρ : Env) : Option Sl → DOut
  | some (.fl xs) => mkRet (.fl xs) (iosOf ms 0 0 ρ)
  | _ => .bad
@[simp] theorem out_own (ms : List Md) (i : Nat) (ρ : Env) : outOf ms (.rt (.own i) ρ) = ownR ms ρ ρ[i]? := by
  show (match ρ[i]? with | some (.fl xs) => mkRet (.fl xs) (iosOf ms 0 0 ρ) | _ => DOut.bad) = _
  cases h : ρ[i]? with
  | none => rfl
  | some s => cases s <;> rfl
@[simp] theorem ownR_fl (ms : List Md) (ρ : Env) (xs : List D) : ownR ms ρ (some (.fl xs)) = mkRet (.fl xs) (iosOf ms 0 0 ρ) := rfl
@[simp] theorem out_exc (ms : List Md) (c : Str) (ρ : Env) : outOf ms (.exc c ρ) = mkExc c (iosOf ms 0 0 ρ) := rfl
@[simp] theorem out_bad (ms : List Md) : outOf ms .bad = .bad := rfl
@[simp] theorem out_ite {c : Prop} [Decidable c] (ms : List Md) (a b : So) : outOf ms (if c then a else b) = if c then outOf ms a else outOf ms b := by split <;> rfl
@[simp] theorem mkRet_some (o : O) (outs : List (List D)) : mkRet o (some outs) = .ret o outs := rfl
@[simp] theorem mkExc_some (c : Str) (outs : List (List D)) : mkExc c (some outs) = .exc c outs := rfl
@[simp] theorem ios_nil (i j : Nat) (ρ : Env) : iosOf [] i j ρ = some [] := rfl
@[simp] theorem ios_d (ms : List Md) (i j : Nat) (ρ : Env) : iosOf (.d :: ms) i j ρ = iosOf ms (i + 1) j ρ := rfl
@[simp] theorem ios_sc (ms : List Md) (i j : Nat) (ρ : Env) : iosOf (.sc :: ms) i j ρ = iosOf ms (i + 1) j ρ := rfl
def ioK (j : Nat) (r : Option (List (List D))) : Option Sl → Option (List (List D))
  | some (.io j' xs) => if j' = j then (match r with
      | some r => some (xs :: r)
      | none => none) else none
  | _ => none
@[simp] theorem ios_io (ms : List Md) (i j : Nat) (ρ : Env) : iosOf (.io :: ms) i j ρ = ioK j (iosOf ms (i + 1) (j + 1) ρ) ρ[i]? := by
  conv => lhs; unfold iosOf
  cases h : ρ[i]? with
  | none => rfl
  | some s => cases s <;> rfl
@[simp] theorem ioK_io (j : Nat) (r : List (List D)) (xs : List D) : ioK j (some r) (some (.io j xs)) = some (xs :: r) := by
  unfold ioK
  simp
/-! values -/
def varR (i : Nat) (ρ : Env) : Option Sl → R W
  | some (.fz d) => .ok (.val d) ρ
  | some (.fl _) => .ok (.own i) ρ
  | some (.io _ _) => .ok (.own i) ρ
  | _ => .bad
@[simp] theorem ev_var (i : Nat) (s : Sl) (ρ : Env) : eVar i (s :: ρ) = varR i (s :: ρ) (s :: ρ)[i]? := by
  unfold eVar
  cases h : (s :: ρ)[i]? with
  | none => rfl
  | some s => cases s <;> rfl
@[simp] theorem varR_fz (i : Nat) (ρ : Env) (d : D) : varR i ρ (some (.fz d)) = .ok (.val d) ρ := rfl
@[simp] theorem varR_fl (i : Nat) (ρ : Env) (xs : List D) : varR i ρ (some (.fl xs)) = .ok (.own i) ρ := rfl
@[simp] theorem varR_io (i j : Nat) (ρ : Env) (xs : List D) : varR i ρ (some (.io j xs)) = .ok (.own i) ρ := rfl
@[simp] theorem ev_c (d : D) (ρ : Env) : eC d ρ = .ok (.val d) ρ := rfl
def nrmK (w : W) (ρ : Env) : R W := .ok w.nrm ρ
@[simp] theorem nrmK_o (x : O) (ρ : Env) : nrmK (.o x) ρ = .ok (.val x.dat) ρ := rfl
@[simp] theorem nrmK_own (i : Nat) (ρ : Env) : nrmK (.own i) ρ = .ok (.own i) ρ := rfl
@[simp] theorem ev_nrm (f : Env → R W) (s : Sl) (ρ : Env) : eNrm f (s :: ρ) = (f (s :: ρ)).bind nrmK := rfl
@[simp] theorem odat_fz (d : D) : O.dat (.fz d) = d := rfl
@[simp] theorem odat_fl (xs : List D) : O.dat (.fl xs) = .list xs := rfl
@[simp] theorem odat_tp (ps : List P1) : O.dat (.tp ps) = .tuple (ps.map P1.dat) := rfl
@[simp] theorem wdat_o (ρ : Env) (x : O) : W.dat ρ (.o x) = some x.dat := rfl
@[simp] theorem wdat_own (s : Sl) (ρ : Env) (i : Nat) : W.dat (s :: ρ) (.own i) = ((s :: ρ)[i]?).bind Sl.dat := rfl
@[simp] theorem sdat_fz (d : D) : Sl.dat (.fz d) = some d := rfl
@[simp] theorem sdat_fl (xs : List D) : Sl.dat (.fl xs) = some (.list xs) := rfl
@[simp] theorem sdat_io (j : Nat) (xs : List D) : Sl.dat (.io j xs) = some (.list xs) := rfl
@[simp] theorem bind_some {α β : Type} (a : α) (f : α → Option β) : (some a).bind f = f a := rfl
def fzS (i : Nat) (ρ : Env) : Option Sl → R W
  | some (.fl xs) => .ok (.val (.list xs)) (ρ.set i (.fz (.list xs)))
  | some (.fz d) => .ok (.val d) ρ
  | _ => .bad
@[simp] theorem fz1_o (x : O) (ρ : Env) : fz1 (.o x) ρ = .ok (.o x) ρ := rfl
@[simp] theorem fz1_own (i : Nat) (s : Sl) (ρ : Env) : fz1 (.own i) (s :: ρ) = fzS i (s :: ρ) (s :: ρ)[i]? := by
  show (match (s :: ρ)[i]? with | some (.fl xs) => R.ok (W.val (.list xs)) ((s :: ρ).set i (.fz (.list xs))) | some (.fz d) => .ok (W.val d) (s :: ρ) | _ => .bad) = _
  cases h : (s :: ρ)[i]? with
  | none => rfl
  | some s => cases s <;> rfl
@[simp] theorem fzS_fl (i : Nat) (ρ : Env) (xs : List D) : fzS i ρ (some (.fl xs)) = .ok (.val (.list xs)) (ρ.set i (.fz (.list xs))) := rfl
@[simp] theorem fzS_fz (i : Nat) (ρ : Env) (d : D) : fzS i ρ (some (.fz d)) = .ok (.val d) ρ := rfl
@[simp] theorem ev_fz (f : Env → R W) (s : Sl) (ρ : Env) : eFz f (s :: ρ) = ((f (s :: ρ)).bind nrmK).bind fz1 := rfl
@[simp] theorem outP_fz (d : D) (ρ : Env) : outP (some (.fz d)) ρ = .ok (.val d) ρ := rfl
@[simp] theorem outP_fl (xs : List D) (ρ : Env) : outP (some (.fl xs)) ρ = .ok (.o (.fl xs)) ρ := rfl
@[simp] theorem outP_none (ρ : Env) : outP none ρ = .bad := rfl
@[simp] theorem outP_ite {c : Prop} [Decidable c] (a b : Option P1) (ρ : Env) : outP (if c then a else b) ρ = if c then outP a ρ else outP b ρ := by split <;> rfl
def on2 (g : D → D → Option P1) (ρ : Env) : Option D → Option D → R W
  | some a, some b => outP (g a b) ρ
  | _, _ => .bad
@[simp] theorem on2_some (g : D → D → Option P1) (ρ : Env) (a b : D) : on2 g ρ (some a) (some b) = outP (g a b) ρ := rfl
def bin3 (g : D → D → Option P1) (wa wb : W) (ρ : Env) : R W := match wa.dat ρ, wb.dat ρ with
  | some a, some b => outP (g a b) ρ
  | _, _ => .bad
def bin2 (g : D → D → Option P1) (fb : Env → R W) (wa : W) (ρ : Env) : R W := (eNrm fb ρ).bind (bin3 g wa)
@[simp] theorem ev_bin (g : D → D → Option P1) (fa fb : Env → R W) (s : Sl) (ρ : Env) : eBin g fa fb (s :: ρ) = ((fa (s :: ρ)).bind nrmK).bind (bin2 g fb) := rfl
@[simp] theorem ev_bin2 (g : D → D → Option P1) (fb : Env → R W) (wa : W) (s : Sl) (ρ : Env) : bin2 g fb wa (s :: ρ) = ((fb (s :: ρ)).bind nrmK).bind (bin3 g wa) := rfl
@[simp] theorem ev_bin3 (g : D → D → Option P1) (wa wb : W) (s : Sl) (ρ : Env) : bin3 g wa wb (s :: ρ) = on2 g (s :: ρ) (wa.dat (s :: ρ)) (wb.dat (s :: ρ)) := by
  unfold bin3 on2
  rfl
def un2 (g : D → Option P1) (wa : W) (ρ : Env) : R W := match wa.dat ρ with
  | some a => outP (g a) ρ
  | _ => .bad
def on1 (g : D → Option P1) (ρ : Env) : Option D → R W
  | some a => outP (g a) ρ
  | none => .bad
@[simp] theorem on1_some (g : D → Option P1) (ρ : Env) (a : D) : on1 g ρ (some a) = outP (g a) ρ := rfl
@[simp] theorem ev_un (g : D → Option P1) (fa : Env → R W) (s : Sl) (ρ : Env) : eUn g fa (s :: ρ) = ((fa (s :: ρ)).bind nrmK).bind (un2 g) := rfl
@[simp] theorem ev_un2 (g : D → Option P1) (wa : W) (s : Sl) (ρ : Env) : un2 g wa (s :: ρ) = on1 g (s :: ρ) (wa.dat (s :: ρ)) := by
  unfold un2
  cases W.dat (s :: ρ) wa <;> rfl
/-! chains -/
def onB (x y : R W) : Option Bool → R W
  | some true => x
  | some false => y
  | none => .bad
@[simp] theorem onB_some (x y : R W) (b : Bool) : onB x y (some b) = if b = true then x else y := by cases b <;> rfl
@[simp] theorem boolP_b (b : Bool) : boolP (some (.fz (.bool b))) = some b := rfl
def ch3K (g : D → D → Option P1) (wb wc : W) (ρ : Env) : R W := on2 g ρ (wb.dat ρ) (wc.dat ρ)
def ch2D (g g' : D → D → Option P1) (fc : Env → R W) (wb : W) (ρ : Env) : Option D → Option D → R W
  | some a, some b => onB ((eNrm fc ρ).bind (ch3K g' wb)) (.ok (.val (.bool false)) ρ) (boolP (g a b))
  | _, _ => .bad
@[simp] theorem ch2D_some (g g' : D → D → Option P1) (fc : Env → R W) (wb : W) (ρ : Env) (a b : D) : ch2D g g' fc wb ρ (some a) (some b) = onB ((eNrm fc ρ).bind (ch3K g' wb)) (.ok (.val (.bool false)) ρ) (boolP (g a b)) := rfl
def ch2K (g g' : D → D → Option P1) (fc : Env → R W) (wa wb : W) (ρ : Env) : R W := ch2D g g' fc wb ρ (wa.dat ρ) (wb.dat ρ)
def ch1K (g g' : D → D → Option P1) (fb fc : Env → R W) (wa : W) (ρ : Env) : R W := (eNrm fb ρ).bind (ch2K g g' fc wa)
theorem ev_ch2' (g g' : D → D → Option P1) (fa fb fc : Env → R W) (ρ : Env) : eCh2 g g' fa fb fc ρ = (eNrm fa ρ).bind (ch1K g g' fb fc) := by
  unfold eCh2
  congr 1
@[simp] theorem ev_ch2 (g g' : D → D → Option P1) (fa fb fc : Env → R W) (s : Sl) (ρ : Env) : eCh2 g g' fa fb fc (s :: ρ) = ((fa (s :: ρ)).bind nrmK).bind (ch1K g g' fb fc) := ev_ch2' g g' fa fb fc (s :: ρ)
@[simp] theorem ev_ch1K (g g' : D → D → Option P1) (fb fc : Env → R W) (wa : W) (s : Sl) (ρ : Env) : ch1K g g' fb fc wa (s :: ρ) = ((fb (s :: ρ)).bind nrmK).bind (ch2K g g' fc wa) := rfl
@[simp] theorem ev_ch2K (g g' : D → D → Option P1) (fc : Env → R W) (wa wb : W) (s : Sl) (ρ : Env) : ch2K g g' fc wa wb (s :: ρ) = ch2D g g' fc wb (s :: ρ) (wa.dat (s :: ρ)) (wb.dat (s :: ρ)) := rfl
@[simp] theorem ev_ch3K (g : D → D → Option P1) (wb wc : W) (s : Sl) (ρ : Env) : ch3K g wb wc (s :: ρ) = on2 g (s :: ρ) (wb.dat (s :: ρ)) (wc.dat (s :: ρ)) := rfl
/-! arguments, calls of built-ins, displays -/
def consK (ws : W) (rs : List W) (ρ : Env) : R (List W) := .ok (ws :: rs) ρ
@[simp] theorem consK_ok (w : W) (rs : List W) (ρ : Env) : consK w rs ρ = .ok (w :: rs) ρ := rfl
def consR (r : Env → R (List W)) (w : W) (ρ : Env) : R (List W) := (r ρ).bind (consK w)
@[simp] theorem ev_anil (ρ : Env) : aNil ρ = .ok [] ρ := rfl
@[simp] theorem ev_acons (f : Env → R W) (r : Env → R (List W)) (s : Sl) (ρ : Env) : aCons f r (s :: ρ) = (f (s :: ρ)).bind (consR r) := rfl
@[simp] theorem ev_consR (r : Env → R (List W)) (w : W) (s : Sl) (ρ : Env) : consR r w (s :: ρ) = (r (s :: ρ)).bind (consK w) := rfl
@[simp] theorem datAll_nil (ρ : Env) : datAll ρ [] = some [] := rfl
@[simp] theorem datAll_cons_o (ρ : Env) (x : O) (ws : List W) : datAll ρ (.o x :: ws) = (datAll ρ ws).map (x.dat :: ·) := by
  show (match W.dat ρ (.o x), datAll ρ ws with | some d, some ds => some (d :: ds) | _, _ => none) = _
  cases datAll ρ ws <;> rfl
@[simp] theorem datAll_cons_own (s : Sl) (ρ : Env) (i : Nat) (ws : List W) : datAll (s :: ρ) (.own i :: ws) = (((s :: ρ)[i]?).bind Sl.dat).bind fun d => (datAll (s :: ρ) ws).map (d :: ·) := by
  show (match W.dat (s :: ρ) (.own i), datAll (s :: ρ) ws with | some d, some ds => some (d :: ds) | _, _ => none) = _
  rw [wdat_own]
  cases ((s :: ρ)[i]?).bind Sl.dat <;> cases datAll (s :: ρ) ws <;> rfl
def onN (g : List D → Option P1) (ρ : Env) : Option (List D) → R W
  | some ds => outP (g ds) ρ
  | none => .bad
@[simp] theorem onN_some (g : List D → Option P1) (ρ : Env) (ds : List D) : onN g ρ (some ds) = outP (g ds) ρ := rfl
def nK (g : List D → Option P1) (ws : List W) (ρ : Env) : R W := onN g ρ (datAll ρ ws)
@[simp] theorem ev_nK (g : List D → Option P1) (ws : List W) (s : Sl) (ρ : Env) : nK g ws (s :: ρ) = onN g (s :: ρ) (datAll (s :: ρ) ws) := rfl
@[simp] theorem ev_n (g : List D → Option P1) (fa : Env → R (List W)) (s : Sl) (ρ : Env) : eN g fa (s :: ρ) = (fa (s :: ρ)).bind (nK g) := by
  unfold eN
  congr 1
@[simp] theorem valAll_nil : valAll [] = some [] := rfl
@[simp] theorem valAll_cons (d : D) (ws : List W) : valAll (.o (.fz d) :: ws) = (valAll ws).map (d :: ·) := by
  show (match valAll ws with | some ds => some (d :: ds) | none => none) = _
  cases valAll ws <;> rfl
def tupR (ρ : Env) : Option (List D) → R W
  | some ds => if ds.length ≤ sizeLine then .ok (.val (.tuple ds)) ρ else .bad
  | none => .bad
def tupK (ws : List W) (ρ : Env) : R W := tupR ρ (valAll ws)
@[simp] theorem ev_tup (fa : Env → R (List W)) (s : Sl) (ρ : Env) : eTup fa (s :: ρ) = (fa (s :: ρ)).bind tupK := by
  unfold eTup
  congr 1
@[simp] theorem ev_tupK (ws : List W) (s : Sl) (ρ : Env) : tupK ws (s :: ρ) = tupR (s :: ρ) (valAll ws) := rfl
@[simp] theorem tupR_some (ρ : Env) (ds : List D) : tupR ρ (some ds) = if ds.length ≤ sizeLine then .ok (.val (.tuple ds)) ρ else .bad := rfl
def lstR (ρ : Env) : Option (List D) → R W
  | some ds => if ds.length ≤ sizeLine then .ok (.o (.fl ds)) ρ else .bad
  | none => .bad
def lstK (ws : List W) (ρ : Env) : R W := lstR ρ (valAll ws)
@[simp] theorem ev_lst (fa : Env → R (List W)) (s : Sl) (ρ : Env) : eLst fa (s :: ρ) = (fa (s :: ρ)).bind lstK := by
  unfold eLst
  congr 1
@[simp] theorem ev_lstK (ws : List W) (s : Sl) (ρ : Env) : lstK ws (s :: ρ) = lstR (s :: ρ) (valAll ws) := rfl
@[simp] theorem lstR_some (ρ : Env) (ds : List D) : lstR ρ (some ds) = if ds.length ≤ sizeLine then .ok (.o (.fl ds)) ρ else .bad := rfl
theorem small_line {n : Nat} (h : n ≤ 1000) : n ≤ sizeLine := Nat.le_trans h (by decide)
@[simp] theorem line0 : (0 ≤ sizeLine) = True := by simp
/-! tests -/
def bolR (ρ : Env) : Option D → R Bool
  | some (.bool b) => .ok b ρ
  | _ => .bad
@[simp] theorem bolR_b (ρ : Env) (b : Bool) : bolR ρ (some (.bool b)) = .ok b ρ := rfl
theorem boolW_eq (w : W) (ρ : Env) : boolW w ρ = bolR ρ (w.dat ρ) := by
  unfold boolW
  cases W.dat ρ w with
  | none => rfl
  | some d => cases d <;> rfl
@[simp] theorem ev_boolW (w : W) (s : Sl) (ρ : Env) : boolW w (s :: ρ) = bolR (s :: ρ) (w.dat (s :: ρ)) := boolW_eq w (s :: ρ)
@[simp] theorem ev_tstB (f : Env → R W) (s : Sl) (ρ : Env) : tstB f (s :: ρ) = ((f (s :: ρ)).bind nrmK).bind boolW := rfl
def truR (ρ : Env) : Option D → R Bool
  | some d => .ok (truD d) ρ
  | none => .bad
@[simp] theorem truR_b (ρ : Env) (d : D) : truR ρ (some d) = .ok (truD d) ρ := rfl
@[simp] theorem ev_truW (w : W) (s : Sl) (ρ : Env) : truW w (s :: ρ) = truR (s :: ρ) (w.dat (s :: ρ)) := by
  unfold truW
  cases W.dat (s :: ρ) w <;> rfl
@[simp] theorem ev_tstV (f : Env → R W) (s : Sl) (ρ : Env) : tstV f (s :: ρ) = ((f (s :: ρ)).bind nrmK).bind truW := rfl
@[simp] theorem truD_b (b : Bool) : truD (.bool b) = b := rfl
def andK (g : Env → R Bool) (b : Bool) (ρ : Env) : R Bool := if b = true then g ρ else .ok false ρ
def orK (g : Env → R Bool) (b : Bool) (ρ : Env) : R Bool := if b = true then .ok true ρ else g ρ
def notK (b : Bool) (ρ : Env) : R Bool := .ok (!b) ρ
@[simp] theorem ev_andS (f g : Env → R Bool) (s : Sl) (ρ : Env) : tAndS f g (s :: ρ) = (f (s :: ρ)).bind (andK g) := rfl
@[simp] theorem ev_orS (f g : Env → R Bool) (s : Sl) (ρ : Env) : tOrS f g (s :: ρ) = (f (s :: ρ)).bind (orK g) := rfl
@[simp] theorem ev_notS (f : Env → R Bool) (s : Sl) (ρ : Env) : tNotS f (s :: ρ) = (f (s :: ρ)).bind notK := rfl
@[simp] theorem ev_andK (g : Env → R Bool) (b : Bool) (s : Sl) (ρ : Env) : andK g b (s :: ρ) = if b = true then g (s :: ρ) else .ok false (s :: ρ) := rfl
@[simp] theorem ev_orK (g : Env → R Bool) (b : Bool) (s : Sl) (ρ : Env) : orK g b (s :: ρ) = if b = true then .ok true (s :: ρ) else g (s :: ρ) := rfl
@[simp] theorem ev_notK (b : Bool) (ρ : Env) : notK b ρ = .ok (!b) ρ := rfl
def andBK (g : Env → R W) (b : Bool) (ρ : Env) : R W := if b = true then g ρ else .ok (.val (.bool false)) ρ
def orBK (g : Env → R W) (b : Bool) (ρ : Env) : R W := if b = true then .ok (.val (.bool true)) ρ else g ρ
def notBK (b : Bool) (ρ : Env) : R W := .ok (.val (.bool (!b))) ρ
def ifK (f g : Env → R W) (b : Bool) (ρ : Env) : R W := if b = true then f ρ else g ρ
@[simp] theorem ev_andB (f g : Env → R W) (s : Sl) (ρ : Env) : eAndB f g (s :: ρ) = (((f (s :: ρ)).bind nrmK).bind boolW).bind (andBK g) := rfl
@[simp] theorem ev_orB (f g : Env → R W) (s : Sl) (ρ : Env) : eOrB f g (s :: ρ) = (((f (s :: ρ)).bind nrmK).bind boolW).bind (orBK g) := rfl
@[simp] theorem ev_notB (f : Env → R W) (s : Sl) (ρ : Env) : eNotB f (s :: ρ) = (((f (s :: ρ)).bind nrmK).bind boolW).bind notBK := rfl
@[simp] theorem ev_if (c : Env → R Bool) (f g : Env → R W) (s : Sl) (ρ : Env) : eIf c f g (s :: ρ) = (c (s :: ρ)).bind (ifK f g) := rfl
@[simp] theorem ev_andBK (g : Env → R W) (b : Bool) (s : Sl) (ρ : Env) : andBK g b (s :: ρ) = if b = true then g (s :: ρ) else .ok (.val (.bool false)) (s :: ρ) := rfl
@[simp] theorem ev_orBK (g : Env → R W) (b : Bool) (s : Sl) (ρ : Env) : orBK g b (s :: ρ) = if b = true then .ok (.val (.bool true)) (s :: ρ) else g (s :: ρ) := rfl
@[simp] theorem ev_notBK (b : Bool) (ρ : Env) : notBK b ρ = .ok (.val (.bool (!b))) ρ := rfl
@[simp] theorem ev_ifK (f g : Env → R W) (b : Bool) (s : Sl) (ρ : Env) : ifK f g b (s :: ρ) = if b = true then f (s :: ρ) else g (s :: ρ) := rfl
def isiR (Tn : String) (ρ : Env) : Option D → R W
  | some d => .ok (.val (.bool (isiD Tn d))) ρ
  | none => .bad
def isiK (Tn : String) (w : W) (ρ : Env) : R W := isiR Tn ρ (w.dat ρ)
@[simp] theorem isiR_some (Tn : String) (ρ : Env) (d : D) : isiR Tn ρ (some d) = .ok (.val (.bool (isiD Tn d))) ρ := rfl
@[simp] theorem ev_isi (Tn : String) (f : Env → R W) (s : Sl) (ρ : Env) : eIsi Tn f (s :: ρ) = ((f (s :: ρ)).bind nrmK).bind (isiK Tn) := by
  unfold eIsi
  show (eNrm f (s :: ρ)).bind _ = (eNrm f (s :: ρ)).bind _
  congr 1
@[simp] theorem ev_isiK (Tn : String) (w : W) (s : Sl) (ρ : Env) : isiK Tn w (s :: ρ) = isiR Tn (s :: ρ) (w.dat (s :: ρ)) := rfl
/-! slices -/
@[simp] theorem ev_oNone (ρ : Env) : oNone ρ = .ok none ρ := rfl
def oR (ρ : Env) : Option D → R (Option Int)
  | some (.int i) => .ok (some i) ρ
  | _ => .bad
def oK (w : W) (ρ : Env) : R (Option Int) := oR ρ (w.dat ρ)
@[simp] theorem oR_int (ρ : Env) (i : Int) : oR ρ (some (.int i)) = .ok (some i) ρ := rfl
@[simp] theorem ev_oSome (f : Env → R W) (s : Sl) (ρ : Env) : oSome f (s :: ρ) = ((f (s :: ρ)).bind nrmK).bind oK := by
  unfold oSome
  show (eNrm f (s :: ρ)).bind _ = (eNrm f (s :: ρ)).bind _
  congr 1
@[simp] theorem ev_oK (w : W) (s : Sl) (ρ : Env) : oK w (s :: ρ) = oR (s :: ρ) (w.dat (s :: ρ)) := rfl
def slR (lo hi : Option Int) (ρ : Env) : Option D → R W
  | some a => outP (slD a lo hi) ρ
  | none => .bad
def slK3 (wa : W) (lo hi : Option Int) (ρ : Env) : R W := slR lo hi ρ (wa.dat ρ)
def slK2 (fh : Env → R (Option Int)) (wa : W) (lo : Option Int) (ρ : Env) : R W := (fh ρ).bind (slK3 wa lo)
def slK1 (fl fh : Env → R (Option Int)) (wa : W) (ρ : Env) : R W := (fl ρ).bind (slK2 fh wa)
@[simp] theorem slR_some (lo hi : Option Int) (ρ : Env) (a : D) : slR lo hi ρ (some a) = outP (slD a lo hi) ρ := rfl
@[simp] theorem ev_sl (fa : Env → R W) (fl fh : Env → R (Option Int)) (s : Sl) (ρ : Env) : eSl fa fl fh (s :: ρ) = ((fa (s :: ρ)).bind nrmK).bind (slK1 fl fh) := by
  unfold eSl
  show (eNrm fa (s :: ρ)).bind _ = (eNrm fa (s :: ρ)).bind _
  congr 1
@[simp] theorem ev_slK1 (fl fh : Env → R (Option Int)) (wa : W) (s : Sl) (ρ : Env) : slK1 fl fh wa (s :: ρ) = (fl (s :: ρ)).bind (slK2 fh wa) := rfl
@[simp] theorem ev_slK2 (fh : Env → R (Option Int)) (wa : W) (lo : Option Int) (s : Sl) (ρ : Env) : slK2 fh wa lo (s :: ρ) = (fh (s :: ρ)).bind (slK3 wa lo) := rfl
@[simp] theorem ev_slK3 (wa : W) (lo hi : Option Int) (s : Sl) (ρ : Env) : slK3 wa lo hi (s :: ρ) = slR lo hi (s :: ρ) (wa.dat (s :: ρ)) := rfl
/-! sources -/
def itK (w : W) (ρ : Env) : R (List D) := itW w ρ
@[simp] theorem itW_l (ds : List D) (ρ : Env) : itW (.val (.list ds)) ρ = .ok ds ρ := rfl
@[simp] theorem itW_t (ds : List D) (ρ : Env) : itW (.val (.tuple ds)) ρ = .ok ds ρ := rfl
@[simp] theorem ev_iSq (f : Env → R W) (s : Sl) (ρ : Env) : iSq f (s :: ρ) = (((f (s :: ρ)).bind nrmK).bind fz1).bind itW := rfl
def r1R (ρ : Env) : Option (List D) → R (List D)
  | some [.int j] => if inR j = true then .ok (rngI 0 j) ρ else .bad
  | _ => .bad
def r1K (ws : List W) (ρ : Env) : R (List D) := r1R ρ (datAll ρ ws)
@[simp] theorem r1R_some (ρ : Env) (j : Int) : r1R ρ (some [.int j]) = if inR j = true then .ok (rngI 0 j) ρ else .bad := rfl
@[simp] theorem ev_iR1 (fa : Env → R (List W)) (s : Sl) (ρ : Env) : iR1 fa (s :: ρ) = (fa (s :: ρ)).bind r1K := by
  unfold iR1
  congr 1
@[simp] theorem ev_r1K (ws : List W) (s : Sl) (ρ : Env) : r1K ws (s :: ρ) = r1R (s :: ρ) (datAll (s :: ρ) ws) := rfl
def r2R (ρ : Env) : Option (List D) → R (List D)
  | some [.int i, .int j] => if (inR i && inR j) = true then .ok (rngI i j) ρ else .bad
  | _ => .bad
def r2K (ws : List W) (ρ : Env) : R (List D) := r2R ρ (datAll ρ ws)
@[simp] theorem r2R_some (ρ : Env) (i j : Int) : r2R ρ (some [.int i, .int j]) = if (inR i && inR j) = true then .ok (rngI i j) ρ else .bad := rfl
@[simp] theorem ev_iR2 (fa : Env → R (List W)) (s : Sl) (ρ : Env) : iR2 fa (s :: ρ) = (fa (s :: ρ)).bind r2K := by
  unfold iR2
  congr 1
@[simp] theorem ev_r2K (ws : List W) (s : Sl) (ρ : Env) : r2K ws (s :: ρ) = r2R (s :: ρ) (datAll (s :: ρ) ws) := rfl
/-! statements -/
def ifSK (f g : Env → So) (b : Bool) (ρ : Env) : So := if b = true then f ρ else g ρ
@[simp] theorem ev_sIf (c : Env → R Bool) (f g : Env → So) (s : Sl) (ρ : Env) : sIf c f g (s :: ρ) = (c (s :: ρ)).so (ifSK f g) := rfl
@[simp] theorem ev_ifSK (f g : Env → So) (b : Bool) (s : Sl) (ρ : Env) : ifSK f g b (s :: ρ) = if b = true then f (s :: ρ) else g (s :: ρ) := rfl
def dropK (w : W) (ρ : Env) : So := .nx ρ
@[simp] theorem ev_drop (f : Env → R W) (s : Sl) (ρ : Env) : sDrop f (s :: ρ) = (f (s :: ρ)).so dropK := rfl
@[simp] theorem ev_dropK (w : W) (ρ : Env) : dropK w ρ = .nx ρ := rfl
def retK (w : W) (ρ : Env) : So := .rt w ρ
@[simp] theorem ev_ret (f : Env → R W) (s : Sl) (ρ : Env) : sRet f (s :: ρ) = (f (s :: ρ)).so retK := rfl
@[simp] theorem ev_retK (w : W) (ρ : Env) : retK w ρ = .rt w ρ := rfl
@[simp] theorem ev_retN (ρ : Env) : sRetN ρ = .rt (.val .none) ρ := rfl
@[simp] theorem ev_raise (c : Str) (ρ : Env) : sRaise c ρ = .exc c ρ := rfl
@[simp] theorem ev_set (i : Nat) (f : Env → R W) (s : Sl) (ρ : Env) : sSet i f (s :: ρ) = (((f (s :: ρ)).bind nrmK).bind fz1).so (stFz i) := rfl
@[simp] theorem stFz_fz (i : Nat) (d : D) (s : Sl) (ρ : Env) : stFz i (.val d) (s :: ρ) = if i < (s :: ρ).length then .nx ((s :: ρ).set i (.fz d)) else .bad := rfl
@[simp] theorem ev_own (i : Nat) (f : Env → R W) (s : Sl) (ρ : Env) : sOwn i f (s :: ρ) = (f (s :: ρ)).so (stOw i) := rfl
@[simp] theorem stOw_fl (i : Nat) (xs : List D) (s : Sl) (ρ : Env) : stOw i (.o (.fl xs)) (s :: ρ) = if i < (s :: ρ).length then .nx ((s :: ρ).set i (.fl xs)) else .bad := rfl
@[simp] theorem ev_sUn (gs : List TgD) (f : Env → R W) (s : Sl) (ρ : Env) : sUn gs f (s :: ρ) = ((f (s :: ρ)).bind nrmK).so (stUn gs) := rfl
def unE : Option Env → So
  | some ρ' => .nx ρ'
  | none => .bad
def unR (gs : List TgD) (ρ : Env) : Option D → So
  | some d => unE (gT gs d ρ)
  | none => .bad
@[simp] theorem ev_stUn (gs : List TgD) (w : W) (s : Sl) (ρ : Env) : stUn gs w (s :: ρ) = unR gs (s :: ρ) (w.dat (s :: ρ)) := by
  unfold stUn unR
  cases W.dat (s :: ρ) w with
  | none => rfl
  | some d =>
    show (match gT gs d (s :: ρ) with | some ρ' => So.nx ρ' | none => .bad) = unE (gT gs d (s :: ρ))
    cases gT gs d (s :: ρ) <;> rfl
@[simp] theorem unR_some (gs : List TgD) (ρ : Env) (d : D) : unR gs ρ (some d) = unE (gT gs d ρ) := rfl
@[simp] theorem unE_some (ρ : Env) : unE (some ρ) = .nx ρ := rfl
@[simp] theorem gT_t (gs : List TgD) (ds : List D) (ρ : Env) : gT gs (.tuple ds) ρ = gAll gs ds ρ := rfl
@[simp] theorem gT_l (gs : List TgD) (ds : List D) (ρ : Env) : gT gs (.list ds) ρ = gAll gs ds ρ := rfl
@[simp] theorem gAll_nil (ρ : Env) : gAll [] [] ρ = some ρ := rfl
@[simp] theorem gAll_cons (g : TgD) (gs : List TgD) (d : D) (ds : List D) (ρ : Env) : gAll (g :: gs) (d :: ds) ρ = (g d ρ).bind (gAll gs ds) := by
  show (match g d ρ with | some ρ1 => gAll gs ds ρ1 | none => none) = _
  cases g d ρ <;> rfl
@[simp] theorem gN_eq (i : Nat) (d : D) (s : Sl) (ρ : Env) : gN i d (s :: ρ) = if i < (s :: ρ).length then some ((s :: ρ).set i (.fz d)) else none := rfl
/-! loops -/
@[simp] theorem ev_for (fi : Env → R (List D)) (g : TgD) (tb : Env → So) (s : Sl) (ρ : Env) : sFor fi g tb (s :: ρ) = (fi (s :: ρ)).so (forD g tb) := rfl
def forO (g : TgD) (tb : Env → So) (ds : List D) : So → So
  | .nx ρ => forD g tb ds ρ
  | .ct ρ => forD g tb ds ρ
  | .bk ρ => .nx ρ
  | .rt w ρ => .rt w ρ
  | .exc c ρ => .exc c ρ
  | .bad => .bad
def forT (g : TgD) (tb : Env → So) (ds : List D) : Option Env → So
  | some ρ => forO g tb ds (tb ρ)
  | none => .bad
theorem forD_nil (g : TgD) (tb : Env → So) (ρ : Env) : forD g tb [] ρ = .nx ρ := rfl
theorem forD_cons (g : TgD) (tb : Env → So) (d : D) (ds : List D) (ρ : Env) : forD g tb (d :: ds) ρ = forT g tb ds (g d ρ) := by
  show (match g d ρ with
    | none => So.bad
    | some ρ1 => match tb ρ1 with
      | .nx ρ2 => forD g tb ds ρ2
      | .ct ρ2 => forD g tb ds ρ2
      | .bk ρ2 => .nx ρ2
      | .rt w ρ2 => .rt w ρ2
      | .exc c ρ2 => .exc c ρ2
      | .bad => .bad) = _
  cases g d ρ with
  | none => rfl
  | some ρ1 =>
    show (match tb ρ1 with
      | .nx ρ2 => forD g tb ds ρ2
      | .ct ρ2 => forD g tb ds ρ2
      | .bk ρ2 => .nx ρ2
      | .rt w ρ2 => .rt w ρ2
      | .exc c ρ2 => .exc c ρ2
      | .bad => .bad) = forO g tb ds (tb ρ1)
    cases tb ρ1 <;> rfl
@[simp] theorem forT_some (g : TgD) (tb : Env → So) (ds : List D) (ρ : Env) : forT g tb ds (some ρ) = forO g tb ds (tb ρ) := rfl
@[simp] theorem forO_nx (g : TgD) (tb : Env → So) (ds : List D) (ρ : Env) : forO g tb ds (.nx ρ) = forD g tb ds ρ := rfl
@[simp] theorem forO_ct (g : TgD) (tb : Env → So) (ds : List D) (ρ : Env) : forO g tb ds (.ct ρ) = forD g tb ds ρ := rfl
@[simp] theorem forO_bk (g : TgD) (tb : Env → So) (ds : List D) (ρ : Env) : forO g tb ds (.bk ρ) = .nx ρ := rfl
@[simp] theorem forO_rt (g : TgD) (tb : Env → So) (ds : List D) (w : W) (ρ : Env) : forO g tb ds (.rt w ρ) = .rt w ρ := rfl
@[simp] theorem forO_exc (g : TgD) (tb : Env → So) (ds : List D) (c : Str) (ρ : Env) : forO g tb ds (.exc c ρ) = .exc c ρ := rfl
@[simp] theorem forO_bad (g : TgD) (tb : Env → So) (ds : List D) : forO g tb ds .bad = .bad := rfl
@[simp] theorem forO_ite {c : Prop} [Decidable c] (g : TgD) (tb : Env → So) (ds : List D) (a b : So) : forO g tb ds (if c then a else b) = if c then forO g tb ds a else forO g tb ds b := by split <;> rfl
def whO (c : Env → R Bool) (tb : Env → So) (n : Nat) : So → So
  | .nx ρ => whileD c tb n ρ
  | .ct ρ => whileD c tb n ρ
  | .bk ρ => .nx ρ
  | .rt w ρ => .rt w ρ
  | .exc c ρ => .exc c ρ
  | .bad => .bad
def whK (c : Env → R Bool) (tb : Env → So) (n : Nat) (b : Bool) (ρ : Env) : So := if b = true then whO c tb n (tb ρ) else .nx ρ
theorem while_succ (c : Env → R Bool) (tb : Env → So) (n : Nat) (ρ : Env) : whileD c tb (n + 1) ρ = (c ρ).so (whK c tb n) := by
  conv => lhs; unfold whileD
  congr 1
@[simp] theorem ev_while (fu : Env → Nat) (c : Env → R Bool) (tb : Env → So) (s : Sl) (ρ : Env) : sWhile fu c tb (s :: ρ) = whileD c tb (fu (s :: ρ)) (s :: ρ) := rfl
@[simp] theorem ev_whK (c : Env → R Bool) (tb : Env → So) (n : Nat) (b : Bool) (s : Sl) (ρ : Env) : whK c tb n b (s :: ρ) = if b = true then whO c tb n (tb (s :: ρ)) else .nx (s :: ρ) := rfl
@[simp] theorem whO_nx (c : Env → R Bool) (tb : Env → So) (n : Nat) (ρ : Env) : whO c tb n (.nx ρ) = whileD c tb n ρ := rfl
@[simp] theorem whO_ct (c : Env → R Bool) (tb : Env → So) (n : Nat) (ρ : Env) : whO c tb n (.ct ρ) = whileD c tb n ρ := rfl
@[simp] theorem whO_bk (c : Env → R Bool) (tb : Env → So) (n : Nat) (ρ : Env) : whO c tb n (.bk ρ) = .nx ρ := rfl
@[simp] theorem whO_rt (c : Env → R Bool) (tb : Env → So) (n : Nat) (w : W) (ρ : Env) : whO c tb n (.rt w ρ) = .rt w ρ := rfl
@[simp] theorem whO_ite {k : Prop} [Decidable k] (c : Env → R Bool) (tb : Env → So) (n : Nat) (a b : So) : whO c tb n (if k then a else b) = if k then whO c tb n a else whO c tb n b := by split <;> rfl
/-! calls of defs -/
def callR (f : DefSem) (ρ : Env) : Option (List D × List Nat) → R W
  | some q => if q.2.Nodup then outR q.2 (f q.1) ρ else .bad
  | none => .bad
def callK (ms : List Md) (f : DefSem) (ws : List W) (ρ : Env) : R W := callR f ρ (argD ms ws ρ)
@[simp] theorem ev_call (ms : List Md) (f : DefSem) (fa : Env → R (List W)) (s : Sl) (ρ : Env) : eCall ms f fa (s :: ρ) = (fa (s :: ρ)).bind (callK ms f) := by
  unfold eCall
  congr 1
  funext ws ρ1
  unfold callK
  cases argD ms ws ρ1 <;> rfl
@[simp] theorem ev_callK (ms : List Md) (f : DefSem) (ws : List W) (s : Sl) (ρ : Env) : callK ms f ws (s :: ρ) = callR f (s :: ρ) (argD ms ws (s :: ρ)) := rfl
@[simp] theorem callR_some (f : DefSem) (ρ : Env) (ds : List D) (is : List Nat) : callR f ρ (some (ds, is)) = if is.Nodup then outR is (f ds) ρ else .bad := rfl
@[simp] theorem argD_nil (ρ : Env) : argD [] [] ρ = some ([], []) := rfl
@[simp] theorem argD_d (ms : List Md) (d : D) (ws : List W) (ρ : Env) : argD (.d :: ms) (.o (.fz d) :: ws) ρ = (argD ms ws ρ).map fun q => (d :: q.1, q.2) := by
  show (match argD ms ws ρ with | some (ds, is) => some (d :: ds, is) | none => none) = _
  cases argD ms ws ρ <;> rfl
@[simp] theorem argD_io (ms : List Md) (i : Nat) (ws : List W) (ρ : Env) : argD (.io :: ms) (.own i :: ws) ρ = (ownL ρ i).bind fun xs => (argD ms ws ρ).map fun q => (PyData.list xs :: q.1, i :: q.2) := by
  show (match ownL ρ i, argD ms ws ρ with | some xs, some (ds, is) => some (PyData.list xs :: ds, i :: is) | _, _ => none) = _
  cases ownL ρ i <;> cases argD ms ws ρ <;> rfl
def scO : Option Sl → Option (List Int)
  | some (.sc ns) => some ns
  | _ => none
@[simp] theorem scO_sc (ns : List Int) : scO (some (.sc ns)) = some ns := rfl
@[simp] theorem argD_sc (ms : List Md) (i : Nat) (ws : List W) (ρ : Env) : argD (.sc :: ms) (.own i :: ws) ρ = (scO ρ[i]?).bind fun ns => (argD ms ws ρ).map fun q => (PyData.list (ns.map PyData.int) :: q.1, q.2) := by
  conv => lhs; unfold argD
  cases h : ρ[i]? with
  | none => rfl
  | some s => cases s <;> cases argD ms ws ρ <;> rfl
def ownO : Option Sl → Option (List D)
  | some (.fl xs) => some xs
  | some (.io _ xs) => some xs
  | _ => none
@[simp] theorem ownO_fl (xs : List D) : ownO (some (.fl xs)) = some xs := rfl
@[simp] theorem ownO_io (j : Nat) (xs : List D) : ownO (some (.io j xs)) = some xs := rfl
@[simp] theorem ev_ownL (s : Sl) (ρ : Env) (i : Nat) : ownL (s :: ρ) i = ownO (s :: ρ)[i]? := by
  unfold ownL
  cases h : (s :: ρ)[i]? with
  | none => rfl
  | some s => cases s <;> rfl
def setO (ρ : Env) (i : Nat) (xs : List D) : Option Sl → Env
  | some s => ρ.set i (s.put xs)
  | none => ρ
@[simp] theorem ev_setL (s : Sl) (ρ : Env) (i : Nat) (xs : List D) : setL (s :: ρ) i xs = setO (s :: ρ) i xs (s :: ρ)[i]? := by
  unfold setL
  cases h : (s :: ρ)[i]? <;> rfl
@[simp] theorem setO_fl (ρ : Env) (i : Nat) (xs ys : List D) : setO ρ i xs (some (.fl ys)) = ρ.set i (.fl xs) := rfl
@[simp] theorem setO_io (ρ : Env) (i j : Nat) (xs ys : List D) : setO ρ i xs (some (.io j ys)) = ρ.set i (.io j xs) := rfl
@[simp] theorem putL_nil (ρ : Env) (outs : List (List D)) : putL ρ [] outs = ρ := by unfold putL; rfl
@[simp] theorem putL_cons (ρ : Env) (i : Nat) (is : List Nat) (xs : List D) (outs : List (List D)) : putL ρ (i :: is) (xs :: outs) = putL (setL ρ i xs) is outs := by conv => lhs; unfold putL
@[simp] theorem outR_ret (is : List Nat) (x : O) (outs : List (List D)) (ρ : Env) : outR is (.ret x outs) ρ = .ok (.o x) (putL ρ is outs) := rfl
@[simp] theorem outR_exc (is : List Nat) (c : Str) (outs : List (List D)) (ρ : Env) : outR is (.exc c outs) ρ = .exc c (putL ρ is outs) := rfl
@[simp] theorem outR_bad (is : List Nat) (ρ : Env) : outR is .bad ρ = .bad := rfl
@[simp] theorem outR_ite {k : Prop} [Decidable k] (is : List Nat) (a b : DOut) (ρ : Env) : outR is (if k then a else b) ρ = if k then outR is a ρ else outR is b ρ := by split <;> rfl
def aScO (i : Nat) (r : Env → R (List W)) (ρ : Env) : Option Sl → R (List W)
  | some (.sc _) => (r ρ).bind (consK (.own i))
  | _ => .bad
@[simp] theorem ev_aSc (i : Nat) (r : Env → R (List W)) (s : Sl) (ρ : Env) : aSc i r (s :: ρ) = aScO i r (s :: ρ) (s :: ρ)[i]? := by
  unfold aSc
  cases h : (s :: ρ)[i]? with
  | none => rfl
  | some s => cases s <;> rfl
@[simp] theorem aScO_sc (i : Nat) (r : Env → R (List W)) (ρ : Env) (ns : List Int) : aScO i r ρ (some (.sc ns)) = (r ρ).bind (consK (.own i)) := rfl
def scR (ρ : Env) : Option Sl → R W
  | some (.sc ns) => .ok (.o (.fl (ns.map PyData.int))) ρ
  | _ => .bad
@[simp] theorem ev_eSc (i : Nat) (s : Sl) (ρ : Env) : eSc i (s :: ρ) = scR (s :: ρ) (s :: ρ)[i]? := by
  unfold eSc
  cases h : (s :: ρ)[i]? with
  | none => rfl
  | some s => cases s <;> rfl
@[simp] theorem scR_sc (ρ : Env) (ns : List Int) : scR ρ (some (.sc ns)) = .ok (.o (.fl (ns.map PyData.int))) ρ := rfl
/-! lists that change -/
def appR (i : Nat) (ρ : Env) : W → Option (List D) → R W
  | .o (.fz d), some xs => if xs.length < sizeLine then .ok (.val .none) (setL ρ i (xs ++ [d])) else .bad
  | _, _ => .bad
def appK (i : Nat) (w : W) (ρ : Env) : R W := appR i ρ w (ownL ρ i)
def appO (i : Nat) (fe : Env → R W) (ρ : Env) : Option (List D) → R W
  | some _ => (eFz fe ρ).bind (appK i)
  | none => .bad
@[simp] theorem ev_app (i : Nat) (fe : Env → R W) (s : Sl) (ρ : Env) : eApp i fe (s :: ρ) = appO i fe (s :: ρ) (ownL (s :: ρ) i) := by
  unfold eApp appO
  cases ownL (s :: ρ) i with
  | none => rfl
  | some xs =>
    show (eFz fe (s :: ρ)).bind _ = (eFz fe (s :: ρ)).bind _
    congr 1
@[simp] theorem appO_some (i : Nat) (fe : Env → R W) (s : Sl) (ρ : Env) (xs : List D) : appO i fe (s :: ρ) (some xs) = (((fe (s :: ρ)).bind nrmK).bind fz1).bind (appK i) := rfl
@[simp] theorem ev_appK (i : Nat) (w : W) (s : Sl) (ρ : Env) : appK i w (s :: ρ) = appR i (s :: ρ) w (ownL (s :: ρ) i) := rfl
@[simp] theorem appR_some (i : Nat) (d : D) (xs : List D) (ρ : Env) : appR i ρ (.val d) (some xs) = if xs.length < sizeLine then .ok (.val .none) (setL ρ i (xs ++ [d])) else .bad := rfl
def subO (i : Nat) (d : D) (k : Int) (xs : List D) (ρ : Env) : Option Nat → So
  | some j => .nx (setL ρ i (xs.set j d))
  | none => .bad
def subR (i : Nat) (ρ : Env) : W → Option D → Option (List D) → So
  | .o (.fz d), some (.int k), some xs => subO i d k xs ρ (ixN xs.length k)
  | _, _, _ => .bad
def subK (i : Nat) (w wi : W) (ρ : Env) : So := subR i ρ w (wi.dat ρ) (ownL ρ i)
def subS (i : Nat) (fi : Env → R W) (w : W) (ρ : Env) : Option (List D) → So
  | some _ => (eNrm fi ρ).so (subK i w)
  | none => .bad
@[simp] theorem ev_sSub (i : Nat) (fi f : Env → R W) (s : Sl) (ρ : Env) : sSub i fi f (s :: ρ) = (((f (s :: ρ)).bind nrmK).bind fz1).so (stSub i fi) := rfl
@[simp] theorem ev_stSub (i : Nat) (fi : Env → R W) (w : W) (s : Sl) (ρ : Env) : stSub i fi w (s :: ρ) = subS i fi w (s :: ρ) (ownL (s :: ρ) i) := by
  unfold stSub subS
  cases ownL (s :: ρ) i with
  | none => rfl
  | some xs0 =>
    show (eNrm fi (s :: ρ)).so _ = (eNrm fi (s :: ρ)).so _
    congr 1
@[simp] theorem subS_some (i : Nat) (fi : Env → R W) (w : W) (s : Sl) (ρ : Env) (xs : List D) : subS i fi w (s :: ρ) (some xs) = ((fi (s :: ρ)).bind nrmK).so (subK i w) := rfl
@[simp] theorem ev_subK (i : Nat) (w wi : W) (s : Sl) (ρ : Env) : subK i w wi (s :: ρ) = subR i (s :: ρ) w (wi.dat (s :: ρ)) (ownL (s :: ρ) i) := rfl
@[simp] theorem subR_some (i : Nat) (d : D) (k : Int) (xs : List D) (ρ : Env) : subR i ρ (.val d) (some (.int k)) (some xs) = subO i d k xs ρ (ixN xs.length k) := rfl
@[simp] theorem subO_some (i j : Nat) (d : D) (k : Int) (xs : List D) (ρ : Env) : subO i d k xs ρ (some j) = .nx (setL ρ i (xs.set j d)) := rfl
/-! comprehensions -/
def lcT (vs : List Nat) (g : TgD) (tt : Env → R Bool) (te : Env → R W) (ds : List D) : Option Env → R (List D)
  | none => .bad
  | some ρ1 => match tt ρ1 with
      | .ok true ρ2 => (match eFz te ρ2 with
        | .ok (.o (.fz x)) ρ3 => (match lcD vs g tt te ds (wipeE ρ3 vs) with
          | .ok xs ρ4 => .ok (x :: xs) ρ4
          | _ => .bad)
        | _ => .bad)
      | .ok false ρ2 => lcD vs g tt te ds (wipeE ρ2 vs)
      | _ => .bad
theorem lcD_cons (vs : List Nat) (g : TgD) (tt : Env → R Bool) (te : Env → R W) (d : D) (ds : List D) (ρ : Env) : lcD vs g tt te (d :: ds) ρ = lcT vs g tt te ds (g d ρ) := by
  unfold lcT
  conv => lhs; unfold lcD
  all_goals rfl
@[simp] theorem ev_wipeE0 (ρ : Env) : wipeE ρ [] = ρ := rfl
@[simp] theorem ev_wipeE (ρ : Env) (v : Nat) (vs : List Nat) : wipeE ρ (v :: vs) = (wipeE ρ vs).set v .un := rfl
@[simp] theorem ev_restE0 (ρ0 ρ : Env) : restE ρ0 ρ [] = ρ := rfl
@[simp] theorem ev_restE (ρ0 ρ : Env) (v : Nat) (vs : List Nat) : restE ρ0 ρ (v :: vs) = (restE ρ0 ρ vs).set v ((ρ0[v]?).getD .un) := rfl
def lcK (vs : List Nat) (g : TgD) (tt : Env → R Bool) (te : Env → R W) (ds : List D) (ρ : Env) : R W := lcR vs ρ (lcD vs g tt te ds (wipeE ρ vs))
@[simp] theorem ev_lc (vs : List Nat) (fi : Env → R (List D)) (g : TgD) (tt : Env → R Bool) (te : Env → R W) (s : Sl) (ρ : Env) : eLc vs fi g tt te (s :: ρ) = (fi (s :: ρ)).bind (lcK vs g tt te) := rfl
@[simp] theorem ev_lcK (vs : List Nat) (g : TgD) (tt : Env → R Bool) (te : Env → R W) (ds : List D) (s : Sl) (ρ : Env) : lcK vs g tt te ds (s :: ρ) = lcR vs (s :: ρ) (lcD vs g tt te ds (wipeE (s :: ρ) vs)) := rfl
@[simp] theorem lcR_ok (vs : List Nat) (ρ0 ρ2 : Env) (xs : List D) : lcR vs ρ0 (.ok xs ρ2) = if xs.length ≤ sizeLine then .ok (.o (.fl xs)) (restE ρ0 ρ2 vs) else .bad := rfl
def genK (stopOn : Bool) (vs : List Nat) (g : TgD) (tt : Env → R Bool) (te : Env → R W) (ds : List D) (ρ : Env) : R W := genR vs ρ (genD stopOn vs g tt te ds (wipeE ρ vs))
@[simp] theorem ev_gen (stopOn : Bool) (vs : List Nat) (fi : Env → R (List D)) (g : TgD) (tt : Env → R Bool) (te : Env → R W) (s : Sl) (ρ : Env) : eGen stopOn vs fi g tt te (s :: ρ) = (fi (s :: ρ)).bind (genK stopOn vs g tt te) := rfl
@[simp] theorem ev_genK (stopOn : Bool) (vs : List Nat) (g : TgD) (tt : Env → R Bool) (te : Env → R W) (ds : List D) (s : Sl) (ρ : Env) : genK stopOn vs g tt te ds (s :: ρ) = genR vs (s :: ρ) (genD stopOn vs g tt te ds (wipeE (s :: ρ) vs)) := rfl
@[simp] theorem genR_ok (vs : List Nat) (ρ0 ρ2 : Env) (b : Bool) : genR vs ρ0 (.ok b ρ2) = .ok (.val (.bool b)) (restE ρ0 ρ2 vs) := rfl
@[simp] theorem tYes_eq (ρ : Env) : tYesS ρ = .ok true ρ := rfl
def minK (vs : List Nat) (g : TgD) (tt : Env → R Bool) (te : Env → R W) (ds : List D) (ρ : Env) : R W := minR vs ρ (lcD vs g tt te ds (wipeE ρ vs))
@[simp] theorem ev_minG (vs : List Nat) (fi : Env → R (List D)) (g : TgD) (tt : Env → R Bool) (te : Env → R W) (s : Sl) (ρ : Env) : eMinG vs fi g tt te (s :: ρ) = (fi (s :: ρ)).bind (minK vs g tt te) := rfl
@[simp] theorem ev_minK (vs : List Nat) (g : TgD) (tt : Env → R Bool) (te : Env → R W) (ds : List D) (s : Sl) (ρ : Env) : minK vs g tt te ds (s :: ρ) = minR vs (s :: ρ) (lcD vs g tt te ds (wipeE (s :: ρ) vs)) := rfl
/-- a comprehension whose turns are all alike and leave the environment as it is -/
theorem lcD_map {α : Type} {vs : List Nat} {g : TgD} {tt : Env → R Bool} {te : Env → R W} {ρ : Env} (enc : α → D) (p : α → Bool) (f : α → D)
    (h : ∀ a, ∃ ρ1, g (enc a) ρ = some ρ1 ∧ ((p a = true ∧ ∃ ρ2 ρ3, tt ρ1 = .ok true ρ2 ∧ eFz te ρ2 = .ok (.val (f a)) ρ3 ∧ wipeE ρ3 vs = ρ) ∨ (p a = false ∧ ∃ ρ2, tt ρ1 = .ok false ρ2 ∧ wipeE ρ2 vs = ρ))) :
    ∀ as : List α, lcD vs g tt te (as.map enc) ρ = .ok ((as.filter p).map f) ρ
  | [] => rfl
  | a :: as => by
    obtain ⟨ρ1, h1, h2⟩ := h a
    rw [List.map_cons, lcD_cons, h1]
    rcases h2 with ⟨hp, ρ2, ρ3, h3, h4, h5⟩ | ⟨hp, ρ2, h3, h5⟩
    · have e : lcT vs g tt te (as.map enc) (some ρ1) = .ok (f a :: (as.filter p).map f) ρ := by
        unfold lcT
        simp only [h3, h4, h5, lcD_map enc p f h as]
      rw [e, List.filter_cons_of_pos hp, List.map_cons]
    · have e : lcT vs g tt te (as.map enc) (some ρ1) = .ok ((as.filter p).map f) ρ := by
        unfold lcT
        simp only [h3, h5, lcD_map enc p f h as]
      rw [e, List.filter_cons_of_neg (by simp [hp])]
end PL
end
section
set_option Elab.async false
set_option linter.all false
set_option maxRecDepth 100000
set_option maxHeartbeats 2000000
set_option autoImplicit false
/-! The functional reading: plain functions over data, with no environment. -/
namespace PL
open PySem L2

/-- an outcome: a value, an exception, or nothing that is covered -/
inductive X (α : Type) where
  | ok (a : α) | exc (c : Str) | bad
/-- how a block ends: goes on, breaks, continues, returns -/
inductive Fl (S B T : Type) where
  | nx (s : S) | bk (b : B) | ct (b : B) | rt (r : T)
namespace X
variable {α β γ S B T : Type}
def bind (m : X α) (f : α → X β) : X β := match m with
  | .ok a => f a
  | .exc c => .exc c
  | .bad => .bad
@[simp] theorem bind_ok (a : α) (f : α → X β) : (X.ok a).bind f = f a := rfl
@[simp] theorem bind_exc (c : Str) (f : α → X β) : (X.exc c : X α).bind f = .exc c := rfl
@[simp] theorem bind_bad (f : α → X β) : (X.bad : X α).bind f = .bad := rfl
@[simp] theorem bind_ite {c : Prop} [Decidable c] (a b : X α) (f : α → X β) : (if c then a else b).bind f = if c then a.bind f else b.bind f := by split <;> rfl
theorem bind_assoc (m : X α) (f : α → X β) (g : β → X γ) : (m.bind f).bind g = m.bind fun a => (f a).bind g := by cases m <;> rfl
/-- values -/
def v (d : D) : X O := .ok (.fz d)
@[simp] theorem v_eq (d : D) : v d = .ok (.fz d) := rfl
def ofP : Option P1 → X O
  | some p => .ok p.o
  | none => .bad
@[simp] theorem ofP_fz (d : D) : ofP (some (.fz d)) = .ok (.fz d) := rfl
@[simp] theorem ofP_fl (xs : List D) : ofP (some (.fl xs)) = .ok (.fl xs) := rfl
@[simp] theorem ofP_none : ofP none = .bad := rfl
@[simp] theorem ofP_ite {c : Prop} [Decidable c] (a b : Option P1) : ofP (if c then a else b) = if c then ofP a else ofP b := by split <;> rfl
def op1 (g : D → Option P1) (a : X O) : X O := a.bind fun x => ofP (g x.dat)
def op2 (g : D → D → Option P1) (a b : X O) : X O := a.bind fun x => b.bind fun y => ofP (g x.dat y.dat)
@[simp] theorem op1_ok (g : D → Option P1) (x : O) : op1 g (.ok x) = ofP (g x.dat) := rfl
@[simp] theorem op2_ok (g : D → D → Option P1) (x y : O) : op2 g (.ok x) (.ok y) = ofP (g x.dat y.dat) := rfl
/-- arguments -/
def nil : X (List D) := .ok []
def cons (a : X O) (r : X (List D)) : X (List D) := a.bind fun x => r.bind fun ds => .ok (x.dat :: ds)
@[simp] theorem nil_eq : nil = .ok [] := rfl
@[simp] theorem cons_ok (x : O) (ds : List D) : cons (.ok x) (.ok ds) = .ok (x.dat :: ds) := rfl
@[simp] theorem cons_bad (r : X (List D)) : cons .bad r = .bad := rfl
@[simp] theorem cons_exc (c : Str) (r : X (List D)) : cons (.exc c) r = .exc c := rfl
def opN (g : List D → Option P1) (as : X (List D)) : X O := as.bind fun ds => ofP (g ds)
@[simp] theorem opN_ok (g : List D → Option P1) (ds : List D) : opN g (.ok ds) = ofP (g ds) := rfl
/-- built-in types -/
def isi (Tn : String) (a : X O) : X O := a.bind fun x => .ok (.fz (.bool (isiD Tn x.dat)))
@[simp] theorem isi_ok (Tn : String) (x : O) : isi Tn (.ok x) = .ok (.fz (.bool (isiD Tn x.dat))) := rfl
/-- chains of comparisons -/
def chK (g' : D → D → Option P1) (y : D) (c : X O) : Option Bool → X O
  | some true => c.bind fun z => ofP (g' y z.dat)
  | some false => .ok (.fz (.bool false))
  | none => .bad
def ch2 (g g' : D → D → Option P1) (a b c : X O) : X O := a.bind fun x => b.bind fun y => chK g' y.dat c (boolP (g x.dat y.dat))
def ch3 (g g' g'' : D → D → Option P1) (a b c d : X O) : X O := a.bind fun x => b.bind fun y => match boolP (g x.dat y.dat) with
  | some true => c.bind fun z => chK g'' z.dat d (boolP (g' y.dat z.dat))
  | some false => .ok (.fz (.bool false))
  | none => .bad
@[simp] theorem chK_b (g' : D → D → Option P1) (y : D) (z : O) (b : Bool) : chK g' y (.ok z) (some b) = if b = true then ofP (g' y z.dat) else .ok (.fz (.bool false)) := by cases b <;> rfl
@[simp] theorem ch2_ok (g g' : D → D → Option P1) (x y : O) (c : X O) : ch2 g g' (.ok x) (.ok y) c = chK g' y.dat c (boolP (g x.dat y.dat)) := rfl
theorem ch3_ok (g g' g'' : D → D → Option P1) (x y z : O) (d : X O) (b : Bool) (h : boolP (g x.dat y.dat) = some b) : ch3 g g' g'' (.ok x) (.ok y) (.ok z) d = if b = true then chK g'' z.dat d (boolP (g' y.dat z.dat)) else .ok (.fz (.bool false)) := by
  unfold ch3
  simp only [bind_ok, h]
  cases b <;> rfl
/-- tests -/
def asB : D → X Bool
  | .bool b => .ok b
  | _ => .bad
@[simp] theorem asB_b (b : Bool) : asB (.bool b) = .ok b := rfl
def tB (a : X O) : X Bool := a.bind fun x => asB x.dat
def tV (a : X O) : X Bool := a.bind fun x => .ok (truD x.dat)
@[simp] theorem tB_ok (x : O) : tB (.ok x) = asB x.dat := rfl
@[simp] theorem tB_ite {c : Prop} [Decidable c] (a b : X O) : tB (if c then a else b) = if c then tB a else tB b := by split <;> rfl
@[simp] theorem tV_ite {c : Prop} [Decidable c] (a b : X O) : tV (if c then a else b) = if c then tV a else tV b := by split <;> rfl
@[simp] theorem tB_bad : tB .bad = .bad := rfl
@[simp] theorem tV_bad : tV .bad = .bad := rfl
@[simp] theorem tV_ok (x : O) : tV (.ok x) = .ok (truD x.dat) := rfl
def tAnd (a b : X Bool) : X Bool := a.bind fun x => if x = true then b else .ok false
def tOr (a b : X Bool) : X Bool := a.bind fun x => if x = true then .ok true else b
def tNot (a : X Bool) : X Bool := a.bind fun x => .ok (!x)
@[simp] theorem tAnd_ok (x : Bool) (b : X Bool) : tAnd (.ok x) b = if x = true then b else .ok false := rfl
@[simp] theorem tOr_ok (x : Bool) (b : X Bool) : tOr (.ok x) b = if x = true then .ok true else b := rfl
@[simp] theorem tNot_ok (x : Bool) : tNot (.ok x) = .ok (!x) := rfl
@[simp] theorem tNot_bad : tNot .bad = .bad := rfl
@[simp] theorem tNot_ite {c : Prop} [Decidable c] (a b : X Bool) : tNot (if c then a else b) = if c then tNot a else tNot b := by split <;> rfl
@[simp] theorem tAnd_ite {c : Prop} [Decidable c] (a b d : X Bool) : tAnd (if c then a else b) d = if c then tAnd a d else tAnd b d := by split <;> rfl
@[simp] theorem tOr_ite {c : Prop} [Decidable c] (a b d : X Bool) : tOr (if c then a else b) d = if c then tOr a d else tOr b d := by split <;> rfl
/-- and, or, not, if as values -/
def and (a b : X O) : X O := (tB a).bind fun x => if x = true then b else v (.bool false)
def or (a b : X O) : X O := (tB a).bind fun x => if x = true then v (.bool true) else b
def not (a : X O) : X O := (tB a).bind fun x => v (.bool (!x))
def cond (c : X Bool) (a b : X O) : X O := c.bind fun x => if x = true then a else b
@[simp] theorem and_b (x : Bool) (b : X O) : and (.ok (.fz (.bool x))) b = if x = true then b else .ok (.fz (.bool false)) := rfl
@[simp] theorem or_b (x : Bool) (b : X O) : or (.ok (.fz (.bool x))) b = if x = true then .ok (.fz (.bool true)) else b := rfl
@[simp] theorem not_b (x : Bool) : not (.ok (.fz (.bool x))) = .ok (.fz (.bool (!x))) := rfl
@[simp] theorem cond_ok (x : Bool) (a b : X O) : cond (.ok x) a b = if x = true then a else b := rfl
@[simp] theorem and_ite {c : Prop} [Decidable c] (a b d : X O) : and (if c then a else b) d = if c then and a d else and b d := by split <;> rfl
@[simp] theorem or_ite {c : Prop} [Decidable c] (a b d : X O) : or (if c then a else b) d = if c then or a d else or b d := by split <;> rfl
@[simp] theorem not_ite {c : Prop} [Decidable c] (a b : X O) : not (if c then a else b) = if c then not a else not b := by split <;> rfl
@[simp] theorem cond_ite {c : Prop} [Decidable c] (a b : X Bool) (d e : X O) : cond (if c then a else b) d e = if c then cond a d e else cond b d e := by split <;> rfl
@[simp] theorem op2_ite_l {c : Prop} [Decidable c] (g : D → D → Option P1) (a b d : X O) : op2 g (if c then a else b) d = if c then op2 g a d else op2 g b d := by split <;> rfl
@[simp] theorem op2_ite_r {c : Prop} [Decidable c] (g : D → D → Option P1) (x : O) (a b : X O) : op2 g (.ok x) (if c then a else b) = if c then op2 g (.ok x) a else op2 g (.ok x) b := by split <;> rfl
/-- displays -/
def tup (as : X (List D)) : X O := as.bind fun ds => if ds.length ≤ sizeLine then v (.tuple ds) else .bad
def lst (as : X (List D)) : X O := as.bind fun ds => if ds.length ≤ sizeLine then .ok (.fl ds) else .bad
@[simp] theorem tup_ok (ds : List D) : tup (.ok ds) = if ds.length ≤ sizeLine then .ok (.fz (.tuple ds)) else .bad := rfl
@[simp] theorem lst_ok (ds : List D) : lst (.ok ds) = if ds.length ≤ sizeLine then .ok (.fl ds) else .bad := rfl
/-- slices -/
def noI : X (Option Int) := .ok none
def asI : D → X Int
  | .int i => .ok i
  | _ => .bad
@[simp] theorem asI_i (i : Int) : asI (.int i) = .ok i := rfl
def soI (a : X O) : X (Option Int) := a.bind fun x => (asI x.dat).bind fun i => .ok (some i)
@[simp] theorem soI_i (i : Int) : soI (.ok (.fz (.int i))) = .ok (some i) := rfl
@[simp] theorem noI_eq : noI = .ok none := rfl
def sl (a : X O) (lo hi : X (Option Int)) : X O := a.bind fun x => lo.bind fun l => hi.bind fun h => ofP (slD x.dat l h)
@[simp] theorem sl_ok (x : O) (l h : Option Int) : sl (.ok x) (.ok l) (.ok h) = ofP (slD x.dat l h) := rfl
/-- what a loop walks -/
def asSeq : O → X (List D)
  | .fz (.list ds) => .ok ds
  | .fz (.tuple ds) => .ok ds
  | .fl ds => .ok ds
  | _ => .bad
@[simp] theorem asSeq_l (ds : List D) : asSeq (.fz (.list ds)) = .ok ds := rfl
@[simp] theorem asSeq_t (ds : List D) : asSeq (.fz (.tuple ds)) = .ok ds := rfl
@[simp] theorem asSeq_f (ds : List D) : asSeq (.fl ds) = .ok ds := rfl
def seqI (a : X O) : X (List D) := a.bind asSeq
@[simp] theorem seqI_ok (x : O) : seqI (.ok x) = asSeq x := rfl
def rng1 : D → X (List D)
  | .int j => if inR j = true then .ok (rngI 0 j) else .bad
  | _ => .bad
def rng2 : D → D → X (List D)
  | .int i, .int j => if (inR i && inR j) = true then .ok (rngI i j) else .bad
  | _, _ => .bad
def range1 (a : X O) : X (List D) := a.bind fun x => rng1 x.dat
def range2 (a b : X O) : X (List D) := a.bind fun x => b.bind fun y => rng2 x.dat y.dat
@[simp] theorem range1_ok (x : O) : range1 (.ok x) = rng1 x.dat := rfl
@[simp] theorem range2_ok (x y : O) : range2 (.ok x) (.ok y) = rng2 x.dat y.dat := rfl
theorem rng1_i {j : Int} (h : inR j = true) : rng1 (.int j) = .ok (rngI 0 j) := by
  show (if inR j = true then _ else _) = _
  rw [if_pos h]
theorem rng2_i {i j : Int} (h : inR i = true) (h2 : inR j = true) : rng2 (.int i) (.int j) = .ok (rngI i j) := by
  show (if (inR i && inR j) = true then _ else _) = _
  rw [h, h2]
  rfl
/-- a name gets a value, a list of its own -/
def letD (m : X O) (K : D → X β) : X β := m.bind fun o => K o.dat
def asFl : O → X (List D)
  | .fl xs => .ok xs
  | _ => .bad
@[simp] theorem asFl_fl (xs : List D) : asFl (.fl xs) = .ok xs := rfl
def letL (m : X O) (K : List D → X β) : X β := m.bind fun o => (asFl o).bind K
@[simp] theorem letD_ok (o : O) (K : D → X β) : letD (.ok o) K = K o.dat := rfl
@[simp] theorem letL_fl (xs : List D) (K : List D → X β) : letL (.ok (.fl xs)) K = K xs := rfl
@[simp] theorem letD_exc (c : Str) (K : D → X β) : letD (.exc c) K = .exc c := rfl
@[simp] theorem letD_ite {c : Prop} [Decidable c] (a b : X O) (K : D → X β) : letD (if c then a else b) K = if c then letD a K else letD b K := by split <;> rfl
@[simp] theorem letL_ite {c : Prop} [Decidable c] (a b : X O) (K : List D → X β) : letL (if c then a else b) K = if c then letL a K else letL b K := by split <;> rfl
/-- unpacking -/
def un1 (d : D) (K : D → X β) : X β := match d with
  | .tuple [a] => K a
  | .list [a] => K a
  | _ => .bad
def un2 (d : D) (K : D → D → X β) : X β := match d with
  | .tuple [a, b] => K a b
  | .list [a, b] => K a b
  | _ => .bad
def un3 (d : D) (K : D → D → D → X β) : X β := match d with
  | .tuple [a, b, c] => K a b c
  | .list [a, b, c] => K a b c
  | _ => .bad
def un4 (d : D) (K : D → D → D → D → X β) : X β := match d with
  | .tuple [a, b, c, e] => K a b c e
  | .list [a, b, c, e] => K a b c e
  | _ => .bad
@[simp] theorem un1_t (a : D) (K : D → X β) : un1 (.tuple [a]) K = K a := rfl
@[simp] theorem un2_t (a b : D) (K : D → D → X β) : un2 (.tuple [a, b]) K = K a b := rfl
@[simp] theorem un2_l (a b : D) (K : D → D → X β) : un2 (.list [a, b]) K = K a b := rfl
@[simp] theorem un3_t (a b c : D) (K : D → D → D → X β) : un3 (.tuple [a, b, c]) K = K a b c := rfl
@[simp] theorem un3_l (a b c : D) (K : D → D → D → X β) : un3 (.list [a, b, c]) K = K a b c := rfl
@[simp] theorem un4_t (a b c d : D) (K : D → D → D → D → X β) : un4 (.tuple [a, b, c, d]) K = K a b c d := rfl
/-- tuples alone -/
def ut2 (d : D) (K : D → D → X β) : X β := match d with
  | .tuple [a, b] => K a b
  | _ => .bad
@[simp] theorem ut2_t (a b : D) (K : D → D → X β) : ut2 (.tuple [a, b]) K = K a b := rfl
/-- lists that change -/
def app (xs : List D) (m : X O) (K : List D → X β) : X β := m.bind fun o => if xs.length < sizeLine then K (xs ++ [o.dat]) else .bad
def putAt (xs : List D) (i d : D) (K : List D → X β) : X β := match i with
  | .int k => (match ixN xs.length k with
    | some j => K (xs.set j d)
    | none => .bad)
  | _ => .bad
def setAt (xs : List D) (mi m : X O) (K : List D → X β) : X β := m.bind fun o => mi.bind fun i => putAt xs i.dat o.dat K
@[simp] theorem app_ok (xs : List D) (o : O) (K : List D → X β) : app xs (.ok o) K = if xs.length < sizeLine then K (xs ++ [o.dat]) else .bad := rfl
@[simp] theorem setAt_ok (xs : List D) (i o : O) (K : List D → X β) : setAt xs (.ok i) (.ok o) K = putAt xs i.dat o.dat K := rfl
theorem putAt_n {xs : List D} {k : Int} {j : Nat} (h : ixN xs.length k = some j) (d : D) (K : List D → X β) : putAt xs (.int k) d K = K (xs.set j d) := by
  show (match ixN xs.length k with | some j => K (xs.set j d) | none => .bad) = _
  rw [h]
/-- name += e -/
def aug (g : Int → Int → Int) (a : D) (m : X O) (K : D → X β) : X β := match a with
  | .int i => m.bind fun o => (asI o.dat).bind fun j => K (.int (g i j))
  | _ => .bad
@[simp] theorem aug_i (g : Int → Int → Int) (i j : Int) (K : D → X β) : aug g (.int i) (.ok (.fz (.int j))) K = K (.int (g i j)) := rfl
/-- blocks -/
def seqF {S1 : Type} (m : X (Fl S1 B T)) (K : S1 → X (Fl S B T)) : X (Fl S B T) := m.bind fun f => match f with
  | .nx s => K s
  | .bk b => .ok (.bk b)
  | .ct b => .ok (.ct b)
  | .rt r => .ok (.rt r)
section
variable {S1 : Type}
@[simp] theorem seqF_nx (s : S1) (K : S1 → X (Fl S B T)) : seqF (.ok (.nx s)) K = K s := rfl
@[simp] theorem seqF_bk (b : B) (K : S1 → X (Fl S B T)) : seqF (.ok (.bk b)) K = .ok (.bk b) := rfl
@[simp] theorem seqF_ct (b : B) (K : S1 → X (Fl S B T)) : seqF (.ok (.ct b)) K = .ok (.ct b) := rfl
@[simp] theorem seqF_rt (r : T) (K : S1 → X (Fl S B T)) : seqF (.ok (.rt r)) K = .ok (.rt r) := rfl
@[simp] theorem seqF_exc (c : Str) (K : S1 → X (Fl S B T)) : seqF (.exc c : X (Fl S1 B T)) K = .exc c := rfl
@[simp] theorem seqF_bad (K : S1 → X (Fl S B T)) : seqF (.bad : X (Fl S1 B T)) K = .bad := rfl
@[simp] theorem seqF_ite {c : Prop} [Decidable c] (a b : X (Fl S1 B T)) (K : S1 → X (Fl S B T)) : seqF (if c then a else b) K = if c then seqF a K else seqF b K := by split <;> rfl
@[simp] theorem seqF_bind (m : X α) (f : α → X (Fl S1 B T)) (K : S1 → X (Fl S B T)) : seqF (m.bind f) K = m.bind fun a => seqF (f a) K := by cases m <;> rfl
end
def iff_ (c : X Bool) (a b : X α) : X α := c.bind fun x => if x = true then a else b
@[simp] theorem iff_ok (x : Bool) (a b : X α) : iff_ (.ok x) a b = if x = true then a else b := rfl
@[simp] theorem iff_exc (c : Str) (a b : X α) : iff_ (.exc c) a b = .exc c := rfl
@[simp] theorem iff_bad (a b : X α) : iff_ .bad a b = .bad := rfl
@[simp] theorem iff_ite {c : Prop} [Decidable c] (p q : X Bool) (a b : X α) : iff_ (if c then p else q) a b = if c then iff_ p a b else iff_ q a b := by split <;> rfl
/-- loops -/
def forF (body : D → S → X (Fl S S T)) : List D → S → X (Fl S B T)
  | [], s => .ok (.nx s)
  | d :: ds, s => (body d s).bind fun f => match f with
    | .nx s => forF body ds s
    | .ct s => forF body ds s
    | .bk s => .ok (.nx s)
    | .rt r => .ok (.rt r)
def forN (body : D → S → X (Fl S S T)) (ds : List D) : Fl S S T → X (Fl S B T)
  | .nx s => forF body ds s
  | .ct s => forF body ds s
  | .bk s => .ok (.nx s)
  | .rt r => .ok (.rt r)
theorem forF_nil (body : D → S → X (Fl S S T)) (s : S) : (forF body [] s : X (Fl S B T)) = .ok (.nx s) := rfl
theorem forF_cons (body : D → S → X (Fl S S T)) (d : D) (ds : List D) (s : S) : (forF body (d :: ds) s : X (Fl S B T)) = (body d s).bind (forN body ds) := by
  show (body d s).bind _ = _
  cases body d s with
  | ok f => cases f <;> rfl
  | exc c => rfl
  | bad => rfl
@[simp] theorem forN_nx (body : D → S → X (Fl S S T)) (ds : List D) (s : S) : (forN body ds (.nx s) : X (Fl S B T)) = forF body ds s := rfl
@[simp] theorem forN_ct (body : D → S → X (Fl S S T)) (ds : List D) (s : S) : (forN body ds (.ct s) : X (Fl S B T)) = forF body ds s := rfl
@[simp] theorem forN_bk (body : D → S → X (Fl S S T)) (ds : List D) (s : S) : (forN body ds (.bk s) : X (Fl S B T)) = .ok (.nx s) := rfl
@[simp] theorem forN_rt (body : D → S → X (Fl S S T)) (ds : List D) (r : T) : (forN body ds (.rt r) : X (Fl S B T)) = .ok (.rt r) := rfl
def for_ (src : X (List D)) (s : S) (body : D → S → X (Fl S S T)) : X (Fl S B T) := src.bind fun ds => forF body ds s
@[simp] theorem for_ok (ds : List D) (s : S) (body : D → S → X (Fl S S T)) : (for_ (.ok ds) s body : X (Fl S B T)) = forF body ds s := rfl
def whF (c : S → X Bool) (body : S → X (Fl S S T)) : Nat → S → X (Fl S B T)
  | 0, _ => .bad
  | n + 1, s => (c s).bind fun b => if b = true then ((body s).bind fun f => match f with
    | .nx s => whF c body n s
    | .ct s => whF c body n s
    | .bk s => .ok (.nx s)
    | .rt r => .ok (.rt r)) else .ok (.nx s)
def whN (c : S → X Bool) (body : S → X (Fl S S T)) (n : Nat) : Fl S S T → X (Fl S B T)
  | .nx s => whF c body n s
  | .ct s => whF c body n s
  | .bk s => .ok (.nx s)
  | .rt r => .ok (.rt r)
theorem whF_succ (c : S → X Bool) (body : S → X (Fl S S T)) (n : Nat) (s : S) : (whF c body (n + 1) s : X (Fl S B T)) = (c s).bind fun b => if b = true then (body s).bind (whN c body n) else .ok (.nx s) := by
  show (c s).bind _ = _
  cases c s with
  | exc c => rfl
  | bad => rfl
  | ok b =>
    cases b with
    | false => rfl
    | true =>
      show (body s).bind _ = (body s).bind _
      cases body s with
      | ok f => cases f <;> rfl
      | exc c => rfl
      | bad => rfl
@[simp] theorem whN_nx (c : S → X Bool) (body : S → X (Fl S S T)) (n : Nat) (s : S) : (whN c body n (.nx s) : X (Fl S B T)) = whF c body n s := rfl
@[simp] theorem whN_ct (c : S → X Bool) (body : S → X (Fl S S T)) (n : Nat) (s : S) : (whN c body n (.ct s) : X (Fl S B T)) = whF c body n s := rfl
@[simp] theorem whN_bk (c : S → X Bool) (body : S → X (Fl S S T)) (n : Nat) (s : S) : (whN c body n (.bk s) : X (Fl S B T)) = .ok (.nx s) := rfl
@[simp] theorem whN_rt (c : S → X Bool) (body : S → X (Fl S S T)) (n : Nat) (r : T) : (whN c body n (.rt r) : X (Fl S B T)) = .ok (.rt r) := rfl
/-- comprehensions: a turn gives an item, or none -/
def comp (f : D → X (Option D)) : List D → X (List D)
  | [] => .ok []
  | d :: ds => match f d with
    | .ok (some x) => (comp f ds).bind fun xs => .ok (x :: xs)
    | .ok none => comp f ds
    | _ => .bad
def keep (t : X Bool) (m : X O) : X (Option D) := t.bind fun b => if b = true then (m.bind fun o => .ok (some o.dat)) else .ok none
@[simp] theorem keep_ok (b : Bool) (m : X O) : keep (.ok b) m = if b = true then (m.bind fun o => .ok (some o.dat)) else .ok none := rfl
def lc (src : X (List D)) (f : D → X (Option D)) : X O := src.bind fun ds => match comp f ds with
  | .ok xs => if xs.length ≤ sizeLine then .ok (.fl xs) else .bad
  | _ => .bad
/-- .. that change the state -/
def compS (f : D → S → X (Option D × S)) : List D → S → X (List D × S)
  | [], s => .ok ([], s)
  | d :: ds, s => match f d s with
    | .ok (some x, s1) => (compS f ds s1).bind fun p => .ok (x :: p.1, p.2)
    | .ok (none, s1) => compS f ds s1
    | _ => .bad
def lcS (src : X (List D)) (s : S) (f : D → S → X (Option D × S)) : X (O × S) := src.bind fun ds => match compS f ds s with
  | .ok (xs, s) => if xs.length ≤ sizeLine then .ok (.fl xs, s) else .bad
  | _ => .bad
/-- all, any; a turn gives a truth, or none if it is not tried -/
def genF (stopOn : Bool) (f : D → X (Option Bool)) : List D → X Bool
  | [] => .ok (!stopOn)
  | d :: ds => match f d with
    | .ok (some c) => if c = stopOn then .ok stopOn else genF stopOn f ds
    | .ok none => genF stopOn f ds
    | _ => .bad
def try_ (t : X Bool) (m : X Bool) : X (Option Bool) := t.bind fun b => if b = true then (m.bind fun c => .ok (some c)) else .ok none
@[simp] theorem try_ok (b : Bool) (m : X Bool) : try_ (.ok b) m = if b = true then (m.bind fun c => .ok (some c)) else .ok none := rfl
def gen (stopOn : Bool) (src : X (List D)) (f : D → X (Option Bool)) : X O := src.bind fun ds => match genF stopOn f ds with
  | .ok b => .ok (.fz (.bool b))
  | _ => .bad
def minG (src : X (List D)) (f : D → X (Option D)) : X O := src.bind fun ds => match comp f ds with
  | .ok xs => (match intsD xs with
    | some ns => (match fmin none ns with
      | some r => .ok (.fz (.int r))
      | none => .bad)
    | none => .bad)
  | _ => .bad
/-- try .. except -/
def tryF (hs : List Str) (m : X (Fl S B T)) (h : Str → X (Fl S B T)) : X (Fl S B T) := match m with
  | .exc c => if c ∈ hs then (match h c with
    | .ok f => .ok f
    | _ => .bad) else .bad
  | m => m
@[simp] theorem tryF_ok (hs : List Str) (f : Fl S B T) (h : Str → X (Fl S B T)) : tryF hs (.ok f) h = .ok f := rfl
theorem tryF_exc {hs : List Str} {c : Str} (hc : c ∈ hs) {h : Str → X (Fl S B T)} {f : Fl S B T} (e : h c = .ok f) : tryF hs (.exc c) h = .ok f := by
  show (if c ∈ hs then _ else _) = _
  rw [if_pos hc, e]
def isE (tbl : List (Str × Bool)) (c : Str) : X O := match tbl.lookup c with
  | some b => .ok (.fz (.bool b))
  | none => .bad
/-- a def's arguments -/
def pD (k : D → List D → X β) : List D → X β
  | d :: r => k d r
  | [] => .bad
def pL (k : List D → List D → X β) : List D → X β
  | .list xs :: r => k xs r
  | _ => .bad
def pS (k : List Int → List D → X β) : List D → X β
  | .list xs :: r => (match intsD xs with
    | some ns => k ns r
    | none => .bad)
  | _ => .bad
def pE (k : Str → List D → X β) : List D → X β
  | .str c :: r => k c r
  | _ => .bad
def p0 (m : X β) : List D → X β
  | [] => m
  | _ => .bad
@[simp] theorem pD_c (k : D → List D → X β) (d : D) (r : List D) : pD k (d :: r) = k d r := rfl
@[simp] theorem pL_c (k : List D → List D → X β) (xs r : List D) : pL k (.list xs :: r) = k xs r := rfl
@[simp] theorem pS_c (k : List Int → List D → X β) (ns : List Int) (r : List D) : pS k (.list (ns.map PyData.int) :: r) = k ns r := by
  show (match intsD (ns.map PyData.int) with | some ns => k ns r | none => .bad) = _
  rw [intsD_map]
@[simp] theorem pE_c (k : Str → List D → X β) (c : Str) (r : List D) : pE k (.str c :: r) = k c r := rfl
@[simp] theorem p0_n (m : X β) : p0 m [] = m := rfl
def ret (m : X O) : X (Fl S B O) := m.bind fun o => .ok (.rt o)
def retS (m : X O) (s : T) : X (Fl S B (O × T)) := m.bind fun o => .ok (.rt (o, s))
@[simp] theorem ret_ok (o : O) : (ret (.ok o) : X (Fl S B O)) = .ok (.rt o) := rfl
@[simp] theorem ret_exc (c : Str) : (ret (.exc c) : X (Fl S B O)) = .exc c := rfl
@[simp] theorem ret_bad : (ret .bad : X (Fl S B O)) = .bad := rfl
@[simp] theorem ret_ite {c : Prop} [Decidable c] (a b : X O) : (ret (if c then a else b) : X (Fl S B O)) = if c then ret a else ret b := by split <;> rfl
@[simp] theorem retS_ok (o : O) (s : T) : (retS (.ok o) s : X (Fl S B (O × T))) = .ok (.rt (o, s)) := rfl
@[simp] theorem retS_ite {c : Prop} [Decidable c] (a b : X O) (s : T) : (retS (if c then a else b) s : X (Fl S B (O × T))) = if c then retS a s else retS b s := by split <;> rfl
/-- the ends of a def -/
def fin (m : X (Fl Unit Unit O)) : X O := m.bind fun f => match f with
  | .nx _ => .ok (.fz .none)
  | .rt o => .ok o
  | _ => .bad
def finS (m : X (Fl S Unit (O × S))) : X (O × S) := m.bind fun f => match f with
  | .nx s => .ok (.fz .none, s)
  | .rt r => .ok r
  | _ => .bad
@[simp] theorem fin_nx (u : Unit) : fin (.ok (.nx u)) = .ok (.fz .none) := rfl
@[simp] theorem fin_rt (o : O) : fin (.ok (.rt o)) = .ok o := rfl
@[simp] theorem fin_exc (c : Str) : fin (.exc c) = .exc c := rfl
@[simp] theorem fin_bad : fin .bad = .bad := rfl
@[simp] theorem fin_ite {c : Prop} [Decidable c] (a b : X (Fl Unit Unit O)) : fin (if c then a else b) = if c then fin a else fin b := by split <;> rfl
@[simp] theorem fin_bind (m : X α) (f : α → X (Fl Unit Unit O)) : fin (m.bind f) = m.bind fun a => fin (f a) := by cases m <;> rfl
@[simp] theorem finS_nx (s : S) : finS (.ok (.nx s) : X (Fl S Unit (O × S))) = .ok (.fz .none, s) := rfl
@[simp] theorem finS_rt (r : O × S) : finS (.ok (.rt r)) = .ok r := rfl
@[simp] theorem finS_exc (c : Str) : finS (.exc c : X (Fl S Unit (O × S))) = .exc c := rfl
@[simp] theorem finS_bad : finS (.bad : X (Fl S Unit (O × S))) = .bad := rfl
@[simp] theorem finS_ite {c : Prop} [Decidable c] (a b : X (Fl S Unit (O × S))) : finS (if c then a else b) = if c then finS a else finS b := by split <;> rfl
@[simp] theorem finS_bind (m : X α) (f : α → X (Fl S Unit (O × S))) : finS (m.bind f) = m.bind fun a => finS (f a) := by cases m <;> rfl
end X
end PL
end
section
set_option Elab.async false
set_option linter.all false
set_option maxRecDepth 100000
set_option maxHeartbeats 2000000
set_option autoImplicit false
/-! From readings over environments to plain functions: what has no effect on the slots. -/
namespace PL
open PySem L2

/-! ### patterns: what is known of an environment -/
abbrev Pat := List (Option Sl)
def Pat.at_ : Pat → Nat → Option Sl
  | [], _ => none
  | s :: _, 0 => s
  | _ :: L, n + 1 => Pat.at_ L n
def Pat.put : Pat → Nat → Option Sl → Pat
  | [], _, _ => []
  | _ :: L, 0, s => s :: L
  | t :: L, n + 1, s => t :: Pat.put L n s
def Pat.wipe (L : Pat) : List Nat → Pat
  | [] => L
  | v :: vs => (Pat.wipe L vs).put v none
theorem Pat.len_put : ∀ (L : Pat) (i : Nat) (s : Option Sl), (L.put i s).length = L.length
  | [], _, _ => rfl
  | _ :: L, 0, s => rfl
  | t :: L, n + 1, s => by show (Pat.put L n s).length + 1 = L.length + 1; rw [Pat.len_put L n s]
theorem Pat.len_wipe (L : Pat) : ∀ vs : List Nat, (L.wipe vs).length = L.length
  | [] => rfl
  | v :: vs => by show (Pat.put _ v none).length = _; rw [Pat.len_put, Pat.len_wipe L vs]
theorem Pat.at_put : ∀ (L : Pat) (i j : Nat) (s : Option Sl), (L.put i s).at_ j = if j = i ∧ i < L.length then s else L.at_ j
  | [], i, j, s => by simp [Pat.put, Pat.at_]
  | t :: L, 0, 0, s => by simp [Pat.put, Pat.at_]
  | t :: L, 0, j + 1, s => by simp [Pat.put, Pat.at_]
  | t :: L, i + 1, 0, s => by simp [Pat.put, Pat.at_]
  | t :: L, i + 1, j + 1, s => by
    show (Pat.put L i s).at_ j = if j + 1 = i + 1 ∧ i + 1 < L.length + 1 then s else Pat.at_ L j
    rw [Pat.at_put L i j s]
    simp
theorem Pat.at_out : ∀ (L : Pat) (j : Nat), ¬ j < L.length → L.at_ j = none
  | [], _, _ => rfl
  | _ :: L, 0, h => absurd (by simp) h
  | _ :: L, j + 1, h => Pat.at_out L j (by simpa using h)
theorem Pat.at_wipe (L : Pat) (j : Nat) : ∀ vs : List Nat, (L.wipe vs).at_ j = if j ∈ vs then none else L.at_ j
  | [] => by simp [Pat.wipe]
  | v :: vs => by
    show (Pat.put (L.wipe vs) v none).at_ j = _
    rw [Pat.at_put, Pat.at_wipe L j vs, Pat.len_wipe]
    by_cases h : j = v
    · subst h
      by_cases h2 : j < L.length
      · simp [h2]
      · simp [h2, Pat.at_out L j h2]
    · simp [h]
structure Fits (L : Pat) (ρ : Env) : Prop where
  len : L.length = ρ.length
  at_ : ∀ (i : Nat) (s : Sl), L.at_ i = some s → ρ[i]? = some s
theorem Fits.put {L : Pat} {ρ : Env} (h : Fits L ρ) (i : Nat) (s : Sl) : Fits (L.put i (some s)) (ρ.set i s) := by
  refine ⟨by rw [Pat.len_put, List.length_set, h.len], fun j t e => ?_⟩
  rw [Pat.at_put] at e
  split at e
  · rename_i q
    cases e
    rw [q.1, List.getElem?_set_self (by rw [← h.len]; exact q.2)]
  · rename_i q
    have := h.at_ j t e
    by_cases z : j = i
    · subst z
      have h1 : ¬ j < L.length := fun y => q ⟨rfl, y⟩
      rw [List.getElem?_eq_none (by rw [← h.len]; omega)] at this
      cases this
    · rw [List.getElem?_set_ne (Ne.symm z)]
      exact this
theorem Fits.drop {L : Pat} {ρ : Env} (h : Fits L ρ) (i : Nat) (s : Sl) : Fits (L.put i none) (ρ.set i s) := by
  refine ⟨by rw [Pat.len_put, List.length_set, h.len], fun j t e => ?_⟩
  have e2 := e
  rw [Pat.at_put] at e
  split at e
  · cases e
  · rename_i q
    have := h.at_ j t e
    by_cases z : j = i
    · subst z
      have h1 : ¬ j < L.length := fun y => q ⟨rfl, y⟩
      rw [List.getElem?_eq_none (by rw [← h.len]; omega)] at this
      cases this
    · rw [List.getElem?_set_ne (Ne.symm z)]
      exact this
theorem Fits.wipe {L : Pat} {ρ : Env} (h : Fits L ρ) : ∀ vs : List Nat, Fits (L.wipe vs) (wipeE ρ vs)
  | [] => h
  | v :: vs => (Fits.wipe h vs).drop v .un
theorem Fits.rest {L : Pat} {ρ0 ρ : Env} {vs : List Nat} (h0 : Fits L ρ0) (h : Fits (L.wipe vs) ρ) : Fits L (restE ρ0 ρ vs) := by
  have hl : ρ0.length = ρ.length := by rw [← h0.len, ← h.len, Pat.len_wipe]
  refine ⟨by rw [restE_len, ← hl, h0.len], fun j s e => ?_⟩
  rw [restE_get _ _ _ hl]
  by_cases z : j ∈ vs
  · rw [if_pos z]; exact h0.at_ j s e
  · rw [if_neg z]
    refine h.at_ j s ?_
    rw [Pat.at_wipe, if_neg z]
    exact e
/-- A says less than B -/
inductive Sub : Pat → Pat → Prop
  | nil : Sub [] []
  | un {A B : Pat} {t : Option Sl} : Sub A B → Sub (none :: A) (t :: B)
  | eq {A B : Pat} {t : Option Sl} : Sub A B → Sub (t :: A) (t :: B)
theorem Sub.len {A B : Pat} (h : Sub A B) : A.length = B.length := by
  induction h with
  | nil => rfl
  | un _ ih => rw [List.length_cons, List.length_cons, ih]
  | eq _ ih => rw [List.length_cons, List.length_cons, ih]
theorem Sub.at_ {A B : Pat} (h : Sub A B) : ∀ (i : Nat) (s : Sl), A.at_ i = some s → B.at_ i = some s := by
  induction h with
  | nil => intro i s e; cases e
  | un _ ih =>
    intro i s e
    cases i with
    | zero => cases e
    | succ i => exact ih i s e
  | eq _ ih =>
    intro i s e
    cases i with
    | zero => exact e
    | succ i => exact ih i s e
theorem Sub.fits {A B : Pat} (h : Sub A B) {ρ : Env} (f : Fits B ρ) : Fits A ρ := ⟨h.len.trans f.len, fun i s e => f.at_ i s (h.at_ i s e)⟩
theorem Sub.refl : ∀ (A : Pat), Sub A A
  | [] => .nil
  | _ :: A => .eq (Sub.refl A)
/-- what is told of the slots where an exception leaves -/
abbrev EP := Env → Prop
def Cov (E : EP) (L : Pat) : Prop := ∀ ρ, Fits L ρ → E ρ
theorem cov_any {L : Pat} : Cov (fun _ => True) L := fun _ _ => trivial
theorem cov_sub {A L : Pat} (h : Sub A L) : Cov (Fits A) L := fun _ f => h.fits f

/-! ### expressions -/
/-- r has the outcome m -/
def RX {α β : Type} (E : EP) (P : β → α → Env → Prop) (r : R α) : X β → Prop
  | .ok b => ∃ a ρ', r = .ok a ρ' ∧ P b a ρ'
  | .exc c => ∃ ρ', r = .exc c ρ' ∧ E ρ'
  | .bad => True
section
variable {α β γ δ : Type} {E : EP}
theorem RX.ok {P : β → α → Env → Prop} {b : β} {a : α} {ρ : Env} (h : P b a ρ) : RX E P (.ok a ρ) (.ok b) := ⟨a, ρ, rfl, h⟩
theorem RX.bad {P : β → α → Env → Prop} {r : R α} : RX E P r .bad := trivial
theorem RX.bind {P : β → α → Env → Prop} {Q : δ → γ → Env → Prop} {r : R α} {m : X β} {k : α → Env → R γ} {K : β → X δ} (h : RX E P r m) (t : ∀ b a ρ', P b a ρ' → RX E Q (k a ρ') (K b)) : RX E Q (r.bind k) (m.bind K) := by
  cases m with
  | ok b =>
    obtain ⟨a, ρ', rfl, p⟩ := h
    exact t b a ρ' p
  | exc c =>
    obtain ⟨ρ', rfl, p⟩ := h
    exact ⟨ρ', rfl, p⟩
  | bad => trivial
/-- a step of the reading alone -/
theorem RX.bind1 {P : β → α → Env → Prop} {Q : β → γ → Env → Prop} {r : R α} {m : X β} {k : α → Env → R γ} (h : RX E P r m) (t : ∀ b a ρ', P b a ρ' → RX E Q (k a ρ') (.ok b)) : RX E Q (r.bind k) m := by
  cases m with
  | ok b =>
    obtain ⟨a, ρ', rfl, p⟩ := h
    exact t b a ρ' p
  | exc c =>
    obtain ⟨ρ', rfl, p⟩ := h
    exact ⟨ρ', rfl, p⟩
  | bad => trivial
theorem RX.imp {P Q : β → α → Env → Prop} {r : R α} {m : X β} (h : RX E P r m) (t : ∀ b a ρ', P b a ρ' → Q b a ρ') : RX E Q r m := by
  cases m with
  | ok b =>
    obtain ⟨a, ρ', e, p⟩ := h
    exact ⟨a, ρ', e, t _ _ _ p⟩
  | exc c => exact h
  | bad => trivial
end
/-- w is worth d wherever the slots are so -/
def HasD (L : Pat) (w : W) (d : D) : Prop := ∀ ρ, Fits L ρ → w.nrm.dat ρ = some d
def PXw (E : EP) (L : Pat) (e : Env → R W) (m : X O) : Prop := ∀ ρ, Fits L ρ → RX E (fun o w ρ' => Fits L ρ' ∧ HasD L w o.dat) (e ρ) m
def PX (E : EP) (L L2 : Pat) (e : Env → R W) (m : X O) : Prop := ∀ ρ, Fits L ρ → RX E (fun o w ρ' => w = .o o ∧ Fits L2 ρ') (e ρ) m
def PF (E : EP) (L L2 : Pat) (e : Env → R W) (m : X O) : Prop := ∀ ρ, Fits L ρ → RX E (fun o w ρ' => w = .val o.dat ∧ Fits L2 ρ') (eFz e ρ) m
def PT (E : EP) (L : Pat) (e : Env → R Bool) (m : X Bool) : Prop := ∀ ρ, Fits L ρ → RX E (fun b c ρ' => c = b ∧ Fits L ρ') (e ρ) m
def PIx (E : EP) (L L2 : Pat) (e : Env → R (List D)) (m : X (List D)) : Prop := ∀ ρ, Fits L ρ → RX E (fun b c ρ' => c = b ∧ Fits L2 ρ') (e ρ) m
def POx (E : EP) (L : Pat) (e : Env → R (Option Int)) (m : X (Option Int)) : Prop := ∀ ρ, Fits L ρ → RX E (fun b c ρ' => c = b ∧ Fits L ρ') (e ρ) m
/-- arguments read; kept for a call; kept for a display -/
def PAn (E : EP) (L : Pat) (e : Env → R (List W)) (m : X (List D)) : Prop := ∀ ρ, Fits L ρ → RX E (fun ds ws ρ' => Fits L ρ' ∧ ∀ ρ, Fits L ρ → datAll ρ ws = some ds) (e ρ) m
def PAd (E : EP) (L L2 : Pat) (ms : List Md) (e : Env → R (List W)) (m : X (List D)) : Prop := ∀ ρ, Fits L ρ → RX E (fun ds ws ρ' => Fits L2 ρ' ∧ argD ms ws ρ' = some (ds, [])) (e ρ) m
def PAv (E : EP) (L L2 : Pat) (e : Env → R (List W)) (m : X (List D)) : Prop := ∀ ρ, Fits L ρ → RX E (fun ds ws ρ' => Fits L2 ρ' ∧ valAll ws = some ds) (e ρ) m
section
variable {E : EP} {L L1 L2 L3 : Pat} {e a b c : Env → R W} {m ma mb mc : X O}
theorem PX.w (h : PX E L L e m) : PXw E L e m := fun ρ f => (h ρ f).imp fun o w ρ' z => ⟨z.2, fun _ _ => by rw [z.1]; rfl⟩
theorem PX.f (h : PX E L L2 e m) : PF E L L2 e m := fun ρ f => by
  show RX E _ ((R.bind (e ρ) _).bind _) m
  refine RX.bind1 (RX.bind1 (P := fun o w ρ' => w = .o o ∧ Fits L2 ρ') (Q := fun o w ρ' => w = .val o.dat ∧ Fits L2 ρ') (h ρ f) fun o w ρ' z => ?_) fun o w ρ' z => ?_
  · rw [z.1]; exact RX.ok ⟨rfl, z.2⟩
  · rw [z.1]; exact RX.ok ⟨rfl, z.2⟩
/-- the settled value -/
theorem PXw.n (h : PXw E L e m) : ∀ ρ, Fits L ρ → RX E (fun o w ρ' => Fits L ρ' ∧ ∀ ρ, Fits L ρ → w.dat ρ = some o.dat) (eNrm e ρ) m := fun ρ f => RX.bind1 (h ρ f) fun o w ρ' z => RX.ok z
theorem px_var {i : Nat} {d : D} (h : L.at_ i = some (.fz d)) : PX E L L (eVar i) (X.v d) := fun ρ f => by
  unfold eVar
  rw [f.at_ i _ h]
  exact RX.ok ⟨rfl, f⟩
theorem px_own {i : Nat} {xs : List D} (h : L.at_ i = some (.fl xs)) : PXw E L (eVar i) (X.v (.list xs)) := fun ρ f => by
  unfold eVar
  rw [f.at_ i _ h]
  refine RX.ok ⟨f, fun ρ' f' => ?_⟩
  show (ρ'[i]?).bind Sl.dat = _
  rw [f'.at_ i _ h]
  rfl
theorem px_io {i j : Nat} {xs : List D} (h : L.at_ i = some (.io j xs)) : PXw E L (eVar i) (X.v (.list xs)) := fun ρ f => by
  unfold eVar
  rw [f.at_ i _ h]
  refine RX.ok ⟨f, fun ρ' f' => ?_⟩
  show (ρ'[i]?).bind Sl.dat = _
  rw [f'.at_ i _ h]
  rfl
/-- a list of one's own is frozen -/
theorem pf_own {i : Nat} {xs : List D} (h : L.at_ i = some (.fl xs)) : PF E L (L.put i (some (.fz (.list xs)))) (eVar i) (X.v (.list xs)) := fun ρ f => by
  have q := f.at_ i _ h
  have e1 : eFz (eVar i) ρ = .ok (.val (.list xs)) (ρ.set i (.fz (.list xs))) := by
    unfold eFz eNrm eVar
    simp only [q, R.bind_ok]
    unfold fz1
    simp only [W.nrm, q]
  rw [e1]
  exact RX.ok ⟨rfl, f.put i _⟩
theorem px_c {d : D} : PX E L L (eC d) (X.v d) := fun ρ f => RX.ok ⟨rfl, f⟩
theorem px_sc {i : Nat} {ns : List Int} (h : L.at_ i = some (.sc ns)) : PX E L L (eSc i) (.ok (.fl (ns.map PyData.int))) := fun ρ f => by
  unfold eSc
  rw [f.at_ i _ h]
  exact RX.ok ⟨rfl, f⟩
theorem rx_ofP {p : Option P1} {ρ : Env} (f : Fits L ρ) : RX E (fun o w ρ' => w = W.o o ∧ Fits L ρ') (outP p ρ) (X.ofP p) := by
  cases p with
  | none => trivial
  | some p => exact RX.ok ⟨rfl, f⟩
theorem px_bin {g : D → D → Option P1} (ha : PXw E L a ma) (hb : PXw E L b mb) : PX E L L (eBin g a b) (X.op2 g ma mb) := fun ρ f => by
  refine RX.bind (ha.n ρ f) fun x wa ρ1 ⟨f1, h1⟩ => RX.bind (hb.n ρ1 f1) fun y wb ρ2 ⟨f2, h2⟩ => ?_
  simp only [h1 ρ2 f2, h2 ρ2 f2]
  exact rx_ofP f2
theorem px_un {g : D → Option P1} (ha : PXw E L a ma) : PX E L L (eUn g a) (X.op1 g ma) := fun ρ f => by
  refine RX.bind (ha.n ρ f) fun x wa ρ1 ⟨f1, h1⟩ => ?_
  simp only [h1 ρ1 f1]
  exact rx_ofP f1
theorem px_isi {Tn : String} (ha : PXw E L a ma) : PX E L L (eIsi Tn a) (X.isi Tn ma) := fun ρ f => by
  refine RX.bind (ha.n ρ f) fun x wa ρ1 ⟨f1, h1⟩ => ?_
  simp only [h1 ρ1 f1]
  exact RX.ok ⟨rfl, f1⟩
/-! arguments -/
theorem pan_nil : PAn E L aNil X.nil := fun ρ f => RX.ok ⟨f, fun _ _ => rfl⟩
theorem pan_cons {r : Env → R (List W)} {mr : X (List D)} (ha : PXw E L a ma) (hr : PAn E L r mr) : PAn E L (aCons (eNrm a) r) (X.cons ma mr) := fun ρ f => by
  refine RX.bind (ha.n ρ f) fun x wa ρ1 ⟨f1, h1⟩ => RX.bind (hr ρ1 f1) fun ds ws ρ2 ⟨f2, h2⟩ => RX.ok ⟨f2, fun ρ' f' => ?_⟩
  unfold datAll
  simp only [h1 ρ' f', h2 ρ' f']
theorem px_n {g : List D → Option P1} {fa : Env → R (List W)} {ms : X (List D)} (h : PAn E L fa ms) : PX E L L (eN g fa) (X.opN g ms) := fun ρ f => by
  refine RX.bind (h ρ f) fun ds ws ρ1 ⟨f1, h1⟩ => ?_
  simp only [h1 ρ1 f1]
  exact rx_ofP f1
theorem pav_nil : PAv E L L aNil X.nil := fun ρ f => RX.ok ⟨f, rfl⟩
theorem pav_cons {r : Env → R (List W)} {mr : X (List D)} (ha : PF E L L1 a ma) (hr : PAv E L1 L2 r mr) : PAv E L L2 (aCons (eFz a) r) (X.cons ma mr) := fun ρ f => by
  refine RX.bind (ha ρ f) fun x wa ρ1 ⟨h1, f1⟩ => RX.bind (hr ρ1 f1) fun ds ws ρ2 ⟨f2, h2⟩ => RX.ok ⟨f2, ?_⟩
  rw [h1]
  unfold valAll
  rw [h2]
theorem px_tup {fa : Env → R (List W)} {ms : X (List D)} (h : PAv E L L2 fa ms) : PX E L L2 (eTup fa) (X.tup ms) := fun ρ f => by
  refine RX.bind (h ρ f) fun ds ws ρ1 ⟨f1, h1⟩ => ?_
  simp only [h1]
  by_cases hl : ds.length ≤ sizeLine
  · rw [if_pos hl, if_pos hl]; exact RX.ok ⟨rfl, f1⟩
  · rw [if_neg hl, if_neg hl]; exact RX.bad
theorem px_lst {fa : Env → R (List W)} {ms : X (List D)} (h : PAv E L L2 fa ms) : PX E L L2 (eLst fa) (X.lst ms) := fun ρ f => by
  refine RX.bind (h ρ f) fun ds ws ρ1 ⟨f1, h1⟩ => ?_
  simp only [h1]
  by_cases hl : ds.length ≤ sizeLine
  · rw [if_pos hl, if_pos hl]; exact RX.ok ⟨rfl, f1⟩
  · rw [if_neg hl, if_neg hl]; exact RX.bad
/-! calls -/
theorem pad_nil : PAd E L L [] aNil X.nil := fun ρ f => RX.ok ⟨f, rfl⟩
theorem pad_cons {r : Env → R (List W)} {mr : X (List D)} {ms : List Md} (ha : PF E L L1 a ma) (hr : PAd E L1 L2 ms r mr) : PAd E L L2 (.d :: ms) (aCons (eFz a) r) (X.cons ma mr) := fun ρ f => by
  refine RX.bind (ha ρ f) fun x wa ρ1 ⟨h1, f1⟩ => RX.bind (hr ρ1 f1) fun ds ws ρ2 ⟨f2, h2⟩ => RX.ok ⟨f2, ?_⟩
  rw [h1]
  unfold argD
  rw [h2]
theorem pad_er {i : Nat} {k : Str} {r : Env → R (List W)} {mr : X (List D)} {ms : List Md} (h : L.at_ i = some (.er k)) (h2 : L2.at_ i = some (.er k)) (hr : PAd E L L2 ms r mr) : PAd E L L2 (.er :: ms) (aEr i r) (X.cons (X.v (.str k)) mr) := fun ρ f => by
  unfold aEr
  rw [f.at_ i _ h]
  refine RX.bind (m := mr) (K := fun ds => .ok (_ :: ds)) (hr ρ f) fun ds ws ρ2 ⟨f2, h3⟩ => RX.ok ⟨f2, ?_⟩
  unfold argD
  rw [f2.at_ i _ h2, h3]
  rfl
theorem pad_sc {i : Nat} {ns : List Int} {r : Env → R (List W)} {mr : X (List D)} {ms : List Md} (h : L.at_ i = some (.sc ns)) (h2 : L2.at_ i = some (.sc ns)) (hr : PAd E L L2 ms r mr) : PAd E L L2 (.sc :: ms) (aSc i r) (X.cons (X.v (.list (ns.map PyData.int))) mr) := fun ρ f => by
  unfold aSc
  rw [f.at_ i _ h]
  refine RX.bind (m := mr) (K := fun ds => .ok (_ :: ds)) (hr ρ f) fun ds ws ρ2 ⟨f2, h3⟩ => RX.ok ⟨f2, ?_⟩
  unfold argD
  rw [f2.at_ i _ h2, h3]
  rfl
/-- sem does what g says; nothing is handed in to be changed -/
def Sem0 (sem : DefSem) (g : List D → X O) : Prop := ∀ ds, match g ds with
  | .ok o => sem ds = .ret o []
  | .exc c => sem ds = .exc c []
  | .bad => True
def X.call (g : List D → X O) (as : X (List D)) : X O := as.bind g
/-- (not by rfl: the kernel is not to unfold g) -/
@[simp] theorem X.call_ok (g : List D → X O) (ds : List D) : X.call g (.ok ds) = g ds := Eq.trans (Eq.refl _) (Eq.refl _)
theorem px_call {ms : List Md} {sem : DefSem} {g : List D → X O} {fa : Env → R (List W)} {as : X (List D)} (s : Sem0 sem g) (h : PAd E L L2 ms fa as) (hE : Cov E L2) : PX E L L2 (eCall ms sem fa) (X.call g as) := fun ρ f => by
  refine RX.bind (h ρ f) fun ds ws ρ1 ⟨f1, h1⟩ => ?_
  have z := s ds
  simp only [h1, List.nodup_nil, if_true]
  cases hg : g ds with
  | bad => exact RX.bad
  | ok o => rw [hg] at z; rw [z]; unfold outR putL; exact RX.ok ⟨rfl, f1⟩
  | exc c => rw [hg] at z; rw [z]; unfold outR putL; exact ⟨ρ1, rfl, hE _ f1⟩
/-! chains -/
theorem px_ch2 {g g' : D → D → Option P1} (ha : PXw E L a ma) (hb : PXw E L b mb) (hc : PXw E L c mc) : PX E L L (eCh2 g g' a b c) (X.ch2 g g' ma mb mc) := fun ρ f => by
  refine RX.bind (ha.n ρ f) fun x wa ρ1 ⟨f1, h1⟩ => RX.bind (hb.n ρ1 f1) fun y wb ρ2 ⟨f2, h2⟩ => ?_
  simp only [h1 ρ2 f2, h2 ρ2 f2]
  cases boolP (g x.dat y.dat) with
  | none => exact RX.bad
  | some t =>
    cases t with
    | false => exact RX.ok ⟨rfl, f2⟩
    | true =>
      refine RX.bind (hc.n ρ2 f2) fun z wc ρ3 ⟨f3, h3⟩ => ?_
      simp only [h2 ρ3 f3, h3 ρ3 f3]
      exact rx_ofP f3
theorem px_ch3 {d : Env → R W} {md : X O} {g g' g'' : D → D → Option P1} (ha : PXw E L a ma) (hb : PXw E L b mb) (hc : PXw E L c mc) (hd : PXw E L d md) : PX E L L (eCh3 g g' g'' a b c d) (X.ch3 g g' g'' ma mb mc md) := fun ρ f => by
  refine RX.bind (ha.n ρ f) fun x wa ρ1 ⟨f1, h1⟩ => RX.bind (hb.n ρ1 f1) fun y wb ρ2 ⟨f2, h2⟩ => ?_
  simp only [h1 ρ2 f2, h2 ρ2 f2]
  cases boolP (g x.dat y.dat) with
  | none => exact RX.bad
  | some t =>
    cases t with
    | false => exact RX.ok ⟨rfl, f2⟩
    | true =>
      refine RX.bind (hc.n ρ2 f2) fun z wc ρ3 ⟨f3, h3⟩ => ?_
      simp only [h2 ρ3 f3, h3 ρ3 f3]
      cases boolP (g' y.dat z.dat) with
      | none => exact RX.bad
      | some t =>
        cases t with
        | false => exact RX.ok ⟨rfl, f3⟩
        | true =>
          refine RX.bind (hd.n ρ3 f3) fun u wd ρ4 ⟨f4, h4⟩ => ?_
          simp only [h3 ρ4 f4, h4 ρ4 f4]
          exact rx_ofP f4
/-! tests -/
theorem pt_B (ha : PXw E L a ma) : PT E L (tstB a) (X.tB ma) := fun ρ f => by
  refine RX.bind (ha.n ρ f) fun x wa ρ1 ⟨f1, h1⟩ => ?_
  unfold boolW
  simp only [h1 ρ1 f1]
  cases x.dat <;> first | exact RX.bad | exact RX.ok ⟨rfl, f1⟩
theorem pt_V (ha : PXw E L a ma) : PT E L (tstV a) (X.tV ma) := fun ρ f => by
  refine RX.bind (ha.n ρ f) fun x wa ρ1 ⟨f1, h1⟩ => ?_
  unfold truW
  simp only [h1 ρ1 f1]
  exact RX.ok ⟨rfl, f1⟩
variable {s t : Env → R Bool} {ms mt : X Bool}
theorem pt_and (hs : PT E L s ms) (ht : PT E L t mt) : PT E L (tAndS s t) (X.tAnd ms mt) := fun ρ f => by
  refine RX.bind (hs ρ f) fun x c ρ1 ⟨hc, f1⟩ => ?_
  subst hc
  cases c with
  | true => exact ht ρ1 f1
  | false => exact RX.ok ⟨rfl, f1⟩
theorem pt_or (hs : PT E L s ms) (ht : PT E L t mt) : PT E L (tOrS s t) (X.tOr ms mt) := fun ρ f => by
  refine RX.bind (hs ρ f) fun x c ρ1 ⟨hc, f1⟩ => ?_
  subst hc
  cases c with
  | false => exact ht ρ1 f1
  | true => exact RX.ok ⟨rfl, f1⟩
theorem pt_not (hs : PT E L s ms) : PT E L (tNotS s) (X.tNot ms) := fun ρ f => by
  refine RX.bind (hs ρ f) fun x c ρ1 ⟨hc, f1⟩ => ?_
  subst hc
  exact RX.ok ⟨rfl, f1⟩
theorem pt_yes : PT E L tYesS (.ok true) := fun ρ f => RX.ok ⟨rfl, f⟩
theorem px_and (ha : PXw E L a ma) (hb : PX E L L b mb) : PX E L L (eAndB a b) (X.and ma mb) := fun ρ f => by
  refine RX.bind (pt_B ha ρ f) fun x c ρ1 ⟨hc, f1⟩ => ?_
  subst hc
  cases c with
  | true => exact hb ρ1 f1
  | false => exact RX.ok ⟨rfl, f1⟩
theorem px_or (ha : PXw E L a ma) (hb : PX E L L b mb) : PX E L L (eOrB a b) (X.or ma mb) := fun ρ f => by
  refine RX.bind (pt_B ha ρ f) fun x c ρ1 ⟨hc, f1⟩ => ?_
  subst hc
  cases c with
  | false => exact hb ρ1 f1
  | true => exact RX.ok ⟨rfl, f1⟩
theorem px_not (ha : PXw E L a ma) : PX E L L (eNotB a) (X.not ma) := fun ρ f => by
  refine RX.bind (pt_B ha ρ f) fun x c ρ1 ⟨hc, f1⟩ => ?_
  subst hc
  exact RX.ok ⟨rfl, f1⟩
theorem px_if (ht : PT E L t mt) (ha : PX E L L2 a ma) (hb : PX E L L2 b mb) : PX E L L2 (eIf t a b) (X.cond mt ma mb) := fun ρ f => by
  refine RX.bind (ht ρ f) fun x c ρ1 ⟨hc, f1⟩ => ?_
  subst hc
  cases c with
  | true => exact ha ρ1 f1
  | false => exact hb ρ1 f1
theorem pxw_if (ht : PT E L t mt) (ha : PXw E L a ma) (hb : PXw E L b mb) : PXw E L (eIf t a b) (X.cond mt ma mb) := fun ρ f => by
  refine RX.bind (ht ρ f) fun x c ρ1 ⟨hc, f1⟩ => ?_
  subst hc
  cases c with
  | true => exact ha ρ1 f1
  | false => exact hb ρ1 f1
/-! slices -/
theorem po_no : POx E L oNone X.noI := fun ρ f => RX.ok ⟨rfl, f⟩
theorem po_so (ha : PXw E L a ma) : POx E L (oSome a) (X.soI ma) := fun ρ f => by
  refine RX.bind (ha.n ρ f) fun x wa ρ1 ⟨f1, h1⟩ => ?_
  simp only [h1 ρ1 f1]
  cases x.dat <;> first | exact RX.bad | exact RX.ok ⟨rfl, f1⟩
theorem px_sl {lo hi : Env → R (Option Int)} {ml mh : X (Option Int)} (ha : PXw E L a ma) (hl : POx E L lo ml) (hh : POx E L hi mh) : PX E L L (eSl a lo hi) (X.sl ma ml mh) := fun ρ f => by
  refine RX.bind (ha.n ρ f) fun x wa ρ1 ⟨f1, h1⟩ => RX.bind (hl ρ1 f1) fun i i' ρ2 ⟨h2, f2⟩ => RX.bind (hh ρ2 f2) fun j j' ρ3 ⟨h3, f3⟩ => ?_
  simp only [h1 ρ3 f3, h2, h3]
  exact rx_ofP f3
/-! the handled exception -/
theorem px_isE {i : Nat} {k : Str} {tbl : List (Str × Bool)} (h : L.at_ i = some (.er k)) : PX E L L (eIsE tbl i) (X.isE tbl k) := fun ρ f => by
  unfold eIsE X.isE
  rw [f.at_ i _ h]
  show RX E _ (match tbl.lookup k with | some b => R.ok (W.val (.bool b)) ρ | none => .bad) (match tbl.lookup k with | some b => X.ok (O.fz (.bool b)) | none => .bad)
  cases tbl.lookup k with
  | none => exact RX.bad
  | some b => exact ⟨_, ρ, rfl, rfl, f⟩
/-! what loops walk -/
theorem pi_sq (h : PF E L L2 a ma) : PIx E L L2 (iSq a) (X.seqI ma) := fun ρ f => by
  show RX E _ ((eFz a ρ).bind itW) (ma.bind X.asSeq)
  refine RX.bind (h ρ f) fun x w ρ1 q => ?_
  obtain ⟨hw, f1⟩ := q
  rw [hw]
  cases x with
  | fl xs => exact ⟨xs, ρ1, rfl, rfl, f1⟩
  | tp ps => exact RX.bad
  | fz d => cases d <;> first | exact RX.bad | exact ⟨_, ρ1, rfl, rfl, f1⟩
theorem pi_r1 (h : PXw E L a ma) : PIx E L L (iR1 (aCons (eNrm a) aNil)) (X.range1 ma) := fun ρ f => by
  have q : X.range1 ma = (X.cons ma X.nil).bind fun ds => match ds with
    | [d] => X.rng1 d
    | _ => .bad := by cases ma <;> rfl
  rw [q]
  refine RX.bind (pan_cons (r := aNil) h pan_nil ρ f) fun ds ws ρ1 ⟨f1, h1⟩ => ?_
  simp only [h1 ρ1 f1]
  match ds with
  | [] => exact RX.bad
  | _ :: _ :: _ => exact RX.bad
  | [d] =>
    cases d with
    | int j =>
      show RX E _ (if inR j = true then _ else _) (if inR j = true then _ else _)
      by_cases q : inR j = true
      · rw [if_pos q, if_pos q]; exact RX.ok ⟨rfl, f1⟩
      · rw [if_neg q, if_neg q]; exact RX.bad
    | _ => exact RX.bad
theorem pi_r2 (h : PXw E L a ma) (hb : PXw E L b mb) : PIx E L L (iR2 (aCons (eNrm a) (aCons (eNrm b) aNil))) (X.range2 ma mb) := fun ρ f => by
  have q : X.range2 ma mb = (X.cons ma (X.cons mb X.nil)).bind fun ds => match ds with
    | [d, e] => X.rng2 d e
    | _ => .bad := by cases ma <;> cases mb <;> rfl
  rw [q]
  refine RX.bind (pan_cons h (pan_cons (r := aNil) hb pan_nil) ρ f) fun ds ws ρ1 ⟨f1, h1⟩ => ?_
  simp only [h1 ρ1 f1]
  match ds with
  | [] => exact RX.bad
  | [_] => exact RX.bad
  | _ :: _ :: _ :: _ => exact RX.bad
  | [d, e] =>
    cases d with
    | int i =>
      cases e with
      | int j =>
        show RX E _ (if (inR i && inR j) = true then _ else _) (if (inR i && inR j) = true then _ else _)
        by_cases q : (inR i && inR j) = true
        · rw [if_pos q, if_pos q]; exact RX.ok ⟨rfl, f1⟩
        · rw [if_neg q, if_neg q]; exact RX.bad
      | _ => exact RX.bad
    | _ => exact RX.bad
end
end PL
end
section
set_option Elab.async false
set_option linter.all false
set_option maxRecDepth 100000
set_option maxHeartbeats 2000000
set_option autoImplicit false
/-! From readings to plain functions: effects on the slots, targets, comprehensions. -/
namespace PL
open PySem L2

/-! ### lists that change -/
def Sl.lst : Sl → Option (List D)
  | .fl xs => some xs
  | .io _ xs => some xs
  | _ => none
section
variable {L : Pat} {ρ : Env} {i : Nat} {s : Sl} {xs : List D}
theorem ownL_at (f : Fits L ρ) (h : L.at_ i = some s) (hs : s.lst = some xs) : ownL ρ i = some xs := by
  unfold ownL
  rw [f.at_ i _ h]
  cases s <;> first | exact hs | cases hs
theorem setL_at (f : Fits L ρ) (h : L.at_ i = some s) (ys : List D) : Fits (L.put i (some (s.put ys))) (setL ρ i ys) := by
  unfold setL
  rw [f.at_ i _ h]
  exact f.put i _
end

/-! ### steps with an effect: what is left to be done is told with them -/
/-- e at L gives a value a at L', and the rest M of the program is right there -/
def KX {α β : Type} (E : EP) (L : Pat) (e : Env → R α) (M : X β) (Post : Pat → α → X β → Prop) : Prop :=
  ∀ ρ, Fits L ρ → M = .bad ∨ (∃ k ρ', M = .exc k ∧ e ρ = .exc k ρ' ∧ E ρ') ∨ ∃ a ρ' L', e ρ = .ok a ρ' ∧ Fits L' ρ' ∧ Post L' a M
/-- .. a new value -/
def KW {β : Type} (E : EP) (L : Pat) (e : Env → R W) (M : X β) (Post : Pat → O → X β → Prop) : Prop := KX E L e M fun L' w M' => ∃ o, w = .o o ∧ Post L' o M'
section
variable {α β γ : Type} {E : EP} {L L2 : Pat}
theorem KX.bind {e : Env → R α} {k : α → Env → R γ} {M : X β} {Post : Pat → γ → X β → Prop} (h : KX E L e M fun L1 a M1 => KX E L1 (k a) M1 Post) : KX E L (fun ρ => (e ρ).bind k) M Post := fun ρ f => by
  rcases h ρ f with h | ⟨k', ρ', h1, h2, h3⟩ | ⟨a, ρ', L', h1, h2, h3⟩
  · exact .inl h
  · exact .inr (.inl ⟨k', ρ', h1, by show R.bind (e ρ) k = _; rw [h2]; rfl, h3⟩)
  · show _ ∨ (∃ k' ρ', M = X.exc k' ∧ R.bind (e ρ) k = R.exc k' ρ' ∧ E ρ') ∨ ∃ a ρ' L', R.bind (e ρ) k = R.ok a ρ' ∧ Fits L' ρ' ∧ Post L' a M
    rw [h1]
    exact h3 ρ' h2
theorem KX.ret {M : X β} {Post : Pat → α → X β → Prop} {a : α} (h : Post L a M) : KX E L (fun ρ => .ok a ρ) M Post := fun ρ f => .inr (.inr ⟨a, ρ, L, rfl, f, h⟩)
theorem KX.imp {e : Env → R α} {M : X β} {P Q : Pat → α → X β → Prop} (h : KX E L e M P) (t : ∀ L a M, P L a M → Q L a M) : KX E L e M Q := fun ρ f =>
  (h ρ f).imp id fun z => z.imp id fun ⟨a, ρ', L', q1, q2, q3⟩ => ⟨a, ρ', L', q1, q2, t _ _ _ q3⟩
theorem KX.eq {e e' : Env → R α} {M : X β} {P : Pat → α → X β → Prop} (h : KX E L e M P) (t : ∀ ρ, Fits L ρ → e' ρ = e ρ) : KX E L e' M P := fun ρ f => by
  rw [t ρ f]
  exact h ρ f
variable {a b : Env → R W} {M : X β} {Post : Pat → O → X β → Prop}
theorem kw_px {m : X O} {K : O → X β} (h : PX E L L2 a m) (t : ∀ o, Post L2 o (K o)) : KW E L a (m.bind K) Post := fun ρ f => by
  have z := h ρ f
  cases m with
  | bad => exact .inl rfl
  | exc k => obtain ⟨ρ', e1, f1⟩ := z; exact .inr (.inl ⟨k, ρ', rfl, e1, f1⟩)
  | ok o => obtain ⟨w, ρ', e1, hw, f1⟩ := z; exact .inr (.inr ⟨w, ρ', L2, e1, f1, o, hw, t o⟩)
theorem kw_c {d : D} (t : Post L (.fz d) M) : KW E L (eC d) M Post := fun ρ f => .inr (.inr ⟨_, ρ, L, rfl, f, _, rfl, t⟩)
theorem kw_var {i : Nat} {d : D} (h : L.at_ i = some (.fz d)) (t : Post L (.fz d) M) : KW E L (eVar i) M Post := fun ρ f => by
  refine .inr (.inr ⟨.val d, ρ, L, ?_, f, _, rfl, t⟩)
  unfold eVar
  rw [f.at_ i _ h]
/-- a list that a name holds, only read -/
theorem kw_nrm (h : KW E L a M Post) : KX E L (eNrm a) M fun L' w M' => ∃ o, w = .val o.dat ∧ Post L' o M' :=
  KX.bind (KX.imp h fun L1 w M1 ⟨o, hw, p⟩ => KX.ret ⟨o, by rw [hw]; rfl, p⟩)
theorem kw_fz (h : KW E L a M Post) : KX E L (eFz a) M fun L' w M' => ∃ o, w = .val o.dat ∧ Post L' o M' :=
  KX.bind (KX.imp (kw_nrm h) fun L1 w M1 ⟨o, hw, p⟩ => by
    rw [hw]
    exact KX.ret (a := W.val o.dat) ⟨o, rfl, p⟩)
theorem KX.ofP {p : Option P1} {P : Pat → O → X β → Prop} (h : ∃ K, M = (X.ofP p).bind K ∧ ∀ o, P L o (K o)) : KW E L (outP p) M P := fun ρ f => by
  obtain ⟨K, rfl, t⟩ := h
  cases p with
  | none => exact .inl rfl
  | some p => exact .inr (.inr ⟨_, ρ, L, rfl, f, _, rfl, t p.o⟩)
theorem kw_bin {g : D → D → Option P1} (h : KW E L a M fun L1 x M1 => KW E L1 b M1 fun L2 y M2 => ∃ K, M2 = (X.ofP (g x.dat y.dat)).bind K ∧ ∀ o, Post L2 o (K o)) : KW E L (eBin g a b) M Post :=
  KX.bind (KX.imp (kw_nrm h) fun L1 w M1 ⟨x, hw, h1⟩ => KX.bind (KX.imp (kw_nrm h1) fun L2 u M2 ⟨y, hu, h2⟩ => by
    rw [hw, hu]
    exact KX.eq (KX.ofP h2) fun ρ _ => rfl))
/-- the first is a list that a name holds and that stays as it is -/
theorem kw_bino {g : D → D → Option P1} {i : Nat} {s : Sl} {xs : List D} (hi : L.at_ i = some s) (hs : s.lst = some xs) (h : KW E L b M fun L2 y M2 => (L2.at_ i = some s) ∧ ∃ K, M2 = (X.ofP (g (.list xs) y.dat)).bind K ∧ ∀ o, Post L2 o (K o)) : KW E L (eBin g (eVar i) b) M Post := by
  have e1 : ∀ ρ, Fits L ρ → eNrm (eVar i) ρ = .ok (.own i) ρ := fun ρ f => by
    unfold eNrm eVar
    rw [f.at_ i _ hi]
    cases s <;> first | rfl | cases hs
  refine KX.bind (KX.eq (KX.ret (a := W.own i) ?_) e1)
  refine KX.bind (KX.imp (kw_nrm h) fun L2 u M2 ⟨y, hu, q, h2⟩ => ?_)
  rw [hu]
  refine KX.eq (KX.ofP h2) fun ρ f => ?_
  have : W.dat ρ (.own i) = some (.list xs) := by
    show (ρ[i]?).bind Sl.dat = _
    rw [f.at_ i _ q]
    cases s <;> first | cases hs; rfl | cases hs
  simp only [this]
  rfl
theorem kw_un {g : D → Option P1} (h : KW E L a M fun L1 x M1 => ∃ K, M1 = (X.ofP (g x.dat)).bind K ∧ ∀ o, Post L1 o (K o)) : KW E L (eUn g a) M Post :=
  KX.bind (KX.imp (kw_nrm h) fun L1 w M1 ⟨x, hw, h1⟩ => by
    rw [hw]
    exact KX.eq (KX.ofP h1) fun ρ _ => rfl)
/-! arguments -/
variable {PostA : Pat → List W → X β → Prop} {r : Env → R (List W)}
theorem ka_nil (h : PostA L [] M) : KX E L aNil M PostA := fun ρ f => .inr (.inr ⟨[], ρ, L, rfl, f, h⟩)
theorem ka_f (h : KW E L a M fun L1 x M1 => KX E L1 r M1 fun L2 ws M2 => PostA L2 (.val x.dat :: ws) M2) : KX E L (aCons (eFz a) r) M PostA :=
  KX.bind (KX.imp (kw_fz h) fun L1 w M1 ⟨x, hw, h1⟩ => KX.bind (KX.imp h1 fun L2 ws M2 h2 => by rw [hw]; exact KX.ret h2))
theorem ka_n (h : KW E L a M fun L1 x M1 => KX E L1 r M1 fun L2 ws M2 => PostA L2 (.val x.dat :: ws) M2) : KX E L (aCons (eNrm a) r) M PostA :=
  KX.bind (KX.imp (kw_nrm h) fun L1 w M1 ⟨x, hw, h1⟩ => KX.bind (KX.imp h1 fun L2 ws M2 h2 => by rw [hw]; exact KX.ret h2))
theorem ka_io {i : Nat} {s : Sl} (hi : L.at_ i = some s) (hs : s.own = true) (h : KX E L r M fun L2 ws M2 => PostA L2 (.own i :: ws) M2) : KX E L (aCons (eNrm (eVar i)) r) M PostA := by
  have e1 : ∀ ρ, Fits L ρ → eNrm (eVar i) ρ = .ok (.own i) ρ := fun ρ f => by
    unfold eNrm eVar
    rw [f.at_ i _ hi]
    cases s <;> first | rfl | cases hs
  exact KX.bind (KX.eq (KX.ret (a := W.own i) (KX.bind (KX.imp h fun L2 ws M2 h2 => KX.ret h2))) e1)
/-- .. the same, pure arguments -/
theorem ka_pf {m : X O} {K : O → X β} (h : PF E L L2 a m) (t : ∀ x, KX E L2 r (K x) fun L2 ws M2 => PostA L2 (.val x.dat :: ws) M2) : KX E L (aCons (eFz a) r) (m.bind K) PostA := by
  refine KX.bind fun ρ f => ?_
  have z := h ρ f
  cases m with
  | bad => exact .inl rfl
  | exc k => obtain ⟨ρ', e1, f1⟩ := z; exact .inr (.inl ⟨k, ρ', rfl, e1, f1⟩)
  | ok o =>
    obtain ⟨w, ρ', e1, hw, f1⟩ := z
    refine .inr (.inr ⟨w, ρ', L2, e1, f1, KX.bind (KX.imp (t o) fun L3 ws M2 h2 => ?_)⟩)
    rw [hw]
    exact KX.ret h2
/-- what a call takes, by what is known of the slots -/
def argP : List Md → List W → Pat → Option (List D × List Nat)
  | [], [], _ => some ([], [])
  | .d :: ms, .o (.fz d) :: ws, L => (argP ms ws L).map fun q => (d :: q.1, q.2)
  | .io :: ms, .own i :: ws, L => (Pat.at_ L i).bind fun s => s.lst.bind fun xs => (argP ms ws L).map fun q => (.list xs :: q.1, i :: q.2)
  | .er :: ms, .own i :: ws, L => match Pat.at_ L i with
    | some (.er c) => (argP ms ws L).map fun q => (.str c :: q.1, q.2)
    | _ => none
  | _, _, _ => none
theorem argP_ok {ρ : Env} (f : Fits L ρ) : ∀ {ms : List Md} {ws : List W} {q : List D × List Nat}, argP ms ws L = some q → argD ms ws ρ = some q
  | [], [], q, h => h
  | .d :: ms, .o (.fz d) :: ws, q, h => by
    unfold argP at h
    cases e : argP ms ws L with
    | none => rw [e] at h; cases h
    | some p =>
      rw [e] at h
      cases h
      unfold argD
      rw [argP_ok f e]
  | .io :: ms, .own i :: ws, q, h => by
    unfold argP at h
    cases e0 : L.at_ i with
    | none => rw [e0] at h; cases h
    | some s =>
      rw [e0] at h
      cases e1 : s.lst with
      | none => simp [e1] at h
      | some xs =>
        cases e : argP ms ws L with
        | none => simp [e1, e] at h
        | some p =>
          simp only [Option.bind_some, e1, e, Option.map_some] at h
          cases h
          unfold argD
          rw [argP_ok f e, ownL_at f e0 e1]
  | .er :: ms, .own i :: ws, q, h => by
    unfold argP at h
    split at h
    · rename_i c e0
      cases e : argP ms ws L with
      | none => rw [e] at h; cases h
      | some p =>
        rw [e] at h
        cases h
        unfold argD
        rw [argP_ok f e, f.at_ i _ e0]
    · cases h
  | [], _ :: _, _, h => by simp [argP] at h
  | .d :: _, [], _, h => by simp [argP] at h
  | .io :: _, [], _, h => by simp [argP] at h
  | .er :: _, [], _, h => by simp [argP] at h
  | .sc :: _, _, _, h => by simp [argP] at h
  | .d :: _, .own _ :: _, _, h => by simp [argP] at h
  | .d :: _, .o (.fl _) :: _, _, h => by simp [argP] at h
  | .d :: _, .o (.tp _) :: _, _, h => by simp [argP] at h
  | .io :: _, .o _ :: _, _, h => by simp [argP] at h
  | .er :: _, .o _ :: _, _, h => by simp [argP] at h
/-- sem does what g says; one list is handed in to be changed -/
def Sem1 (sem : DefSem) (g : List D → X (O × List D)) : Prop := ∀ ds, match g ds with
  | .ok (o, xs) => sem ds = .ret o [xs]
  | .exc c => ∃ ys, sem ds = .exc c [ys]
  | .bad => True
theorem kw_call1 {ms : List Md} {sem : DefSem} {g : List D → X (O × List D)} {fa : Env → R (List W)} (sm : Sem1 sem g)
    (h : KX E L fa M fun L2 ws M2 => ∃ ds i s K, argP ms ws L2 = some (ds, [i]) ∧ L2.at_ i = some s ∧ (∀ ys, Cov E (L2.put i (some (s.put ys)))) ∧ M2 = (g ds).bind K ∧ ∀ o xs, Post (L2.put i (some (s.put xs))) o (K (o, xs))) : KW E L (eCall ms sem fa) M Post :=
  KX.bind (KX.imp h fun L2 ws M2 ⟨ds, i, s, K, h1, h2, hE, h3, t⟩ => fun ρ f => by
    have z := sm ds
    simp only [argP_ok f h1, List.nodup_cons, List.not_mem_nil, not_false_eq_true, List.nodup_nil, and_self, if_true]
    subst h3
    cases hg : g ds with
    | bad => exact .inl rfl
    | exc k =>
      rw [hg] at z
      obtain ⟨ys, z⟩ := z
      rw [z]
      refine .inr (.inl ⟨k, setL ρ i ys, rfl, ?_, hE ys _ (setL_at f h2 ys)⟩)
      unfold outR putL putL
      rfl
    | ok q =>
      obtain ⟨o, xs⟩ := q
      rw [hg] at z
      rw [z]
      refine .inr (.inr ⟨.o o, setL ρ i xs, _, ?_, setL_at f h2 xs, o, rfl, t o xs⟩)
      unfold outR putL putL
      rfl)
theorem kw_call0 {ms : List Md} {sem : DefSem} {g : List D → X O} {fa : Env → R (List W)} (sm : Sem0 sem g)
    (h : KX E L fa M fun L2 ws M2 => Cov E L2 ∧ ∃ ds K, argP ms ws L2 = some (ds, []) ∧ M2 = (g ds).bind K ∧ ∀ o, Post L2 o (K o)) : KW E L (eCall ms sem fa) M Post :=
  KX.bind (KX.imp h fun L2 ws M2 ⟨hE, ds, K, h1, h3, t⟩ => fun ρ f => by
    have z := sm ds
    simp only [argP_ok f h1, List.nodup_nil, if_true]
    subst h3
    cases hg : g ds with
    | bad => exact .inl rfl
    | exc k =>
      rw [hg] at z
      rw [z]
      refine .inr (.inl ⟨k, ρ, rfl, ?_, hE ρ f⟩)
      unfold outR putL
      rfl
    | ok o =>
      rw [hg] at z
      rw [z]
      refine .inr (.inr ⟨.o o, ρ, L2, ?_, f, o, rfl, t o⟩)
      unfold outR putL
      rfl)
theorem kw_tup {fa : Env → R (List W)} (h : KX E L fa M fun L2 ws M2 => ∃ ds K, valAll ws = some ds ∧ M2 = (X.tup (.ok ds)).bind K ∧ ∀ o, Post L2 o (K o)) : KW E L (eTup fa) M Post :=
  KX.bind (KX.imp h fun L2 ws M2 ⟨ds, K, h1, h3, t⟩ => fun ρ f => by
    simp only [h1]
    subst h3
    by_cases hl : ds.length ≤ sizeLine
    · rw [if_pos hl, X.tup_ok, if_pos hl]
      exact .inr (.inr ⟨_, ρ, L2, rfl, f, _, rfl, t _⟩)
    · rw [X.tup_ok, if_neg hl]
      exact .inl rfl)
theorem kw_lst {fa : Env → R (List W)} (h : KX E L fa M fun L2 ws M2 => ∃ ds K, valAll ws = some ds ∧ M2 = (X.lst (.ok ds)).bind K ∧ ∀ o, Post L2 o (K o)) : KW E L (eLst fa) M Post :=
  KX.bind (KX.imp h fun L2 ws M2 ⟨ds, K, h1, h3, t⟩ => fun ρ f => by
    simp only [h1]
    subst h3
    by_cases hl : ds.length ≤ sizeLine
    · rw [if_pos hl, X.lst_ok, if_pos hl]
      exact .inr (.inr ⟨_, ρ, L2, rfl, f, _, rfl, t _⟩)
    · rw [X.lst_ok, if_neg hl]
      exact .inl rfl)
def datP : List W → Pat → Option (List D)
  | [], _ => some []
  | .o x :: ws, L => (datP ws L).map fun ds => x.dat :: ds
  | .own i :: ws, L => (Pat.at_ L i).bind fun s => s.lst.bind fun xs => (datP ws L).map fun ds => .list xs :: ds
theorem datP_ok {ρ : Env} (f : Fits L ρ) : ∀ {ws : List W} {ds : List D}, datP ws L = some ds → datAll ρ ws = some ds
  | [], _, h => h
  | .o x :: ws, ds, h => by
    unfold datP at h
    cases e : datP ws L with
    | none => rw [e] at h; cases h
    | some q =>
      rw [e] at h
      cases h
      unfold datAll
      rw [datP_ok f e]
      rfl
  | .own i :: ws, ds, h => by
    unfold datP at h
    cases e0 : L.at_ i with
    | none => rw [e0] at h; cases h
    | some s =>
      rw [e0] at h
      cases e1 : s.lst with
      | none => simp [e1] at h
      | some xs =>
        cases e : datP ws L with
        | none => simp [e1, e] at h
        | some q =>
          simp only [Option.bind_some, e1, e, Option.map_some] at h
          cases h
          have hd : W.dat ρ (.own i) = some (.list xs) := by
            show (ρ[i]?).bind Sl.dat = _
            rw [f.at_ i _ e0]
            cases s <;> first | cases e1; rfl | cases e1
          unfold datAll
          simp only [hd, datP_ok f e]
theorem kw_n {g : List D → Option P1} {fa : Env → R (List W)} (h : KX E L fa M fun L2 ws M2 => ∃ ds K, datP ws L2 = some ds ∧ M2 = (X.ofP (g ds)).bind K ∧ ∀ o, Post L2 o (K o)) : KW E L (eN g fa) M Post :=
  KX.bind (KX.imp h fun L2 ws M2 ⟨ds, K, h1, h3, t⟩ => KX.eq (KX.ofP ⟨K, h3, t⟩) fun ρ f => by simp only [datP_ok f h1])
theorem kw_isi {Tn : String} (h : KW E L a M fun L1 x M1 => Post L1 (.fz (.bool (isiD Tn x.dat))) M1) : KW E L (eIsi Tn a) M Post :=
  KX.bind (KX.imp (kw_nrm h) fun L1 w M1 ⟨x, hw, h1⟩ => by
    rw [hw]
    exact KX.ret ⟨_, rfl, h1⟩)
/-! ways that meet again -/
theorem kw_join {S : Type} {m : X (O × S)} {K : O × S → X β} (La : S → Pat) (h : KW E L a m fun L' o M' => ∃ s, M' = .ok (o, s) ∧ Sub (La s) L') (t : ∀ o s, Post (La s) o (K (o, s))) : KW E L a (m.bind K) Post := fun ρ f => by
  rcases h ρ f with h | ⟨k', ρ', h1, h2, h3⟩ | ⟨w, ρ', L', h1, h2, o, h3, s, h4, h5⟩
  · exact .inl (by rw [h]; rfl)
  · exact .inr (.inl ⟨k', ρ', by rw [h1]; rfl, h2, h3⟩)
  · exact .inr (.inr ⟨w, ρ', La s, h1, h5.fits h2, o, h3, by rw [h4]; exact t o s⟩)
variable {s t : Env → R Bool} {PostB : Pat → Bool → X β → Prop}
theorem kt_join {S : Type} {m : X (Bool × S)} {K : Bool × S → X β} (La : S → Pat) (h : KX E L s m fun L' o M' => ∃ s, M' = .ok (o, s) ∧ Sub (La s) L') (t : ∀ o s, PostB (La s) o (K (o, s))) : KX E L s (m.bind K) PostB := fun ρ f => by
  rcases h ρ f with h | ⟨k', ρ', h1, h2, h3⟩ | ⟨w, ρ', L', h1, h2, s, h4, h5⟩
  · exact .inl (by rw [h]; rfl)
  · exact .inr (.inl ⟨k', ρ', by rw [h1]; rfl, h2, h3⟩)
  · exact .inr (.inr ⟨w, ρ', La s, h1, h5.fits h2, by rw [h4]; exact t w s⟩)
theorem kt_pt {m : X Bool} {K : Bool → X β} (h : PT E L s m) (t : ∀ b, PostB L b (K b)) : KX E L s (m.bind K) PostB := fun ρ f => by
  have z := h ρ f
  cases m with
  | bad => exact .inl rfl
  | exc k => obtain ⟨ρ', e1, f1⟩ := z; exact .inr (.inl ⟨k, ρ', rfl, e1, f1⟩)
  | ok o => obtain ⟨w, ρ', e1, hw, f1⟩ := z; exact .inr (.inr ⟨w, ρ', L, e1, f1, by rw [hw]; exact t o⟩)
theorem kt_B (h : KW E L a M fun L1 x M1 => ∃ K, M1 = (X.asB x.dat).bind K ∧ ∀ b, PostB L1 b (K b)) : KX E L (tstB a) M PostB :=
  KX.bind (KX.imp (kw_nrm h) fun L1 w M1 ⟨x, hw, K, h1, t⟩ => fun ρ f => by
    rw [hw]
    subst h1
    unfold boolW
    show _ ∨ _ ∨ ∃ a ρ' L', (match some x.dat with | some (.bool b) => R.ok b ρ | _ => .bad) = R.ok a ρ' ∧ _
    cases x.dat <;> first | exact .inl rfl | exact .inr (.inr ⟨_, ρ, L1, rfl, f, t _⟩))
theorem kt_V (h : KW E L a M fun L1 x M1 => PostB L1 (truD x.dat) M1) : KX E L (tstV a) M PostB :=
  KX.bind (KX.imp (kw_nrm h) fun L1 w M1 ⟨x, hw, h1⟩ => by
    rw [hw]
    exact KX.ret h1)
theorem kt_and (h : KX E L s M fun L1 x M1 => ∃ Ma Mb, M1 = (if x = true then Ma else Mb) ∧ KX E L1 t Ma PostB ∧ PostB L1 false Mb) : KX E L (tAndS s t) M PostB :=
  KX.bind (KX.imp h fun L1 x M1 ⟨Ma, Mb, h1, h2, h3⟩ => by
    subst h1
    cases x with
    | true => exact h2
    | false => exact KX.ret h3)
theorem kt_or (h : KX E L s M fun L1 x M1 => ∃ Ma Mb, M1 = (if x = true then Ma else Mb) ∧ PostB L1 true Ma ∧ KX E L1 t Mb PostB) : KX E L (tOrS s t) M PostB :=
  KX.bind (KX.imp h fun L1 x M1 ⟨Ma, Mb, h1, h2, h3⟩ => by
    subst h1
    cases x with
    | true => exact KX.ret h2
    | false => exact h3)
theorem kt_not (h : KX E L s M fun L1 x M1 => PostB L1 (!x) M1) : KX E L (tNotS s) M PostB := KX.bind (KX.imp h fun L1 x M1 h1 => KX.ret h1)
theorem kw_if (h : KX E L s M fun L1 x M1 => ∃ Ma Mb, M1 = (if x = true then Ma else Mb) ∧ KW E L1 a Ma Post ∧ KW E L1 b Mb Post) : KW E L (eIf s a b) M Post :=
  KX.bind (KX.imp h fun L1 x M1 ⟨Ma, Mb, h1, h2, h3⟩ => by
    subst h1
    cases x with
    | true => exact h2
    | false => exact h3)
/-- and, or as values -/
theorem kw_and (h : KX E L (tstB a) M fun L1 x M1 => ∃ Ma Mb, M1 = (if x = true then Ma else Mb) ∧ KW E L1 b Ma Post ∧ Post L1 (.fz (.bool false)) Mb) : KW E L (eAndB a b) M Post :=
  KX.bind (KX.imp h fun L1 x M1 ⟨Ma, Mb, h1, h2, h3⟩ => by
    subst h1
    cases x with
    | true => exact h2
    | false => exact KX.ret ⟨_, rfl, h3⟩)
theorem kw_or (h : KX E L (tstB a) M fun L1 x M1 => ∃ Ma Mb, M1 = (if x = true then Ma else Mb) ∧ Post L1 (.fz (.bool true)) Ma ∧ KW E L1 b Mb Post) : KW E L (eOrB a b) M Post :=
  KX.bind (KX.imp h fun L1 x M1 ⟨Ma, Mb, h1, h2, h3⟩ => by
    subst h1
    cases x with
    | true => exact KX.ret ⟨_, rfl, h2⟩
    | false => exact h3)
/-! what loops walk -/
variable {PostI : Pat → List D → X β → Prop} {fi : Env → R (List D)}
theorem ki_pi {m : X (List D)} {K : List D → X β} (h : PIx E L L2 fi m) (t : ∀ b, PostI L2 b (K b)) : KX E L fi (m.bind K) PostI := fun ρ f => by
  have z := h ρ f
  cases m with
  | bad => exact .inl rfl
  | exc k => obtain ⟨ρ', e1, f1⟩ := z; exact .inr (.inl ⟨k, ρ', rfl, e1, f1⟩)
  | ok o => obtain ⟨w, ρ', e1, hw, f1⟩ := z; exact .inr (.inr ⟨w, ρ', L2, e1, f1, by rw [hw]; exact t o⟩)
theorem ki_sq (h : KW E L a M fun L1 x M1 => ∃ K, M1 = (X.asSeq x).bind K ∧ ∀ ds, PostI L1 ds (K ds)) : KX E L (iSq a) M PostI :=
  KX.bind (KX.imp (kw_fz h) fun L1 w M1 ⟨x, hw, K, h1, t⟩ => fun ρ f => by
    rw [hw]
    subst h1
    cases x with
    | fl xs => exact .inr (.inr ⟨_, ρ, L1, rfl, f, t _⟩)
    | tp ps => exact .inl rfl
    | fz d => cases d <;> first | exact .inl rfl | exact .inr (.inr ⟨_, ρ, L1, rfl, f, t _⟩))
theorem ki_r1 (h : KW E L a M fun L1 x M1 => ∃ K, M1 = (X.rng1 x.dat).bind K ∧ ∀ ds, PostI L1 ds (K ds)) : KX E L (iR1 (aCons (eNrm a) aNil)) M PostI := by
  refine KX.bind (KX.imp (ka_n (PostA := fun L2 ws M2 => ∃ d K, ws = [.val d] ∧ M2 = (X.rng1 d).bind K ∧ ∀ ds, PostI L2 ds (K ds)) (KX.imp h fun L1 w M1 ⟨x, hw, K, h1, t⟩ => ⟨x, hw, ka_nil ⟨x.dat, K, rfl, h1, t⟩⟩)) fun L2 ws M2 ⟨d, K, h1, h2, t⟩ => fun ρ f => ?_)
  subst h1 h2
  cases d with
  | int j =>
    show ((if inR j = true then X.ok (rngI 0 j) else X.bad).bind K = _) ∨ (∃ k ρ', (if inR j = true then X.ok (rngI 0 j) else X.bad).bind K = .exc k ∧ _) ∨ ∃ a ρ' L', (if inR j = true then R.ok (rngI 0 j) ρ else .bad) = .ok a ρ' ∧ Fits L' ρ' ∧ PostI L' a ((if inR j = true then X.ok (rngI 0 j) else X.bad).bind K)
    by_cases q : inR j = true
    · rw [if_pos q]; exact .inr (.inr ⟨_, ρ, L2, by rw [if_pos q], f, t _⟩)
    · rw [if_neg q]; exact .inl rfl
  | _ => exact .inl rfl
end

/-! ### targets -/
def GK {β : Type} (L : Pat) (g : TgD) (d : D) (M : X β) (Post : Pat → X β → Prop) : Prop := M = .bad ∨ ∃ L', (∀ ρ, Fits L ρ → ∃ ρ', g d ρ = some ρ' ∧ Fits L' ρ') ∧ Post L' M
section
variable {β : Type} {L : Pat} {Post : Pat → X β → Prop}
theorem gk_n {i : Nat} {d : D} {M : X β} (hi : Nat.ble (i + 1) L.length = true) (h : Post (L.put i (some (.fz d))) M) : GK L (gN i) d M Post :=
  .inr ⟨_, fun ρ f => ⟨_, if_pos (by rw [← f.len]; exact Nat.le_of_ble_eq_true hi), f.put i _⟩, h⟩
theorem gk_all2 {g1 g2 : TgD} {a b : D} {M : X β} (h : GK L g1 a M fun L1 M1 => GK L1 g2 b M1 Post) : M = .bad ∨ ∃ L', (∀ ρ, Fits L ρ → ∃ ρ', gAll [g1, g2] [a, b] ρ = some ρ' ∧ Fits L' ρ') ∧ Post L' M := by
  rcases h with h | ⟨L1, h1, h | ⟨L2, h2, p⟩⟩
  · exact .inl h
  · exact .inl h
  · refine .inr ⟨L2, fun ρ f => ?_, p⟩
    obtain ⟨ρ1, e1, f1⟩ := h1 ρ f
    obtain ⟨ρ2, e2, f2⟩ := h2 ρ1 f1
    exact ⟨ρ2, by simp only [gAll, e1, e2], f2⟩
theorem gk_all3 {g1 g2 g3 : TgD} {a b c : D} {M : X β} (h : GK L g1 a M fun L1 M1 => GK L1 g2 b M1 fun L2 M2 => GK L2 g3 c M2 Post) : M = .bad ∨ ∃ L', (∀ ρ, Fits L ρ → ∃ ρ', gAll [g1, g2, g3] [a, b, c] ρ = some ρ' ∧ Fits L' ρ') ∧ Post L' M := by
  rcases h with h | ⟨L1, h1, h | ⟨L2, h2, h | ⟨L3, h3, p⟩⟩⟩
  · exact .inl h
  · exact .inl h
  · exact .inl h
  · refine .inr ⟨L3, fun ρ f => ?_, p⟩
    obtain ⟨ρ1, e1, f1⟩ := h1 ρ f
    obtain ⟨ρ2, e2, f2⟩ := h2 ρ1 f1
    obtain ⟨ρ3, e3, f3⟩ := h3 ρ2 f2
    exact ⟨ρ3, by simp only [gAll, e1, e2, e3], f3⟩
theorem gk_all4 {g1 g2 g3 g4 : TgD} {a b c d : D} {M : X β} (h : GK L g1 a M fun L1 M1 => GK L1 g2 b M1 fun L2 M2 => GK L2 g3 c M2 fun L3 M3 => GK L3 g4 d M3 Post) : M = .bad ∨ ∃ L', (∀ ρ, Fits L ρ → ∃ ρ', gAll [g1, g2, g3, g4] [a, b, c, d] ρ = some ρ' ∧ Fits L' ρ') ∧ Post L' M := by
  rcases h with h | ⟨L1, h1, h | ⟨L2, h2, h | ⟨L3, h3, h | ⟨L4, h4, p⟩⟩⟩⟩
  · exact .inl h
  · exact .inl h
  · exact .inl h
  · exact .inl h
  · refine .inr ⟨L4, fun ρ f => ?_, p⟩
    obtain ⟨ρ1, e1, f1⟩ := h1 ρ f
    obtain ⟨ρ2, e2, f2⟩ := h2 ρ1 f1
    obtain ⟨ρ3, e3, f3⟩ := h3 ρ2 f2
    obtain ⟨ρ4, e4, f4⟩ := h4 ρ3 f3
    exact ⟨ρ4, by simp only [gAll, e1, e2, e3, e4], f4⟩
variable {d : D}
theorem gk_un1 {g1 : TgD} {K : D → X β} (h : ∀ a, GK L g1 a (K a) Post) : GK L (gT [g1]) d (X.un1 d K) Post := by
  have one : ∀ a, K a = .bad ∨ ∃ L', (∀ ρ, Fits L ρ → ∃ ρ', gAll [g1] [a] ρ = some ρ' ∧ Fits L' ρ') ∧ Post L' (K a) := fun a => by
    rcases h a with h | ⟨L1, h1, p⟩
    · exact .inl h
    · refine .inr ⟨L1, fun ρ f => ?_, p⟩
      obtain ⟨ρ1, e1, f1⟩ := h1 ρ f
      exact ⟨ρ1, by simp only [gAll, e1], f1⟩
  unfold X.un1
  split
  · exact one _
  · exact one _
  · exact .inl rfl
theorem gk_un2 {g1 g2 : TgD} {K : D → D → X β} (h : ∀ a b, GK L g1 a (K a b) fun L1 M1 => GK L1 g2 b M1 Post) : GK L (gT [g1, g2]) d (X.un2 d K) Post := by
  unfold X.un2
  split
  · exact gk_all2 (h _ _)
  · exact gk_all2 (h _ _)
  · exact .inl rfl
theorem gk_un3 {g1 g2 g3 : TgD} {K : D → D → D → X β} (h : ∀ a b c, GK L g1 a (K a b c) fun L1 M1 => GK L1 g2 b M1 fun L2 M2 => GK L2 g3 c M2 Post) : GK L (gT [g1, g2, g3]) d (X.un3 d K) Post := by
  unfold X.un3
  split
  · exact gk_all3 (h _ _ _)
  · exact gk_all3 (h _ _ _)
  · exact .inl rfl
theorem gk_un4 {g1 g2 g3 g4 : TgD} {K : D → D → D → D → X β} (h : ∀ a b c d, GK L g1 a (K a b c d) fun L1 M1 => GK L1 g2 b M1 fun L2 M2 => GK L2 g3 c M2 fun L3 M3 => GK L3 g4 d M3 Post) : GK L (gT [g1, g2, g3, g4]) d (X.un4 d K) Post := by
  unfold X.un4
  split
  · exact gk_all4 (h _ _ _ _)
  · exact gk_all4 (h _ _ _ _)
  · exact .inl rfl
theorem gk_ut2 {g1 g2 : TgD} {K : D → D → X β} (h : ∀ a b, GK L g1 a (K a b) fun L1 M1 => GK L1 g2 b M1 Post) : GK L (gTt [g1, g2]) d (X.ut2 d K) Post := by
  unfold X.ut2
  split
  · exact gk_all2 (h _ _)
  · exact .inl rfl
end

/-! ### comprehensions, generator expressions -/
section
variable {E : EP} {L L2 Lw : Pat} {vs : List Nat} {fi : Env → R (List D)} {g : TgD} {tt : Env → R Bool} {te : Env → R W} {mi : X (List D)}
/-- a turn -/
def Turn (Lw : Pat) (vs : List Nat) (tt : Env → R Bool) (te : Env → R W) (L1 : Pat) (M1 : X (Option D)) : Prop :=
  ∃ mt me L3, M1 = X.keep mt me ∧ PT (fun _ => True) L1 tt mt ∧ PF (fun _ => True) L1 L3 te me ∧ Lw = L1.wipe vs ∧ Lw = L3.wipe vs
theorem comp_ok {f : D → X (Option D)} (h : ∀ d, GK Lw g d (f d) (Turn Lw vs tt te)) : ∀ (ds : List D) (xs : List D), X.comp f ds = .ok xs → ∀ ρ, Fits Lw ρ → ∃ ρ', lcD vs g tt te ds ρ = .ok xs ρ' ∧ Fits Lw ρ'
  | [], xs, e, ρ, fi => by cases e; exact ⟨ρ, rfl, fi⟩
  | d :: ds, xs, e, ρ, fi => by
    unfold X.comp at e
    unfold lcD
    rcases h d with hb | ⟨L1, h1, mt, me, L3, hm, pt, pe, w1, w2⟩
    · rw [hb] at e; cases e
    · obtain ⟨ρ1, e1, f1⟩ := h1 ρ fi
      rw [e1]
      rw [hm] at e
      have zt := pt ρ1 f1
      cases mt with
      | bad => cases e
      | exc k => cases e
      | ok b =>
        obtain ⟨b', ρ2, e2, hb', f2⟩ := zt
        subst hb'
        cases b' with
        | false =>
          simp only [e2]
          have e : X.comp f ds = .ok xs := e
          exact comp_ok h ds xs e _ (w1 ▸ f2.wipe vs)
        | true =>
          have ze := pe ρ2 f2
          cases me with
          | bad => cases e
          | exc k => cases e
          | ok o =>
            obtain ⟨w, ρ3, e3, hw, f3⟩ := ze
            subst hw
            simp only [e2, e3]
            have e : (X.comp f ds).bind (fun xs => X.ok (o.dat :: xs)) = .ok xs := e
            cases hc : X.comp f ds with
            | bad => rw [hc] at e; cases e
            | exc k => rw [hc] at e; cases e
            | ok ys =>
              rw [hc] at e
              cases e
              obtain ⟨ρ4, e4, f4⟩ := comp_ok h ds ys hc _ (w2 ▸ f3.wipe vs)
              exact ⟨ρ4, by rw [e4], f4⟩
theorem px_lc {f : D → X (Option D)} (hi : PIx E L L2 fi mi) (h : ∀ d, GK (L2.wipe vs) g d (f d) (Turn (L2.wipe vs) vs tt te)) : PX E L L2 (eLc vs fi g tt te) (X.lc mi f) := fun ρ fr => by
  refine RX.bind (hi ρ fr) fun ds ds' ρ1 ⟨hd, f1⟩ => ?_
  subst hd
  cases hc : X.comp f ds' with
  | bad => exact RX.bad
  | exc k => exact RX.bad
  | ok xs =>
    obtain ⟨ρ2, e2, f2⟩ := comp_ok h ds' xs hc _ (f1.wipe vs)
    show RX E _ (lcR vs ρ1 (lcD vs g tt te ds' (wipeE ρ1 vs))) (if xs.length ≤ sizeLine then _ else _)
    rw [e2]
    show RX E _ (if xs.length ≤ sizeLine then _ else _) _
    by_cases hl : xs.length ≤ sizeLine
    · rw [if_pos hl, if_pos hl]; exact RX.ok ⟨rfl, f1.rest f2⟩
    · rw [if_neg hl, if_neg hl]; exact RX.bad
theorem px_minG {f : D → X (Option D)} (hi : PIx E L L2 fi mi) (h : ∀ d, GK (L2.wipe vs) g d (f d) (Turn (L2.wipe vs) vs tt te)) : PX E L L2 (eMinG vs fi g tt te) (X.minG mi f) := fun ρ fr => by
  refine RX.bind (hi ρ fr) fun ds ds' ρ1 ⟨hd, f1⟩ => ?_
  subst hd
  cases hc : X.comp f ds' with
  | bad => exact RX.bad
  | exc k => exact RX.bad
  | ok xs =>
    obtain ⟨ρ2, e2, f2⟩ := comp_ok h ds' xs hc _ (f1.wipe vs)
    show RX E _ (minR vs ρ1 (lcD vs g tt te ds' (wipeE ρ1 vs))) _
    rw [e2]
    unfold minR
    cases h0 : intsD xs with
    | none => simp only [h0]; exact RX.bad
    | some ns =>
      cases h : fmin none ns with
      | none => simp only [h0, h]; exact RX.bad
      | some r => simp only [h0, h]; exact ⟨_, _, rfl, rfl, f1.rest f2⟩
/-- a turn of all, any -/
def TurnB (Lw : Pat) (vs : List Nat) (tt : Env → R Bool) (te : Env → R W) (L1 : Pat) (M1 : X (Option Bool)) : Prop :=
  ∃ mt me, M1 = X.try_ mt me ∧ PT (fun _ => True) L1 tt mt ∧ PT (fun _ => True) L1 (tstB te) me ∧ Lw = L1.wipe vs
theorem genF_ok {st : Bool} {f : D → X (Option Bool)} (h : ∀ d, GK Lw g d (f d) (TurnB Lw vs tt te)) : ∀ (ds : List D) (b : Bool), X.genF st f ds = .ok b → ∀ ρ, Fits Lw ρ → ∃ ρ', genD st vs g tt te ds ρ = .ok b ρ' ∧ Fits Lw ρ'
  | [], b, e, ρ, fi => by cases e; exact ⟨ρ, rfl, fi⟩
  | d :: ds, b, e, ρ, fi => by
    unfold X.genF at e
    unfold genD
    rcases h d with hb | ⟨L1, h1, mt, me, hm, pt, pe, w1⟩
    · rw [hb] at e; cases e
    · obtain ⟨ρ1, e1, f1⟩ := h1 ρ fi
      rw [e1]
      rw [hm] at e
      have zt := pt ρ1 f1
      cases mt with
      | bad => cases e
      | exc k => cases e
      | ok b1 =>
        obtain ⟨b', ρ2, e2, hb', f2⟩ := zt
        subst hb'
        cases b' with
        | false =>
          simp only [e2]
          have e : X.genF st f ds = .ok b := e
          exact genF_ok h ds b e _ (w1 ▸ f2.wipe vs)
        | true =>
          have ze := pe ρ2 f2
          cases me with
          | bad => cases e
          | exc k => cases e
          | ok c =>
            obtain ⟨c', ρ3, e3, hc, f3⟩ := ze
            subst hc
            simp only [e2, e3]
            have e : (if c' = st then X.ok st else X.genF st f ds) = .ok b := e
            by_cases q : c' = st
            · rw [if_pos q] at e ⊢
              cases e
              exact ⟨_, rfl, w1 ▸ f3.wipe vs⟩
            · rw [if_neg q] at e ⊢
              exact genF_ok h ds b e _ (w1 ▸ f3.wipe vs)
theorem px_gen {st : Bool} {f : D → X (Option Bool)} (hi : PIx E L L2 fi mi) (h : ∀ d, GK (L2.wipe vs) g d (f d) (TurnB (L2.wipe vs) vs tt te)) : PX E L L2 (eGen st vs fi g tt te) (X.gen st mi f) := fun ρ fr => by
  refine RX.bind (hi ρ fr) fun ds ds' ρ1 ⟨hd, f1⟩ => ?_
  subst hd
  cases hc : X.genF st f ds' with
  | bad => exact RX.bad
  | exc k => exact RX.bad
  | ok b =>
    obtain ⟨ρ2, e2, f2⟩ := genF_ok h ds' b hc _ (f1.wipe vs)
    show RX E _ (genR vs ρ1 (genD st vs g tt te ds' (wipeE ρ1 vs))) _
    rw [e2]
    exact RX.ok ⟨rfl, f1.rest f2⟩
/-- a turn with an effect -/
def TurnS {S : Type} (La : S → Pat) (vs : List Nat) (tt : Env → R Bool) (te : Env → R W) (L1 : Pat) (M1 : X (Option D × S)) : Prop :=
  KX (fun _ => True) L1 tt M1 fun L2 b M2 => ∃ Ma Mb, M2 = (if b = true then Ma else Mb) ∧ (KW (fun _ => True) L2 te Ma fun L3 o M3 => ∃ s, M3 = .ok (some o.dat, s) ∧ Sub ((La s).wipe vs) (L3.wipe vs)) ∧ (Mb = .bad ∨ ∃ s, Mb = .ok (none, s) ∧ Sub ((La s).wipe vs) (L2.wipe vs))
theorem compS_ok {S : Type} {La : S → Pat} {f : D → S → X (Option D × S)} (h : ∀ d s, GK ((La s).wipe vs) g d (f d s) (TurnS La vs tt te)) : ∀ (ds : List D) (s : S) (xs : List D) (s' : S), X.compS f ds s = .ok (xs, s') → ∀ ρ, Fits ((La s).wipe vs) ρ → ∃ ρ', lcD vs g tt te ds ρ = .ok xs ρ' ∧ Fits ((La s').wipe vs) ρ'
  | [], s, xs, s', e, ρ, fi => by cases e; exact ⟨ρ, rfl, fi⟩
  | d :: ds, s, xs, s', e, ρ, fi => by
    unfold X.compS at e
    unfold lcD
    rcases h d s with hb | ⟨L1, h1, ht⟩
    · rw [hb] at e; cases e
    · obtain ⟨ρ1, e1, f1⟩ := h1 ρ fi
      rw [e1]
      rcases ht ρ1 f1 with hm | ⟨k, _, hm, _⟩ | ⟨b, ρ2, L2, e2, f2, Ma, Mb, hm, he, hn⟩
      · rw [hm] at e; cases e
      · rw [hm] at e; cases e
      · rw [hm] at e
        cases b with
        | false =>
          simp only [e2]
          rcases hn with hn | ⟨s1, hn, sb⟩
          · rw [hn] at e; cases e
          · rw [hn] at e
            have e : X.compS f ds s1 = .ok (xs, s') := e
            exact compS_ok h ds s1 xs s' e _ (sb.fits (f2.wipe vs))
        | true =>
          rcases kw_fz he ρ2 f2 with hq | ⟨k, _, hq, _⟩ | ⟨w, ρ3, L3, e3, f3, o, hw, s1, hq, sb⟩
          · rw [hq] at e; cases e
          · rw [hq] at e; cases e
          · subst hw
            simp only [e2, e3]
            rw [hq] at e
            have e : (X.compS f ds s1).bind (fun p => X.ok (o.dat :: p.1, p.2)) = .ok (xs, s') := e
            cases hc : X.compS f ds s1 with
            | bad => rw [hc] at e; cases e
            | exc k => rw [hc] at e; cases e
            | ok q =>
              obtain ⟨ys, s2⟩ := q
              rw [hc] at e
              cases e
              obtain ⟨ρ4, e4, f4⟩ := compS_ok h ds s1 ys s2 hc _ (sb.fits (f3.wipe vs))
              exact ⟨ρ4, by rw [e4], f4⟩
/-- the slots that the comprehension leaves alone -/
theorem kw_lcS {β S : Type} {M : X β} {Post : Pat → O → X β → Prop} (La : S → Pat) (h : KX E L fi M fun L1 ds M1 => ∃ s0 f K, M1 = (X.lcS (.ok ds) s0 f).bind K ∧ Sub (La s0) L1 ∧ (∃ n, ∀ s, (La s).length = n) ∧ (∀ d s, GK ((La s).wipe vs) g d (f d s) (TurnS La vs tt te)) ∧ (∀ s, vs.all (fun v => ((La s).at_ v).isNone) = true) ∧ ∀ o s, Post (La s) o (K (o, s))) : KW E L (eLc vs fi g tt te) M Post :=
  KX.bind (KX.imp h fun L1 ds M1 ⟨s0, f, K, h1, sb, ⟨n, hn⟩, hf, hv, t⟩ => fun ρ fr => by
    subst h1
    have f0 := sb.fits fr
    cases hc : X.compS f ds s0 with
    | bad => left; unfold X.lcS; simp [hc]
    | exc k => left; unfold X.lcS; simp [hc]
    | ok q =>
      obtain ⟨xs, s'⟩ := q
      obtain ⟨ρ2, e2, f2⟩ := compS_ok hf ds s0 xs s' hc _ (f0.wipe vs)
      by_cases hl : xs.length ≤ sizeLine
      · have q : X.lcS (.ok ds) s0 f = .ok (.fl xs, s') := by unfold X.lcS; simp [hc, hl]
        rw [q]
        refine .inr (.inr ⟨.o (.fl xs), restE ρ ρ2 vs, La s', ?_, ?_, _, rfl, t _ _⟩)
        · show lcR vs ρ (lcD vs g tt te ds (wipeE ρ vs)) = _
          rw [e2]
          exact if_pos hl
        · have hl2 : ρ.length = ρ2.length := by
            have a1 := f2.len
            have a2 := f0.len
            rw [Pat.len_wipe, hn] at a1
            rw [hn] at a2
            rw [← a1, ← a2]
          refine ⟨by rw [restE_len, ← f2.len, Pat.len_wipe], fun j t e => ?_⟩
          rw [restE_get _ _ _ hl2]
          have nv : j ∉ vs := fun hj => by
            have := List.all_eq_true.mp (hv s') j hj
            rw [e] at this
            cases this
          rw [if_neg nv]
          refine f2.at_ j t ?_
          rw [Pat.at_wipe, if_neg nv]
          exact e
      · have q : X.lcS (.ok ds) s0 f = .bad := by unfold X.lcS; simp [hc, hl]
        rw [q]
        exact .inl rfl)
end
end PL
end
section
set_option Elab.async false
set_option linter.all false
set_option maxRecDepth 100000
set_option maxHeartbeats 2000000
set_option autoImplicit false
/-! From readings to plain functions: statements, defs. -/
namespace PL
open PySem L2

/-- what a block is asked: the slots where it goes on, breaks; what a returned value is -/
structure BC (S B T : Type) where
  E : EP
  Rt : T → W → Env → Prop
  LN : S → Pat
  LB : B → Pat
section
variable {S B T S1 : Type}
def SRx (c : BC S B T) (o : So) : X (Fl S B T) → Prop
  | .ok (.nx s) => ∃ ρ', o = .nx ρ' ∧ Fits (c.LN s) ρ'
  | .ok (.bk b) => ∃ ρ', o = .bk ρ' ∧ Fits (c.LB b) ρ'
  | .ok (.ct b) => ∃ ρ', o = .ct ρ' ∧ Fits (c.LB b) ρ'
  | .ok (.rt r) => ∃ w ρ', o = .rt w ρ' ∧ c.Rt r w ρ'
  | .exc k => ∃ ρ', o = .exc k ρ' ∧ c.E ρ'
  | .bad => True
def BX (c : BC S B T) (L : Pat) (f : Env → So) (m : X (Fl S B T)) : Prop := ∀ ρ, Fits L ρ → SRx c (f ρ) m
variable {c : BC S B T} {L L1 L2 : Pat} {f t : Env → So} {M : X (Fl S B T)}
theorem BX.ev {α : Type} {e : Env → R α} {k : α → Env → So} (h : KX c.E L e M fun L1 a M1 => BX c L1 (k a) M1) : BX c L (fun ρ => (e ρ).so k) M := fun ρ fr => by
  rcases h ρ fr with h | ⟨k', ρ', h1, h2, h3⟩ | ⟨a, ρ', L', h1, h2, h3⟩
  · rw [h]; trivial
  · rw [h1]; exact ⟨ρ', by show R.so (e ρ) k = _; rw [h2]; rfl, h3⟩
  · show SRx c (R.so (e ρ) k) M
    rw [h1]
    exact h3 ρ' h2
theorem BX.evs {α : Type} {e : Env → R α} {k : α → Env → So} (h : KX c.E L e M fun L1 a M1 => BX c L1 (fun ρ => (k a ρ).seq t) M1) : BX c L (fun ρ => ((e ρ).so k).seq t) M := by
  have q : (fun ρ => ((e ρ).so k).seq t) = fun ρ => (e ρ).so fun a ρ1 => (k a ρ1).seq t := by
    funext ρ
    cases e ρ <;> rfl
  rw [q]
  exact BX.ev h
/-- the last statement -/
theorem bx_one (h : BX c L (sSeq f sNx) M) : BX c L f M := fun ρ fr => by
  have z := h ρ fr
  have q : (f ρ).seq sNx = f ρ := by cases f ρ <;> rfl
  unfold sSeq at z
  rw [q] at z
  exact z
/-- what is known of the slots, written out -/
theorem bx_nm (h : L = L2) (k : BX c L2 f M) : BX c L f M := h ▸ k
theorem bx_nx {s : S} (h : Sub (c.LN s) L) : BX c L sNx (.ok (.nx s)) := fun ρ fr => ⟨ρ, rfl, h.fits fr⟩
theorem bx_bk {b : B} (h : Sub (c.LB b) L) : BX c L sBk (.ok (.bk b)) := fun ρ fr => ⟨ρ, rfl, h.fits fr⟩
theorem bx_ct {b : B} (h : Sub (c.LB b) L) : BX c L sCt (.ok (.ct b)) := fun ρ fr => ⟨ρ, rfl, h.fits fr⟩
theorem bx_raise {k : Str} (h : Cov c.E L) : BX c L (sRaise k) (.exc k) := fun ρ fr => ⟨ρ, rfl, h ρ fr⟩
/-- what stands behind an end is never reached -/
def Xt (f : Env → So) : Prop := ∀ ρ ρ', f ρ ≠ .nx ρ'
theorem so_nx {α : Type} {r : R α} {k : α → Env → So} {ρ' : Env} (h : r.so k = .nx ρ') : ∃ a ρ, r = .ok a ρ ∧ k a ρ = .nx ρ' := by
  cases r with
  | ok a ρ => exact ⟨a, ρ, rfl, h⟩
  | exc k ρ => cases h
  | bad => cases h
theorem xt_ret {e : Env → R W} : Xt (sRet e) := fun ρ ρ' h => by
  obtain ⟨a, ρ1, _, h2⟩ := so_nx h
  cases h2
theorem xt_retN : Xt sRetN := fun ρ ρ' h => by cases h
theorem xt_bk : Xt sBk := fun ρ ρ' h => by cases h
theorem xt_ct : Xt sCt := fun ρ ρ' h => by cases h
theorem xt_raise {k : Str} : Xt (sRaise k) := fun ρ ρ' h => by cases h
theorem xt_seq (h : Xt t) : Xt (sSeq f t) := fun ρ ρ' q => by
  unfold sSeq at q
  cases e : f ρ with
  | nx r => rw [e] at q; exact h r ρ' q
  | bk r => rw [e] at q; cases q
  | ct r => rw [e] at q; cases q
  | rt w r => rw [e] at q; cases q
  | exc k r => rw [e] at q; cases q
  | bad => rw [e] at q; cases q
theorem xt_if {ct : Env → R Bool} (h1 : Xt f) (h2 : Xt t) : Xt (sIf ct f t) := fun ρ ρ' h => by
  obtain ⟨a, ρ1, _, q⟩ := so_nx h
  cases a with
  | true => exact h1 _ _ q
  | false => exact h2 _ _ q
theorem Xt.seq (h : Xt f) : sSeq f t = f := by
  funext ρ
  unfold sSeq
  cases e : f ρ with
  | nx r => exact absurd e (h ρ r)
  | bk r => rfl
  | ct r => rfl
  | rt w r => rfl
  | exc k r => rfl
  | bad => rfl
/-! assignments -/
variable {e : Env → R W} {m : X O} {i : Nat}
theorem len_of {L : Pat} {ρ : Env} (fr : Fits L ρ) {i : Nat} (hi : Nat.ble (i + 1) L.length = true) : i < ρ.length := by
  rw [← fr.len]
  exact Nat.le_of_ble_eq_true hi
theorem bx_setK (h : KW c.E L e M fun L1 o M1 => Nat.ble (i + 1) L1.length = true ∧ BX c (L1.put i (some (.fz o.dat))) t M1) : BX c L (sSeq (sSet i e) t) M :=
  BX.evs (KX.imp (kw_fz h) fun L1 w M1 ⟨o, hw, hi, h1⟩ => fun ρ fr => by
    rw [hw]
    have q : stFz i (.val o.dat) ρ = .nx (ρ.set i (.fz o.dat)) := if_pos (len_of fr hi)
    show SRx c ((stFz i (.val o.dat) ρ).seq t) M1
    rw [q]
    exact h1 _ (fr.put i _))
theorem bx_set {K : D → X (Fl S B T)} (h : PF c.E L L1 e m) (hi : Nat.ble (i + 1) L1.length = true) (ht : ∀ d, BX c (L1.put i (some (.fz d))) t (K d)) : BX c L (sSeq (sSet i e) t) (X.letD m K) := by
  refine BX.evs fun ρ fr => ?_
  have z := h ρ fr
  cases m with
  | bad => exact .inl rfl
  | exc k => obtain ⟨ρ', e1, f1⟩ := z; exact .inr (.inl ⟨k, ρ', rfl, e1, f1⟩)
  | ok o =>
    obtain ⟨w, ρ', e1, hw, f1⟩ := z
    refine .inr (.inr ⟨w, ρ', L1, e1, f1, fun ρ2 f2 => ?_⟩)
    rw [hw]
    have q : stFz i (.val o.dat) ρ2 = .nx (ρ2.set i (.fz o.dat)) := if_pos (len_of f2 hi)
    show SRx c ((stFz i (.val o.dat) ρ2).seq t) (K o.dat)
    rw [q]
    exact ht _ _ (f2.put i _)
theorem bx_ownK (h : KW c.E L e M fun L1 o M1 => Nat.ble (i + 1) L1.length = true ∧ ∃ K, M1 = (X.asFl o).bind K ∧ ∀ xs, BX c (L1.put i (some (.fl xs))) t (K xs)) : BX c L (sSeq (sOwn i e) t) M :=
  BX.evs (KX.imp h fun L1 w M1 ⟨o, hw, hi, K, h1, h2⟩ => fun ρ fr => by
    rw [hw]
    subst h1
    cases o with
    | fz d => trivial
    | tp ps => trivial
    | fl xs =>
      have q : stOw i (.o (.fl xs)) ρ = .nx (ρ.set i (.fl xs)) := if_pos (len_of fr hi)
      show SRx c ((stOw i (.o (.fl xs)) ρ).seq t) (K xs)
      rw [q]
      exact h2 xs _ (fr.put i _))
theorem bx_own {K : List D → X (Fl S B T)} (h : PX c.E L L1 e m) (hi : Nat.ble (i + 1) L1.length = true) (ht : ∀ xs, BX c (L1.put i (some (.fl xs))) t (K xs)) : BX c L (sSeq (sOwn i e) t) (X.letL m K) :=
  bx_ownK (kw_px h fun o => ⟨hi, K, rfl, ht⟩)
theorem bx_unK {gs : List TgD} (h : KW c.E L e M fun L1 o M1 => GK L1 (gT gs) o.dat M1 fun L2 M2 => BX c L2 t M2) : BX c L (sSeq (sUn gs e) t) M :=
  BX.evs (KX.imp (kw_nrm h) fun L1 w M1 ⟨o, hw, h1⟩ => fun ρ fr => by
    rw [hw]
    rcases h1 with h1 | ⟨L2, h2, h3⟩
    · rw [h1]; trivial
    · obtain ⟨ρ2, e2, f2⟩ := h2 ρ fr
      have q : stUn gs (.val o.dat) ρ = .nx ρ2 := by
        show (match gT gs o.dat ρ with | some ρ' => So.nx ρ' | none => .bad) = _
        rw [e2]
      show SRx c ((stUn gs (.val o.dat) ρ).seq t) M1
      rw [q]
      exact h3 _ f2)
theorem bx_un {gs : List TgD} {K : D → X (Fl S B T)} (h : PXw c.E L e m) (ht : ∀ d, GK L (gT gs) d (K d) fun L2 M2 => BX c L2 t M2) : BX c L (sSeq (sUn gs e) t) (X.letD m K) := by
  refine BX.evs fun ρ fr => ?_
  have z := h.n ρ fr
  cases m with
  | bad => exact .inl rfl
  | exc k => obtain ⟨ρ', e1, f1⟩ := z; exact .inr (.inl ⟨k, ρ', rfl, e1, f1⟩)
  | ok o =>
    obtain ⟨w, ρ', e1, f1, hw⟩ := z
    refine .inr (.inr ⟨w, ρ', L, e1, f1, fun ρ2 f2 => ?_⟩)
    show SRx c _ (K o.dat)
    rcases ht o.dat with h1 | ⟨L2, h2, h3⟩
    · rw [h1]; trivial
    · obtain ⟨ρ3, e3, f3⟩ := h2 ρ2 f2
      have q : stUn gs w ρ2 = .nx ρ3 := by
        unfold stUn
        rw [hw ρ2 f2]
        simp only [e3]
      show SRx c ((stUn gs w ρ2).seq t) (K o.dat)
      rw [q]
      exact h3 _ f3
theorem bx_aug {g : Int → Int → Int} {a : D} {K : D → X (Fl S B T)} (hi : L.at_ i = some (.fz a)) (h : PXw c.E L e m) (hl : Nat.ble (i + 1) L.length = true) (ht : ∀ d, BX c (L.put i (some (.fz d))) t (K d)) : BX c L (sSeq (sAug g i e) t) (X.aug g a m K) := fun ρ fr => by
  unfold X.aug sSeq sAug
  rw [fr.at_ i _ hi]
  cases a with
  | int n =>
    show SRx c (((eNrm e ρ).so fun w ρ1 => match w.dat ρ1 with
      | some (.int b) => if i < ρ1.length then So.nx (ρ1.set i (.fz (.int (g n b)))) else .bad
      | _ => .bad).seq t) (m.bind fun o => (X.asI o.dat).bind fun j => K (.int (g n j)))
    have z := h.n ρ fr
    cases m with
    | bad => trivial
    | exc k => obtain ⟨ρ', e1, f1⟩ := z; exact ⟨ρ', by rw [e1]; rfl, f1⟩
    | ok o =>
      obtain ⟨w, ρ', e1, f1, hw⟩ := z
      rw [e1]
      simp only [R.so_ok, hw ρ' f1, X.bind_ok]
      cases o.dat with
      | int b =>
        have hl' := len_of f1 hl
        simp only [hl', if_true, X.asI_i, X.bind_ok, seq_nx]
        exact ht _ _ (f1.put i _)
      | _ => trivial
  | _ => trivial
def appM (i : Nat) (w : W) (ρ1 : Env) : R W := match w, ownL ρ1 i with
  | .o (.fz d), some xs => if xs.length < sizeLine then .ok (.val .none) (setL ρ1 i (xs ++ [d])) else .bad
  | _, _ => .bad
theorem bx_appK {s : Sl} {xs0 : List D} (h0 : L.at_ i = some s) (hs0 : s.lst = some xs0) (h : KW c.E L e M fun L1 o M1 => ∃ s xs K, L1.at_ i = some s ∧ s.lst = some xs ∧ M1 = X.app xs (.ok o) K ∧ ∀ ys, BX c (L1.put i (some (s.put ys))) t (K ys)) : BX c L (sSeq (sDrop (eApp i e)) t) M := by
  refine BX.evs fun ρ fr => ?_
  have q0 : eApp i e ρ = (eFz e ρ).bind (appM i) := by
    unfold eApp
    rw [ownL_at fr h0 hs0]
    rfl
  have main : KX c.E L (fun ρ => (eFz e ρ).bind (appM i)) M fun L1 a M1 => BX c L1 (fun ρ => (So.nx ρ).seq t) M1 :=
    KX.bind (KX.imp (kw_fz h) fun L1 w M1 ⟨o, hw, s, xs, K, h1, h2, h3, h4⟩ => fun ρ fr => by
      subst h3
      rw [hw]
      have q1 : appM i (.val o.dat) ρ = if xs.length < sizeLine then R.ok (W.val .none) (setL ρ i (xs ++ [o.dat])) else .bad := by
        unfold appM
        rw [ownL_at fr h1 h2]
      rw [q1, X.app_ok]
      by_cases hl : xs.length < sizeLine
      · rw [if_pos hl, if_pos hl]
        exact .inr (.inr ⟨_, _, _, rfl, setL_at fr h1 _, h4 _⟩)
      · rw [if_neg hl]
        exact .inl rfl)
  rcases main ρ fr with z | ⟨k, ρ', z1, z2, z3⟩ | ⟨a, ρ', L', z1, z2, z3⟩
  · exact .inl z
  · exact .inr (.inl ⟨k, ρ', z1, by rw [q0]; exact z2, z3⟩)
  · exact .inr (.inr ⟨a, ρ', L', by rw [q0]; exact z1, z2, z3⟩)
theorem bx_app {s : Sl} {xs : List D} {K : List D → X (Fl S B T)} (h : PX c.E L L1 e m) (h0 : L.at_ i = some s) (hs : s.lst = some xs) (h1 : L1.at_ i = some s) (ht : ∀ ys, BX c (L1.put i (some (s.put ys))) t (K ys)) : BX c L (sSeq (sDrop (eApp i e)) t) (X.app xs m K) :=
  bx_appK h0 hs (M := X.app xs m K) (kw_px (K := fun o => X.app xs (.ok o) K) h fun o => ⟨s, xs, K, h1, hs, rfl, ht⟩)
/-- name[e1] = e -/
theorem bx_subK {fi : Env → R W} {s : Sl} {xs0 : List D} (h : KW c.E L e M fun L1 o M1 => ∃ s0 xs0, L1.at_ i = some s0 ∧ s0.lst = some xs0 ∧ KW c.E L1 fi M1 fun L2 k M2 => ∃ s xs K, L2.at_ i = some s ∧ s.lst = some xs ∧ M2 = X.putAt xs k.dat o.dat K ∧ ∀ ys, BX c (L2.put i (some (s.put ys))) t (K ys)) : BX c L (sSeq (sSub i fi e) t) M :=
  BX.evs (KX.imp (kw_fz h) fun L1 w M1 ⟨o, hw, s0, xs0, h1, h2, h3⟩ => by
    rw [hw]
    have main : BX c L1 (fun ρ => ((eNrm fi ρ).so fun wi ρ2 => match wi.dat ρ2, ownL ρ2 i with
      | some (.int k), some xs => (match ixN xs.length k with
        | some j => So.nx (setL ρ2 i (xs.set j o.dat))
        | none => .bad)
      | _, _ => .bad).seq t) M1 := BX.evs (KX.imp (kw_nrm h3) fun L2 u M2 ⟨k, hu, s, xs, K, g1, g2, g3, g4⟩ => fun ρ fr => by
        rw [hu]
        subst g3
        have q1 : W.dat ρ (.val k.dat) = some k.dat := rfl
        simp only [q1, ownL_at fr g1 g2]
        unfold X.putAt
        cases k.dat with
        | int n =>
          cases hx : ixN xs.length n with
          | none => simp only [hx]; trivial
          | some j => simp only [hx, seq_nx]; exact g4 _ _ (setL_at fr g1 _)
        | _ => trivial)
    intro ρ fr
    have z := main ρ fr
    have q : stSub i fi (.val o.dat) ρ = (eNrm fi ρ).so fun wi ρ2 => match wi.dat ρ2, ownL ρ2 i with
      | some (.int k), some xs => (match ixN xs.length k with
        | some j => So.nx (setL ρ2 i (xs.set j o.dat))
        | none => .bad)
      | _, _ => .bad := by
      unfold stSub
      rw [ownL_at fr h1 h2]
      simp only []
      congr 1
      funext wi ρ2
      cases W.dat ρ2 wi with
      | none => rfl
      | some d => cases d <;> first | rfl | (cases ownL ρ2 i <;> rfl)
    show SRx c ((stSub i fi (.val o.dat) ρ).seq t) M1
    rw [q]
    exact z)
theorem bx_sub {fi : Env → R W} {mi : X O} {s : Sl} {xs : List D} {K : List D → X (Fl S B T)} (h : PX c.E L L e m) (hi : PX c.E L L fi mi) (h0 : L.at_ i = some s) (hs : s.lst = some xs) (ht : ∀ ys, BX c (L.put i (some (s.put ys))) t (K ys)) : BX c L (sSeq (sSub i fi e) t) (X.setAt xs mi m K) :=
  bx_subK (s := s) (xs0 := xs) (kw_px (K := fun o => mi.bind fun i => X.putAt xs i.dat o.dat K) h fun o => ⟨s, xs, h0, hs, kw_px (K := fun i => X.putAt xs i.dat o.dat K) hi fun k => ⟨s, xs, K, h0, hs, rfl, ht⟩⟩)
/-- an expression for its effect -/
theorem bx_dropK (h : KW c.E L e M fun L1 o M1 => BX c L1 t M1) : BX c L (sSeq (sDrop e) t) M := BX.evs (KX.imp h fun L1 w M1 ⟨o, hw, h1⟩ => h1)
/-! ends -/
theorem bx_retK (h : KW c.E L e M fun L1 o M1 => ∃ r, M1 = .ok (.rt r) ∧ ∀ ρ, Fits L1 ρ → c.Rt r (.o o) ρ) : BX c L (sRet e) M :=
  BX.ev (KX.imp h fun L1 w M1 ⟨o, hw, r, h1, h2⟩ => fun ρ fr => by
    rw [hw, h1]
    exact ⟨_, ρ, rfl, h2 ρ fr⟩)
theorem bx_ret {r : O → T} (h : PX c.E L L1 e m) (hr : ∀ o ρ, Fits L1 ρ → c.Rt (r o) (.o o) ρ) : BX c L (sRet e) (m.bind fun o => .ok (.rt (r o))) :=
  bx_retK (kw_px h fun o => ⟨r o, rfl, hr o⟩)
theorem bx_retown {xs : List D} {r : T} (h : L.at_ i = some (.fl xs)) (hr : ∀ ρ, Fits L ρ → c.Rt r (.own i) ρ) : BX c L (sRet (eVar i)) (.ok (.rt r)) := fun ρ fr => by
  refine ⟨.own i, ρ, ?_, hr ρ fr⟩
  unfold sRet eVar
  rw [fr.at_ i _ h]
  rfl
theorem bx_retN {r : T} (hr : ∀ ρ, Fits L ρ → c.Rt r (.val .none) ρ) : BX c L sRetN (.ok (.rt r)) := fun ρ fr => ⟨_, ρ, rfl, hr ρ fr⟩
/-! if -/
variable {ct : Env → R Bool} {a b : Env → So}
/-- the one way ends -/
theorem bx_ifx (h : KX c.E L ct M fun L1 x M1 => ∃ Ma Mb, M1 = (if x = true then Ma else Mb) ∧ BX c L1 a Ma ∧ BX c L1 t Mb) (hx : Xt a) : BX c L (sSeq (sIf ct a sNx) t) M :=
  BX.evs (KX.imp h fun L1 x M1 ⟨Ma, Mb, h1, h2, h3⟩ => fun ρ fr => by
    subst h1
    cases x with
    | true =>
      have q : (a ρ).seq t = a ρ := congrFun (Xt.seq (t := t) hx) ρ
      show SRx c ((a ρ).seq t) Ma
      rw [q]
      exact h2 ρ fr
    | false => exact h3 ρ fr)
/-- the else ends -/
theorem bx_ifxe (h : KX c.E L ct M fun L1 x M1 => ∃ Ma Mb, M1 = (if x = true then Ma else Mb) ∧ BX c L1 (sSeq a t) Ma ∧ BX c L1 b Mb) (hx : Xt b) : BX c L (sSeq (sIf ct a b) t) M :=
  BX.evs (KX.imp h fun L1 x M1 ⟨Ma, Mb, h1, h2, h3⟩ => fun ρ fr => by
    subst h1
    cases x with
    | false =>
      have q : (b ρ).seq t = b ρ := congrFun (Xt.seq (t := t) hx) ρ
      show SRx c ((b ρ).seq t) Mb
      rw [q]
      exact h3 ρ fr
    | true => exact h2 ρ fr)
/-- nothing follows -/
theorem bx_ifl (h : KX c.E L ct M fun L1 x M1 => ∃ Ma Mb, M1 = (if x = true then Ma else Mb) ∧ BX c L1 a Ma ∧ BX c L1 b Mb) : BX c L (sIf ct a b) M :=
  BX.ev (KX.imp h fun L1 x M1 ⟨Ma, Mb, h1, h2, h3⟩ => fun ρ fr => by
    subst h1
    cases x with
    | false => exact h3 ρ fr
    | true => exact h2 ρ fr)
/-- a block, then what follows -/
theorem bx_seq {m1 : X (Fl S1 B T)} {K : S1 → X (Fl S B T)} (LN1 : S1 → Pat) (h : BX ⟨c.E, c.Rt, LN1, c.LB⟩ L f m1) (ht : ∀ s, BX c (LN1 s) t (K s)) : BX c L (sSeq f t) (X.seqF m1 K) := fun ρ fr => by
  have z := h ρ fr
  unfold sSeq
  cases m1 with
  | bad => trivial
  | exc k => obtain ⟨ρ', e1, f1⟩ := z; exact ⟨ρ', by rw [e1]; rfl, f1⟩
  | ok q =>
    cases q with
    | nx s => obtain ⟨ρ', e1, f1⟩ := z; rw [e1]; exact ht s ρ' f1
    | bk s => obtain ⟨ρ', e1, f1⟩ := z; exact ⟨ρ', by rw [e1]; rfl, f1⟩
    | ct s => obtain ⟨ρ', e1, f1⟩ := z; exact ⟨ρ', by rw [e1]; rfl, f1⟩
    | rt r => obtain ⟨w, ρ', e1, f1⟩ := z; exact ⟨w, ρ', by rw [e1]; rfl, f1⟩
/-! loops -/
theorem forD_ok {Q : Type} {g : TgD} {tb : Env → So} {E : EP} {Rt : T → W → Env → Prop} {LB : B → Pat} (La : Q → Pat) {body : D → Q → X (Fl Q Q T)} (h : ∀ d s, GK (La s) g d (body d s) fun L2 M2 => BX ⟨E, Rt, La, La⟩ L2 tb M2) :
    ∀ (ds : List D) (s : Q) (ρ : Env), Fits (La s) ρ → SRx (B := B) ⟨E, Rt, La, LB⟩ (forD g tb ds ρ) (X.forF body ds s)
  | [], s, ρ, fr => ⟨ρ, rfl, fr⟩
  | d :: ds, s, ρ, fr => by
    rw [X.forF_cons]
    rcases h d s with hb | ⟨L1, h1, h2⟩
    · rw [hb]; trivial
    · obtain ⟨ρ1, e1, f1⟩ := h1 ρ fr
      rw [forD_cons, e1, forT_some]
      have z := h2 ρ1 f1
      cases hm : body d s with
      | bad => trivial
      | exc k => rw [hm] at z; obtain ⟨ρ2, e2, f2⟩ := z; exact ⟨ρ2, by rw [e2]; rfl, f2⟩
      | ok q =>
        rw [hm] at z
        cases q with
        | nx s1 => obtain ⟨ρ2, e2, f2⟩ := z; rw [e2]; exact forD_ok La h ds s1 ρ2 f2
        | ct s1 => obtain ⟨ρ2, e2, f2⟩ := z; rw [e2]; exact forD_ok La h ds s1 ρ2 f2
        | bk s1 => obtain ⟨ρ2, e2, f2⟩ := z; rw [e2]; exact ⟨ρ2, rfl, f2⟩
        | rt r => obtain ⟨w, ρ2, e2, f2⟩ := z; rw [e2]; exact ⟨w, ρ2, rfl, f2⟩
theorem bx_for {Q : Type} {E : EP} {Rt : T → W → Env → Prop} {LB : B → Pat} {g : TgD} {tb : Env → So} {fi : Env → R (List D)} {mi : X (List D)} {s0 : Q} {body : D → Q → X (Fl Q Q T)} {La : Q → Pat} (hi : PIx E L L1 fi mi) (h0 : Sub (La s0) L1) (h : ∀ d s, GK (La s) g d (body d s) fun L2 M2 => BX ⟨E, Rt, La, La⟩ L2 tb M2) :
    BX ⟨E, Rt, La, LB⟩ L (sFor fi g tb) (X.for_ mi s0 body) :=
  BX.ev (c := ⟨E, Rt, La, LB⟩) (ki_pi hi fun ds ρ fr => forD_ok La h ds s0 ρ (h0.fits fr))
theorem bx_forK {Q : Type} {E : EP} {Rt : T → W → Env → Prop} {LB : B → Pat} {g : TgD} {tb : Env → So} {fi : Env → R (List D)} {M : X (Fl Q B T)} {La : Q → Pat} (hi : KX E L fi M fun L1 ds M1 => ∃ s0 body, M1 = X.forF body ds s0 ∧ Sub (La s0) L1 ∧ ∀ d s, GK (La s) g d (body d s) fun L2 M2 => BX ⟨E, Rt, La, La⟩ L2 tb M2) :
    BX ⟨E, Rt, La, LB⟩ L (sFor fi g tb) M :=
  BX.ev (c := ⟨E, Rt, La, LB⟩) (KX.imp hi fun L1 ds M1 ⟨s0, body, h1, h0, h⟩ => fun ρ fr => by rw [h1]; exact forD_ok La h ds s0 ρ (h0.fits fr))
theorem whileD_ok {Q : Type} {tc : Env → R Bool} {tb : Env → So} {E : EP} {Rt : T → W → Env → Prop} {LB : B → Pat} (La : Q → Pat) {mc : Q → X Bool} {body : Q → X (Fl Q Q T)} (hc : ∀ s, PT E (La s) tc (mc s)) (h : ∀ s, BX ⟨E, Rt, La, La⟩ (La s) tb (body s)) :
    ∀ (n : Nat) (s : Q) (ρ : Env), Fits (La s) ρ → SRx (B := B) ⟨E, Rt, La, LB⟩ (whileD tc tb n ρ) (X.whF mc body n s)
  | 0, s, ρ, fr => trivial
  | n + 1, s, ρ, fr => by
    rw [X.whF_succ, while_succ]
    have zc := hc s ρ fr
    cases hm : mc s with
    | bad => trivial
    | exc k => rw [hm] at zc; obtain ⟨ρ2, e2, f2⟩ := zc; exact ⟨ρ2, by rw [e2]; rfl, f2⟩
    | ok x =>
      rw [hm] at zc
      obtain ⟨x', ρ1, e1, hx, f1⟩ := zc
      subst hx
      rw [e1]
      show SRx _ (if x' = true then whO tc tb n (tb ρ1) else .nx ρ1) (if x' = true then _ else _)
      cases x' with
      | false => exact ⟨ρ1, rfl, f1⟩
      | true =>
        rw [if_pos rfl, if_pos rfl]
        have z := h s ρ1 f1
        cases hm : body s with
        | bad => trivial
        | exc k => rw [hm] at z; obtain ⟨ρ2, e2, f2⟩ := z; exact ⟨ρ2, by rw [e2]; rfl, f2⟩
        | ok q =>
          rw [hm] at z
          cases q with
          | nx s1 => obtain ⟨ρ2, e2, f2⟩ := z; rw [e2]; exact whileD_ok La hc h n s1 ρ2 f2
          | ct s1 => obtain ⟨ρ2, e2, f2⟩ := z; rw [e2]; exact whileD_ok La hc h n s1 ρ2 f2
          | bk s1 => obtain ⟨ρ2, e2, f2⟩ := z; rw [e2]; exact ⟨ρ2, rfl, f2⟩
          | rt r => obtain ⟨w, ρ2, e2, f2⟩ := z; rw [e2]; exact ⟨w, ρ2, rfl, f2⟩
theorem bx_while {Q : Type} {E : EP} {Rt : T → W → Env → Prop} {LB : B → Pat} {tc : Env → R Bool} {tb : Env → So} {n : Nat} {s0 : Q} {mc : Q → X Bool} {body : Q → X (Fl Q Q T)} {La : Q → Pat} (h0 : Sub (La s0) L) (hc : ∀ s, PT E (La s) tc (mc s)) (h : ∀ s, BX ⟨E, Rt, La, La⟩ (La s) tb (body s)) :
    BX ⟨E, Rt, La, LB⟩ L (sWhile (fun _ => n) tc tb) (X.whF mc body n s0) := fun ρ fr => whileD_ok La hc h n s0 ρ (h0.fits fr)
/-! try -/
def Sl.er? : Option Sl → Bool
  | some (.er _) => true
  | _ => false
def noEr : Pat → Bool
  | [] => true
  | s :: L => !Sl.er? s && noEr L
theorem noEr_at : ∀ {L : Pat}, noEr L = true → ∀ (i : Nat) (s : Sl), L.at_ i = some s → s.clean = s
  | [], _, i, s, e => by cases e
  | t :: L, h, i, s, e => by
    unfold noEr at h
    rw [Bool.and_eq_true] at h
    cases i with
    | zero =>
      have e : t = some s := e
      subst e
      cases s <;> first | rfl | cases h.1
    | succ i => exact noEr_at h.2 i s e
theorem Fits.clean {L : Pat} {ρ : Env} (h : noEr L = true) (fr : Fits L ρ) : Fits L (PL.clean ρ) :=
  ⟨by unfold PL.clean; rw [List.length_map, fr.len], fun i s e => by
    unfold PL.clean
    rw [List.getElem?_map, fr.at_ i s e]
    show some s.clean = some s
    rw [noEr_at h i s e]⟩
/-- the value that is returned does not hang on the names of exceptions -/
def RtClean (Rt : T → W → Env → Prop) : Prop := ∀ r w ρ, Rt r w ρ → Rt r w (clean ρ)
theorem bx_try {E : EP} {Rt : T → W → Env → Prop} {LN : S → Pat} {LB : B → Pat} {hs : List Str} {fb fs : Env → So} {mb : X (Fl S B T)} {h : Str → X (Fl S B T)} (Lx : Pat) (hb : BX ⟨Fits Lx, Rt, LN, LB⟩ L fb mb) (hx : noEr Lx = true) (hi : Nat.ble (i + 1) Lx.length = true)
    (hn : ∀ s, noEr (LN s) = true ∧ (LN s).at_ i = none) (hbk : ∀ s, noEr (LB s) = true ∧ (LB s).at_ i = none) (hr : RtClean Rt)
    (hsu : ∀ k, BX ⟨fun _ => True, Rt, LN, LB⟩ (Lx.put i (some (.er k))) fs (h k)) : BX ⟨E, Rt, LN, LB⟩ L (sTry i hs fb fs) (X.tryF hs mb h) := fun ρ fr => by
  have z := hb ρ fr
  unfold sTry
  cases mb with
  | bad => trivial
  | ok q =>
    cases q with
    | nx s => obtain ⟨ρ', e1, f1⟩ := z; exact ⟨ρ', by rw [e1]; rfl, f1⟩
    | bk s => obtain ⟨ρ', e1, f1⟩ := z; exact ⟨ρ', by rw [e1]; rfl, f1⟩
    | ct s => obtain ⟨ρ', e1, f1⟩ := z; exact ⟨ρ', by rw [e1]; rfl, f1⟩
    | rt r => obtain ⟨w, ρ', e1, f1⟩ := z; exact ⟨w, ρ', by rw [e1]; rfl, f1⟩
  | exc k =>
    obtain ⟨ρ', e1, f1⟩ := z
    rw [e1]
    show SRx ⟨E, Rt, LN, LB⟩ (if k ∈ hs then (if i < ρ'.length then sTryE i (fs ((clean ρ').set i (.er k))) else .bad) else .bad) (if k ∈ hs then (match h k with | .ok f => .ok f | _ => .bad) else .bad)
    by_cases hk : k ∈ hs
    · rw [if_pos hk, if_pos hk, if_pos (len_of f1 hi)]
      have y := hsu k _ ((f1.clean hx).put i (.er k))
      have drop : ∀ {L : Pat} {r : Env}, noEr L = true → L.at_ i = none → Fits L r → Fits L ((clean r).set i .un) := fun {L r} h1 h2 h3 => by
        have h4 := (h3.clean h1).drop i .un
        refine ⟨by rw [List.length_set, clean, List.length_map, h3.len], fun j s e => h4.at_ j s ?_⟩
        rw [Pat.at_put]
        split
        · rename_i q; rw [q.1, h2] at e; cases e
        · exact e
      cases hk2 : h k with
      | bad => trivial
      | exc k' => trivial
      | ok q =>
        rw [hk2] at y
        cases q with
        | nx s => obtain ⟨r, e2, f2⟩ := y; exact ⟨_, by rw [e2]; rfl, drop (hn s).1 (hn s).2 f2⟩
        | bk s => obtain ⟨r, e2, f2⟩ := y; exact ⟨_, by rw [e2]; rfl, drop (hbk s).1 (hbk s).2 f2⟩
        | ct s => obtain ⟨r, e2, f2⟩ := y; exact ⟨_, by rw [e2]; rfl, drop (hbk s).1 (hbk s).2 f2⟩
        | rt r => obtain ⟨w, r', e2, f2⟩ := y; exact ⟨w, _, by rw [e2]; rfl, hr _ _ _ f2⟩
    · rw [if_neg hk, if_neg hk]; trivial
end

/-! ### defs -/
def noIo : List Md → Bool
  | [] => true
  | .io :: _ => false
  | _ :: ms => noIo ms
/-- the one list handed in stands at this place -/
def ioAt : List Md → Nat → Option Nat
  | [], _ => none
  | .io :: ms, i => if noIo ms = true then some i else none
  | _ :: ms, i => ioAt ms (i + 1)
theorem ios_noIo : ∀ {ms : List Md}, noIo ms = true → ∀ (i j : Nat) (ρ : Env), iosOf ms i j ρ = some []
  | [], _, _, _, _ => rfl
  | .d :: ms, h, i, j, ρ => ios_noIo (ms := ms) h (i + 1) j ρ
  | .sc :: ms, h, i, j, ρ => ios_noIo (ms := ms) h (i + 1) j ρ
  | .er :: ms, h, i, j, ρ => ios_noIo (ms := ms) h (i + 1) j ρ
  | .io :: ms, h, i, j, ρ => by cases h
theorem ios_ioAt : ∀ {ms : List Md} {i k : Nat}, ioAt ms i = some k → ∀ (j : Nat) (ρ : Env) (xs : List D), ρ[k]? = some (.io j xs) → iosOf ms i j ρ = some [xs]
  | [], i, k, h, j, ρ, xs, e => by cases h
  | .d :: ms, i, k, h, j, ρ, xs, e => ios_ioAt (ms := ms) h j ρ xs e
  | .sc :: ms, i, k, h, j, ρ, xs, e => ios_ioAt (ms := ms) h j ρ xs e
  | .er :: ms, i, k, h, j, ρ, xs, e => ios_ioAt (ms := ms) h j ρ xs e
  | .io :: ms, i, k, h, j, ρ, xs, e => by
    unfold ioAt at h
    split at h
    · rename_i hn
      cases h
      unfold iosOf
      rw [e]
      simp only [if_true, ios_noIo hn]
    · cases h
def Rt0 (ms : List Md) : O → W → Env → Prop := fun o w ρ => outOf ms (.rt w ρ) = .ret o []
def Rt1 (ms : List Md) : O × List D → W → Env → Prop := fun r w ρ => outOf ms (.rt w ρ) = .ret r.1 [r.2]
section
variable {ms : List Md} {ρ : Env} {L : Pat}
theorem rt0_o (h : noIo ms = true) (o : O) (ρ : Env) : Rt0 ms o (.o o) ρ := by
  show mkRet o (iosOf ms 0 0 ρ) = _
  rw [ios_noIo h]
  rfl
theorem rt0_own (h : noIo ms = true) {i : Nat} {xs : List D} (hi : L.at_ i = some (.fl xs)) (ρ : Env) (fr : Fits L ρ) : Rt0 ms (.fl xs) (.own i) ρ := by
  show (match ρ[i]? with | some (.fl xs) => mkRet (.fl xs) (iosOf ms 0 0 ρ) | _ => DOut.bad) = _
  rw [fr.at_ i _ hi, ios_noIo h]
  rfl
theorem rt1_o {k : Nat} (h : ioAt ms 0 = some k) {xs : List D} (hk : L.at_ k = some (.io 0 xs)) (o : O) (ρ : Env) (fr : Fits L ρ) : Rt1 ms (o, xs) (.o o) ρ := by
  show mkRet o (iosOf ms 0 0 ρ) = _
  rw [ios_ioAt h 0 ρ xs (fr.at_ k _ hk)]
  rfl
theorem rt1_own {k : Nat} (h : ioAt ms 0 = some k) {xs ys : List D} (hk : L.at_ k = some (.io 0 xs)) {i : Nat} (hi : L.at_ i = some (.fl ys)) (ρ : Env) (fr : Fits L ρ) : Rt1 ms (.fl ys, xs) (.own i) ρ := by
  show (match ρ[i]? with | some (.fl xs) => mkRet (.fl xs) (iosOf ms 0 0 ρ) | _ => DOut.bad) = _
  rw [fr.at_ i _ hi, ios_ioAt h 0 ρ xs (fr.at_ k _ hk)]
  rfl
theorem iosOf_clean : ∀ (ms : List Md) (i j : Nat) (ρ : Env), iosOf ms i j (clean ρ) = iosOf ms i j ρ
  | [], _, _, _ => rfl
  | .d :: ms, i, j, ρ => iosOf_clean ms (i + 1) j ρ
  | .sc :: ms, i, j, ρ => iosOf_clean ms (i + 1) j ρ
  | .er :: ms, i, j, ρ => iosOf_clean ms (i + 1) j ρ
  | .io :: ms, i, j, ρ => by
    unfold iosOf
    rw [iosOf_clean ms (i + 1) (j + 1) ρ]
    unfold clean
    rw [List.getElem?_map]
    cases ρ[i]? with
    | none => rfl
    | some s => cases s <;> rfl
theorem outOf_clean {x : O} {xss : List (List D)} {w : W} (h : outOf ms (.rt w ρ) = .ret x xss) : outOf ms (.rt w (clean ρ)) = .ret x xss := by
  cases w with
  | o y =>
    show mkRet y (iosOf ms 0 0 (clean ρ)) = _
    rw [iosOf_clean]
    exact h
  | own i =>
    have h : (match ρ[i]? with | some (.fl xs) => mkRet (.fl xs) (iosOf ms 0 0 ρ) | _ => DOut.bad) = .ret x xss := h
    show (match (clean ρ)[i]? with | some (.fl xs) => mkRet (.fl xs) (iosOf ms 0 0 (clean ρ)) | _ => DOut.bad) = _
    rw [iosOf_clean]
    unfold clean
    rw [List.getElem?_map]
    cases e : ρ[i]? with
    | none => rw [e] at h; cases h
    | some s => rw [e] at h; cases s <;> exact h
theorem rtc0 : RtClean (Rt0 ms) := fun r w ρ h => outOf_clean h
theorem rtc1 : RtClean (Rt1 ms) := fun r w ρ h => outOf_clean h
end
/-- nothing is told of the slots -/
def blank (n : Nat) : Pat := List.replicate n none
theorem fits_nil : Fits [] [] := ⟨rfl, fun i s e => by cases e⟩
theorem Fits.eq {L : Pat} {ρ : Env} (s : Sl) (h : Fits L ρ) : Fits (some s :: L) (s :: ρ) :=
  ⟨by rw [List.length_cons, List.length_cons, h.len], fun i t e => by
    cases i with
    | zero => exact e
    | succ i => exact h.at_ i t e⟩
theorem Fits.un {L : Pat} {ρ : Env} (s : Sl) (h : Fits L ρ) : Fits (none :: L) (s :: ρ) :=
  ⟨by rw [List.length_cons, List.length_cons, h.len], fun i t e => by
    cases i with
    | zero => cases e
    | succ i => exact h.at_ i t e⟩
theorem fits_blank : ∀ n : Nat, Fits (blank n) (List.replicate n .un)
  | 0 => fits_nil
  | n + 1 => by
    have := fits_blank n
    unfold blank at this ⊢
    rw [List.replicate_succ, List.replicate_succ]
    exact this.un .un
/-- the arguments one by one: what is known of the slots so far is pre -/
def Ent {β γ : Type} (fin : X β → X γ → Prop) (ok : Pat → X β → Prop) (r : Nat) (ms : List Md) (j : Nat) (pre : Pat → Pat) (g : List D → X γ) : Prop :=
  ∀ ds, g ds = .bad ∨ ∃ (m : X β) (L : Pat), fin m (g ds) ∧ Fits L (args ms j ds ++ List.replicate r .un) ∧ ok (pre L) m
section
variable {β γ : Type} {fin : X β → X γ → Prop} {ok : Pat → X β → Prop} {r : Nat} {ms : List Md} {j : Nat} {pre : Pat → Pat}
theorem ent_0 {m : X β} {m' : X γ} (hf : fin m m') (h : ok (pre (blank r)) m) : Ent fin ok r [] j pre (X.p0 m') := fun ds => by
  cases ds with
  | nil => exact .inr ⟨m, blank r, hf, fits_blank r, h⟩
  | cons d ds => exact .inl rfl
theorem ent_f0 {ok : Pat → X (Fl Unit Unit O) → Prop} {m : X (Fl Unit Unit O)} (h : ok (pre (blank r)) m) : Ent (fun m m' => m' = X.fin m) ok r [] j pre (X.p0 (X.fin m)) := ent_0 rfl h
theorem ent_f1 {ok : Pat → X (Fl (List D) Unit (O × List D)) → Prop} {m : X (Fl (List D) Unit (O × List D))} (h : ok (pre (blank r)) m) : Ent (fun m m' => m' = X.finS m) ok r [] j pre (X.p0 (X.finS m)) := ent_0 rfl h
theorem ent_d {k : D → List D → X γ} (h : ∀ d, Ent fin ok r ms j (fun L => pre (some (.fz d) :: L)) (k d)) : Ent fin ok r (.d :: ms) j pre (X.pD k) := fun ds => by
  cases ds with
  | nil => exact .inl rfl
  | cons d ds =>
    rcases h d ds with h | ⟨m, L, h1, h2, h3⟩
    · exact .inl h
    · exact .inr ⟨m, some (.fz d) :: L, h1, h2.eq (.fz d), h3⟩
theorem ent_io {k : List D → List D → X γ} (h : ∀ xs, Ent fin ok r ms (j + 1) (fun L => pre (some (.io j xs) :: L)) (k xs)) : Ent fin ok r (.io :: ms) j pre (X.pL k) := fun ds => by
  cases ds with
  | nil => exact .inl rfl
  | cons d ds =>
    cases d with
    | list xs =>
      rcases h xs ds with h | ⟨m, L, h1, h2, h3⟩
      · exact .inl h
      · exact .inr ⟨m, some (.io j xs) :: L, h1, h2.eq (.io j xs), h3⟩
    | _ => exact .inl rfl
theorem ent_sc {k : List Int → List D → X γ} (h : ∀ ns, Ent fin ok r ms j (fun L => pre (some (.sc ns) :: L)) (k ns)) : Ent fin ok r (.sc :: ms) j pre (X.pS k) := fun ds => by
  cases ds with
  | nil => exact .inl rfl
  | cons d ds =>
    cases d with
    | list xs =>
      show (match intsD xs with | some ns => k ns ds | none => .bad) = _ ∨ ∃ m L, fin m (match intsD xs with | some ns => k ns ds | none => .bad) ∧ Fits L ((match intsD xs with | some ns => Sl.sc ns | none => .un) :: args ms j ds ++ List.replicate r .un) ∧ _
      cases intsD xs with
      | none => exact .inl rfl
      | some ns =>
        rcases h ns ds with h | ⟨m, L, h1, h2, h3⟩
        · exact .inl h
        · exact .inr ⟨m, some (.sc ns) :: L, h1, h2.eq (.sc ns), h3⟩
    | _ => exact .inl rfl
theorem ent_er {k : Str → List D → X γ} (h : ∀ c, Ent fin ok r ms j (fun L => pre (some (.er c) :: L)) (k c)) : Ent fin ok r (.er :: ms) j pre (X.pE k) := fun ds => by
  cases ds with
  | nil => exact .inl rfl
  | cons d ds =>
    cases d with
    | str c =>
      rcases h c ds with h | ⟨m, L, h1, h2, h3⟩
      · exact .inl h
      · exact .inr ⟨m, some (.er c) :: L, h1, h2.eq (.er c), h3⟩
    | _ => exact .inl rfl
end
theorem sem0_fn {n : Nat} {ms : List Md} {f : Env → So} {g : List D → X O} (hms : noIo ms = true) (h : Ent (fun m m' => m' = X.fin m) (fun L m => BX ⟨fun _ => True, Rt0 ms, fun _ => blank n, fun _ => blank n⟩ L f m) (n - ms.length) ms 0 (fun L => L) g) : Sem0 (semOf n ms f) g := fun ds => by
  rcases h ds with h | ⟨m, L, hm, hf, hb⟩
  · rw [h]; trivial
  · rw [hm]
    have z := hb _ hf
    unfold semOf entry
    cases m with
    | bad => trivial
    | exc k =>
      obtain ⟨ρ', e1, _⟩ := z
      show outOf ms (f (args ms 0 ds ++ List.replicate (n - ms.length) .un)) = .exc k []
      rw [e1]
      show mkExc k (iosOf ms 0 0 ρ') = _
      rw [ios_noIo hms]
      rfl
    | ok q =>
      cases q with
      | nx s =>
        obtain ⟨ρ', e1, _⟩ := z
        show outOf ms (f (args ms 0 ds ++ List.replicate (n - ms.length) .un)) = _
        rw [e1]
        show mkRet (.fz .none) (iosOf ms 0 0 ρ') = _
        rw [ios_noIo hms]
        rfl
      | rt r =>
        obtain ⟨w, ρ', e1, h1⟩ := z
        show outOf ms (f (args ms 0 ds ++ List.replicate (n - ms.length) .un)) = _
        rw [e1]
        exact h1
      | bk s => trivial
      | ct s => trivial
/-- the list handed in stands at its place -/
def E1 (k : Nat) : EP := fun ρ => ∃ xs, ρ[k]? = some (.io 0 xs)
theorem cov_io {k : Nat} {xs : List D} {L : Pat} (h : L.at_ k = some (.io 0 xs)) : Cov (E1 k) L := fun ρ f => ⟨xs, f.at_ k _ h⟩
theorem sem1_fn {n : Nat} (k : Nat) {ms : List Md} {f : Env → So} {g : List D → X (O × List D)} (hms : ioAt ms 0 = some k) (hk : Nat.ble (k + 1) n = true) (h : Ent (fun m m' => m' = X.finS m) (fun L m => BX ⟨E1 k, Rt1 ms, fun xs => (blank n).put k (some (.io 0 xs)), fun _ => blank n⟩ L f m) (n - ms.length) ms 0 (fun L => L) g) : Sem1 (semOf n ms f) g := fun ds => by
  rcases h ds with h | ⟨m, L, hm, hf, hb⟩
  · rw [h]; trivial
  · rw [hm]
    have z := hb _ hf
    unfold semOf entry
    cases m with
    | bad => trivial
    | exc k' =>
      obtain ⟨ρ', e1, xs, hx⟩ := z
      refine ⟨xs, ?_⟩
      show outOf ms (f (args ms 0 ds ++ List.replicate (n - ms.length) .un)) = _
      rw [e1]
      show mkExc k' (iosOf ms 0 0 ρ') = _
      rw [ios_ioAt hms 0 ρ' xs hx]
      rfl
    | ok q =>
      cases q with
      | nx xs =>
        obtain ⟨ρ', e1, f1⟩ := z
        show outOf ms (f (args ms 0 ds ++ List.replicate (n - ms.length) .un)) = _
        rw [e1]
        show mkRet (.fz .none) (iosOf ms 0 0 ρ') = _
        have f1 : Fits ((blank n).put k (some (.io 0 xs))) ρ' := f1
        rw [ios_ioAt hms 0 ρ' xs (f1.at_ k _ (by rw [Pat.at_put, if_pos ⟨rfl, by rw [blank, List.length_replicate]; exact Nat.le_of_ble_eq_true hk⟩]))]
        rfl
      | rt r =>
        obtain ⟨w, ρ', e1, h1⟩ := z
        show outOf ms (f (args ms 0 ds ++ List.replicate (n - ms.length) .un)) = _
        rw [e1]
        exact h1
      | bk s => trivial
      | ct s => trivial
end PL
end
section
set_option Elab.async false
set_option linter.all false
set_option maxRecDepth 100000
set_option maxHeartbeats 2000000
set_option autoImplicit false
/-! The plain side of what most laws share: open, mixed, draw. -/
namespace PL
open PySem PySem.Spec PyProof.Rows L2

@[simp] theorem sz_line (n : Nat) : (n ≤ sizeLine) = (n ≤ 16777216) := by rw [sizeLine_eq]
@[simp] theorem sz_line' (n : Nat) : (n < sizeLine) = (n < 16777216) := by rw [sizeLine_eq]
@[simp] theorem addD_ii (i j : Int) : addD (.int i) (.int j) = some (.fz (.int (i + j))) := rfl
@[simp] theorem subD_ii (i j : Int) : subD (.int i) (.int j) = some (.fz (.int (i - j))) := rfl
@[simp] theorem xorD_ii (i j : Int) : xorD (.int i) (.int j) = some (.fz (.int (Builtin.bitXor i j))) := rfl
@[simp] theorem negD_i (i : Int) : negD (.int i) = some (.fz (.int (-i))) := rfl
@[simp] theorem ltD_ii (i j : Int) : ltD (.int i) (.int j) = some (.fz (.bool (decide (i < j)))) := rfl
@[simp] theorem leD_ii (i j : Int) : leD (.int i) (.int j) = some (.fz (.bool (decide (i ≤ j)))) := rfl
@[simp] theorem gtD_ii (i j : Int) : gtD (.int i) (.int j) = some (.fz (.bool (decide (j < i)))) := rfl
@[simp] theorem geD_ii (i j : Int) : geD (.int i) (.int j) = some (.fz (.bool (decide (j ≤ i)))) := rfl
@[simp] theorem lenD_l (xs : List D) : lenD [.list xs] = some (.fz (.int xs.length)) := rfl
@[simp] theorem lenD_t (xs : List D) : lenD [.tuple xs] = some (.fz (.int xs.length)) := rfl
@[simp] theorem tupleD_l (xs : List D) : tupleD [.list xs] = some (.fz (.tuple xs)) := rfl
@[simp] theorem tupleD_t (xs : List D) : tupleD [.tuple xs] = some (.fz (.tuple xs)) := rfl
@[simp] theorem listD_l (xs : List D) : listD [.list xs] = some (.fl xs) := rfl
@[simp] theorem listD_t (xs : List D) : listD [.tuple xs] = some (.fl xs) := rfl
@[simp] theorem max2D_ii (i j : Int) : max2D [.int i, .int j] = some (.fz (.int (max i j))) := rfl
@[simp] theorem min2D_ii (i j : Int) : min2D [.int i, .int j] = some (.fz (.int (min i j))) := rfl
@[simp] theorem absD_i (i : Int) : absD [.int i] = some (.fz (.int (if i < 0 then -i else i))) := rfl
@[simp] theorem intD_i (i : Int) : intD [.int i] = some (.fz (.int i)) := rfl
@[simp] theorem gcdD_ii (i j : Int) : gcdD [.int i, .int j] = some (.fz (.int ((Nat.gcd i.natAbs j.natAbs : Nat) : Int))) := rfl
theorem fdivD_ii {i j : Int} (h : 0 < j) (h2 : j < 2 ^ 9000) : fdivD (.int i) (.int j) = some (.fz (.int (i / j))) := by
  show (if _ then _ else _) = _
  rw [if_pos]
  refine ⟨h, ?_⟩
  refine (Nat.log2_lt (by omega)).mpr ?_
  have : j.natAbs = j.toNat := by omega
  rw [this]
  have e : ((2 ^ 9000 : Nat) : Int) = 2 ^ 9000 := by rw [Int.natCast_pow]; rfl
  have := Int.toNat_lt (by omega : 0 ≤ j) (n := 2 ^ 9000)
  rw [this, e]
  exact h2
theorem modD_ii {i j : Int} (h : 0 < j) : modD (.int i) (.int j) = some (.fz (.int (i % j))) := by
  show (if _ then _ else _) = _
  rw [if_pos h]
theorem shrD_ii {i j : Int} (h : 0 ≤ j) : shrD (.int i) (.int j) = some (.fz (.int (i / 2 ^ j.toNat))) := by
  show (if _ then _ else _) = _
  rw [if_pos h]
theorem mulD_ii {i j : Int} {a b : Nat} (hi : i.natAbs < 2 ^ a) (hj : j.natAbs < 2 ^ b) (h : a + b < 900000) : mulD (.int i) (.int j) = some (.fz (.int (i * j))) := by
  show (if _ then _ else _) = _
  rw [if_pos]
  have e1 : i.natAbs.log2 ≤ a := by
    by_cases h0 : i.natAbs = 0
    · rw [h0]; simp
    · exact Nat.le_of_lt ((Nat.log2_lt h0).mpr hi)
  have e2 : j.natAbs.log2 ≤ b := by
    by_cases h0 : j.natAbs = 0
    · rw [h0]; simp
    · exact Nat.le_of_lt ((Nat.log2_lt h0).mpr hj)
  omega
theorem mulD_small {i j : Int} (hi : i.natAbs < 2 ^ 400000) (hj : j.natAbs < 2 ^ 400000) : mulD (.int i) (.int j) = some (.fz (.int (i * j))) := mulD_ii hi hj (by decide)
theorem powD_ii {i j k : Int} (h : 0 ≤ j ∧ j ≤ 1000000 ∧ i.natAbs < 2 ^ 64) (e : i ^ j.toNat = k) : powD (.int i) (.int j) = some (.fz (.int k)) := by
  show (if _ then _ else _) = _
  rw [if_pos h, e]
@[simp] theorem powD_261 : powD (.int 2) (.int 61) = some (.fz (.int 2305843009213693952)) := powD_ii (by decide) (by decide)
@[simp] theorem powD_1018 : powD (.int 10) (.int 18) = some (.fz (.int 1000000000000000000)) := powD_ii (by decide) (by decide)
@[simp] theorem powD_1012 : powD (.int 10) (.int 12) = some (.fz (.int 1000000000000)) := powD_ii (by decide) (by decide)
theorem ixN_of {n : Nat} {i : Int} (h : 0 ≤ i) (h2 : i < n) : ixN n i = some i.toNat := by
  unfold ixN
  rw [if_pos h, if_pos h2]
theorem pow_big {a b : Nat} (h : a ≤ b) {n : Nat} (hn : n < 2 ^ a) : n < 2 ^ b := Nat.lt_of_lt_of_le hn (Nat.pow_le_pow_right (by decide) h)

/-! ### the three defs -/
def cMixed : Env → So := sSeq (sSet 2 (eBin modD (eBin addD (eBin addD (eBin mulD (eBin modD (eVar 0) (eBin subD (eBin powD (eC (.int 2)) (eC (.int 61))) (eC (.int 1)))) (eC (.int 6364136223846793005))) (eBin mulD (eVar 1) (eC (.int 1442695040888963407)))) (eC (.int 97))) (eBin powD (eC (.int 2)) (eC (.int 61))))) (sSeq (sSet 2 (eBin modD (eBin mulD (eBin xorD (eVar 2) (eBin shrD (eVar 2) (eC (.int 29)))) (eC (.int 3935559000370003845))) (eBin powD (eC (.int 2)) (eC (.int 61))))) (sRet (eBin modD (eBin mulD (eBin xorD (eVar 2) (eBin shrD (eVar 2) (eC (.int 31)))) (eC (.int 2862933555777941757))) (eBin powD (eC (.int 2)) (eC (.int 61))))))
def semMixed : DefSem := semOf 3 [.d, .d] cMixed
def cDraw : Env → So := sSeq (sUn [gN 2, gN 3, gN 4] (eVar 0)) (sSeq (sIf (tstB (eBin ltD (eVar 3) (eVar 1))) (sSeq (sSet 5 (eBin ixD (eVar 4) (eBin modD (eVar 2) (eN lenD (aCons (eNrm (eVar 4)) aNil))))) (sSeq (sSet 3 (eIf (tAndS (tstB (eBin ltD (eVar 2) (eN lenD (aCons (eNrm (eVar 4)) aNil)))) (tstB (eBin geD (eVar 5) (eBin powD (eC (.int 10)) (eC (.int 18)))))) (eVar 5) (eCall [.d, .d] semMixed (aCons (eFz (eVar 5)) (aCons (eFz (eVar 2)) aNil))))) (sSet 2 (eBin addD (eVar 2) (eC (.int 1)))))) sNx) (sSeq (sSub 0 (eC (.int 0)) (eVar 2)) (sSeq (sSub 0 (eC (.int 1)) (eBin fdivD (eVar 3) (eVar 1))) (sRet (eBin modD (eVar 3) (eVar 1))))))
def semDraw : DefSem := semOf 6 [.io, .d] cDraw
def cOpen : Env → So := sSeq (sSet 1 (eLc [2] (iSq (eSc 0)) (gN 2) tYesS (eN absD (aCons (eNrm (eN intD (aCons (eNrm (eVar 2)) aNil))) aNil)))) (sRet (eLst (aCons (eFz (eC (.int 0))) (aCons (eFz (eC (.int 0))) (aCons (eFz (eBin addD (eVar 1) (eLst (aCons (eFz (eC (.int 0))) aNil)))) aNil)))))
def semOpen : DefSem := semOf 3 [.sc] cOpen
theorem xor_small {x : Int} {k : Int} (h0 : 0 ≤ x) (h : x < 2305843009213693952) (hk : 0 ≤ k) : (Builtin.bitXor x (x / 2 ^ k.toNat)).natAbs < 2 ^ 61 ∧ 0 ≤ Builtin.bitXor x (x / 2 ^ k.toNat) := by
  have hd : 0 ≤ x / 2 ^ k.toNat := Int.ediv_nonneg h0 (two_pow_nn _)
  have hle : x / 2 ^ k.toNat ≤ x := Int.ediv_le_self _ h0
  rw [Bits.bitXor_pp h0 hd]
  refine ⟨?_, Int.natCast_nonneg _⟩
  rw [Int.natAbs_natCast]
  refine Nat.xor_lt_two_pow ?_ ?_
  · have : (2 : Nat) ^ 61 = 2305843009213693952 := by decide
    omega
  · have : (2 : Nat) ^ 61 = 2305843009213693952 := by decide
    omega
theorem shr29 (x : Int) : shrD (.int x) (.int 29) = some (.fz (.int (x / 536870912))) := shrD_ii (by decide)
theorem shr31 (x : Int) : shrD (.int x) (.int 31) = some (.fz (.int (x / 2147483648))) := shrD_ii (by decide)
theorem v_mixed (c t : Int) (hc : 0 ≤ c) (h0 : 0 ≤ t) (ht : t < 2 ^ 64) : ∃ v : Int, semMixed [.int c, .int t] = .ret (.fz (.int v)) [] ∧ 0 ≤ v := by
  have hm : (0 : Int) < 2305843009213693952 := by decide
  have hm1 : (0 : Int) < 2305843009213693951 := by decide
  have r1 : (c % 2305843009213693951).natAbs < 2 ^ 400000 := pow_big (a := 61) (by decide) (by
    have := Int.emod_lt_of_pos c hm1
    have := Int.emod_nonneg c (by decide : (2305843009213693951 : Int) ≠ 0)
    have : (2 : Nat) ^ 61 = 2305843009213693952 := by decide
    omega)
  have p1 := mulD_small (i := c % 2305843009213693951) (j := 6364136223846793005) r1 (pow_big (a := 64) (by decide) (by decide))
  have p2 := mulD_small (i := t) (j := 1442695040888963407) (pow_big (a := 64) (by decide) (by
    have e : (2 : Int) ^ 64 = 18446744073709551616 := by decide
    have : (2 : Nat) ^ 64 = 18446744073709551616 := by decide
    omega)) (pow_big (a := 64) (by decide) (by decide))
  have lim : ∀ x : Int, 0 ≤ x % 2305843009213693952 ∧ x % 2305843009213693952 < 2305843009213693952 := fun x => ⟨Int.emod_nonneg _ (by decide), Int.emod_lt_of_pos _ (by decide)⟩
  have s1 : ∀ x : Int, 0 ≤ x ∧ x < 2305843009213693952 → mulD (.int (Builtin.bitXor x (x / 536870912))) (.int 3935559000370003845) = some (.fz (.int (Builtin.bitXor x (x / 536870912) * 3935559000370003845))) := fun x hx =>
    mulD_small (pow_big (a := 61) (by decide) (xor_small (k := 29) hx.1 hx.2 (by decide)).1) (pow_big (a := 64) (by decide) (by decide))
  have s2 : ∀ x : Int, 0 ≤ x ∧ x < 2305843009213693952 → mulD (.int (Builtin.bitXor x (x / 2147483648))) (.int 2862933555777941757) = some (.fz (.int (Builtin.bitXor x (x / 2147483648) * 2862933555777941757))) := fun x hx =>
    mulD_small (pow_big (a := 61) (by decide) (xor_small (k := 31) hx.1 hx.2 (by decide)).1) (pow_big (a := 64) (by decide) (by decide))
  obtain ⟨x, hx⟩ : ∃ x : Int, x = (c % 2305843009213693951 * 6364136223846793005 + t * 1442695040888963407 + 97) % 2305843009213693952 := ⟨_, rfl⟩
  have lx := hx ▸ lim (c % 2305843009213693951 * 6364136223846793005 + t * 1442695040888963407 + 97)
  obtain ⟨y, hy⟩ : ∃ y : Int, y = Builtin.bitXor x (x / 536870912) * 3935559000370003845 % 2305843009213693952 := ⟨_, rfl⟩
  have ly := hy ▸ lim (Builtin.bitXor x (x / 536870912) * 3935559000370003845)
  refine ⟨Builtin.bitXor y (y / 2147483648) * 2862933555777941757 % 2305843009213693952, ?_, (lim _).1⟩
  simp only [semMixed, semOf, cMixed, entry, args]
  simp [modD_ii hm, modD_ii hm1, p1, p2, shr29, shr31, ← hx, s1 _ lx, ← hy, s2 _ ly]
/-- the draws behind at most m draws -/
def Dr (m : Nat) (xs : List D) : Prop := ∃ (t l : Int) (cs : List Int), xs = [.int t, .int l, .list (cs.map PyData.int)] ∧ 0 ≤ t ∧ t ≤ m ∧ 0 ≤ l ∧ 0 < cs.length ∧ cs.length ≤ 64 ∧ ∀ c ∈ cs, 0 ≤ c
theorem Dr.mono {m n : Nat} {xs : List D} (h : Dr m xs) (l : m ≤ n) : Dr n xs := by
  obtain ⟨t, l', cs, e, h1, h2, h3⟩ := h
  exact ⟨t, l', cs, e, h1, by omega, h3⟩
theorem v_draw {m : Nat} {xs : List D} {n : Int} (h : Dr m xs) (hm : m < 2 ^ 63) (hn : 0 < n) (hn2 : n < 2 ^ 9000) : ∃ (v : Int) (ys : List D), semDraw [.list xs, .int n] = .ret (.fz (.int v)) [ys] ∧ 0 ≤ v ∧ v < n ∧ Dr (m + 1) ys := by
  obtain ⟨t, l, cs, rfl, h1, h2, h3, h4, h5, h6⟩ := h
  have hlen : (0 : Int) < cs.length := by omega
  have hlenD : ((cs.map PyData.int).length : Int) = cs.length := by simp
  have fin : ∀ (t' l' : Int), 0 ≤ t' → t' ≤ m + 1 → 0 ≤ l' → 0 ≤ l' % n ∧ l' % n < n ∧ Dr (m + 1) [.int t', .int (l' / n), .list (cs.map PyData.int)] := fun t' l' a b c =>
    ⟨Int.emod_nonneg _ (by omega), Int.emod_lt_of_pos _ hn, t', l' / n, cs, rfl, a, by omega, Int.ediv_nonneg c (by omega), h4, h5, h6⟩
  have ix0 : ixN 3 0 = some 0 := rfl
  have ix1 : ixN 3 1 = some 1 := rfl
  by_cases c : l < n
  · -- the cell
    have hj : 0 ≤ t % cs.length := Int.emod_nonneg _ (by omega)
    have hj2 : t % cs.length < cs.length := Int.emod_lt_of_pos _ hlen
    obtain ⟨k, hk⟩ : ∃ k : Nat, t % cs.length = k := ⟨(t % cs.length).toNat, by omega⟩
    have hkl : k < cs.length := by omega
    have hix : ixD (.list (cs.map PyData.int)) (.int (t % cs.length)) = some (.fz (.int cs[k])) := by
      show (match atI (cs.map PyData.int) (t % cs.length) with | some d => some (P1.fz d) | none => none) = _
      have : atI (cs.map PyData.int) (t % cs.length) = some (.int cs[k]) := by
        unfold atI
        rw [ixN_of hj (by rw [hlenD]; exact hj2), hk]
        simp [hkl]
      rw [this]
    have hc0 : 0 ≤ cs[k] := h6 _ (List.getElem_mem hkl)
    obtain ⟨v, hv, hv0⟩ := v_mixed cs[k] t hc0 h1 (by
      have e : (2 : Int) ^ 64 = 18446744073709551616 := by decide
      have e' : (2 : Nat) ^ 63 = 9223372036854775808 := by decide
      omega)
    by_cases c2 : t < cs.length ∧ 1000000000000000000 ≤ cs[k]
    · obtain ⟨f1, f2, f3⟩ := fin (t + 1) cs[k] (by omega) (by omega) hc0
      refine ⟨cs[k] % n, _, ?_, f1, f2, f3⟩
      simp only [semDraw, semOf, cDraw, entry, args]
      simp [c, modD_ii hlen, hix, c2.1, c2.2, fdivD_ii hn hn2, modD_ii hn, ix0, ix1]
    · obtain ⟨f1, f2, f3⟩ := fin (t + 1) v (by omega) (by omega) hv0
      refine ⟨v % n, _, ?_, f1, f2, f3⟩
      simp only [semDraw, semOf, cDraw, entry, args]
      by_cases c3 : t < cs.length
      · have c4 : ¬ 1000000000000000000 ≤ cs[k] := fun z => c2 ⟨c3, z⟩
        simp [c, modD_ii hlen, hix, c3, c4, hv, fdivD_ii hn hn2, modD_ii hn, ix0, ix1]
      · simp [c, modD_ii hlen, hix, c3, hv, fdivD_ii hn hn2, modD_ii hn, ix0, ix1]
  · obtain ⟨f1, f2, f3⟩ := fin t l h1 (by omega) h3
    refine ⟨l % n, _, ?_, f1, f2, f3⟩
    simp only [semDraw, semOf, cDraw, entry, args]
    simp [c, fdivD_ii hn hn2, modD_ii hn, ix0, ix1]
theorem v_open (ns : List Int) (h : ns.length ≤ 63) : ∃ xs : List D, semOpen [.list (ns.map PyData.int)] = .ret (.fl xs) [] ∧ Dr 0 xs := by
  have hmap := lcD_map (vs := [2]) (g := gN 2) (tt := tYesS) (te := eN absD (aCons (eNrm (eN intD (aCons (eNrm (eVar 2)) aNil))) aNil)) (ρ := [.sc ns, .un, .un]) PyData.int (fun _ => true) (fun i : Int => PyData.int (if i < 0 then -i else i)) (fun i => ⟨[.sc ns, .un, .fz (.int i)], by simp, .inl ⟨rfl, [.sc ns, .un, .fz (.int i)], [.sc ns, .un, .fz (.int i)], rfl, by simp, by simp⟩⟩) ns
  rw [List.filter_eq_self.mpr (fun _ _ => rfl)] at hmap
  have hl : ns.length ≤ 16777216 := by omega
  have e : (ns.map fun i : Int => PyData.int (if i < 0 then -i else i)) ++ [PyData.int 0] = ((ns.map fun i : Int => if i < 0 then -i else i) ++ [0]).map PyData.int := by simp
  have hadd : addD (.list (ns.map fun i : Int => PyData.int (if i < 0 then -i else i))) (.list [.int 0]) = some (.fl (((ns.map fun i : Int => if i < 0 then -i else i) ++ [0]).map PyData.int)) := by
    show (if _ then _ else _) = _
    rw [if_pos (by rw [List.length_map, sizeLine_eq]; simp; omega), e]
  refine ⟨[.int 0, .int 0, .list (((ns.map fun i : Int => if i < 0 then -i else i) ++ [0]).map PyData.int)], ?_, 0, 0, _, rfl, by omega, by omega, by omega, by simp, by simp; omega, fun c hc => ?_⟩
  · have e0 : args [Md.sc] 0 [PyData.list (ns.map PyData.int)] = [.sc ns] := by
      show [match intsD (ns.map PyData.int) with | some ns => Sl.sc ns | none => .un] = _
      rw [intsD_map]
    simp only [semOpen, semOf, cOpen, entry, e0]
    simp [hmap, hl, hadd]
  · rcases List.mem_append.mp hc with z | z
    · obtain ⟨i, _, rfl⟩ := List.mem_map.mp z
      split <;> omega
    · have : c = 0 := by simpa using z
      omega
end PL
end
section
set_option Elab.async false
set_option linter.all false
set_option maxRecDepth 100000
set_option maxHeartbeats 2000000
set_option autoImplicit false
/-! Equality of plain data, and more words of the plain side. -/
namespace PL
open PySem PySem.Spec PyProof.Rows L2
theorem eqv_ii (a b : Int) : PyData.eqv (.int a) (.int b) = (a == b) := rfl
theorem eqv_ss (a b : Str) : PyData.eqv (.str a) (.str b) = (a == b) := rfl
theorem eqv_bb (a b : Bool) : PyData.eqv (.bool a) (.bool b) = (a == b) := rfl
theorem eqv_nn : PyData.eqv .none .none = true := rfl
theorem eqv_tt (a b : List D) : PyData.eqv (.tuple a) (.tuple b) = PyData.eqvAll a b := rfl
theorem eqv_nt (b : List D) : PyData.eqv .none (.tuple b) = false := rfl
theorem eqv_tn (b : List D) : PyData.eqv (.tuple b) .none = false := rfl
theorem dep_i (a : Int) : (PyData.int a).depth = 0 := rfl
theorem dep_s (a : Str) : (PyData.str a).depth = 0 := rfl
theorem dep_b (a : Bool) : (PyData.bool a).depth = 0 := rfl
theorem dep_n : (PyData.none).depth = 0 := rfl
theorem eqvAll_n : PyData.eqvAll [] [] = true := rfl
theorem eqvAll_c (a b : D) (as bs : List D) : PyData.eqvAll (a :: as) (b :: bs) = (PyData.eqv a b && PyData.eqvAll as bs) := rfl
@[simp] theorem eqD_ii (a b : Int) : eqD (.int a) (.int b) = some (.fz (.bool (a == b))) := rfl
@[simp] theorem neD_ii (a b : Int) : neD (.int a) (.int b) = some (.fz (.bool (!(a == b)))) := rfl
@[simp] theorem eqD_ss (a b : Str) : eqD (.str a) (.str b) = some (.fz (.bool (a == b))) := rfl
@[simp] theorem neD_ss (a b : Str) : neD (.str a) (.str b) = some (.fz (.bool (!(a == b)))) := rfl
@[simp] theorem isNotD_b (a b : Bool) : isNotD (.bool a) (.bool b) = some (.fz (.bool (!decide (a = b)))) := rfl
@[simp] theorem isD_b (a b : Bool) : isD (.bool a) (.bool b) = some (.fz (.bool (decide (a = b)))) := rfl
@[simp] theorem isD_n (d : D) : isD d .none = some (.fz (.bool (isNoneD d))) := by cases d <;> rfl
@[simp] theorem isNotD_n (d : D) : isNotD d .none = some (.fz (.bool (!isNoneD d))) := by cases d <;> rfl
@[simp] theorem isNone_i (i : Int) : isNoneD (.int i) = false := rfl
@[simp] theorem isNone_t (xs : List D) : isNoneD (.tuple xs) = false := rfl
@[simp] theorem isNone_n : isNoneD .none = true := rfl
/-- an index within -/
theorem ixD_t {xs : List D} {i : Int} {d : D} (h0 : 0 ≤ i) (h : xs[i.toNat]? = some d) : ixD (.tuple xs) (.int i) = some (.fz d) := by
  show (match atI xs i with | some d => some (P1.fz d) | none => none) = _
  have hl := (List.getElem?_eq_some_iff.mp h).1
  have : atI xs i = some d := by
    unfold atI
    rw [ixN_of h0 (by omega)]
    exact h
  rw [this]
theorem ixD_l {xs : List D} {i : Int} {d : D} (h0 : 0 ≤ i) (h : xs[i.toNat]? = some d) : ixD (.list xs) (.int i) = some (.fz d) := by
  show (match atI xs i with | some d => some (P1.fz d) | none => none) = _
  have hl := (List.getElem?_eq_some_iff.mp h).1
  have : atI xs i = some d := by
    unfold atI
    rw [ixN_of h0 (by omega)]
    exact h
  rw [this]
@[simp] theorem ixD_t0 (a : D) (r : List D) : ixD (.tuple (a :: r)) (.int 0) = some (.fz a) := ixD_t (by decide) rfl
@[simp] theorem ixD_t1 (a b : D) (r : List D) : ixD (.tuple (a :: b :: r)) (.int 1) = some (.fz b) := ixD_t (by decide) rfl
@[simp] theorem ixD_t2 (a b c : D) (r : List D) : ixD (.tuple (a :: b :: c :: r)) (.int 2) = some (.fz c) := ixD_t (by decide) rfl
@[simp] theorem isiD_int (i : Int) : isiD "int" (.int i) = true := rfl
@[simp] theorem isiD_bool (i : Int) : isiD "bool" (.int i) = false := rfl
@[simp] theorem isiD_str (x : Str) : isiD "str" (.str x) = true := rfl
@[simp] theorem isiD_tup (xs : List D) : isiD "tuple" (.tuple xs) = true := rfl
@[simp] theorem isiD_list (xs : List D) : isiD "list" (.list xs) = true := rfl
theorem dep_ints : ∀ ns : List Int, PyData.depthAll (ns.map PyData.int) = 0
  | [] => rfl
  | n :: ns => by
    show max 0 (PyData.depthAll (ns.map PyData.int)) = 0
    rw [dep_ints ns]
    rfl
theorem any_ints (x : Int) : ∀ ns : List Int, ((ns.map PyData.int).any fun z => PyData.eqv z (.int x)) = decide (x ∈ ns)
  | [] => rfl
  | n :: ns => by
    rw [List.map_cons, List.any_cons, any_ints x ns, eqv_ii]
    by_cases h : x = n
    · subst h; simp
    · have h2 : (n == x) = false := by simpa using fun e : n = x => h e.symm
      rw [h2]
      simp [h]
theorem inD_ints (x : Int) (ns : List Int) : inD (.int x) (.list (ns.map PyData.int)) = some (.fz (.bool (decide (x ∈ ns)))) := by
  show (if _ then _ else _) = _
  rw [if_pos ⟨by show 0 ≤ 64; omega, by show PyData.depthAll (ns.map PyData.int) + 1 ≤ 64; rw [dep_ints]; omega⟩, any_ints]
theorem notInD_ints (x : Int) (ns : List Int) : notInD (.int x) (.list (ns.map PyData.int)) = some (.fz (.bool (!decide (x ∈ ns)))) := by
  show (if _ then _ else _) = _
  rw [if_pos ⟨by show 0 ≤ 64; omega, by show PyData.depthAll (ns.map PyData.int) + 1 ≤ 64; rw [dep_ints]; omega⟩, any_ints]
def genT (stopOn : Bool) (vs : List Nat) (g : TgD) (tt : Env → R Bool) (te : Env → R W) (ds : List D) : Option Env → R Bool
  | none => .bad
  | some ρ1 => match tt ρ1 with
      | .ok true ρ2 => (match tstB te ρ2 with
        | .ok c ρ3 => if c = stopOn then .ok stopOn (wipeE ρ3 vs) else genD stopOn vs g tt te ds (wipeE ρ3 vs)
        | _ => .bad)
      | .ok false ρ2 => genD stopOn vs g tt te ds (wipeE ρ2 vs)
      | _ => .bad
theorem genD_cons (stopOn : Bool) (vs : List Nat) (g : TgD) (tt : Env → R Bool) (te : Env → R W) (d : D) (ds : List D) (ρ : Env) : genD stopOn vs g tt te (d :: ds) ρ = genT stopOn vs g tt te ds (g d ρ) := by
  unfold genT
  conv => lhs; unfold genD
  all_goals rfl
/-- all(..): every element is tried; nothing else changes -/
theorem genD_all {vs : List Nat} {g : TgD} {te : Env → R W} {ρ : Env} (p : D → Bool) : ∀ ds : List D, (∀ d ∈ ds, ∃ ρ1 ρ2, g d ρ = some ρ1 ∧ tstB te ρ1 = .ok (p d) ρ2 ∧ wipeE ρ2 vs = ρ) → genD false vs g tYesS te ds ρ = .ok (ds.all p) ρ
  | [], _ => rfl
  | d :: ds, h => by
    obtain ⟨ρ1, ρ2, h1, h2, h3⟩ := h d List.mem_cons_self
    rw [genD_cons, h1]
    show (match tYesS ρ1 with
      | .ok true ρ2 => (match tstB te ρ2 with
        | .ok c ρ3 => if c = false then R.ok false (wipeE ρ3 vs) else genD false vs g tYesS te ds (wipeE ρ3 vs)
        | _ => .bad)
      | .ok false ρ2 => genD false vs g tYesS te ds (wipeE ρ2 vs)
      | _ => .bad) = _
    simp only [tYes_eq, h2, h3]
    rw [List.all_cons]
    cases hp : p d with
    | false => simp
    | true =>
      simp
      exact genD_all p ds fun x hx => h x (List.mem_cons_of_mem _ hx)
theorem genD_any {vs : List Nat} {g : TgD} {te : Env → R W} {ρ : Env} (p : D → Bool) : ∀ ds : List D, (∀ d ∈ ds, ∃ ρ1 ρ2, g d ρ = some ρ1 ∧ tstB te ρ1 = .ok (p d) ρ2 ∧ wipeE ρ2 vs = ρ) → genD true vs g tYesS te ds ρ = .ok (ds.any p) ρ
  | [], _ => rfl
  | d :: ds, h => by
    obtain ⟨ρ1, ρ2, h1, h2, h3⟩ := h d List.mem_cons_self
    rw [genD_cons, h1]
    show (match tYesS ρ1 with
      | .ok true ρ2 => (match tstB te ρ2 with
        | .ok c ρ3 => if c = true then R.ok true (wipeE ρ3 vs) else genD true vs g tYesS te ds (wipeE ρ3 vs)
        | _ => .bad)
      | .ok false ρ2 => genD true vs g tYesS te ds (wipeE ρ2 vs)
      | _ => .bad) = _
    simp only [tYes_eq, h2, h3]
    rw [List.any_cons]
    cases hp : p d with
    | true => simp
    | false =>
      simp
      exact genD_any p ds fun x hx => h x (List.mem_cons_of_mem _ hx)
end PL
end
section
set_option Elab.async false
set_option linter.all false
set_option maxRecDepth 100000
set_option maxHeartbeats 2000000
set_option autoImplicit false
/-! Words over the plain functions: loops, comprehensions, the draws that most laws share. -/
namespace PL
open PySem PySem.Spec PyProof.Rows L2

@[simp] theorem p1o_fz (d : D) : P1.o (.fz d) = .fz d := rfl
@[simp] theorem p1o_fl (xs : List D) : P1.o (.fl xs) = .fl xs := rfl
@[simp] theorem truD_n : truD .none = false := rfl
@[simp] theorem truD_i (i : Int) : truD (.int i) = (i != 0) := rfl
@[simp] theorem truD_l (xs : List D) : truD (.list xs) = !xs.isEmpty := rfl
@[simp] theorem truD_t (xs : List D) : truD (.tuple xs) = !xs.isEmpty := rfl
namespace X
variable {α β γ S B T : Type}
@[simp] theorem call_bad (g : List D → X O) : X.call g .bad = .bad := rfl
@[simp] theorem call_exc (g : List D → X O) (c : Str) : X.call g (.exc c) = .exc c := rfl
@[simp] theorem cons_ite {c : Prop} [Decidable c] (a b : X O) (r : X (List D)) : cons (if c then a else b) r = if c then cons a r else cons b r := by split <;> rfl
@[simp] theorem call_ite {c : Prop} [Decidable c] (g : List D → X O) (a b : X (List D)) : X.call g (if c then a else b) = if c then X.call g a else X.call g b := by split <;> rfl
@[simp] theorem chK_true (g' : D → D → Option P1) (y : D) (c : X O) : chK g' y c (some true) = c.bind fun z => ofP (g' y z.dat) := rfl
@[simp] theorem chK_false (g' : D → D → Option P1) (y : D) (c : X O) : chK g' y c (some false) = .ok (.fz (.bool false)) := rfl
def chM (g' g'' : D → D → Option P1) (y : D) (c d : X O) : Option Bool → X O
  | some true => c.bind fun z => chK g'' z.dat d (boolP (g' y z.dat))
  | some false => .ok (.fz (.bool false))
  | none => .bad
@[simp] theorem ch3_eq (g g' g'' : D → D → Option P1) (x y : O) (c d : X O) : ch3 g g' g'' (.ok x) (.ok y) c d = chM g' g'' y.dat c d (boolP (g x.dat y.dat)) := by
  show (match boolP (g x.dat y.dat) with
    | some true => c.bind fun z => chK g'' z.dat d (boolP (g' y.dat z.dat))
    | some false => .ok (.fz (.bool false))
    | none => .bad) = _
  cases boolP (g x.dat y.dat) with
  | none => rfl
  | some b => cases b <;> rfl
@[simp] theorem chM_b (g' g'' : D → D → Option P1) (y : D) (z : O) (d : X O) (b : Bool) : chM g' g'' y (.ok z) d (some b) = if b = true then chK g'' z.dat d (boolP (g' y z.dat)) else .ok (.fz (.bool false)) := by cases b <;> rfl
/-- a loop whose turns fold -/
theorem forF_fold {α σ : Type} {body : D → S → X (Fl S S T)} (enc : α → D) (st : σ → S) (step : σ → α → σ) : ∀ (as : List α) (s : σ), (∀ a ∈ as, ∀ s, body (enc a) (st s) = .ok (.nx (st (step s a)))) → (forF body (as.map enc) (st s) : X (Fl S B T)) = .ok (.nx (st (as.foldl step s)))
  | [], s, _ => rfl
  | a :: as, s, h => by
    rw [List.map_cons, forF_cons, h a List.mem_cons_self]
    exact forF_fold enc st step as (step s a) fun b hb => h b (List.mem_cons_of_mem _ hb)
/-- a loop that keeps an invariant -/
theorem forF_inv {body : D → S → X (Fl S S T)} (I : Nat → S → Prop) : ∀ (ds : List D) (n : Nat) (s : S), I n s → (∀ (i : Nat) (d : D) (s : S), ds[i]? = some d → I (n + i) s → ∃ s', body d s = .ok (.nx s') ∧ I (n + i + 1) s') → ∃ s', (forF body ds s : X (Fl S B T)) = .ok (.nx s') ∧ I (n + ds.length) s'
  | [], n, s, h, _ => ⟨s, rfl, h⟩
  | d :: ds, n, s, h, t => by
    obtain ⟨s1, e1, h1⟩ := t 0 d s rfl h
    obtain ⟨s2, e2, h2⟩ := forF_inv I ds (n + 1) s1 h1 fun i d s e hi => by
      obtain ⟨s', q1, q2⟩ := t (i + 1) d s e (by rw [show n + (i + 1) = n + 1 + i by omega]; exact hi)
      exact ⟨s', q1, by rw [show n + 1 + i + 1 = n + (i + 1) + 1 by omega]; exact q2⟩
    refine ⟨s2, by rw [forF_cons, e1]; exact e2, ?_⟩
    rw [List.length_cons, show n + (ds.length + 1) = n + 1 + ds.length by omega]
    exact h2
/-- .. over encoded items -/
theorem forF_invE {α : Type} {body : D → S → X (Fl S S T)} (enc : α → D) (I : List α → S → Prop) (as : List α) (s : S) (h0 : I [] s) (t : ∀ (l : List α) (a : α) (r : List α) (s : S), as = l ++ a :: r → I l s → ∃ s', body (enc a) s = .ok (.nx s') ∧ I (l ++ [a]) s') : ∃ s', (forF body (as.map enc) s : X (Fl S B T)) = .ok (.nx s') ∧ I as s' := by
  suffices h : ∀ (r l : List α) (s : S), as = l ++ r → I l s → ∃ s', (forF body (r.map enc) s : X (Fl S B T)) = .ok (.nx s') ∧ I as s' from h as [] s rfl h0
  intro r
  induction r with
  | nil => intro l s e h; exact ⟨s, rfl, by rw [e, List.append_nil]; exact h⟩
  | cons a r ih =>
    intro l s e h
    obtain ⟨s1, e1, h1⟩ := t l a r s e h
    obtain ⟨s2, e2, h2⟩ := ih (l ++ [a]) s1 (by rw [e]; simp) h1
    exact ⟨s2, by rw [List.map_cons, forF_cons, e1]; exact e2, h2⟩
/-- a loop none of whose turns ends it -/
theorem forF_skip {body : D → S → X (Fl S S T)} (s : S) : ∀ (ds : List D), (∀ d ∈ ds, body d s = .ok (.nx s)) → (forF body ds s : X (Fl S B T)) = .ok (.nx s)
  | [], _ => rfl
  | d :: ds, h => by
    rw [forF_cons, h d List.mem_cons_self]
    exact forF_skip s ds fun b hb => h b (List.mem_cons_of_mem _ hb)
/-- a loop that a turn ends by a return -/
theorem forF_rt {body : D → S → X (Fl S S T)} (s : S) (r : T) : ∀ (ds : List D) (d : D) (es : List D), (∀ e ∈ ds, body e s = .ok (.nx s)) → body d s = .ok (.rt r) → (forF body (ds ++ d :: es) s : X (Fl S B T)) = .ok (.rt r)
  | [], d, es, _, h => by rw [List.nil_append, forF_cons, h]; rfl
  | e :: ds, d, es, h1, h2 => by
    rw [List.cons_append, forF_cons, h1 e List.mem_cons_self]
    exact forF_rt s r ds d es (fun b hb => h1 b (List.mem_cons_of_mem _ hb)) h2
/-- a search: the first item at which the turn returns -/
theorem forF_find {α : Type} {body : D → S → X (Fl S S T)} (enc : α → D) (s : S) (f : α → Option T) : ∀ as : List α, (∀ a ∈ as, body (enc a) s = match f a with | none => .ok (.nx s) | some r => .ok (.rt r)) → (forF body (as.map enc) s : X (Fl S B T)) = match as.findSome? f with | none => .ok (.nx s) | some r => .ok (.rt r)
  | [], _ => rfl
  | a :: as, h => by
    rw [List.map_cons, forF_cons, h a List.mem_cons_self, List.findSome?_cons]
    cases f a with
    | none => exact forF_find enc s f as fun b hb => h b (List.mem_cons_of_mem _ hb)
    | some r => rfl
/-- comprehensions -/
theorem comp_map {α : Type} {f : D → X (Option D)} (enc : α → D) (p : α → Bool) (g : α → D) : ∀ as : List α, (∀ a ∈ as, f (enc a) = if p a = true then .ok (some (g a)) else .ok none) → comp f (as.map enc) = .ok ((as.filter p).map g)
  | [], _ => rfl
  | a :: as, h => by
    rw [List.map_cons]
    unfold comp
    rw [h a List.mem_cons_self, comp_map enc p g as fun b hb => h b (List.mem_cons_of_mem _ hb)]
    by_cases c : p a = true
    · rw [if_pos c, List.filter_cons_of_pos c]; rfl
    · rw [if_neg c, List.filter_cons_of_neg c]
theorem comp_all {α : Type} {f : D → X (Option D)} (enc : α → D) (g : α → D) (as : List α) (h : ∀ a ∈ as, f (enc a) = .ok (some (g a))) : comp f (as.map enc) = .ok (as.map g) := by
  have := comp_map (f := f) enc (fun _ => true) g as fun a ha => by rw [h a ha]; rfl
  rw [this, List.filter_eq_self.mpr fun _ _ => rfl]
def lcK : X (List D) → X O
  | .ok xs => if xs.length ≤ sizeLine then .ok (.fl xs) else .bad
  | _ => .bad
theorem lc_ok (ds : List D) (f : D → X (Option D)) : lc (.ok ds) f = lcK (comp f ds) := by
  unfold lc
  show (match comp f ds with | .ok xs => if xs.length ≤ sizeLine then X.ok (O.fl xs) else .bad | _ => .bad) = _
  cases comp f ds <;> rfl
@[simp] theorem lcK_ok (xs : List D) : lcK (.ok xs) = if xs.length ≤ sizeLine then .ok (.fl xs) else .bad := rfl
theorem lc_map {α : Type} {ds : List D} {f : D → X (Option D)} {as : List α} (enc : α → D) (p : α → Bool) (g : α → D) (e : ds = as.map enc) (h : ∀ a ∈ as, f (enc a) = if p a = true then .ok (some (g a)) else .ok none) (hl : as.length ≤ 16777216) : lc (.ok ds) f = .ok (.fl ((as.filter p).map g)) := by
  rw [e, lc_ok, comp_map enc p g as h, lcK_ok, if_pos]
  rw [List.length_map, sizeLine_eq]
  exact Nat.le_trans (List.length_filter_le _ _) hl
theorem lc_all {α : Type} {ds : List D} {f : D → X (Option D)} {as : List α} (enc : α → D) (g : α → D) (e : ds = as.map enc) (h : ∀ a ∈ as, f (enc a) = .ok (some (g a))) (hl : as.length ≤ 16777216) : lc (.ok ds) f = .ok (.fl (as.map g)) := by
  rw [e, lc_ok, comp_all enc g as h, lcK_ok, if_pos]
  rw [List.length_map, sizeLine_eq]
  exact hl
theorem genF_all {α : Type} {f : D → X (Option Bool)} (enc : α → D) (p : α → Bool) : ∀ as : List α, (∀ a ∈ as, f (enc a) = .ok (some (p a))) → genF false f (as.map enc) = .ok (as.all p)
  | [], _ => rfl
  | a :: as, h => by
    rw [List.map_cons]
    unfold genF
    rw [h a List.mem_cons_self, genF_all enc p as fun b hb => h b (List.mem_cons_of_mem _ hb), List.all_cons]
    cases p a <;> rfl
theorem genF_any {α : Type} {f : D → X (Option Bool)} (enc : α → D) (p : α → Bool) : ∀ as : List α, (∀ a ∈ as, f (enc a) = .ok (some (p a))) → genF true f (as.map enc) = .ok (as.any p)
  | [], _ => rfl
  | a :: as, h => by
    rw [List.map_cons]
    unfold genF
    rw [h a List.mem_cons_self, genF_any enc p as fun b hb => h b (List.mem_cons_of_mem _ hb), List.any_cons]
    cases p a <;> rfl
/-- all: up to the first that fails, which need not be covered behind it -/
theorem genF_stop {f : D → X (Option Bool)} (st : Bool) : ∀ (ds : List D) (d : D) (es : List D), (∀ e ∈ ds, f e = .ok (some (!st))) → f d = .ok (some st) → genF st f (ds ++ d :: es) = .ok st
  | [], d, es, _, h => by
    rw [List.nil_append]
    unfold genF
    rw [h]
    exact if_pos rfl
  | e :: ds, d, es, h1, h2 => by
    rw [List.cons_append]
    unfold genF
    rw [h1 e List.mem_cons_self]
    show (if (!st) = st then _ else _) = _
    rw [if_neg (by cases st <;> decide)]
    exact genF_stop st ds d es (fun b hb => h1 b (List.mem_cons_of_mem _ hb)) h2
def genK : X Bool → X O
  | .ok b => .ok (.fz (.bool b))
  | _ => .bad
theorem gen_ok (st : Bool) (ds : List D) (f : D → X (Option Bool)) : gen st (.ok ds) f = genK (genF st f ds) := by
  unfold gen
  show (match genF st f ds with | .ok b => X.ok (O.fz (.bool b)) | _ => .bad) = _
  cases genF st f ds <;> rfl
@[simp] theorem genK_ok (b : Bool) : genK (.ok b) = .ok (.fz (.bool b)) := rfl
theorem gen_all {α : Type} {ds : List D} {f : D → X (Option Bool)} {as : List α} (enc : α → D) (p : α → Bool) (e : ds = as.map enc) (h : ∀ a ∈ as, f (enc a) = .ok (some (p a))) : gen false (.ok ds) f = .ok (.fz (.bool (as.all p))) := by
  rw [e, gen_ok, genF_all enc p as h]
  rfl
theorem gen_any {α : Type} {ds : List D} {f : D → X (Option Bool)} {as : List α} (enc : α → D) (p : α → Bool) (e : ds = as.map enc) (h : ∀ a ∈ as, f (enc a) = .ok (some (p a))) : gen true (.ok ds) f = .ok (.fz (.bool (as.any p))) := by
  rw [e, gen_ok, genF_any enc p as h]
  rfl
end X
/-! ### ranges -/
theorem rng0_map (n : Nat) : rngI 0 (n : Int) = (List.range n).map fun k : Nat => PyData.int ((k : Nat) : Int) := by
  unfold rngI
  have : ((n : Int) - 0).toNat = n := by omega
  rw [this]
  simp
theorem inR_of {i : Int} (h0 : -4611686018427387904 ≤ i) (h1 : i < 4611686018427387904) : inR i = true := by
  unfold inR
  have e : (2 : Int) ^ 62 = 4611686018427387904 := by decide
  rw [e]
  simp
  omega
theorem rng1_of {i : Int} (h0 : -4611686018427387904 ≤ i) (h1 : i < 4611686018427387904) : X.rng1 (.int i) = .ok (rngI 0 i) := X.rng1_i (inR_of h0 h1)
theorem rng2_of {i j : Int} (h0 : -4611686018427387904 ≤ i) (h1 : i < 4611686018427387904) (h2 : -4611686018427387904 ≤ j) (h3 : j < 4611686018427387904) : X.rng2 (.int i) (.int j) = .ok (rngI i j) := X.rng2_i (inR_of h0 h1) (inR_of h2 h3)
theorem rng1_nat {n : Nat} (h : n < 4611686018427387904) : X.rng1 (.int (n : Int)) = .ok ((List.range n).map fun k : Nat => PyData.int ((k : Nat) : Int)) := by
  rw [rng1_of (by omega) (by omega), rng0_map]
/-- range(n) of a length: by this word alone (the kernel is not to unfold inR) -/
theorem src_n {m : X O} {n : Nat} (h : m = .ok (.fz (.int (n : Int)))) (hn : n < 4611686018427387904) : X.range1 m = .ok ((List.range n).map fun k : Nat => PyData.int ((k : Nat) : Int)) := by
  rw [h, X.range1_ok]
  exact rng1_nat hn
theorem src_i {m : X O} {i : Int} (h : m = .ok (.fz (.int i))) (h0 : -4611686018427387904 ≤ i) (h1 : i < 4611686018427387904) : X.range1 m = .ok (rngI 0 i) := by
  rw [h, X.range1_ok]
  exact rng1_of h0 h1
/-! ### an index -/
theorem ixD_ln {xs : List D} {n : Nat} {d : D} (h : xs[n]? = some d) : ixD (.list xs) (.int (n : Int)) = some (.fz d) := ixD_l (by omega) (by simpa using h)
theorem ixD_tn {xs : List D} {n : Nat} {d : D} (h : xs[n]? = some d) : ixD (.tuple xs) (.int (n : Int)) = some (.fz d) := ixD_t (by omega) (by simpa using h)
/-! ### the law's end -/
theorem plain_of {sem : DefSem} {g : List D → X O} (z : Sem0 sem g) (h : ∀ ns : List Int, ns.length ≤ 63 → (∀ z ∈ ns, Builtin.Int.intBits z ≤ 1048576) → g [.list (ns.map PyData.int)] = .ok (.fz (.bool true))) : Plain sem := fun ns h1 h2 => by
  have q := z [.list (ns.map PyData.int)]
  rw [h ns h1 h2] at q
  exact q
/-! ### the draws -/
namespace Dw
def g__law_open : List D → X O := X.pS fun script' => X.p0 (X.fin (X.letD (X.lc (X.seqI (.ok (.fl (script'.map PyData.int)))) (fun cell' => X.keep (.ok true) (X.opN absD (X.cons (X.opN intD (X.cons (X.v cell') X.nil)) X.nil)))) fun cells' => X.ret (X.lst (X.cons (X.v (.int 0)) (X.cons (X.v (.int 0)) (X.cons (X.op2 addD (X.v cells') (X.lst (X.cons (X.v (.int 0)) X.nil))) X.nil))))))
def g__law_mixed : List D → X O := X.pD fun cell' => X.pD fun turn' => X.p0 (X.fin (X.letD (X.op2 modD (X.op2 addD (X.op2 addD (X.op2 mulD (X.op2 modD (X.v cell') (X.op2 subD (X.op2 powD (X.v (.int 2)) (X.v (.int 61))) (X.v (.int 1)))) (X.v (.int 6364136223846793005))) (X.op2 mulD (X.v turn') (X.v (.int 1442695040888963407)))) (X.v (.int 97))) (X.op2 powD (X.v (.int 2)) (X.v (.int 61)))) fun number' => X.letD (X.op2 modD (X.op2 mulD (X.op2 xorD (X.v number') (X.op2 shrD (X.v number') (X.v (.int 29)))) (X.v (.int 3935559000370003845))) (X.op2 powD (X.v (.int 2)) (X.v (.int 61)))) fun number' => X.ret (X.op2 modD (X.op2 mulD (X.op2 xorD (X.v number') (X.op2 shrD (X.v number') (X.v (.int 31)))) (X.v (.int 2862933555777941757))) (X.op2 powD (X.v (.int 2)) (X.v (.int 61))))))
def g__law_draw : List D → X (O × List D) := X.pL fun draws' => X.pD fun size' => X.p0 (X.finS (X.letD (X.v (.list draws')) fun d1 => X.un3 d1 fun turn' left' cells' => X.seqF (X.iff_ (X.tB (X.op2 ltD (X.v left') (X.v size'))) (X.letD (X.op2 ixD (X.v cells') (X.op2 modD (X.v turn') (X.opN lenD (X.cons (X.v cells') X.nil)))) fun cell' => X.letD (X.cond (X.tAnd (X.tB (X.op2 ltD (X.v turn') (X.opN lenD (X.cons (X.v cells') X.nil)))) (X.tB (X.op2 geD (X.v cell') (X.op2 powD (X.v (.int 10)) (X.v (.int 18)))))) (X.v cell') (X.call g__law_mixed (X.cons (X.v cell') (X.cons (X.v turn') X.nil)))) fun left' => X.letD (X.op2 addD (X.v turn') (X.v (.int 1))) fun turn' => X.ok (Fl.nx (turn', left'))) (X.ok (Fl.nx (turn', left')))) fun (turn', left') => X.setAt draws' (X.v (.int 0)) (X.v turn') fun draws' => X.setAt draws' (X.v (.int 1)) (X.op2 fdivD (X.v left') (X.v size')) fun draws' => X.retS (X.op2 modD (X.v left') (X.v size')) draws'))
theorem v_mixed (c t : Int) (hc : 0 ≤ c) (h0 : 0 ≤ t) (ht : t < 2 ^ 64) : ∃ v : Int, g__law_mixed [.int c, .int t] = .ok (.fz (.int v)) ∧ 0 ≤ v := by
  have hm : (0 : Int) < 2305843009213693952 := by decide
  have hm1 : (0 : Int) < 2305843009213693951 := by decide
  have r1 : (c % 2305843009213693951).natAbs < 2 ^ 400000 := pow_big (a := 61) (by decide) (by
    have := Int.emod_lt_of_pos c hm1
    have := Int.emod_nonneg c (by decide : (2305843009213693951 : Int) ≠ 0)
    have : (2 : Nat) ^ 61 = 2305843009213693952 := by decide
    omega)
  have p1 := mulD_small (i := c % 2305843009213693951) (j := 6364136223846793005) r1 (pow_big (a := 64) (by decide) (by decide))
  have p2 := mulD_small (i := t) (j := 1442695040888963407) (pow_big (a := 64) (by decide) (by
    have e : (2 : Int) ^ 64 = 18446744073709551616 := by decide
    have : (2 : Nat) ^ 64 = 18446744073709551616 := by decide
    omega)) (pow_big (a := 64) (by decide) (by decide))
  have lim : ∀ x : Int, 0 ≤ x % 2305843009213693952 ∧ x % 2305843009213693952 < 2305843009213693952 := fun x => ⟨Int.emod_nonneg _ (by decide), Int.emod_lt_of_pos _ (by decide)⟩
  have s1 : ∀ x : Int, 0 ≤ x ∧ x < 2305843009213693952 → mulD (.int (Builtin.bitXor x (x / 536870912))) (.int 3935559000370003845) = some (.fz (.int (Builtin.bitXor x (x / 536870912) * 3935559000370003845))) := fun x hx =>
    mulD_small (pow_big (a := 61) (by decide) (xor_small (k := 29) hx.1 hx.2 (by decide)).1) (pow_big (a := 64) (by decide) (by decide))
  have s2 : ∀ x : Int, 0 ≤ x ∧ x < 2305843009213693952 → mulD (.int (Builtin.bitXor x (x / 2147483648))) (.int 2862933555777941757) = some (.fz (.int (Builtin.bitXor x (x / 2147483648) * 2862933555777941757))) := fun x hx =>
    mulD_small (pow_big (a := 61) (by decide) (xor_small (k := 31) hx.1 hx.2 (by decide)).1) (pow_big (a := 64) (by decide) (by decide))
  obtain ⟨x, hx⟩ : ∃ x : Int, x = (c % 2305843009213693951 * 6364136223846793005 + t * 1442695040888963407 + 97) % 2305843009213693952 := ⟨_, rfl⟩
  have lx := hx ▸ lim (c % 2305843009213693951 * 6364136223846793005 + t * 1442695040888963407 + 97)
  obtain ⟨y, hy⟩ : ∃ y : Int, y = Builtin.bitXor x (x / 536870912) * 3935559000370003845 % 2305843009213693952 := ⟨_, rfl⟩
  have ly := hy ▸ lim (Builtin.bitXor x (x / 536870912) * 3935559000370003845)
  refine ⟨Builtin.bitXor y (y / 2147483648) * 2862933555777941757 % 2305843009213693952, ?_, (lim _).1⟩
  unfold g__law_mixed
  simp [modD_ii hm, modD_ii hm1, p1, p2, shr29, shr31, ← hx, s1 _ lx, ← hy, s2 _ ly]
theorem v_draw {m : Nat} {xs : List D} {n : Int} (h : Dr m xs) (hm : m < 2 ^ 63) (hn : 0 < n) (hn2 : n < 2 ^ 9000) : ∃ (v : Int) (ys : List D), g__law_draw [.list xs, .int n] = .ok (.fz (.int v), ys) ∧ 0 ≤ v ∧ v < n ∧ Dr (m + 1) ys := by
  obtain ⟨t, l, cs, rfl, h1, h2, h3, h4, h5, h6⟩ := h
  have hlen : (0 : Int) < cs.length := by omega
  have hlenD : ((cs.map PyData.int).length : Int) = cs.length := by simp
  have fin : ∀ (t' l' : Int), 0 ≤ t' → t' ≤ m + 1 → 0 ≤ l' → 0 ≤ l' % n ∧ l' % n < n ∧ Dr (m + 1) [.int t', .int (l' / n), .list (cs.map PyData.int)] := fun t' l' a b c =>
    ⟨Int.emod_nonneg _ (by omega), Int.emod_lt_of_pos _ hn, t', l' / n, cs, rfl, a, by omega, Int.ediv_nonneg c (by omega), h4, h5, h6⟩
  have pa : ∀ (xs : List D) (d : D) (K : List D → X (Fl (List D) Unit (O × List D))), 3 = xs.length → X.putAt xs (.int 0) d K = K (xs.set 0 d) := fun xs d K e => X.putAt_n (by rw [← e]; rfl) d K
  have pb : ∀ (xs : List D) (d : D) (K : List D → X (Fl (List D) Unit (O × List D))), 3 = xs.length → X.putAt xs (.int 1) d K = K (xs.set 1 d) := fun xs d K e => X.putAt_n (by rw [← e]; rfl) d K
  by_cases c : l < n
  · -- the cell
    have hj : 0 ≤ t % cs.length := Int.emod_nonneg _ (by omega)
    have hj2 : t % cs.length < cs.length := Int.emod_lt_of_pos _ hlen
    obtain ⟨k, hk⟩ : ∃ k : Nat, t % cs.length = k := ⟨(t % cs.length).toNat, by omega⟩
    have hkl : k < cs.length := by omega
    have hix : ixD (.list (cs.map PyData.int)) (.int (t % cs.length)) = some (.fz (.int cs[k])) := by
      rw [hk]
      exact ixD_ln (by simp [hkl])
    have hc0 : 0 ≤ cs[k] := h6 _ (List.getElem_mem hkl)
    obtain ⟨v, hv, hv0⟩ := v_mixed cs[k] t hc0 h1 (by
      have e : (2 : Int) ^ 64 = 18446744073709551616 := by decide
      have e' : (2 : Nat) ^ 63 = 9223372036854775808 := by decide
      omega)
    by_cases c2 : t < cs.length ∧ 1000000000000000000 ≤ cs[k]
    · obtain ⟨f1, f2, f3⟩ := fin (t + 1) cs[k] (by omega) (by omega) hc0
      refine ⟨cs[k] % n, _, ?_, f1, f2, f3⟩
      unfold g__law_draw
      simp [c, modD_ii hlen, hix, c2.1, c2.2, fdivD_ii hn hn2, modD_ii hn, pa, pb]
    · obtain ⟨f1, f2, f3⟩ := fin (t + 1) v (by omega) (by omega) hv0
      refine ⟨v % n, _, ?_, f1, f2, f3⟩
      unfold g__law_draw
      by_cases c3 : t < cs.length
      · have c4 : ¬ 1000000000000000000 ≤ cs[k] := fun z => c2 ⟨c3, z⟩
        simp [c, modD_ii hlen, hix, c3, c4, hv, fdivD_ii hn hn2, modD_ii hn, pa, pb]
      · simp [c, modD_ii hlen, hix, c3, hv, fdivD_ii hn hn2, modD_ii hn, pa, pb]
  · obtain ⟨f1, f2, f3⟩ := fin t l h1 (by omega) h3
    refine ⟨l % n, _, ?_, f1, f2, f3⟩
    unfold g__law_draw
    simp [c, fdivD_ii hn hn2, modD_ii hn, pa, pb]
theorem v_open (ns : List Int) (h : ns.length ≤ 63) : ∃ xs : List D, g__law_open [.list (ns.map PyData.int)] = .ok (.fl xs) ∧ Dr 0 xs := by
  have hl := X.lc_all (ds := ns.map PyData.int) (f := fun cell' => X.keep (.ok true) (X.opN absD (X.cons (X.opN intD (X.cons (X.v cell') X.nil)) X.nil))) (as := ns) PyData.int (fun i => .int (if i < 0 then -i else i)) rfl (fun a _ => by simp) (by omega)
  refine ⟨[.int 0, .int 0, .list ((ns.map fun i => if i < 0 then -i else i) ++ [0] |>.map PyData.int)], ?_, ⟨0, 0, _, rfl, by omega, by omega, by omega, by simp, by simp; omega, fun c hc => ?_⟩⟩
  · unfold g__law_open
    have hla : (ns.length + 1 ≤ 16777216) := by omega
    have e2 : addD (.list (ns.map fun i => PyData.int (if i < 0 then -i else i))) (.list [.int 0]) = some (.fl ((ns.map fun i => PyData.int (if i < 0 then -i else i)) ++ [.int 0])) := by
      show (if _ then _ else _) = _
      rw [if_pos]
      rw [List.length_map, sizeLine_eq]
      exact hla
    have e3 : (((ns.map fun i => if i < 0 then -i else i) ++ [0]).map PyData.int) = (ns.map fun i => PyData.int (if i < 0 then -i else i)) ++ [PyData.int 0] := by simp
    rw [e3]
    rw [X.pS_c, X.p0_n, X.seqI_ok, X.asSeq_f, hl]
    simp [e2]
  · rcases List.mem_append.mp hc with hc | hc
    · obtain ⟨i, _, rfl⟩ := List.mem_map.mp hc
      split <;> omega
    · have : c = 0 := by simpa using hc
      omega
end Dw
end PL
end
section
set_option Elab.async false
set_option linter.all false
set_option maxRecDepth 100000
set_option maxHeartbeats 2000000
set_option autoImplicit false
/-! Fractions: what is_fraction, lowest, plus, times and the like say. -/
namespace PL
open PySem PySem.Spec PyProof.Rows L2

namespace Lib
def g_is_number : List D → X O := X.pD fun value' => X.pD fun least' => X.pD fun most' => X.p0 (X.fin (X.ret (X.and (X.isi "int" (X.v value')) (X.and (X.not (X.isi "bool" (X.v value'))) (X.ch2 leD leD (X.v least') (X.v value') (X.v most'))))))
def g_is_day : List D → X O := X.pD fun value' => X.p0 (X.fin (X.ret (X.call g_is_number (X.cons (X.v value') (X.cons (X.v (.int 0)) (X.cons (X.v (.int 1000000)) X.nil))))))
abbrev b_is_fraction_1 : D → Unit → X (Fl Unit Unit O) := fun one' _ => X.iff_ (X.tOr (X.tNot (X.tV (X.isi "int" (X.v one')))) (X.tV (X.isi "bool" (X.v one')))) (X.ret (X.v (.bool false))) (X.ok (Fl.nx ()))
def g_is_fraction : List D → X O := X.pD fun value' => X.p0 (X.fin (X.iff_ (X.tOr (X.tNot (X.tV (X.isi "tuple" (X.v value')))) (X.tB (X.op2 neD (X.opN lenD (X.cons (X.v value') X.nil)) (X.v (.int 2))))) (X.ret (X.v (.bool false))) (X.letD (X.v value') fun d1 => X.un2 d1 fun part' whole' => X.seqF (X.for_ (X.seqI (X.v value')) () b_is_fraction_1) fun _ => X.ret (X.and (X.ch2 leD leD (X.op1 negD (X.v (.int 1000000000000000000000000000000000000000000000000000000000000))) (X.v part') (X.v (.int 1000000000000000000000000000000000000000000000000000000000000))) (X.and (X.ch2 leD leD (X.v (.int 1)) (X.v whole') (X.v (.int 1000000000000000000000000000000000000000000000000000000000000))) (X.op2 eqD (X.opN gcdD (X.cons (X.v part') (X.cons (X.v whole') X.nil))) (X.v (.int 1))))))))
def g_lowest : List D → X O := X.pD fun part' => X.pD fun whole' => X.p0 (X.fin (X.letD (X.opN gcdD (X.cons (X.v part') (X.cons (X.v whole') X.nil))) fun common' => X.seqF (X.iff_ (X.tB (X.op2 ltD (X.v whole') (X.v (.int 0)))) (X.letD (X.op1 negD (X.v common')) fun common' => X.ok (Fl.nx common')) (X.ok (Fl.nx common'))) fun common' => X.ret (X.tup (X.cons (X.op2 fdivD (X.v part') (X.v common')) (X.cons (X.op2 fdivD (X.v whole') (X.v common')) X.nil)))))
def g_plus : List D → X O := X.pD fun one' => X.pD fun other' => X.p0 (X.fin (X.ret (X.call g_lowest (X.cons (X.op2 addD (X.op2 mulD (X.op2 ixD (X.v one') (X.v (.int 0))) (X.op2 ixD (X.v other') (X.v (.int 1)))) (X.op2 mulD (X.op2 ixD (X.v other') (X.v (.int 0))) (X.op2 ixD (X.v one') (X.v (.int 1))))) (X.cons (X.op2 mulD (X.op2 ixD (X.v one') (X.v (.int 1))) (X.op2 ixD (X.v other') (X.v (.int 1)))) X.nil)))))
def g_times : List D → X O := X.pD fun one' => X.pD fun other' => X.p0 (X.fin (X.ret (X.call g_lowest (X.cons (X.op2 mulD (X.op2 ixD (X.v one') (X.v (.int 0))) (X.op2 ixD (X.v other') (X.v (.int 0)))) (X.cons (X.op2 mulD (X.op2 ixD (X.v one') (X.v (.int 1))) (X.op2 ixD (X.v other') (X.v (.int 1)))) X.nil)))))
def g_is_rate : List D → X O := X.pD fun value' => X.p0 (X.fin (X.ret (X.and (X.call g_is_fraction (X.cons (X.v value') X.nil)) (X.ch3 leD leD leD (X.v (.int 0)) (X.op2 ixD (X.v value') (X.v (.int 0))) (X.op2 ixD (X.v value') (X.v (.int 1))) (X.v (.int 10000))))))
/-- an int from least to most -/
theorem v_number_i (v a b : Int) : g_is_number [.int v, .int a, .int b] = .ok (.fz (.bool (decide (a ≤ v ∧ v ≤ b)))) := by
  unfold g_is_number
  by_cases h1 : a ≤ v <;> by_cases h2 : v ≤ b <;> simp [h1, h2]
theorem v_number_b (v : Bool) (a b : D) : g_is_number [.bool v, a, b] = .ok (.fz (.bool false)) := by
  unfold g_is_number
  simp [isiD, tyD]
theorem v_number_o (d : D) (a b : D) (h : isiD "int" d = false) : g_is_number [d, a, b] = .ok (.fz (.bool false)) := by
  unfold g_is_number
  simp [h]
theorem v_day_i (v : Int) : g_is_day [.int v] = .ok (.fz (.bool (decide (0 ≤ v ∧ v ≤ 1000000)))) := by
  unfold g_is_day
  simp [v_number_i]
theorem v_day_b (v : Bool) : g_is_day [.bool v] = .ok (.fz (.bool false)) := by
  unfold g_is_day
  simp [v_number_b]
/-- a fraction as the program has it -/
def encF (r : Rat) : D := .tuple [.int r.num, .int (r.den : Int)]
def gg (p q : Int) : Int := ((Nat.gcd p.natAbs q.natAbs : Nat) : Int)
theorem gg_pos {p q : Int} (h : 0 < q) : 0 < gg p q := by
  unfold gg
  have : 0 < Nat.gcd p.natAbs q.natAbs := Nat.gcd_pos_of_pos_right _ (by omega)
  omega
theorem gg_le {p q : Int} (h : 0 < q) : gg p q ≤ q := by
  unfold gg
  have : Nat.gcd p.natAbs q.natAbs ≤ q.natAbs := Nat.gcd_le_right _ (by omega)
  omega
theorem encF_divInt (p q : Int) (h : 0 < q) : encF (Rat.divInt p q) = .tuple [.int (p / gg p q), .int (q / gg p q)] := by
  have e1 : (Rat.divInt p q).num = p / gg p q := by
    rw [Rat.num_divInt, Int.sign_eq_one_of_pos h, Int.one_mul, Int.gcd_comm]
    rfl
  have e2 : (((Rat.divInt p q).den : Nat) : Int) = q / gg p q := by
    rw [Rat.den_divInt, if_neg (by omega), Int.gcd_comm]
    show ((q.natAbs / Nat.gcd p.natAbs q.natAbs : Nat) : Int) = _
    rw [Int.natCast_ediv]
    unfold gg
    rw [show ((q.natAbs : Nat) : Int) = q by omega]
  unfold encF
  rw [e1, e2]
theorem lim9 {x : Int} {n : Nat} (h0 : 0 ≤ x) (h : x.natAbs < 2 ^ n) (hn : n ≤ 9000) : x < 2 ^ 9000 := by
  have h1 : x.natAbs < 2 ^ 9000 := pow_big hn h
  have e : ((2 ^ 9000 : Nat) : Int) = 2 ^ 9000 := by rw [Int.natCast_pow]; rfl
  rw [← e]
  omega
theorem v_lowest (p q : Int) (h : 0 < q) (h2 : q < 2 ^ 9000) : g_lowest [.int p, .int q] = .ok (.fz (encF (Rat.divInt p q))) := by
  have hg := gg_pos (p := p) h
  have hl := gg_le (p := p) h
  have f := fun i => fdivD_ii (i := i) hg (Int.lt_of_le_of_lt hl h2)
  have nq : ¬ q < 0 := by omega
  rw [encF_divInt p q h]
  unfold g_lowest
  simp [nq, ← gg.eq_1, f]
/-- the size of a fraction -/
def Sz (n : Nat) (r : Rat) : Prop := r.num.natAbs < 2 ^ n ∧ r.den < 2 ^ n
theorem Sz.mono {n m : Nat} {r : Rat} (h : Sz n r) (l : n ≤ m) : Sz m r := ⟨pow_big l h.1, pow_big l h.2⟩
theorem natAbs_mul_lt {a b : Int} {n m : Nat} (ha : a.natAbs < 2 ^ n) (hb : b.natAbs < 2 ^ m) : (a * b).natAbs < 2 ^ (n + m) := by
  rw [Int.natAbs_mul, Nat.pow_add]
  exact Nat.mul_lt_mul'' ha hb
theorem natAbs_add_lt {a b : Int} {n : Nat} (ha : a.natAbs < 2 ^ n) (hb : b.natAbs < 2 ^ n) : (a + b).natAbs < 2 ^ (n + 1) := by
  have := Int.natAbs_add_le a b
  rw [Nat.pow_succ]
  omega
theorem divInt_sz {p q : Int} {n : Nat} (h : 0 < q) (hp : p.natAbs < 2 ^ n) (hq : q.natAbs < 2 ^ n) : Sz n (Rat.divInt p q) := by
  constructor
  · rw [Rat.num_divInt, Int.sign_eq_one_of_pos h, Int.one_mul]
    have : (p / ((q.gcd p : Nat) : Int)).natAbs ≤ p.natAbs := by
      have hd : ((q.gcd p : Nat) : Int) ∣ p := Int.gcd_dvd_right ..
      rw [Int.natAbs_ediv_of_dvd hd]
      exact Nat.div_le_self _ _
    omega
  · rw [Rat.den_divInt, if_neg (by omega)]
    exact Nat.lt_of_le_of_lt (Nat.div_le_self _ _) hq
theorem den_pos' (r : Rat) : (0 : Int) < (r.den : Int) := by have := r.den_pos; omega
theorem mulS {i j : Int} {a b : Nat} (hi : i.natAbs < 2 ^ a) (hj : j.natAbs < 2 ^ b) (h : a + b < 900000) : mulD (.int i) (.int j) = some (.fz (.int (i * j))) := mulD_ii hi hj h
theorem mul_divInt (a b : Rat) : a * b = Rat.divInt (a.num * b.num) ((a.den : Int) * (b.den : Int)) := by
  rw [Rat.mul_def', ← Rat.divInt_ofNat]
  congr 1
theorem add_divInt (a b : Rat) : a + b = Rat.divInt (a.num * (b.den : Int) + b.num * (a.den : Int)) ((a.den : Int) * (b.den : Int)) := by
  rw [Rat.add_def', ← Rat.divInt_ofNat]
  congr 1
theorem v_times {n m : Nat} (a b : Rat) (ha : Sz n a) (hb : Sz m b) (h : n + m ≤ 9000) : g_times [encF a, encF b] = .ok (.fz (encF (a * b))) := by
  have m1 := mulS ha.1 hb.1 (by omega)
  have m2 := mulS (i := (a.den : Int)) (j := (b.den : Int)) (a := n) (b := m) (by simpa using ha.2) (by simpa using hb.2) (by omega)
  have q0 : (0 : Int) < (a.den : Int) * (b.den : Int) := Int.mul_pos (den_pos' a) (den_pos' b)
  have v := v_lowest (a.num * b.num) ((a.den : Int) * (b.den : Int)) q0 (lim9 (Int.le_of_lt q0) (natAbs_mul_lt (by simpa using ha.2) (by simpa using hb.2)) h)
  rw [← mul_divInt] at v
  unfold g_times encF
  simp [m1, m2, v]
  rfl
theorem v_plus {n m : Nat} (a b : Rat) (ha : Sz n a) (hb : Sz m b) (h : n + m ≤ 9000) : g_plus [encF a, encF b] = .ok (.fz (encF (a + b))) := by
  have m1 := mulS (i := a.num) (j := (b.den : Int)) (a := n) (b := m) ha.1 (by simpa using hb.2) (by omega)
  have m2 := mulS (i := b.num) (j := (a.den : Int)) (a := m) (b := n) hb.1 (by simpa using ha.2) (by omega)
  have m3 := mulS (i := (a.den : Int)) (j := (b.den : Int)) (a := n) (b := m) (by simpa using ha.2) (by simpa using hb.2) (by omega)
  have q0 : (0 : Int) < (a.den : Int) * (b.den : Int) := Int.mul_pos (den_pos' a) (den_pos' b)
  have v := v_lowest (a.num * (b.den : Int) + b.num * (a.den : Int)) ((a.den : Int) * (b.den : Int)) q0 (lim9 (Int.le_of_lt q0) (natAbs_mul_lt (by simpa using ha.2) (by simpa using hb.2)) h)
  rw [← add_divInt] at v
  unfold g_plus encF
  simp [m1, m2, m3, v]
  rfl
theorem sz_mul {n m : Nat} {a b : Rat} (ha : Sz n a) (hb : Sz m b) : Sz (n + m) (a * b) := by
  rw [mul_divInt]
  exact divInt_sz (Int.mul_pos (den_pos' a) (den_pos' b)) (natAbs_mul_lt ha.1 hb.1) (natAbs_mul_lt (by simpa using ha.2) (by simpa using hb.2))
theorem sz_add {n m : Nat} {a b : Rat} (ha : Sz n a) (hb : Sz m b) : Sz (n + m + 1) (a + b) := by
  rw [add_divInt]
  have x1 : (a.num * (b.den : Int)).natAbs < 2 ^ (n + m) := natAbs_mul_lt ha.1 (by simpa using hb.2)
  have x2 : (b.num * (a.den : Int)).natAbs < 2 ^ (n + m) := by
    rw [Nat.add_comm n m]
    exact natAbs_mul_lt hb.1 (by simpa using ha.2)
  have x3 : ((a.den : Int) * (b.den : Int)).natAbs < 2 ^ (n + m) := natAbs_mul_lt (by simpa using ha.2) (by simpa using hb.2)
  exact divInt_sz (Int.mul_pos (den_pos' a) (den_pos' b)) (natAbs_add_lt x1 x2) (pow_big (a := n + m) (by omega) x3)
/-- is it a fraction? -/
theorem v_fraction (r : Rat) (h1 : r.num.natAbs ≤ 10 ^ 60) (h2 : r.den ≤ 10 ^ 60) : g_is_fraction [encF r] = .ok (.fz (.bool true)) := by
  have e : (10 : Nat) ^ 60 = 1000000000000000000000000000000000000000000000000000000000000 := by decide
  rw [e] at h1 h2
  have d0 := den_pos' r
  have g : Nat.gcd r.num.natAbs r.den = 1 := r.reduced
  have c1 : (-1000000000000000000000000000000000000000000000000000000000000 : Int) ≤ r.num := by omega
  have c2 : r.num ≤ (1000000000000000000000000000000000000000000000000000000000000 : Int) := by omega
  have c3 : (1 : Int) ≤ (r.den : Int) := by omega
  have c4 : (r.den : Int) ≤ (1000000000000000000000000000000000000000000000000000000000000 : Int) := by omega
  unfold g_is_fraction encF
  simp [b_is_fraction_1, X.forF_cons, X.forF_nil, isiD, tyD, c1, c2, c3, c4, g]
theorem v_rate (r : Rat) (h0 : 0 ≤ r) (h1 : r ≤ 1) (h2 : r.den ≤ 10000) : g_is_rate [encF r] = .ok (.fz (.bool true)) := by
  have a0 : 0 ≤ r.num := Rat.num_nonneg.mpr h0
  have a1 : r.num ≤ (r.den : Int) := by
    have := (Rat.le_iff r 1).mp h1
    simpa using this
  have e : (10 : Nat) ^ 60 = 1000000000000000000000000000000000000000000000000000000000000 := by decide
  have v := v_fraction r (by omega) (by omega)
  have a2 : (r.den : Int) ≤ 10000 := by omega
  unfold g_is_rate
  have i0 : ixD (encF r) (.int 0) = some (.fz (.int r.num)) := by simp [encF]
  have i1 : ixD (encF r) (.int 1) = some (.fz (.int (r.den : Int))) := by simp [encF]
  simp [v, i0, i1, a0, a1, a2]
end Lib
end PL
end
section
set_option Elab.async false
set_option linter.all false
set_option maxRecDepth 100000
set_option maxHeartbeats 2000000
set_option autoImplicit false
/-! Lowest terms by Euclid's steps. -/
namespace PL
open PySem PySem.Spec PyProof.Rows L2

namespace Lib
abbrev b__law_lowest_1 : D → (D × D) → X (Fl (D × D) (D × D) O) := fun k' (one', other') => X.iff_ (X.tB (X.op2 eqD (X.v other') (X.v (.int 0)))) (X.ok (Fl.bk (one', other'))) (X.letD (X.op2 modD (X.v one') (X.v other')) fun rest' => X.letD (X.v other') fun one' => X.letD (X.v rest') fun other' => X.ok (Fl.nx (one', other')))
def g__law_lowest : List D → X O := X.pD fun part' => X.pD fun whole' => X.p0 (X.fin (X.letD (X.v whole') fun one' => X.letD (X.v part') fun other' => X.seqF (X.for_ (X.range1 (X.v (.int 2000))) (one', other') b__law_lowest_1) fun (one', other') => X.ret (X.tup (X.cons (X.op2 fdivD (X.v part') (X.v one')) (X.cons (X.op2 fdivD (X.v whole') (X.v one')) X.nil)))))
theorem euB_0 (k : D) (a : Int) : b__law_lowest_1 k (.int a, .int 0) = .ok (.bk (.int a, .int 0)) := by
  unfold b__law_lowest_1
  simp
theorem euB_s (k : D) (a b : Int) (h : 0 < b) : b__law_lowest_1 k (.int a, .int b) = .ok (.nx (.int b, .int (a % b))) := by
  unfold b__law_lowest_1
  have : ¬ b = 0 := by omega
  simp [this, modD_ii h]
theorem gcd_step (a b : Int) (h : 0 < b) (ha : 0 ≤ a) : gg b (a % b) = gg a b := by
  unfold gg
  have e : (a % b).natAbs = a.natAbs % b.natAbs := by
    have h1 := Int.emod_nonneg a (by omega : b ≠ 0)
    have e1 : ((a % b).natAbs : Int) = a % b := by omega
    have e2 : ((a.natAbs % b.natAbs : Nat) : Int) = a % b := by
      rw [Int.natCast_emod, show ((a.natAbs : Nat) : Int) = a by omega, show ((b.natAbs : Nat) : Int) = b by omega]
    omega
  rw [e, Nat.gcd_comm, ← Nat.gcd_rec, Nat.gcd_comm]
theorem half {b r : Int} (hr : 0 < r) (hb : r < b) {n : Nat} (h : b < 2 ^ (n + 1)) : b % r < 2 ^ n := by
  have h1 := Int.emod_lt_of_pos b hr
  have h2 := Int.emod_add_mul_ediv b r
  have h3 : 1 ≤ b / r := Int.le_ediv_of_mul_le hr (by omega)
  have h4 : r * 1 ≤ r * (b / r) := Int.mul_le_mul_of_nonneg_left h3 (by omega)
  have h5 : (2 : Int) ^ (n + 1) = 2 ^ n * 2 := by rw [Int.pow_succ]
  omega
theorem eu_loop {B : Type} : ∀ (j : Nat) (ds : List D) (a b : Int), 0 ≤ a → 0 ≤ b → b < 2 ^ j → 2 * j + 1 ≤ ds.length → (X.forF b__law_lowest_1 ds (.int a, .int b) : X (Fl (D × D) B O)) = .ok (.nx (.int (gg a b), .int 0))
  | j, [], a, b, _, _, _, hl => by simp at hl
  | 0, d :: ds, a, b, ha, hb, hj, hl => by
    have hb0 : b = 0 := by
      have : (2 : Int) ^ 0 = 1 := rfl
      omega
    subst hb0
    rw [X.forF_cons, euB_0]
    simp [gg]
    omega
  | j + 1, d :: ds, a, b, ha, hb, hj, hl => by
    by_cases h0 : b = 0
    · subst h0
      rw [X.forF_cons, euB_0]
      simp [gg]
      omega
    · have hb' : 0 < b := by omega
      have r0 := Int.emod_nonneg a h0
      have r1 := Int.emod_lt_of_pos a hb'
      rw [X.forF_cons, euB_s d a b hb', X.bind_ok, X.forN_nx, ← gcd_step a b hb' ha]
      cases ds with
      | nil => simp at hl
      | cons e es =>
        by_cases h1 : a % b = 0
        · rw [h1, X.forF_cons, euB_0]
          simp [gg]
          omega
        · have hr : 0 < a % b := by omega
          rw [X.forF_cons, euB_s e b (a % b) hr, X.bind_ok, X.forN_nx, ← gcd_step b (a % b) hr (by omega)]
          exact eu_loop j es (a % b) (b % (a % b)) (by omega) (Int.emod_nonneg _ (by omega)) (half hr r1 hj) (by rw [List.length_cons, List.length_cons] at hl; omega)
theorem v_law_lowest (p q : Int) (hp : 0 ≤ p) (hp2 : p.natAbs < 2 ^ 999) (h : 0 < q) (h2 : q < 2 ^ 9000) : g__law_lowest [.int p, .int q] = .ok (.fz (encF (Rat.divInt p q))) := by
  have hlen : (rngI 0 2000).length = 2000 := by
    unfold rngI
    rw [List.length_map, List.length_range]
    rfl
  have hp3 : p < 2 ^ 999 := by
    have e : ((2 ^ 999 : Nat) : Int) = 2 ^ 999 := by rw [Int.natCast_pow]; rfl
    rw [← e]
    omega
  have hl := fun B => eu_loop (B := B) 999 (rngI 0 2000) q p (by omega) hp hp3 (by rw [hlen]; decide)
  have hg : 0 < gg q p := by
    have := gg_pos (p := p) h
    unfold gg at this ⊢
    rw [Nat.gcd_comm]
    exact this
  have hgl : gg q p = gg p q := by unfold gg; rw [Nat.gcd_comm]
  have hgle := gg_le (p := p) h
  have f := fun i => fdivD_ii (i := i) hg (Int.lt_of_le_of_lt (hgl ▸ hgle) h2)
  rw [encF_divInt p q h, ← hgl]
  have hr := rng1_of (i := 2000) (by decide) (by decide)
  generalize rngI 0 2000 = ds at hl hr
  have hl2 := hl Unit
  unfold b__law_lowest_1 at hl2
  unfold g__law_lowest
  simp [hr, hl, f]
end Lib
end PL
end
section
set_option Elab.async false
set_option linter.all false
set_option maxRecDepth 100000
set_option maxHeartbeats 2000000
set_option autoImplicit false
/-! tuples and lists: ends, joins; sorted integers. -/
namespace PL
open PySem L2
theorem ixD_lastT {xs : List D} {d : D} : ixD (.tuple (xs ++ [d])) (.int (-1)) = some (.fz d) := by
  show (match atI (xs ++ [d]) (-1) with | some d => some (P1.fz d) | none => none) = _
  have : atI (xs ++ [d]) (-1) = some d := by
    unfold atI ixN
    have hl : (xs ++ [d]).length = xs.length + 1 := by simp
    rw [if_neg (by omega), if_pos (by omega), hl]
    have : (-1 + ((xs.length + 1 : Nat) : Int)).toNat = xs.length := by omega
    rw [this]
    show (xs ++ [d])[xs.length]? = some d
    simp
  rw [this]
theorem slD_init {xs : List D} {d : D} : slD (.tuple (xs ++ [d])) none (some (-1)) = some (.fz (.tuple xs)) := by
  show some (P1.fz (.tuple (cutD (xs ++ [d]) none (some (-1))))) = _
  have e : cutD (xs ++ [d]) none (some (-1)) = xs := by
    unfold cutD
    have hl : (xs ++ [d]).length = xs.length + 1 := by simp
    have e0 : HT.sIx (xs ++ [d]).length 0 none = 0 := rfl
    have e1 : HT.sIx (xs ++ [d]).length (xs ++ [d]).length (some (-1)) = xs.length := by
      rw [hl]
      unfold HT.sIx
      simp
      omega
    rw [e0, e1]
    simp
  rw [e]
theorem slD_take {xs : List D} {n : Nat} (h : n ≤ xs.length) : slD (.tuple xs) none (some (n : Int)) = some (.fz (.tuple (xs.take n))) := by
  show some (P1.fz (.tuple (cutD xs none (some (n : Int))))) = _
  have e : cutD xs none (some (n : Int)) = xs.take n := by
    unfold cutD
    have e0 : HT.sIx xs.length 0 none = 0 := rfl
    have e1 : HT.sIx xs.length xs.length (some (n : Int)) = n := by
      rw [HT.sIx_nat]
      omega
    rw [e0, e1]
    simp
  rw [e]
theorem slD_drop {xs : List D} {n : Nat} (h : n ≤ xs.length) : slD (.tuple xs) (some (n : Int)) none = some (.fz (.tuple (xs.drop n))) := by
  show some (P1.fz (.tuple (cutD xs (some (n : Int)) none))) = _
  have e : cutD xs (some (n : Int)) none = xs.drop n := by
    unfold cutD
    have e1 : HT.sIx xs.length xs.length none = xs.length := rfl
    have e0 : HT.sIx xs.length 0 (some (n : Int)) = n := by
      rw [HT.sIx_nat]
      omega
    rw [e0, e1]
    exact List.take_of_length_le (by rw [List.length_drop]; omega)
  rw [e]
theorem addD_tt (xs ys : List D) (h : xs.length + ys.length ≤ 1000) : addD (.tuple xs) (.tuple ys) = some (.fz (.tuple (xs ++ ys))) := by
  show (if _ then _ else _) = _
  rw [if_pos (by rw [sizeLine_eq]; omega)]
theorem sortedD_ints (ns : List Int) : sortedD [.list (ns.map PyData.int)] = some (.fl ((sortI ns).map PyData.int)) := by
  show (match intsD (ns.map PyData.int) with | some ns => some (P1.fl ((sortI ns).map PyData.int)) | none => none) = _
  rw [intsD_map]
/-- days (or the like) gathered for sorting: nought among them, none twice -/
structure LOk (lim : Int) (ns : List Int) : Prop where
  z : (0 : Int) ∈ ns
  nd : ns.Nodup
  le : ∀ n ∈ ns, 0 ≤ n ∧ n ≤ lim
theorem LOk.one {lim : Int} (h : 0 ≤ lim) : LOk lim [0] := ⟨by simp, by simp, fun n hn => by rw [List.mem_singleton.mp hn]; omega⟩
theorem LOk.add {lim : Int} {ns : List Int} (ok : LOk lim ns) {v : Int} (h0 : 0 ≤ v) (h : v ≤ lim) (c : v ∉ ns) : LOk lim (ns ++ [v]) := by
  refine ⟨List.mem_append_left _ ok.z, ?_, ?_⟩
  · rw [List.nodup_append]
    refine ⟨ok.nd, by simp, fun a ha b hb e => ?_⟩
    rw [List.mem_singleton.mp hb] at e
    exact c (e ▸ ha)
  · intro n hn
    rcases List.mem_append.mp hn with z | z
    · exact ok.le n z
    · rw [List.mem_singleton.mp z]; omega
theorem sortI_head {lim : Int} {ns : List Int} (ok : LOk lim ns) : ∀ x, (sortI ns)[0]? = some x → x = 0 := by
  intro x hx
  have hp := sortI_perm ns
  have hz : (0 : Int) ∈ sortI ns := hp.symm.mem_iff.mp ok.z
  have hs := sortI_sorted ns
  have hx0 : 0 ≤ x := (ok.le x (hp.mem_iff.mp (List.mem_of_getElem? hx))).1
  cases e : sortI ns with
  | nil => rw [e] at hz; cases hz
  | cons t r =>
    rw [e] at hx hz hs
    cases hx
    rcases List.mem_cons.mp hz with z | z
    · exact z.symm
    · have := (List.pairwise_cons.mp hs).1 0 z
      omega
theorem sortI_up {lim : Int} {ns : List Int} (ok : LOk lim ns) : (sortI ns).Pairwise (· < ·) := by
  have hp := sortI_perm ns
  have h1 := sortI_sorted ns
  have h2 : (sortI ns).Nodup := hp.symm.nodup ok.nd
  exact (h1.and h2).imp fun {a b} h => by omega
theorem sortI_le {lim : Int} {ns : List Int} (ok : LOk lim ns) : ∀ n ∈ sortI ns, 0 ≤ n ∧ n ≤ lim := fun n hn => ok.le n ((sortI_perm ns).mem_iff.mp hn)
theorem sortI_len (ns : List Int) : (sortI ns).length = ns.length := (sortI_perm ns).length_eq
theorem sort3 (a b c : Int) : ∃ x y z : Int, sortI [a, b, c] = [x, y, z] ∧ x ≤ y ∧ y ≤ z ∧ x ∈ [a, b, c] ∧ y ∈ [a, b, c] ∧ z ∈ [a, b, c] := by
  have hp := sortI_perm [a, b, c]
  have hs := sortI_sorted [a, b, c]
  have hl := hp.length_eq
  match e : sortI [a, b, c], hl with
  | [x, y, z], _ =>
    rw [e] at hs hp
    rw [List.pairwise_cons, List.pairwise_cons] at hs
    exact ⟨x, y, z, rfl, hs.1 y (by simp), hs.2.1 z (by simp), hp.mem_iff.mp (by simp), hp.mem_iff.mp (by simp), hp.mem_iff.mp (by simp)⟩
theorem lim9000 {n : Int} (h0 : 0 < n) (h : n ≤ 10 ^ 45) : n < 2 ^ 9000 := by
  have e : (10 : Int) ^ 45 < 2 ^ 200 := by decide
  have q : n.natAbs < 2 ^ 200 := by
    have a : ((2 ^ 200 : Nat) : Int) = 2 ^ 200 := by rw [Int.natCast_pow]; rfl
    omega
  exact PL.Lib.lim9 (Int.le_of_lt h0) q (by decide)
theorem pick {ds : List D} {v : Int} (h0 : 0 ≤ v) (h : v < ds.length) : ∃ d ∈ ds, ixD (.list ds) (.int v) = some (.fz d) := by
  obtain ⟨n, rfl⟩ := Int.eq_ofNat_of_zero_le h0
  have hn : n < ds.length := by omega
  exact ⟨ds[n], List.getElem_mem hn, ixD_ln (List.getElem?_eq_getElem hn)⟩
end PL
end
section
set_option Elab.async false
set_option linter.all false
set_option maxRecDepth 100000
set_option maxHeartbeats 2000000
set_option autoImplicit false
/-! Interest: rows of rates, the closed form, the program's function (shared by the laws on money). -/
namespace PL.Lib
open PySem L2 PL
/-- the constant of the module, as the printed texts have it -/
def d_NOUGHT : D := .tuple [.int 0, .int 1]
abbrev b_interest_1 (rates' : D) (behind' : D) (first' : D) : D → D → X (Fl D D O) := fun k' whole' => X.letD (X.op2 ixD (X.v rates') (X.v k')) fun d1 => X.un2 d1 fun begin' rate' => X.letD (X.cond (X.tB (X.op2 ltD (X.op2 addD (X.v k') (X.v (.int 1))) (X.opN lenD (X.cons (X.v rates') X.nil)))) (X.op2 ixD (X.op2 ixD (X.v rates') (X.op2 addD (X.v k') (X.v (.int 1)))) (X.v (.int 0))) (X.v behind')) fun end' => X.letD (X.op2 subD (X.opN min2D (X.cons (X.v end') (X.cons (X.v behind') X.nil))) (X.opN max2D (X.cons (X.v begin') (X.cons (X.v first') X.nil)))) fun days' => X.iff_ (X.tB (X.op2 gtD (X.v days') (X.v (.int 0)))) (X.letD (X.call g_plus (X.cons (X.v whole') (X.cons (X.call g_times (X.cons (X.v rate') (X.cons (X.tup (X.cons (X.v days') (X.cons (X.v (.int 1)) X.nil))) X.nil))) X.nil))) fun whole' => X.ok (Fl.nx whole')) (X.ok (Fl.nx whole'))
def g_interest : List D → X O := X.pD fun principal' => X.pD fun rates' => X.pD fun first' => X.pD fun behind' => X.p0 (X.fin (X.iff_ (X.tB (X.op2 ltD (X.v behind') (X.v first'))) (X.exc "Refused") (X.letD (X.v d_NOUGHT) fun whole' => X.seqF (X.for_ (X.range1 (X.opN lenD (X.cons (X.v rates') X.nil))) whole' (b_interest_1 rates' behind' first')) fun whole' => X.ret (X.call g_times (X.cons (X.call g_times (X.cons (X.v principal') (X.cons (X.v whole') X.nil))) (X.cons (X.tup (X.cons (X.v (.int 1)) (X.cons (X.v (.int 365)) X.nil))) X.nil))))))

abbrev Row := Int × Rat
/-- the rate of a day -/
def rateAt : List Row → Int → Rat
  | [], _ => 0
  | x :: r, d => match r with
    | [] => x.2
    | y :: _ => if y.1 ≤ d then rateAt r d else x.2
def mx (i : Int) : Rat := ((max 0 i : Int) : Rat)
/-- all interest of the days ahead of d, per unit, times the days of a year -/
def C : List Row → Int → Rat
  | [], _ => 0
  | x :: r, d => match r with
    | [] => x.2 * mx (d - x.1)
    | y :: _ => x.2 * mx (min d y.1 - x.1) + C r d
theorem mx_nonneg {i : Int} (h : 0 ≤ i) : mx i = (i : Rat) := by
  unfold mx
  rw [Int.max_eq_right h]
theorem mx_nonpos {i : Int} (h : i ≤ 0) : mx i = 0 := by
  unfold mx
  rw [Int.max_eq_left h]
  rfl
theorem C_nil (d : Int) : C [] d = 0 := rfl
theorem C_one (x : Row) (d : Int) : C [x] d = x.2 * mx (d - x.1) := rfl
theorem C_cons (x y : Row) (r : List Row) (d : Int) : C (x :: y :: r) d = x.2 * mx (min d y.1 - x.1) + C (y :: r) d := rfl
theorem C_low : ∀ (rs : List Row) (d : Int), (∀ x ∈ rs, d ≤ x.1) → C rs d = 0
  | [], _, _ => rfl
  | [x], d, h => by rw [C_one, mx_nonpos (by have := h x (by simp); omega), Rat.mul_zero]
  | x :: y :: r, d, h => by
    rw [C_cons, mx_nonpos (by have := h x (by simp); omega), Rat.mul_zero, Rat.zero_add]
    exact C_low (y :: r) d fun z hz => h z (List.mem_cons_of_mem _ hz)
/-- day by day -/
theorem C_step : ∀ (rs : List Row) (d : Int), rs.Pairwise (fun a b => a.1 < b.1) → (∀ x, rs[0]? = some x → x.1 ≤ d) → C rs (d + 1) = C rs d + rateAt rs d
  | [], d, _, _ => by rw [C_nil, C_nil]; simp [rateAt, Rat.add_zero]
  | [x], d, _, h => by
    have := h x rfl
    rw [C_one, C_one, mx_nonneg (by omega), mx_nonneg (by omega)]
    simp only [rateAt]
    rw [show d + 1 - x.1 = (d - x.1) + 1 by omega, Rat.intCast_add, Rat.mul_add]
    congr 1
    rw [show ((1 : Int) : Rat) = 1 from rfl, Rat.mul_one]
  | x :: y :: r, d, hp, h => by
    have h0 := h x rfl
    have hxy := (List.pairwise_cons.mp hp).1 y (by simp)
    have hr := (List.pairwise_cons.mp hp).2
    rw [C_cons, C_cons]
    by_cases c : y.1 ≤ d
    · have e : rateAt (x :: y :: r) d = rateAt (y :: r) d := by
        show (if y.1 ≤ d then _ else _) = _
        rw [if_pos c]
      have ih := C_step (y :: r) d hr fun z hz => by cases hz; exact c
      rw [e, ih, show min (d + 1) y.1 = y.1 by omega, show min d y.1 = y.1 by omega, Rat.add_assoc]
    · have e : rateAt (x :: y :: r) d = x.2 := by
        show (if y.1 ≤ d then _ else _) = _
        rw [if_neg c]
      have lows : ∀ z ∈ y :: r, y.1 ≤ z.1 := fun z hz => by
        rcases List.mem_cons.mp hz with q | q
        · rw [q]; exact Int.le_refl _
        · exact Int.le_of_lt ((List.pairwise_cons.mp hr).1 z q)
      rw [e, C_low (y :: r) (d + 1) fun z hz => by have := lows z hz; omega, C_low (y :: r) d fun z hz => by have := lows z hz; omega,
        show min (d + 1) y.1 = d + 1 by omega, show min d y.1 = d by omega, mx_nonneg (by omega), mx_nonneg (by omega),
        show d + 1 - x.1 = (d - x.1) + 1 by omega, Rat.intCast_add, Rat.mul_add, show ((1 : Int) : Rat) = 1 from rfl, Rat.mul_one, Rat.add_zero, Rat.add_zero]
/-- a row cut in two -/
theorem C_cut : ∀ (l : List Row) (x : Row) (r : List Row) (d : Int), (∀ y, r[0]? = some y → x.1 + 1 < y.1) → C (l ++ x :: (x.1 + 1, x.2) :: r) d = C (l ++ x :: r) d
  | [], x, [], d, _ => by
    rw [List.nil_append, List.nil_append, C_cons, C_one, C_one, ← Rat.mul_add]
    congr 1
    show mx (min d (x.1 + 1) - x.1) + mx (d - (x.1 + 1)) = _
    unfold mx
    rw [← Rat.intCast_add]
    congr 1
    omega
  | [], x, y :: r, d, h => by
    have := h y rfl
    rw [List.nil_append, List.nil_append, C_cons, C_cons, C_cons, ← Rat.add_assoc, ← Rat.mul_add]
    congr 2
    show mx (min d (x.1 + 1) - x.1) + mx (min d y.1 - (x.1 + 1)) = _
    unfold mx
    rw [← Rat.intCast_add]
    congr 1
    omega
  | [z], x, r, d, h => by
    have ih := C_cut [] x r d h
    show C (z :: x :: (x.1 + 1, x.2) :: r) d = C (z :: x :: r) d
    rw [C_cons z x, C_cons z x]
    exact congrArg _ ih
  | z :: w :: l, x, r, d, h => by
    have ih := C_cut (w :: l) x r d h
    show C (z :: w :: (l ++ x :: (x.1 + 1, x.2) :: r)) d = C (z :: w :: (l ++ x :: r)) d
    rw [C_cons, C_cons]
    exact congrArg _ ih
/-- a sum from 0 on below n -/
def sumR : Nat → (Nat → Rat) → Rat
  | 0, _ => 0
  | n + 1, f => sumR n f + f n
theorem sumR_congr : ∀ (n : Nat) {f g : Nat → Rat}, (∀ i < n, f i = g i) → sumR n f = sumR n g
  | 0, _, _, _ => rfl
  | n + 1, f, g, h => by
    unfold sumR
    rw [sumR_congr n fun i hi => h i (by omega), h n (by omega)]
theorem sumR_shift : ∀ (n : Nat) (f : Nat → Rat), sumR (n + 1) f = f 0 + sumR n fun i => f (i + 1)
  | 0, f => by show sumR 0 f + f 0 = f 0 + 0; rw [show sumR 0 f = 0 from rfl, Rat.zero_add, Rat.add_zero]
  | n + 1, f => by
    show sumR (n + 1) f + f (n + 1) = f 0 + (sumR n (fun i => f (i + 1)) + f (n + 1))
    rw [sumR_shift n f, Rat.add_assoc]
theorem sumR_sub : ∀ (n : Nat) (f g : Nat → Rat), sumR n (fun i => f i - g i) = sumR n f - sumR n g
  | 0, _, _ => by show (0 : Rat) = 0 - 0; rw [Rat.sub_self]
  | n + 1, f, g => by
    show sumR n (fun i => f i - g i) + (f n - g n) = sumR n f + f n - (sumR n g + g n)
    rw [sumR_sub n f g]
    grind
/-- where a row ends, seen from d -/
def endAt (rs : List Row) (i : Nat) (d : Int) : Int := match rs[i + 1]? with
  | some y => y.1
  | none => d
def row (rs : List Row) (i : Nat) : Row := rs.getD i (0, 0)
theorem C_sum : ∀ (rs : List Row) (d : Int), C rs d = sumR rs.length fun i => (row rs i).2 * mx (min d (endAt rs i d) - (row rs i).1)
  | [], _ => rfl
  | [x], d => by
    rw [C_one]
    show _ = 0 + x.2 * mx (min d d - x.1)
    rw [Rat.zero_add, show min d d = d by omega]
  | x :: y :: r, d => by
    rw [C_cons, C_sum (y :: r) d, List.length_cons (a := x), sumR_shift]
    rfl
theorem sum_span (rs : List Row) (a b : Int) (hab : a ≤ b) (hup : rs.Pairwise fun a b => a.1 < b.1) : sumR rs.length (fun i => (row rs i).2 * mx (min (endAt rs i b) b - max (row rs i).1 a)) = C rs b - C rs a := by
  rw [C_sum rs b, C_sum rs a, ← sumR_sub]
  refine sumR_congr _ fun i hi => ?_
  have e : ∀ x y z : Rat, x * y - x * z = x * (y - z) := fun x y z => by grind
  rw [e]
  congr 1
  have key : ∀ eb ea l : Int, ((eb = b ∧ ea = a) ∨ (eb = ea ∧ l < eb)) → mx (min eb b - max l a) = mx (min b eb - l) - mx (min a ea - l) := fun eb ea l h => by
    have q : max 0 (min eb b - max l a) = max 0 (min b eb - l) - max 0 (min a ea - l) := by omega
    unfold mx
    rw [q, Rat.intCast_sub]
  refine key _ _ _ ?_
  unfold endAt
  cases h : rs[i + 1]? with
  | none => exact .inl ⟨rfl, rfl⟩
  | some y =>
    right
    refine ⟨rfl, ?_⟩
    have hy : i + 1 < rs.length := (List.getElem?_eq_some_iff.mp h).1
    have := List.pairwise_iff_getElem.mp hup i (i + 1) (by omega) hy (by omega)
    have e1 : row rs i = rs[i] := by unfold row; simp [List.getD, hi]
    have e2 : rs[i + 1] = y := by rw [List.getElem?_eq_getElem hy] at h; exact Option.some.inj h
    rw [e1, ← e2]
    exact this

def encRow (x : Row) : D := .tuple [.int x.1, encF x.2]
def encRs (rs : List Row) : D := .tuple (rs.map encRow)
structure Rts (rs : List Row) : Prop where
  pos : 0 < rs.length
  len : rs.length ≤ 20
  zero : ∀ x, rs[0]? = some x → x.1 = 0
  up : rs.Pairwise fun a b => a.1 < b.1
  day : ∀ x ∈ rs, 0 ≤ x.1 ∧ x.1 ≤ 1000000
  rate : ∀ x ∈ rs, 0 ≤ x.2 ∧ x.2 ≤ 1 ∧ x.2.den ≤ 10000
theorem rate_sz {r : Rat} (h : 0 ≤ r ∧ r ≤ 1 ∧ r.den ≤ 10000) : Sz 14 r := by
  obtain ⟨h0, h1, h2⟩ := h
  have a0 : 0 ≤ r.num := Rat.num_nonneg.mpr h0
  have a1 : r.num ≤ (r.den : Int) := by simpa using (Rat.le_iff r 1).mp h1
  have e : (2 : Nat) ^ 14 = 16384 := by decide
  exact ⟨by rw [e]; omega, by rw [e]; omega⟩
theorem row_at {rs : List Row} {i : Nat} (h : i < rs.length) : rs[i]? = some (row rs i) := by
  unfold row
  simp [List.getD, h]
theorem row_mem {rs : List Row} {i : Nat} (h : i < rs.length) : row rs i ∈ rs := List.mem_of_getElem? (row_at h)
theorem ix_rs {rs : List Row} {i : Nat} (h : i < rs.length) : ixD (encRs rs) (.int (i : Int)) = some (.fz (encRow (row rs i))) := ixD_tn (by rw [List.getElem?_map, row_at h]; rfl)
theorem len_rs (rs : List Row) : lenD [encRs rs] = some (.fz (.int rs.length)) := by unfold encRs; simp
theorem ix_r0 (x : Row) : ixD (encRow x) (.int 0) = some (.fz (.int x.1)) := by simp [encRow]
theorem ix_r1 (x : Row) : ixD (encRow x) (.int 1) = some (.fz (encF x.2)) := by simp [encRow]
theorem ix_f0 (r : Rat) : ixD (encF r) (.int 0) = some (.fz (.int r.num)) := by simp [encF]
theorem ix_f1 (r : Rat) : ixD (encF r) (.int 1) = some (.fz (.int (r.den : Int))) := by simp [encF]
theorem un_row (x : Row) {β : Type} (K : D → D → X β) : X.un2 (encRow x) K = K (.int x.1) (encF x.2) := rfl
theorem encF_int (i : Int) : PyData.tuple [.int i, .int 1] = encF (i : Rat) := rfl
theorem sz_int {i : Int} {n : Nat} (h : i.natAbs < 2 ^ n) (hn : 1 ≤ n) : Sz n (i : Rat) := ⟨h, by
  show 1 < 2 ^ n
  have : 2 ^ 1 ≤ 2 ^ n := Nat.pow_le_pow_right (by decide) hn
  omega⟩
theorem abs_lt {i : Int} {n : Nat} (h0 : -(2 : Int) ^ n < i) (h : i < 2 ^ n) : i.natAbs < 2 ^ n := by
  have e : ((2 ^ n : Nat) : Int) = 2 ^ n := by rw [Int.natCast_pow]; rfl
  omega
/-- the end of the k-th row -/
theorem v_end {rs : List Row} (hl : rs.length ≤ 20) {i : Nat} (hi : i < rs.length) (b : Int) :
    X.cond (X.tB (X.op2 ltD (X.op2 addD (X.v (.int (i : Int))) (X.v (.int 1))) (X.opN lenD (X.cons (X.v (encRs rs)) X.nil)))) (X.op2 ixD (X.op2 ixD (X.v (encRs rs)) (X.op2 addD (X.v (.int (i : Int))) (X.v (.int 1)))) (X.v (.int 0))) (X.v (.int b)) = .ok (.fz (.int (endAt rs i b))) := by
  by_cases c : i + 1 < rs.length
  · have c' : (i : Int) + 1 < rs.length := by omega
    have e : endAt rs i b = (row rs (i + 1)).1 := by unfold endAt; rw [row_at c]
    have q := ix_rs c
    rw [Int.natCast_add] at q
    have q : ixD (encRs rs) (.int ((i : Int) + 1)) = some (.fz (encRow (row rs (i + 1)))) := q
    simp [len_rs, c', q, ix_r0, e]
  · have c' : ¬ (i : Int) + 1 < rs.length := by omega
    have e : endAt rs i b = b := by
      unfold endAt
      rw [List.getElem?_eq_none (by omega)]
    simp [len_rs, c', e]
theorem end_le {rs : List Row} (ok : Rts rs) (i : Nat) {b : Int} (h0 : 0 ≤ b) (h : b ≤ 1000001) : 0 ≤ endAt rs i b ∧ endAt rs i b ≤ 1000001 := by
  unfold endAt
  cases e : rs[i + 1]? with
  | none => exact ⟨h0, h⟩
  | some y => have := ok.day y (List.mem_of_getElem? e); exact ⟨this.1, by show y.1 ≤ _; omega⟩
def days (rs : List Row) (a b : Int) (i : Nat) : Int := min (endAt rs i b) b - max (row rs i).1 a
theorem v_turn {rs : List Row} (ok : Rts rs) {a b : Int} (ha : 0 ≤ a) (hb : 0 ≤ b) (hb2 : b ≤ 1000001) {i : Nat} (hi : i < rs.length) (w : Rat) (hw : Sz (1 + 40 * i) w) :
    b_interest_1 (encRs rs) (.int b) (.int a) (.int (i : Int)) (encF w) = .ok (.nx (encF (w + (row rs i).2 * mx (days rs a b i)))) := by
  have hl := ok.len
  have hr := rate_sz (ok.rate _ (row_mem hi))
  have hd := ok.day _ (row_mem hi)
  have he := end_le ok i hb hb2
  have x0 : X.op2 ixD (X.v (encRs rs)) (X.v (.int (i : Int))) = .ok (.fz (encRow (row rs i))) := by simp [ix_rs hi]
  unfold b_interest_1
  simp only [x0, X.letD_ok, odat_fz, un_row, v_end hl hi]
  have e1 : X.op2 subD (X.opN min2D (X.cons (X.v (.int (endAt rs i b))) (X.cons (X.v (.int b)) X.nil))) (X.opN max2D (X.cons (X.v (.int (row rs i).1)) (X.cons (X.v (.int a)) X.nil))) = .ok (.fz (.int (days rs a b i))) := by
    simp [days]
  rw [e1]
  by_cases c : 0 < days rs a b i
  · have hm : mx (days rs a b i) = ((days rs a b i : Int) : Rat) := mx_nonneg (by omega)
    have e21 : (2 : Int) ^ 21 = 2097152 := by decide
    have hs : Sz 21 ((days rs a b i : Int) : Rat) := sz_int (abs_lt (by omega) (by unfold days at *; omega)) (by decide)
    have t1 := v_times (row rs i).2 ((days rs a b i : Int) : Rat) hr hs (by decide)
    have t2 := v_plus w ((row rs i).2 * ((days rs a b i : Int) : Rat)) hw (sz_mul hr hs) (by omega)
    rw [hm]
    generalize days rs a b i = n at *
    simp [c, encF_int, t1, t2]
  · have hm : mx (days rs a b i) = 0 := mx_nonpos (by omega)
    rw [hm, Rat.mul_zero, Rat.add_zero]
    generalize days rs a b i = n at *
    simp [c]
theorem sum_sz {rs : List Row} (ok : Rts rs) {a b : Int} (ha : 0 ≤ a) (hb : 0 ≤ b) (hb2 : b ≤ 1000001) : ∀ n : Nat, n ≤ rs.length → Sz (1 + 40 * n) (sumR n fun i => (row rs i).2 * mx (days rs a b i))
  | 0, _ => by
    show Sz 1 0
    exact ⟨by decide, by decide⟩
  | n + 1, h => by
    have hr := rate_sz (ok.rate _ (row_mem (by omega : n < rs.length)))
    have hd := ok.day _ (row_mem (by omega : n < rs.length))
    have he := end_le ok n hb hb2
    have hs : Sz 21 (mx (days rs a b n)) := by
      unfold mx
      have e : (2 : Int) ^ 21 = 2097152 := by decide
      refine sz_int (abs_lt (by omega) ?_) (by decide)
      unfold days
      omega
    exact (sz_add (sum_sz ok ha hb hb2 n (by omega)) (sz_mul hr hs)).mono (by omega)
theorem int_range (n : Nat) (h : n < 4611686018427387904) : X.range1 (.ok (.fz (.int (n : Int)))) = .ok ((List.range n).map fun k : Nat => PyData.int ((k : Nat) : Int)) := by
  rw [X.range1_ok]
  exact rng1_nat h
/-- interest of a span -/
theorem v_interest {rs : List Row} (ok : Rts rs) {a b : Int} (ha : 0 ≤ a) (hab : a ≤ b) (hb2 : b ≤ 1000001) (p : Rat) {np : Nat} (hp : Sz np p) (hn : np ≤ 8000) :
    g_interest [encF p, encRs rs, .int a, .int b] = .ok (.fz (encF (p * (C rs b - C rs a) * (1 / 365)))) := by
  have hb : 0 ≤ b := by omega
  have hl := ok.len
  have nlt : ¬ b < a := by omega
  have loop : (X.forF (b_interest_1 (encRs rs) (.int b) (.int a)) ((List.range rs.length).map fun k : Nat => PyData.int ((k : Nat) : Int)) (encF 0) : X (Fl D Unit O)) = .ok (.nx (encF (C rs b - C rs a))) := by
    obtain ⟨s', h1, h2⟩ := X.forF_inv (B := Unit) (fun n s => n ≤ rs.length → s = encF (sumR n fun i => (row rs i).2 * mx (days rs a b i))) ((List.range rs.length).map fun k : Nat => PyData.int ((k : Nat) : Int)) 0 (encF 0) (body := b_interest_1 (encRs rs) (.int b) (.int a)) (fun _ => rfl) (fun i d s hd hs => by
      rw [List.getElem?_map] at hd
      by_cases hi : i < rs.length
      · rw [List.getElem?_range hi] at hd
        cases hd
        have q := hs (by omega)
        rw [Nat.zero_add] at q
        subst q
        exact ⟨_, v_turn ok ha hb hb2 hi _ (sum_sz ok ha hb hb2 i (by omega)), fun _ => by rw [Nat.zero_add]; rfl⟩
      · rw [List.getElem?_eq_none (by simp; omega)] at hd
        cases hd)
    rw [h1, h2 (by simp)]
    congr 3
    rw [List.length_map, List.length_range, Nat.zero_add]
    exact sum_span rs a b hab ok.up
  have cs : Sz 801 (C rs b - C rs a) := by
    rw [← sum_span rs a b hab ok.up]
    exact (sum_sz ok ha hb hb2 rs.length (Nat.le_refl _)).mono (by omega)
  have y : Sz 9 (1 / 365 : Rat) := ⟨by decide +kernel, by decide +kernel⟩
  have t1 := v_times p (C rs b - C rs a) hp cs (by omega)
  have t2 := v_times (p * (C rs b - C rs a)) (1 / 365) (sz_mul hp cs) y (by omega)
  have e365 : PyData.tuple [.int 1, .int 365] = encF (1 / 365) := by
    unfold encF
    rw [show (1 / 365 : Rat).num = 1 by decide +kernel, show (1 / 365 : Rat).den = 365 by decide +kernel]
    rfl
  have en : d_NOUGHT = encF 0 := rfl
  have hrng := int_range rs.length (by omega)
  unfold g_interest
  simp [nlt, len_rs, hrng, en, loop, t1, e365, t2]
theorem v_interest_ex (p rs : D) {a b : Int} (h : b < a) : g_interest [p, rs, .int a, .int b] = .exc "Refused" := by
  unfold g_interest
  simp [h]
/-! ### the law's own -/
theorem dn {r : Rat} {n : Nat} (h : r.den < 2 ^ n) : ((r.den : Int)).natAbs < 2 ^ n := h
theorem num_den (r : Rat) : r * ((r.den : Int) : Rat) = (r.num : Rat) := by
  have h : r = (r.num : Rat) / ((r.den : Int) : Rat) := by
    rw [← Rat.divInt_eq_div, Rat.divInt_ofNat, Rat.mkRat_self]
  have hd : ((r.den : Int) : Rat) ≠ 0 := fun e => by
    have := Rat.intCast_eq_zero_iff.mp e
    have := den_pos' r
    omega
  have q := Rat.div_mul_cancel (a := (r.num : Rat)) hd
  rw [← h] at q
  exact q
theorem divInt_of {A B : Int} {y : Rat} (hB : 0 < B) (h : y * (B : Rat) = (A : Rat)) : Rat.divInt A B = y := by
  have hb : (B : Rat) ≠ 0 := fun e => by
    have := Rat.intCast_eq_zero_iff.mp e
    omega
  rw [Rat.divInt_eq_div, ← h]
  exact Rat.mul_div_cancel hb
theorem mx_ge (i : Int) : 0 ≤ mx i := by
  unfold mx
  exact Rat.intCast_nonneg.mpr (by omega)
theorem span_nonneg {rs : List Row} (ok : Rts rs) {a b : Int} (hab : a ≤ b) : 0 ≤ C rs b - C rs a := by
  rw [← sum_span rs a b hab ok.up]
  suffices h : ∀ n, n ≤ rs.length → 0 ≤ sumR n (fun i => (row rs i).2 * mx (min (endAt rs i b) b - max (row rs i).1 a)) from h _ (Nat.le_refl _)
  intro n
  induction n with
  | zero => intro _; exact Rat.le_refl
  | succ n ih => intro h; exact Rat.add_nonneg (ih (by omega)) (Rat.mul_nonneg (ok.rate _ (row_mem (by omega))).1 (mx_ge _))
theorem span_sz {rs : List Row} (ok : Rts rs) {a b : Int} (ha : 0 ≤ a) (hab : a ≤ b) (hb2 : b ≤ 1000001) : Sz 801 (C rs b - C rs a) := by
  rw [← sum_span rs a b hab ok.up]
  have hl := ok.len
  exact (sum_sz ok ha (by omega) hb2 rs.length (Nat.le_refl _)).mono (by omega)
theorem filter_rate (d : Int) : ∀ (rs : List Row), rs.Pairwise (fun a b => a.1 < b.1) → (∀ x, rs[0]? = some x → x.1 ≤ d) → rs ≠ [] → (rs.filter fun x => decide (x.1 ≤ d)).getLast?.map (·.2) = some (rateAt rs d)
  | [], _, _, h => absurd rfl h
  | [x], _, h, _ => by
    have := h x rfl
    rw [List.filter_cons_of_pos (by simpa using this)]
    rfl
  | x :: y :: r, hp, h, _ => by
    have h0 := h x rfl
    have hr := (List.pairwise_cons.mp hp).2
    rw [List.filter_cons_of_pos (by simpa using h0)]
    by_cases c : y.1 ≤ d
    · have ih := filter_rate d (y :: r) hr (fun z hz => by cases hz; exact c) (by simp)
      have e : rateAt (x :: y :: r) d = rateAt (y :: r) d := by
        show (if y.1 ≤ d then _ else _) = _
        rw [if_pos c]
      rw [e, ← ih]
      cases hf : (y :: r).filter fun x => decide (x.1 ≤ d) with
      | nil => rw [hf] at ih; cases ih
      | cons a l => rw [List.getLast?_cons_cons]
    · have e : rateAt (x :: y :: r) d = x.2 := by
        show (if y.1 ≤ d then _ else _) = _
        rw [if_neg c]
      have none_ : ((y :: r).filter fun x => decide (x.1 ≤ d)) = [] := List.filter_eq_nil_iff.mpr fun z hz => by
        have hz2 : y.1 ≤ z.1 := by
          rcases List.mem_cons.mp hz with q | q
          · rw [q]; exact Int.le_refl _
          · exact Int.le_of_lt ((List.pairwise_cons.mp hr).1 z q)
        simp
        omega
      rw [none_, e]
      rfl
theorem ixD_last {xs : List D} {d : D} (h : xs.getLast? = some d) : ixD (.list xs) (.int (-1)) = some (.fz d) := by
  show (match atI xs (-1) with | some d => some (P1.fz d) | none => none) = _
  have : atI xs (-1) = some d := by
    unfold atI ixN
    have hl : 0 < xs.length := by cases xs with | nil => cases h | cons a r => simp
    rw [if_neg (by omega), if_pos (by omega)]
    rw [List.getLast?_eq_getElem?] at h
    show xs[(-1 + (xs.length : Int)).toNat]? = some d
    have : (-1 + (xs.length : Int)).toNat = xs.length - 1 := by omega
    rw [this]
    exact h
  rw [this]
end PL.Lib
end
section
set_option Elab.async false
set_option linter.all false
set_option maxRecDepth 100000
set_option maxHeartbeats 2000000
set_option autoImplicit false
/-! Fractions with a common denominator; minus, less, rounded up. -/
namespace PL.Lib
open PySem L2 PL
def g_minus : List D → X O := X.pD fun one' => X.pD fun other' => X.p0 (X.fin (X.ret (X.call g_lowest (X.cons (X.op2 subD (X.op2 mulD (X.op2 ixD (X.v one') (X.v (.int 0))) (X.op2 ixD (X.v other') (X.v (.int 1)))) (X.op2 mulD (X.op2 ixD (X.v other') (X.v (.int 0))) (X.op2 ixD (X.v one') (X.v (.int 1))))) (X.cons (X.op2 mulD (X.op2 ixD (X.v one') (X.v (.int 1))) (X.op2 ixD (X.v other') (X.v (.int 1)))) X.nil)))))
def g_less : List D → X O := X.pD fun one' => X.pD fun other' => X.p0 (X.fin (X.ret (X.op2 ltD (X.op2 mulD (X.op2 ixD (X.v one') (X.v (.int 0))) (X.op2 ixD (X.v other') (X.v (.int 1)))) (X.op2 mulD (X.op2 ixD (X.v other') (X.v (.int 0))) (X.op2 ixD (X.v one') (X.v (.int 1)))))))
def g_rounded : List D → X O := X.pD fun fraction' => X.pD fun way' => X.p0 (X.fin (X.letD (X.v fraction') fun d1 => X.un2 d1 fun part' whole' => X.letD (X.op2 fdivD (X.v part') (X.v whole')) fun low' => X.iff_ (X.tB (X.op2 eqD (X.v way') (X.v (.str "down")))) (X.ret (X.v low')) (X.iff_ (X.tB (X.op2 eqD (X.v way') (X.v (.str "up")))) (X.ret (X.op1 negD (X.op2 fdivD (X.op1 negD (X.v part')) (X.v whole')))) (X.iff_ (X.tB (X.op2 neD (X.v way') (X.v (.str "near")))) (X.exc "NotThere") (X.letD (X.op2 mulD (X.v (.int 2)) (X.op2 subD (X.v part') (X.op2 mulD (X.v low') (X.v whole')))) fun double' => X.iff_ (X.tOr (X.tB (X.op2 ltD (X.v double') (X.v whole'))) (X.tAnd (X.tB (X.op2 eqD (X.v double') (X.v whole'))) (X.tB (X.op2 eqD (X.op2 modD (X.v low') (X.v (.int 2))) (X.v (.int 0)))))) (X.ret (X.v low')) (X.ret (X.op2 addD (X.v low') (X.v (.int 1)))))))))

theorem sub_divInt (a b : Rat) : a - b = Rat.divInt (a.num * (b.den : Int) - b.num * (a.den : Int)) ((a.den : Int) * (b.den : Int)) := by
  have h := add_divInt a (-b)
  rw [← Rat.sub_eq_add_neg] at h
  rw [h, Rat.neg_num, Rat.neg_den, Int.neg_mul, ← Int.sub_eq_add_neg]
theorem sz_neg {n : Nat} {a : Rat} (h : Sz n a) : Sz n (-a) := ⟨by rw [Rat.neg_num, Int.natAbs_neg]; exact h.1, by rw [Rat.neg_den]; exact h.2⟩
theorem sz_sub {n m : Nat} {a b : Rat} (ha : Sz n a) (hb : Sz m b) : Sz (n + m + 1) (a - b) := by
  rw [Rat.sub_eq_add_neg]
  exact sz_add ha (sz_neg hb)
theorem v_minus {n m : Nat} (a b : Rat) (ha : Sz n a) (hb : Sz m b) (h : n + m ≤ 9000) : g_minus [encF a, encF b] = .ok (.fz (encF (a - b))) := by
  have m1 := mulS ha.1 (dn hb.2) (by omega)
  have m2 := mulS hb.1 (dn ha.2) (by omega)
  have m3 := mulS (i := (a.den : Int)) (j := (b.den : Int)) (dn ha.2) (dn hb.2) (by omega)
  have q0 : (0 : Int) < (a.den : Int) * (b.den : Int) := Int.mul_pos (den_pos' a) (den_pos' b)
  have v := v_lowest (a.num * (b.den : Int) - b.num * (a.den : Int)) ((a.den : Int) * (b.den : Int)) q0 (lim9 (Int.le_of_lt q0) (natAbs_mul_lt (dn ha.2) (dn hb.2)) h)
  rw [← sub_divInt] at v
  unfold g_minus
  simp [ix_f0, ix_f1, m1, m2, m3, v]
theorem v_less {n m : Nat} (a b : Rat) (ha : Sz n a) (hb : Sz m b) (h : n + m ≤ 9000) : g_less [encF a, encF b] = .ok (.fz (.bool (decide (a < b)))) := by
  have m1 := mulS ha.1 (dn hb.2) (by omega)
  have m2 := mulS hb.1 (dn ha.2) (by omega)
  have e : (a.num * (b.den : Int) < b.num * (a.den : Int)) ↔ a < b := (Rat.lt_iff a b).symm
  unfold g_less
  simp [ix_f0, ix_f1, m1, m2, e]
theorem v_up (r : Rat) {n : Nat} (hr : Sz n r) (hn : n ≤ 9000) : g_rounded [encF r, .str "up"] = .ok (.fz (.int (-(-r.num / (r.den : Int))))) := by
  have d := den_pos' r
  have l := lim9 (Int.le_of_lt d) (dn hr.2) hn
  have f1 := fdivD_ii (i := r.num) d l
  have f2 := fdivD_ii (i := -r.num) d l
  have e1 : (("up" : Str) == "down") = false := by decide +kernel
  have e2 : (("up" : Str) == "up") = true := by decide +kernel
  have un : ∀ (x : Rat) {β : Type} (K : D → D → X β), X.un2 (encF x) K = K (.int x.num) (.int (x.den : Int)) := fun x {β} K => rfl
  unfold g_rounded
  simp [un, f1, f2, e1, e2]
/-- a fraction that M takes to an integer -/
def Dn (M : Int) (r : Rat) : Prop := ∃ z : Int, r * (M : Rat) = (z : Rat)
theorem Dn.add {M : Int} {a b : Rat} (h : Dn M a) (k : Dn M b) : Dn M (a + b) := by
  obtain ⟨x, hx⟩ := h
  obtain ⟨y, hy⟩ := k
  exact ⟨x + y, by rw [Rat.intCast_add, ← hx, ← hy]; grind⟩
theorem Dn.neg {M : Int} {a : Rat} (h : Dn M a) : Dn M (-a) := by
  obtain ⟨x, hx⟩ := h
  exact ⟨-x, by rw [Rat.intCast_neg, ← hx]; grind⟩
theorem Dn.sub {M : Int} {a b : Rat} (h : Dn M a) (k : Dn M b) : Dn M (a - b) := by
  rw [Rat.sub_eq_add_neg]
  exact h.add k.neg
theorem Dn.mul {M N : Int} {a b : Rat} (h : Dn M a) (k : Dn N b) : Dn (M * N) (a * b) := by
  obtain ⟨x, hx⟩ := h
  obtain ⟨y, hy⟩ := k
  exact ⟨x * y, by rw [Rat.intCast_mul, Rat.intCast_mul, ← hx, ← hy]; grind⟩
theorem Dn.int {M : Int} (i : Int) : Dn M (i : Rat) := ⟨i * M, by rw [Rat.intCast_mul]⟩
theorem Dn.dvd {M : Int} {a : Rat} (h : Dn M a) (N : Int) : Dn (M * N) a := by
  obtain ⟨x, hx⟩ := h
  exact ⟨x * N, by rw [Rat.intCast_mul, Rat.intCast_mul, ← hx]; grind⟩
theorem Dn.sz {M : Int} {r : Rat} (h : Dn M r) (hM : 0 < M) {m b : Nat} (hM2 : M.natAbs < 2 ^ m) {B : Int} (h1 : r ≤ (B : Rat)) (h2 : -(B : Rat) ≤ r) (hB : B.natAbs < 2 ^ b) : Sz (m + b) r := by
  obtain ⟨z, hz⟩ := h
  have e : Rat.divInt z M = r := divInt_of hM hz
  have M0 : (0 : Rat) ≤ (M : Rat) := Rat.intCast_nonneg.mpr (Int.le_of_lt hM)
  have z1 : z ≤ B * M := by
    have : ((z : Int) : Rat) ≤ ((B * M : Int) : Rat) := by
      rw [← hz, Rat.intCast_mul]
      exact Rat.mul_le_mul_of_nonneg_right h1 M0
    exact Rat.intCast_le_intCast.mp this
  have z2 : -(B * M) ≤ z := by
    have : ((-(B * M) : Int) : Rat) ≤ ((z : Int) : Rat) := by
      rw [← hz, Rat.intCast_neg, Rat.intCast_mul]
      have := Rat.mul_le_mul_of_nonneg_right h2 M0
      grind
    exact Rat.intCast_le_intCast.mp this
  have hbm := natAbs_mul_lt hB hM2
  have zz : z.natAbs < 2 ^ (m + b) := by
    have : z.natAbs ≤ (B * M).natAbs := by omega
    rw [Nat.add_comm m b]
    omega
  rw [← e]
  exact divInt_sz hM zz (pow_big (by omega) hM2)
end PL.Lib
end
section
set_option Elab.async false
set_option linter.all false
set_option maxRecDepth 100000
set_option maxHeartbeats 2000000
set_option autoImplicit false
/-! A display of a dict that is asked at once: {"a": e, ..}[x]. -/
namespace PL
open PySem PySem.Spec PyProof.Rows L2
section
variable {G : GG} {T : Fm} {Wx : WX} {F H : Hp} {σ : L2.St} {ρ : Env}
theorem EnvOk.notOwn {p : Addr} (en : EnvOk G T F H σ ρ) (hp : ∀ vs, H p ≠ some (.lst vs)) : ¬ Owns σ ρ p := fun ⟨i, s, e, ho, hs⟩ => by
  have z := en.at_ i s e
  rw [hs] at z
  cases s with
  | un => cases ho
  | fz d => cases ho
  | sc ns => cases ho
  | er c => cases ho
  | fl xs =>
    obtain ⟨a, vs, ea, h, _⟩ := z
    cases ea
    exact hp vs h
  | io j xs =>
    obtain ⟨a, vs, ea, h, _⟩ := z
    cases ea
    exact hp vs h
theorem EnvOk.side {p : Addr} {xs : List (Key × V)} {o : HO} (en : EnvOk G T F H σ ρ) (hp : H p = some (.dK xs)) (hF : F p = none) : EnvOk G T F (upd H p o) σ ρ := by
  have ne : ∀ {a : Addr} {u : HO}, H a = some u → u ≠ .dK xs → a ≠ p := fun e n z => by
    rw [z, hp] at e
    cases e
    exact n rfl
  refine ⟨⟨fun b u e => ?_, en.hp.nt, fun P hP => ?_⟩, fun a z => ?_, en.len, fun i s e => ?_, en.sep⟩
  · rw [upd_ne (ne_of_none e hF)]; exact en.hp.sub b u e
  · obtain ⟨ps, e, t⟩ := en.hp.tab P hP
    exact ⟨ps, by rw [upd_ne (ne e (by intro z; cases z))]; exact e, t⟩
  · by_cases c : a = p
    · rw [c, upd_same]; simp
    · rw [upd_ne c]; exact en.live0 a z
  · have z := en.at_ i s e
    cases s with
    | un => exact z
    | fz d => exact z
    | sc ns => exact z
    | er c => exact z
    | fl ds =>
      obtain ⟨a, vs, ea, h, h2⟩ := z
      exact ⟨a, vs, ea, by rw [upd_ne (ne h (by intro z; cases z))]; exact h, h2⟩
    | io j ds =>
      obtain ⟨a, vs, ea, h, h2⟩ := z
      exact ⟨a, vs, ea, by rw [upd_ne (ne h (by intro z; cases z))]; exact h, h2⟩
theorem Ext.under {A : Addr → Prop} {F' H' : Hp} {p : Addr} {o o' : HO} (hp : H p = none) (x : Ext A F (upd H p o) F' H') : Ext A F H F' (upd H' p o') := by
  have e : ∀ {a : Addr}, H a ≠ none → a ≠ p := fun h z => h (by rw [z]; exact hp)
  refine ⟨x.fle, fun a u h n t => ?_, fun a h n => ?_, fun a h => ?_⟩
  · have z : a ≠ p := e (by rw [h]; simp)
    rw [upd_ne z]
    exact x.keep a u (by rw [upd_ne z]; exact h) n t
  · exact x.fnew a (by rw [upd_ne (e h)]; exact h) n
  · rw [upd_ne (e h)]
    exact x.live a (by rw [upd_ne (e h)]; exact h)
theorem Ext.under' {A : Addr → Prop} {F' H' : Hp} {p : Addr} {o : HO} (hp : H p = none) (x : Ext A F (upd H p o) F' H') : Ext A F H F' H' := by
  have e : ∀ {a : Addr}, H a ≠ none → a ≠ p := fun h z => h (by rw [z]; exact hp)
  refine ⟨x.fle, fun a u h n t => ?_, fun a h n => ?_, fun a h => ?_⟩
  · have z : a ≠ p := e (by rw [h]; simp)
    exact x.keep a u (by rw [upd_ne z]; exact h) n t
  · exact x.fnew a (by rw [upd_ne (e h)]; exact h) n
  · exact x.live a (by rw [upd_ne (e h)]; exact h)
/-- what holds without a dict that stands empty holds with it, and it may be filled behind -/
theorem RPost.under {α : Type} {Ok : α → Env → Hp → Hp → Prop} {r : R α} {p : Addr} (en : EnvOk G T F H σ ρ) (hp : H p = none) (h : RPost G T Wx F H σ ρ Ok r) :
    RPost G T Wx F (upd H p (.dK [])) σ ρ (fun x ρ' F' H' => H' p = some (.dK []) ∧ F' p = none ∧ ∀ ys, EnvOk G T F' (upd H' p (.dK ys)) σ ρ' ∧ Ok x ρ' F' (upd H' p (.dK ys))) r := by
  have hno : ¬ Owns σ ρ p := en.notOwn fun vs e => by rw [hp] at e; cases e
  cases r with
  | bad => exact h
  | exc c ρ' => exact fun F' H' e1 en1 l1 => h F' H' (e1.under' hp) en1 l1
  | ok x ρ' =>
    intro F' H' e1 en1 l1
    have h1 : H' p = some (.dK []) := e1.keep p _ upd_same hno fun ps z => by cases z
    have h2 : F' p = none := by rw [e1.fnew p (by rw [upd_same]; simp) hno]; exact en.hp.sub.free hp
    exact ⟨h1, h2, fun ys => ⟨en1.side h1 h2, h F' _ (e1.under hp) (en1.side h1 h2) l1⟩⟩
end
/-- the last of the keys that is the text -/
def look : List Str → List D → Str → Option D → Option D
  | z :: zs, d :: ds, y, o => look zs ds y (if z = y then some d else o)
  | _, _, _, o => o
def kvsOf (zs : List Str) (vs : List V) : List (Key × V) := List.zip (zs.map (Sum.inr : Str → Key)) vs
theorem look_val {K : PySem.W.Frag} {F : Hp} (y : Str) : ∀ (zs : List Str) (ds : List D) (vs : List V) (o : Option D) (acc : List (Key × V)), Reps K F ds vs → (∀ d, o = some d → ∃ v, valV acc (.inr y) = some v ∧ Rep K F d v) →
    ∀ d, look zs ds y o = some d → ∃ v, valV (mergeK acc (kvsOf zs vs)) (.inr y) = some v ∧ Rep K F d v
  | [], ds, vs, o, acc, _, h, d, e => by
    have e : o = some d := by cases ds <;> exact e
    exact h d e
  | z :: zs, [], vs, o, acc, r, h, d, e => by
    rw [Reps] at r
    subst r
    exact h d e
  | z :: zs, d0 :: ds, vs, o, acc, r, h, d, e => by
    rw [Reps] at r
    obtain ⟨v0, vr, rfl, r1, r2⟩ := r
    refine look_val y zs ds vr _ (putK acc (.inr z) v0) r2 (fun d' e' => ?_) d e
    rw [valV_put]
    by_cases c : z = y
    · rw [if_pos c] at e'
      cases e'
      exact ⟨v0, by rw [if_pos (by rw [c])], r1⟩
    · rw [if_neg c] at e'
      obtain ⟨v, e1, e2⟩ := h d' e'
      exact ⟨v, by rw [if_neg (fun q => c (by cases q; rfl))]; exact e1, e2⟩
/-! ### the rule -/
def PDP (C : Ct) (ks : List (Option Expr)) (zs : List Str) (es : List Expr) (fa : Env → R (List W)) : Prop := ∀ (X : Cx) (Wx : WX), Cok X C Wx → ∀ pos, ∃ trs, PPs X pos ks es trs ∧
  ∀ σ H (Q : List (V × V) → Hp → Prop), (∃ T F ρ, EnvOk C.G T F H σ ρ ∧ RPost C.G T Wx F H σ ρ (fun ws _ F' H' => ∀ vs, RepNs C.G.K F' σ ws vs → Q (List.zip (zs.map V.str) vs) H') (fa ρ)) → tPairs trs σ H Q
section
variable {C : Ct} {e : Expr} {es : List Expr} {ks : List (Option Expr)} {zs : List Str} {f : Env → R W} {r : Env → R (List W)}
theorem pdp_nil : PDP C [] [] [] aNil := fun X Wx ok pos => ⟨[], pps_nil, fun σ H Q ⟨T, F, ρ, en, p⟩ => RPost.here en p [] rfl⟩
theorem pdp_cons {z : Str} {j : Nat} {kp : Pos} (h : PD C e f) (t : PDP C ks zs es r) : PDP C (some (.Constant (.str z) j kp) :: ks) (z :: zs) (e :: es) (aCons (eFz f) r) := fun X Wx ok pos => by
  obtain ⟨trs, hr, ht⟩ := t X Wx ok pos
  refine ⟨(tC (.str z), tE C.G Wx f) :: trs, pps_cons pe_str (h X Wx ok) hr, fun σ H Q ⟨T, F, ρ, en, p⟩ => ?_⟩
  show tE C.G Wx f σ H fun y H2 => tPairs trs σ H2 fun ps H3 => Q ((.str z, y) :: ps) H3
  refine tE_fz en ((RPost.bind p).imp fun w ρ1 F1 H1 e1 en1 l1 p1 v rv => ht σ H1 _ ⟨T, F1, ρ1, en1, ?_⟩)
  exact (RPost.bind p1).imp fun ws ρ2 F2 H2 e2 en2 l2 p2 vs rvs => RPost.here en2 p2 (v :: vs) ⟨v, vs, rfl, rv.mono e2.fle, rvs⟩
end
/-- {zs: ..}[x] -/
def eDix (zs : List Str) (fa : Env → R (List W)) (fb : Env → R W) : Env → R W := fun ρ => (fa ρ).bind fun ws ρ1 => (eNrm fb ρ1).bind fun w ρ2 => match valAll ws, w.dat ρ2 with
  | some ds, some (.str y) => match look zs ds y none with
    | some d => .ok (.val d) ρ2
    | none => .bad
  | _, _ => .bad
theorem zip_kv : ∀ (zs : List Str) (vs : List V), List.zip (zs.map V.str) vs = (kvsOf zs vs).map fun kv => (kV kv.1, kv.2)
  | [], vs => by unfold kvsOf; simp
  | z :: zs, [] => by unfold kvsOf; simp
  | z :: zs, v :: vs => by
    have := zip_kv zs vs
    unfold kvsOf at this ⊢
    simp [this, kV]
section
variable {C : Ct} {b : Expr} {es : List Expr} {ks : List (Option Expr)} {zs : List Str} {fa : Env → R (List W)} {fb : Env → R W} {pos dpos : Pos}
theorem pd_dix (hh : C.hot = false) (ha : PDP C ks zs es fa) (hb : PD C b fb) (hs : NoSl b) (hall : ks.all (·.isSome) = true) (hl : ks.length = es.length) (h0 : ks ≠ []) (h15 : ks.length ≤ 15) (hz : zs.length ≤ 15) :
    PD C (.Subscript (.Dict ks es dpos) b pos) (eDix zs fa fb) := by
  intro X Wx ok
  obtain ⟨trs, hr, ht⟩ := ha X Wx ok dpos
  have hu : X.A.units + 1 < cLine := by have := ok.roomH.un; omega
  refine PE.to (pe_dget hu (pe_disp hr hall hl h0 h15) (hb X Wx ok) hs) fun σ H Q ⟨T, F, ρ, en, p⟩ => ?_
  intro d hd
  refine ht σ _ _ ⟨T, F, ρ, ?_, ?_⟩
  · exact en.new (New.own hd) (en.hp.own hd)
  · refine (RPost.under en hd (RPost.bind p)).imp fun ws ρ1 F1 H1 e1 en1 l1 p1 vs rv => ?_
    obtain ⟨q1, q2, q3⟩ := p1
    refine ⟨q1, kvsOf zs vs, zip_kv zs vs, by unfold kvsOf; rw [List.length_zip, List.length_map]; omega, ?_⟩
    obtain ⟨en2, p2⟩ := q3 (mergeK [] (kvsOf zs vs))
    refine tE_nrm en2 ((RPost.bind p2).imp fun w ρ2 F2 H2 e2 en3 l2 p3 v rw' => ?_)
    cases ea : valAll ws with
    | none => rw [ea] at p3; exact p3.elim
    | some ds =>
      cases eb : w.dat ρ2 with
      | none => rw [ea, eb] at p3; exact p3.elim
      | some y =>
        rw [ea, eb] at p3
        cases y with
        | str y =>
          cases el : look zs ds y none with
          | none => simp only [el] at p3; exact p3.elim
          | some r =>
            simp only [el] at p3
            obtain ⟨rfl, _⟩ := repC_str (rw'.read en3 eb)
            obtain ⟨u, g1, g2⟩ := look_val y zs ds vs none [] (rv.vals ea) (fun d' e' => by cases e') r el
            have hd2 : H2 d = some (.dK (mergeK [] (kvsOf zs vs))) := e2.keep d _ upd_same (en2.notOwn fun us z => by rw [upd_same] at z; cases z) fun ps z => by cases z
            have gt : DGet H2 d (kV (.inr y)) (valV (mergeK [] (kvsOf zs vs)) (.inr y)) := DGet.k hd2
            rw [g1] at gt
            exact ⟨d, u, rfl, gt, RPost.here en3 p3 u (repW_val (g2.mono e2.fle))⟩
        | _ => exact p3.elim
end
end PL
end
section
set_option Elab.async false
set_option linter.all false
set_option maxRecDepth 100000
set_option maxHeartbeats 2000000
set_option autoImplicit false
/-! a, b = x, y. -/
namespace PL
open PySem PySem.Spec PyProof.Rows L2
def stPar (i j : Nat) (ws : List W) (ρ : Env) : So := match valAll ws with
  | some [d, e] => if i < ρ.length ∧ j < ρ.length then .nx ((ρ.set i (.fz d)).set j (.fz e)) else .bad
  | _ => .bad
def sPar (i j : Nat) (fa : Env → R (List W)) : Env → So := fun ρ => (fa ρ).so (stPar i j)
section
variable {C : Ct} {i j : Nat} {x y : Str} {a b : Expr} {fa : Env → R (List W)} {px py pt pos : Pos} {kt k2 : _} {pt2 : Pos}
theorem pds_par (ha : PDA C [a, b] fa) (hh : C.hot = false) (hi : C.N[i]? = some x) (hj : C.N[j]? = some y) (hij : i ≠ j) (hx : C.sc.names.lookup x = some .local) (hy : C.sc.names.lookup y = some .local)
    (hw : ∀ env : PySem.Env, env.scope = C.sc → swappedStores [.Tuple [.Name x px, .Name y py] kt pt] (.Tuple [a, b] k2 pt2) env = pure (some [x, y]))
    (hs : ∀ env, swapsWithSole [.Tuple [.Name x px, .Name y py] kt pt] (.Tuple [a, b] k2 pt2) pos.line env = pure false := by intro _; rfl) :
    PDS C (.Assign [.Tuple [.Name x px, .Name y py] kt pt] (.Tuple [a, b] k2 pt2) pos) (sPar i j fa) := fun X Wx ok => by
  refine PS.to (ps_par (ok.calm hh) ok.nodup (i := i) (j := j) (by rw [ok.hN]; exact hi) (by rw [ok.hN]; exact hj) hij (by rw [ok.hsc]; exact hx) (by rw [ok.hsc]; exact hy) (ha X Wx ok) (hw _ ok.hsc) (hs _)) fun Dn σ H ⟨T, F, ρ, en, p⟩ => ?_
  refine ⟨T, F, ρ, en, (SPost.so p).imp fun ws ρ1 F1 H1 e1 en1 l1 p1 vs rv => ?_⟩
  unfold stPar at p1
  cases ea : valAll ws with
  | none => rw [ea] at p1; exact p1.elim
  | some ds =>
    rw [ea] at p1
    have rs := rv.vals ea
    match ds, p1, rs with
    | [d, e], p1, rs =>
      rw [Reps] at rs
      obtain ⟨v, r1, rfl, rv1, rs⟩ := rs
      rw [Reps] at rs
      obtain ⟨u, r2, rfl, rv2, rs⟩ := rs
      rw [Reps] at rs
      subst rs
      refine ⟨v, u, rfl, ?_⟩
      by_cases hl : i < ρ1.length ∧ j < ρ1.length
      · simp only [hl, and_self, if_true] at p1
        obtain ⟨en2, l2⟩ := en1.setFz hl.1 rv1
        obtain ⟨en3, l3⟩ := en2.setFz (i := j) (by rw [List.length_set]; exact hl.2) rv2
        exact p1.nxt en3 Ext.refl fun a z => .inl (l2 a (l3 a z))
      · simp only [hl, if_false] at p1
        exact p1.elim
    | [], p1, _ => exact p1.elim
    | [_], p1, _ => exact p1.elim
    | _ :: _ :: _ :: _, p1, _ => exact p1.elim
end
/-! ### min and max of a list of integers -/
def minI : List Int → Int
  | [] => 0
  | [n] => n
  | n :: m :: ns => min n (minI (m :: ns))
def maxI : List Int → Int
  | [] => 0
  | [n] => n
  | n :: m :: ns => max n (maxI (m :: ns))
theorem minI_ok : ∀ (ns : List Int), ns ≠ [] → minI ns ∈ ns ∧ ∀ y ∈ ns, minI ns ≤ y
  | [], h => absurd rfl h
  | [n], _ => ⟨by simp [minI], fun y hy => by rw [List.mem_singleton.mp hy]; exact Int.le_refl _⟩
  | n :: m :: ns, _ => by
    obtain ⟨a, b⟩ := minI_ok (m :: ns) (by simp)
    show min n (minI (m :: ns)) ∈ _ ∧ ∀ y ∈ n :: m :: ns, min n (minI (m :: ns)) ≤ y
    generalize minI (m :: ns) = k at *
    refine ⟨?_, fun y hy => ?_⟩
    · by_cases c : n ≤ k
      · rw [Int.min_eq_left c]; simp
      · rw [Int.min_eq_right (by omega)]; exact List.mem_cons_of_mem _ a
    · rcases List.mem_cons.mp hy with z | z
      · rw [z]; exact Int.min_le_left _ _
      · exact Int.le_trans (Int.min_le_right _ _) (b y z)
theorem maxI_ok : ∀ (ns : List Int), ns ≠ [] → maxI ns ∈ ns ∧ ∀ y ∈ ns, y ≤ maxI ns
  | [], h => absurd rfl h
  | [n], _ => ⟨by simp [maxI], fun y hy => by rw [List.mem_singleton.mp hy]; exact Int.le_refl _⟩
  | n :: m :: ns, _ => by
    obtain ⟨a, b⟩ := maxI_ok (m :: ns) (by simp)
    show max n (maxI (m :: ns)) ∈ _ ∧ ∀ y ∈ n :: m :: ns, y ≤ max n (maxI (m :: ns))
    generalize maxI (m :: ns) = k at *
    refine ⟨?_, fun y hy => ?_⟩
    · by_cases c : n ≤ k
      · rw [Int.max_eq_right c]; exact List.mem_cons_of_mem _ a
      · rw [Int.max_eq_left (by omega)]; simp
    · rcases List.mem_cons.mp hy with z | z
      · rw [z]; exact Int.le_max_left _ _
      · exact Int.le_trans (b y z) (Int.le_max_right _ _)
def minLD : List D → Option P1
  | [.list ds] => match intsD ds with
    | some (n :: ns) => some (.fz (.int (minI (n :: ns))))
    | _ => none
  | _ => none
def maxLD : List D → Option P1
  | [.list ds] => match intsD ds with
    | some (n :: ns) => some (.fz (.int (maxI (n :: ns))))
    | _ => none
  | _ => none
theorem pr_minL {G : GG} {K : PySem.W.Frag} (hK : K = G.K) : PrimN G (rMin K) minLD := by
  subst hK
  intro F H vs ds p Q ok ra e q
  unfold minLD at e
  split at e <;> try (cases e; done)
  rename_i xs
  split at e <;> try (cases e; done)
  rename_i n ns ei
  cases e
  obtain ⟨v, rfl, r⟩ := repCs_one ra rfl
  obtain ⟨l, us, rfl, h1, z1, r1⟩ := repC_lst r
  rw [reps_ints r1 ei] at h1
  refine ⟨l, n :: ns, rfl, SqL.of h1, by simp, fun m hm hle => ?_⟩
  obtain ⟨a, b⟩ := minI_ok (n :: ns) (by simp)
  have : m = minI (n :: ns) := Int.le_antisymm (hle _ a) (b m hm)
  rw [this]
  exact q _ F H New.refl ok (res_sc rep_int)
theorem pr_maxL {G : GG} {K : PySem.W.Frag} (hK : K = G.K) : PrimN G (rMax K) maxLD := by
  subst hK
  intro F H vs ds p Q ok ra e q
  unfold maxLD at e
  split at e <;> try (cases e; done)
  rename_i xs
  split at e <;> try (cases e; done)
  rename_i n ns ei
  cases e
  obtain ⟨v, rfl, r⟩ := repCs_one ra rfl
  obtain ⟨l, us, rfl, h1, z1, r1⟩ := repC_lst r
  rw [reps_ints r1 ei] at h1
  refine ⟨l, n :: ns, rfl, SqL.of h1, by simp, fun m hm hle => ?_⟩
  obtain ⟨a, b⟩ := maxI_ok (n :: ns) (by simp)
  have : m = maxI (n :: ns) := Int.le_antisymm (b m hm) (hle _ a)
  rw [this]
  exact q _ F H New.refl ok (res_sc rep_int)
section
variable {C : Ct}
theorem bi_minL (hh : C.hot = false := by rfl) : BiOk C "min" minLD := ⟨_, fun X => rMin X.K, (by decide +kernel : bootBuiltins "min" = some (.builtin "min")), .inl ⟨_, rfl⟩, fun _ _ ok => cr_min (ok.calm hh), fun _ _ ok => pr_minL ok.K⟩
theorem bi_maxL (hh : C.hot = false := by rfl) : BiOk C "max" maxLD := ⟨_, fun X => rMax X.K, (by decide +kernel : bootBuiltins "max" = some (.builtin "max")), .inl ⟨_, rfl⟩, fun _ _ ok => cr_max (ok.calm hh), fun _ _ ok => pr_maxL ok.K⟩
end
end PL
end
section
set_option Elab.async false
set_option linter.all false
set_option maxRecDepth 100000
set_option maxHeartbeats 2000000
set_option autoImplicit false
/-! The signs of a text as a source. -/
namespace PL
open PySem PySem.Spec PyProof.Rows L2
def signs (z : Str) : List Str := z.cps.toList.map fun c => ⟨#[c]⟩
theorem feeds_str {G : GG} {F : Hp} {z : Str} (h : (signs z).all PyData.strOk = true) : Feeds G (Its z) F ((signs z).map PyData.str) where
  go := fun i F' H' s ok hi => by
    show i < z.cps.size
    simpa [signs] using hi
  yld := fun i d F' H' x H'' s ok hd y => by
    obtain ⟨rfl, c, hc, rfl⟩ := y
    rw [List.getElem?_map] at hd
    cases e : (signs z)[i]? with
    | none => rw [e] at hd; cases hd
    | some y =>
      rw [e] at hd
      cases hd
      have hy : y = ⟨#[c]⟩ := by
        unfold signs at e
        rw [List.getElem?_map, Array.getElem?_toList, hc] at e
        exact (Option.some.inj e).symm
      have ho := List.all_eq_true.mp h y (List.mem_of_getElem? e)
      rw [hy] at ho ⊢
      exact ⟨F', New.refl, ok, rep_str (by show 1 ≤ sizeLine; decide) ho⟩
  stop := fun i F' H' s ok hi => by
    show z.cps.size ≤ i
    simpa [signs] using hi
def itS (w : W) (ρ : Env) : R (List D) := match w with
  | .o (.fz (.str z)) => if (signs z).all PyData.strOk = true then .ok ((signs z).map PyData.str) ρ else .bad
  | _ => .bad
def iSt (f : Env → R W) : Env → R (List D) := fun ρ => (eFz f ρ).bind itS
theorem pdi_str {C : Ct} {tg e : Expr} {f : Env → R W} (hh : C.hot = false) (h : PD C e f) : PDI C tg e (iSt f) := fun X Wx ok => by
  refine ⟨fun _ => ?_, fun hot => ?_⟩
  · refine PI.to (pi_str (h X Wx ok)) fun σ H Rr ⟨T, F, ρ, en, p⟩ => ?_
    refine tE_fz en ((RPost.bind p).imp fun w ρ1 F1 H1 e1 en1 l1 p1 v rv => ?_)
    cases w with
    | own i => exact p1.elim
    | o x =>
      cases x with
      | fl xs => exact p1.elim
      | tp ps => exact p1.elim
      | fz d =>
        have rv : Rep C.G.K F1 d v := rv
        cases d with
        | str z =>
          obtain ⟨rfl, _, _⟩ := repC_str (G := C.G) (F := F1) (H := H1) rv
          unfold itS at p1
          by_cases c : (signs z).all PyData.strOk = true
          · simp only [c, if_true] at p1
            exact ⟨z, rfl, RPost.here en1 p1 _ (feeds_str c)⟩
          · simp only [c, if_false] at p1
            exact p1.elim
        | _ => exact p1.elim
  · obtain ⟨p, ⟨h1, _⟩, _⟩ := hot
    exact ⟨fun pins s σ H Rr I q => by
      have z := I.ok.hd (ok.calm hh)
      rw [h1] at z
      cases z⟩
end PL
end
section
set_option Elab.async false
set_option linter.all false
set_option maxRecDepth 100000
set_option maxHeartbeats 4000000
set_option autoImplicit false
namespace PL.K47
open PySem PySem.Spec PyProof.Rows L2 PL

def top (i : Nat) : Stmt := PySem.Challenge.pw_docketloom_k47_fee_books.main.body.getD i (.Pass ⟨0, 0, 0, 0⟩)
def d_BOOK_WAYS : D := (PyData.tuple [(PyData.str "old"), (PyData.str "new"), (PyData.str "kind")])
def d_WAYS : D := (PyData.tuple [(PyData.str "down"), (PyData.str "up"), (PyData.str "near")])
/-- what stands in the module -/
structure Fr (G : GG) : Prop where
  f_abs : G.mg "abs" = none
  f_all : G.mg "all" = none
  f_bool : G.mg "bool" = none
  f_int : G.mg "int" = none
  f_isinstance : G.mg "isinstance" = none
  f_len : G.mg "len" = none
  f_list : G.mg "list" = none
  f_max : G.mg "max" = none
  f_min : G.mg "min" = none
  f_range : G.mg "range" = none
  f_sorted : G.mg "sorted" = none
  f_str : G.mg "str" = none
  f_tuple : G.mg "tuple" = none
  c_BOOK_WAYS : GlD G "BOOK_WAYS" d_BOOK_WAYS
  c_LAST : ∃ t, G.mg "LAST" = some (.int 1000000 t)
  c_LIMIT : ∃ t, G.mg "LIMIT" = some (.int 1000000000000000000000000000000000000000000000000000000000000 t)
  c_MOST_MONEY : ∃ t, G.mg "MOST_MONEY" = some (.int 1000000000000 t)
  c_MOST_WHOLE : ∃ t, G.mg "MOST_WHOLE" = some (.int 10000 t)
  c_WAYS : GlD G "WAYS" d_WAYS
  e_NotThere : ExcD G "NotThere"
  e_Refused : ExcD G "Refused"
  m_DocketError : G.mg "DocketError" = some (.ref (G.cls "DocketError"))
  x_DocketError : ∀ c ∈ (["NotThere", "Refused"] : List Str), PySem.W.exmOne G.K (.ref (G.cls c)) (.ref (G.cls "DocketError")) = some true
  i_Malformed : IsE G "Malformed" [("NotThere", false), ("Refused", false)]
  i_NotThere : IsE G "NotThere" [("NotThere", true), ("Refused", false)]
  i_OutOfRange : IsE G "OutOfRange" [("NotThere", false), ("Refused", false)]
  i_Refused : IsE G "Refused" [("NotThere", false), ("Refused", true)]
  i_TooMuch : IsE G "TooMuch" [("NotThere", false), ("Refused", false)]
  i_ValueError : IsE G "ValueError" [("NotThere", true), ("Refused", true)]
  g_gcd : G.mg "gcd" = some (.builtin "math.gcd")
abbrev s_is_number : Stmt := top 9
def N_is_number : List Str := ["value", "least", "most"]
def f_is_number : Env → So := sRet (eAndB (eIsi "int" (eVar 0)) (eAndB (eNotB (eIsi "bool" (eVar 0))) (eCh2 leD leD (eVar 1) (eVar 0) (eVar 2))))
def sem_is_number : DefSem := semOf 3 [.d, .d, .d] f_is_number
theorem sc_is_number : FnScope N_is_number ["value", "least", "most"] (defScope s_is_number) := ⟨rfl, rfl, rfl, by decide +kernel, rfl, by decide +kernel, by decide +kernel⟩
theorem ok_is_number {G : GG} (t : Fr G)  : PDSs ⟨G, N_is_number, defScope s_is_number, 0, fun _ => true, none, false, true⟩ (defBody s_is_number) f_is_number :=
  pdss_one (pds_ret (pd_and (pd_isi (by kernel_rfl) t.f_isinstance (by kernel_rfl) t.f_int (by decide +kernel) (by decide +kernel) (pd_var (i := 0) (by kernel_rfl))) (pd_and (pd_not (pd_isi (by kernel_rfl) t.f_isinstance (by kernel_rfl) t.f_bool (by decide +kernel) (by decide +kernel) (pd_var (i := 0) (by kernel_rfl)))) (pd_one (pd_c2 cmp_le cmp_le (pd_var (i := 1) (by kernel_rfl)) (pd_var (i := 0) (by kernel_rfl)) (pd_var (i := 2) (by kernel_rfl)))))))
abbrev s_is_name : Stmt := top 10
def N_is_name : List Str := ["value", "sign"]
def f_is_name : Env → So := sRet (eAndB (eIsi "str" (eVar 0)) (eAndB (eCh2 leD leD (eC (.int 1)) (eN lenD (aCons (eNrm (eVar 0)) aNil)) (eC (.int 16))) (eGen false [1] (iSt (eVar 0)) (gN 1) tYesS (eCh2 leD leD (eC (.str "a")) (eVar 1) (eC (.str "z"))))))
def sem_is_name : DefSem := semOf 2 [.d] f_is_name
theorem sc_is_name : FnScope N_is_name ["value"] (defScope s_is_name) := ⟨rfl, rfl, rfl, by decide +kernel, rfl, by decide +kernel, by decide +kernel⟩
theorem ok_is_name {G : GG} {c P : Addr} (t : Fr G)  : PDSs ⟨G, N_is_name, defScope s_is_name, 1, fun _ => true, some (c, P), false, true⟩ (defBody s_is_name) f_is_name :=
  pdss_one (pds_ret (pd_and (pd_isi (by kernel_rfl) t.f_isinstance (by kernel_rfl) t.f_str (by decide +kernel) (by decide +kernel) (pd_var (i := 0) (by kernel_rfl))) (pd_and (pd_c2 cmp_le cmp_le pd_int (pd_b bi_len (by kernel_rfl) t.f_len (pda_cons (pd_var (i := 0) (by kernel_rfl)) pda_nil)) pd_int) (pd_one (pd_all (own := [("sign", 1)]) (k := 0) rfl rfl (by kernel_rfl) t.f_all (by kernel_rfl) (pdi_str rfl (pd_var (i := 0) (by kernel_rfl))) (pdg_name (i := 1) (by kernel_rfl) (by decide)) pdts_nil (pd_c2 cmp_le cmp_le (pd_str (by kernel_rfl)) (pd_var (i := 1) (by kernel_rfl)) (pd_str (by kernel_rfl))))))))
abbrev s_is_fraction : Stmt := top 13
def N_is_fraction : List Str := ["value", "part", "whole", "one"]
def f_is_fraction : Env → So := sSeq (sIf (tOrS (tNotS (tstV (eIsi "tuple" (eVar 0)))) (tstB (eBin neD (eN lenD (aCons (eNrm (eVar 0)) aNil)) (eC (.int 2))))) (sRet (eC (.bool false))) sNx) (sSeq (sUn [gN 1, gN 2] (eVar 0)) (sSeq (sFor (iSq (eVar 0)) (gN 3) (sIf (tOrS (tNotS (tstV (eIsi "int" (eVar 3)))) (tstV (eIsi "bool" (eVar 3)))) (sRet (eC (.bool false))) sNx)) (sRet (eAndB (eCh2 leD leD (eUn negD (eC (.int 1000000000000000000000000000000000000000000000000000000000000))) (eVar 1) (eC (.int 1000000000000000000000000000000000000000000000000000000000000))) (eAndB (eCh2 leD leD (eC (.int 1)) (eVar 2) (eC (.int 1000000000000000000000000000000000000000000000000000000000000))) (eBin eqD (eN gcdD (aCons (eNrm (eVar 1)) (aCons (eNrm (eVar 2)) aNil))) (eC (.int 1))))))))
def sem_is_fraction : DefSem := semOf 4 [.d] f_is_fraction
theorem sc_is_fraction : FnScope N_is_fraction ["value"] (defScope s_is_fraction) := ⟨rfl, rfl, rfl, by decide +kernel, rfl, by decide +kernel, by decide +kernel⟩
theorem ok_is_fraction {G : GG} (t : Fr G)  : PDSs ⟨G, N_is_fraction, defScope s_is_fraction, 0, fun _ => true, none, false, true⟩ (defBody s_is_fraction) f_is_fraction :=
  pdss_cons (pds_if (PDW.t (pdw_or (pdt_not (pdt_truth (pd_isi (by kernel_rfl) t.f_isinstance (by kernel_rfl) t.f_tuple (by decide +kernel) (by decide +kernel) (pd_var (i := 0) (by kernel_rfl))))) (pdw_or1 (pdt_c cmp_ne (pd_b bi_len (by kernel_rfl) t.f_len (pda_cons (pd_var (i := 0) (by kernel_rfl)) pda_nil)) pd_int)))) (pdss_one (pds_ret pd_bl)) pdss_nil) (pdss_cons (pds_un (vs := [1, 2]) (pd_var (i := 0) (by kernel_rfl)) (pdgc_tup (pdgs_cons (pdg_name (i := 1) (by kernel_rfl) (by decide)) (pdgs_cons (pdg_name (i := 2) (by kernel_rfl) (by decide)) pdgs_nil)))) (pdss_cons (pds_for (vs := [3]) (pdi_seq (pd_var (i := 0) (by kernel_rfl))) (pdg_name (i := 3) (by kernel_rfl) (by decide)) (pdss_one (pds_if (PDW.t (pdw_or (pdt_not (pdt_truth (pd_isi (by kernel_rfl) t.f_isinstance (by kernel_rfl) t.f_int (by decide +kernel) (by decide +kernel) (pd_var (i := 3) (by kernel_rfl))))) (pdw_or1 (pdt_truth (pd_isi (by kernel_rfl) t.f_isinstance (by kernel_rfl) t.f_bool (by decide +kernel) (by decide +kernel) (pd_var (i := 3) (by kernel_rfl))))))) (pdss_one (pds_ret pd_bl)) pdss_nil))) (pdss_one (pds_ret (pd_and (pd_c2 cmp_le cmp_le (pd_neg (pd_glI (by kernel_rfl) t.c_LIMIT)) (pd_var (i := 1) (by kernel_rfl)) (pd_glI (by kernel_rfl) t.c_LIMIT)) (pd_and (pd_c2 cmp_le cmp_le pd_int (pd_var (i := 2) (by kernel_rfl)) (pd_glI (by kernel_rfl) t.c_LIMIT)) (pd_one (pd_c cmp_eq (pd_gcd (by kernel_rfl) t.g_gcd (pda_cons (pd_var (i := 1) (by kernel_rfl)) (pda_cons (pd_var (i := 2) (by kernel_rfl)) pda_nil))) pd_int))))))))
abbrev s_lowest : Stmt := top 14
def N_lowest : List Str := ["part", "whole", "common"]
def f_lowest : Env → So := sSeq (sSet 2 (eN gcdD (aCons (eNrm (eVar 0)) (aCons (eNrm (eVar 1)) aNil)))) (sSeq (sIf (tstB (eBin ltD (eVar 1) (eC (.int 0)))) (sSet 2 (eUn negD (eVar 2))) sNx) (sRet (eTup (aCons (eFz (eBin fdivD (eVar 0) (eVar 2))) (aCons (eFz (eBin fdivD (eVar 1) (eVar 2))) aNil)))))
def sem_lowest : DefSem := semOf 3 [.d, .d] f_lowest
theorem sc_lowest : FnScope N_lowest ["part", "whole"] (defScope s_lowest) := ⟨rfl, rfl, rfl, by decide +kernel, rfl, by decide +kernel, by decide +kernel⟩
theorem ok_lowest {G : GG} (t : Fr G)  : PDSs ⟨G, N_lowest, defScope s_lowest, 0, fun _ => true, none, false, true⟩ (defBody s_lowest) f_lowest :=
  pdss_cons (pds_set (i := 2) (pd_gcd (by kernel_rfl) t.g_gcd (pda_cons (pd_var (i := 0) (by kernel_rfl)) (pda_cons (pd_var (i := 1) (by kernel_rfl)) pda_nil))) (by kernel_rfl)) (pdss_cons (pds_if (pdt_c cmp_lt (pd_var (i := 1) (by kernel_rfl)) pd_int) (pdss_one (pds_set (i := 2) (pd_neg (pd_var (i := 2) (by kernel_rfl))) (by kernel_rfl))) pdss_nil) (pdss_one (pds_ret (pd_tup (pda_keep (pd_fdiv (pd_var (i := 0) (by kernel_rfl)) (pd_var (i := 2) (by kernel_rfl))) (pda_keep (pd_fdiv (pd_var (i := 1) (by kernel_rfl)) (pd_var (i := 2) (by kernel_rfl))) pda_nil))))))
abbrev s_times : Stmt := top 15
def N_times : List Str := ["one", "other"]
def f_times : Env → So := sRet (eCall [.d, .d] sem_lowest (aCons (eFz (eBin mulD (eBin ixD (eVar 0) (eC (.int 0))) (eBin ixD (eVar 1) (eC (.int 0))))) (aCons (eFz (eBin mulD (eBin ixD (eVar 0) (eC (.int 1))) (eBin ixD (eVar 1) (eC (.int 1))))) aNil)))
def sem_times : DefSem := semOf 2 [.d, .d] f_times
theorem sc_times : FnScope N_times ["one", "other"] (defScope s_times) := ⟨rfl, rfl, rfl, by decide +kernel, rfl, by decide +kernel, by decide +kernel⟩
theorem ok_times {G : GG} (t : Fr G) (h_lowest : DefAt G "lowest" 1 3 [.d, .d] sem_lowest) : PDSs ⟨G, N_times, defScope s_times, 1, fun _ => true, none, false, true⟩ (defBody s_times) f_times :=
  pdss_one (pds_ret (pd_call h_lowest (Nat.le_of_ble_eq_true rfl) (by kernel_rfl) (pda_keep (pd_mul (pd_ix (pd_var (i := 0) (by kernel_rfl)) pd_int (fun _ _ => rfl)) (pd_ix (pd_var (i := 1) (by kernel_rfl)) pd_int (fun _ _ => rfl))) (pda_keep (pd_mul (pd_ix (pd_var (i := 0) (by kernel_rfl)) pd_int (fun _ _ => rfl)) (pd_ix (pd_var (i := 1) (by kernel_rfl)) pd_int (fun _ _ => rfl))) pda_nil))))
abbrev s_rounded : Stmt := top 16
def N_rounded : List Str := ["fraction", "way", "part", "whole", "low", "double"]
def f_rounded : Env → So := sSeq (sUn [gN 2, gN 3] (eVar 0)) (sSeq (sSet 4 (eBin fdivD (eVar 2) (eVar 3))) (sSeq (sIf (tstB (eBin eqD (eVar 1) (eC (.str "down")))) (sRet (eVar 4)) sNx) (sSeq (sIf (tstB (eBin eqD (eVar 1) (eC (.str "up")))) (sRet (eUn negD (eBin fdivD (eUn negD (eVar 2)) (eVar 3)))) sNx) (sSeq (sIf (tstB (eBin neD (eVar 1) (eC (.str "near")))) (sRaise "NotThere") sNx) (sSeq (sSet 5 (eBin mulD (eC (.int 2)) (eBin subD (eVar 2) (eBin mulD (eVar 4) (eVar 3))))) (sSeq (sIf (tOrS (tstB (eBin ltD (eVar 5) (eVar 3))) (tAndS (tstB (eBin eqD (eVar 5) (eVar 3))) (tstB (eBin eqD (eBin modD (eVar 4) (eC (.int 2))) (eC (.int 0)))))) (sRet (eVar 4)) sNx) (sRet (eBin addD (eVar 4) (eC (.int 1))))))))))
def sem_rounded : DefSem := semOf 6 [.d, .d] f_rounded
theorem sc_rounded : FnScope N_rounded ["fraction", "way"] (defScope s_rounded) := ⟨rfl, rfl, rfl, by decide +kernel, rfl, by decide +kernel, by decide +kernel⟩
theorem ok_rounded {G : GG} (t : Fr G)  : PDSs ⟨G, N_rounded, defScope s_rounded, 0, fun _ => true, none, false, true⟩ (defBody s_rounded) f_rounded :=
  pdss_cons (pds_un (vs := [2, 3]) (pd_var (i := 0) (by kernel_rfl)) (pdgc_tup (pdgs_cons (pdg_name (i := 2) (by kernel_rfl) (by decide)) (pdgs_cons (pdg_name (i := 3) (by kernel_rfl) (by decide)) pdgs_nil)))) (pdss_cons (pds_set (i := 4) (pd_fdiv (pd_var (i := 2) (by kernel_rfl)) (pd_var (i := 3) (by kernel_rfl))) (by kernel_rfl)) (pdss_cons (pds_if (pdt_c cmp_eq (pd_var (i := 1) (by kernel_rfl)) (pd_str (by kernel_rfl))) (pdss_one (pds_ret (pd_var (i := 4) (by kernel_rfl)))) pdss_nil) (pdss_cons (pds_if (pdt_c cmp_eq (pd_var (i := 1) (by kernel_rfl)) (pd_str (by kernel_rfl))) (pdss_one (pds_ret (pd_neg (pd_fdiv (pd_neg (pd_var (i := 2) (by kernel_rfl))) (pd_var (i := 3) (by kernel_rfl)))))) pdss_nil) (pdss_cons (pds_if (pdt_c cmp_ne (pd_var (i := 1) (by kernel_rfl)) (pd_str (by kernel_rfl))) (pdss_one (pds_raise t.e_NotThere (by kernel_rfl))) pdss_nil) (pdss_cons (pds_set (i := 5) (pd_mul pd_int (pd_sub (pd_var (i := 2) (by kernel_rfl)) (pd_mul (pd_var (i := 4) (by kernel_rfl)) (pd_var (i := 3) (by kernel_rfl))))) (by kernel_rfl)) (pdss_cons (pds_if (PDW.t (pdw_or (pdt_c cmp_lt (pd_var (i := 5) (by kernel_rfl)) (pd_var (i := 3) (by kernel_rfl))) (pdw_or1 (PDW.t (pdw_and (pdt_c cmp_eq (pd_var (i := 5) (by kernel_rfl)) (pd_var (i := 3) (by kernel_rfl))) (pdw_and1 (pdt_c cmp_eq (pd_mod (pd_var (i := 4) (by kernel_rfl)) pd_int) pd_int))))))) (pdss_one (pds_ret (pd_var (i := 4) (by kernel_rfl)))) pdss_nil) (pdss_one (pds_ret (pd_add (pd_var (i := 4) (by kernel_rfl)) pd_int)))))))))
abbrev s_is_money : Stmt := top 23
def N_is_money : List Str := ["value"]
def f_is_money : Env → So := sRet (eCall [.d, .d, .d] sem_is_number (aCons (eFz (eVar 0)) (aCons (eFz (eC (.int 0))) (aCons (eFz (eC (.int 1000000000000))) aNil))))
def sem_is_money : DefSem := semOf 1 [.d] f_is_money
theorem sc_is_money : FnScope N_is_money ["value"] (defScope s_is_money) := ⟨rfl, rfl, rfl, by decide +kernel, rfl, by decide +kernel, by decide +kernel⟩
theorem ok_is_money {G : GG} (t : Fr G) (h_is_number : DefAt G "is_number" 1 3 [.d, .d, .d] sem_is_number) : PDSs ⟨G, N_is_money, defScope s_is_money, 1, fun _ => true, none, false, true⟩ (defBody s_is_money) f_is_money :=
  pdss_one (pds_ret (pd_call h_is_number (Nat.le_of_ble_eq_true rfl) (by kernel_rfl) (pda_keep (pd_var (i := 0) (by kernel_rfl)) (pda_keep pd_int (pda_keep (pd_glI (by kernel_rfl) t.c_MOST_MONEY) pda_nil)))))
abbrev s_is_rate : Stmt := top 24
def N_is_rate : List Str := ["value"]
def f_is_rate : Env → So := sRet (eAndB (eCall [.d] sem_is_fraction (aCons (eFz (eVar 0)) aNil)) (eCh3 leD leD leD (eC (.int 0)) (eBin ixD (eVar 0) (eC (.int 0))) (eBin ixD (eVar 0) (eC (.int 1))) (eC (.int 10000))))
def sem_is_rate : DefSem := semOf 1 [.d] f_is_rate
theorem sc_is_rate : FnScope N_is_rate ["value"] (defScope s_is_rate) := ⟨rfl, rfl, rfl, by decide +kernel, rfl, by decide +kernel, by decide +kernel⟩
theorem ok_is_rate {G : GG} (t : Fr G) (h_is_fraction : DefAt G "is_fraction" 1 4 [.d] sem_is_fraction) : PDSs ⟨G, N_is_rate, defScope s_is_rate, 1, fun _ => true, none, false, true⟩ (defBody s_is_rate) f_is_rate :=
  pdss_one (pds_ret (pd_and (pd_call h_is_fraction (Nat.le_of_ble_eq_true rfl) (by kernel_rfl) (pda_keep (pd_var (i := 0) (by kernel_rfl)) pda_nil)) (pd_one (pd_c3 cmp_le cmp_le cmp_le pd_int (pd_ix (pd_var (i := 0) (by kernel_rfl)) pd_int (fun _ _ => rfl)) (pd_ix (pd_var (i := 0) (by kernel_rfl)) pd_int (fun _ _ => rfl)) (pd_glI (by kernel_rfl) t.c_MOST_WHOLE)))))
abbrev s_is_step : Stmt := top 25
def N_is_step : List Str := ["value"]
def f_is_step : Env → So := sSeq (sIf (tOrS (tNotS (tstV (eIsi "tuple" (eVar 0)))) (tstB (eBin neD (eN lenD (aCons (eNrm (eVar 0)) aNil)) (eC (.int 3))))) (sRet (eC (.bool false))) sNx) (sRet (eAndB (eCall [.d] sem_is_money (aCons (eFz (eBin ixD (eVar 0) (eC (.int 0)))) aNil)) (eAndB (eCall [.d] sem_is_money (aCons (eFz (eBin ixD (eVar 0) (eC (.int 1)))) aNil)) (eCall [.d] sem_is_rate (aCons (eFz (eBin ixD (eVar 0) (eC (.int 2)))) aNil)))))
def sem_is_step : DefSem := semOf 1 [.d] f_is_step
theorem sc_is_step : FnScope N_is_step ["value"] (defScope s_is_step) := ⟨rfl, rfl, rfl, by decide +kernel, rfl, by decide +kernel, by decide +kernel⟩
theorem ok_is_step {G : GG} (t : Fr G) (h_is_money : DefAt G "is_money" 2 1 [.d] sem_is_money) (h_is_rate : DefAt G "is_rate" 2 1 [.d] sem_is_rate) : PDSs ⟨G, N_is_step, defScope s_is_step, 2, fun _ => true, none, false, true⟩ (defBody s_is_step) f_is_step :=
  pdss_cons (pds_if (PDW.t (pdw_or (pdt_not (pdt_truth (pd_isi (by kernel_rfl) t.f_isinstance (by kernel_rfl) t.f_tuple (by decide +kernel) (by decide +kernel) (pd_var (i := 0) (by kernel_rfl))))) (pdw_or1 (pdt_c cmp_ne (pd_b bi_len (by kernel_rfl) t.f_len (pda_cons (pd_var (i := 0) (by kernel_rfl)) pda_nil)) pd_int)))) (pdss_one (pds_ret pd_bl)) pdss_nil) (pdss_one (pds_ret (pd_and (pd_call h_is_money (Nat.le_of_ble_eq_true rfl) (by kernel_rfl) (pda_keep (pd_ix (pd_var (i := 0) (by kernel_rfl)) pd_int (fun _ _ => rfl)) pda_nil)) (pd_and (pd_call h_is_money (Nat.le_of_ble_eq_true rfl) (by kernel_rfl) (pda_keep (pd_ix (pd_var (i := 0) (by kernel_rfl)) pd_int (fun _ _ => rfl)) pda_nil)) (pd_one (pd_call h_is_rate (Nat.le_of_ble_eq_true rfl) (by kernel_rfl) (pda_keep (pd_ix (pd_var (i := 0) (by kernel_rfl)) pd_int (fun _ _ => rfl)) pda_nil)))))))
abbrev s_is_tariff : Stmt := top 26
def N_is_tariff : List Str := ["value", "way", "steps", "step", "k"]
def f_is_tariff : Env → So := sSeq (sIf (tOrS (tNotS (tstV (eIsi "tuple" (eVar 0)))) (tstB (eBin neD (eN lenD (aCons (eNrm (eVar 0)) aNil)) (eC (.int 2))))) (sRet (eC (.bool false))) sNx) (sSeq (sUn [gN 1, gN 2] (eVar 0)) (sSeq (sIf (tOrS (tNotS (tstV (eIsi "str" (eVar 1)))) (tOrS (tstB (eBin notInD (eVar 1) (eC d_WAYS))) (tNotS (tstV (eIsi "tuple" (eVar 2)))))) (sRet (eC (.bool false))) sNx) (sSeq (sIf (tOrS (tNotS (tstB (eCh2 leD leD (eC (.int 1)) (eN lenD (aCons (eNrm (eVar 2)) aNil)) (eC (.int 12))))) (tOrS (tNotS (tstV (eGen false [3] (iSq (eVar 2)) (gN 3) tYesS (eCall [.d] sem_is_step (aCons (eFz (eVar 3)) aNil))))) (tstB (eBin neD (eBin ixD (eBin ixD (eVar 2) (eC (.int 0))) (eC (.int 0))) (eC (.int 0)))))) (sRet (eC (.bool false))) sNx) (sRet (eGen false [4] (iR1 (aCons (eNrm (eBin subD (eN lenD (aCons (eNrm (eVar 2)) aNil)) (eC (.int 1)))) aNil)) (gN 4) tYesS (eBin ltD (eBin ixD (eBin ixD (eVar 2) (eVar 4)) (eC (.int 0))) (eBin ixD (eBin ixD (eVar 2) (eBin addD (eVar 4) (eC (.int 1)))) (eC (.int 0)))))))))
def sem_is_tariff : DefSem := semOf 5 [.d] f_is_tariff
theorem sc_is_tariff : FnScope N_is_tariff ["value"] (defScope s_is_tariff) := ⟨rfl, rfl, rfl, by decide +kernel, rfl, by decide +kernel, by decide +kernel⟩
theorem ok_is_tariff {G : GG} {c P : Addr} (t : Fr G) (h_is_step : DefAt G "is_step" 3 1 [.d] sem_is_step) : PDSs ⟨G, N_is_tariff, defScope s_is_tariff, 4, fun _ => true, some (c, P), false, true⟩ (defBody s_is_tariff) f_is_tariff :=
  pdss_cons (pds_if (PDW.t (pdw_or (pdt_not (pdt_truth (pd_isi (by kernel_rfl) t.f_isinstance (by kernel_rfl) t.f_tuple (by decide +kernel) (by decide +kernel) (pd_var (i := 0) (by kernel_rfl))))) (pdw_or1 (pdt_c cmp_ne (pd_b bi_len (by kernel_rfl) t.f_len (pda_cons (pd_var (i := 0) (by kernel_rfl)) pda_nil)) pd_int)))) (pdss_one (pds_ret pd_bl)) pdss_nil) (pdss_cons (pds_un (vs := [1, 2]) (pd_var (i := 0) (by kernel_rfl)) (pdgc_tup (pdgs_cons (pdg_name (i := 1) (by kernel_rfl) (by decide)) (pdgs_cons (pdg_name (i := 2) (by kernel_rfl) (by decide)) pdgs_nil)))) (pdss_cons (pds_if (PDW.t (pdw_or (pdt_not (pdt_truth (pd_isi (by kernel_rfl) t.f_isinstance (by kernel_rfl) t.f_str (by decide +kernel) (by decide +kernel) (pd_var (i := 1) (by kernel_rfl))))) (pdw_or (pdt_c cmp_notIn (pd_var (i := 1) (by kernel_rfl)) (pd_glD (by kernel_rfl) t.c_WAYS)) (pdw_or1 (pdt_not (pdt_truth (pd_isi (by kernel_rfl) t.f_isinstance (by kernel_rfl) t.f_tuple (by decide +kernel) (by decide +kernel) (pd_var (i := 2) (by kernel_rfl))))))))) (pdss_one (pds_ret pd_bl)) pdss_nil) (pdss_cons (pds_if (PDW.t (pdw_or (pdt_not (pdt_c2 cmp_le cmp_le pd_int (pd_b bi_len (by kernel_rfl) t.f_len (pda_cons (pd_var (i := 2) (by kernel_rfl)) pda_nil)) pd_int)) (pdw_or (pdt_not (pdt_truth (pd_all (own := [("step", 3)]) (k := 3) rfl rfl (by kernel_rfl) t.f_all (by kernel_rfl) (pdi_seq (pd_var (i := 2) (by kernel_rfl))) (pdg_name (i := 3) (by kernel_rfl) (by decide)) pdts_nil (pd_call h_is_step (Nat.le_of_ble_eq_true rfl) (by kernel_rfl) (pda_keep (pd_var (i := 3) (by kernel_rfl)) pda_nil))))) (pdw_or1 (pdt_c cmp_ne (pd_ix (pd_ix (pd_var (i := 2) (by kernel_rfl)) pd_int (fun _ _ => rfl)) pd_int (fun _ _ => rfl)) pd_int))))) (pdss_one (pds_ret pd_bl)) pdss_nil) (pdss_one (pds_ret (pd_all (own := [("k", 4)]) (k := 3) rfl rfl (by kernel_rfl) t.f_all (by kernel_rfl) (pdi_range1 (by kernel_rfl) t.f_range (pda_cons (pd_sub (pd_b bi_len (by kernel_rfl) t.f_len (pda_cons (pd_var (i := 2) (by kernel_rfl)) pda_nil)) pd_int) pda_nil)) (pdg_name (i := 4) (by kernel_rfl) (by decide)) pdts_nil (pd_c cmp_lt (pd_ix (pd_ix (pd_var (i := 2) (by kernel_rfl)) (pd_var (i := 4) (by kernel_rfl)) (fun _ _ => rfl)) pd_int (fun _ _ => rfl)) (pd_ix (pd_ix (pd_var (i := 2) (by kernel_rfl)) (pd_add (pd_var (i := 4) (by kernel_rfl)) pd_int) (fun _ _ => rfl)) pd_int (fun _ _ => rfl)))))))))
abbrev s_is_table : Stmt := top 27
def N_is_table : List Str := ["value", "pair", "k"]
def f_is_table : Env → So := sSeq (sIf (tOrS (tNotS (tstV (eIsi "tuple" (eVar 0)))) (tstB (eBin gtD (eN lenD (aCons (eNrm (eVar 0)) aNil)) (eC (.int 12))))) (sRet (eC (.bool false))) sNx) (sSeq (sFor (iSq (eVar 0)) (gN 1) (sIf (tOrS (tNotS (tstV (eIsi "tuple" (eVar 1)))) (tOrS (tstB (eBin neD (eN lenD (aCons (eNrm (eVar 1)) aNil)) (eC (.int 2)))) (tOrS (tNotS (tstV (eCall [.d] sem_is_name (aCons (eFz (eBin ixD (eVar 1) (eC (.int 0)))) aNil)))) (tNotS (tstV (eCall [.d] sem_is_tariff (aCons (eFz (eBin ixD (eVar 1) (eC (.int 1)))) aNil))))))) (sRet (eC (.bool false))) sNx)) (sRet (eGen false [2] (iR1 (aCons (eNrm (eBin subD (eN lenD (aCons (eNrm (eVar 0)) aNil)) (eC (.int 1)))) aNil)) (gN 2) tYesS (eBin ltD (eBin ixD (eBin ixD (eVar 0) (eVar 2)) (eC (.int 0))) (eBin ixD (eBin ixD (eVar 0) (eBin addD (eVar 2) (eC (.int 1)))) (eC (.int 0)))))))
def sem_is_table : DefSem := semOf 3 [.d] f_is_table
theorem sc_is_table : FnScope N_is_table ["value"] (defScope s_is_table) := ⟨rfl, rfl, rfl, by decide +kernel, rfl, by decide +kernel, by decide +kernel⟩
theorem ok_is_table {G : GG} {c P : Addr} (t : Fr G) (h_is_name : DefAt G "is_name" 2 2 [.d] sem_is_name) (h_is_tariff : DefAt G "is_tariff" 5 5 [.d] sem_is_tariff) : PDSs ⟨G, N_is_table, defScope s_is_table, 5, fun _ => true, some (c, P), false, true⟩ (defBody s_is_table) f_is_table :=
  pdss_cons (pds_if (PDW.t (pdw_or (pdt_not (pdt_truth (pd_isi (by kernel_rfl) t.f_isinstance (by kernel_rfl) t.f_tuple (by decide +kernel) (by decide +kernel) (pd_var (i := 0) (by kernel_rfl))))) (pdw_or1 (pdt_c cmp_gt (pd_b bi_len (by kernel_rfl) t.f_len (pda_cons (pd_var (i := 0) (by kernel_rfl)) pda_nil)) pd_int)))) (pdss_one (pds_ret pd_bl)) pdss_nil) (pdss_cons (pds_for (vs := [1]) (pdi_seq (pd_var (i := 0) (by kernel_rfl))) (pdg_name (i := 1) (by kernel_rfl) (by decide)) (pdss_one (pds_if (PDW.t (pdw_or (pdt_not (pdt_truth (pd_isi (by kernel_rfl) t.f_isinstance (by kernel_rfl) t.f_tuple (by decide +kernel) (by decide +kernel) (pd_var (i := 1) (by kernel_rfl))))) (pdw_or (pdt_c cmp_ne (pd_b bi_len (by kernel_rfl) t.f_len (pda_cons (pd_var (i := 1) (by kernel_rfl)) pda_nil)) pd_int) (pdw_or (pdt_not (pdt_truth (pd_call h_is_name (Nat.le_of_ble_eq_true rfl) (by kernel_rfl) (pda_keep (pd_ix (pd_var (i := 1) (by kernel_rfl)) pd_int (fun _ _ => rfl)) pda_nil)))) (pdw_or1 (pdt_not (pdt_truth (pd_call h_is_tariff (Nat.le_of_ble_eq_true rfl) (by kernel_rfl) (pda_keep (pd_ix (pd_var (i := 1) (by kernel_rfl)) pd_int (fun _ _ => rfl)) pda_nil))))))))) (pdss_one (pds_ret pd_bl)) pdss_nil))) (pdss_one (pds_ret (pd_all (own := [("k", 2)]) (k := 4) rfl rfl (by kernel_rfl) t.f_all (by kernel_rfl) (pdi_range1 (by kernel_rfl) t.f_range (pda_cons (pd_sub (pd_b bi_len (by kernel_rfl) t.f_len (pda_cons (pd_var (i := 0) (by kernel_rfl)) pda_nil)) pd_int) pda_nil)) (pdg_name (i := 2) (by kernel_rfl) (by decide)) pdts_nil (pd_c cmp_lt (pd_ix (pd_ix (pd_var (i := 0) (by kernel_rfl)) (pd_var (i := 2) (by kernel_rfl)) (fun _ _ => rfl)) pd_int (fun _ _ => rfl)) (pd_ix (pd_ix (pd_var (i := 0) (by kernel_rfl)) (pd_add (pd_var (i := 2) (by kernel_rfl)) pd_int) (fun _ _ => rfl)) pd_int (fun _ _ => rfl)))))))
abbrev s_is_row : Stmt := top 28
def N_is_row : List Str := ["value"]
def f_is_row : Env → So := sSeq (sIf (tOrS (tNotS (tstV (eIsi "tuple" (eVar 0)))) (tstB (eBin neD (eN lenD (aCons (eNrm (eVar 0)) aNil)) (eC (.int 2))))) (sRet (eC (.bool false))) sNx) (sRet (eAndB (eCall [.d, .d, .d] sem_is_number (aCons (eFz (eBin ixD (eVar 0) (eC (.int 0)))) (aCons (eFz (eC (.int 0))) (aCons (eFz (eC (.int 1000000))) aNil)))) (eCall [.d] sem_is_table (aCons (eFz (eBin ixD (eVar 0) (eC (.int 1)))) aNil))))
def sem_is_row : DefSem := semOf 1 [.d] f_is_row
theorem sc_is_row : FnScope N_is_row ["value"] (defScope s_is_row) := ⟨rfl, rfl, rfl, by decide +kernel, rfl, by decide +kernel, by decide +kernel⟩
theorem ok_is_row {G : GG} (t : Fr G) (h_is_number : DefAt G "is_number" 1 3 [.d, .d, .d] sem_is_number) (h_is_table : DefAt G "is_table" 6 3 [.d] sem_is_table) : PDSs ⟨G, N_is_row, defScope s_is_row, 6, fun _ => true, none, false, true⟩ (defBody s_is_row) f_is_row :=
  pdss_cons (pds_if (PDW.t (pdw_or (pdt_not (pdt_truth (pd_isi (by kernel_rfl) t.f_isinstance (by kernel_rfl) t.f_tuple (by decide +kernel) (by decide +kernel) (pd_var (i := 0) (by kernel_rfl))))) (pdw_or1 (pdt_c cmp_ne (pd_b bi_len (by kernel_rfl) t.f_len (pda_cons (pd_var (i := 0) (by kernel_rfl)) pda_nil)) pd_int)))) (pdss_one (pds_ret pd_bl)) pdss_nil) (pdss_one (pds_ret (pd_and (pd_call h_is_number (Nat.le_of_ble_eq_true rfl) (by kernel_rfl) (pda_keep (pd_ix (pd_var (i := 0) (by kernel_rfl)) pd_int (fun _ _ => rfl)) (pda_keep pd_int (pda_keep (pd_glI (by kernel_rfl) t.c_LAST) pda_nil)))) (pd_one (pd_call h_is_table (Nat.le_of_ble_eq_true rfl) (by kernel_rfl) (pda_keep (pd_ix (pd_var (i := 0) (by kernel_rfl)) pd_int (fun _ _ => rfl)) pda_nil))))))
abbrev s_is_fee_book : Stmt := top 29
def N_is_fee_book : List Str := ["value", "way", "rows", "row", "k"]
def f_is_fee_book : Env → So := sSeq (sIf (tOrS (tNotS (tstV (eIsi "tuple" (eVar 0)))) (tstB (eBin neD (eN lenD (aCons (eNrm (eVar 0)) aNil)) (eC (.int 2))))) (sRet (eC (.bool false))) sNx) (sSeq (sUn [gN 1, gN 2] (eVar 0)) (sSeq (sIf (tOrS (tNotS (tstV (eIsi "str" (eVar 1)))) (tOrS (tstB (eBin notInD (eVar 1) (eC d_BOOK_WAYS))) (tNotS (tstV (eIsi "tuple" (eVar 2)))))) (sRet (eC (.bool false))) sNx) (sSeq (sIf (tOrS (tNotS (tstB (eCh2 leD leD (eC (.int 1)) (eN lenD (aCons (eNrm (eVar 2)) aNil)) (eC (.int 12))))) (tOrS (tNotS (tstV (eGen false [3] (iSq (eVar 2)) (gN 3) tYesS (eCall [.d] sem_is_row (aCons (eFz (eVar 3)) aNil))))) (tstB (eBin neD (eBin ixD (eBin ixD (eVar 2) (eC (.int 0))) (eC (.int 0))) (eC (.int 0)))))) (sRet (eC (.bool false))) sNx) (sRet (eGen false [4] (iR1 (aCons (eNrm (eBin subD (eN lenD (aCons (eNrm (eVar 2)) aNil)) (eC (.int 1)))) aNil)) (gN 4) tYesS (eBin ltD (eBin ixD (eBin ixD (eVar 2) (eVar 4)) (eC (.int 0))) (eBin ixD (eBin ixD (eVar 2) (eBin addD (eVar 4) (eC (.int 1)))) (eC (.int 0)))))))))
def sem_is_fee_book : DefSem := semOf 5 [.d] f_is_fee_book
theorem sc_is_fee_book : FnScope N_is_fee_book ["value"] (defScope s_is_fee_book) := ⟨rfl, rfl, rfl, by decide +kernel, rfl, by decide +kernel, by decide +kernel⟩
theorem ok_is_fee_book {G : GG} {c P : Addr} (t : Fr G) (h_is_row : DefAt G "is_row" 7 1 [.d] sem_is_row) : PDSs ⟨G, N_is_fee_book, defScope s_is_fee_book, 8, fun _ => true, some (c, P), false, true⟩ (defBody s_is_fee_book) f_is_fee_book :=
  pdss_cons (pds_if (PDW.t (pdw_or (pdt_not (pdt_truth (pd_isi (by kernel_rfl) t.f_isinstance (by kernel_rfl) t.f_tuple (by decide +kernel) (by decide +kernel) (pd_var (i := 0) (by kernel_rfl))))) (pdw_or1 (pdt_c cmp_ne (pd_b bi_len (by kernel_rfl) t.f_len (pda_cons (pd_var (i := 0) (by kernel_rfl)) pda_nil)) pd_int)))) (pdss_one (pds_ret pd_bl)) pdss_nil) (pdss_cons (pds_un (vs := [1, 2]) (pd_var (i := 0) (by kernel_rfl)) (pdgc_tup (pdgs_cons (pdg_name (i := 1) (by kernel_rfl) (by decide)) (pdgs_cons (pdg_name (i := 2) (by kernel_rfl) (by decide)) pdgs_nil)))) (pdss_cons (pds_if (PDW.t (pdw_or (pdt_not (pdt_truth (pd_isi (by kernel_rfl) t.f_isinstance (by kernel_rfl) t.f_str (by decide +kernel) (by decide +kernel) (pd_var (i := 1) (by kernel_rfl))))) (pdw_or (pdt_c cmp_notIn (pd_var (i := 1) (by kernel_rfl)) (pd_glD (by kernel_rfl) t.c_BOOK_WAYS)) (pdw_or1 (pdt_not (pdt_truth (pd_isi (by kernel_rfl) t.f_isinstance (by kernel_rfl) t.f_tuple (by decide +kernel) (by decide +kernel) (pd_var (i := 2) (by kernel_rfl))))))))) (pdss_one (pds_ret pd_bl)) pdss_nil) (pdss_cons (pds_if (PDW.t (pdw_or (pdt_not (pdt_c2 cmp_le cmp_le pd_int (pd_b bi_len (by kernel_rfl) t.f_len (pda_cons (pd_var (i := 2) (by kernel_rfl)) pda_nil)) pd_int)) (pdw_or (pdt_not (pdt_truth (pd_all (own := [("row", 3)]) (k := 7) rfl rfl (by kernel_rfl) t.f_all (by kernel_rfl) (pdi_seq (pd_var (i := 2) (by kernel_rfl))) (pdg_name (i := 3) (by kernel_rfl) (by decide)) pdts_nil (pd_call h_is_row (Nat.le_of_ble_eq_true rfl) (by kernel_rfl) (pda_keep (pd_var (i := 3) (by kernel_rfl)) pda_nil))))) (pdw_or1 (pdt_c cmp_ne (pd_ix (pd_ix (pd_var (i := 2) (by kernel_rfl)) pd_int (fun _ _ => rfl)) pd_int (fun _ _ => rfl)) pd_int))))) (pdss_one (pds_ret pd_bl)) pdss_nil) (pdss_one (pds_ret (pd_all (own := [("k", 4)]) (k := 7) rfl rfl (by kernel_rfl) t.f_all (by kernel_rfl) (pdi_range1 (by kernel_rfl) t.f_range (pda_cons (pd_sub (pd_b bi_len (by kernel_rfl) t.f_len (pda_cons (pd_var (i := 2) (by kernel_rfl)) pda_nil)) pd_int) pda_nil)) (pdg_name (i := 4) (by kernel_rfl) (by decide)) pdts_nil (pd_c cmp_lt (pd_ix (pd_ix (pd_var (i := 2) (by kernel_rfl)) (pd_var (i := 4) (by kernel_rfl)) (fun _ _ => rfl)) pd_int (fun _ _ => rfl)) (pd_ix (pd_ix (pd_var (i := 2) (by kernel_rfl)) (pd_add (pd_var (i := 4) (by kernel_rfl)) pd_int) (fun _ _ => rfl)) pd_int (fun _ _ => rfl)))))))))
abbrev s_fee_in : Stmt := top 30
def N_fee_in : List Str := ["way", "step", "value", "low", "base", "rate"]
def f_fee_in : Env → So := sSeq (sUn [gN 3, gN 4, gN 5] (eVar 1)) (sRet (eBin addD (eVar 4) (eCall [.d, .d] sem_rounded (aCons (eFz (eCall [.d, .d] sem_times (aCons (eFz (eVar 5)) (aCons (eFz (eTup (aCons (eFz (eBin subD (eVar 2) (eVar 3))) (aCons (eFz (eC (.int 1))) aNil)))) aNil)))) (aCons (eFz (eVar 0)) aNil)))))
def sem_fee_in : DefSem := semOf 6 [.d, .d, .d] f_fee_in
theorem sc_fee_in : FnScope N_fee_in ["way", "step", "value"] (defScope s_fee_in) := ⟨rfl, rfl, rfl, by decide +kernel, rfl, by decide +kernel, by decide +kernel⟩
theorem ok_fee_in {G : GG} (t : Fr G) (h_times : DefAt G "times" 2 2 [.d, .d] sem_times) (h_rounded : DefAt G "rounded" 1 6 [.d, .d] sem_rounded) : PDSs ⟨G, N_fee_in, defScope s_fee_in, 2, fun _ => true, none, false, true⟩ (defBody s_fee_in) f_fee_in :=
  pdss_cons (pds_un (vs := [3, 4, 5]) (pd_var (i := 1) (by kernel_rfl)) (pdgc_tup (pdgs_cons (pdg_name (i := 3) (by kernel_rfl) (by decide)) (pdgs_cons (pdg_name (i := 4) (by kernel_rfl) (by decide)) (pdgs_cons (pdg_name (i := 5) (by kernel_rfl) (by decide)) pdgs_nil))))) (pdss_one (pds_ret (pd_add (pd_var (i := 4) (by kernel_rfl)) (pd_call h_rounded (Nat.le_of_ble_eq_true rfl) (by kernel_rfl) (pda_keep (pd_call h_times (Nat.le_of_ble_eq_true rfl) (by kernel_rfl) (pda_keep (pd_var (i := 5) (by kernel_rfl)) (pda_keep (pd_tup (pda_keep (pd_sub (pd_var (i := 2) (by kernel_rfl)) (pd_var (i := 3) (by kernel_rfl))) (pda_keep pd_int pda_nil))) pda_nil))) (pda_keep (pd_var (i := 0) (by kernel_rfl)) pda_nil))))))
abbrev s_fee_of : Stmt := top 31
def N_fee_of : List Str := ["tariff", "value", "way", "steps", "found", "step"]
def f_fee_of : Env → So := sSeq (sUn [gN 2, gN 3] (eVar 0)) (sSeq (sSet 4 (eBin ixD (eVar 3) (eC (.int 0)))) (sSeq (sFor (iSq (eVar 3)) (gN 5) (sIf (tstB (eBin leD (eBin ixD (eVar 5) (eC (.int 0))) (eVar 1))) (sSet 4 (eVar 5)) sNx)) (sRet (eCall [.d, .d, .d] sem_fee_in (aCons (eFz (eVar 2)) (aCons (eFz (eVar 4)) (aCons (eFz (eVar 1)) aNil)))))))
def sem_fee_of : DefSem := semOf 6 [.d, .d] f_fee_of
theorem sc_fee_of : FnScope N_fee_of ["tariff", "value"] (defScope s_fee_of) := ⟨rfl, rfl, rfl, by decide +kernel, rfl, by decide +kernel, by decide +kernel⟩
theorem ok_fee_of {G : GG} (t : Fr G) (h_fee_in : DefAt G "fee_in" 3 6 [.d, .d, .d] sem_fee_in) : PDSs ⟨G, N_fee_of, defScope s_fee_of, 3, fun _ => true, none, false, true⟩ (defBody s_fee_of) f_fee_of :=
  pdss_cons (pds_un (vs := [2, 3]) (pd_var (i := 0) (by kernel_rfl)) (pdgc_tup (pdgs_cons (pdg_name (i := 2) (by kernel_rfl) (by decide)) (pdgs_cons (pdg_name (i := 3) (by kernel_rfl) (by decide)) pdgs_nil)))) (pdss_cons (pds_set (i := 4) (pd_ix (pd_var (i := 3) (by kernel_rfl)) pd_int (fun _ _ => rfl)) (by kernel_rfl)) (pdss_cons (pds_for (vs := [5]) (pdi_seq (pd_var (i := 3) (by kernel_rfl))) (pdg_name (i := 5) (by kernel_rfl) (by decide)) (pdss_one (pds_if (pdt_c cmp_le (pd_ix (pd_var (i := 5) (by kernel_rfl)) pd_int (fun _ _ => rfl)) (pd_var (i := 1) (by kernel_rfl))) (pdss_one (pds_set (i := 4) (pd_var (i := 5) (by kernel_rfl)) (by kernel_rfl))) pdss_nil))) (pdss_one (pds_ret (pd_call h_fee_in (Nat.le_of_ble_eq_true rfl) (by kernel_rfl) (pda_keep (pd_var (i := 2) (by kernel_rfl)) (pda_keep (pd_var (i := 4) (by kernel_rfl)) (pda_keep (pd_var (i := 1) (by kernel_rfl)) pda_nil))))))))
abbrev s_tariff_on : Stmt := top 32
def N_tariff_on : List Str := ["book", "name", "day", "table", "first", "other", "word", "tariff"]
def f_tariff_on : Env → So := sSeq (sSet 3 (eTup aNil)) (sSeq (sFor (iSq (eBin ixD (eVar 0) (eC (.int 1)))) (gT [gN 4, gN 5]) (sIf (tstB (eBin leD (eVar 4) (eVar 2))) (sSet 3 (eVar 5)) sNx)) (sSeq (sFor (iSq (eVar 3)) (gT [gN 6, gN 7]) (sIf (tstB (eBin eqD (eVar 6) (eVar 1))) (sRet (eVar 7)) sNx)) (sRet (eC .none))))
def sem_tariff_on : DefSem := semOf 8 [.d, .d, .d] f_tariff_on
theorem sc_tariff_on : FnScope N_tariff_on ["book", "name", "day"] (defScope s_tariff_on) := ⟨rfl, rfl, rfl, by decide +kernel, rfl, by decide +kernel, by decide +kernel⟩
theorem ok_tariff_on {G : GG} (t : Fr G)  : PDSs ⟨G, N_tariff_on, defScope s_tariff_on, 0, fun _ => true, none, false, true⟩ (defBody s_tariff_on) f_tariff_on :=
  pdss_cons (pds_set (i := 3) (pd_tup pda_nil) (by kernel_rfl)) (pdss_cons (pds_for (vs := [4, 5]) (pdi_seq (pd_ix (pd_var (i := 0) (by kernel_rfl)) pd_int (fun _ _ => rfl))) (pdg_tup (pdgs_cons (pdg_name (i := 4) (by kernel_rfl) (by decide)) (pdgs_cons (pdg_name (i := 5) (by kernel_rfl) (by decide)) pdgs_nil))) (pdss_one (pds_if (pdt_c cmp_le (pd_var (i := 4) (by kernel_rfl)) (pd_var (i := 2) (by kernel_rfl))) (pdss_one (pds_set (i := 3) (pd_var (i := 5) (by kernel_rfl)) (by kernel_rfl))) pdss_nil))) (pdss_cons (pds_for (vs := [6, 7]) (pdi_seq (pd_var (i := 3) (by kernel_rfl))) (pdg_tup (pdgs_cons (pdg_name (i := 6) (by kernel_rfl) (by decide)) (pdgs_cons (pdg_name (i := 7) (by kernel_rfl) (by decide)) pdgs_nil))) (pdss_one (pds_if (pdt_c cmp_eq (pd_var (i := 6) (by kernel_rfl)) (pd_var (i := 1) (by kernel_rfl))) (pdss_one (pds_ret (pd_var (i := 7) (by kernel_rfl)))) pdss_nil))) (pdss_one (pds_ret pd_non))))
abbrev s_fee_due : Stmt := top 33
def N_fee_due : List Str := ["book", "name", "value", "begun", "filed", "days", "tariffs", "fees", "day", "tariff"]
def f_fee_due : Env → So := sSeq (sSet 5 (eDix ["old", "new", "kind"] (aCons (eFz (eLst (aCons (eFz (eVar 3)) aNil))) (aCons (eFz (eLst (aCons (eFz (eVar 4)) aNil))) (aCons (eFz (eLst (aCons (eFz (eVar 3)) (aCons (eFz (eVar 4)) aNil)))) aNil))) (eBin ixD (eVar 0) (eC (.int 0))))) (sSeq (sSet 6 (eLc [8] (iSq (eVar 5)) (gN 8) tYesS (eCall [.d, .d, .d] sem_tariff_on (aCons (eFz (eVar 0)) (aCons (eFz (eVar 1)) (aCons (eFz (eVar 8)) aNil)))))) (sSeq (sSet 7 (eLc [9] (iSq (eVar 6)) (gN 9) (tstB (eBin isNotD (eVar 9) (eC .none))) (eCall [.d, .d] sem_fee_of (aCons (eFz (eVar 9)) (aCons (eFz (eVar 2)) aNil))))) (sSeq (sIf (tstB (eBin eqD (eVar 7) (eLst aNil))) (sRaise "NotThere") sNx) (sSeq (sIf (tstB (eBin ltD (eVar 4) (eVar 3))) (sRaise "Refused") sNx) (sRet (eN minLD (aCons (eNrm (eVar 7)) aNil)))))))
def sem_fee_due : DefSem := semOf 10 [.d, .d, .d, .d, .d] f_fee_due
theorem sc_fee_due : FnScope N_fee_due ["book", "name", "value", "begun", "filed"] (defScope s_fee_due) := ⟨rfl, rfl, rfl, by decide +kernel, rfl, by decide +kernel, by decide +kernel⟩
theorem ok_fee_due {G : GG} (t : Fr G) (h_fee_of : DefAt G "fee_of" 4 6 [.d, .d] sem_fee_of) (h_tariff_on : DefAt G "tariff_on" 1 8 [.d, .d, .d] sem_tariff_on) : PDSs ⟨G, N_fee_due, defScope s_fee_due, 4, fun _ => true, none, false, true⟩ (defBody s_fee_due) f_fee_due :=
  pdss_cons (pds_set (i := 5) (pd_dix rfl (pdp_cons (pd_lst (pda_keep (pd_var (i := 3) (by kernel_rfl)) pda_nil)) (pdp_cons (pd_lst (pda_keep (pd_var (i := 4) (by kernel_rfl)) pda_nil)) (pdp_cons (pd_lst (pda_keep (pd_var (i := 3) (by kernel_rfl)) (pda_keep (pd_var (i := 4) (by kernel_rfl)) pda_nil))) pdp_nil))) (pd_ix (pd_var (i := 0) (by kernel_rfl)) pd_int (fun _ _ => rfl)) (fun _ _ => rfl) rfl rfl (List.cons_ne_nil _ _) (Nat.le_of_ble_eq_true rfl) (Nat.le_of_ble_eq_true rfl)) (by kernel_rfl)) (pdss_cons (pds_setLc (i := 6) (own := [("day", 8)]) (by kernel_rfl) (pdi_seq (pd_var (i := 5) (by kernel_rfl))) (by kernel_rfl) (pdg_name (i := 8) (by kernel_rfl) (by decide)) pdts_nil (pd_call h_tariff_on (Nat.le_of_ble_eq_true rfl) (by kernel_rfl) (pda_keep (pd_var (i := 0) (by kernel_rfl)) (pda_keep (pd_var (i := 1) (by kernel_rfl)) (pda_keep (pd_var (i := 8) (by kernel_rfl)) pda_nil))))) (pdss_cons (pds_setLc (i := 7) (own := [("tariff", 9)]) (by kernel_rfl) (pdi_seq (pd_var (i := 6) (by kernel_rfl))) (by kernel_rfl) (pdg_name (i := 9) (by kernel_rfl) (by decide)) (pdts_one (pdt_c cmp_isNot (pd_var (i := 9) (by kernel_rfl)) pd_non)) (pd_call h_fee_of (Nat.le_of_ble_eq_true rfl) (by kernel_rfl) (pda_keep (pd_var (i := 9) (by kernel_rfl)) (pda_keep (pd_var (i := 2) (by kernel_rfl)) pda_nil)))) (pdss_cons (pds_if (pdt_c cmp_eq (pd_var (i := 7) (by kernel_rfl)) (pd_lst pda_nil)) (pdss_one (pds_raise t.e_NotThere (by kernel_rfl))) pdss_nil) (pdss_cons (pds_if (pdt_c cmp_lt (pd_var (i := 4) (by kernel_rfl)) (pd_var (i := 3) (by kernel_rfl))) (pdss_one (pds_raise t.e_Refused (by kernel_rfl))) pdss_nil) (pdss_one (pds_ret (pd_b bi_minL (by kernel_rfl) t.f_min (pda_cons (pd_var (i := 7) (by kernel_rfl)) pda_nil))))))))
abbrev s__law_open : Stmt := top 35
def N__law_open : List Str := ["script", "cells", "cell"]
def f__law_open : Env → So := sSeq (sSet 1 (eLc [2] (iSq (eSc 0)) (gN 2) tYesS (eN absD (aCons (eNrm (eN intD (aCons (eNrm (eVar 2)) aNil))) aNil)))) (sRet (eLst (aCons (eFz (eC (.int 0))) (aCons (eFz (eC (.int 0))) (aCons (eFz (eBin addD (eVar 1) (eLst (aCons (eFz (eC (.int 0))) aNil)))) aNil)))))
def sem__law_open : DefSem := semOf 3 [.sc] f__law_open
theorem sc__law_open : FnScope N__law_open ["script"] (defScope s__law_open) := ⟨rfl, rfl, rfl, by decide +kernel, rfl, by decide +kernel, by decide +kernel⟩
theorem ok__law_open {G : GG} (t : Fr G)  : PDSs ⟨G, N__law_open, defScope s__law_open, 0, fun _ => true, none, false, true⟩ (defBody s__law_open) f__law_open :=
  pdss_cons (pds_setLc (i := 1) (own := [("cell", 2)]) (by kernel_rfl) (pdi_seq (pd_scSl (i := 0) (by kernel_rfl))) (by kernel_rfl) (pdg_name (i := 2) (by kernel_rfl) (by decide)) pdts_nil (pd_b bi_abs (by kernel_rfl) t.f_abs (pda_cons (pd_b bi_int (by kernel_rfl) t.f_int (pda_cons (pd_var (i := 2) (by kernel_rfl)) pda_nil)) pda_nil))) (pdss_one (pds_ret (pd_lst (pda_keep pd_int (pda_keep pd_int (pda_keep (pd_add (pd_var (i := 1) (by kernel_rfl)) (pd_lst (pda_keep pd_int pda_nil))) pda_nil))))))
abbrev s__law_mixed : Stmt := top 36
def N__law_mixed : List Str := ["cell", "turn", "number"]
def f__law_mixed : Env → So := sSeq (sSet 2 (eBin modD (eBin addD (eBin addD (eBin mulD (eBin modD (eVar 0) (eBin subD (eBin powD (eC (.int 2)) (eC (.int 61))) (eC (.int 1)))) (eC (.int 6364136223846793005))) (eBin mulD (eVar 1) (eC (.int 1442695040888963407)))) (eC (.int 97))) (eBin powD (eC (.int 2)) (eC (.int 61))))) (sSeq (sSet 2 (eBin modD (eBin mulD (eBin xorD (eVar 2) (eBin shrD (eVar 2) (eC (.int 29)))) (eC (.int 3935559000370003845))) (eBin powD (eC (.int 2)) (eC (.int 61))))) (sRet (eBin modD (eBin mulD (eBin xorD (eVar 2) (eBin shrD (eVar 2) (eC (.int 31)))) (eC (.int 2862933555777941757))) (eBin powD (eC (.int 2)) (eC (.int 61))))))
def sem__law_mixed : DefSem := semOf 3 [.d, .d] f__law_mixed
theorem sc__law_mixed : FnScope N__law_mixed ["cell", "turn"] (defScope s__law_mixed) := ⟨rfl, rfl, rfl, by decide +kernel, rfl, by decide +kernel, by decide +kernel⟩
theorem ok__law_mixed {G : GG} (t : Fr G)  : PDSs ⟨G, N__law_mixed, defScope s__law_mixed, 0, fun _ => true, none, false, true⟩ (defBody s__law_mixed) f__law_mixed :=
  pdss_cons (pds_set (i := 2) (pd_mod (pd_add (pd_add (pd_mul (pd_mod (pd_var (i := 0) (by kernel_rfl)) (pd_sub (pd_pow pd_int pd_int) pd_int)) pd_int) (pd_mul (pd_var (i := 1) (by kernel_rfl)) pd_int)) pd_int) (pd_pow pd_int pd_int)) (by kernel_rfl)) (pdss_cons (pds_set (i := 2) (pd_mod (pd_mul (pd_xor (pd_var (i := 2) (by kernel_rfl)) (pd_shr (pd_var (i := 2) (by kernel_rfl)) pd_int)) pd_int) (pd_pow pd_int pd_int)) (by kernel_rfl)) (pdss_one (pds_ret (pd_mod (pd_mul (pd_xor (pd_var (i := 2) (by kernel_rfl)) (pd_shr (pd_var (i := 2) (by kernel_rfl)) pd_int)) pd_int) (pd_pow pd_int pd_int)))))
abbrev s__law_draw : Stmt := top 37
def N__law_draw : List Str := ["draws", "size", "turn", "left", "cells", "cell"]
def f__law_draw : Env → So := sSeq (sUn [gN 2, gN 3, gN 4] (eVar 0)) (sSeq (sIf (tstB (eBin ltD (eVar 3) (eVar 1))) (sSeq (sSet 5 (eBin ixD (eVar 4) (eBin modD (eVar 2) (eN lenD (aCons (eNrm (eVar 4)) aNil))))) (sSeq (sSet 3 (eIf (tAndS (tstB (eBin ltD (eVar 2) (eN lenD (aCons (eNrm (eVar 4)) aNil)))) (tstB (eBin geD (eVar 5) (eBin powD (eC (.int 10)) (eC (.int 18)))))) (eVar 5) (eCall [.d, .d] sem__law_mixed (aCons (eFz (eVar 5)) (aCons (eFz (eVar 2)) aNil))))) (sSet 2 (eBin addD (eVar 2) (eC (.int 1)))))) sNx) (sSeq (sSub 0 (eC (.int 0)) (eVar 2)) (sSeq (sSub 0 (eC (.int 1)) (eBin fdivD (eVar 3) (eVar 1))) (sRet (eBin modD (eVar 3) (eVar 1))))))
def sem__law_draw : DefSem := semOf 6 [.io, .d] f__law_draw
theorem sc__law_draw : FnScope N__law_draw ["draws", "size"] (defScope s__law_draw) := ⟨rfl, rfl, rfl, by decide +kernel, rfl, by decide +kernel, by decide +kernel⟩
theorem ok__law_draw {G : GG} (t : Fr G) (h__law_mixed : DefAt G "_law_mixed" 1 3 [.d, .d] sem__law_mixed) : PDSs ⟨G, N__law_draw, defScope s__law_draw, 1, fun _ => true, none, false, true⟩ (defBody s__law_draw) f__law_draw :=
  pdss_cons (pds_un (vs := [2, 3, 4]) (pd_var (i := 0) (by kernel_rfl)) (pdgc_tup (pdgs_cons (pdg_name (i := 2) (by kernel_rfl) (by decide)) (pdgs_cons (pdg_name (i := 3) (by kernel_rfl) (by decide)) (pdgs_cons (pdg_name (i := 4) (by kernel_rfl) (by decide)) pdgs_nil))))) (pdss_cons (pds_if (pdt_c cmp_lt (pd_var (i := 3) (by kernel_rfl)) (pd_var (i := 1) (by kernel_rfl))) (pdss_cons (pds_set (i := 5) (pd_ix (pd_var (i := 4) (by kernel_rfl)) (pd_mod (pd_var (i := 2) (by kernel_rfl)) (pd_b bi_len (by kernel_rfl) t.f_len (pda_cons (pd_var (i := 4) (by kernel_rfl)) pda_nil))) (fun _ _ => rfl)) (by kernel_rfl)) (pdss_cons (pds_set (i := 3) (pd_if (PDW.t (pdw_and (pdt_c cmp_lt (pd_var (i := 2) (by kernel_rfl)) (pd_b bi_len (by kernel_rfl) t.f_len (pda_cons (pd_var (i := 4) (by kernel_rfl)) pda_nil))) (pdw_and1 (pdt_c cmp_ge (pd_var (i := 5) (by kernel_rfl)) (pd_pow pd_int pd_int))))) (pd_var (i := 5) (by kernel_rfl)) (pd_call h__law_mixed (Nat.le_of_ble_eq_true rfl) (by kernel_rfl) (pda_keep (pd_var (i := 5) (by kernel_rfl)) (pda_keep (pd_var (i := 2) (by kernel_rfl)) pda_nil)))) (by kernel_rfl)) (pdss_one (pds_set (i := 2) (pd_add (pd_var (i := 2) (by kernel_rfl)) pd_int) (by kernel_rfl))))) pdss_nil) (pdss_cons (pds_sub (i := 0) (by kernel_rfl) (pd_var (i := 2) (by kernel_rfl)) pd_int) (pdss_cons (pds_sub (i := 0) (by kernel_rfl) (pd_fdiv (pd_var (i := 3) (by kernel_rfl)) (pd_var (i := 1) (by kernel_rfl))) pd_int) (pdss_one (pds_ret (pd_mod (pd_var (i := 3) (by kernel_rfl)) (pd_var (i := 1) (by kernel_rfl))))))))
abbrev s__law_told : Stmt := top 38
def N__law_told : List Str := ["error", "kinds", "names", "name", "true"]
def f__law_told : Env → So := sSeq (sSet 1 (eLst (aCons (eFz (eTup (aCons (eFz (eC (.str "OutOfRange"))) (aCons (eFz (eIsE [("NotThere", false), ("Refused", false)] 0)) aNil)))) (aCons (eFz (eTup (aCons (eFz (eC (.str "Malformed"))) (aCons (eFz (eIsE [("NotThere", false), ("Refused", false)] 0)) aNil)))) (aCons (eFz (eTup (aCons (eFz (eC (.str "NotThere"))) (aCons (eFz (eIsE [("NotThere", true), ("Refused", false)] 0)) aNil)))) (aCons (eFz (eTup (aCons (eFz (eC (.str "Refused"))) (aCons (eFz (eIsE [("NotThere", false), ("Refused", true)] 0)) aNil)))) (aCons (eFz (eTup (aCons (eFz (eC (.str "TooMuch"))) (aCons (eFz (eIsE [("NotThere", false), ("Refused", false)] 0)) aNil)))) aNil))))))) (sSeq (sSet 2 (eLc [3, 4] (iSq (eVar 1)) (gTt [gN 3, gN 4]) (tstV (eVar 4)) (eVar 3))) (sSeq (sIf (tOrS (tstB (eBin neD (eN lenD (aCons (eNrm (eVar 2)) aNil)) (eC (.int 1)))) (tNotS (tstV (eIsE [("NotThere", true), ("Refused", true)] 0)))) (sRet (eC (.str "several"))) sNx) (sRet (eBin ixD (eVar 2) (eC (.int 0))))))
def sem__law_told : DefSem := semOf 5 [.er] f__law_told
theorem sc__law_told : FnScope N__law_told ["error"] (defScope s__law_told) := ⟨rfl, rfl, rfl, by decide +kernel, rfl, by decide +kernel, by decide +kernel⟩
theorem ok__law_told {G : GG} (t : Fr G)  (h : Option (Addr × Str)) : PDSs ⟨G.at_ h, N__law_told, defScope s__law_told, 0, fun _ => true, none, true, true⟩ (defBody s__law_told) f__law_told :=
  pdss_cons (pds_set (i := 1) (pd_lst (pda_keep (pd_tup (pda_keep (pd_str (by kernel_rfl)) (pda_keep (pd_isE (i := 0) (t.i_OutOfRange.to h) (by kernel_rfl) t.f_isinstance (by kernel_rfl) (by kernel_rfl)) pda_nil))) (pda_keep (pd_tup (pda_keep (pd_str (by kernel_rfl)) (pda_keep (pd_isE (i := 0) (t.i_Malformed.to h) (by kernel_rfl) t.f_isinstance (by kernel_rfl) (by kernel_rfl)) pda_nil))) (pda_keep (pd_tup (pda_keep (pd_str (by kernel_rfl)) (pda_keep (pd_isE (i := 0) (t.i_NotThere.to h) (by kernel_rfl) t.f_isinstance (by kernel_rfl) (by kernel_rfl)) pda_nil))) (pda_keep (pd_tup (pda_keep (pd_str (by kernel_rfl)) (pda_keep (pd_isE (i := 0) (t.i_Refused.to h) (by kernel_rfl) t.f_isinstance (by kernel_rfl) (by kernel_rfl)) pda_nil))) (pda_keep (pd_tup (pda_keep (pd_str (by kernel_rfl)) (pda_keep (pd_isE (i := 0) (t.i_TooMuch.to h) (by kernel_rfl) t.f_isinstance (by kernel_rfl) (by kernel_rfl)) pda_nil))) pda_nil)))))) (by kernel_rfl)) (pdss_cons (pds_setLc (i := 2) (own := [("name", 3), ("true", 4)]) (by kernel_rfl) (pdi_seq (pd_var (i := 1) (by kernel_rfl))) (by kernel_rfl) (pdg_tupT (pdgs_cons (pdg_name (i := 3) (by kernel_rfl) (by decide)) (pdgs_cons (pdg_name (i := 4) (by kernel_rfl) (by decide)) pdgs_nil))) (pdts_one (pdt_truth (pd_var (i := 4) (by kernel_rfl)))) (pd_var (i := 3) (by kernel_rfl))) (pdss_cons (pds_if (PDW.t (pdw_or (pdt_c cmp_ne (pd_b bi_len (by kernel_rfl) t.f_len (pda_cons (pd_var (i := 2) (by kernel_rfl)) pda_nil)) pd_int) (pdw_or1 (pdt_not (pdt_truth (pd_isE (i := 0) (t.i_ValueError.to h) (by kernel_rfl) t.f_isinstance (by kernel_rfl) (by kernel_rfl))))))) (pdss_one (pds_ret (pd_str (by kernel_rfl)))) pdss_nil) (pdss_one (pds_ret (pd_ix (pd_var (i := 2) (by kernel_rfl)) pd_int (fun _ _ => rfl))))))
abbrev s__law_int : Stmt := top 39
def N__law_int : List Str := ["value"]
def f__law_int : Env → So := sRet (eAndB (eIsi "int" (eVar 0)) (eNotB (eIsi "bool" (eVar 0))))
def sem__law_int : DefSem := semOf 1 [.d] f__law_int
theorem sc__law_int : FnScope N__law_int ["value"] (defScope s__law_int) := ⟨rfl, rfl, rfl, by decide +kernel, rfl, by decide +kernel, by decide +kernel⟩
theorem ok__law_int {G : GG} (t : Fr G)  : PDSs ⟨G, N__law_int, defScope s__law_int, 0, fun _ => true, none, false, true⟩ (defBody s__law_int) f__law_int :=
  pdss_one (pds_ret (pd_and (pd_isi (by kernel_rfl) t.f_isinstance (by kernel_rfl) t.f_int (by decide +kernel) (by decide +kernel) (pd_var (i := 0) (by kernel_rfl))) (pd_one (pd_not (pd_isi (by kernel_rfl) t.f_isinstance (by kernel_rfl) t.f_bool (by decide +kernel) (by decide +kernel) (pd_var (i := 0) (by kernel_rfl)))))))
abbrev s__law_table : Stmt := top 40
def N__law_table : List Str := ["draws", "rows", "name", "steps"]
def f__law_table : Env → So := sSeq (sOwn 1 (eLst aNil)) (sSeq (sFor (iSq (eLst (aCons (eFz (eC (.str "appeal"))) (aCons (eFz (eC (.str "claim"))) (aCons (eFz (eC (.str "copy"))) (aCons (eFz (eC (.str "hear"))) (aCons (eFz (eC (.str "stay"))) (aCons (eFz (eC (.str "z"))) aNil)))))))) (gN 2) (sIf (tAndS (tstB (eBin gtD (eCall [.io, .d] sem__law_draw (aCons (eNrm (eVar 0)) (aCons (eFz (eC (.int 3))) aNil))) (eC (.int 0)))) (tstB (eBin ltD (eN lenD (aCons (eNrm (eVar 1)) aNil)) (eC (.int 4))))) (sSeq (sOwn 3 (eLst (aCons (eFz (eTup (aCons (eFz (eC (.int 0))) (aCons (eFz (eCall [.io, .d] sem__law_draw (aCons (eNrm (eVar 0)) (aCons (eFz (eC (.int 100))) aNil)))) (aCons (eFz (eTup (aCons (eFz (eCall [.io, .d] sem__law_draw (aCons (eNrm (eVar 0)) (aCons (eFz (eC (.int 2))) aNil)))) (aCons (eFz (eC (.int 1))) aNil)))) aNil))))) aNil))) (sSeq (sIf (tstB (eBin eqD (eCall [.io, .d] sem__law_draw (aCons (eNrm (eVar 0)) (aCons (eFz (eC (.int 2))) aNil))) (eC (.int 1)))) (sDrop (eApp 3 (eTup (aCons (eFz (eBin addD (eC (.int 1)) (eCall [.io, .d] sem__law_draw (aCons (eNrm (eVar 0)) (aCons (eFz (eC (.int 200))) aNil))))) (aCons (eFz (eCall [.io, .d] sem__law_draw (aCons (eNrm (eVar 0)) (aCons (eFz (eC (.int 100))) aNil)))) (aCons (eFz (eTup (aCons (eFz (eC (.int 1))) (aCons (eFz (eBin addD (eC (.int 2)) (eCall [.io, .d] sem__law_draw (aCons (eNrm (eVar 0)) (aCons (eFz (eC (.int 4))) aNil))))) aNil)))) aNil)))))) sNx) (sDrop (eApp 1 (eTup (aCons (eFz (eVar 2)) (aCons (eFz (eTup (aCons (eFz (eBin ixD (eLst (aCons (eFz (eC (.str "down"))) (aCons (eFz (eC (.str "up"))) (aCons (eFz (eC (.str "near"))) aNil)))) (eCall [.io, .d] sem__law_draw (aCons (eNrm (eVar 0)) (aCons (eFz (eC (.int 3))) aNil))))) (aCons (eFz (eN tupleD (aCons (eNrm (eVar 3)) aNil))) aNil)))) aNil))))))) sNx)) (sRet (eN tupleD (aCons (eNrm (eVar 1)) aNil))))
def sem__law_table : DefSem := semOf 4 [.io] f__law_table
theorem sc__law_table : FnScope N__law_table ["draws"] (defScope s__law_table) := ⟨rfl, rfl, rfl, by decide +kernel, rfl, by decide +kernel, by decide +kernel⟩
theorem ok__law_table {G : GG} (t : Fr G) (h__law_draw : DefAt G "_law_draw" 2 6 [.io, .d] sem__law_draw) : PDSs ⟨G, N__law_table, defScope s__law_table, 2, fun _ => true, none, false, true⟩ (defBody s__law_table) f__law_table :=
  pdss_cons (pds_own (i := 1) (pd_lst pda_nil) (by kernel_rfl)) (pdss_cons (pds_for (vs := [2]) (pdi_seq (pd_lst (pda_keep (pd_str (by kernel_rfl)) (pda_keep (pd_str (by kernel_rfl)) (pda_keep (pd_str (by kernel_rfl)) (pda_keep (pd_str (by kernel_rfl)) (pda_keep (pd_str (by kernel_rfl)) (pda_keep (pd_str (by kernel_rfl)) pda_nil)))))))) (pdg_name (i := 2) (by kernel_rfl) (by decide)) (pdss_one (pds_if (PDW.t (pdw_and (pdt_c cmp_gt (pd_call h__law_draw (Nat.le_of_ble_eq_true rfl) (by kernel_rfl) (pda_cons (pd_var (i := 0) (by kernel_rfl)) (pda_keep pd_int pda_nil))) pd_int) (pdw_and1 (pdt_c cmp_lt (pd_b bi_len (by kernel_rfl) t.f_len (pda_cons (pd_var (i := 1) (by kernel_rfl)) pda_nil)) pd_int)))) (pdss_cons (pds_own (i := 3) (pd_lst (pda_keep (pd_tup (pda_keep pd_int (pda_keep (pd_call h__law_draw (Nat.le_of_ble_eq_true rfl) (by kernel_rfl) (pda_cons (pd_var (i := 0) (by kernel_rfl)) (pda_keep pd_int pda_nil))) (pda_keep (pd_tup (pda_keep (pd_call h__law_draw (Nat.le_of_ble_eq_true rfl) (by kernel_rfl) (pda_cons (pd_var (i := 0) (by kernel_rfl)) (pda_keep pd_int pda_nil))) (pda_keep pd_int pda_nil))) pda_nil)))) pda_nil)) (by kernel_rfl)) (pdss_cons (pds_if (pdt_c cmp_eq (pd_call h__law_draw (Nat.le_of_ble_eq_true rfl) (by kernel_rfl) (pda_cons (pd_var (i := 0) (by kernel_rfl)) (pda_keep pd_int pda_nil))) pd_int) (pdss_one (pds_drop (pd_app (i := 3) (by kernel_rfl) (pd_tup (pda_keep (pd_add pd_int (pd_call h__law_draw (Nat.le_of_ble_eq_true rfl) (by kernel_rfl) (pda_cons (pd_var (i := 0) (by kernel_rfl)) (pda_keep pd_int pda_nil)))) (pda_keep (pd_call h__law_draw (Nat.le_of_ble_eq_true rfl) (by kernel_rfl) (pda_cons (pd_var (i := 0) (by kernel_rfl)) (pda_keep pd_int pda_nil))) (pda_keep (pd_tup (pda_keep pd_int (pda_keep (pd_add pd_int (pd_call h__law_draw (Nat.le_of_ble_eq_true rfl) (by kernel_rfl) (pda_cons (pd_var (i := 0) (by kernel_rfl)) (pda_keep pd_int pda_nil)))) pda_nil))) pda_nil))))))) pdss_nil) (pdss_one (pds_drop (pd_app (i := 1) (by kernel_rfl) (pd_tup (pda_keep (pd_var (i := 2) (by kernel_rfl)) (pda_keep (pd_tup (pda_keep (pd_ix (pd_lst (pda_keep (pd_str (by kernel_rfl)) (pda_keep (pd_str (by kernel_rfl)) (pda_keep (pd_str (by kernel_rfl)) pda_nil)))) (pd_call h__law_draw (Nat.le_of_ble_eq_true rfl) (by kernel_rfl) (pda_cons (pd_var (i := 0) (by kernel_rfl)) (pda_keep pd_int pda_nil))) (fun _ _ => rfl)) (pda_keep (pd_b bi_tuple (by kernel_rfl) t.f_tuple (pda_cons (pd_var (i := 3) (by kernel_rfl)) pda_nil)) pda_nil))) pda_nil)))))))) pdss_nil))) (pdss_one (pds_ret (pd_b bi_tuple (by kernel_rfl) t.f_tuple (pda_cons (pd_var (i := 1) (by kernel_rfl)) pda_nil)))))
abbrev s__law_book : Stmt := top 41
def N__law_book : List Str := ["draws", "days", "k", "day"]
def f__law_book : Env → So := sSeq (sOwn 1 (eLst (aCons (eFz (eC (.int 0))) aNil))) (sSeq (sFor (iR1 (aCons (eNrm (eCall [.io, .d] sem__law_draw (aCons (eNrm (eVar 0)) (aCons (eFz (eC (.int 6))) aNil)))) aNil)) (gN 2) (sSeq (sSet 3 (eBin ixD (eLst (aCons (eFz (eBin addD (eC (.int 1)) (eCall [.io, .d] sem__law_draw (aCons (eNrm (eVar 0)) (aCons (eFz (eC (.int 9))) aNil))))) (aCons (eFz (eBin addD (eC (.int 1)) (eCall [.io, .d] sem__law_draw (aCons (eNrm (eVar 0)) (aCons (eFz (eC (.int 1000000))) aNil))))) (aCons (eFz (eC (.int 1000000))) aNil)))) (eBin modD (eBin modD (eCall [.io, .d] sem__law_draw (aCons (eNrm (eVar 0)) (aCons (eFz (eC (.int 9))) aNil))) (eC (.int 4))) (eC (.int 3))))) (sIf (tstB (eBin notInD (eVar 3) (eVar 1))) (sDrop (eApp 1 (eVar 3))) sNx))) (sRet (eTup (aCons (eFz (eBin ixD (eLst (aCons (eFz (eC (.str "old"))) (aCons (eFz (eC (.str "new"))) (aCons (eFz (eC (.str "kind"))) aNil)))) (eCall [.io, .d] sem__law_draw (aCons (eNrm (eVar 0)) (aCons (eFz (eC (.int 3))) aNil))))) (aCons (eFz (eN tupleD (aCons (eNrm (eLc [3] (iSq (eN sortedD (aCons (eNrm (eVar 1)) aNil))) (gN 3) tYesS (eTup (aCons (eFz (eVar 3)) (aCons (eFz (eCall [.io] sem__law_table (aCons (eNrm (eVar 0)) aNil))) aNil))))) aNil))) aNil)))))
def sem__law_book : DefSem := semOf 4 [.io] f__law_book
theorem sc__law_book : FnScope N__law_book ["draws"] (defScope s__law_book) := ⟨rfl, rfl, rfl, by decide +kernel, rfl, by decide +kernel, by decide +kernel⟩
theorem ok__law_book {G : GG} (t : Fr G) (h__law_draw : DefAt G "_law_draw" 2 6 [.io, .d] sem__law_draw) (h__law_table : DefAt G "_law_table" 3 4 [.io] sem__law_table) : PDSs ⟨G, N__law_book, defScope s__law_book, 3, fun _ => true, none, false, true⟩ (defBody s__law_book) f__law_book :=
  pdss_cons (pds_own (i := 1) (pd_lst (pda_keep pd_int pda_nil)) (by kernel_rfl)) (pdss_cons (pds_for (vs := [2]) (pdi_range1 (by kernel_rfl) t.f_range (pda_cons (pd_call h__law_draw (Nat.le_of_ble_eq_true rfl) (by kernel_rfl) (pda_cons (pd_var (i := 0) (by kernel_rfl)) (pda_keep pd_int pda_nil))) pda_nil)) (pdg_name (i := 2) (by kernel_rfl) (by decide)) (pdss_cons (pds_set (i := 3) (pd_ix (pd_lst (pda_keep (pd_add pd_int (pd_call h__law_draw (Nat.le_of_ble_eq_true rfl) (by kernel_rfl) (pda_cons (pd_var (i := 0) (by kernel_rfl)) (pda_keep pd_int pda_nil)))) (pda_keep (pd_add pd_int (pd_call h__law_draw (Nat.le_of_ble_eq_true rfl) (by kernel_rfl) (pda_cons (pd_var (i := 0) (by kernel_rfl)) (pda_keep pd_int pda_nil)))) (pda_keep pd_int pda_nil)))) (pd_mod (pd_mod (pd_call h__law_draw (Nat.le_of_ble_eq_true rfl) (by kernel_rfl) (pda_cons (pd_var (i := 0) (by kernel_rfl)) (pda_keep pd_int pda_nil))) pd_int) pd_int) (fun _ _ => rfl)) (by kernel_rfl)) (pdss_one (pds_if (pdt_c cmp_notIn (pd_var (i := 3) (by kernel_rfl)) (pd_var (i := 1) (by kernel_rfl))) (pdss_one (pds_drop (pd_app (i := 1) (by kernel_rfl) (pd_var (i := 3) (by kernel_rfl))))) pdss_nil)))) (pdss_one (pds_ret (pd_tup (pda_keep (pd_ix (pd_lst (pda_keep (pd_str (by kernel_rfl)) (pda_keep (pd_str (by kernel_rfl)) (pda_keep (pd_str (by kernel_rfl)) pda_nil)))) (pd_call h__law_draw (Nat.le_of_ble_eq_true rfl) (by kernel_rfl) (pda_cons (pd_var (i := 0) (by kernel_rfl)) (pda_keep pd_int pda_nil))) (fun _ _ => rfl)) (pda_keep (pd_b bi_tuple (by kernel_rfl) t.f_tuple (pda_cons (pd_lc (own := [("day", 3)]) (pdi_seq (pd_b bi_sorted (by kernel_rfl) t.f_sorted (pda_cons (pd_var (i := 1) (by kernel_rfl)) pda_nil))) (by kernel_rfl) (pdg_name (i := 3) (by kernel_rfl) (by decide)) pdts_nil (pd_tup (pda_keep (pd_var (i := 3) (by kernel_rfl)) (pda_keep (pd_call h__law_table (Nat.le_of_ble_eq_true rfl) (by kernel_rfl) (pda_cons (pd_var (i := 0) (by kernel_rfl)) pda_nil)) pda_nil)))) pda_nil)) pda_nil))))))
abbrev s__law_fee : Stmt := top 42
def N__law_fee : List Str := ["tariff", "value", "way", "steps", "low", "base", "rate", "exact", "number", "rest", "step"]
def f__law_fee : Env → So := sSeq (sUn [gN 2, gN 3] (eVar 0)) (sSeq (sUn [gN 4, gN 5, gN 6] (eBin ixD (eLc [10] (iSq (eVar 3)) (gN 10) (tstB (eBin leD (eBin ixD (eVar 10) (eC (.int 0))) (eVar 1))) (eVar 10)) (eUn negD (eC (.int 1))))) (sSeq (sSet 7 (eBin mulD (eBin ixD (eVar 6) (eC (.int 0))) (eBin subD (eVar 1) (eVar 4)))) (sSeq (sSet 8 (eBin fdivD (eVar 7) (eBin ixD (eVar 6) (eC (.int 1))))) (sSeq (sSet 9 (eBin subD (eVar 7) (eBin mulD (eVar 8) (eBin ixD (eVar 6) (eC (.int 1)))))) (sSeq (sIf (tOrS (tAndS (tstB (eBin eqD (eVar 2) (eC (.str "up")))) (tstB (eBin gtD (eVar 9) (eC (.int 0))))) (tAndS (tstB (eBin eqD (eVar 2) (eC (.str "near")))) (tOrS (tstB (eBin gtD (eBin mulD (eC (.int 2)) (eVar 9)) (eBin ixD (eVar 6) (eC (.int 1))))) (tAndS (tstB (eBin eqD (eBin mulD (eC (.int 2)) (eVar 9)) (eBin ixD (eVar 6) (eC (.int 1))))) (tstB (eBin eqD (eBin modD (eVar 8) (eC (.int 2))) (eC (.int 1)))))))) (sSet 8 (eBin addD (eVar 8) (eC (.int 1)))) sNx) (sRet (eBin addD (eVar 5) (eVar 8))))))))
def sem__law_fee : DefSem := semOf 11 [.d, .d] f__law_fee
theorem sc__law_fee : FnScope N__law_fee ["tariff", "value"] (defScope s__law_fee) := ⟨rfl, rfl, rfl, by decide +kernel, rfl, by decide +kernel, by decide +kernel⟩
theorem ok__law_fee {G : GG} (t : Fr G)  : PDSs ⟨G, N__law_fee, defScope s__law_fee, 0, fun _ => true, none, false, true⟩ (defBody s__law_fee) f__law_fee :=
  pdss_cons (pds_un (vs := [2, 3]) (pd_var (i := 0) (by kernel_rfl)) (pdgc_tup (pdgs_cons (pdg_name (i := 2) (by kernel_rfl) (by decide)) (pdgs_cons (pdg_name (i := 3) (by kernel_rfl) (by decide)) pdgs_nil)))) (pdss_cons (pds_un (vs := [4, 5, 6]) (pd_ix (pd_lc (own := [("step", 10)]) (pdi_seq (pd_var (i := 3) (by kernel_rfl))) (by kernel_rfl) (pdg_name (i := 10) (by kernel_rfl) (by decide)) (pdts_one (pdt_c cmp_le (pd_ix (pd_var (i := 10) (by kernel_rfl)) pd_int (fun _ _ => rfl)) (pd_var (i := 1) (by kernel_rfl)))) (pd_var (i := 10) (by kernel_rfl))) (pd_neg pd_int) (fun _ _ => rfl)) (pdgc_tup (pdgs_cons (pdg_name (i := 4) (by kernel_rfl) (by decide)) (pdgs_cons (pdg_name (i := 5) (by kernel_rfl) (by decide)) (pdgs_cons (pdg_name (i := 6) (by kernel_rfl) (by decide)) pdgs_nil))))) (pdss_cons (pds_set (i := 7) (pd_mul (pd_ix (pd_var (i := 6) (by kernel_rfl)) pd_int (fun _ _ => rfl)) (pd_sub (pd_var (i := 1) (by kernel_rfl)) (pd_var (i := 4) (by kernel_rfl)))) (by kernel_rfl)) (pdss_cons (pds_set (i := 8) (pd_fdiv (pd_var (i := 7) (by kernel_rfl)) (pd_ix (pd_var (i := 6) (by kernel_rfl)) pd_int (fun _ _ => rfl))) (by kernel_rfl)) (pdss_cons (pds_set (i := 9) (pd_sub (pd_var (i := 7) (by kernel_rfl)) (pd_mul (pd_var (i := 8) (by kernel_rfl)) (pd_ix (pd_var (i := 6) (by kernel_rfl)) pd_int (fun _ _ => rfl)))) (by kernel_rfl)) (pdss_cons (pds_if (PDW.t (pdw_or (PDW.t (pdw_and (pdt_c cmp_eq (pd_var (i := 2) (by kernel_rfl)) (pd_str (by kernel_rfl))) (pdw_and1 (pdt_c cmp_gt (pd_var (i := 9) (by kernel_rfl)) pd_int)))) (pdw_or1 (PDW.t (pdw_and (pdt_c cmp_eq (pd_var (i := 2) (by kernel_rfl)) (pd_str (by kernel_rfl))) (pdw_and1 (PDW.t (pdw_or (pdt_c cmp_gt (pd_mul pd_int (pd_var (i := 9) (by kernel_rfl))) (pd_ix (pd_var (i := 6) (by kernel_rfl)) pd_int (fun _ _ => rfl))) (pdw_or1 (PDW.t (pdw_and (pdt_c cmp_eq (pd_mul pd_int (pd_var (i := 9) (by kernel_rfl))) (pd_ix (pd_var (i := 6) (by kernel_rfl)) pd_int (fun _ _ => rfl))) (pdw_and1 (pdt_c cmp_eq (pd_mod (pd_var (i := 8) (by kernel_rfl)) pd_int) pd_int))))))))))))) (pdss_one (pds_set (i := 8) (pd_add (pd_var (i := 8) (by kernel_rfl)) pd_int) (by kernel_rfl))) pdss_nil) (pdss_one (pds_ret (pd_add (pd_var (i := 5) (by kernel_rfl)) (pd_var (i := 8) (by kernel_rfl))))))))))
abbrev s__law_fees : Stmt := top 43
def N__law_fees : List Str := ["book", "name", "value", "day", "table", "row", "word", "tariff"]
def f__law_fees : Env → So := sSeq (sSet 4 (eBin ixD (eBin ixD (eLc [5] (iSq (eBin ixD (eVar 0) (eC (.int 1)))) (gN 5) (tstB (eBin leD (eBin ixD (eVar 5) (eC (.int 0))) (eVar 3))) (eVar 5)) (eUn negD (eC (.int 1)))) (eC (.int 1)))) (sRet (eLc [6, 7] (iSq (eVar 4)) (gT [gN 6, gN 7]) (tstB (eBin eqD (eVar 6) (eVar 1))) (eCall [.d, .d] sem__law_fee (aCons (eFz (eVar 7)) (aCons (eFz (eVar 2)) aNil)))))
def sem__law_fees : DefSem := semOf 8 [.d, .d, .d, .d] f__law_fees
theorem sc__law_fees : FnScope N__law_fees ["book", "name", "value", "day"] (defScope s__law_fees) := ⟨rfl, rfl, rfl, by decide +kernel, rfl, by decide +kernel, by decide +kernel⟩
theorem ok__law_fees {G : GG} (t : Fr G) (h__law_fee : DefAt G "_law_fee" 1 11 [.d, .d] sem__law_fee) : PDSs ⟨G, N__law_fees, defScope s__law_fees, 1, fun _ => true, none, false, true⟩ (defBody s__law_fees) f__law_fees :=
  pdss_cons (pds_set (i := 4) (pd_ix (pd_ix (pd_lc (own := [("row", 5)]) (pdi_seq (pd_ix (pd_var (i := 0) (by kernel_rfl)) pd_int (fun _ _ => rfl))) (by kernel_rfl) (pdg_name (i := 5) (by kernel_rfl) (by decide)) (pdts_one (pdt_c cmp_le (pd_ix (pd_var (i := 5) (by kernel_rfl)) pd_int (fun _ _ => rfl)) (pd_var (i := 3) (by kernel_rfl)))) (pd_var (i := 5) (by kernel_rfl))) (pd_neg pd_int) (fun _ _ => rfl)) pd_int (fun _ _ => rfl)) (by kernel_rfl)) (pdss_one (pds_ret (pd_lc (own := [("word", 6), ("tariff", 7)]) (pdi_seq (pd_var (i := 4) (by kernel_rfl))) (by kernel_rfl) (pdg_tup (pdgs_cons (pdg_name (i := 6) (by kernel_rfl) (by decide)) (pdgs_cons (pdg_name (i := 7) (by kernel_rfl) (by decide)) pdgs_nil))) (pdts_one (pdt_c cmp_eq (pd_var (i := 6) (by kernel_rfl)) (pd_var (i := 1) (by kernel_rfl)))) (pd_call h__law_fee (Nat.le_of_ble_eq_true rfl) (by kernel_rfl) (pda_keep (pd_var (i := 7) (by kernel_rfl)) (pda_keep (pd_var (i := 2) (by kernel_rfl)) pda_nil))))))
abbrev s__law_due : Stmt := top 44
def N__law_due : List Str := ["book", "name", "value", "begun", "filed", "found"]
def f__law_due : Env → So := sSeq (sSet 5 (eLst aNil)) (sSeq (sIf (tstB (eBin neD (eBin ixD (eVar 0) (eC (.int 0))) (eC (.str "new")))) (sSet 5 (eBin addD (eVar 5) (eCall [.d, .d, .d, .d] sem__law_fees (aCons (eFz (eVar 0)) (aCons (eFz (eVar 1)) (aCons (eFz (eVar 2)) (aCons (eFz (eVar 3)) aNil))))))) sNx) (sSeq (sIf (tstB (eBin neD (eBin ixD (eVar 0) (eC (.int 0))) (eC (.str "old")))) (sSet 5 (eBin addD (eVar 5) (eCall [.d, .d, .d, .d] sem__law_fees (aCons (eFz (eVar 0)) (aCons (eFz (eVar 1)) (aCons (eFz (eVar 2)) (aCons (eFz (eVar 4)) aNil))))))) sNx) (sSeq (sIf (tstB (eBin eqD (eVar 5) (eLst aNil))) (sRet (eC (.str "NotThere"))) sNx) (sRet (eIf (tstB (eBin ltD (eVar 4) (eVar 3))) (eC (.str "Refused")) (eN minLD (aCons (eNrm (eVar 5)) aNil)))))))
def sem__law_due : DefSem := semOf 6 [.d, .d, .d, .d, .d] f__law_due
theorem sc__law_due : FnScope N__law_due ["book", "name", "value", "begun", "filed"] (defScope s__law_due) := ⟨rfl, rfl, rfl, by decide +kernel, rfl, by decide +kernel, by decide +kernel⟩
theorem ok__law_due {G : GG} (t : Fr G) (h__law_fees : DefAt G "_law_fees" 2 8 [.d, .d, .d, .d] sem__law_fees) : PDSs ⟨G, N__law_due, defScope s__law_due, 2, fun _ => true, none, false, true⟩ (defBody s__law_due) f__law_due :=
  pdss_cons (pds_set (i := 5) (pd_lst pda_nil) (by kernel_rfl)) (pdss_cons (pds_if (pdt_c cmp_ne (pd_ix (pd_var (i := 0) (by kernel_rfl)) pd_int (fun _ _ => rfl)) (pd_str (by kernel_rfl))) (pdss_one (pds_set (i := 5) (pd_add (pd_var (i := 5) (by kernel_rfl)) (pd_call h__law_fees (Nat.le_of_ble_eq_true rfl) (by kernel_rfl) (pda_keep (pd_var (i := 0) (by kernel_rfl)) (pda_keep (pd_var (i := 1) (by kernel_rfl)) (pda_keep (pd_var (i := 2) (by kernel_rfl)) (pda_keep (pd_var (i := 3) (by kernel_rfl)) pda_nil)))))) (by kernel_rfl))) pdss_nil) (pdss_cons (pds_if (pdt_c cmp_ne (pd_ix (pd_var (i := 0) (by kernel_rfl)) pd_int (fun _ _ => rfl)) (pd_str (by kernel_rfl))) (pdss_one (pds_set (i := 5) (pd_add (pd_var (i := 5) (by kernel_rfl)) (pd_call h__law_fees (Nat.le_of_ble_eq_true rfl) (by kernel_rfl) (pda_keep (pd_var (i := 0) (by kernel_rfl)) (pda_keep (pd_var (i := 1) (by kernel_rfl)) (pda_keep (pd_var (i := 2) (by kernel_rfl)) (pda_keep (pd_var (i := 4) (by kernel_rfl)) pda_nil)))))) (by kernel_rfl))) pdss_nil) (pdss_cons (pds_if (pdt_c cmp_eq (pd_var (i := 5) (by kernel_rfl)) (pd_lst pda_nil)) (pdss_one (pds_ret (pd_str (by kernel_rfl)))) pdss_nil) (pdss_one (pds_ret (pd_if (pdt_c cmp_lt (pd_var (i := 4) (by kernel_rfl)) (pd_var (i := 3) (by kernel_rfl))) (pd_str (by kernel_rfl)) (pd_b bi_minL (by kernel_rfl) t.f_min (pda_cons (pd_var (i := 5) (by kernel_rfl)) pda_nil))))))))
abbrev s__law_asked : Stmt := top 45
def N__law_asked : List Str := ["book", "name", "value", "begun", "filed", "due", "told", "error"]
def f__law_asked : Env → So := sSeq (sSet 5 (eCall [.d, .d, .d, .d, .d] sem__law_due (aCons (eFz (eVar 0)) (aCons (eFz (eVar 1)) (aCons (eFz (eVar 2)) (aCons (eFz (eVar 3)) (aCons (eFz (eVar 4)) aNil))))))) (sSeq (sTry 7 ["NotThere", "Refused"] (sSet 6 (eCall [.d, .d, .d, .d, .d] sem_fee_due (aCons (eFz (eVar 0)) (aCons (eFz (eVar 1)) (aCons (eFz (eVar 2)) (aCons (eFz (eVar 3)) (aCons (eFz (eVar 4)) aNil))))))) (sRet (eBin eqD (eCall [.er] sem__law_told (aEr 7 aNil)) (eVar 5)))) (sRet (eAndB (eCall [.d] sem__law_int (aCons (eFz (eVar 6)) aNil)) (eBin eqD (eVar 6) (eVar 5)))))
def sem__law_asked : DefSem := semOf 8 [.d, .d, .d, .d, .d] f__law_asked
theorem sc__law_asked : FnScope N__law_asked ["book", "name", "value", "begun", "filed"] (defScope s__law_asked) := ⟨rfl, rfl, rfl, by decide +kernel, rfl, by decide +kernel, by decide +kernel⟩
theorem ok__law_asked {G : GG} (t : Fr G) (h_fee_due : DefAt G "fee_due" 5 10 [.d, .d, .d, .d, .d] sem_fee_due) (h__law_told : DefHot G "_law_told" 1 5 [.er] sem__law_told) (h__law_int : DefAt G "_law_int" 1 1 [.d] sem__law_int) (h__law_due : DefAt G "_law_due" 3 6 [.d, .d, .d, .d, .d] sem__law_due) : PDSs ⟨G, N__law_asked, defScope s__law_asked, 5, fun _ => true, none, false, true⟩ (defBody s__law_asked) f__law_asked :=
  pdss_cons (pds_set (i := 5) (pd_call h__law_due (Nat.le_of_ble_eq_true rfl) (by kernel_rfl) (pda_keep (pd_var (i := 0) (by kernel_rfl)) (pda_keep (pd_var (i := 1) (by kernel_rfl)) (pda_keep (pd_var (i := 2) (by kernel_rfl)) (pda_keep (pd_var (i := 3) (by kernel_rfl)) (pda_keep (pd_var (i := 4) (by kernel_rfl)) pda_nil)))))) (by kernel_rfl)) (pdss_cons (pds_try (hs := ["NotThere", "Refused"]) rfl rfl (by kernel_rfl) (by kernel_rfl) t.m_DocketError t.x_DocketError (pdss_one (pds_set (i := 6) (pd_call h_fee_due (Nat.le_of_ble_eq_true rfl) (by kernel_rfl) (pda_keep (pd_var (i := 0) (by kernel_rfl)) (pda_keep (pd_var (i := 1) (by kernel_rfl)) (pda_keep (pd_var (i := 2) (by kernel_rfl)) (pda_keep (pd_var (i := 3) (by kernel_rfl)) (pda_keep (pd_var (i := 4) (by kernel_rfl)) pda_nil)))))) (by kernel_rfl))) (fun a c => let h := some (a, c); pdss_one (pds_ret (pd_c cmp_eq (pd_callJ (h__law_told.to h) (Nat.le_of_ble_eq_true rfl) (by kernel_rfl) (pda_er (i := 7) (by kernel_rfl) pda_nil)) (pd_var (i := 5) (by kernel_rfl)))))) (pdss_one (pds_ret (pd_and (pd_call h__law_int (Nat.le_of_ble_eq_true rfl) (by kernel_rfl) (pda_keep (pd_var (i := 6) (by kernel_rfl)) pda_nil)) (pd_one (pd_c cmp_eq (pd_var (i := 6) (by kernel_rfl)) (pd_var (i := 5) (by kernel_rfl))))))))
abbrev s__law_cut : Stmt := top 46
def N__law_cut : List Str := ["book", "draws", "way", "rows", "at", "end", "day"]
def f__law_cut : Env → So := sSeq (sUn [gN 2, gN 3] (eVar 0)) (sSeq (sSet 4 (eCall [.io, .d] sem__law_draw (aCons (eNrm (eVar 1)) (aCons (eFz (eN lenD (aCons (eNrm (eVar 3)) aNil))) aNil)))) (sSeq (sSet 5 (eIf (tstB (eBin ltD (eBin addD (eVar 4) (eC (.int 1))) (eN lenD (aCons (eNrm (eVar 3)) aNil)))) (eBin ixD (eBin ixD (eVar 3) (eBin addD (eVar 4) (eC (.int 1)))) (eC (.int 0))) (eC (.int 1000001)))) (sSeq (sSet 6 (eBin addD (eBin addD (eBin ixD (eBin ixD (eVar 3) (eVar 4)) (eC (.int 0))) (eC (.int 1))) (eCall [.io, .d] sem__law_draw (aCons (eNrm (eVar 1)) (aCons (eFz (eN max2D (aCons (eNrm (eC (.int 1))) (aCons (eNrm (eBin subD (eBin subD (eVar 5) (eBin ixD (eBin ixD (eVar 3) (eVar 4)) (eC (.int 0)))) (eC (.int 1)))) aNil)))) aNil))))) (sSeq (sIf (tstB (eBin geD (eVar 6) (eVar 5))) (sRet (eVar 0)) sNx) (sRet (eTup (aCons (eFz (eVar 2)) (aCons (eFz (eBin addD (eBin addD (eSl (eVar 3) oNone (oSome (eBin addD (eVar 4) (eC (.int 1))))) (eTup (aCons (eFz (eTup (aCons (eFz (eVar 6)) (aCons (eFz (eBin ixD (eBin ixD (eVar 3) (eVar 4)) (eC (.int 1)))) aNil)))) aNil))) (eSl (eVar 3) (oSome (eBin addD (eVar 4) (eC (.int 1)))) oNone))) aNil))))))))
def sem__law_cut : DefSem := semOf 7 [.d, .io] f__law_cut
theorem sc__law_cut : FnScope N__law_cut ["book", "draws"] (defScope s__law_cut) := ⟨rfl, rfl, rfl, by decide +kernel, rfl, by decide +kernel, by decide +kernel⟩
theorem ok__law_cut {G : GG} (t : Fr G) (h__law_draw : DefAt G "_law_draw" 2 6 [.io, .d] sem__law_draw) : PDSs ⟨G, N__law_cut, defScope s__law_cut, 2, fun _ => true, none, false, true⟩ (defBody s__law_cut) f__law_cut :=
  pdss_cons (pds_un (vs := [2, 3]) (pd_var (i := 0) (by kernel_rfl)) (pdgc_tup (pdgs_cons (pdg_name (i := 2) (by kernel_rfl) (by decide)) (pdgs_cons (pdg_name (i := 3) (by kernel_rfl) (by decide)) pdgs_nil)))) (pdss_cons (pds_set (i := 4) (pd_call h__law_draw (Nat.le_of_ble_eq_true rfl) (by kernel_rfl) (pda_cons (pd_var (i := 1) (by kernel_rfl)) (pda_keep (pd_b bi_len (by kernel_rfl) t.f_len (pda_cons (pd_var (i := 3) (by kernel_rfl)) pda_nil)) pda_nil))) (by kernel_rfl)) (pdss_cons (pds_set (i := 5) (pd_if (pdt_c cmp_lt (pd_add (pd_var (i := 4) (by kernel_rfl)) pd_int) (pd_b bi_len (by kernel_rfl) t.f_len (pda_cons (pd_var (i := 3) (by kernel_rfl)) pda_nil))) (pd_ix (pd_ix (pd_var (i := 3) (by kernel_rfl)) (pd_add (pd_var (i := 4) (by kernel_rfl)) pd_int) (fun _ _ => rfl)) pd_int (fun _ _ => rfl)) pd_int) (by kernel_rfl)) (pdss_cons (pds_set (i := 6) (pd_add (pd_add (pd_ix (pd_ix (pd_var (i := 3) (by kernel_rfl)) (pd_var (i := 4) (by kernel_rfl)) (fun _ _ => rfl)) pd_int (fun _ _ => rfl)) pd_int) (pd_call h__law_draw (Nat.le_of_ble_eq_true rfl) (by kernel_rfl) (pda_cons (pd_var (i := 1) (by kernel_rfl)) (pda_keep (pd_b bi_max2 (by kernel_rfl) t.f_max (pda_cons pd_int (pda_cons (pd_sub (pd_sub (pd_var (i := 5) (by kernel_rfl)) (pd_ix (pd_ix (pd_var (i := 3) (by kernel_rfl)) (pd_var (i := 4) (by kernel_rfl)) (fun _ _ => rfl)) pd_int (fun _ _ => rfl))) pd_int) pda_nil))) pda_nil)))) (by kernel_rfl)) (pdss_cons (pds_if (pdt_c cmp_ge (pd_var (i := 6) (by kernel_rfl)) (pd_var (i := 5) (by kernel_rfl))) (pdss_one (pds_ret (pd_var (i := 0) (by kernel_rfl)))) pdss_nil) (pdss_one (pds_ret (pd_tup (pda_keep (pd_var (i := 2) (by kernel_rfl)) (pda_keep (pd_add (pd_add (pd_sl (pd_var (i := 3) (by kernel_rfl)) pdo_none (pdo_some (pd_add (pd_var (i := 4) (by kernel_rfl)) pd_int))) (pd_tup (pda_keep (pd_tup (pda_keep (pd_var (i := 6) (by kernel_rfl)) (pda_keep (pd_ix (pd_ix (pd_var (i := 3) (by kernel_rfl)) (pd_var (i := 4) (by kernel_rfl)) (fun _ _ => rfl)) pd_int (fun _ _ => rfl)) pda_nil))) pda_nil))) (pd_sl (pd_var (i := 3) (by kernel_rfl)) (pdo_some (pd_add (pd_var (i := 4) (by kernel_rfl)) pd_int)) pdo_none)) pda_nil)))))))))
abbrev s__law_wrong : Stmt := top 47
def N__law_wrong : List Str := ["book", "way", "rows", "day", "table", "step", "wrong", "value", "names", "wide", "long", "k", "name"]
def f__law_wrong : Env → So := sSeq (sUn [gN 1, gN 2] (eVar 0)) (sSeq (sUn [gN 3, gN 4] (eBin ixD (eVar 2) (eUn negD (eC (.int 1))))) (sSeq (sSet 5 (eTup (aCons (eFz (eC (.str "up"))) (aCons (eFz (eTup (aCons (eFz (eTup (aCons (eFz (eC (.int 0))) (aCons (eFz (eC (.int 1))) (aCons (eFz (eTup (aCons (eFz (eC (.int 0))) (aCons (eFz (eC (.int 1))) aNil)))) aNil))))) aNil))) aNil)))) (sSeq (sSet 6 (eLst (aCons (eFz (eTup (aCons (eFz (eC (.str "older"))) (aCons (eFz (eVar 2)) aNil)))) (aCons (eFz (eTup (aCons (eFz (eVar 1)) (aCons (eFz (eN listD (aCons (eNrm (eVar 2)) aNil))) aNil)))) (aCons (eFz (eTup (aCons (eFz (eVar 1)) (aCons (eFz (eTup aNil)) aNil)))) (aCons (eFz (eLst (aCons (eFz (eVar 1)) (aCons (eFz (eVar 2)) aNil)))) (aCons (eFz (eTup (aCons (eFz (eVar 1)) (aCons (eFz (eVar 2)) (aCons (eFz (eC (.int 1))) aNil))))) (aCons (eFz (eTup (aCons (eFz (eVar 1)) (aCons (eFz (eBin addD (eVar 2) (eTup (aCons (eFz (eBin ixD (eVar 2) (eUn negD (eC (.int 1))))) aNil)))) aNil)))) (aCons (eFz (eC .none)) (aCons (eFz (eVar 1)) (aCons (eFz (eTup (aCons (eFz (eVar 1)) (aCons (eFz (eTup (aCons (eFz (eTup (aCons (eFz (eC (.int 1))) (aCons (eFz (eVar 4)) aNil)))) aNil))) aNil)))) (aCons (eFz (eTup (aCons (eFz (eVar 1)) (aCons (eFz (eBin addD (eSl (eVar 2) oNone (oSome (eUn negD (eC (.int 1))))) (eTup (aCons (eFz (eTup (aCons (eFz (eVar 3)) (aCons (eFz (eN listD (aCons (eNrm (eVar 4)) aNil))) aNil)))) aNil)))) aNil)))) (aCons (eFz (eTup (aCons (eFz (eVar 1)) (aCons (eFz (eTup (aCons (eFz (eTup (aCons (eFz (eC (.bool true))) (aCons (eFz (eVar 4)) aNil)))) aNil))) aNil)))) (aCons (eFz (eTup (aCons (eFz (eVar 1)) (aCons (eFz (eTup (aCons (eFz (eTup (aCons (eFz (eC (.int 0))) (aCons (eFz (eVar 4)) (aCons (eFz (eC (.int 1))) aNil))))) aNil))) aNil)))) (aCons (eFz (eTup (aCons (eFz (eVar 1)) (aCons (eFz (eBin addD (eVar 2) (eTup (aCons (eFz (eTup (aCons (eFz (eC (.int 1000001))) (aCons (eFz (eVar 4)) aNil)))) aNil)))) aNil)))) (aCons (eFz (eTup (aCons (eFz (eVar 1)) (aCons (eFz (eTup (aCons (eFz (eTup (aCons (eFz (eC (.int 0))) (aCons (eFz (eTup (aCons (eFz (eTup (aCons (eFz (eC (.str "a"))) (aCons (eFz (eVar 5)) aNil)))) (aCons (eFz (eTup (aCons (eFz (eC (.str "a"))) (aCons (eFz (eVar 5)) aNil)))) aNil)))) aNil)))) aNil))) aNil)))) (aCons (eFz (eTup (aCons (eFz (eVar 1)) (aCons (eFz (eTup (aCons (eFz (eTup (aCons (eFz (eC (.int 0))) (aCons (eFz (eTup (aCons (eFz (eTup (aCons (eFz (eC (.str "b"))) (aCons (eFz (eVar 5)) aNil)))) (aCons (eFz (eTup (aCons (eFz (eC (.str "a"))) (aCons (eFz (eVar 5)) aNil)))) aNil)))) aNil)))) aNil))) aNil)))) (aCons (eFz (eTup (aCons (eFz (eVar 1)) (aCons (eFz (eTup (aCons (eFz (eTup (aCons (eFz (eC (.int 0))) (aCons (eFz (eTup (aCons (eFz (eTup (aCons (eFz (eC (.str "A"))) (aCons (eFz (eVar 5)) aNil)))) aNil))) aNil)))) aNil))) aNil)))) (aCons (eFz (eTup (aCons (eFz (eVar 1)) (aCons (eFz (eTup (aCons (eFz (eTup (aCons (eFz (eC (.int 0))) (aCons (eFz (eTup (aCons (eFz (eTup (aCons (eFz (eC (.str "a"))) (aCons (eFz (eTup (aCons (eFz (eC (.str "up"))) (aCons (eFz (eTup aNil)) aNil)))) aNil)))) aNil))) aNil)))) aNil))) aNil)))) (aCons (eFz (eTup (aCons (eFz (eVar 1)) (aCons (eFz (eTup (aCons (eFz (eTup (aCons (eFz (eC (.int 0))) (aCons (eFz (eTup (aCons (eFz (eTup (aCons (eFz (eC (.str "a"))) aNil))) aNil))) aNil)))) aNil))) aNil)))) (aCons (eFz (eTup (aCons (eFz (eC .none)) (aCons (eFz (eVar 2)) aNil)))) aNil))))))))))))))))))))) (sSeq (sFor (iSq (eVar 6)) (gN 7) (sIf (tstB (eBin isNotD (eCall [.d] sem_is_fee_book (aCons (eFz (eVar 7)) aNil)) (eC (.bool false)))) (sRet (eC (.bool false))) sNx)) (sSeq (sSet 8 (eLc [11] (iR1 (aCons (eNrm (eC (.int 13))) aNil)) (gN 11) tYesS (eBin mulD (eC (.str "a")) (eBin addD (eVar 11) (eC (.int 1)))))) (sSeq (sSet 9 (eN tupleD (aCons (eNrm (eLc [12] (iSq (eVar 8)) (gN 12) tYesS (eTup (aCons (eFz (eVar 12)) (aCons (eFz (eVar 5)) aNil))))) aNil))) (sSeq (sSet 10 (eN tupleD (aCons (eNrm (eLc [11] (iR1 (aCons (eNrm (eC (.int 13))) aNil)) (gN 11) tYesS (eTup (aCons (eFz (eVar 11)) (aCons (eFz (eTup aNil)) aNil))))) aNil))) (sSeq (sIf (tOrS (tstB (eBin isNotD (eCall [.d] sem_is_fee_book (aCons (eFz (eTup (aCons (eFz (eVar 1)) (aCons (eFz (eTup (aCons (eFz (eTup (aCons (eFz (eC (.int 0))) (aCons (eFz (eSl (eVar 9) oNone (oSome (eC (.int 12))))) aNil)))) aNil))) aNil)))) aNil)) (eC (.bool true)))) (tstB (eBin isNotD (eCall [.d] sem_is_fee_book (aCons (eFz (eTup (aCons (eFz (eVar 1)) (aCons (eFz (eTup (aCons (eFz (eTup (aCons (eFz (eC (.int 0))) (aCons (eFz (eVar 9)) aNil)))) aNil))) aNil)))) aNil)) (eC (.bool false))))) (sRet (eC (.bool false))) sNx) (sRet (eAndB (eBin isD (eCall [.d] sem_is_fee_book (aCons (eFz (eTup (aCons (eFz (eVar 1)) (aCons (eFz (eSl (eVar 10) oNone (oSome (eC (.int 12))))) aNil)))) aNil)) (eC (.bool true))) (eBin isD (eCall [.d] sem_is_fee_book (aCons (eFz (eTup (aCons (eFz (eVar 1)) (aCons (eFz (eVar 10)) aNil)))) aNil)) (eC (.bool false)))))))))))))
def sem__law_wrong : DefSem := semOf 13 [.d] f__law_wrong
theorem sc__law_wrong : FnScope N__law_wrong ["book"] (defScope s__law_wrong) := ⟨rfl, rfl, rfl, by decide +kernel, rfl, by decide +kernel, by decide +kernel⟩
theorem ok__law_wrong {G : GG} (t : Fr G) (h_is_fee_book : DefAt G "is_fee_book" 9 5 [.d] sem_is_fee_book) : PDSs ⟨G, N__law_wrong, defScope s__law_wrong, 9, fun _ => true, none, false, true⟩ (defBody s__law_wrong) f__law_wrong :=
  pdss_cons (pds_un (vs := [1, 2]) (pd_var (i := 0) (by kernel_rfl)) (pdgc_tup (pdgs_cons (pdg_name (i := 1) (by kernel_rfl) (by decide)) (pdgs_cons (pdg_name (i := 2) (by kernel_rfl) (by decide)) pdgs_nil)))) (pdss_cons (pds_un (vs := [3, 4]) (pd_ix (pd_var (i := 2) (by kernel_rfl)) (pd_neg pd_int) (fun _ _ => rfl)) (pdgc_tup (pdgs_cons (pdg_name (i := 3) (by kernel_rfl) (by decide)) (pdgs_cons (pdg_name (i := 4) (by kernel_rfl) (by decide)) pdgs_nil)))) (pdss_cons (pds_set (i := 5) (pd_tup (pda_keep (pd_str (by kernel_rfl)) (pda_keep (pd_tup (pda_keep (pd_tup (pda_keep pd_int (pda_keep pd_int (pda_keep (pd_tup (pda_keep pd_int (pda_keep pd_int pda_nil))) pda_nil)))) pda_nil)) pda_nil))) (by kernel_rfl)) (pdss_cons (pds_set (i := 6) (pd_lst (pda_keep (pd_tup (pda_keep (pd_str (by kernel_rfl)) (pda_keep (pd_var (i := 2) (by kernel_rfl)) pda_nil))) (pda_keep (pd_tup (pda_keep (pd_var (i := 1) (by kernel_rfl)) (pda_keep (pd_b bi_list (by kernel_rfl) t.f_list (pda_cons (pd_var (i := 2) (by kernel_rfl)) pda_nil)) pda_nil))) (pda_keep (pd_tup (pda_keep (pd_var (i := 1) (by kernel_rfl)) (pda_keep (pd_tup pda_nil) pda_nil))) (pda_keep (pd_lst (pda_keep (pd_var (i := 1) (by kernel_rfl)) (pda_keep (pd_var (i := 2) (by kernel_rfl)) pda_nil))) (pda_keep (pd_tup (pda_keep (pd_var (i := 1) (by kernel_rfl)) (pda_keep (pd_var (i := 2) (by kernel_rfl)) (pda_keep pd_int pda_nil)))) (pda_keep (pd_tup (pda_keep (pd_var (i := 1) (by kernel_rfl)) (pda_keep (pd_add (pd_var (i := 2) (by kernel_rfl)) (pd_tup (pda_keep (pd_ix (pd_var (i := 2) (by kernel_rfl)) (pd_neg pd_int) (fun _ _ => rfl)) pda_nil))) pda_nil))) (pda_keep pd_non (pda_keep (pd_var (i := 1) (by kernel_rfl)) (pda_keep (pd_tup (pda_keep (pd_var (i := 1) (by kernel_rfl)) (pda_keep (pd_tup (pda_keep (pd_tup (pda_keep pd_int (pda_keep (pd_var (i := 4) (by kernel_rfl)) pda_nil))) pda_nil)) pda_nil))) (pda_keep (pd_tup (pda_keep (pd_var (i := 1) (by kernel_rfl)) (pda_keep (pd_add (pd_sl (pd_var (i := 2) (by kernel_rfl)) pdo_none (pdo_some (pd_neg pd_int))) (pd_tup (pda_keep (pd_tup (pda_keep (pd_var (i := 3) (by kernel_rfl)) (pda_keep (pd_b bi_list (by kernel_rfl) t.f_list (pda_cons (pd_var (i := 4) (by kernel_rfl)) pda_nil)) pda_nil))) pda_nil))) pda_nil))) (pda_keep (pd_tup (pda_keep (pd_var (i := 1) (by kernel_rfl)) (pda_keep (pd_tup (pda_keep (pd_tup (pda_keep pd_bl (pda_keep (pd_var (i := 4) (by kernel_rfl)) pda_nil))) pda_nil)) pda_nil))) (pda_keep (pd_tup (pda_keep (pd_var (i := 1) (by kernel_rfl)) (pda_keep (pd_tup (pda_keep (pd_tup (pda_keep pd_int (pda_keep (pd_var (i := 4) (by kernel_rfl)) (pda_keep pd_int pda_nil)))) pda_nil)) pda_nil))) (pda_keep (pd_tup (pda_keep (pd_var (i := 1) (by kernel_rfl)) (pda_keep (pd_add (pd_var (i := 2) (by kernel_rfl)) (pd_tup (pda_keep (pd_tup (pda_keep pd_int (pda_keep (pd_var (i := 4) (by kernel_rfl)) pda_nil))) pda_nil))) pda_nil))) (pda_keep (pd_tup (pda_keep (pd_var (i := 1) (by kernel_rfl)) (pda_keep (pd_tup (pda_keep (pd_tup (pda_keep pd_int (pda_keep (pd_tup (pda_keep (pd_tup (pda_keep (pd_str (by kernel_rfl)) (pda_keep (pd_var (i := 5) (by kernel_rfl)) pda_nil))) (pda_keep (pd_tup (pda_keep (pd_str (by kernel_rfl)) (pda_keep (pd_var (i := 5) (by kernel_rfl)) pda_nil))) pda_nil))) pda_nil))) pda_nil)) pda_nil))) (pda_keep (pd_tup (pda_keep (pd_var (i := 1) (by kernel_rfl)) (pda_keep (pd_tup (pda_keep (pd_tup (pda_keep pd_int (pda_keep (pd_tup (pda_keep (pd_tup (pda_keep (pd_str (by kernel_rfl)) (pda_keep (pd_var (i := 5) (by kernel_rfl)) pda_nil))) (pda_keep (pd_tup (pda_keep (pd_str (by kernel_rfl)) (pda_keep (pd_var (i := 5) (by kernel_rfl)) pda_nil))) pda_nil))) pda_nil))) pda_nil)) pda_nil))) (pda_keep (pd_tup (pda_keep (pd_var (i := 1) (by kernel_rfl)) (pda_keep (pd_tup (pda_keep (pd_tup (pda_keep pd_int (pda_keep (pd_tup (pda_keep (pd_tup (pda_keep (pd_str (by kernel_rfl)) (pda_keep (pd_var (i := 5) (by kernel_rfl)) pda_nil))) pda_nil)) pda_nil))) pda_nil)) pda_nil))) (pda_keep (pd_tup (pda_keep (pd_var (i := 1) (by kernel_rfl)) (pda_keep (pd_tup (pda_keep (pd_tup (pda_keep pd_int (pda_keep (pd_tup (pda_keep (pd_tup (pda_keep (pd_str (by kernel_rfl)) (pda_keep (pd_tup (pda_keep (pd_str (by kernel_rfl)) (pda_keep (pd_tup pda_nil) pda_nil))) pda_nil))) pda_nil)) pda_nil))) pda_nil)) pda_nil))) (pda_keep (pd_tup (pda_keep (pd_var (i := 1) (by kernel_rfl)) (pda_keep (pd_tup (pda_keep (pd_tup (pda_keep pd_int (pda_keep (pd_tup (pda_keep (pd_tup (pda_keep (pd_str (by kernel_rfl)) pda_nil)) pda_nil)) pda_nil))) pda_nil)) pda_nil))) (pda_keep (pd_tup (pda_keep pd_non (pda_keep (pd_var (i := 2) (by kernel_rfl)) pda_nil))) pda_nil)))))))))))))))))))) (by kernel_rfl)) (pdss_cons (pds_for (vs := [7]) (pdi_seq (pd_var (i := 6) (by kernel_rfl))) (pdg_name (i := 7) (by kernel_rfl) (by decide)) (pdss_one (pds_if (pdt_c cmp_isNot (pd_call h_is_fee_book (Nat.le_of_ble_eq_true rfl) (by kernel_rfl) (pda_keep (pd_var (i := 7) (by kernel_rfl)) pda_nil)) pd_bl) (pdss_one (pds_ret pd_bl)) pdss_nil))) (pdss_cons (pds_setLc (i := 8) (own := [("k", 11)]) (by kernel_rfl) (pdi_range1 (by kernel_rfl) t.f_range (pda_cons pd_int pda_nil)) (by kernel_rfl) (pdg_name (i := 11) (by kernel_rfl) (by decide)) pdts_nil (pd_mul (pd_str (by kernel_rfl)) (pd_add (pd_var (i := 11) (by kernel_rfl)) pd_int))) (pdss_cons (pds_set (i := 9) (pd_b bi_tuple (by kernel_rfl) t.f_tuple (pda_cons (pd_lc (own := [("name", 12)]) (pdi_seq (pd_var (i := 8) (by kernel_rfl))) (by kernel_rfl) (pdg_name (i := 12) (by kernel_rfl) (by decide)) pdts_nil (pd_tup (pda_keep (pd_var (i := 12) (by kernel_rfl)) (pda_keep (pd_var (i := 5) (by kernel_rfl)) pda_nil)))) pda_nil)) (by kernel_rfl)) (pdss_cons (pds_set (i := 10) (pd_b bi_tuple (by kernel_rfl) t.f_tuple (pda_cons (pd_lc (own := [("k", 11)]) (pdi_range1 (by kernel_rfl) t.f_range (pda_cons pd_int pda_nil)) (by kernel_rfl) (pdg_name (i := 11) (by kernel_rfl) (by decide)) pdts_nil (pd_tup (pda_keep (pd_var (i := 11) (by kernel_rfl)) (pda_keep (pd_tup pda_nil) pda_nil)))) pda_nil)) (by kernel_rfl)) (pdss_cons (pds_if (PDW.t (pdw_or (pdt_c cmp_isNot (pd_call h_is_fee_book (Nat.le_of_ble_eq_true rfl) (by kernel_rfl) (pda_keep (pd_tup (pda_keep (pd_var (i := 1) (by kernel_rfl)) (pda_keep (pd_tup (pda_keep (pd_tup (pda_keep pd_int (pda_keep (pd_sl (pd_var (i := 9) (by kernel_rfl)) pdo_none (pdo_some pd_int)) pda_nil))) pda_nil)) pda_nil))) pda_nil)) pd_bl) (pdw_or1 (pdt_c cmp_isNot (pd_call h_is_fee_book (Nat.le_of_ble_eq_true rfl) (by kernel_rfl) (pda_keep (pd_tup (pda_keep (pd_var (i := 1) (by kernel_rfl)) (pda_keep (pd_tup (pda_keep (pd_tup (pda_keep pd_int (pda_keep (pd_var (i := 9) (by kernel_rfl)) pda_nil))) pda_nil)) pda_nil))) pda_nil)) pd_bl)))) (pdss_one (pds_ret pd_bl)) pdss_nil) (pdss_one (pds_ret (pd_and (pd_c cmp_is (pd_call h_is_fee_book (Nat.le_of_ble_eq_true rfl) (by kernel_rfl) (pda_keep (pd_tup (pda_keep (pd_var (i := 1) (by kernel_rfl)) (pda_keep (pd_sl (pd_var (i := 10) (by kernel_rfl)) pdo_none (pdo_some pd_int)) pda_nil))) pda_nil)) pd_bl) (pd_one (pd_c cmp_is (pd_call h_is_fee_book (Nat.le_of_ble_eq_true rfl) (by kernel_rfl) (pda_keep (pd_tup (pda_keep (pd_var (i := 1) (by kernel_rfl)) (pda_keep (pd_var (i := 10) (by kernel_rfl)) pda_nil))) pda_nil)) pd_bl)))))))))))))
abbrev s_law : Stmt := top 48
def N_law : List Str := ["script", "draws", "turn", "book", "other", "days", "row", "k", "name", "value", "begun", "filed", "one"]
def f_law : Env → So := sSeq (sOwn 1 (eCall [.sc] sem__law_open (aSc 0 aNil))) (sSeq (sFor (iR1 (aCons (eNrm (eBin addD (eC (.int 1)) (eCall [.io, .d] sem__law_draw (aCons (eNrm (eVar 1)) (aCons (eFz (eC (.int 3))) aNil))))) aNil)) (gN 2) (sSeq (sSet 3 (eCall [.io] sem__law_book (aCons (eNrm (eVar 1)) aNil))) (sSeq (sIf (tOrS (tstB (eBin isNotD (eCall [.d] sem_is_fee_book (aCons (eFz (eVar 3)) aNil)) (eC (.bool true)))) (tNotS (tstV (eCall [.d] sem__law_wrong (aCons (eFz (eVar 3)) aNil))))) (sRet (eC (.bool false))) sNx) (sSeq (sSet 4 (eCall [.d, .io] sem__law_cut (aCons (eFz (eVar 3)) (aCons (eNrm (eVar 1)) aNil)))) (sSeq (sSet 5 (eLst (aCons (eFz (eC (.int 0))) (aCons (eFz (eC (.int 1000000))) (aCons (eFz (eCall [.io, .d] sem__law_draw (aCons (eNrm (eVar 1)) (aCons (eFz (eC (.int 1000001))) aNil)))) (aCons (eFz (eCall [.io, .d] sem__law_draw (aCons (eNrm (eVar 1)) (aCons (eFz (eC (.int 12))) aNil)))) aNil)))))) (sSeq (sFor (iSq (eBin ixD (eVar 3) (eC (.int 1)))) (gN 6) (sSet 5 (eBin addD (eVar 5) (eLst (aCons (eFz (eBin ixD (eVar 6) (eC (.int 0)))) (aCons (eFz (eN max2D (aCons (eNrm (eC (.int 0))) (aCons (eNrm (eBin subD (eBin ixD (eVar 6) (eC (.int 0))) (eC (.int 1)))) aNil)))) aNil)))))) (sFor (iR1 (aCons (eNrm (eC (.int 8))) aNil)) (gN 7) (sSeq (sSet 8 (eBin ixD (eLst (aCons (eFz (eC (.str "appeal"))) (aCons (eFz (eC (.str "claim"))) (aCons (eFz (eC (.str "copy"))) (aCons (eFz (eC (.str "hear"))) (aCons (eFz (eC (.str "stay"))) (aCons (eFz (eC (.str "z"))) (aCons (eFz (eC (.str "none"))) aNil)))))))) (eCall [.io, .d] sem__law_draw (aCons (eNrm (eVar 1)) (aCons (eFz (eC (.int 7))) aNil))))) (sSeq (sSet 9 (eCall [.io, .d] sem__law_draw (aCons (eNrm (eVar 1)) (aCons (eFz (eBin ixD (eLst (aCons (eFz (eC (.int 300))) (aCons (eFz (eBin addD (eBin powD (eC (.int 10)) (eC (.int 12))) (eC (.int 1)))) aNil))) (eCall [.io, .d] sem__law_draw (aCons (eNrm (eVar 1)) (aCons (eFz (eC (.int 2))) aNil))))) aNil)))) (sSeq (sSet 10 (eBin ixD (eVar 5) (eCall [.io, .d] sem__law_draw (aCons (eNrm (eVar 1)) (aCons (eFz (eN lenD (aCons (eNrm (eVar 5)) aNil))) aNil))))) (sSeq (sSet 11 (eBin ixD (eVar 5) (eCall [.io, .d] sem__law_draw (aCons (eNrm (eVar 1)) (aCons (eFz (eN lenD (aCons (eNrm (eVar 5)) aNil))) aNil))))) (sSeq (sIf (tstB (eBin gtD (eCall [.io, .d] sem__law_draw (aCons (eNrm (eVar 1)) (aCons (eFz (eC (.int 4))) aNil))) (eC (.int 0)))) (sPar 10 11 (aCons (eFz (eN min2D (aCons (eNrm (eVar 10)) (aCons (eNrm (eVar 11)) aNil)))) (aCons (eFz (eN max2D (aCons (eNrm (eVar 10)) (aCons (eNrm (eVar 11)) aNil)))) aNil))) sNx) (sFor (iSq (eLst (aCons (eFz (eVar 3)) (aCons (eFz (eVar 4)) aNil)))) (gN 12) (sIf (tNotS (tstV (eCall [.d, .d, .d, .d, .d] sem__law_asked (aCons (eFz (eVar 12)) (aCons (eFz (eVar 8)) (aCons (eFz (eVar 9)) (aCons (eFz (eVar 10)) (aCons (eFz (eVar 11)) aNil)))))))) (sRet (eC (.bool false))) sNx)))))))))))))) (sRet (eC (.bool true))))
def sem_law : DefSem := semOf 13 [.sc] f_law
theorem sc_law : FnScope N_law ["script"] (defScope s_law) := ⟨rfl, rfl, rfl, by decide +kernel, rfl, by decide +kernel, by decide +kernel⟩
theorem ok_law {G : GG} (t : Fr G) (h_is_fee_book : DefAt G "is_fee_book" 9 5 [.d] sem_is_fee_book) (h__law_open : DefAt G "_law_open" 1 3 [.sc] sem__law_open) (h__law_draw : DefAt G "_law_draw" 2 6 [.io, .d] sem__law_draw) (h__law_book : DefAt G "_law_book" 4 4 [.io] sem__law_book) (h__law_asked : DefAt G "_law_asked" 6 8 [.d, .d, .d, .d, .d] sem__law_asked) (h__law_cut : DefAt G "_law_cut" 3 7 [.d, .io] sem__law_cut) (h__law_wrong : DefAt G "_law_wrong" 10 13 [.d] sem__law_wrong) : PDSs ⟨G, N_law, defScope s_law, 10, fun _ => true, none, false, true⟩ (defBody s_law) f_law :=
  pdss_cons (pds_own (i := 1) (pd_call h__law_open (Nat.le_of_ble_eq_true rfl) (by kernel_rfl) (pda_sc (i := 0) (by kernel_rfl) pda_nil)) (by kernel_rfl)) (pdss_cons (pds_for (vs := [2]) (pdi_range1 (by kernel_rfl) t.f_range (pda_cons (pd_add pd_int (pd_call h__law_draw (Nat.le_of_ble_eq_true rfl) (by kernel_rfl) (pda_cons (pd_var (i := 1) (by kernel_rfl)) (pda_keep pd_int pda_nil)))) pda_nil)) (pdg_name (i := 2) (by kernel_rfl) (by decide)) (pdss_cons (pds_set (i := 3) (pd_call h__law_book (Nat.le_of_ble_eq_true rfl) (by kernel_rfl) (pda_cons (pd_var (i := 1) (by kernel_rfl)) pda_nil)) (by kernel_rfl)) (pdss_cons (pds_if (PDW.t (pdw_or (pdt_c cmp_isNot (pd_call h_is_fee_book (Nat.le_of_ble_eq_true rfl) (by kernel_rfl) (pda_keep (pd_var (i := 3) (by kernel_rfl)) pda_nil)) pd_bl) (pdw_or1 (pdt_not (pdt_truth (pd_call h__law_wrong (Nat.le_of_ble_eq_true rfl) (by kernel_rfl) (pda_keep (pd_var (i := 3) (by kernel_rfl)) pda_nil))))))) (pdss_one (pds_ret pd_bl)) pdss_nil) (pdss_cons (pds_set (i := 4) (pd_call h__law_cut (Nat.le_of_ble_eq_true rfl) (by kernel_rfl) (pda_keep (pd_var (i := 3) (by kernel_rfl)) (pda_cons (pd_var (i := 1) (by kernel_rfl)) pda_nil))) (by kernel_rfl)) (pdss_cons (pds_set (i := 5) (pd_lst (pda_keep pd_int (pda_keep pd_int (pda_keep (pd_call h__law_draw (Nat.le_of_ble_eq_true rfl) (by kernel_rfl) (pda_cons (pd_var (i := 1) (by kernel_rfl)) (pda_keep pd_int pda_nil))) (pda_keep (pd_call h__law_draw (Nat.le_of_ble_eq_true rfl) (by kernel_rfl) (pda_cons (pd_var (i := 1) (by kernel_rfl)) (pda_keep pd_int pda_nil))) pda_nil))))) (by kernel_rfl)) (pdss_cons (pds_for (vs := [6]) (pdi_seq (pd_ix (pd_var (i := 3) (by kernel_rfl)) pd_int (fun _ _ => rfl))) (pdg_name (i := 6) (by kernel_rfl) (by decide)) (pdss_one (pds_set (i := 5) (pd_add (pd_var (i := 5) (by kernel_rfl)) (pd_lst (pda_keep (pd_ix (pd_var (i := 6) (by kernel_rfl)) pd_int (fun _ _ => rfl)) (pda_keep (pd_b bi_max2 (by kernel_rfl) t.f_max (pda_cons pd_int (pda_cons (pd_sub (pd_ix (pd_var (i := 6) (by kernel_rfl)) pd_int (fun _ _ => rfl)) pd_int) pda_nil))) pda_nil)))) (by kernel_rfl)))) (pdss_one (pds_for (vs := [7]) (pdi_range1 (by kernel_rfl) t.f_range (pda_cons pd_int pda_nil)) (pdg_name (i := 7) (by kernel_rfl) (by decide)) (pdss_cons (pds_set (i := 8) (pd_ix (pd_lst (pda_keep (pd_str (by kernel_rfl)) (pda_keep (pd_str (by kernel_rfl)) (pda_keep (pd_str (by kernel_rfl)) (pda_keep (pd_str (by kernel_rfl)) (pda_keep (pd_str (by kernel_rfl)) (pda_keep (pd_str (by kernel_rfl)) (pda_keep (pd_str (by kernel_rfl)) pda_nil)))))))) (pd_call h__law_draw (Nat.le_of_ble_eq_true rfl) (by kernel_rfl) (pda_cons (pd_var (i := 1) (by kernel_rfl)) (pda_keep pd_int pda_nil))) (fun _ _ => rfl)) (by kernel_rfl)) (pdss_cons (pds_set (i := 9) (pd_call h__law_draw (Nat.le_of_ble_eq_true rfl) (by kernel_rfl) (pda_cons (pd_var (i := 1) (by kernel_rfl)) (pda_keep (pd_ix (pd_lst (pda_keep pd_int (pda_keep (pd_add (pd_pow pd_int pd_int) pd_int) pda_nil))) (pd_call h__law_draw (Nat.le_of_ble_eq_true rfl) (by kernel_rfl) (pda_cons (pd_var (i := 1) (by kernel_rfl)) (pda_keep pd_int pda_nil))) (fun _ _ => rfl)) pda_nil))) (by kernel_rfl)) (pdss_cons (pds_set (i := 10) (pd_ix (pd_var (i := 5) (by kernel_rfl)) (pd_call h__law_draw (Nat.le_of_ble_eq_true rfl) (by kernel_rfl) (pda_cons (pd_var (i := 1) (by kernel_rfl)) (pda_keep (pd_b bi_len (by kernel_rfl) t.f_len (pda_cons (pd_var (i := 5) (by kernel_rfl)) pda_nil)) pda_nil))) (fun _ _ => rfl)) (by kernel_rfl)) (pdss_cons (pds_set (i := 11) (pd_ix (pd_var (i := 5) (by kernel_rfl)) (pd_call h__law_draw (Nat.le_of_ble_eq_true rfl) (by kernel_rfl) (pda_cons (pd_var (i := 1) (by kernel_rfl)) (pda_keep (pd_b bi_len (by kernel_rfl) t.f_len (pda_cons (pd_var (i := 5) (by kernel_rfl)) pda_nil)) pda_nil))) (fun _ _ => rfl)) (by kernel_rfl)) (pdss_cons (pds_if (pdt_c cmp_gt (pd_call h__law_draw (Nat.le_of_ble_eq_true rfl) (by kernel_rfl) (pda_cons (pd_var (i := 1) (by kernel_rfl)) (pda_keep pd_int pda_nil))) pd_int) (pdss_one (pds_par (i := 10) (j := 11) (pda_keep (pd_b bi_min2 (by kernel_rfl) t.f_min (pda_cons (pd_var (i := 10) (by kernel_rfl)) (pda_cons (pd_var (i := 11) (by kernel_rfl)) pda_nil))) (pda_keep (pd_b bi_max2 (by kernel_rfl) t.f_max (pda_cons (pd_var (i := 10) (by kernel_rfl)) (pda_cons (pd_var (i := 11) (by kernel_rfl)) pda_nil))) pda_nil)) rfl rfl rfl (by decide) (by kernel_rfl) (by kernel_rfl) (by intro env h; unfold swappedStores PySem.Env.blockKind PySem.Env.kindOf; simp only [h]; rfl))) pdss_nil) (pdss_one (pds_for (vs := [12]) (pdi_seq (pd_lst (pda_keep (pd_var (i := 3) (by kernel_rfl)) (pda_keep (pd_var (i := 4) (by kernel_rfl)) pda_nil)))) (pdg_name (i := 12) (by kernel_rfl) (by decide)) (pdss_one (pds_if (pdt_not (pdt_truth (pd_call h__law_asked (Nat.le_of_ble_eq_true rfl) (by kernel_rfl) (pda_keep (pd_var (i := 12) (by kernel_rfl)) (pda_keep (pd_var (i := 8) (by kernel_rfl)) (pda_keep (pd_var (i := 9) (by kernel_rfl)) (pda_keep (pd_var (i := 10) (by kernel_rfl)) (pda_keep (pd_var (i := 11) (by kernel_rfl)) pda_nil)))))))) (pdss_one (pds_ret pd_bl)) pdss_nil))))))))))))))))) (pdss_one (pds_ret pd_bl)))
end PL.K47
end
section
set_option Elab.async false
set_option linter.all false
set_option maxRecDepth 100000
set_option maxHeartbeats 2000000
set_option autoImplicit false
/-! A display of a dict that is asked at once, as a plain function. -/
namespace PL
open PySem L2
namespace X
def dixK (zs : List Str) (ds : List D) : D → X O
  | .str y => match look zs ds y none with
    | some d => .ok (.fz d)
    | none => .bad
  | _ => .bad
def dix (zs : List Str) (ms : X (List D)) (mb : X O) : X O := ms.bind fun ds => mb.bind fun o => dixK zs ds o.dat
@[simp] theorem dix_ok (zs : List Str) (ds : List D) (o : O) : dix zs (.ok ds) (.ok o) = dixK zs ds o.dat := rfl
end X
section
variable {E : EP} {L : Pat} {b : Env → R W} {mb : X O} {fa : Env → R (List W)} {ms : X (List D)}
theorem px_dix {zs : List Str} (ha : PAv E L L fa ms) (hb : PXw E L b mb) : PX E L L (eDix zs fa b) (X.dix zs ms mb) := fun ρ f => by
  refine RX.bind (ha ρ f) fun ds ws ρ1 ⟨f1, h1⟩ => RX.bind (hb.n ρ1 f1) fun o w ρ2 ⟨f2, h2⟩ => ?_
  simp only [h1, h2 ρ2 f2]
  cases o.dat with
  | str y =>
    unfold X.dixK
    cases el : look zs ds y none with
    | none => simp only [el]; exact RX.bad
    | some d => simp only [el]; exact RX.ok ⟨rfl, f2⟩
  | _ => exact RX.bad
end
namespace X
def par {β : Type} (ms : X (List D)) (K : D → D → X β) : X β := ms.bind fun ds => match ds with
  | [d, e] => K d e
  | _ => .bad
@[simp] theorem par_ok {β : Type} (d e : D) (K : D → D → X β) : par (.ok [d, e]) K = K d e := rfl
end X
section
variable {S B T : Type} {c : BC S B T} {L L1 : Pat} {t : Env → So} {i j : Nat} {fa : Env → R (List W)} {ms : X (List D)}
theorem bx_par {K : D → D → X (Fl S B T)} (h : PAv c.E L L1 fa ms) (hi : Nat.ble (i + 1) L1.length = true) (hj : Nat.ble (j + 1) L1.length = true)
    (ht : ∀ d e, BX c ((L1.put i (some (.fz d))).put j (some (.fz e))) t (K d e)) : BX c L (sSeq (sPar i j fa) t) (X.par ms K) := by
  refine BX.evs fun ρ fr => ?_
  have z := h ρ fr
  cases ms with
  | bad => exact .inl rfl
  | exc k => obtain ⟨ρ', e1, f1⟩ := z; exact .inr (.inl ⟨k, ρ', rfl, e1, f1⟩)
  | ok ds =>
    obtain ⟨ws, ρ', e1, f1, hw⟩ := z
    refine .inr (.inr ⟨ws, ρ', L1, e1, f1, fun ρ2 f2 => ?_⟩)
    show SRx c ((stPar i j ws ρ2).seq t) (X.par (.ok ds) K)
    clear h
    match ds, hw with
    | [d, e], hw =>
      show SRx c _ (K d e)
      have q : stPar i j ws ρ2 = .nx ((ρ2.set i (.fz d)).set j (.fz e)) := by
        unfold stPar
        rw [hw]
        exact if_pos ⟨len_of f2 hi, len_of f2 hj⟩
      rw [q]
      exact ht d e _ ((f2.put i _).put j _)
    | [], _ => trivial
    | [_], _ => trivial
    | _ :: _ :: _ :: _, _ => trivial
end
namespace X
def asStr : O → X (List D)
  | .fz (.str z) => if (signs z).all PyData.strOk = true then .ok ((signs z).map PyData.str) else .bad
  | _ => .bad
def strI (m : X O) : X (List D) := m.bind asStr
@[simp] theorem strI_ok (z : Str) : strI (.ok (.fz (.str z))) = if (signs z).all PyData.strOk = true then .ok ((signs z).map PyData.str) else .bad := rfl
end X
theorem pi_st {E : EP} {L L2 : Pat} {a : Env → R W} {ma : X O} (h : PF E L L2 a ma) : PIx E L L2 (iSt a) (X.strI ma) := fun ρ f => by
  refine RX.bind (h ρ f) fun o w ρ1 ⟨h1, f1⟩ => ?_
  rw [h1]
  cases o with
  | fl xs => exact RX.bad
  | tp ps => exact RX.bad
  | fz d =>
    cases d with
    | str z =>
      show RX E _ (if (signs z).all PyData.strOk = true then R.ok ((signs z).map PyData.str) ρ1 else .bad) (if (signs z).all PyData.strOk = true then .ok ((signs z).map PyData.str) else .bad)
      by_cases c : (signs z).all PyData.strOk = true
      · rw [if_pos c, if_pos c]; exact RX.ok ⟨rfl, f1⟩
      · rw [if_neg c, if_neg c]; exact RX.bad
    | _ => exact RX.bad
end PL
end
section
set_option Elab.async false
set_option linter.all false
set_option maxRecDepth 100000
set_option maxHeartbeats 4000000
set_option autoImplicit false
namespace PL.K47
open PySem L2 PL

def g_is_number : List D → X O := X.pD fun value' => X.pD fun least' => X.pD fun most' => X.p0 (X.fin (X.ret (X.and (X.isi "int" (X.v value')) (X.and (X.not (X.isi "bool" (X.v value'))) (X.ch2 leD leD (X.v least') (X.v value') (X.v most'))))))
theorem z_is_number : Sem0 sem_is_number g_is_number := sem0_fn rfl (ent_d fun value' => ent_d fun least' => ent_d fun most' => ent_f0 (bx_ret (r := fun o => o) (px_and (PX.w (px_isi (PX.w (px_var rfl)))) (px_and (PX.w (px_not (PX.w (px_isi (PX.w (px_var rfl)))))) (px_ch2 (PX.w (px_var rfl)) (PX.w (px_var rfl)) (PX.w (px_var rfl))))) (fun o ρ _ => rt0_o rfl o ρ)))
abbrev c_is_name_1 : D → X (Option Bool) := fun sign' => X.try_ (.ok true) (X.tB (X.ch2 leD leD (X.v (.str "a")) (X.v sign') (X.v (.str "z"))))
def g_is_name : List D → X O := X.pD fun value' => X.p0 (X.fin (X.ret (X.and (X.isi "str" (X.v value')) (X.and (X.ch2 leD leD (X.v (.int 1)) (X.opN lenD (X.cons (X.v value') X.nil)) (X.v (.int 16))) (X.gen false (X.strI (X.v value')) c_is_name_1)))))
theorem z_is_name : Sem0 sem_is_name g_is_name := sem0_fn rfl (ent_d fun value' => ent_f0 (bx_ret (r := fun o => o) (px_and (PX.w (px_isi (PX.w (px_var rfl)))) (px_and (PX.w (px_ch2 (PX.w px_c) (PX.w (px_n (pan_cons (PX.w (px_var rfl)) pan_nil))) (PX.w px_c))) (px_gen (pi_st (PX.f (px_var rfl))) (fun sign' => gk_n rfl ⟨_, _, rfl, pt_yes, pt_B (PX.w (px_ch2 (PX.w px_c) (PX.w (px_var rfl)) (PX.w px_c))), rfl⟩)))) (fun o ρ _ => rt0_o rfl o ρ)))
abbrev b_is_fraction_1 : D → Unit → X (Fl Unit Unit O) := fun one' _ => X.iff_ (X.tOr (X.tNot (X.tV (X.isi "int" (X.v one')))) (X.tV (X.isi "bool" (X.v one')))) (X.ret (X.v (.bool false))) (X.ok (Fl.nx ()))
def g_is_fraction : List D → X O := X.pD fun value' => X.p0 (X.fin (X.iff_ (X.tOr (X.tNot (X.tV (X.isi "tuple" (X.v value')))) (X.tB (X.op2 neD (X.opN lenD (X.cons (X.v value') X.nil)) (X.v (.int 2))))) (X.ret (X.v (.bool false))) (X.letD (X.v value') fun d1 => X.un2 d1 fun part' whole' => X.seqF (X.for_ (X.seqI (X.v value')) () b_is_fraction_1) fun _ => X.ret (X.and (X.ch2 leD leD (X.op1 negD (X.v (.int 1000000000000000000000000000000000000000000000000000000000000))) (X.v part') (X.v (.int 1000000000000000000000000000000000000000000000000000000000000))) (X.and (X.ch2 leD leD (X.v (.int 1)) (X.v whole') (X.v (.int 1000000000000000000000000000000000000000000000000000000000000))) (X.op2 eqD (X.opN gcdD (X.cons (X.v part') (X.cons (X.v whole') X.nil))) (X.v (.int 1))))))))
theorem z_is_fraction : Sem0 sem_is_fraction g_is_fraction := sem0_fn rfl (ent_d fun value' => ent_f0 (bx_ifx (kt_pt (pt_or (pt_not (pt_V (PX.w (px_isi (PX.w (px_var rfl)))))) (pt_B (PX.w (px_bin (PX.w (px_n (pan_cons (PX.w (px_var rfl)) pan_nil))) (PX.w px_c))))) (fun _ => ⟨_, _, rfl, bx_ret (r := fun o => o) px_c (fun o ρ _ => rt0_o rfl o ρ), bx_un (PX.w (px_var rfl)) (fun d1 => gk_un2 (fun part' whole' => gk_n rfl (gk_n rfl (bx_seq (fun _ => [some (.fz value'), some (.fz part'), some (.fz whole'), none]) (bx_for (pi_sq (PX.f (px_var rfl))) (.eq (.eq (.eq (.un .nil)))) (fun one' _ => gk_n rfl (bx_ifl (kt_pt (pt_or (pt_not (pt_V (PX.w (px_isi (PX.w (px_var rfl)))))) (pt_V (PX.w (px_isi (PX.w (px_var rfl)))))) (fun _ => ⟨_, _, rfl, bx_ret (r := fun o => o) px_c (fun o ρ _ => rt0_o rfl o ρ), bx_nx (.eq (.eq (.eq (.un .nil))))⟩))))) (fun _ => bx_ret (r := fun o => o) (px_and (PX.w (px_ch2 (PX.w (px_un (PX.w px_c))) (PX.w (px_var rfl)) (PX.w px_c))) (px_and (PX.w (px_ch2 (PX.w px_c) (PX.w (px_var rfl)) (PX.w px_c))) (px_bin (PX.w (px_n (pan_cons (PX.w (px_var rfl)) (pan_cons (PX.w (px_var rfl)) pan_nil)))) (PX.w px_c)))) (fun o ρ _ => rt0_o rfl o ρ))))))⟩)) xt_ret))
def g_lowest : List D → X O := X.pD fun part' => X.pD fun whole' => X.p0 (X.fin (X.letD (X.opN gcdD (X.cons (X.v part') (X.cons (X.v whole') X.nil))) fun common' => X.seqF (X.iff_ (X.tB (X.op2 ltD (X.v whole') (X.v (.int 0)))) (X.letD (X.op1 negD (X.v common')) fun common' => X.ok (Fl.nx common')) (X.ok (Fl.nx common'))) fun common' => X.ret (X.tup (X.cons (X.op2 fdivD (X.v part') (X.v common')) (X.cons (X.op2 fdivD (X.v whole') (X.v common')) X.nil)))))
theorem z_lowest : Sem0 sem_lowest g_lowest := sem0_fn rfl (ent_d fun part' => ent_d fun whole' => ent_f0 (bx_set (PX.f (px_n (pan_cons (PX.w (px_var rfl)) (pan_cons (PX.w (px_var rfl)) pan_nil)))) rfl (fun common' => bx_seq (fun common' => [some (.fz part'), some (.fz whole'), some (.fz common')]) (bx_ifl (kt_pt (pt_B (PX.w (px_bin (PX.w (px_var rfl)) (PX.w px_c)))) (fun _ => ⟨_, _, rfl, bx_one (bx_set (PX.f (px_un (PX.w (px_var rfl)))) rfl (fun common' => bx_nx (.eq (.eq (.eq .nil))))), bx_nx (.eq (.eq (.eq .nil)))⟩))) (fun common' => bx_ret (r := fun o => o) (px_tup (pav_cons (PX.f (px_bin (PX.w (px_var rfl)) (PX.w (px_var rfl)))) (pav_cons (PX.f (px_bin (PX.w (px_var rfl)) (PX.w (px_var rfl)))) pav_nil))) (fun o ρ _ => rt0_o rfl o ρ)))))
def g_times : List D → X O := X.pD fun one' => X.pD fun other' => X.p0 (X.fin (X.ret (X.call g_lowest (X.cons (X.op2 mulD (X.op2 ixD (X.v one') (X.v (.int 0))) (X.op2 ixD (X.v other') (X.v (.int 0)))) (X.cons (X.op2 mulD (X.op2 ixD (X.v one') (X.v (.int 1))) (X.op2 ixD (X.v other') (X.v (.int 1)))) X.nil)))))
theorem z_times : Sem0 sem_times g_times := sem0_fn rfl (ent_d fun one' => ent_d fun other' => ent_f0 (bx_ret (r := fun o => o) (px_call z_lowest (pad_cons (PX.f (px_bin (PX.w (px_bin (PX.w (px_var rfl)) (PX.w px_c))) (PX.w (px_bin (PX.w (px_var rfl)) (PX.w px_c))))) (pad_cons (PX.f (px_bin (PX.w (px_bin (PX.w (px_var rfl)) (PX.w px_c))) (PX.w (px_bin (PX.w (px_var rfl)) (PX.w px_c))))) pad_nil)) cov_any) (fun o ρ _ => rt0_o rfl o ρ)))
def g_rounded : List D → X O := X.pD fun fraction' => X.pD fun way' => X.p0 (X.fin (X.letD (X.v fraction') fun d1 => X.un2 d1 fun part' whole' => X.letD (X.op2 fdivD (X.v part') (X.v whole')) fun low' => X.iff_ (X.tB (X.op2 eqD (X.v way') (X.v (.str "down")))) (X.ret (X.v low')) (X.iff_ (X.tB (X.op2 eqD (X.v way') (X.v (.str "up")))) (X.ret (X.op1 negD (X.op2 fdivD (X.op1 negD (X.v part')) (X.v whole')))) (X.iff_ (X.tB (X.op2 neD (X.v way') (X.v (.str "near")))) (X.exc "NotThere") (X.letD (X.op2 mulD (X.v (.int 2)) (X.op2 subD (X.v part') (X.op2 mulD (X.v low') (X.v whole')))) fun double' => X.iff_ (X.tOr (X.tB (X.op2 ltD (X.v double') (X.v whole'))) (X.tAnd (X.tB (X.op2 eqD (X.v double') (X.v whole'))) (X.tB (X.op2 eqD (X.op2 modD (X.v low') (X.v (.int 2))) (X.v (.int 0)))))) (X.ret (X.v low')) (X.ret (X.op2 addD (X.v low') (X.v (.int 1)))))))))
theorem z_rounded : Sem0 sem_rounded g_rounded := sem0_fn rfl (ent_d fun fraction' => ent_d fun way' => ent_f0 (bx_un (PX.w (px_var rfl)) (fun d1 => gk_un2 (fun part' whole' => gk_n rfl (gk_n rfl (bx_nm (L2 := [some (.fz fraction'), some (.fz way'), some (.fz part'), some (.fz whole'), none, none]) rfl (bx_set (PX.f (px_bin (PX.w (px_var rfl)) (PX.w (px_var rfl)))) rfl (fun low' => bx_nm (L2 := [some (.fz fraction'), some (.fz way'), some (.fz part'), some (.fz whole'), some (.fz low'), none]) rfl (bx_ifx (kt_pt (pt_B (PX.w (px_bin (PX.w (px_var rfl)) (PX.w px_c)))) (fun _ => ⟨_, _, rfl, bx_ret (r := fun o => o) (px_var rfl) (fun o ρ _ => rt0_o rfl o ρ), bx_ifx (kt_pt (pt_B (PX.w (px_bin (PX.w (px_var rfl)) (PX.w px_c)))) (fun _ => ⟨_, _, rfl, bx_ret (r := fun o => o) (px_un (PX.w (px_bin (PX.w (px_un (PX.w (px_var rfl)))) (PX.w (px_var rfl))))) (fun o ρ _ => rt0_o rfl o ρ), bx_ifx (kt_pt (pt_B (PX.w (px_bin (PX.w (px_var rfl)) (PX.w px_c)))) (fun _ => ⟨_, _, rfl, bx_raise cov_any, bx_set (PX.f (px_bin (PX.w px_c) (PX.w (px_bin (PX.w (px_var rfl)) (PX.w (px_bin (PX.w (px_var rfl)) (PX.w (px_var rfl)))))))) rfl (fun double' => bx_nm (L2 := [some (.fz fraction'), some (.fz way'), some (.fz part'), some (.fz whole'), some (.fz low'), some (.fz double')]) rfl (bx_ifx (kt_pt (pt_or (pt_B (PX.w (px_bin (PX.w (px_var rfl)) (PX.w (px_var rfl))))) (pt_and (pt_B (PX.w (px_bin (PX.w (px_var rfl)) (PX.w (px_var rfl))))) (pt_B (PX.w (px_bin (PX.w (px_bin (PX.w (px_var rfl)) (PX.w px_c))) (PX.w px_c)))))) (fun _ => ⟨_, _, rfl, bx_ret (r := fun o => o) (px_var rfl) (fun o ρ _ => rt0_o rfl o ρ), bx_ret (r := fun o => o) (px_bin (PX.w (px_var rfl)) (PX.w px_c)) (fun o ρ _ => rt0_o rfl o ρ)⟩)) xt_ret))⟩)) xt_raise⟩)) xt_ret⟩)) xt_ret)))))))))
def g_is_money : List D → X O := X.pD fun value' => X.p0 (X.fin (X.ret (X.call g_is_number (X.cons (X.v value') (X.cons (X.v (.int 0)) (X.cons (X.v (.int 1000000000000)) X.nil))))))
theorem z_is_money : Sem0 sem_is_money g_is_money := sem0_fn rfl (ent_d fun value' => ent_f0 (bx_ret (r := fun o => o) (px_call z_is_number (pad_cons (PX.f (px_var rfl)) (pad_cons (PX.f px_c) (pad_cons (PX.f px_c) pad_nil))) cov_any) (fun o ρ _ => rt0_o rfl o ρ)))
def g_is_rate : List D → X O := X.pD fun value' => X.p0 (X.fin (X.ret (X.and (X.call g_is_fraction (X.cons (X.v value') X.nil)) (X.ch3 leD leD leD (X.v (.int 0)) (X.op2 ixD (X.v value') (X.v (.int 0))) (X.op2 ixD (X.v value') (X.v (.int 1))) (X.v (.int 10000))))))
theorem z_is_rate : Sem0 sem_is_rate g_is_rate := sem0_fn rfl (ent_d fun value' => ent_f0 (bx_ret (r := fun o => o) (px_and (PX.w (px_call z_is_fraction (pad_cons (PX.f (px_var rfl)) pad_nil) cov_any)) (px_ch3 (PX.w px_c) (PX.w (px_bin (PX.w (px_var rfl)) (PX.w px_c))) (PX.w (px_bin (PX.w (px_var rfl)) (PX.w px_c))) (PX.w px_c))) (fun o ρ _ => rt0_o rfl o ρ)))
def g_is_step : List D → X O := X.pD fun value' => X.p0 (X.fin (X.iff_ (X.tOr (X.tNot (X.tV (X.isi "tuple" (X.v value')))) (X.tB (X.op2 neD (X.opN lenD (X.cons (X.v value') X.nil)) (X.v (.int 3))))) (X.ret (X.v (.bool false))) (X.ret (X.and (X.call g_is_money (X.cons (X.op2 ixD (X.v value') (X.v (.int 0))) X.nil)) (X.and (X.call g_is_money (X.cons (X.op2 ixD (X.v value') (X.v (.int 1))) X.nil)) (X.call g_is_rate (X.cons (X.op2 ixD (X.v value') (X.v (.int 2))) X.nil)))))))
theorem z_is_step : Sem0 sem_is_step g_is_step := sem0_fn rfl (ent_d fun value' => ent_f0 (bx_ifx (kt_pt (pt_or (pt_not (pt_V (PX.w (px_isi (PX.w (px_var rfl)))))) (pt_B (PX.w (px_bin (PX.w (px_n (pan_cons (PX.w (px_var rfl)) pan_nil))) (PX.w px_c))))) (fun _ => ⟨_, _, rfl, bx_ret (r := fun o => o) px_c (fun o ρ _ => rt0_o rfl o ρ), bx_ret (r := fun o => o) (px_and (PX.w (px_call z_is_money (pad_cons (PX.f (px_bin (PX.w (px_var rfl)) (PX.w px_c))) pad_nil) cov_any)) (px_and (PX.w (px_call z_is_money (pad_cons (PX.f (px_bin (PX.w (px_var rfl)) (PX.w px_c))) pad_nil) cov_any)) (px_call z_is_rate (pad_cons (PX.f (px_bin (PX.w (px_var rfl)) (PX.w px_c))) pad_nil) cov_any))) (fun o ρ _ => rt0_o rfl o ρ)⟩)) xt_ret))
abbrev c_is_tariff_1 : D → X (Option Bool) := fun step' => X.try_ (.ok true) (X.tB (X.call g_is_step (X.cons (X.v step') X.nil)))
abbrev c_is_tariff_2 (steps' : D) : D → X (Option Bool) := fun k' => X.try_ (.ok true) (X.tB (X.op2 ltD (X.op2 ixD (X.op2 ixD (X.v steps') (X.v k')) (X.v (.int 0))) (X.op2 ixD (X.op2 ixD (X.v steps') (X.op2 addD (X.v k') (X.v (.int 1)))) (X.v (.int 0)))))
def g_is_tariff : List D → X O := X.pD fun value' => X.p0 (X.fin (X.iff_ (X.tOr (X.tNot (X.tV (X.isi "tuple" (X.v value')))) (X.tB (X.op2 neD (X.opN lenD (X.cons (X.v value') X.nil)) (X.v (.int 2))))) (X.ret (X.v (.bool false))) (X.letD (X.v value') fun d1 => X.un2 d1 fun way' steps' => X.iff_ (X.tOr (X.tNot (X.tV (X.isi "str" (X.v way')))) (X.tOr (X.tB (X.op2 notInD (X.v way') (X.v d_WAYS))) (X.tNot (X.tV (X.isi "tuple" (X.v steps')))))) (X.ret (X.v (.bool false))) (X.iff_ (X.tOr (X.tNot (X.tB (X.ch2 leD leD (X.v (.int 1)) (X.opN lenD (X.cons (X.v steps') X.nil)) (X.v (.int 12))))) (X.tOr (X.tNot (X.tV (X.gen false (X.seqI (X.v steps')) c_is_tariff_1))) (X.tB (X.op2 neD (X.op2 ixD (X.op2 ixD (X.v steps') (X.v (.int 0))) (X.v (.int 0))) (X.v (.int 0)))))) (X.ret (X.v (.bool false))) (X.ret (X.gen false (X.range1 (X.op2 subD (X.opN lenD (X.cons (X.v steps') X.nil)) (X.v (.int 1)))) (c_is_tariff_2 steps')))))))
theorem z_is_tariff : Sem0 sem_is_tariff g_is_tariff := sem0_fn rfl (ent_d fun value' => ent_f0 (bx_ifx (kt_pt (pt_or (pt_not (pt_V (PX.w (px_isi (PX.w (px_var rfl)))))) (pt_B (PX.w (px_bin (PX.w (px_n (pan_cons (PX.w (px_var rfl)) pan_nil))) (PX.w px_c))))) (fun _ => ⟨_, _, rfl, bx_ret (r := fun o => o) px_c (fun o ρ _ => rt0_o rfl o ρ), bx_un (PX.w (px_var rfl)) (fun d1 => gk_un2 (fun way' steps' => gk_n rfl (gk_n rfl (bx_nm (L2 := [some (.fz value'), some (.fz way'), some (.fz steps'), none, none]) rfl (bx_ifx (kt_pt (pt_or (pt_not (pt_V (PX.w (px_isi (PX.w (px_var rfl)))))) (pt_or (pt_B (PX.w (px_bin (PX.w (px_var rfl)) (PX.w px_c)))) (pt_not (pt_V (PX.w (px_isi (PX.w (px_var rfl)))))))) (fun _ => ⟨_, _, rfl, bx_ret (r := fun o => o) px_c (fun o ρ _ => rt0_o rfl o ρ), bx_ifx (kt_pt (pt_or (pt_not (pt_B (PX.w (px_ch2 (PX.w px_c) (PX.w (px_n (pan_cons (PX.w (px_var rfl)) pan_nil))) (PX.w px_c))))) (pt_or (pt_not (pt_V (PX.w (px_gen (pi_sq (PX.f (px_var rfl))) (fun step' => gk_n rfl ⟨_, _, rfl, pt_yes, pt_B (PX.w (px_call z_is_step (pad_cons (PX.f (px_var rfl)) pad_nil) cov_any)), rfl⟩))))) (pt_B (PX.w (px_bin (PX.w (px_bin (PX.w (px_bin (PX.w (px_var rfl)) (PX.w px_c))) (PX.w px_c))) (PX.w px_c)))))) (fun _ => ⟨_, _, rfl, bx_ret (r := fun o => o) px_c (fun o ρ _ => rt0_o rfl o ρ), bx_ret (r := fun o => o) (px_gen (pi_r1 (PX.w (px_bin (PX.w (px_n (pan_cons (PX.w (px_var rfl)) pan_nil))) (PX.w px_c)))) (fun k' => gk_n rfl ⟨_, _, rfl, pt_yes, pt_B (PX.w (px_bin (PX.w (px_bin (PX.w (px_bin (PX.w (px_var rfl)) (PX.w (px_var rfl)))) (PX.w px_c))) (PX.w (px_bin (PX.w (px_bin (PX.w (px_var rfl)) (PX.w (px_bin (PX.w (px_var rfl)) (PX.w px_c))))) (PX.w px_c))))), rfl⟩)) (fun o ρ _ => rt0_o rfl o ρ)⟩)) xt_ret⟩)) xt_ret)))))⟩)) xt_ret))
abbrev b_is_table_1 : D → Unit → X (Fl Unit Unit O) := fun pair' _ => X.iff_ (X.tOr (X.tNot (X.tV (X.isi "tuple" (X.v pair')))) (X.tOr (X.tB (X.op2 neD (X.opN lenD (X.cons (X.v pair') X.nil)) (X.v (.int 2)))) (X.tOr (X.tNot (X.tV (X.call g_is_name (X.cons (X.op2 ixD (X.v pair') (X.v (.int 0))) X.nil)))) (X.tNot (X.tV (X.call g_is_tariff (X.cons (X.op2 ixD (X.v pair') (X.v (.int 1))) X.nil))))))) (X.ret (X.v (.bool false))) (X.ok (Fl.nx ()))
abbrev c_is_table_2 (value' : D) : D → X (Option Bool) := fun k' => X.try_ (.ok true) (X.tB (X.op2 ltD (X.op2 ixD (X.op2 ixD (X.v value') (X.v k')) (X.v (.int 0))) (X.op2 ixD (X.op2 ixD (X.v value') (X.op2 addD (X.v k') (X.v (.int 1)))) (X.v (.int 0)))))
def g_is_table : List D → X O := X.pD fun value' => X.p0 (X.fin (X.iff_ (X.tOr (X.tNot (X.tV (X.isi "tuple" (X.v value')))) (X.tB (X.op2 gtD (X.opN lenD (X.cons (X.v value') X.nil)) (X.v (.int 12))))) (X.ret (X.v (.bool false))) (X.seqF (X.for_ (X.seqI (X.v value')) () b_is_table_1) fun _ => X.ret (X.gen false (X.range1 (X.op2 subD (X.opN lenD (X.cons (X.v value') X.nil)) (X.v (.int 1)))) (c_is_table_2 value')))))
theorem z_is_table : Sem0 sem_is_table g_is_table := sem0_fn rfl (ent_d fun value' => ent_f0 (bx_ifx (kt_pt (pt_or (pt_not (pt_V (PX.w (px_isi (PX.w (px_var rfl)))))) (pt_B (PX.w (px_bin (PX.w (px_n (pan_cons (PX.w (px_var rfl)) pan_nil))) (PX.w px_c))))) (fun _ => ⟨_, _, rfl, bx_ret (r := fun o => o) px_c (fun o ρ _ => rt0_o rfl o ρ), bx_seq (fun _ => [some (.fz value'), none, none]) (bx_for (pi_sq (PX.f (px_var rfl))) (.eq (.un (.un .nil))) (fun pair' _ => gk_n rfl (bx_ifl (kt_pt (pt_or (pt_not (pt_V (PX.w (px_isi (PX.w (px_var rfl)))))) (pt_or (pt_B (PX.w (px_bin (PX.w (px_n (pan_cons (PX.w (px_var rfl)) pan_nil))) (PX.w px_c)))) (pt_or (pt_not (pt_V (PX.w (px_call z_is_name (pad_cons (PX.f (px_bin (PX.w (px_var rfl)) (PX.w px_c))) pad_nil) cov_any)))) (pt_not (pt_V (PX.w (px_call z_is_tariff (pad_cons (PX.f (px_bin (PX.w (px_var rfl)) (PX.w px_c))) pad_nil) cov_any))))))) (fun _ => ⟨_, _, rfl, bx_ret (r := fun o => o) px_c (fun o ρ _ => rt0_o rfl o ρ), bx_nx (.eq (.un (.un .nil)))⟩))))) (fun _ => bx_ret (r := fun o => o) (px_gen (pi_r1 (PX.w (px_bin (PX.w (px_n (pan_cons (PX.w (px_var rfl)) pan_nil))) (PX.w px_c)))) (fun k' => gk_n rfl ⟨_, _, rfl, pt_yes, pt_B (PX.w (px_bin (PX.w (px_bin (PX.w (px_bin (PX.w (px_var rfl)) (PX.w (px_var rfl)))) (PX.w px_c))) (PX.w (px_bin (PX.w (px_bin (PX.w (px_var rfl)) (PX.w (px_bin (PX.w (px_var rfl)) (PX.w px_c))))) (PX.w px_c))))), rfl⟩)) (fun o ρ _ => rt0_o rfl o ρ))⟩)) xt_ret))
def g_is_row : List D → X O := X.pD fun value' => X.p0 (X.fin (X.iff_ (X.tOr (X.tNot (X.tV (X.isi "tuple" (X.v value')))) (X.tB (X.op2 neD (X.opN lenD (X.cons (X.v value') X.nil)) (X.v (.int 2))))) (X.ret (X.v (.bool false))) (X.ret (X.and (X.call g_is_number (X.cons (X.op2 ixD (X.v value') (X.v (.int 0))) (X.cons (X.v (.int 0)) (X.cons (X.v (.int 1000000)) X.nil)))) (X.call g_is_table (X.cons (X.op2 ixD (X.v value') (X.v (.int 1))) X.nil))))))
theorem z_is_row : Sem0 sem_is_row g_is_row := sem0_fn rfl (ent_d fun value' => ent_f0 (bx_ifx (kt_pt (pt_or (pt_not (pt_V (PX.w (px_isi (PX.w (px_var rfl)))))) (pt_B (PX.w (px_bin (PX.w (px_n (pan_cons (PX.w (px_var rfl)) pan_nil))) (PX.w px_c))))) (fun _ => ⟨_, _, rfl, bx_ret (r := fun o => o) px_c (fun o ρ _ => rt0_o rfl o ρ), bx_ret (r := fun o => o) (px_and (PX.w (px_call z_is_number (pad_cons (PX.f (px_bin (PX.w (px_var rfl)) (PX.w px_c))) (pad_cons (PX.f px_c) (pad_cons (PX.f px_c) pad_nil))) cov_any)) (px_call z_is_table (pad_cons (PX.f (px_bin (PX.w (px_var rfl)) (PX.w px_c))) pad_nil) cov_any)) (fun o ρ _ => rt0_o rfl o ρ)⟩)) xt_ret))
abbrev c_is_fee_book_1 : D → X (Option Bool) := fun row' => X.try_ (.ok true) (X.tB (X.call g_is_row (X.cons (X.v row') X.nil)))
abbrev c_is_fee_book_2 (rows' : D) : D → X (Option Bool) := fun k' => X.try_ (.ok true) (X.tB (X.op2 ltD (X.op2 ixD (X.op2 ixD (X.v rows') (X.v k')) (X.v (.int 0))) (X.op2 ixD (X.op2 ixD (X.v rows') (X.op2 addD (X.v k') (X.v (.int 1)))) (X.v (.int 0)))))
def g_is_fee_book : List D → X O := X.pD fun value' => X.p0 (X.fin (X.iff_ (X.tOr (X.tNot (X.tV (X.isi "tuple" (X.v value')))) (X.tB (X.op2 neD (X.opN lenD (X.cons (X.v value') X.nil)) (X.v (.int 2))))) (X.ret (X.v (.bool false))) (X.letD (X.v value') fun d1 => X.un2 d1 fun way' rows' => X.iff_ (X.tOr (X.tNot (X.tV (X.isi "str" (X.v way')))) (X.tOr (X.tB (X.op2 notInD (X.v way') (X.v d_BOOK_WAYS))) (X.tNot (X.tV (X.isi "tuple" (X.v rows')))))) (X.ret (X.v (.bool false))) (X.iff_ (X.tOr (X.tNot (X.tB (X.ch2 leD leD (X.v (.int 1)) (X.opN lenD (X.cons (X.v rows') X.nil)) (X.v (.int 12))))) (X.tOr (X.tNot (X.tV (X.gen false (X.seqI (X.v rows')) c_is_fee_book_1))) (X.tB (X.op2 neD (X.op2 ixD (X.op2 ixD (X.v rows') (X.v (.int 0))) (X.v (.int 0))) (X.v (.int 0)))))) (X.ret (X.v (.bool false))) (X.ret (X.gen false (X.range1 (X.op2 subD (X.opN lenD (X.cons (X.v rows') X.nil)) (X.v (.int 1)))) (c_is_fee_book_2 rows')))))))
theorem z_is_fee_book : Sem0 sem_is_fee_book g_is_fee_book := sem0_fn rfl (ent_d fun value' => ent_f0 (bx_ifx (kt_pt (pt_or (pt_not (pt_V (PX.w (px_isi (PX.w (px_var rfl)))))) (pt_B (PX.w (px_bin (PX.w (px_n (pan_cons (PX.w (px_var rfl)) pan_nil))) (PX.w px_c))))) (fun _ => ⟨_, _, rfl, bx_ret (r := fun o => o) px_c (fun o ρ _ => rt0_o rfl o ρ), bx_un (PX.w (px_var rfl)) (fun d1 => gk_un2 (fun way' rows' => gk_n rfl (gk_n rfl (bx_nm (L2 := [some (.fz value'), some (.fz way'), some (.fz rows'), none, none]) rfl (bx_ifx (kt_pt (pt_or (pt_not (pt_V (PX.w (px_isi (PX.w (px_var rfl)))))) (pt_or (pt_B (PX.w (px_bin (PX.w (px_var rfl)) (PX.w px_c)))) (pt_not (pt_V (PX.w (px_isi (PX.w (px_var rfl)))))))) (fun _ => ⟨_, _, rfl, bx_ret (r := fun o => o) px_c (fun o ρ _ => rt0_o rfl o ρ), bx_ifx (kt_pt (pt_or (pt_not (pt_B (PX.w (px_ch2 (PX.w px_c) (PX.w (px_n (pan_cons (PX.w (px_var rfl)) pan_nil))) (PX.w px_c))))) (pt_or (pt_not (pt_V (PX.w (px_gen (pi_sq (PX.f (px_var rfl))) (fun row' => gk_n rfl ⟨_, _, rfl, pt_yes, pt_B (PX.w (px_call z_is_row (pad_cons (PX.f (px_var rfl)) pad_nil) cov_any)), rfl⟩))))) (pt_B (PX.w (px_bin (PX.w (px_bin (PX.w (px_bin (PX.w (px_var rfl)) (PX.w px_c))) (PX.w px_c))) (PX.w px_c)))))) (fun _ => ⟨_, _, rfl, bx_ret (r := fun o => o) px_c (fun o ρ _ => rt0_o rfl o ρ), bx_ret (r := fun o => o) (px_gen (pi_r1 (PX.w (px_bin (PX.w (px_n (pan_cons (PX.w (px_var rfl)) pan_nil))) (PX.w px_c)))) (fun k' => gk_n rfl ⟨_, _, rfl, pt_yes, pt_B (PX.w (px_bin (PX.w (px_bin (PX.w (px_bin (PX.w (px_var rfl)) (PX.w (px_var rfl)))) (PX.w px_c))) (PX.w (px_bin (PX.w (px_bin (PX.w (px_var rfl)) (PX.w (px_bin (PX.w (px_var rfl)) (PX.w px_c))))) (PX.w px_c))))), rfl⟩)) (fun o ρ _ => rt0_o rfl o ρ)⟩)) xt_ret⟩)) xt_ret)))))⟩)) xt_ret))
def g_fee_in : List D → X O := X.pD fun way' => X.pD fun step' => X.pD fun value' => X.p0 (X.fin (X.letD (X.v step') fun d1 => X.un3 d1 fun low' base' rate' => X.ret (X.op2 addD (X.v base') (X.call g_rounded (X.cons (X.call g_times (X.cons (X.v rate') (X.cons (X.tup (X.cons (X.op2 subD (X.v value') (X.v low')) (X.cons (X.v (.int 1)) X.nil))) X.nil))) (X.cons (X.v way') X.nil))))))
theorem z_fee_in : Sem0 sem_fee_in g_fee_in := sem0_fn rfl (ent_d fun way' => ent_d fun step' => ent_d fun value' => ent_f0 (bx_un (PX.w (px_var rfl)) (fun d1 => gk_un3 (fun low' base' rate' => gk_n rfl (gk_n rfl (gk_n rfl (bx_nm (L2 := [some (.fz way'), some (.fz step'), some (.fz value'), some (.fz low'), some (.fz base'), some (.fz rate')]) rfl (bx_ret (r := fun o => o) (px_bin (PX.w (px_var rfl)) (PX.w (px_call z_rounded (pad_cons (PX.f (px_call z_times (pad_cons (PX.f (px_var rfl)) (pad_cons (PX.f (px_tup (pav_cons (PX.f (px_bin (PX.w (px_var rfl)) (PX.w (px_var rfl)))) (pav_cons (PX.f px_c) pav_nil)))) pad_nil)) cov_any)) (pad_cons (PX.f (px_var rfl)) pad_nil)) cov_any))) (fun o ρ _ => rt0_o rfl o ρ)))))))))
abbrev b_fee_of_1 (value' : D) : D → D → X (Fl D D O) := fun step' found' => X.iff_ (X.tB (X.op2 leD (X.op2 ixD (X.v step') (X.v (.int 0))) (X.v value'))) (X.letD (X.v step') fun found' => X.ok (Fl.nx found')) (X.ok (Fl.nx found'))
def g_fee_of : List D → X O := X.pD fun tariff' => X.pD fun value' => X.p0 (X.fin (X.letD (X.v tariff') fun d1 => X.un2 d1 fun way' steps' => X.letD (X.op2 ixD (X.v steps') (X.v (.int 0))) fun found' => X.seqF (X.for_ (X.seqI (X.v steps')) found' (b_fee_of_1 value')) fun found' => X.ret (X.call g_fee_in (X.cons (X.v way') (X.cons (X.v found') (X.cons (X.v value') X.nil))))))
theorem z_fee_of : Sem0 sem_fee_of g_fee_of := sem0_fn rfl (ent_d fun tariff' => ent_d fun value' => ent_f0 (bx_un (PX.w (px_var rfl)) (fun d1 => gk_un2 (fun way' steps' => gk_n rfl (gk_n rfl (bx_nm (L2 := [some (.fz tariff'), some (.fz value'), some (.fz way'), some (.fz steps'), none, none]) rfl (bx_set (PX.f (px_bin (PX.w (px_var rfl)) (PX.w px_c))) rfl (fun found' => bx_nm (L2 := [some (.fz tariff'), some (.fz value'), some (.fz way'), some (.fz steps'), some (.fz found'), none]) rfl (bx_seq (fun found' => [some (.fz tariff'), some (.fz value'), some (.fz way'), some (.fz steps'), some (.fz found'), none]) (bx_for (pi_sq (PX.f (px_var rfl))) (.eq (.eq (.eq (.eq (.eq (.un .nil)))))) (fun step' found' => gk_n rfl (bx_ifl (kt_pt (pt_B (PX.w (px_bin (PX.w (px_bin (PX.w (px_var rfl)) (PX.w px_c))) (PX.w (px_var rfl))))) (fun _ => ⟨_, _, rfl, bx_one (bx_set (PX.f (px_var rfl)) rfl (fun found' => bx_nx (.eq (.eq (.eq (.eq (.eq (.un .nil)))))))), bx_nx (.eq (.eq (.eq (.eq (.eq (.un .nil))))))⟩))))) (fun found' => bx_nm (L2 := [some (.fz tariff'), some (.fz value'), some (.fz way'), some (.fz steps'), some (.fz found'), none]) rfl (bx_ret (r := fun o => o) (px_call z_fee_in (pad_cons (PX.f (px_var rfl)) (pad_cons (PX.f (px_var rfl)) (pad_cons (PX.f (px_var rfl)) pad_nil))) cov_any) (fun o ρ _ => rt0_o rfl o ρ))))))))))))
abbrev b_tariff_on_1 (day' : D) : D → D → X (Fl D D O) := fun d1 table' => X.un2 d1 fun first' other' => X.iff_ (X.tB (X.op2 leD (X.v first') (X.v day'))) (X.letD (X.v other') fun table' => X.ok (Fl.nx table')) (X.ok (Fl.nx table'))
abbrev b_tariff_on_2 (name' : D) : D → Unit → X (Fl Unit Unit O) := fun d2 _ => X.un2 d2 fun word' tariff' => X.iff_ (X.tB (X.op2 eqD (X.v word') (X.v name'))) (X.ret (X.v tariff')) (X.ok (Fl.nx ()))
def g_tariff_on : List D → X O := X.pD fun book' => X.pD fun name' => X.pD fun day' => X.p0 (X.fin (X.letD (X.tup X.nil) fun table' => X.seqF (X.for_ (X.seqI (X.op2 ixD (X.v book') (X.v (.int 1)))) table' (b_tariff_on_1 day')) fun table' => X.seqF (X.for_ (X.seqI (X.v table')) () (b_tariff_on_2 name')) fun _ => X.ret (X.v .none)))
theorem z_tariff_on : Sem0 sem_tariff_on g_tariff_on := sem0_fn rfl (ent_d fun book' => ent_d fun name' => ent_d fun day' => ent_f0 (bx_set (PX.f (px_tup pav_nil)) rfl (fun table' => bx_nm (L2 := [some (.fz book'), some (.fz name'), some (.fz day'), some (.fz table'), none, none, none, none]) rfl (bx_seq (fun table' => [some (.fz book'), some (.fz name'), some (.fz day'), some (.fz table'), none, none, none, none]) (bx_for (pi_sq (PX.f (px_bin (PX.w (px_var rfl)) (PX.w px_c)))) (.eq (.eq (.eq (.eq (.un (.un (.un (.un .nil)))))))) (fun d1 table' => gk_un2 (fun first' other' => gk_n rfl (gk_n rfl (bx_ifl (kt_pt (pt_B (PX.w (px_bin (PX.w (px_var rfl)) (PX.w (px_var rfl))))) (fun _ => ⟨_, _, rfl, bx_one (bx_set (PX.f (px_var rfl)) rfl (fun table' => bx_nx (.eq (.eq (.eq (.eq (.un (.un (.un (.un .nil)))))))))), bx_nx (.eq (.eq (.eq (.eq (.un (.un (.un (.un .nil))))))))⟩))))))) (fun table' => bx_nm (L2 := [some (.fz book'), some (.fz name'), some (.fz day'), some (.fz table'), none, none, none, none]) rfl (bx_seq (fun _ => [some (.fz book'), some (.fz name'), some (.fz day'), some (.fz table'), none, none, none, none]) (bx_for (pi_sq (PX.f (px_var rfl))) (.eq (.eq (.eq (.eq (.un (.un (.un (.un .nil)))))))) (fun d2 _ => gk_un2 (fun word' tariff' => gk_n rfl (gk_n rfl (bx_ifl (kt_pt (pt_B (PX.w (px_bin (PX.w (px_var rfl)) (PX.w (px_var rfl))))) (fun _ => ⟨_, _, rfl, bx_ret (r := fun o => o) (px_var rfl) (fun o ρ _ => rt0_o rfl o ρ), bx_nx (.eq (.eq (.eq (.eq (.un (.un (.un (.un .nil))))))))⟩))))))) (fun _ => bx_nm (L2 := [some (.fz book'), some (.fz name'), some (.fz day'), some (.fz table'), none, none, none, none]) rfl (bx_ret (r := fun o => o) px_c (fun o ρ _ => rt0_o rfl o ρ)))))))))
abbrev c_fee_due_1 (book' : D) (name' : D) : D → X (Option D) := fun day' => X.keep (.ok true) (X.call g_tariff_on (X.cons (X.v book') (X.cons (X.v name') (X.cons (X.v day') X.nil))))
abbrev c_fee_due_2 (value' : D) : D → X (Option D) := fun tariff' => X.keep (X.tB (X.op2 isNotD (X.v tariff') (X.v .none))) (X.call g_fee_of (X.cons (X.v tariff') (X.cons (X.v value') X.nil)))
def g_fee_due : List D → X O := X.pD fun book' => X.pD fun name' => X.pD fun value' => X.pD fun begun' => X.pD fun filed' => X.p0 (X.fin (X.letD (X.dix ["old", "new", "kind"] (X.cons (X.lst (X.cons (X.v begun') X.nil)) (X.cons (X.lst (X.cons (X.v filed') X.nil)) (X.cons (X.lst (X.cons (X.v begun') (X.cons (X.v filed') X.nil))) X.nil))) (X.op2 ixD (X.v book') (X.v (.int 0)))) fun days' => X.letD (X.lc (X.seqI (X.v days')) (c_fee_due_1 book' name')) fun tariffs' => X.letD (X.lc (X.seqI (X.v tariffs')) (c_fee_due_2 value')) fun fees' => X.iff_ (X.tB (X.op2 eqD (X.v fees') (X.lst X.nil))) (X.exc "NotThere") (X.iff_ (X.tB (X.op2 ltD (X.v filed') (X.v begun'))) (X.exc "Refused") (X.ret (X.opN minLD (X.cons (X.v fees') X.nil))))))
theorem z_fee_due : Sem0 sem_fee_due g_fee_due := sem0_fn rfl (ent_d fun book' => ent_d fun name' => ent_d fun value' => ent_d fun begun' => ent_d fun filed' => ent_f0 (bx_set (PX.f (px_dix (pav_cons (PX.f (px_lst (pav_cons (PX.f (px_var rfl)) pav_nil))) (pav_cons (PX.f (px_lst (pav_cons (PX.f (px_var rfl)) pav_nil))) (pav_cons (PX.f (px_lst (pav_cons (PX.f (px_var rfl)) (pav_cons (PX.f (px_var rfl)) pav_nil)))) pav_nil))) (PX.w (px_bin (PX.w (px_var rfl)) (PX.w px_c))))) rfl (fun days' => bx_nm (L2 := [some (.fz book'), some (.fz name'), some (.fz value'), some (.fz begun'), some (.fz filed'), some (.fz days'), none, none, none, none]) rfl (bx_set (PX.f (px_lc (pi_sq (PX.f (px_var rfl))) (fun day' => gk_n rfl ⟨_, _, _, rfl, pt_yes, PX.f (px_call z_tariff_on (pad_cons (PX.f (px_var rfl)) (pad_cons (PX.f (px_var rfl)) (pad_cons (PX.f (px_var rfl)) pad_nil))) cov_any), rfl, rfl⟩))) rfl (fun tariffs' => bx_nm (L2 := [some (.fz book'), some (.fz name'), some (.fz value'), some (.fz begun'), some (.fz filed'), some (.fz days'), some (.fz tariffs'), none, none, none]) rfl (bx_set (PX.f (px_lc (pi_sq (PX.f (px_var rfl))) (fun tariff' => gk_n rfl ⟨_, _, _, rfl, pt_B (PX.w (px_bin (PX.w (px_var rfl)) (PX.w px_c))), PX.f (px_call z_fee_of (pad_cons (PX.f (px_var rfl)) (pad_cons (PX.f (px_var rfl)) pad_nil)) cov_any), rfl, rfl⟩))) rfl (fun fees' => bx_nm (L2 := [some (.fz book'), some (.fz name'), some (.fz value'), some (.fz begun'), some (.fz filed'), some (.fz days'), some (.fz tariffs'), some (.fz fees'), none, none]) rfl (bx_ifx (kt_pt (pt_B (PX.w (px_bin (PX.w (px_var rfl)) (PX.w (px_lst pav_nil))))) (fun _ => ⟨_, _, rfl, bx_raise cov_any, bx_ifx (kt_pt (pt_B (PX.w (px_bin (PX.w (px_var rfl)) (PX.w (px_var rfl))))) (fun _ => ⟨_, _, rfl, bx_raise cov_any, bx_ret (r := fun o => o) (px_n (pan_cons (PX.w (px_var rfl)) pan_nil)) (fun o ρ _ => rt0_o rfl o ρ)⟩)) xt_raise⟩)) xt_raise))))))))
abbrev c__law_open_1 : D → X (Option D) := fun cell' => X.keep (.ok true) (X.opN absD (X.cons (X.opN intD (X.cons (X.v cell') X.nil)) X.nil))
def g__law_open : List D → X O := X.pS fun script' => X.p0 (X.fin (X.letD (X.lc (X.seqI (.ok (.fl (script'.map PyData.int)))) c__law_open_1) fun cells' => X.ret (X.lst (X.cons (X.v (.int 0)) (X.cons (X.v (.int 0)) (X.cons (X.op2 addD (X.v cells') (X.lst (X.cons (X.v (.int 0)) X.nil))) X.nil))))))
theorem z__law_open : Sem0 sem__law_open g__law_open := sem0_fn rfl (ent_sc fun script' => ent_f0 (bx_set (PX.f (px_lc (pi_sq (PX.f (px_sc rfl))) (fun cell' => gk_n rfl ⟨_, _, _, rfl, pt_yes, PX.f (px_n (pan_cons (PX.w (px_n (pan_cons (PX.w (px_var rfl)) pan_nil))) pan_nil)), rfl, rfl⟩))) rfl (fun cells' => bx_ret (r := fun o => o) (px_lst (pav_cons (PX.f px_c) (pav_cons (PX.f px_c) (pav_cons (PX.f (px_bin (PX.w (px_var rfl)) (PX.w (px_lst (pav_cons (PX.f px_c) pav_nil))))) pav_nil)))) (fun o ρ _ => rt0_o rfl o ρ))))
def g__law_mixed : List D → X O := X.pD fun cell' => X.pD fun turn' => X.p0 (X.fin (X.letD (X.op2 modD (X.op2 addD (X.op2 addD (X.op2 mulD (X.op2 modD (X.v cell') (X.op2 subD (X.op2 powD (X.v (.int 2)) (X.v (.int 61))) (X.v (.int 1)))) (X.v (.int 6364136223846793005))) (X.op2 mulD (X.v turn') (X.v (.int 1442695040888963407)))) (X.v (.int 97))) (X.op2 powD (X.v (.int 2)) (X.v (.int 61)))) fun number' => X.letD (X.op2 modD (X.op2 mulD (X.op2 xorD (X.v number') (X.op2 shrD (X.v number') (X.v (.int 29)))) (X.v (.int 3935559000370003845))) (X.op2 powD (X.v (.int 2)) (X.v (.int 61)))) fun number' => X.ret (X.op2 modD (X.op2 mulD (X.op2 xorD (X.v number') (X.op2 shrD (X.v number') (X.v (.int 31)))) (X.v (.int 2862933555777941757))) (X.op2 powD (X.v (.int 2)) (X.v (.int 61))))))
theorem z__law_mixed : Sem0 sem__law_mixed g__law_mixed := sem0_fn rfl (ent_d fun cell' => ent_d fun turn' => ent_f0 (bx_set (PX.f (px_bin (PX.w (px_bin (PX.w (px_bin (PX.w (px_bin (PX.w (px_bin (PX.w (px_var rfl)) (PX.w (px_bin (PX.w (px_bin (PX.w px_c) (PX.w px_c))) (PX.w px_c))))) (PX.w px_c))) (PX.w (px_bin (PX.w (px_var rfl)) (PX.w px_c))))) (PX.w px_c))) (PX.w (px_bin (PX.w px_c) (PX.w px_c))))) rfl (fun number' => bx_set (PX.f (px_bin (PX.w (px_bin (PX.w (px_bin (PX.w (px_var rfl)) (PX.w (px_bin (PX.w (px_var rfl)) (PX.w px_c))))) (PX.w px_c))) (PX.w (px_bin (PX.w px_c) (PX.w px_c))))) rfl (fun number' => bx_ret (r := fun o => o) (px_bin (PX.w (px_bin (PX.w (px_bin (PX.w (px_var rfl)) (PX.w (px_bin (PX.w (px_var rfl)) (PX.w px_c))))) (PX.w px_c))) (PX.w (px_bin (PX.w px_c) (PX.w px_c)))) (fun o ρ _ => rt0_o rfl o ρ)))))
def g__law_draw : List D → X (O × List D) := X.pL fun draws' => X.pD fun size' => X.p0 (X.finS (X.letD (X.v (.list draws')) fun d1 => X.un3 d1 fun turn' left' cells' => X.seqF (X.iff_ (X.tB (X.op2 ltD (X.v left') (X.v size'))) (X.letD (X.op2 ixD (X.v cells') (X.op2 modD (X.v turn') (X.opN lenD (X.cons (X.v cells') X.nil)))) fun cell' => X.letD (X.cond (X.tAnd (X.tB (X.op2 ltD (X.v turn') (X.opN lenD (X.cons (X.v cells') X.nil)))) (X.tB (X.op2 geD (X.v cell') (X.op2 powD (X.v (.int 10)) (X.v (.int 18)))))) (X.v cell') (X.call g__law_mixed (X.cons (X.v cell') (X.cons (X.v turn') X.nil)))) fun left' => X.letD (X.op2 addD (X.v turn') (X.v (.int 1))) fun turn' => X.ok (Fl.nx (turn', left'))) (X.ok (Fl.nx (turn', left')))) fun (turn', left') => X.setAt draws' (X.v (.int 0)) (X.v turn') fun draws' => X.setAt draws' (X.v (.int 1)) (X.op2 fdivD (X.v left') (X.v size')) fun draws' => X.retS (X.op2 modD (X.v left') (X.v size')) draws'))
theorem z__law_draw : Sem1 sem__law_draw g__law_draw := sem1_fn 0 rfl rfl (ent_io fun draws' => ent_d fun size' => ent_f1 (bx_un (px_io rfl) (fun d1 => gk_un3 (fun turn' left' cells' => gk_n rfl (gk_n rfl (gk_n rfl (bx_nm (L2 := [some (.io 0 draws'), some (.fz size'), some (.fz turn'), some (.fz left'), some (.fz cells'), none]) rfl (bx_seq (fun (turn', left') => [some (.io 0 draws'), some (.fz size'), some (.fz turn'), some (.fz left'), some (.fz cells'), none]) (bx_ifl (kt_pt (pt_B (PX.w (px_bin (PX.w (px_var rfl)) (PX.w (px_var rfl))))) (fun _ => ⟨_, _, rfl, bx_set (PX.f (px_bin (PX.w (px_var rfl)) (PX.w (px_bin (PX.w (px_var rfl)) (PX.w (px_n (pan_cons (PX.w (px_var rfl)) pan_nil))))))) rfl (fun cell' => bx_nm (L2 := [some (.io 0 draws'), some (.fz size'), some (.fz turn'), some (.fz left'), some (.fz cells'), some (.fz cell')]) rfl (bx_set (PX.f (px_if (pt_and (pt_B (PX.w (px_bin (PX.w (px_var rfl)) (PX.w (px_n (pan_cons (PX.w (px_var rfl)) pan_nil)))))) (pt_B (PX.w (px_bin (PX.w (px_var rfl)) (PX.w (px_bin (PX.w px_c) (PX.w px_c))))))) (px_var rfl) (px_call z__law_mixed (pad_cons (PX.f (px_var rfl)) (pad_cons (PX.f (px_var rfl)) pad_nil)) (cov_io rfl)))) rfl (fun left' => bx_nm (L2 := [some (.io 0 draws'), some (.fz size'), some (.fz turn'), some (.fz left'), some (.fz cells'), some (.fz cell')]) rfl (bx_one (bx_set (PX.f (px_bin (PX.w (px_var rfl)) (PX.w px_c))) rfl (fun turn' => bx_nx (.eq (.eq (.eq (.eq (.eq (.un .nil)))))))))))), bx_nx (.eq (.eq (.eq (.eq (.eq (.un .nil))))))⟩))) (fun ⟨turn', left'⟩ => bx_nm (L2 := [some (.io 0 draws'), some (.fz size'), some (.fz turn'), some (.fz left'), some (.fz cells'), none]) rfl (bx_sub (px_var rfl) px_c rfl rfl (fun draws' => bx_nm (L2 := [some (.io 0 draws'), some (.fz size'), some (.fz turn'), some (.fz left'), some (.fz cells'), none]) rfl (bx_sub (px_bin (PX.w (px_var rfl)) (PX.w (px_var rfl))) px_c rfl rfl (fun draws' => bx_nm (L2 := [some (.io 0 draws'), some (.fz size'), some (.fz turn'), some (.fz left'), some (.fz cells'), none]) rfl (bx_ret (r := fun o => (o, draws')) (px_bin (PX.w (px_var rfl)) (PX.w (px_var rfl))) (fun o ρ fr => rt1_o rfl rfl o ρ fr)))))))))))))))
abbrev c__law_told_1 : D → X (Option D) := fun d1 => X.ut2 d1 fun name' true' => X.keep (X.tV (X.v true')) (X.v name')
def g__law_told : List D → X O := X.pE fun error' => X.p0 (X.fin (X.letD (X.lst (X.cons (X.tup (X.cons (X.v (.str "OutOfRange")) (X.cons (X.isE [("NotThere", false), ("Refused", false)] error') X.nil))) (X.cons (X.tup (X.cons (X.v (.str "Malformed")) (X.cons (X.isE [("NotThere", false), ("Refused", false)] error') X.nil))) (X.cons (X.tup (X.cons (X.v (.str "NotThere")) (X.cons (X.isE [("NotThere", true), ("Refused", false)] error') X.nil))) (X.cons (X.tup (X.cons (X.v (.str "Refused")) (X.cons (X.isE [("NotThere", false), ("Refused", true)] error') X.nil))) (X.cons (X.tup (X.cons (X.v (.str "TooMuch")) (X.cons (X.isE [("NotThere", false), ("Refused", false)] error') X.nil))) X.nil)))))) fun kinds' => X.letD (X.lc (X.seqI (X.v kinds')) c__law_told_1) fun names' => X.iff_ (X.tOr (X.tB (X.op2 neD (X.opN lenD (X.cons (X.v names') X.nil)) (X.v (.int 1)))) (X.tNot (X.tV (X.isE [("NotThere", true), ("Refused", true)] error')))) (X.ret (X.v (.str "several"))) (X.ret (X.op2 ixD (X.v names') (X.v (.int 0))))))
theorem z__law_told : Sem0 sem__law_told g__law_told := sem0_fn rfl (ent_er fun error' => ent_f0 (bx_set (PX.f (px_lst (pav_cons (PX.f (px_tup (pav_cons (PX.f px_c) (pav_cons (PX.f (px_isE rfl)) pav_nil)))) (pav_cons (PX.f (px_tup (pav_cons (PX.f px_c) (pav_cons (PX.f (px_isE rfl)) pav_nil)))) (pav_cons (PX.f (px_tup (pav_cons (PX.f px_c) (pav_cons (PX.f (px_isE rfl)) pav_nil)))) (pav_cons (PX.f (px_tup (pav_cons (PX.f px_c) (pav_cons (PX.f (px_isE rfl)) pav_nil)))) (pav_cons (PX.f (px_tup (pav_cons (PX.f px_c) (pav_cons (PX.f (px_isE rfl)) pav_nil)))) pav_nil))))))) rfl (fun kinds' => bx_nm (L2 := [some (.er error'), some (.fz kinds'), none, none, none]) rfl (bx_set (PX.f (px_lc (pi_sq (PX.f (px_var rfl))) (fun d1 => gk_ut2 (fun name' true' => gk_n rfl (gk_n rfl ⟨_, _, _, rfl, pt_V (PX.w (px_var rfl)), PX.f (px_var rfl), rfl, rfl⟩))))) rfl (fun names' => bx_nm (L2 := [some (.er error'), some (.fz kinds'), some (.fz names'), none, none]) rfl (bx_ifx (kt_pt (pt_or (pt_B (PX.w (px_bin (PX.w (px_n (pan_cons (PX.w (px_var rfl)) pan_nil))) (PX.w px_c)))) (pt_not (pt_V (PX.w (px_isE rfl))))) (fun _ => ⟨_, _, rfl, bx_ret (r := fun o => o) px_c (fun o ρ _ => rt0_o rfl o ρ), bx_ret (r := fun o => o) (px_bin (PX.w (px_var rfl)) (PX.w px_c)) (fun o ρ _ => rt0_o rfl o ρ)⟩)) xt_ret))))))
def g__law_int : List D → X O := X.pD fun value' => X.p0 (X.fin (X.ret (X.and (X.isi "int" (X.v value')) (X.not (X.isi "bool" (X.v value'))))))
theorem z__law_int : Sem0 sem__law_int g__law_int := sem0_fn rfl (ent_d fun value' => ent_f0 (bx_ret (r := fun o => o) (px_and (PX.w (px_isi (PX.w (px_var rfl)))) (px_not (PX.w (px_isi (PX.w (px_var rfl)))))) (fun o ρ _ => rt0_o rfl o ρ)))
abbrev b__law_table_1 : D → (List D × List D) → X (Fl (List D × List D) (List D × List D) (O × List D)) := fun name' (draws', rows') => X.bind (X.bind (g__law_draw [.list draws', (.int 3)]) fun (o3, draws') => X.bind (X.ofP (gtD o3.dat (.int 0))) fun o2 => X.bind (X.asB o2.dat) fun b1 => if b1 = true then X.bind (X.tB (X.op2 ltD (X.opN lenD (X.cons (X.v (.list rows')) X.nil)) (X.v (.int 4)))) fun b4 => X.ok (b4, draws') else X.ok (false, draws')) fun (b5, draws') => if b5 = true then X.bind (g__law_draw [.list draws', (.int 100)]) fun (o8, draws') => X.bind (g__law_draw [.list draws', (.int 2)]) fun (o10, draws') => X.bind (X.tup (.ok [o10.dat, (.int 1)])) fun o9 => X.bind (X.tup (.ok [(.int 0), o8.dat, o9.dat])) fun o7 => X.bind (X.lst (.ok [o7.dat])) fun o6 => X.bind (X.asFl o6) fun steps' => X.seqF (X.bind (g__law_draw [.list draws', (.int 2)]) fun (o13, draws') => X.bind (X.ofP (eqD o13.dat (.int 1))) fun o12 => X.bind (X.asB o12.dat) fun b11 => if b11 = true then X.bind (g__law_draw [.list draws', (.int 200)]) fun (o16, draws') => X.bind (X.ofP (addD (.int 1) o16.dat)) fun o15 => X.bind (g__law_draw [.list draws', (.int 100)]) fun (o17, draws') => X.bind (g__law_draw [.list draws', (.int 4)]) fun (o20, draws') => X.bind (X.ofP (addD (.int 2) o20.dat)) fun o19 => X.bind (X.tup (.ok [(.int 1), o19.dat])) fun o18 => X.bind (X.tup (.ok [o15.dat, o17.dat, o18.dat])) fun o14 => X.app steps' (.ok o14) fun steps' => X.ok (Fl.nx (draws', steps')) else X.ok (Fl.nx (draws', steps'))) fun (draws', steps') => X.bind (X.lst (X.cons (X.v (.str "down")) (X.cons (X.v (.str "up")) (X.cons (X.v (.str "near")) X.nil)))) fun o24 => X.bind (g__law_draw [.list draws', (.int 3)]) fun (o25, draws') => X.bind (X.ofP (ixD o24.dat o25.dat)) fun o23 => X.bind (X.opN tupleD (X.cons (X.v (.list steps')) X.nil)) fun o26 => X.bind (X.tup (.ok [o23.dat, o26.dat])) fun o22 => X.bind (X.tup (.ok [name', o22.dat])) fun o21 => X.app rows' (.ok o21) fun rows' => X.ok (Fl.nx (draws', rows')) else X.ok (Fl.nx (draws', rows'))
def g__law_table : List D → X (O × List D) := X.pL fun draws' => X.p0 (X.finS (X.letL (X.lst X.nil) fun rows' => X.seqF (X.for_ (X.seqI (X.lst (X.cons (X.v (.str "appeal")) (X.cons (X.v (.str "claim")) (X.cons (X.v (.str "copy")) (X.cons (X.v (.str "hear")) (X.cons (X.v (.str "stay")) (X.cons (X.v (.str "z")) X.nil)))))))) (draws', rows') b__law_table_1) fun (draws', rows') => X.retS (X.opN tupleD (X.cons (X.v (.list rows')) X.nil)) draws'))
theorem z__law_table : Sem1 sem__law_table g__law_table := sem1_fn 0 rfl rfl (ent_io fun draws' => ent_f1 (bx_own (px_lst pav_nil) rfl (fun rows' => bx_seq (fun (draws', rows') => [some (.io 0 draws'), some (.fl rows'), none, none]) (bx_for (pi_sq (PX.f (px_lst (pav_cons (PX.f px_c) (pav_cons (PX.f px_c) (pav_cons (PX.f px_c) (pav_cons (PX.f px_c) (pav_cons (PX.f px_c) (pav_cons (PX.f px_c) pav_nil))))))))) (.eq (.eq (.un (.un .nil)))) (fun name' ⟨draws', rows'⟩ => gk_n rfl (bx_ifl (kt_join (fun draws' => [some (.io 0 draws'), some (.fl rows'), some (.fz name'), none]) (kt_and (kt_B (kw_bin (kw_call1 z__law_draw (ka_io rfl rfl (ka_f (kw_c (ka_nil ⟨_, _, _, _, rfl, rfl, (fun draws' => (cov_io rfl)), rfl, fun o3 draws' => kw_c ⟨_, rfl, fun o2 => ⟨_, rfl, fun b1 => ⟨_, _, rfl, kt_pt (pt_B (PX.w (px_bin (PX.w (px_n (pan_cons (px_own rfl) pan_nil))) (PX.w px_c)))) (fun b4 => ⟨_, rfl, .eq (.eq (.eq (.un .nil)))⟩), ⟨_, rfl, .eq (.eq (.eq (.un .nil)))⟩⟩⟩⟩⟩)))))))) (fun b5 draws' => ⟨_, _, rfl, bx_ownK (kw_lst (ka_f (kw_tup (ka_f (kw_c (ka_f (kw_call1 z__law_draw (ka_io rfl rfl (ka_f (kw_c (ka_nil ⟨_, _, _, _, rfl, rfl, (fun draws' => (cov_io rfl)), rfl, fun o8 draws' => ka_f (kw_tup (ka_f (kw_call1 z__law_draw (ka_io rfl rfl (ka_f (kw_c (ka_nil ⟨_, _, _, _, rfl, rfl, (fun draws' => (cov_io rfl)), rfl, fun o10 draws' => ka_f (kw_c (ka_nil ⟨_, _, rfl, rfl, fun o9 => ka_nil ⟨_, _, rfl, rfl, fun o7 => ka_nil ⟨_, _, rfl, rfl, fun o6 => ⟨rfl, _, rfl, fun steps' => bx_seq (fun (draws', steps') => [some (.io 0 draws'), some (.fl rows'), some (.fz name'), some (.fl steps')]) (bx_ifl (kt_B (kw_bin (kw_call1 z__law_draw (ka_io rfl rfl (ka_f (kw_c (ka_nil ⟨_, _, _, _, rfl, rfl, (fun draws' => (cov_io rfl)), rfl, fun o13 draws' => kw_c ⟨_, rfl, fun o12 => ⟨_, rfl, fun b11 => ⟨_, _, rfl, bx_one (bx_appK rfl rfl (kw_tup (ka_f (kw_bin (kw_c (kw_call1 z__law_draw (ka_io rfl rfl (ka_f (kw_c (ka_nil ⟨_, _, _, _, rfl, rfl, (fun draws' => (cov_io rfl)), rfl, fun o16 draws' => ⟨_, rfl, fun o15 => ka_f (kw_call1 z__law_draw (ka_io rfl rfl (ka_f (kw_c (ka_nil ⟨_, _, _, _, rfl, rfl, (fun draws' => (cov_io rfl)), rfl, fun o17 draws' => ka_f (kw_tup (ka_f (kw_c (ka_f (kw_bin (kw_c (kw_call1 z__law_draw (ka_io rfl rfl (ka_f (kw_c (ka_nil ⟨_, _, _, _, rfl, rfl, (fun draws' => (cov_io rfl)), rfl, fun o20 draws' => ⟨_, rfl, fun o19 => ka_nil ⟨_, _, rfl, rfl, fun o18 => ka_nil ⟨_, _, rfl, rfl, fun o14 => ⟨_, _, _, rfl, rfl, rfl, fun steps' => bx_nx (.eq (.eq (.eq (.eq .nil))))⟩⟩⟩⟩⟩)))))))))))⟩)))))⟩⟩)))))))))), bx_nx (.eq (.eq (.eq (.eq .nil))))⟩⟩⟩⟩)))))))) (fun ⟨draws', steps'⟩ => bx_one (bx_appK rfl rfl (kw_tup (ka_f (kw_var rfl (ka_f (kw_tup (ka_f (kw_bin (kw_px (px_lst (pav_cons (PX.f px_c) (pav_cons (PX.f px_c) (pav_cons (PX.f px_c) pav_nil)))) (fun o24 => kw_call1 z__law_draw (ka_io rfl rfl (ka_f (kw_c (ka_nil ⟨_, _, _, _, rfl, rfl, (fun draws' => (cov_io rfl)), rfl, fun o25 draws' => ⟨_, rfl, fun o23 => ka_f (kw_px (px_n (pan_cons (px_own rfl) pan_nil)) (fun o26 => ka_nil ⟨_, _, rfl, rfl, fun o22 => ka_nil ⟨_, _, rfl, rfl, fun o21 => ⟨_, _, _, rfl, rfl, rfl, fun rows' => bx_nx (.eq (.eq (.un (.un .nil))))⟩⟩⟩))⟩⟩)))))))))))))))⟩⟩⟩⟩))⟩)))))))⟩))))))))))), bx_nx (.eq (.eq (.un (.un .nil))))⟩))))) (fun ⟨draws', rows'⟩ => bx_ret (r := fun o => (o, draws')) (px_n (pan_cons (px_own rfl) pan_nil)) (fun o ρ fr => rt1_o rfl rfl o ρ fr)))))
abbrev b__law_book_1 : D → (List D × List D) → X (Fl (List D × List D) (List D × List D) (O × List D)) := fun k' (draws', days') => X.bind (g__law_draw [.list draws', (.int 9)]) fun (o6, draws') => X.bind (X.ofP (addD (.int 1) o6.dat)) fun o5 => X.bind (g__law_draw [.list draws', (.int 1000000)]) fun (o8, draws') => X.bind (X.ofP (addD (.int 1) o8.dat)) fun o7 => X.bind (X.lst (.ok [o5.dat, o7.dat, (.int 1000000)])) fun o4 => X.bind (g__law_draw [.list draws', (.int 9)]) fun (o11, draws') => X.bind (X.ofP (modD o11.dat (.int 4))) fun o10 => X.bind (X.ofP (modD o10.dat (.int 3))) fun o9 => X.bind (X.ofP (ixD o4.dat o9.dat)) fun o3 => X.iff_ (X.tB (X.op2 notInD (X.v o3.dat) (X.v (.list days')))) (X.app days' (X.v o3.dat) fun days' => X.ok (Fl.nx (draws', days'))) (X.ok (Fl.nx (draws', days')))
abbrev c__law_book_2 : D → (List D) → X (Option D × (List D)) := fun day' draws' => X.bind (.ok true) fun b => if b = true then X.bind (g__law_table [.list draws']) fun (o20, draws') => X.bind (X.tup (.ok [day', o20.dat])) fun o19 => X.ok (some o19.dat, draws') else X.bad
def g__law_book : List D → X (O × List D) := X.pL fun draws' => X.p0 (X.finS (X.letL (X.lst (X.cons (X.v (.int 0)) X.nil)) fun days' => X.seqF (X.bind (g__law_draw [.list draws', (.int 6)]) fun (o2, draws') => X.bind (X.rng1 o2.dat) fun ds1 => X.forF b__law_book_1 ds1 (draws', days')) fun (draws', days') => X.bind (X.lst (X.cons (X.v (.str "old")) (X.cons (X.v (.str "new")) (X.cons (X.v (.str "kind")) X.nil)))) fun o14 => X.bind (g__law_draw [.list draws', (.int 3)]) fun (o15, draws') => X.bind (X.ofP (ixD o14.dat o15.dat)) fun o13 => X.bind (X.seqI (X.opN sortedD (X.cons (X.v (.list days')) X.nil))) fun ds18 => X.bind (X.lcS (.ok ds18) draws' c__law_book_2) fun (o17, draws') => X.bind (X.ofP (tupleD [o17.dat])) fun o16 => X.bind (X.tup (.ok [o13.dat, o16.dat])) fun o12 => X.ok (Fl.rt (o12, draws'))))
theorem z__law_book : Sem1 sem__law_book g__law_book := sem1_fn 0 rfl rfl (ent_io fun draws' => ent_f1 (bx_own (px_lst (pav_cons (PX.f px_c) pav_nil)) rfl (fun days' => bx_seq (fun (draws', days') => [some (.io 0 draws'), some (.fl days'), none, none]) (bx_forK (ki_r1 (kw_call1 z__law_draw (ka_io rfl rfl (ka_f (kw_c (ka_nil ⟨_, _, _, _, rfl, rfl, (fun draws' => (cov_io rfl)), rfl, fun o2 draws' => ⟨_, rfl, fun ds1 => ⟨_, _, rfl, .eq (.eq (.un (.un .nil))), fun k' ⟨draws', days'⟩ => gk_n rfl (bx_setK (kw_bin (kw_lst (ka_f (kw_bin (kw_c (kw_call1 z__law_draw (ka_io rfl rfl (ka_f (kw_c (ka_nil ⟨_, _, _, _, rfl, rfl, (fun draws' => (cov_io rfl)), rfl, fun o6 draws' => ⟨_, rfl, fun o5 => ka_f (kw_bin (kw_c (kw_call1 z__law_draw (ka_io rfl rfl (ka_f (kw_c (ka_nil ⟨_, _, _, _, rfl, rfl, (fun draws' => (cov_io rfl)), rfl, fun o8 draws' => ⟨_, rfl, fun o7 => ka_f (kw_c (ka_nil ⟨_, _, rfl, rfl, fun o4 => kw_bin (kw_bin (kw_call1 z__law_draw (ka_io rfl rfl (ka_f (kw_c (ka_nil ⟨_, _, _, _, rfl, rfl, (fun draws' => (cov_io rfl)), rfl, fun o11 draws' => kw_c ⟨_, rfl, fun o10 => kw_c ⟨_, rfl, fun o9 => ⟨_, rfl, fun o3 => ⟨rfl, bx_ifl (kt_pt (pt_B (PX.w (px_bin (PX.w (px_var rfl)) (px_own rfl)))) (fun _ => ⟨_, _, rfl, bx_one (bx_app (px_var rfl) rfl rfl rfl (fun days' => bx_nx (.eq (.eq (.un (.un .nil)))))), bx_nx (.eq (.eq (.un (.un .nil))))⟩))⟩⟩⟩⟩⟩))))))⟩))⟩⟩)))))))⟩⟩)))))))))))⟩⟩⟩))))))) (fun ⟨draws', days'⟩ => bx_retK (kw_tup (ka_f (kw_bin (kw_px (px_lst (pav_cons (PX.f px_c) (pav_cons (PX.f px_c) (pav_cons (PX.f px_c) pav_nil)))) (fun o14 => kw_call1 z__law_draw (ka_io rfl rfl (ka_f (kw_c (ka_nil ⟨_, _, _, _, rfl, rfl, (fun draws' => (cov_io rfl)), rfl, fun o15 draws' => ⟨_, rfl, fun o13 => ka_f (kw_n (ka_n (kw_lcS (fun draws' => [some (.io 0 draws'), some (.fl days'), none, none]) (ki_pi (pi_sq (PX.f (px_n (pan_cons (px_own rfl) pan_nil)))) (fun ds18 => ⟨_, _, _, rfl, .eq (.eq (.un (.un .nil))), ⟨_, fun _ => rfl⟩, (fun day' draws' => gk_n rfl (kt_pt pt_yes (fun b => ⟨_, _, rfl, kw_tup (ka_f (kw_var rfl (ka_f (kw_call1 z__law_table (ka_io rfl rfl (ka_nil ⟨_, _, _, _, rfl, rfl, (fun draws' => cov_any), rfl, fun o20 draws' => ka_nil ⟨_, _, rfl, rfl, fun o19 => ⟨_, rfl, .eq (.eq (.un (.un .nil)))⟩⟩⟩)))))), .inl rfl⟩))), (fun _ => rfl), fun o17 draws' => ka_nil ⟨_, _, rfl, rfl, fun o16 => ka_nil ⟨_, _, rfl, rfl, fun o12 => ⟨_, rfl, fun ρ fr => rt1_o rfl rfl _ ρ fr⟩⟩⟩⟩)))))⟩⟩)))))))))))))
abbrev c__law_fee_1 (value' : D) : D → X (Option D) := fun step' => X.keep (X.tB (X.op2 leD (X.op2 ixD (X.v step') (X.v (.int 0))) (X.v value'))) (X.v step')
def g__law_fee : List D → X O := X.pD fun tariff' => X.pD fun value' => X.p0 (X.fin (X.letD (X.v tariff') fun d1 => X.un2 d1 fun way' steps' => X.letD (X.op2 ixD (X.lc (X.seqI (X.v steps')) (c__law_fee_1 value')) (X.op1 negD (X.v (.int 1)))) fun d2 => X.un3 d2 fun low' base' rate' => X.letD (X.op2 mulD (X.op2 ixD (X.v rate') (X.v (.int 0))) (X.op2 subD (X.v value') (X.v low'))) fun exact' => X.letD (X.op2 fdivD (X.v exact') (X.op2 ixD (X.v rate') (X.v (.int 1)))) fun number' => X.letD (X.op2 subD (X.v exact') (X.op2 mulD (X.v number') (X.op2 ixD (X.v rate') (X.v (.int 1))))) fun rest' => X.seqF (X.iff_ (X.tOr (X.tAnd (X.tB (X.op2 eqD (X.v way') (X.v (.str "up")))) (X.tB (X.op2 gtD (X.v rest') (X.v (.int 0))))) (X.tAnd (X.tB (X.op2 eqD (X.v way') (X.v (.str "near")))) (X.tOr (X.tB (X.op2 gtD (X.op2 mulD (X.v (.int 2)) (X.v rest')) (X.op2 ixD (X.v rate') (X.v (.int 1))))) (X.tAnd (X.tB (X.op2 eqD (X.op2 mulD (X.v (.int 2)) (X.v rest')) (X.op2 ixD (X.v rate') (X.v (.int 1))))) (X.tB (X.op2 eqD (X.op2 modD (X.v number') (X.v (.int 2))) (X.v (.int 1)))))))) (X.letD (X.op2 addD (X.v number') (X.v (.int 1))) fun number' => X.ok (Fl.nx number')) (X.ok (Fl.nx number'))) fun number' => X.ret (X.op2 addD (X.v base') (X.v number'))))
theorem z__law_fee : Sem0 sem__law_fee g__law_fee := sem0_fn rfl (ent_d fun tariff' => ent_d fun value' => ent_f0 (bx_un (PX.w (px_var rfl)) (fun d1 => gk_un2 (fun way' steps' => gk_n rfl (gk_n rfl (bx_nm (L2 := [some (.fz tariff'), some (.fz value'), some (.fz way'), some (.fz steps'), none, none, none, none, none, none, none]) rfl (bx_un (PX.w (px_bin (PX.w (px_lc (pi_sq (PX.f (px_var rfl))) (fun step' => gk_n rfl ⟨_, _, _, rfl, pt_B (PX.w (px_bin (PX.w (px_bin (PX.w (px_var rfl)) (PX.w px_c))) (PX.w (px_var rfl)))), PX.f (px_var rfl), rfl, rfl⟩))) (PX.w (px_un (PX.w px_c))))) (fun d2 => gk_un3 (fun low' base' rate' => gk_n rfl (gk_n rfl (gk_n rfl (bx_nm (L2 := [some (.fz tariff'), some (.fz value'), some (.fz way'), some (.fz steps'), some (.fz low'), some (.fz base'), some (.fz rate'), none, none, none, none]) rfl (bx_set (PX.f (px_bin (PX.w (px_bin (PX.w (px_var rfl)) (PX.w px_c))) (PX.w (px_bin (PX.w (px_var rfl)) (PX.w (px_var rfl)))))) rfl (fun exact' => bx_nm (L2 := [some (.fz tariff'), some (.fz value'), some (.fz way'), some (.fz steps'), some (.fz low'), some (.fz base'), some (.fz rate'), some (.fz exact'), none, none, none]) rfl (bx_set (PX.f (px_bin (PX.w (px_var rfl)) (PX.w (px_bin (PX.w (px_var rfl)) (PX.w px_c))))) rfl (fun number' => bx_nm (L2 := [some (.fz tariff'), some (.fz value'), some (.fz way'), some (.fz steps'), some (.fz low'), some (.fz base'), some (.fz rate'), some (.fz exact'), some (.fz number'), none, none]) rfl (bx_set (PX.f (px_bin (PX.w (px_var rfl)) (PX.w (px_bin (PX.w (px_var rfl)) (PX.w (px_bin (PX.w (px_var rfl)) (PX.w px_c))))))) rfl (fun rest' => bx_nm (L2 := [some (.fz tariff'), some (.fz value'), some (.fz way'), some (.fz steps'), some (.fz low'), some (.fz base'), some (.fz rate'), some (.fz exact'), some (.fz number'), some (.fz rest'), none]) rfl (bx_seq (fun number' => [some (.fz tariff'), some (.fz value'), some (.fz way'), some (.fz steps'), some (.fz low'), some (.fz base'), some (.fz rate'), some (.fz exact'), some (.fz number'), some (.fz rest'), none]) (bx_ifl (kt_pt (pt_or (pt_and (pt_B (PX.w (px_bin (PX.w (px_var rfl)) (PX.w px_c)))) (pt_B (PX.w (px_bin (PX.w (px_var rfl)) (PX.w px_c))))) (pt_and (pt_B (PX.w (px_bin (PX.w (px_var rfl)) (PX.w px_c)))) (pt_or (pt_B (PX.w (px_bin (PX.w (px_bin (PX.w px_c) (PX.w (px_var rfl)))) (PX.w (px_bin (PX.w (px_var rfl)) (PX.w px_c)))))) (pt_and (pt_B (PX.w (px_bin (PX.w (px_bin (PX.w px_c) (PX.w (px_var rfl)))) (PX.w (px_bin (PX.w (px_var rfl)) (PX.w px_c)))))) (pt_B (PX.w (px_bin (PX.w (px_bin (PX.w (px_var rfl)) (PX.w px_c))) (PX.w px_c)))))))) (fun _ => ⟨_, _, rfl, bx_one (bx_set (PX.f (px_bin (PX.w (px_var rfl)) (PX.w px_c))) rfl (fun number' => bx_nx (.eq (.eq (.eq (.eq (.eq (.eq (.eq (.eq (.eq (.eq (.un .nil))))))))))))), bx_nx (.eq (.eq (.eq (.eq (.eq (.eq (.eq (.eq (.eq (.eq (.un .nil)))))))))))⟩))) (fun number' => bx_nm (L2 := [some (.fz tariff'), some (.fz value'), some (.fz way'), some (.fz steps'), some (.fz low'), some (.fz base'), some (.fz rate'), some (.fz exact'), some (.fz number'), some (.fz rest'), none]) rfl (bx_ret (r := fun o => o) (px_bin (PX.w (px_var rfl)) (PX.w (px_var rfl))) (fun o ρ _ => rt0_o rfl o ρ))))))))))))))))))))))
abbrev c__law_fees_1 (day' : D) : D → X (Option D) := fun row' => X.keep (X.tB (X.op2 leD (X.op2 ixD (X.v row') (X.v (.int 0))) (X.v day'))) (X.v row')
abbrev c__law_fees_2 (name' : D) (value' : D) : D → X (Option D) := fun d1 => X.un2 d1 fun word' tariff' => X.keep (X.tB (X.op2 eqD (X.v word') (X.v name'))) (X.call g__law_fee (X.cons (X.v tariff') (X.cons (X.v value') X.nil)))
def g__law_fees : List D → X O := X.pD fun book' => X.pD fun name' => X.pD fun value' => X.pD fun day' => X.p0 (X.fin (X.letD (X.op2 ixD (X.op2 ixD (X.lc (X.seqI (X.op2 ixD (X.v book') (X.v (.int 1)))) (c__law_fees_1 day')) (X.op1 negD (X.v (.int 1)))) (X.v (.int 1))) fun table' => X.ret (X.lc (X.seqI (X.v table')) (c__law_fees_2 name' value'))))
theorem z__law_fees : Sem0 sem__law_fees g__law_fees := sem0_fn rfl (ent_d fun book' => ent_d fun name' => ent_d fun value' => ent_d fun day' => ent_f0 (bx_set (PX.f (px_bin (PX.w (px_bin (PX.w (px_lc (pi_sq (PX.f (px_bin (PX.w (px_var rfl)) (PX.w px_c)))) (fun row' => gk_n rfl ⟨_, _, _, rfl, pt_B (PX.w (px_bin (PX.w (px_bin (PX.w (px_var rfl)) (PX.w px_c))) (PX.w (px_var rfl)))), PX.f (px_var rfl), rfl, rfl⟩))) (PX.w (px_un (PX.w px_c))))) (PX.w px_c))) rfl (fun table' => bx_nm (L2 := [some (.fz book'), some (.fz name'), some (.fz value'), some (.fz day'), some (.fz table'), none, none, none]) rfl (bx_ret (r := fun o => o) (px_lc (pi_sq (PX.f (px_var rfl))) (fun d1 => gk_un2 (fun word' tariff' => gk_n rfl (gk_n rfl ⟨_, _, _, rfl, pt_B (PX.w (px_bin (PX.w (px_var rfl)) (PX.w (px_var rfl)))), PX.f (px_call z__law_fee (pad_cons (PX.f (px_var rfl)) (pad_cons (PX.f (px_var rfl)) pad_nil)) cov_any), rfl, rfl⟩)))) (fun o ρ _ => rt0_o rfl o ρ)))))
def g__law_due : List D → X O := X.pD fun book' => X.pD fun name' => X.pD fun value' => X.pD fun begun' => X.pD fun filed' => X.p0 (X.fin (X.letD (X.lst X.nil) fun found' => X.seqF (X.iff_ (X.tB (X.op2 neD (X.op2 ixD (X.v book') (X.v (.int 0))) (X.v (.str "new")))) (X.letD (X.op2 addD (X.v found') (X.call g__law_fees (X.cons (X.v book') (X.cons (X.v name') (X.cons (X.v value') (X.cons (X.v begun') X.nil)))))) fun found' => X.ok (Fl.nx found')) (X.ok (Fl.nx found'))) fun found' => X.seqF (X.iff_ (X.tB (X.op2 neD (X.op2 ixD (X.v book') (X.v (.int 0))) (X.v (.str "old")))) (X.letD (X.op2 addD (X.v found') (X.call g__law_fees (X.cons (X.v book') (X.cons (X.v name') (X.cons (X.v value') (X.cons (X.v filed') X.nil)))))) fun found' => X.ok (Fl.nx found')) (X.ok (Fl.nx found'))) fun found' => X.iff_ (X.tB (X.op2 eqD (X.v found') (X.lst X.nil))) (X.ret (X.v (.str "NotThere"))) (X.ret (X.cond (X.tB (X.op2 ltD (X.v filed') (X.v begun'))) (X.v (.str "Refused")) (X.opN minLD (X.cons (X.v found') X.nil))))))
theorem z__law_due : Sem0 sem__law_due g__law_due := sem0_fn rfl (ent_d fun book' => ent_d fun name' => ent_d fun value' => ent_d fun begun' => ent_d fun filed' => ent_f0 (bx_set (PX.f (px_lst pav_nil)) rfl (fun found' => bx_nm (L2 := [some (.fz book'), some (.fz name'), some (.fz value'), some (.fz begun'), some (.fz filed'), some (.fz found')]) rfl (bx_seq (fun found' => [some (.fz book'), some (.fz name'), some (.fz value'), some (.fz begun'), some (.fz filed'), some (.fz found')]) (bx_ifl (kt_pt (pt_B (PX.w (px_bin (PX.w (px_bin (PX.w (px_var rfl)) (PX.w px_c))) (PX.w px_c)))) (fun _ => ⟨_, _, rfl, bx_one (bx_set (PX.f (px_bin (PX.w (px_var rfl)) (PX.w (px_call z__law_fees (pad_cons (PX.f (px_var rfl)) (pad_cons (PX.f (px_var rfl)) (pad_cons (PX.f (px_var rfl)) (pad_cons (PX.f (px_var rfl)) pad_nil)))) cov_any)))) rfl (fun found' => bx_nx (.eq (.eq (.eq (.eq (.eq (.eq .nil)))))))), bx_nx (.eq (.eq (.eq (.eq (.eq (.eq .nil))))))⟩))) (fun found' => bx_nm (L2 := [some (.fz book'), some (.fz name'), some (.fz value'), some (.fz begun'), some (.fz filed'), some (.fz found')]) rfl (bx_seq (fun found' => [some (.fz book'), some (.fz name'), some (.fz value'), some (.fz begun'), some (.fz filed'), some (.fz found')]) (bx_ifl (kt_pt (pt_B (PX.w (px_bin (PX.w (px_bin (PX.w (px_var rfl)) (PX.w px_c))) (PX.w px_c)))) (fun _ => ⟨_, _, rfl, bx_one (bx_set (PX.f (px_bin (PX.w (px_var rfl)) (PX.w (px_call z__law_fees (pad_cons (PX.f (px_var rfl)) (pad_cons (PX.f (px_var rfl)) (pad_cons (PX.f (px_var rfl)) (pad_cons (PX.f (px_var rfl)) pad_nil)))) cov_any)))) rfl (fun found' => bx_nx (.eq (.eq (.eq (.eq (.eq (.eq .nil)))))))), bx_nx (.eq (.eq (.eq (.eq (.eq (.eq .nil))))))⟩))) (fun found' => bx_nm (L2 := [some (.fz book'), some (.fz name'), some (.fz value'), some (.fz begun'), some (.fz filed'), some (.fz found')]) rfl (bx_ifx (kt_pt (pt_B (PX.w (px_bin (PX.w (px_var rfl)) (PX.w (px_lst pav_nil))))) (fun _ => ⟨_, _, rfl, bx_ret (r := fun o => o) px_c (fun o ρ _ => rt0_o rfl o ρ), bx_ret (r := fun o => o) (px_if (pt_B (PX.w (px_bin (PX.w (px_var rfl)) (PX.w (px_var rfl))))) px_c (px_n (pan_cons (PX.w (px_var rfl)) pan_nil))) (fun o ρ _ => rt0_o rfl o ρ)⟩)) xt_ret))))))))
def g__law_asked : List D → X O := X.pD fun book' => X.pD fun name' => X.pD fun value' => X.pD fun begun' => X.pD fun filed' => X.p0 (X.fin (X.letD (X.call g__law_due (X.cons (X.v book') (X.cons (X.v name') (X.cons (X.v value') (X.cons (X.v begun') (X.cons (X.v filed') X.nil)))))) fun due' => X.seqF (X.tryF ["NotThere", "Refused"] (X.letD (X.call g_fee_due (X.cons (X.v book') (X.cons (X.v name') (X.cons (X.v value') (X.cons (X.v begun') (X.cons (X.v filed') X.nil)))))) fun told' => X.ok (Fl.nx told')) (fun k1 => X.ret (X.op2 eqD (X.call g__law_told (X.cons (X.v (.str k1)) X.nil)) (X.v due')))) fun told' => X.ret (X.and (X.call g__law_int (X.cons (X.v told') X.nil)) (X.op2 eqD (X.v told') (X.v due')))))
theorem z__law_asked : Sem0 sem__law_asked g__law_asked := sem0_fn rfl (ent_d fun book' => ent_d fun name' => ent_d fun value' => ent_d fun begun' => ent_d fun filed' => ent_f0 (bx_set (PX.f (px_call z__law_due (pad_cons (PX.f (px_var rfl)) (pad_cons (PX.f (px_var rfl)) (pad_cons (PX.f (px_var rfl)) (pad_cons (PX.f (px_var rfl)) (pad_cons (PX.f (px_var rfl)) pad_nil))))) cov_any)) rfl (fun due' => bx_nm (L2 := [some (.fz book'), some (.fz name'), some (.fz value'), some (.fz begun'), some (.fz filed'), some (.fz due'), none, none]) rfl (bx_seq (fun told' => [some (.fz book'), some (.fz name'), some (.fz value'), some (.fz begun'), some (.fz filed'), some (.fz due'), some (.fz told'), none]) (bx_try [some (.fz book'), some (.fz name'), some (.fz value'), some (.fz begun'), some (.fz filed'), some (.fz due'), none, none] (bx_one (bx_set (PX.f (px_call z_fee_due (pad_cons (PX.f (px_var rfl)) (pad_cons (PX.f (px_var rfl)) (pad_cons (PX.f (px_var rfl)) (pad_cons (PX.f (px_var rfl)) (pad_cons (PX.f (px_var rfl)) pad_nil))))) (cov_sub (.eq (.eq (.eq (.eq (.eq (.eq (.un (.un .nil))))))))))) rfl (fun told' => bx_nx (.eq (.eq (.eq (.eq (.eq (.eq (.eq (.un .nil))))))))))) rfl rfl (fun told' => ⟨rfl, rfl⟩) (fun _ => ⟨rfl, rfl⟩) rtc0 (fun k1 => bx_ret (r := fun o => o) (px_bin (PX.w (px_call z__law_told (pad_er rfl rfl pad_nil) cov_any)) (PX.w (px_var rfl))) (fun o ρ _ => rt0_o rfl o ρ))) (fun told' => bx_nm (L2 := [some (.fz book'), some (.fz name'), some (.fz value'), some (.fz begun'), some (.fz filed'), some (.fz due'), some (.fz told'), none]) rfl (bx_ret (r := fun o => o) (px_and (PX.w (px_call z__law_int (pad_cons (PX.f (px_var rfl)) pad_nil) cov_any)) (px_bin (PX.w (px_var rfl)) (PX.w (px_var rfl)))) (fun o ρ _ => rt0_o rfl o ρ)))))))
def g__law_cut : List D → X (O × List D) := X.pD fun book' => X.pL fun draws' => X.p0 (X.finS (X.letD (X.v book') fun d1 => X.un2 d1 fun way' rows' => X.bind (X.opN lenD (X.cons (X.v rows') X.nil)) fun o3 => X.bind (g__law_draw [.list draws', o3.dat]) fun (o2, draws') => X.letD (X.cond (X.tB (X.op2 ltD (X.op2 addD (X.v o2.dat) (X.v (.int 1))) (X.opN lenD (X.cons (X.v rows') X.nil)))) (X.op2 ixD (X.op2 ixD (X.v rows') (X.op2 addD (X.v o2.dat) (X.v (.int 1)))) (X.v (.int 0))) (X.v (.int 1000001))) fun end' => X.bind (X.op2 addD (X.op2 ixD (X.op2 ixD (X.v rows') (X.v o2.dat)) (X.v (.int 0))) (X.v (.int 1))) fun o5 => X.bind (X.opN max2D (X.cons (X.v (.int 1)) (X.cons (X.op2 subD (X.op2 subD (X.v end') (X.op2 ixD (X.op2 ixD (X.v rows') (X.v o2.dat)) (X.v (.int 0)))) (X.v (.int 1))) X.nil))) fun o7 => X.bind (g__law_draw [.list draws', o7.dat]) fun (o6, draws') => X.bind (X.ofP (addD o5.dat o6.dat)) fun o4 => X.iff_ (X.tB (X.op2 geD (X.v o4.dat) (X.v end'))) (X.retS (X.v book') draws') (X.retS (X.tup (X.cons (X.v way') (X.cons (X.op2 addD (X.op2 addD (X.sl (X.v rows') X.noI (X.soI (X.op2 addD (X.v o2.dat) (X.v (.int 1))))) (X.tup (X.cons (X.tup (X.cons (X.v o4.dat) (X.cons (X.op2 ixD (X.op2 ixD (X.v rows') (X.v o2.dat)) (X.v (.int 1))) X.nil))) X.nil))) (X.sl (X.v rows') (X.soI (X.op2 addD (X.v o2.dat) (X.v (.int 1)))) X.noI)) X.nil))) draws')))
theorem z__law_cut : Sem1 sem__law_cut g__law_cut := sem1_fn 1 rfl rfl (ent_d fun book' => ent_io fun draws' => ent_f1 (bx_un (PX.w (px_var rfl)) (fun d1 => gk_un2 (fun way' rows' => gk_n rfl (gk_n rfl (bx_nm (L2 := [some (.fz book'), some (.io 0 draws'), some (.fz way'), some (.fz rows'), none, none, none]) rfl (bx_setK (kw_call1 z__law_draw (ka_io rfl rfl (ka_f (kw_px (px_n (pan_cons (PX.w (px_var rfl)) pan_nil)) (fun o3 => ka_nil ⟨_, _, _, _, rfl, rfl, (fun draws' => (cov_io rfl)), rfl, fun o2 draws' => ⟨rfl, bx_nm (L2 := [some (.fz book'), some (.io 0 draws'), some (.fz way'), some (.fz rows'), some (.fz o2.dat), none, none]) rfl (bx_set (PX.f (px_if (pt_B (PX.w (px_bin (PX.w (px_bin (PX.w (px_var rfl)) (PX.w px_c))) (PX.w (px_n (pan_cons (PX.w (px_var rfl)) pan_nil)))))) (px_bin (PX.w (px_bin (PX.w (px_var rfl)) (PX.w (px_bin (PX.w (px_var rfl)) (PX.w px_c))))) (PX.w px_c)) px_c)) rfl (fun end' => bx_nm (L2 := [some (.fz book'), some (.io 0 draws'), some (.fz way'), some (.fz rows'), some (.fz o2.dat), some (.fz end'), none]) rfl (bx_setK (kw_bin (kw_px (px_bin (PX.w (px_bin (PX.w (px_bin (PX.w (px_var rfl)) (PX.w (px_var rfl)))) (PX.w px_c))) (PX.w px_c)) (fun o5 => kw_call1 z__law_draw (ka_io rfl rfl (ka_f (kw_px (px_n (pan_cons (PX.w px_c) (pan_cons (PX.w (px_bin (PX.w (px_bin (PX.w (px_var rfl)) (PX.w (px_bin (PX.w (px_bin (PX.w (px_var rfl)) (PX.w (px_var rfl)))) (PX.w px_c))))) (PX.w px_c))) pan_nil))) (fun o7 => ka_nil ⟨_, _, _, _, rfl, rfl, (fun draws' => (cov_io rfl)), rfl, fun o6 draws' => ⟨_, rfl, fun o4 => ⟨rfl, bx_nm (L2 := [some (.fz book'), some (.io 0 draws'), some (.fz way'), some (.fz rows'), some (.fz o2.dat), some (.fz end'), some (.fz o4.dat)]) rfl (bx_ifx (kt_pt (pt_B (PX.w (px_bin (PX.w (px_var rfl)) (PX.w (px_var rfl))))) (fun _ => ⟨_, _, rfl, bx_ret (r := fun o => (o, draws')) (px_var rfl) (fun o ρ fr => rt1_o rfl rfl o ρ fr), bx_ret (r := fun o => (o, draws')) (px_tup (pav_cons (PX.f (px_var rfl)) (pav_cons (PX.f (px_bin (PX.w (px_bin (PX.w (px_sl (PX.w (px_var rfl)) po_no (po_so (PX.w (px_bin (PX.w (px_var rfl)) (PX.w px_c)))))) (PX.w (px_tup (pav_cons (PX.f (px_tup (pav_cons (PX.f (px_var rfl)) (pav_cons (PX.f (px_bin (PX.w (px_bin (PX.w (px_var rfl)) (PX.w (px_var rfl)))) (PX.w px_c))) pav_nil)))) pav_nil))))) (PX.w (px_sl (PX.w (px_var rfl)) (po_so (PX.w (px_bin (PX.w (px_var rfl)) (PX.w px_c)))) po_no)))) pav_nil))) (fun o ρ fr => rt1_o rfl rfl o ρ fr)⟩)) xt_ret)⟩⟩⟩))))))))))⟩⟩))))))))))))
abbrev b__law_wrong_1 : D → Unit → X (Fl Unit Unit O) := fun value' _ => X.iff_ (X.tB (X.op2 isNotD (X.call g_is_fee_book (X.cons (X.v value') X.nil)) (X.v (.bool false)))) (X.ret (X.v (.bool false))) (X.ok (Fl.nx ()))
abbrev c__law_wrong_2 : D → X (Option D) := fun k' => X.keep (.ok true) (X.op2 mulD (X.v (.str "a")) (X.op2 addD (X.v k') (X.v (.int 1))))
abbrev c__law_wrong_3 (step' : D) : D → X (Option D) := fun name' => X.keep (.ok true) (X.tup (X.cons (X.v name') (X.cons (X.v step') X.nil)))
abbrev c__law_wrong_4 : D → X (Option D) := fun k' => X.keep (.ok true) (X.tup (X.cons (X.v k') (X.cons (X.tup X.nil) X.nil)))
def g__law_wrong : List D → X O := X.pD fun book' => X.p0 (X.fin (X.letD (X.v book') fun d1 => X.un2 d1 fun way' rows' => X.letD (X.op2 ixD (X.v rows') (X.op1 negD (X.v (.int 1)))) fun d2 => X.un2 d2 fun day' table' => X.letD (X.tup (X.cons (X.v (.str "up")) (X.cons (X.tup (X.cons (X.tup (X.cons (X.v (.int 0)) (X.cons (X.v (.int 1)) (X.cons (X.tup (X.cons (X.v (.int 0)) (X.cons (X.v (.int 1)) X.nil))) X.nil)))) X.nil)) X.nil))) fun step' => X.letD (X.lst (X.cons (X.tup (X.cons (X.v (.str "older")) (X.cons (X.v rows') X.nil))) (X.cons (X.tup (X.cons (X.v way') (X.cons (X.opN listD (X.cons (X.v rows') X.nil)) X.nil))) (X.cons (X.tup (X.cons (X.v way') (X.cons (X.tup X.nil) X.nil))) (X.cons (X.lst (X.cons (X.v way') (X.cons (X.v rows') X.nil))) (X.cons (X.tup (X.cons (X.v way') (X.cons (X.v rows') (X.cons (X.v (.int 1)) X.nil)))) (X.cons (X.tup (X.cons (X.v way') (X.cons (X.op2 addD (X.v rows') (X.tup (X.cons (X.op2 ixD (X.v rows') (X.op1 negD (X.v (.int 1)))) X.nil))) X.nil))) (X.cons (X.v .none) (X.cons (X.v way') (X.cons (X.tup (X.cons (X.v way') (X.cons (X.tup (X.cons (X.tup (X.cons (X.v (.int 1)) (X.cons (X.v table') X.nil))) X.nil)) X.nil))) (X.cons (X.tup (X.cons (X.v way') (X.cons (X.op2 addD (X.sl (X.v rows') X.noI (X.soI (X.op1 negD (X.v (.int 1))))) (X.tup (X.cons (X.tup (X.cons (X.v day') (X.cons (X.opN listD (X.cons (X.v table') X.nil)) X.nil))) X.nil))) X.nil))) (X.cons (X.tup (X.cons (X.v way') (X.cons (X.tup (X.cons (X.tup (X.cons (X.v (.bool true)) (X.cons (X.v table') X.nil))) X.nil)) X.nil))) (X.cons (X.tup (X.cons (X.v way') (X.cons (X.tup (X.cons (X.tup (X.cons (X.v (.int 0)) (X.cons (X.v table') (X.cons (X.v (.int 1)) X.nil)))) X.nil)) X.nil))) (X.cons (X.tup (X.cons (X.v way') (X.cons (X.op2 addD (X.v rows') (X.tup (X.cons (X.tup (X.cons (X.v (.int 1000001)) (X.cons (X.v table') X.nil))) X.nil))) X.nil))) (X.cons (X.tup (X.cons (X.v way') (X.cons (X.tup (X.cons (X.tup (X.cons (X.v (.int 0)) (X.cons (X.tup (X.cons (X.tup (X.cons (X.v (.str "a")) (X.cons (X.v step') X.nil))) (X.cons (X.tup (X.cons (X.v (.str "a")) (X.cons (X.v step') X.nil))) X.nil))) X.nil))) X.nil)) X.nil))) (X.cons (X.tup (X.cons (X.v way') (X.cons (X.tup (X.cons (X.tup (X.cons (X.v (.int 0)) (X.cons (X.tup (X.cons (X.tup (X.cons (X.v (.str "b")) (X.cons (X.v step') X.nil))) (X.cons (X.tup (X.cons (X.v (.str "a")) (X.cons (X.v step') X.nil))) X.nil))) X.nil))) X.nil)) X.nil))) (X.cons (X.tup (X.cons (X.v way') (X.cons (X.tup (X.cons (X.tup (X.cons (X.v (.int 0)) (X.cons (X.tup (X.cons (X.tup (X.cons (X.v (.str "A")) (X.cons (X.v step') X.nil))) X.nil)) X.nil))) X.nil)) X.nil))) (X.cons (X.tup (X.cons (X.v way') (X.cons (X.tup (X.cons (X.tup (X.cons (X.v (.int 0)) (X.cons (X.tup (X.cons (X.tup (X.cons (X.v (.str "a")) (X.cons (X.tup (X.cons (X.v (.str "up")) (X.cons (X.tup X.nil) X.nil))) X.nil))) X.nil)) X.nil))) X.nil)) X.nil))) (X.cons (X.tup (X.cons (X.v way') (X.cons (X.tup (X.cons (X.tup (X.cons (X.v (.int 0)) (X.cons (X.tup (X.cons (X.tup (X.cons (X.v (.str "a")) X.nil)) X.nil)) X.nil))) X.nil)) X.nil))) (X.cons (X.tup (X.cons (X.v .none) (X.cons (X.v rows') X.nil))) X.nil)))))))))))))))))))) fun wrong' => X.seqF (X.for_ (X.seqI (X.v wrong')) () b__law_wrong_1) fun _ => X.letD (X.lc (X.range1 (X.v (.int 13))) c__law_wrong_2) fun names' => X.letD (X.opN tupleD (X.cons (X.lc (X.seqI (X.v names')) (c__law_wrong_3 step')) X.nil)) fun wide' => X.letD (X.opN tupleD (X.cons (X.lc (X.range1 (X.v (.int 13))) c__law_wrong_4) X.nil)) fun long' => X.iff_ (X.tOr (X.tB (X.op2 isNotD (X.call g_is_fee_book (X.cons (X.tup (X.cons (X.v way') (X.cons (X.tup (X.cons (X.tup (X.cons (X.v (.int 0)) (X.cons (X.sl (X.v wide') X.noI (X.soI (X.v (.int 12)))) X.nil))) X.nil)) X.nil))) X.nil)) (X.v (.bool true)))) (X.tB (X.op2 isNotD (X.call g_is_fee_book (X.cons (X.tup (X.cons (X.v way') (X.cons (X.tup (X.cons (X.tup (X.cons (X.v (.int 0)) (X.cons (X.v wide') X.nil))) X.nil)) X.nil))) X.nil)) (X.v (.bool false))))) (X.ret (X.v (.bool false))) (X.ret (X.and (X.op2 isD (X.call g_is_fee_book (X.cons (X.tup (X.cons (X.v way') (X.cons (X.sl (X.v long') X.noI (X.soI (X.v (.int 12)))) X.nil))) X.nil)) (X.v (.bool true))) (X.op2 isD (X.call g_is_fee_book (X.cons (X.tup (X.cons (X.v way') (X.cons (X.v long') X.nil))) X.nil)) (X.v (.bool false)))))))
theorem z__law_wrong : Sem0 sem__law_wrong g__law_wrong := sem0_fn rfl (ent_d fun book' => ent_f0 (bx_un (PX.w (px_var rfl)) (fun d1 => gk_un2 (fun way' rows' => gk_n rfl (gk_n rfl (bx_nm (L2 := [some (.fz book'), some (.fz way'), some (.fz rows'), none, none, none, none, none, none, none, none, none, none]) rfl (bx_un (PX.w (px_bin (PX.w (px_var rfl)) (PX.w (px_un (PX.w px_c))))) (fun d2 => gk_un2 (fun day' table' => gk_n rfl (gk_n rfl (bx_nm (L2 := [some (.fz book'), some (.fz way'), some (.fz rows'), some (.fz day'), some (.fz table'), none, none, none, none, none, none, none, none]) rfl (bx_set (PX.f (px_tup (pav_cons (PX.f px_c) (pav_cons (PX.f (px_tup (pav_cons (PX.f (px_tup (pav_cons (PX.f px_c) (pav_cons (PX.f px_c) (pav_cons (PX.f (px_tup (pav_cons (PX.f px_c) (pav_cons (PX.f px_c) pav_nil)))) pav_nil))))) pav_nil))) pav_nil)))) rfl (fun step' => bx_nm (L2 := [some (.fz book'), some (.fz way'), some (.fz rows'), some (.fz day'), some (.fz table'), some (.fz step'), none, none, none, none, none, none, none]) rfl (bx_set (PX.f (px_lst (pav_cons (PX.f (px_tup (pav_cons (PX.f px_c) (pav_cons (PX.f (px_var rfl)) pav_nil)))) (pav_cons (PX.f (px_tup (pav_cons (PX.f (px_var rfl)) (pav_cons (PX.f (px_n (pan_cons (PX.w (px_var rfl)) pan_nil))) pav_nil)))) (pav_cons (PX.f (px_tup (pav_cons (PX.f (px_var rfl)) (pav_cons (PX.f (px_tup pav_nil)) pav_nil)))) (pav_cons (PX.f (px_lst (pav_cons (PX.f (px_var rfl)) (pav_cons (PX.f (px_var rfl)) pav_nil)))) (pav_cons (PX.f (px_tup (pav_cons (PX.f (px_var rfl)) (pav_cons (PX.f (px_var rfl)) (pav_cons (PX.f px_c) pav_nil))))) (pav_cons (PX.f (px_tup (pav_cons (PX.f (px_var rfl)) (pav_cons (PX.f (px_bin (PX.w (px_var rfl)) (PX.w (px_tup (pav_cons (PX.f (px_bin (PX.w (px_var rfl)) (PX.w (px_un (PX.w px_c))))) pav_nil))))) pav_nil)))) (pav_cons (PX.f px_c) (pav_cons (PX.f (px_var rfl)) (pav_cons (PX.f (px_tup (pav_cons (PX.f (px_var rfl)) (pav_cons (PX.f (px_tup (pav_cons (PX.f (px_tup (pav_cons (PX.f px_c) (pav_cons (PX.f (px_var rfl)) pav_nil)))) pav_nil))) pav_nil)))) (pav_cons (PX.f (px_tup (pav_cons (PX.f (px_var rfl)) (pav_cons (PX.f (px_bin (PX.w (px_sl (PX.w (px_var rfl)) po_no (po_so (PX.w (px_un (PX.w px_c)))))) (PX.w (px_tup (pav_cons (PX.f (px_tup (pav_cons (PX.f (px_var rfl)) (pav_cons (PX.f (px_n (pan_cons (PX.w (px_var rfl)) pan_nil))) pav_nil)))) pav_nil))))) pav_nil)))) (pav_cons (PX.f (px_tup (pav_cons (PX.f (px_var rfl)) (pav_cons (PX.f (px_tup (pav_cons (PX.f (px_tup (pav_cons (PX.f px_c) (pav_cons (PX.f (px_var rfl)) pav_nil)))) pav_nil))) pav_nil)))) (pav_cons (PX.f (px_tup (pav_cons (PX.f (px_var rfl)) (pav_cons (PX.f (px_tup (pav_cons (PX.f (px_tup (pav_cons (PX.f px_c) (pav_cons (PX.f (px_var rfl)) (pav_cons (PX.f px_c) pav_nil))))) pav_nil))) pav_nil)))) (pav_cons (PX.f (px_tup (pav_cons (PX.f (px_var rfl)) (pav_cons (PX.f (px_bin (PX.w (px_var rfl)) (PX.w (px_tup (pav_cons (PX.f (px_tup (pav_cons (PX.f px_c) (pav_cons (PX.f (px_var rfl)) pav_nil)))) pav_nil))))) pav_nil)))) (pav_cons (PX.f (px_tup (pav_cons (PX.f (px_var rfl)) (pav_cons (PX.f (px_tup (pav_cons (PX.f (px_tup (pav_cons (PX.f px_c) (pav_cons (PX.f (px_tup (pav_cons (PX.f (px_tup (pav_cons (PX.f px_c) (pav_cons (PX.f (px_var rfl)) pav_nil)))) (pav_cons (PX.f (px_tup (pav_cons (PX.f px_c) (pav_cons (PX.f (px_var rfl)) pav_nil)))) pav_nil)))) pav_nil)))) pav_nil))) pav_nil)))) (pav_cons (PX.f (px_tup (pav_cons (PX.f (px_var rfl)) (pav_cons (PX.f (px_tup (pav_cons (PX.f (px_tup (pav_cons (PX.f px_c) (pav_cons (PX.f (px_tup (pav_cons (PX.f (px_tup (pav_cons (PX.f px_c) (pav_cons (PX.f (px_var rfl)) pav_nil)))) (pav_cons (PX.f (px_tup (pav_cons (PX.f px_c) (pav_cons (PX.f (px_var rfl)) pav_nil)))) pav_nil)))) pav_nil)))) pav_nil))) pav_nil)))) (pav_cons (PX.f (px_tup (pav_cons (PX.f (px_var rfl)) (pav_cons (PX.f (px_tup (pav_cons (PX.f (px_tup (pav_cons (PX.f px_c) (pav_cons (PX.f (px_tup (pav_cons (PX.f (px_tup (pav_cons (PX.f px_c) (pav_cons (PX.f (px_var rfl)) pav_nil)))) pav_nil))) pav_nil)))) pav_nil))) pav_nil)))) (pav_cons (PX.f (px_tup (pav_cons (PX.f (px_var rfl)) (pav_cons (PX.f (px_tup (pav_cons (PX.f (px_tup (pav_cons (PX.f px_c) (pav_cons (PX.f (px_tup (pav_cons (PX.f (px_tup (pav_cons (PX.f px_c) (pav_cons (PX.f (px_tup (pav_cons (PX.f px_c) (pav_cons (PX.f (px_tup pav_nil)) pav_nil)))) pav_nil)))) pav_nil))) pav_nil)))) pav_nil))) pav_nil)))) (pav_cons (PX.f (px_tup (pav_cons (PX.f (px_var rfl)) (pav_cons (PX.f (px_tup (pav_cons (PX.f (px_tup (pav_cons (PX.f px_c) (pav_cons (PX.f (px_tup (pav_cons (PX.f (px_tup (pav_cons (PX.f px_c) pav_nil))) pav_nil))) pav_nil)))) pav_nil))) pav_nil)))) (pav_cons (PX.f (px_tup (pav_cons (PX.f px_c) (pav_cons (PX.f (px_var rfl)) pav_nil)))) pav_nil))))))))))))))))))))) rfl (fun wrong' => bx_nm (L2 := [some (.fz book'), some (.fz way'), some (.fz rows'), some (.fz day'), some (.fz table'), some (.fz step'), some (.fz wrong'), none, none, none, none, none, none]) rfl (bx_seq (fun _ => [some (.fz book'), some (.fz way'), some (.fz rows'), some (.fz day'), some (.fz table'), some (.fz step'), some (.fz wrong'), none, none, none, none, none, none]) (bx_for (pi_sq (PX.f (px_var rfl))) (.eq (.eq (.eq (.eq (.eq (.eq (.eq (.un (.un (.un (.un (.un (.un .nil))))))))))))) (fun value' _ => gk_n rfl (bx_ifl (kt_pt (pt_B (PX.w (px_bin (PX.w (px_call z_is_fee_book (pad_cons (PX.f (px_var rfl)) pad_nil) cov_any)) (PX.w px_c)))) (fun _ => ⟨_, _, rfl, bx_ret (r := fun o => o) px_c (fun o ρ _ => rt0_o rfl o ρ), bx_nx (.eq (.eq (.eq (.eq (.eq (.eq (.eq (.un (.un (.un (.un (.un (.un .nil)))))))))))))⟩))))) (fun _ => bx_nm (L2 := [some (.fz book'), some (.fz way'), some (.fz rows'), some (.fz day'), some (.fz table'), some (.fz step'), some (.fz wrong'), none, none, none, none, none, none]) rfl (bx_set (PX.f (px_lc (pi_r1 (PX.w px_c)) (fun k' => gk_n rfl ⟨_, _, _, rfl, pt_yes, PX.f (px_bin (PX.w px_c) (PX.w (px_bin (PX.w (px_var rfl)) (PX.w px_c)))), rfl, rfl⟩))) rfl (fun names' => bx_nm (L2 := [some (.fz book'), some (.fz way'), some (.fz rows'), some (.fz day'), some (.fz table'), some (.fz step'), some (.fz wrong'), none, some (.fz names'), none, none, none, none]) rfl (bx_set (PX.f (px_n (pan_cons (PX.w (px_lc (pi_sq (PX.f (px_var rfl))) (fun name' => gk_n rfl ⟨_, _, _, rfl, pt_yes, PX.f (px_tup (pav_cons (PX.f (px_var rfl)) (pav_cons (PX.f (px_var rfl)) pav_nil))), rfl, rfl⟩))) pan_nil))) rfl (fun wide' => bx_nm (L2 := [some (.fz book'), some (.fz way'), some (.fz rows'), some (.fz day'), some (.fz table'), some (.fz step'), some (.fz wrong'), none, some (.fz names'), some (.fz wide'), none, none, none]) rfl (bx_set (PX.f (px_n (pan_cons (PX.w (px_lc (pi_r1 (PX.w px_c)) (fun k' => gk_n rfl ⟨_, _, _, rfl, pt_yes, PX.f (px_tup (pav_cons (PX.f (px_var rfl)) (pav_cons (PX.f (px_tup pav_nil)) pav_nil))), rfl, rfl⟩))) pan_nil))) rfl (fun long' => bx_nm (L2 := [some (.fz book'), some (.fz way'), some (.fz rows'), some (.fz day'), some (.fz table'), some (.fz step'), some (.fz wrong'), none, some (.fz names'), some (.fz wide'), some (.fz long'), none, none]) rfl (bx_ifx (kt_pt (pt_or (pt_B (PX.w (px_bin (PX.w (px_call z_is_fee_book (pad_cons (PX.f (px_tup (pav_cons (PX.f (px_var rfl)) (pav_cons (PX.f (px_tup (pav_cons (PX.f (px_tup (pav_cons (PX.f px_c) (pav_cons (PX.f (px_sl (PX.w (px_var rfl)) po_no (po_so (PX.w px_c)))) pav_nil)))) pav_nil))) pav_nil)))) pad_nil) cov_any)) (PX.w px_c)))) (pt_B (PX.w (px_bin (PX.w (px_call z_is_fee_book (pad_cons (PX.f (px_tup (pav_cons (PX.f (px_var rfl)) (pav_cons (PX.f (px_tup (pav_cons (PX.f (px_tup (pav_cons (PX.f px_c) (pav_cons (PX.f (px_var rfl)) pav_nil)))) pav_nil))) pav_nil)))) pad_nil) cov_any)) (PX.w px_c))))) (fun _ => ⟨_, _, rfl, bx_ret (r := fun o => o) px_c (fun o ρ _ => rt0_o rfl o ρ), bx_ret (r := fun o => o) (px_and (PX.w (px_bin (PX.w (px_call z_is_fee_book (pad_cons (PX.f (px_tup (pav_cons (PX.f (px_var rfl)) (pav_cons (PX.f (px_sl (PX.w (px_var rfl)) po_no (po_so (PX.w px_c)))) pav_nil)))) pad_nil) cov_any)) (PX.w px_c))) (px_bin (PX.w (px_call z_is_fee_book (pad_cons (PX.f (px_tup (pav_cons (PX.f (px_var rfl)) (pav_cons (PX.f (px_var rfl)) pav_nil)))) pad_nil) cov_any)) (PX.w px_c))) (fun o ρ _ => rt0_o rfl o ρ)⟩)) xt_ret))))))))))))))))))))))))
abbrev b_law_1 : D → D → X (Fl D D O) := fun row' days' => X.letD (X.op2 addD (X.v days') (X.lst (X.cons (X.op2 ixD (X.v row') (X.v (.int 0))) (X.cons (X.opN max2D (X.cons (X.v (.int 0)) (X.cons (X.op2 subD (X.op2 ixD (X.v row') (X.v (.int 0))) (X.v (.int 1))) X.nil))) X.nil)))) fun days' => X.ok (Fl.nx days')
abbrev b_law_2 (o9 : O) (o12 : O) (begun' : D) (filed' : D) : D → Unit → X (Fl Unit Unit O) := fun one' _ => X.iff_ (X.tNot (X.tV (X.call g__law_asked (X.cons (X.v one') (X.cons (X.v o9.dat) (X.cons (X.v o12.dat) (X.cons (X.v begun') (X.cons (X.v filed') X.nil)))))))) (X.ret (X.v (.bool false))) (X.ok (Fl.nx ()))
abbrev b_law_3 (days' : D) (o4 : O) (o5 : O) : D → (List D) → X (Fl (List D) (List D) O) := fun k' draws' => X.bind (X.lst (X.cons (X.v (.str "appeal")) (X.cons (X.v (.str "claim")) (X.cons (X.v (.str "copy")) (X.cons (X.v (.str "hear")) (X.cons (X.v (.str "stay")) (X.cons (X.v (.str "z")) (X.cons (X.v (.str "none")) X.nil)))))))) fun o10 => X.bind (g__law_draw [.list draws', (.int 7)]) fun (o11, draws') => X.bind (X.ofP (ixD o10.dat o11.dat)) fun o9 => X.bind (X.lst (X.cons (X.v (.int 300)) (X.cons (X.op2 addD (X.op2 powD (X.v (.int 10)) (X.v (.int 12))) (X.v (.int 1))) X.nil))) fun o14 => X.bind (g__law_draw [.list draws', (.int 2)]) fun (o15, draws') => X.bind (X.ofP (ixD o14.dat o15.dat)) fun o13 => X.bind (g__law_draw [.list draws', o13.dat]) fun (o12, draws') => X.bind (X.opN lenD (X.cons (X.v days') X.nil)) fun o18 => X.bind (g__law_draw [.list draws', o18.dat]) fun (o17, draws') => X.bind (X.ofP (ixD days' o17.dat)) fun o16 => X.bind (X.opN lenD (X.cons (X.v days') X.nil)) fun o21 => X.bind (g__law_draw [.list draws', o21.dat]) fun (o20, draws') => X.bind (X.ofP (ixD days' o20.dat)) fun o19 => X.seqF (X.bind (g__law_draw [.list draws', (.int 4)]) fun (o24, draws') => X.bind (X.ofP (gtD o24.dat (.int 0))) fun o23 => X.bind (X.asB o23.dat) fun b22 => if b22 = true then X.par (X.cons (X.opN min2D (X.cons (X.v o16.dat) (X.cons (X.v o19.dat) X.nil))) (X.cons (X.opN max2D (X.cons (X.v o16.dat) (X.cons (X.v o19.dat) X.nil))) X.nil)) fun begun' filed' => X.ok (Fl.nx (draws', begun', filed')) else X.ok (Fl.nx (draws', o16.dat, o19.dat))) fun (draws', begun', filed') => X.seqF (X.for_ (X.seqI (X.lst (X.cons (X.v o4.dat) (X.cons (X.v o5.dat) X.nil)))) () (b_law_2 o9 o12 begun' filed')) fun _ => X.ok (Fl.nx draws')
abbrev b_law_4 : D → (List D) → X (Fl (List D) (List D) O) := fun turn' draws' => X.bind (g__law_book [.list draws']) fun (o4, draws') => X.iff_ (X.tOr (X.tB (X.op2 isNotD (X.call g_is_fee_book (X.cons (X.v o4.dat) X.nil)) (X.v (.bool true)))) (X.tNot (X.tV (X.call g__law_wrong (X.cons (X.v o4.dat) X.nil))))) (X.ret (X.v (.bool false))) (X.bind (g__law_cut [o4.dat, .list draws']) fun (o5, draws') => X.bind (g__law_draw [.list draws', (.int 1000001)]) fun (o7, draws') => X.bind (g__law_draw [.list draws', (.int 12)]) fun (o8, draws') => X.bind (X.lst (.ok [(.int 0), (.int 1000000), o7.dat, o8.dat])) fun o6 => X.seqF (X.for_ (X.seqI (X.op2 ixD (X.v o4.dat) (X.v (.int 1)))) o6.dat b_law_1) fun days' => X.seqF (X.for_ (X.range1 (X.v (.int 8))) draws' (b_law_3 days' o4 o5)) fun draws' => X.ok (Fl.nx draws'))
def g_law : List D → X O := X.pS fun script' => X.p0 (X.fin (X.letL (X.call g__law_open (X.cons (X.v (.list (script'.map PyData.int))) X.nil)) fun draws' => X.seqF (X.bind (g__law_draw [.list draws', (.int 3)]) fun (o3, draws') => X.bind (X.ofP (addD (.int 1) o3.dat)) fun o2 => X.bind (X.rng1 o2.dat) fun ds1 => X.forF b_law_4 ds1 draws') fun draws' => X.ret (X.v (.bool true))))
theorem z_law : Sem0 sem_law g_law := sem0_fn rfl (ent_sc fun script' => ent_f0 (bx_own (px_call z__law_open (pad_sc rfl rfl pad_nil) cov_any) rfl (fun draws' => bx_nm (L2 := [some (.sc script'), some (.fl draws'), none, none, none, none, none, none, none, none, none, none, none]) rfl (bx_seq (fun draws' => [some (.sc script'), some (.fl draws'), none, none, none, none, none, none, none, none, none, none, none]) (bx_forK (ki_r1 (kw_bin (kw_c (kw_call1 z__law_draw (ka_io rfl rfl (ka_f (kw_c (ka_nil ⟨_, _, _, _, rfl, rfl, (fun draws' => cov_any), rfl, fun o3 draws' => ⟨_, rfl, fun o2 => ⟨_, rfl, fun ds1 => ⟨_, _, rfl, .eq (.eq (.un (.un (.un (.un (.un (.un (.un (.un (.un (.un (.un .nil)))))))))))), fun turn' draws' => gk_n rfl (bx_setK (kw_call1 z__law_book (ka_io rfl rfl (ka_nil ⟨_, _, _, _, rfl, rfl, (fun draws' => cov_any), rfl, fun o4 draws' => ⟨rfl, bx_nm (L2 := [some (.sc script'), some (.fl draws'), some (.fz turn'), some (.fz o4.dat), none, none, none, none, none, none, none, none, none]) rfl (bx_ifx (kt_pt (pt_or (pt_B (PX.w (px_bin (PX.w (px_call z_is_fee_book (pad_cons (PX.f (px_var rfl)) pad_nil) cov_any)) (PX.w px_c)))) (pt_not (pt_V (PX.w (px_call z__law_wrong (pad_cons (PX.f (px_var rfl)) pad_nil) cov_any))))) (fun _ => ⟨_, _, rfl, bx_ret (r := fun o => o) px_c (fun o ρ _ => rt0_o rfl o ρ), bx_setK (kw_call1 z__law_cut (ka_f (kw_var rfl (ka_io rfl rfl (ka_nil ⟨_, _, _, _, rfl, rfl, (fun draws' => cov_any), rfl, fun o5 draws' => ⟨rfl, bx_nm (L2 := [some (.sc script'), some (.fl draws'), some (.fz turn'), some (.fz o4.dat), some (.fz o5.dat), none, none, none, none, none, none, none, none]) rfl (bx_setK (kw_lst (ka_f (kw_c (ka_f (kw_c (ka_f (kw_call1 z__law_draw (ka_io rfl rfl (ka_f (kw_c (ka_nil ⟨_, _, _, _, rfl, rfl, (fun draws' => cov_any), rfl, fun o7 draws' => ka_f (kw_call1 z__law_draw (ka_io rfl rfl (ka_f (kw_c (ka_nil ⟨_, _, _, _, rfl, rfl, (fun draws' => cov_any), rfl, fun o8 draws' => ka_nil ⟨_, _, rfl, rfl, fun o6 => ⟨rfl, bx_nm (L2 := [some (.sc script'), some (.fl draws'), some (.fz turn'), some (.fz o4.dat), some (.fz o5.dat), some (.fz o6.dat), none, none, none, none, none, none, none]) rfl (bx_seq (fun days' => [some (.sc script'), some (.fl draws'), some (.fz turn'), some (.fz o4.dat), some (.fz o5.dat), some (.fz days'), none, none, none, none, none, none, none]) (bx_for (pi_sq (PX.f (px_bin (PX.w (px_var rfl)) (PX.w px_c)))) (.eq (.eq (.eq (.eq (.eq (.eq (.un (.un (.un (.un (.un (.un (.un .nil))))))))))))) (fun row' days' => gk_n rfl (bx_one (bx_set (PX.f (px_bin (PX.w (px_var rfl)) (PX.w (px_lst (pav_cons (PX.f (px_bin (PX.w (px_var rfl)) (PX.w px_c))) (pav_cons (PX.f (px_n (pan_cons (PX.w px_c) (pan_cons (PX.w (px_bin (PX.w (px_bin (PX.w (px_var rfl)) (PX.w px_c))) (PX.w px_c))) pan_nil)))) pav_nil)))))) rfl (fun days' => bx_nx (.eq (.eq (.eq (.eq (.eq (.eq (.un (.un (.un (.un (.un (.un (.un .nil)))))))))))))))))) (fun days' => bx_nm (L2 := [some (.sc script'), some (.fl draws'), some (.fz turn'), some (.fz o4.dat), some (.fz o5.dat), some (.fz days'), none, none, none, none, none, none, none]) rfl (bx_one (bx_seq (fun draws' => [some (.sc script'), some (.fl draws'), some (.fz turn'), some (.fz o4.dat), some (.fz o5.dat), some (.fz days'), none, none, none, none, none, none, none]) (bx_for (pi_r1 (PX.w px_c)) (.eq (.eq (.eq (.eq (.eq (.eq (.un (.un (.un (.un (.un (.un (.un .nil))))))))))))) (fun k' draws' => gk_n rfl (bx_setK (kw_bin (kw_px (px_lst (pav_cons (PX.f px_c) (pav_cons (PX.f px_c) (pav_cons (PX.f px_c) (pav_cons (PX.f px_c) (pav_cons (PX.f px_c) (pav_cons (PX.f px_c) (pav_cons (PX.f px_c) pav_nil)))))))) (fun o10 => kw_call1 z__law_draw (ka_io rfl rfl (ka_f (kw_c (ka_nil ⟨_, _, _, _, rfl, rfl, (fun draws' => cov_any), rfl, fun o11 draws' => ⟨_, rfl, fun o9 => ⟨rfl, bx_nm (L2 := [some (.sc script'), some (.fl draws'), some (.fz turn'), some (.fz o4.dat), some (.fz o5.dat), some (.fz days'), none, some (.fz k'), some (.fz o9.dat), none, none, none, none]) rfl (bx_setK (kw_call1 z__law_draw (ka_io rfl rfl (ka_f (kw_bin (kw_px (px_lst (pav_cons (PX.f px_c) (pav_cons (PX.f (px_bin (PX.w (px_bin (PX.w px_c) (PX.w px_c))) (PX.w px_c))) pav_nil))) (fun o14 => kw_call1 z__law_draw (ka_io rfl rfl (ka_f (kw_c (ka_nil ⟨_, _, _, _, rfl, rfl, (fun draws' => cov_any), rfl, fun o15 draws' => ⟨_, rfl, fun o13 => ka_nil ⟨_, _, _, _, rfl, rfl, (fun draws' => cov_any), rfl, fun o12 draws' => ⟨rfl, bx_nm (L2 := [some (.sc script'), some (.fl draws'), some (.fz turn'), some (.fz o4.dat), some (.fz o5.dat), some (.fz days'), none, some (.fz k'), some (.fz o9.dat), some (.fz o12.dat), none, none, none]) rfl (bx_setK (kw_bin (kw_var rfl (kw_call1 z__law_draw (ka_io rfl rfl (ka_f (kw_px (px_n (pan_cons (PX.w (px_var rfl)) pan_nil)) (fun o18 => ka_nil ⟨_, _, _, _, rfl, rfl, (fun draws' => cov_any), rfl, fun o17 draws' => ⟨_, rfl, fun o16 => ⟨rfl, bx_nm (L2 := [some (.sc script'), some (.fl draws'), some (.fz turn'), some (.fz o4.dat), some (.fz o5.dat), some (.fz days'), none, some (.fz k'), some (.fz o9.dat), some (.fz o12.dat), some (.fz o16.dat), none, none]) rfl (bx_setK (kw_bin (kw_var rfl (kw_call1 z__law_draw (ka_io rfl rfl (ka_f (kw_px (px_n (pan_cons (PX.w (px_var rfl)) pan_nil)) (fun o21 => ka_nil ⟨_, _, _, _, rfl, rfl, (fun draws' => cov_any), rfl, fun o20 draws' => ⟨_, rfl, fun o19 => ⟨rfl, bx_nm (L2 := [some (.sc script'), some (.fl draws'), some (.fz turn'), some (.fz o4.dat), some (.fz o5.dat), some (.fz days'), none, some (.fz k'), some (.fz o9.dat), some (.fz o12.dat), some (.fz o16.dat), some (.fz o19.dat), none]) rfl (bx_seq (fun (draws', begun', filed') => [some (.sc script'), some (.fl draws'), some (.fz turn'), some (.fz o4.dat), some (.fz o5.dat), some (.fz days'), none, some (.fz k'), some (.fz o9.dat), some (.fz o12.dat), some (.fz begun'), some (.fz filed'), none]) (bx_ifl (kt_B (kw_bin (kw_call1 z__law_draw (ka_io rfl rfl (ka_f (kw_c (ka_nil ⟨_, _, _, _, rfl, rfl, (fun draws' => cov_any), rfl, fun o24 draws' => kw_c ⟨_, rfl, fun o23 => ⟨_, rfl, fun b22 => ⟨_, _, rfl, bx_one (bx_par (pav_cons (PX.f (px_n (pan_cons (PX.w (px_var rfl)) (pan_cons (PX.w (px_var rfl)) pan_nil)))) (pav_cons (PX.f (px_n (pan_cons (PX.w (px_var rfl)) (pan_cons (PX.w (px_var rfl)) pan_nil)))) pav_nil)) rfl rfl (fun begun' filed' => bx_nx (.eq (.eq (.eq (.eq (.eq (.eq (.un (.eq (.eq (.eq (.eq (.eq (.un .nil))))))))))))))), bx_nx (.eq (.eq (.eq (.eq (.eq (.eq (.un (.eq (.eq (.eq (.eq (.eq (.un .nil)))))))))))))⟩⟩⟩⟩)))))))) (fun ⟨draws', begun', filed'⟩ => bx_nm (L2 := [some (.sc script'), some (.fl draws'), some (.fz turn'), some (.fz o4.dat), some (.fz o5.dat), some (.fz days'), none, some (.fz k'), some (.fz o9.dat), some (.fz o12.dat), some (.fz begun'), some (.fz filed'), none]) rfl (bx_one (bx_seq (fun _ => [some (.sc script'), some (.fl draws'), some (.fz turn'), some (.fz o4.dat), some (.fz o5.dat), some (.fz days'), none, some (.fz k'), some (.fz o9.dat), some (.fz o12.dat), some (.fz begun'), some (.fz filed'), none]) (bx_for (pi_sq (PX.f (px_lst (pav_cons (PX.f (px_var rfl)) (pav_cons (PX.f (px_var rfl)) pav_nil))))) (.eq (.eq (.eq (.eq (.eq (.eq (.un (.eq (.eq (.eq (.eq (.eq (.un .nil))))))))))))) (fun one' _ => gk_n rfl (bx_ifl (kt_pt (pt_not (pt_V (PX.w (px_call z__law_asked (pad_cons (PX.f (px_var rfl)) (pad_cons (PX.f (px_var rfl)) (pad_cons (PX.f (px_var rfl)) (pad_cons (PX.f (px_var rfl)) (pad_cons (PX.f (px_var rfl)) pad_nil))))) cov_any)))) (fun _ => ⟨_, _, rfl, bx_ret (r := fun o => o) px_c (fun o ρ _ => rt0_o rfl o ρ), bx_nx (.eq (.eq (.eq (.eq (.eq (.eq (.un (.eq (.eq (.eq (.eq (.eq (.un .nil)))))))))))))⟩))))) (fun _ => bx_nx (.eq (.eq (.eq (.eq (.eq (.eq (.un (.un (.un (.un (.un (.un (.un .nil))))))))))))))))))⟩⟩⟩))))))))⟩⟩⟩))))))))⟩⟩⟩⟩)))))))))))⟩⟩⟩)))))))))) (fun draws' => bx_nx (.eq (.eq (.un (.un (.un (.un (.un (.un (.un (.un (.un (.un (.un .nil))))))))))))))))))⟩⟩⟩)))))⟩))))))))))))⟩⟩)))))⟩)) xt_ret)⟩⟩))))⟩⟩⟩⟩))))))))) (fun draws' => bx_nm (L2 := [some (.sc script'), some (.fl draws'), none, none, none, none, none, none, none, none, none, none, none]) rfl (bx_ret (r := fun o => o) px_c (fun o ρ _ => rt0_o rfl o ρ)))))))
end PL.K47
end
section
set_option Elab.async false
set_option linter.all false
set_option maxRecDepth 100000
set_option maxHeartbeats 2000000
set_option autoImplicit false
/-! k47: the fee of a tariff. -/
namespace PL.K47
open PySem L2 PL Lib
inductive Wy where | down | up | near
def Wy.s : Wy → Str
  | .down => "down"
  | .up => "up"
  | .near => "near"
def rest (p q : Int) : Int := p - p / q * q
/-- p / q, rounded -/
def rnd (w : Wy) (p q : Int) : Int := match w with
  | .down => p / q
  | .up => if 0 < rest p q then p / q + 1 else p / q
  | .near => if q < 2 * rest p q ∨ 2 * rest p q = q ∧ p / q % 2 = 1 then p / q + 1 else p / q
theorem rest_mod (p q : Int) : rest p q = p % q := by
  unfold rest
  rw [Int.emod_def, Int.mul_comm]
theorem up_eq {p q : Int} (h : 0 < q) : -(-p / q) = rnd .up p q := by
  have r0 := Int.emod_nonneg p (by omega : q ≠ 0)
  unfold rnd
  rw [Int.neg_ediv, rest_mod]
  by_cases c : q ∣ p
  · have : p % q = 0 := Int.emod_eq_zero_of_dvd c
    simp [c, this]
  · have : p % q ≠ 0 := fun e => c (Int.dvd_of_emod_eq_zero e)
    have sg : q.sign = 1 := Int.sign_eq_one_of_pos h
    simp only [c, if_false, sg]
    rw [if_pos (by omega)]
    omega
theorem rnd_scale (w : Wy) (p q g : Int) (hq : 0 < q) (hg : 0 < g) : rnd w (p * g) (q * g) = rnd w p q := by
  have e1 : p * g / (q * g) = p / q := Int.mul_ediv_mul_of_pos_left p q hg
  have e2 : rest (p * g) (q * g) = rest p q * g := by
    unfold rest
    rw [e1, Int.sub_mul, Int.mul_assoc]
  have pos : ∀ x : Int, 0 < x * g ↔ 0 < x := fun x => ⟨fun h => by
    by_cases c : 0 < x
    · exact c
    · have : x * g ≤ 0 := Int.mul_nonpos_of_nonpos_of_nonneg (by omega) (by omega)
      omega, fun h => Int.mul_pos h hg⟩
  have lt : ∀ x y : Int, x * g < y * g ↔ x < y := fun x y => Int.mul_lt_mul_right hg
  have eq : ∀ x y : Int, x * g = y * g ↔ x = y := fun x y => ⟨fun h => Int.eq_of_mul_eq_mul_right (by omega) h, fun h => by rw [h]⟩
  unfold rnd
  rw [e1, e2]
  cases w with
  | down => rfl
  | up => simp only [pos]
  | near =>
    have a : 2 * (rest p q * g) = 2 * rest p q * g := by rw [Int.mul_assoc]
    simp only [a, lt, eq]
theorem e_rounded : K47.g_rounded = Lib.g_rounded := rfl
theorem e_times : K47.g_times = Lib.g_times := rfl
theorem v_rounded (w : Wy) (r : Rat) {n : Nat} (hr : Sz n r) (hn : n ≤ 9000) : K47.g_rounded [encF r, .str w.s] = .ok (.fz (.int (rnd w r.num (r.den : Int)))) := by
  have d := den_pos' r
  have l := lim9 (Int.le_of_lt d) (dn hr.2) hn
  have f1 := fdivD_ii (i := r.num) d l
  have f2 := fdivD_ii (i := -r.num) d l
  have un : ∀ (x : Rat) {β : Type} (K : D → D → X β), X.un2 (encF x) K = K (.int x.num) (.int (x.den : Int)) := fun x {β} K => rfl
  have hq : ((r.num / (r.den : Int))).natAbs ≤ r.num.natAbs := by
    have := Int.natAbs_ediv_le_natAbs r.num (r.den : Int)
    exact this
  have m1 := mulS (i := r.num / (r.den : Int)) (j := (r.den : Int)) (a := n) (b := n) (by have := hr.1; omega) (dn hr.2) (by omega)
  have md := modD_ii (i := r.num / (r.den : Int)) (j := 2) (by decide)
  have ht : (rest r.num (r.den : Int)).natAbs < 2 ^ n := by
    rw [rest_mod]
    have a := Int.emod_nonneg r.num (by omega : (r.den : Int) ≠ 0)
    have b := Int.emod_lt_of_pos r.num d
    have := hr.2
    omega
  have m2 := mulS (i := 2) (j := rest r.num (r.den : Int)) (a := 2) (b := n) (by decide) ht (by omega)
  rw [rest] at m2
  have up := up_eq (p := r.num) d
  rw [e_rounded]
  unfold Lib.g_rounded
  cases w with
  | down =>
    have e1 : (Wy.down.s == ("down" : Str)) = true := by decide +kernel
    simp [un, f1, e1, rnd]
  | up =>
    have e1 : (Wy.up.s == ("down" : Str)) = false := by decide +kernel
    have e2 : (Wy.up.s == ("up" : Str)) = true := by decide +kernel
    simp [un, f1, f2, e1, e2, up]
  | near =>
    have e1 : (Wy.near.s == ("down" : Str)) = false := by decide +kernel
    have e2 : (Wy.near.s == ("up" : Str)) = false := by decide +kernel
    have e3 : neD (.str Wy.near.s) (.str "near") = some (.fz (.bool false)) := by kernel_rfl
    have h2 := Int.emod_nonneg (r.num / (r.den : Int)) (by decide : (2 : Int) ≠ 0)
    have h3 := Int.emod_lt_of_pos (r.num / (r.den : Int)) (by decide : (0 : Int) < 2)
    unfold rnd rest
    by_cases c1 : 2 * (r.num - r.num / (r.den : Int) * (r.den : Int)) < (r.den : Int)
    · have n1 : ¬ ((r.den : Int) < 2 * (r.num - r.num / (r.den : Int) * (r.den : Int)) ∨ 2 * (r.num - r.num / (r.den : Int) * (r.den : Int)) = (r.den : Int) ∧ r.num / (r.den : Int) % 2 = 1) := by omega
      simp only [n1, if_false]
      simp [un, f1, e1, e2, e3, m1, m2, c1]
    · by_cases c2 : 2 * (r.num - r.num / (r.den : Int) * (r.den : Int)) = (r.den : Int)
      · by_cases c3 : r.num / (r.den : Int) % 2 = 0
        · have n1 : ¬ ((r.den : Int) < 2 * (r.num - r.num / (r.den : Int) * (r.den : Int)) ∨ 2 * (r.num - r.num / (r.den : Int) * (r.den : Int)) = (r.den : Int) ∧ r.num / (r.den : Int) % 2 = 1) := by omega
          simp only [n1, if_false]
          simp [un, f1, e1, e2, e3, m1, m2, c1, c2, md, c3]
        · have n1 : ((r.den : Int) < 2 * (r.num - r.num / (r.den : Int) * (r.den : Int)) ∨ 2 * (r.num - r.num / (r.den : Int) * (r.den : Int)) = (r.den : Int) ∧ r.num / (r.den : Int) % 2 = 1) := by omega
          simp only [n1, if_true]
          simp [un, f1, e1, e2, e3, m1, m2, c1, c2, md, c3]
      · have n1 : ((r.den : Int) < 2 * (r.num - r.num / (r.den : Int) * (r.den : Int)) ∨ 2 * (r.num - r.num / (r.den : Int) * (r.den : Int)) = (r.den : Int) ∧ r.num / (r.den : Int) % 2 = 1) := by omega
        simp only [n1, if_true]
        simp [un, f1, e1, e2, e3, m1, m2, c1, c2]
end PL.K47
end
section
set_option Elab.async false
set_option linter.all false
set_option maxRecDepth 100000
set_option maxHeartbeats 2000000
set_option autoImplicit false
/-! k47: the fee by a tariff, as the program and as the law has it. -/
namespace PL.K47
open PySem L2 PL Lib
structure Stp where
  low : Int
  base : Int
  rate : Rat
def encStp (s : Stp) : D := .tuple [.int s.low, .int s.base, encF s.rate]
structure Stp.Ok (s : Stp) : Prop where
  l0 : 0 ≤ s.low
  l1 : s.low ≤ 1000000000000
  b0 : 0 ≤ s.base
  b1 : s.base ≤ 1000000000000
  rt : 0 ≤ s.rate ∧ s.rate ≤ 1 ∧ s.rate.den ≤ 10000
def feeIn (w : Wy) (s : Stp) (v : Int) : Int := s.base + rnd w (s.rate * ((v - s.low : Int) : Rat)).num ((s.rate * ((v - s.low : Int) : Rat)).den : Int)
theorem rnd_mul (w : Wy) (a : Rat) (k : Int) : rnd w (a * (k : Rat)).num ((a * (k : Rat)).den : Int) = rnd w (a.num * k) (a.den : Int) := by
  have q0 := den_pos' a
  have e0 : Rat.divInt (a.num * k) (a.den : Int) = a * (k : Rat) := divInt_of q0 (by
    rw [Rat.intCast_mul, ← num_den a]
    grind)
  have e := encF_divInt (a.num * k) (a.den : Int) q0
  have hg := gg_pos (p := a.num * k) q0
  rw [e0] at e
  unfold encF at e
  injection e with e
  injection e with e1 e2
  injection e2 with e2 _
  injection e1 with e1
  injection e2 with e2
  have d1 : gg (a.num * k) (a.den : Int) ∣ a.num * k := by unfold gg; exact Int.gcd_dvd_left ..
  have d2 : gg (a.num * k) (a.den : Int) ∣ (a.den : Int) := by unfold gg; exact Int.gcd_dvd_right ..
  have x1 : (a * (k : Rat)).num * gg (a.num * k) (a.den : Int) = a.num * k := by rw [e1]; exact Int.ediv_mul_cancel d1
  have x2 : ((a * (k : Rat)).den : Int) * gg (a.num * k) (a.den : Int) = (a.den : Int) := by rw [e2]; exact Int.ediv_mul_cancel d2
  rw [← rnd_scale w _ _ _ (den_pos' _) hg, x1, x2]
theorem e40 : (2 : Int) ^ 40 = 1099511627776 := by decide
theorem v_fee_in (w : Wy) (s : Stp) (ok : s.Ok) {v : Int} (v0 : s.low ≤ v) (v1 : v ≤ 1000000000000) : K47.g_fee_in [.str w.s, encStp s, .int v] = .ok (.fz (.int (feeIn w s v))) := by
  have e40 := e40
  have l0 := ok.l0
  have hr := rate_sz ok.rt
  have hs : Sz 40 ((v - s.low : Int) : Rat) := sz_int (abs_lt (by omega) (by omega)) (by decide)
  have t := v_times s.rate ((v - s.low : Int) : Rat) hr hs (by decide)
  rw [← e_times] at t
  have r := v_rounded w (s.rate * ((v - s.low : Int) : Rat)) (sz_mul hr hs) (by decide)
  have ei : PyData.tuple [.int (v - s.low), .int 1] = encF ((v - s.low : Int) : Rat) := rfl
  unfold K47.g_fee_in encStp feeIn
  generalize s.rate * ((v - s.low : Int) : Rat) = x at *
  generalize encF ((v - s.low : Int) : Rat) = Y at t ei
  simp [ei, t, r]
/-- the step that counts -/
def stepOf (ss : List Stp) (v : Int) : Option Stp := (ss.filter fun s => decide (s.low ≤ v)).getLast?
theorem foldl_last {α : Type} (p : α → Bool) : ∀ (l : List α) (f0 : α), l.foldl (fun f s => if p s = true then s else f) f0 = ((l.filter p).getLast?).getD f0
  | [], f0 => rfl
  | a :: l, f0 => by
    rw [List.foldl_cons, foldl_last p l]
    by_cases c : p a = true
    · rw [if_pos c, List.filter_cons_of_pos c, List.getLast?_cons]
      cases (l.filter p).getLast? <;> rfl
    · rw [if_neg c, List.filter_cons_of_neg c]
structure TOk (ss : List Stp) : Prop where
  pos : 0 < ss.length
  len : ss.length ≤ 12
  ok : ∀ s ∈ ss, s.Ok
  zero : ∀ s, ss[0]? = some s → s.low = 0
  up : ss.Pairwise fun a b => a.low < b.low
theorem TOk.step {ss : List Stp} (t : TOk ss) {v : Int} (v0 : 0 ≤ v) : ∃ s, stepOf ss v = some s ∧ s ∈ ss ∧ s.low ≤ v := by
  have hp := t.pos
  cases ss with
  | nil => simp at hp
  | cons a l =>
    have z := t.zero a rfl
    unfold stepOf
    rw [List.filter_cons_of_pos (by simp; omega)]
    cases e : (a :: l.filter fun s => decide (s.low ≤ v)).getLast? with
    | none => rw [List.getLast?_cons] at e; cases e
    | some s =>
      refine ⟨s, rfl, ?_⟩
      rcases List.mem_cons.mp (List.mem_of_getLast? e) with h | h
      · rw [h]; exact ⟨by simp, by omega⟩
      · have := List.mem_filter.mp h
        exact ⟨List.mem_cons_of_mem _ this.1, by simpa using this.2⟩
def encT (w : Wy) (ss : List Stp) : D := .tuple [.str w.s, .tuple (ss.map encStp)]
def fee (w : Wy) (ss : List Stp) (v : Int) : Int := match stepOf ss v with
  | some s => feeIn w s v
  | none => 0
theorem ix_s0 (s : Stp) : ixD (encStp s) (.int 0) = some (.fz (.int s.low)) := rfl
theorem v_fee_of (w : Wy) {ss : List Stp} (t : TOk ss) {v : Int} (v0 : 0 ≤ v) (v1 : v ≤ 1000000000000) : K47.g_fee_of [encT w ss, .int v] = .ok (.fz (.int (fee w ss v))) := by
  obtain ⟨s, e, hm, hl⟩ := t.step v0
  have hp := t.pos
  have f := v_fee_in w s (t.ok s hm) hl v1
  have hf : fee w ss v = feeIn w s v := by unfold fee; rw [e]
  rw [hf]
  cases ss with
  | nil => simp at hp
  | cons a l =>
    have loop : (X.forF (b_fee_of_1 (.int v)) ((a :: l).map encStp) (encStp a) : X (Fl D Unit O)) = .ok (.nx (encStp s)) := by
      have := X.forF_fold (B := Unit) (T := O) (body := b_fee_of_1 (.int v)) encStp encStp (fun f s => if decide (s.low ≤ v) = true then s else f) (a :: l) a (fun x hx y => by
        unfold b_fee_of_1
        by_cases c : x.low ≤ v
        · simp [ix_s0, c]
        · simp [ix_s0, c])
      rw [this, foldl_last]
      unfold stepOf at e
      rw [e]
      rfl
    have i0 : ixD (.tuple ((a :: l).map encStp)) (.int 0) = some (.fz (encStp a)) := ixD_tn (n := 0) rfl
    unfold K47.g_fee_of encT
    generalize (a :: l).map encStp = L at *
    simp [i0, loop, f]
theorem v_law_fee (w : Wy) {ss : List Stp} (t : TOk ss) {v : Int} (v0 : 0 ≤ v) (v1 : v ≤ 1000000000000) : K47.g__law_fee [encT w ss, .int v] = .ok (.fz (.int (fee w ss v))) := by
  have e40 := e40
  obtain ⟨s, e, hm, hl⟩ := t.step v0
  have ok := t.ok s hm
  have l0 := ok.l0
  have tl := t.len
  have lc : X.lc (X.seqI (X.v (.tuple (ss.map encStp)))) (c__law_fee_1 (.int v)) = .ok (.fl ((ss.filter fun s => decide (s.low ≤ v)).map encStp)) := by
    show X.lc (.ok (ss.map encStp)) _ = _
    refine X.lc_map encStp (fun s => decide (s.low ≤ v)) encStp rfl (fun x hx => ?_) (by omega)
    unfold c__law_fee_1
    by_cases c : x.low ≤ v
    · simp [ix_s0, c]
    · simp [ix_s0, c]
  have last : ((ss.filter fun s => decide (s.low ≤ v)).map encStp).getLast? = some (encStp s) := by
    rw [List.getLast?_map]
    unfold stepOf at e
    rw [e]
    rfl
  have ix := ixD_last last
  have hr := rate_sz ok.rt
  have hv : (v - s.low).natAbs < 2 ^ 40 := abs_lt (by omega) (by omega)
  have d := den_pos' s.rate
  have dl := lim9 (Int.le_of_lt d) (dn hr.2) (by decide)
  have m1 := mulS hr.1 hv (by decide)
  have hx := natAbs_mul_lt hr.1 hv
  have f1 := fdivD_ii (i := s.rate.num * (v - s.low)) d dl
  have hq := Int.natAbs_ediv_le_natAbs (s.rate.num * (v - s.low)) (s.rate.den : Int)
  have m2 := mulS (i := s.rate.num * (v - s.low) / (s.rate.den : Int)) (j := (s.rate.den : Int)) (a := 54) (b := 14) (by omega) (dn hr.2) (by decide)
  have ht : (rest (s.rate.num * (v - s.low)) (s.rate.den : Int)).natAbs < 2 ^ 14 := by
    rw [rest_mod]
    have a := Int.emod_nonneg (s.rate.num * (v - s.low)) (by omega : (s.rate.den : Int) ≠ 0)
    have b := Int.emod_lt_of_pos (s.rate.num * (v - s.low)) d
    have := hr.2
    omega
  have m3 := mulS (i := 2) (j := rest (s.rate.num * (v - s.low)) (s.rate.den : Int)) (a := 2) (b := 14) (by decide) ht (by decide)
  have md := modD_ii (i := s.rate.num * (v - s.low) / (s.rate.den : Int)) (j := 2) (by decide)
  have hf : fee w ss v = s.base + rnd w (s.rate.num * (v - s.low)) (s.rate.den : Int) := by
    unfold fee
    rw [e]
    show feeIn w s v = _
    unfold feeIn
    rw [rnd_mul]
  have h2 := Int.emod_nonneg (s.rate.num * (v - s.low) / (s.rate.den : Int)) (by decide : (2 : Int) ≠ 0)
  have h3 := Int.emod_lt_of_pos (s.rate.num * (v - s.low) / (s.rate.den : Int)) (by decide : (0 : Int) < 2)
  rw [hf]
  have hrest : s.rate.num * (v - s.low) - s.rate.num * (v - s.low) / (s.rate.den : Int) * (s.rate.den : Int) = rest (s.rate.num * (v - s.low)) (s.rate.den : Int) := rfl
  unfold K47.g__law_fee encT
  rw [X.pD_c, X.pD_c, X.p0_n]
  have un3 : ∀ (s : Stp) {β : Type} (K : D → D → D → X β), X.un3 (encStp s) K = K (.int s.low) (.int s.base) (encF s.rate) := fun s {β} K => rfl
  generalize (ss.filter fun s => decide (s.low ≤ v)).map encStp = FS at *
  generalize ss.map encStp = SS at *
  have lc' : X.lc (X.ok SS) (c__law_fee_1 (.int v)) = _ := lc
  unfold rnd
  have r0 := ix_f0 s.rate
  have r1 := ix_f1 s.rate
  generalize s.rate.num * (v - s.low) = p at *
  generalize (s.rate.den : Int) = q at *
  cases w with
  | down =>
    have e1 : (Wy.down.s == ("up" : Str)) = false := by decide +kernel
    have e2 : (Wy.down.s == ("near" : Str)) = false := by decide +kernel
    simp [lc', ix, un3, r0, r1, m1, f1, m2, e1, e2]
  | up =>
    have e1 : (Wy.up.s == ("up" : Str)) = true := by decide +kernel
    have e2 : (Wy.up.s == ("near" : Str)) = false := by decide +kernel
    by_cases c : 0 < rest p q
    · simp [lc', ix, un3, r0, r1, m1, f1, m2, e1, e2, hrest, c]
    · simp [lc', ix, un3, r0, r1, m1, f1, m2, e1, e2, hrest, c]
  | near =>
    have e1 : (Wy.near.s == ("up" : Str)) = false := by decide +kernel
    have e2 : (Wy.near.s == ("near" : Str)) = true := by decide +kernel
    by_cases c1 : q < 2 * rest p q
    · simp [lc', ix, un3, r0, r1, m1, f1, m2, e1, e2, hrest, m3, c1]
    · by_cases c2 : 2 * rest p q = q
      · by_cases c3 : p / q % 2 = 1
        · simp [lc', ix, un3, r0, r1, m1, f1, m2, e1, e2, hrest, m3, c1, c2, md, c3]
        · simp [lc', ix, un3, r0, r1, m1, f1, m2, e1, e2, hrest, m3, c1, c2, md, c3]
      · simp [lc', ix, un3, r0, r1, m1, f1, m2, e1, e2, hrest, m3, c1, c2]
end PL.K47
end
section
set_option Elab.async false
set_option linter.all false
set_option maxRecDepth 100000
set_option maxHeartbeats 2000000
set_option autoImplicit false
/-! k47: tables, books, what is due. -/
namespace PL.K47
open PySem L2 PL Lib
abbrev Ent := Str × Wy × List Stp
abbrev Tab := List Ent
abbrev BRow := Int × Tab
def encE (e : Ent) : D := .tuple [.str e.1, encT e.2.1 e.2.2]
def encTab (t : Tab) : D := .tuple (t.map encE)
def encBR (r : BRow) : D := .tuple [.int r.1, encTab r.2]
inductive BW where | old | new | kind
def BW.s : BW → Str
  | .old => "old"
  | .new => "new"
  | .kind => "kind"
def encBook (b : BW) (rs : List BRow) : D := .tuple [.str b.s, .tuple (rs.map encBR)]
structure TabOk (t : Tab) : Prop where
  len : t.length ≤ 12
  ok : ∀ e ∈ t, TOk e.2.2
  nd : t.Pairwise fun a b => a.1 ≠ b.1
structure BookOk (rs : List BRow) : Prop where
  pos : 0 < rs.length
  len : rs.length ≤ 12
  zero : ∀ r, rs[0]? = some r → r.1 = 0
  up : rs.Pairwise fun a b => a.1 < b.1
  day : ∀ r ∈ rs, 0 ≤ r.1 ∧ r.1 ≤ 1000000
  tab : ∀ r ∈ rs, TabOk r.2
/-- the row that counts on a day -/
def rowOf (rs : List BRow) (day : Int) : Option BRow := (rs.filter fun r => decide (r.1 ≤ day)).getLast?
theorem BookOk.row {rs : List BRow} (b : BookOk rs) {day : Int} (h : 0 ≤ day) : ∃ r, rowOf rs day = some r ∧ r ∈ rs := by
  have hp := b.pos
  cases rs with
  | nil => simp at hp
  | cons a l =>
    have z := b.zero a rfl
    unfold rowOf
    rw [List.filter_cons_of_pos (by simp; omega)]
    cases e : (a :: l.filter fun s => decide (s.1 ≤ day)).getLast? with
    | none => rw [List.getLast?_cons] at e; cases e
    | some s =>
      refine ⟨s, rfl, ?_⟩
      rcases List.mem_cons.mp (List.mem_of_getLast? e) with h | h
      · rw [h]; simp
      · exact List.mem_cons_of_mem _ (List.mem_filter.mp h).1
def entOf (rs : List BRow) (name : Str) (day : Int) : Option Ent := match rowOf rs day with
  | some r => r.2.find? fun e => e.1 == name
  | none => none
def tarD : Option Ent → D
  | some e => encT e.2.1 e.2.2
  | none => .none
theorem v_tariff_on (bw : BW) {rs : List BRow} (b : BookOk rs) (name : Str) {day : Int} (h : 0 ≤ day) : K47.g_tariff_on [encBook bw rs, .str name, .int day] = .ok (.fz (tarD (entOf rs name day))) := by
  obtain ⟨r, e, hm⟩ := b.row h
  have loop1 : (X.forF (b_tariff_on_1 (.int day)) (rs.map encBR) (.tuple []) : X (Fl D Unit O)) = .ok (.nx (encTab r.2)) := by
    have := X.forF_fold (B := Unit) (T := O) (body := b_tariff_on_1 (.int day)) encBR (fun o : Option BRow => match o with | some r => encTab r.2 | none => .tuple []) (fun f s => if decide (s.1 ≤ day) = true then some s else f) rs none (fun x hx y => by
      unfold b_tariff_on_1 encBR
      by_cases c : x.1 ≤ day
      · simp [c]
      · simp [c])
    have fl : ∀ (l : List BRow) (o : Option BRow), l.foldl (fun f s => if decide (s.1 ≤ day) = true then some s else f) o = match (l.filter fun r => decide (r.1 ≤ day)).getLast? with | some r => some r | none => o := by
      intro l
      induction l with
      | nil => intro o; rfl
      | cons a l ih =>
        intro o
        rw [List.foldl_cons, ih]
        by_cases c : decide (a.1 ≤ day) = true
        · rw [if_pos c, List.filter_cons_of_pos (p := fun r : BRow => decide (r.1 ≤ day)) c, List.getLast?_cons]
          cases (l.filter fun r => decide (r.1 ≤ day)).getLast? <;> rfl
        · rw [if_neg c, List.filter_cons_of_neg (p := fun r : BRow => decide (r.1 ≤ day)) c]
    have := this.trans (by rw [fl])
    unfold rowOf at e
    rw [e] at this
    exact this
  have loop2 := X.forF_find (B := Unit) (T := O) (body := b_tariff_on_2 (.str name)) encE () (fun e : Ent => if (e.1 == name) = true then some (O.fz (encT e.2.1 e.2.2)) else none) r.2 fun a ha => by
    unfold b_tariff_on_2 encE
    cases c : a.1 == name
    · simp [c]
    · simp [c]
  have fs : r.2.findSome? (fun e => if (e.1 == name) = true then some (O.fz (encT e.2.1 e.2.2)) else none) = (r.2.find? fun e => e.1 == name).map fun e => O.fz (encT e.2.1 e.2.2) := by
    generalize r.2 = t
    induction t with
    | nil => rfl
    | cons a t ih =>
      rw [List.findSome?_cons, List.find?_cons]
      cases c : a.1 == name
      · simpa [c] using ih
      · simp [c]
  rw [fs] at loop2
  have ee : entOf rs name day = r.2.find? fun e => e.1 == name := by unfold entOf; rw [e]
  rw [ee]
  have i1 : ixD (encBook bw rs) (.int 1) = some (.fz (.tuple (rs.map encBR))) := rfl
  unfold K47.g_tariff_on
  unfold encTab at loop1
  generalize encBook bw rs = B at *
  generalize rs.map encBR = RS at *
  generalize r.2.map encE = ES at *
  cases c : r.2.find? fun e => e.1 == name with
  | none =>
    rw [c] at loop2
    have loop2 : (X.forF (b_tariff_on_2 (.str name)) ES () : X (Fl Unit Unit O)) = .ok (.nx ()) := loop2
    simp [i1, loop1, loop2, tarD]
  | some x =>
    rw [c] at loop2
    have loop2 : (X.forF (b_tariff_on_2 (.str name)) ES () : X (Fl Unit Unit O)) = .ok (.rt (.fz (encT x.2.1 x.2.2))) := loop2
    simp [i1, loop1, loop2, tarD]
end PL.K47
end
section
set_option Elab.async false
set_option linter.all false
set_option maxRecDepth 100000
set_option maxHeartbeats 2000000
set_option autoImplicit false
/-! k47: what is due. -/
namespace PL.K47
open PySem L2 PL Lib
def feesAt (rs : List BRow) (name : Str) (v day : Int) : List Int := match entOf rs name day with
  | some e => [fee e.2.1 e.2.2 v]
  | none => []
theorem filt (name : Str) : ∀ t : Tab, (t.Pairwise fun a b => a.1 ≠ b.1) → (t.filter fun e => e.1 == name) = (t.find? fun e => e.1 == name).toList
  | [], _ => rfl
  | a :: t, h => by
    have h := List.pairwise_cons.mp h
    cases c : a.1 == name with
    | true =>
      have c' : (fun e : Ent => e.1 == name) a = true := c
      rw [List.filter_cons_of_pos (p := fun e : Ent => e.1 == name) c', List.find?_cons_of_pos (p := fun e : Ent => e.1 == name) c']
      have : (t.filter fun e => e.1 == name) = [] := List.filter_eq_nil_iff.mpr fun b hb => by
        have n := h.1 b hb
        have e1 : a.1 = name := by simpa using c
        intro z
        have e2 : b.1 = name := by simpa using z
        exact n (e1.trans e2.symm)
      rw [this]
      rfl
    | false =>
      have c' : ¬ (fun e : Ent => e.1 == name) a = true := by simp [c]
      rw [List.filter_cons_of_neg (p := fun e : Ent => e.1 == name) c', List.find?_cons_of_neg (p := fun e : Ent => e.1 == name) c', filt name t h.2]
theorem entOf_ok {rs : List BRow} (b : BookOk rs) {name : Str} {day : Int} {e : Ent} (h : 0 ≤ day) (he : entOf rs name day = some e) : TOk e.2.2 := by
  obtain ⟨r, e1, hm⟩ := b.row h
  unfold entOf at he
  rw [e1] at he
  exact (b.tab r hm).ok e (List.mem_of_find?_eq_some he)
theorem v_law_fees (bw : BW) {rs : List BRow} (b : BookOk rs) (name : Str) {v day : Int} (h : 0 ≤ day) (v0 : 0 ≤ v) (v1 : v ≤ 1000000000000) :
    K47.g__law_fees [encBook bw rs, .str name, .int v, .int day] = .ok (.fl ((feesAt rs name v day).map PyData.int)) := by
  obtain ⟨r, e, hm⟩ := b.row h
  have bl := b.len
  have to := b.tab r hm
  have lc1 : X.lc (X.ok (rs.map encBR)) (c__law_fees_1 (.int day)) = .ok (.fl ((rs.filter fun r => decide (r.1 ≤ day)).map encBR)) := by
    refine X.lc_map encBR (fun r => decide (r.1 ≤ day)) encBR rfl (fun x hx => ?_) (by omega)
    unfold c__law_fees_1 encBR
    by_cases c : x.1 ≤ day
    · simp [c]
    · simp [c]
  have last : ((rs.filter fun r => decide (r.1 ≤ day)).map encBR).getLast? = some (encBR r) := by
    rw [List.getLast?_map]
    unfold rowOf at e
    rw [e]
    rfl
  have ix := ixD_last last
  have lc2 : X.lc (X.ok (r.2.map encE)) (c__law_fees_2 (.str name) (.int v)) = .ok (.fl ((r.2.filter fun e => e.1 == name).map fun e => .int (fee e.2.1 e.2.2 v))) := by
    refine X.lc_map encE (fun e => e.1 == name) (fun e => .int (fee e.2.1 e.2.2 v)) rfl (fun x hx => ?_) (by have := to.len; omega)
    have f := v_law_fee x.2.1 (to.ok x hx) v0 v1
    unfold c__law_fees_2 encE
    cases c : x.1 == name
    · simp [c]
    · simp [c, f]
  have ef : (r.2.filter fun e => e.1 == name).map (fun e => PyData.int (fee e.2.1 e.2.2 v)) = (feesAt rs name v day).map PyData.int := by
    have en : entOf rs name day = r.2.find? fun e => e.1 == name := by unfold entOf; rw [e]
    rw [filt name r.2 to.nd]
    unfold feesAt
    rw [en]
    cases r.2.find? fun e => e.1 == name <;> rfl
  rw [ef] at lc2
  have i1 : ixD (encBook bw rs) (.int 1) = some (.fz (.tuple (rs.map encBR))) := rfl
  have i2 : ixD (encBR r) (.int 1) = some (.fz (.tuple (r.2.map encE))) := rfl
  unfold K47.g__law_fees
  generalize encBook bw rs = B at *
  generalize (rs.filter fun r => decide (r.1 ≤ day)).map encBR = FS at *
  generalize rs.map encBR = RS at *
  generalize r.2.map encE = ES at *
  simp [i1, lc1, ix, i2, lc2]
def daysOf (bw : BW) (a b : Int) : List Int := match bw with
  | .old => [a]
  | .new => [b]
  | .kind => [a, b]
def fees (bw : BW) (rs : List BRow) (name : Str) (v a b : Int) : List Int := (daysOf bw a b).flatMap (feesAt rs name v)
def dueOf (bw : BW) (rs : List BRow) (name : Str) (v a b : Int) : Sum Str Int := match fees bw rs name v a b with
  | [] => .inl "NotThere"
  | n :: ns => if b < a then .inl "Refused" else .inr (minI (n :: ns))
theorem look_bw (bw : BW) (x y z : D) : X.dixK ["old", "new", "kind"] [x, y, z] (.str bw.s) = .ok (.fz (match bw with | .old => x | .new => y | .kind => z)) := by
  cases bw <;> kernel_rfl
theorem v_fee_due (bw : BW) {rs : List BRow} (bo : BookOk rs) (name : Str) {v a b : Int} (a0 : 0 ≤ a) (b0 : 0 ≤ b) (v0 : 0 ≤ v) (v1 : v ≤ 1000000000000) :
    K47.g_fee_due [encBook bw rs, .str name, .int v, .int a, .int b] = match dueOf bw rs name v a b with | .inl c => .exc c | .inr n => .ok (.fz (.int n)) := by
  have ta := v_tariff_on bw bo name a0
  have tb := v_tariff_on bw bo name b0
  have oa := fun e => entOf_ok bo (name := name) (e := e) a0
  have ob := fun e => entOf_ok bo (name := name) (e := e) b0
  have fe : ∀ e : Ent, TOk e.2.2 → K47.g_fee_of [encT e.2.1 e.2.2, .int v] = .ok (.fz (.int (fee e.2.1 e.2.2 v))) := fun e h => v_fee_of e.2.1 h v0 v1
  have nn : ∀ w ss, isNotD (encT w ss) .none = some (.fz (.bool true)) := fun _ _ => rfl
  have n0 : isNotD .none .none = some (.fz (.bool false)) := rfl
  have i0 : ixD (encBook bw rs) (.int 0) = some (.fz (.str bw.s)) := rfl
  have d := look_bw bw (.list [.int a]) (.list [.int b]) (.list [.int a, .int b])
  have q0 : eqD (.list []) (.list []) = some (.fz (.bool true)) := rfl
  have q1 : ∀ x : Int, eqD (.list [.int x]) (.list []) = some (.fz (.bool false)) := fun _ => rfl
  have q2 : ∀ x y : Int, eqD (.list [.int x, .int y]) (.list []) = some (.fz (.bool false)) := fun _ _ => rfl
  have m1 : ∀ x : Int, minLD [.list [.int x]] = some (.fz (.int x)) := fun _ => rfl
  have m2 : ∀ x y : Int, minLD [.list [.int x, .int y]] = some (.fz (.int (min x y))) := fun _ _ => rfl
  unfold K47.g_fee_due dueOf fees feesAt
  generalize encBook bw rs = B at *
  cases ea : entOf rs name a with
  | none =>
    rw [ea] at ta
    cases eb : entOf rs name b with
    | none =>
      rw [eb] at tb
      cases bw <;> simp [i0, d, X.lc_ok, X.comp, c_fee_due_1, ta, tb, tarD, c_fee_due_2, n0, daysOf, ea, eb, q0]
    | some f =>
      have ff := fe f (ob f eb)
      rw [eb] at tb
      by_cases c : b < a
      · cases bw <;> simp [i0, d, X.lc_ok, X.comp, c_fee_due_1, ta, tb, tarD, c_fee_due_2, n0, nn, daysOf, ea, eb, q0, q1, m1, ff, c, minI]
      · cases bw <;> simp [i0, d, X.lc_ok, X.comp, c_fee_due_1, ta, tb, tarD, c_fee_due_2, n0, nn, daysOf, ea, eb, q0, q1, m1, ff, c, minI]
  | some e =>
    have f := fe e (oa e ea)
    rw [ea] at ta
    cases eb : entOf rs name b with
    | none =>
      rw [eb] at tb
      by_cases c : b < a
      · cases bw <;> simp [i0, d, X.lc_ok, X.comp, c_fee_due_1, ta, tb, tarD, c_fee_due_2, n0, nn, daysOf, ea, eb, q0, q1, m1, f, c, minI]
      · cases bw <;> simp [i0, d, X.lc_ok, X.comp, c_fee_due_1, ta, tb, tarD, c_fee_due_2, n0, nn, daysOf, ea, eb, q0, q1, m1, f, c, minI]
    | some g =>
      have ff := fe g (ob g eb)
      rw [eb] at tb
      by_cases c : b < a
      · cases bw <;> simp [i0, d, X.lc_ok, X.comp, c_fee_due_1, ta, tb, tarD, c_fee_due_2, nn, daysOf, ea, eb, q1, q2, m1, m2, f, ff, c, minI]
      · cases bw <;> simp [i0, d, X.lc_ok, X.comp, c_fee_due_1, ta, tb, tarD, c_fee_due_2, nn, daysOf, ea, eb, q1, q2, m1, m2, f, ff, c, minI]
end PL.K47
end
section
set_option Elab.async false
set_option linter.all false
set_option maxRecDepth 100000
set_option maxHeartbeats 2000000
set_option autoImplicit false
/-! k47: the law asks. -/
namespace PL.K47
open PySem L2 PL Lib
def dueD : Sum Str Int → D
  | .inl c => .str c
  | .inr n => .int n
theorem v_law_due (bw : BW) {rs : List BRow} (bo : BookOk rs) (name : Str) {v a b : Int} (a0 : 0 ≤ a) (b0 : 0 ≤ b) (v0 : 0 ≤ v) (v1 : v ≤ 1000000000000) :
    K47.g__law_due [encBook bw rs, .str name, .int v, .int a, .int b] = .ok (.fz (dueD (dueOf bw rs name v a b))) := by
  have fa := v_law_fees bw bo name (v := v) a0 v0 v1
  have fb := v_law_fees bw bo name (v := v) b0 v0 v1
  have i0 : ixD (encBook bw rs) (.int 0) = some (.fz (.str bw.s)) := rfl
  have q0 : eqD (.list []) (.list []) = some (.fz (.bool true)) := rfl
  have q1 : ∀ x : Int, eqD (.list [.int x]) (.list []) = some (.fz (.bool false)) := fun _ => rfl
  have q2 : ∀ x y : Int, eqD (.list [.int x, .int y]) (.list []) = some (.fz (.bool false)) := fun _ _ => rfl
  have m1 : ∀ x : Int, minLD [.list [.int x]] = some (.fz (.int x)) := fun _ => rfl
  have m2 : ∀ x y : Int, minLD [.list [.int x, .int y]] = some (.fz (.int (min x y))) := fun _ _ => rfl
  have a1 : ∀ x : D, addD (.list []) (.list [x]) = some (.fl [x]) := fun _ => by kernel_rfl
  have a00 : addD (.list []) (.list []) = some (.fl []) := by kernel_rfl
  have a10 : ∀ x : D, addD (.list [x]) (.list []) = some (.fl [x]) := fun _ => by kernel_rfl
  have a2 : ∀ x y : D, addD (.list [x]) (.list [y]) = some (.fl [x, y]) := fun _ _ => by kernel_rfl
  have w1 : neD (.str BW.old.s) (.str "new") = some (.fz (.bool true)) := by kernel_rfl
  have w2 : neD (.str BW.new.s) (.str "new") = some (.fz (.bool false)) := by kernel_rfl
  have w3 : neD (.str BW.kind.s) (.str "new") = some (.fz (.bool true)) := by kernel_rfl
  have w4 : neD (.str BW.old.s) (.str "old") = some (.fz (.bool false)) := by kernel_rfl
  have w5 : neD (.str BW.new.s) (.str "old") = some (.fz (.bool true)) := by kernel_rfl
  have w6 : neD (.str BW.kind.s) (.str "old") = some (.fz (.bool true)) := by kernel_rfl
  unfold K47.g__law_due dueOf fees
  unfold feesAt at fa fb ⊢
  generalize encBook bw rs = B at *
  cases ea : entOf rs name a with
  | none =>
    rw [ea] at fa
    cases eb : entOf rs name b with
    | none =>
      rw [eb] at fb
      simp only [List.map_nil] at fa fb
      cases bw <;> simp [i0, w1, w2, w3, w4, w5, w6, fa, fb, a00, a1, a10, q0, daysOf, ea, eb, dueD]
    | some f =>
      rw [eb] at fb
      simp only [List.map_nil, List.map_cons] at fa fb
      by_cases c : b < a
      · cases bw <;> simp [i0, w1, w2, w3, w4, w5, w6, fa, fb, a00, a1, a10, q0, q1, m1, daysOf, ea, eb, dueD, c, minI]
      · cases bw <;> simp [i0, w1, w2, w3, w4, w5, w6, fa, fb, a00, a1, a10, q0, q1, m1, daysOf, ea, eb, dueD, c, minI]
  | some e =>
    rw [ea] at fa
    cases eb : entOf rs name b with
    | none =>
      rw [eb] at fb
      simp only [List.map_nil, List.map_cons] at fa fb
      by_cases c : b < a
      · cases bw <;> simp [i0, w1, w2, w3, w4, w5, w6, fa, fb, a00, a1, a10, q0, q1, m1, daysOf, ea, eb, dueD, c, minI]
      · cases bw <;> simp [i0, w1, w2, w3, w4, w5, w6, fa, fb, a00, a1, a10, q0, q1, m1, daysOf, ea, eb, dueD, c, minI]
    | some g =>
      rw [eb] at fb
      simp only [List.map_nil, List.map_cons] at fa fb
      by_cases c : b < a
      · cases bw <;> simp [i0, w1, w2, w3, w4, w5, w6, fa, fb, a1, a2, q1, q2, m1, m2, daysOf, ea, eb, dueD, c, minI]
      · cases bw <;> simp [i0, w1, w2, w3, w4, w5, w6, fa, fb, a1, a2, q1, q2, m1, m2, daysOf, ea, eb, dueD, c, minI]
theorem told_n : K47.g__law_told [.str "NotThere"] = .ok (.fz (.str "NotThere")) := by kernel_rfl
theorem told_r : K47.g__law_told [.str "Refused"] = .ok (.fz (.str "Refused")) := by kernel_rfl
theorem due_cls (bw : BW) (rs : List BRow) (name : Str) (v a b : Int) (c : Str) (h : dueOf bw rs name v a b = .inl c) : c = "NotThere" ∨ c = "Refused" := by
  unfold dueOf at h
  split at h
  · cases h; exact .inl rfl
  · split at h
    · cases h; exact .inr rfl
    · cases h
theorem v_asked (bw : BW) {rs : List BRow} (bo : BookOk rs) (name : Str) {v a b : Int} (a0 : 0 ≤ a) (b0 : 0 ≤ b) (v0 : 0 ≤ v) (v1 : v ≤ 1000000000000) :
    K47.g__law_asked [encBook bw rs, .str name, .int v, .int a, .int b] = .ok (.fz (.bool true)) := by
  have fd := v_fee_due bw bo name a0 b0 v0 v1
  have ld := v_law_due bw bo name a0 b0 v0 v1
  have cls := due_cls bw rs name v a b
  unfold K47.g__law_asked
  generalize encBook bw rs = B at *
  cases hd : dueOf bw rs name v a b with
  | inl c =>
    rw [hd] at fd ld
    have fd' : X.call K47.g_fee_due (X.cons (X.v B) (X.cons (X.v (.str name)) (X.cons (X.v (.int v)) (X.cons (X.v (.int a)) (X.cons (X.v (.int b)) X.nil))))) = .exc c := by simpa using fd
    have ld' : X.call K47.g__law_due (X.cons (X.v B) (X.cons (X.v (.str name)) (X.cons (X.v (.int v)) (X.cons (X.v (.int a)) (X.cons (X.v (.int b)) X.nil))))) = .ok (.fz (.str c)) := by simpa [dueD] using ld
    have hm : c ∈ (["NotThere", "Refused"] : List Str) := by
      rcases cls c hd with z | z
      · rw [z]; exact .head _
      · rw [z]; exact .tail _ (.head _)
    have ht : K47.g__law_told [.str c] = .ok (.fz (.str c)) := by
      rcases cls c hd with z | z
      · rw [z]; exact told_n
      · rw [z]; exact told_r
    have he : eqD (.str c) (.str c) = some (.fz (.bool true)) := by
      have d : (PyData.str c).depth ≤ 64 := by simp [PyData.depth]
      unfold eqD
      rw [if_pos ⟨d, d⟩]
      simp [PyData.eqv]
    have hh : (X.ret (X.op2 eqD (X.call K47.g__law_told (X.cons (X.v (.str c)) X.nil)) (X.v (.str c))) : X (Fl D Unit O)) = .ok (.rt (.fz (.bool true))) := by
      simp [ht, he]
    rw [X.pD_c, X.pD_c, X.pD_c, X.pD_c, X.pD_c, X.p0_n, ld', X.letD_ok, fd', X.letD_exc]
    rw [show (O.fz (PyData.str c)).dat = .str c from rfl, X.tryF_exc hm hh]
    simp
  | inr n =>
    rw [hd] at fd ld
    have li : K47.g__law_int [.int n] = .ok (.fz (.bool true)) := by
      unfold K47.g__law_int
      simp [isiD, tyD]
    simp [fd, ld, dueD, li]
end PL.K47
end
section
set_option Elab.async false
set_option linter.all false
set_option maxRecDepth 100000
set_option maxHeartbeats 2000000
set_option autoImplicit false
/-! k47: is_fee_book. -/
namespace PL.K47
open PySem L2 PL Lib
theorem gen_up {α : Type} (enc : α → D) (key : α → D) (hk : ∀ a, ixD (enc a) (.int 0) = some (.fz (key a))) (l : List α) (hl : l.length ≤ 1000) (c : D → X (Option Bool))
    (hc : c = fun k' => X.try_ (.ok true) (X.tB (X.op2 ltD (X.op2 ixD (X.op2 ixD (X.v (.tuple (l.map enc))) (X.v k')) (X.v (.int 0))) (X.op2 ixD (X.op2 ixD (X.v (.tuple (l.map enc))) (X.op2 addD (X.v k') (X.v (.int 1)))) (X.v (.int 0))))))
    (h : l.Pairwise fun a b => ltD (key a) (key b) = some (.fz (.bool true))) :
    X.gen false (X.range1 (X.op2 subD (X.opN lenD (X.cons (X.v (.tuple (l.map enc))) X.nil)) (X.v (.int 1)))) c = .ok (.fz (.bool true)) := by
  have hn : X.op2 subD (X.opN lenD (X.cons (X.v (.tuple (l.map enc))) X.nil)) (X.v (.int 1)) = .ok (.fz (.int ((l.length : Int) - 1))) := by simp
  rw [src_i hn (by omega) (by omega)]
  have e : rngI 0 ((l.length : Int) - 1) = (List.range (l.length - 1)).map fun k : Nat => PyData.int ((k : Nat) : Int) := by
    show (List.range ((l.length : Int) - 1 - 0).toNat).map (fun k : Nat => PyData.int (0 + ((k : Nat) : Int))) = _
    rw [show ((l.length : Int) - 1 - 0).toNat = l.length - 1 by omega]
    congr 1
    funext k
    rw [Int.zero_add]
  have := X.gen_all (ds := rngI 0 ((l.length : Int) - 1)) (f := c) (as := List.range (l.length - 1)) (fun k : Nat => PyData.int ((k : Nat) : Int)) (fun _ => true) e (fun k hk' => by
    have hk' := List.mem_range.mp hk'
    have a : ixD (.tuple (l.map enc)) (.int (k : Int)) = some (.fz (enc (l[k]'(by omega)))) := ixD_tn (by rw [List.getElem?_map, List.getElem?_eq_getElem (by omega)]; rfl)
    have b : ixD (.tuple (l.map enc)) (.int ((k + 1 : Nat) : Int)) = some (.fz (enc (l[k + 1]'(by omega)))) := ixD_tn (by rw [List.getElem?_map, List.getElem?_eq_getElem (by omega)]; rfl)
    rw [show ((k + 1 : Nat) : Int) = (k : Int) + 1 from rfl] at b
    have lt := List.pairwise_iff_getElem.mp h k (k + 1) (by omega) (by omega) (by omega)
    rw [hc]
    generalize PyData.tuple (l.map enc) = T at *
    simp [a, b, hk, lt])
  rw [this]
  simp
theorem v_money_i (v : Int) : K47.g_is_money [.int v] = .ok (.fz (.bool (decide (0 ≤ v ∧ v ≤ 1000000000000)))) := by
  have := v_number_i v 0 1000000000000
  rw [show Lib.g_is_number = K47.g_is_number from rfl] at this
  unfold K47.g_is_money
  simp [this]
theorem v_step {s : Stp} (ok : s.Ok) : K47.g_is_step [encStp s] = .ok (.fz (.bool true)) := by
  have a := v_money_i s.low
  have b := v_money_i s.base
  have c := v_rate s.rate ok.rt.1 ok.rt.2.1 ok.rt.2.2
  rw [show Lib.g_is_rate = K47.g_is_rate from rfl] at c
  have i0 : ∀ x y z : D, ixD (.tuple [x, y, z]) (.int 0) = some (.fz x) := fun _ _ _ => rfl
  have i1 : ∀ x y z : D, ixD (.tuple [x, y, z]) (.int 1) = some (.fz y) := fun _ _ _ => rfl
  have i2 : ∀ x y z : D, ixD (.tuple [x, y, z]) (.int 2) = some (.fz z) := fun _ _ _ => rfl
  unfold K47.g_is_step encStp
  simp [isiD, tyD, i0, i1, i2, a, b, c, ok.l0, ok.l1, ok.b0, ok.b1]
theorem lt_i {a b : Int} (h : a < b) : ltD (.int a) (.int b) = some (.fz (.bool true)) := by
  simp [h]
theorem v_tariff (w : Wy) {ss : List Stp} (t : TOk ss) : K47.g_is_tariff [encT w ss] = .ok (.fz (.bool true)) := by
  have hp := t.pos
  have hl := t.len
  have g1 : X.gen false (X.ok (ss.map encStp)) c_is_tariff_1 = .ok (.fz (.bool true)) := by
    rw [X.gen_all encStp (fun _ => true) rfl fun s hs => by
      have := v_step (t.ok s hs)
      unfold c_is_tariff_1
      simp [this]]
    simp
  have g2 := gen_up encStp (fun s => .int s.low) ix_s0 ss (by omega) (c_is_tariff_2 (.tuple (ss.map encStp))) rfl (t.up.imp fun h => lt_i h)
  have i0 : ixD (.tuple (ss.map encStp)) (.int 0) = some (.fz (encStp (ss[0]'(by omega)))) := ixD_tn (n := 0) (by rw [List.getElem?_map, List.getElem?_eq_getElem (by omega)]; rfl)
  have z := t.zero (ss[0]'(by omega)) (List.getElem?_eq_getElem (by omega))
  have hw : notInD (.str w.s) d_WAYS = some (.fz (.bool false)) := by cases w <;> kernel_rfl
  have l1 : (1 : Int) ≤ ss.length := by omega
  have l2 : (ss.length : Int) ≤ 12 := by omega
  have hlen : lenD [.tuple (ss.map encStp)] = some (.fz (.int (ss.length : Int))) := by simp
  have hit : isiD "tuple" (encT w ss) = true := rfl
  have hle : lenD [encT w ss] = some (.fz (.int 2)) := rfl
  have hun : ∀ {β : Type} (K : D → D → X β), X.un2 (encT w ss) K = K (.str w.s) (.tuple (ss.map encStp)) := fun {β} K => rfl
  have his : isiD "str" (.str w.s) = true := rfl
  have hit2 : isiD "tuple" (.tuple (ss.map encStp)) = true := rfl
  have hsq : X.seqI (X.v (.tuple (ss.map encStp))) = .ok (ss.map encStp) := rfl
  unfold K47.g_is_tariff
  generalize encT w ss = T at *
  rw [X.pD_c, X.p0_n]
  simp only [X.v_eq, X.letD_ok, odat_fz, hun]
  simp only [X.v_eq] at g2 hsq
  simp only [g2, hsq]
  generalize PyData.tuple (ss.map encStp) = S at *
  simp [hit, hle, his, hw, hit2, hlen, l1, l2, g1, i0, ix_s0, z]
end PL.K47
end
section
set_option Elab.async false
set_option linter.all false
set_option maxRecDepth 100000
set_option maxHeartbeats 2000000
set_option autoImplicit false
/-! k47: is_table, is_row, is_fee_book. -/
namespace PL.K47
open PySem L2 PL Lib
def SLt (a b : Str) : Prop := ltD (.str a) (.str b) = some (.fz (.bool true))
def Nm (s : Str) : Prop := K47.g_is_name [.str s] = .ok (.fz (.bool true))
structure TabG (t : Tab) : Prop where
  ok : TabOk t
  nm : ∀ e ∈ t, Nm e.1
  up : t.Pairwise fun a b => SLt a.1 b.1
theorem ix_e0 (e : Ent) : ixD (encE e) (.int 0) = some (.fz (.str e.1)) := rfl
theorem ix_e1 (e : Ent) : ixD (encE e) (.int 1) = some (.fz (encT e.2.1 e.2.2)) := rfl
theorem tab_turn {e : Ent} (h : Nm e.1) (t : TOk e.2.2) : b_is_table_1 (encE e) () = .ok (.nx ()) := by
  have v := v_tariff e.2.1 t
  unfold Nm at h
  have hit : isiD "tuple" (encE e) = true := rfl
  have hle : lenD [encE e] = some (.fz (.int 2)) := rfl
  have e0 := ix_e0 e
  have e1 := ix_e1 e
  unfold b_is_table_1
  generalize encE e = E at *
  generalize encT e.2.1 e.2.2 = T at *
  simp [hit, hle, e0, e1, h, v]
theorem v_table {t : Tab} (g : TabG t) : K47.g_is_table [encTab t] = .ok (.fz (.bool true)) := by
  have hl := g.ok.len
  have f : (X.forF b_is_table_1 (t.map encE) () : X (Fl Unit Unit O)) = .ok (.nx ()) := X.forF_skip () _ fun d hd => by
    obtain ⟨e, he, rfl⟩ := List.mem_map.mp hd
    exact tab_turn (g.nm e he) (g.ok.ok e he)
  have g2 := gen_up encE (fun e => .str e.1) ix_e0 t (by omega) (c_is_table_2 (.tuple (t.map encE))) rfl g.up
  have hlen : lenD [.tuple (t.map encE)] = some (.fz (.int (t.length : Int))) := by simp
  have hn : ¬ 12 < (t.length : Int) := by omega
  have hit : isiD "tuple" (.tuple (t.map encE)) = true := rfl
  have hsq : X.seqI (X.v (.tuple (t.map encE))) = .ok (t.map encE) := rfl
  unfold K47.g_is_table encTab
  rw [X.pD_c, X.p0_n]
  simp only [g2, hsq]
  generalize PyData.tuple (t.map encE) = T at *
  simp [hit, hlen, hn, f]
theorem v_number (v a b : Int) : K47.g_is_number [.int v, .int a, .int b] = .ok (.fz (.bool (decide (a ≤ v ∧ v ≤ b)))) := v_number_i v a b
theorem ix_r0 (r : BRow) : ixD (encBR r) (.int 0) = some (.fz (.int r.1)) := rfl
theorem ix_r1 (r : BRow) : ixD (encBR r) (.int 1) = some (.fz (encTab r.2)) := rfl
theorem v_row {r : BRow} (g : TabG r.2) (h0 : 0 ≤ r.1) (h1 : r.1 ≤ 1000000) : K47.g_is_row [encBR r] = .ok (.fz (.bool true)) := by
  have v := v_table g
  have n := v_number r.1 0 1000000
  have hit : isiD "tuple" (encBR r) = true := rfl
  have hle : lenD [encBR r] = some (.fz (.int 2)) := rfl
  have e0 := ix_r0 r
  have e1 := ix_r1 r
  unfold K47.g_is_row
  generalize encBR r = R at *
  generalize encTab r.2 = T at *
  simp [hit, hle, e0, e1, v, n, h0, h1]
/-- a book's rows, right each for itself -/
structure RowsG (rs : List BRow) : Prop where
  day : ∀ r ∈ rs, 0 ≤ r.1 ∧ r.1 ≤ 1000000
  tab : ∀ r ∈ rs, TabG r.2
theorem way_in (bw : BW) : notInD (.str bw.s) d_BOOK_WAYS = some (.fz (.bool false)) := by cases bw <;> kernel_rfl
theorem rows_all {rs : List BRow} (g : RowsG rs) : X.gen false (X.ok (rs.map encBR)) c_is_fee_book_1 = .ok (.fz (.bool true)) := by
  rw [X.gen_all encBR (fun _ => true) rfl fun r hr => by
    have := v_row (g.tab r hr) (g.day r hr).1 (g.day r hr).2
    unfold c_is_fee_book_1
    simp [this]]
  simp
theorem v_book (bw : BW) {rs : List BRow} (b : BookOk rs) (g : RowsG rs) : K47.g_is_fee_book [encBook bw rs] = .ok (.fz (.bool true)) := by
  have hp := b.pos
  have hl := b.len
  have g1 := rows_all g
  have g2 := gen_up encBR (fun r => .int r.1) ix_r0 rs (by omega) (c_is_fee_book_2 (.tuple (rs.map encBR))) rfl (b.up.imp fun h => lt_i h)
  have i0 : ixD (.tuple (rs.map encBR)) (.int 0) = some (.fz (encBR (rs[0]'(by omega)))) := ixD_tn (n := 0) (by rw [List.getElem?_map, List.getElem?_eq_getElem (by omega)]; rfl)
  have z := b.zero (rs[0]'(by omega)) (List.getElem?_eq_getElem (by omega))
  have hw := way_in bw
  have l1 : (1 : Int) ≤ rs.length := by omega
  have l2 : (rs.length : Int) ≤ 12 := by omega
  have hlen : lenD [.tuple (rs.map encBR)] = some (.fz (.int (rs.length : Int))) := by simp
  have hit : isiD "tuple" (encBook bw rs) = true := rfl
  have hle : lenD [encBook bw rs] = some (.fz (.int 2)) := rfl
  have hun : ∀ {β : Type} (K : D → D → X β), X.un2 (encBook bw rs) K = K (.str bw.s) (.tuple (rs.map encBR)) := fun {β} K => rfl
  have his : isiD "str" (.str bw.s) = true := rfl
  have hit2 : isiD "tuple" (.tuple (rs.map encBR)) = true := rfl
  have hsq : X.seqI (X.v (.tuple (rs.map encBR))) = .ok (rs.map encBR) := rfl
  unfold K47.g_is_fee_book
  generalize encBook bw rs = T at *
  rw [X.pD_c, X.p0_n]
  simp only [X.v_eq, X.letD_ok, odat_fz, hun]
  simp only [X.v_eq] at g2 hsq
  simp only [g2, hsq]
  generalize PyData.tuple (rs.map encBR) = S at *
  simp [hit, hle, his, hw, hit2, hlen, l1, l2, g1, i0, ix_r0, z]
/-! what is no book -/
theorem fb_o {d : D} (h : isiD "tuple" d = false) : K47.g_is_fee_book [d] = .ok (.fz (.bool false)) := by
  unfold K47.g_is_fee_book
  simp [h]
theorem fb_3 (a b c : D) : K47.g_is_fee_book [.tuple [a, b, c]] = .ok (.fz (.bool false)) := by
  unfold K47.g_is_fee_book
  simp [isiD, tyD]
theorem fb_way {w : Str} {x : D} (h : notInD (.str w) d_BOOK_WAYS = some (.fz (.bool true))) : K47.g_is_fee_book [.tuple [.str w, x]] = .ok (.fz (.bool false)) := by
  unfold K47.g_is_fee_book
  simp [isiD, tyD, h]
theorem fb_ws {w x : D} (h : isiD "str" w = false) : K47.g_is_fee_book [.tuple [w, x]] = .ok (.fz (.bool false)) := by
  have hit : isiD "tuple" (.tuple [w, x]) = true := rfl
  unfold K47.g_is_fee_book
  simp [hit, h]
theorem fb_ro (bw : BW) {x : D} (h : isiD "tuple" x = false) : K47.g_is_fee_book [.tuple [.str bw.s, x]] = .ok (.fz (.bool false)) := by
  have hw := way_in bw
  have hit : isiD "tuple" (.tuple [.str bw.s, x]) = true := rfl
  have his : isiD "str" (.str bw.s) = true := rfl
  unfold K47.g_is_fee_book
  simp [hit, his, hw, h]
theorem fb_cnt (bw : BW) {L : List D} (h : L.length = 0 ∨ 12 < L.length) : K47.g_is_fee_book [.tuple [.str bw.s, .tuple L]] = .ok (.fz (.bool false)) := by
  have hw := way_in bw
  have hit : isiD "tuple" (.tuple [.str bw.s, .tuple L]) = true := rfl
  have his : isiD "str" (.str bw.s) = true := rfl
  have hit2 : isiD "tuple" (.tuple L) = true := rfl
  unfold K47.g_is_fee_book
  rcases h with h | h
  · have : ¬ (1 : Int) ≤ L.length := by omega
    simp [hit, his, hw, hit2, this]
  · have a : (1 : Int) ≤ L.length := by omega
    have b : ¬ (L.length : Int) ≤ 12 := by omega
    simp [hit, his, hw, hit2, a, b]
/-- a row that is none -/
abbrev BadR (d : D) : Prop := K47.g_is_row [d] = .ok (.fz (.bool false))
theorem fb_bad (bw : BW) {rs : List BRow} (g : RowsG rs) {d : D} {r : List D} (b : BadR d) : K47.g_is_fee_book [.tuple [.str bw.s, .tuple (rs.map encBR ++ d :: r)]] = .ok (.fz (.bool false)) := by
  by_cases c : 12 < (rs.map encBR ++ d :: r).length
  · exact fb_cnt bw (.inr c)
  · have st := X.genF_stop (f := c_is_fee_book_1) false (rs.map encBR) d r (fun e he => by
      obtain ⟨x, hx, rfl⟩ := List.mem_map.mp he
      have := v_row (g.tab x hx) (g.day x hx).1 (g.day x hx).2
      unfold c_is_fee_book_1
      simp [this]) (by
      have b : K47.g_is_row [d] = _ := b
      unfold c_is_fee_book_1
      simp [b])
    have p : 0 < (rs.map encBR ++ d :: r).length := by simp; omega
    have hw := way_in bw
    have his : isiD "str" (.str bw.s) = true := rfl
    generalize rs.map encBR ++ d :: r = L at *
    have g1 : X.gen false (X.ok L) c_is_fee_book_1 = .ok (.fz (.bool false)) := by
      rw [X.gen_ok, st]
      rfl
    have hit : isiD "tuple" (.tuple [.str bw.s, .tuple L]) = true := rfl
    have hit2 : isiD "tuple" (.tuple L) = true := rfl
    have a : (1 : Int) ≤ L.length := by omega
    have b2 : (L.length : Int) ≤ 12 := by omega
    unfold K47.g_is_fee_book
    simp [hit, his, hw, hit2, a, b2, g1]
end PL.K47
end
section
set_option Elab.async false
set_option linter.all false
set_option maxRecDepth 100000
set_option maxHeartbeats 2000000
set_option autoImplicit false
/-! k47: the wrong values. -/
namespace PL.K47
open PySem L2 PL Lib
theorem bad_bool (x : D) : BadR (.tuple [.bool true, x]) := by
  have := v_number_b true (.int 0) (.int 1000000)
  rw [show Lib.g_is_number = K47.g_is_number from rfl] at this
  have i0 : ixD (.tuple [.bool true, x]) (.int 0) = some (.fz (.bool true)) := rfl
  unfold BadR K47.g_is_row
  simp [isiD, tyD, i0, this]
theorem bad_day {i : Int} (h : 1000000 < i) (x : D) : BadR (.tuple [.int i, x]) := by
  have := v_number i 0 1000000
  have n : ¬ (0 ≤ i ∧ i ≤ 1000000) := by omega
  have i0 : ixD (.tuple [.int i, x]) (.int 0) = some (.fz (.int i)) := rfl
  unfold BadR K47.g_is_row
  simp [isiD, tyD, i0, this, n]
theorem bad_three (a b c : D) : BadR (.tuple [a, b, c]) := by
  unfold BadR K47.g_is_row
  simp [isiD, tyD]
theorem bad_list (i : Int) (L : List D) : BadR (.tuple [.int i, .list L]) := by
  have := v_number i 0 1000000
  have i0 : ixD (.tuple [.int i, .list L]) (.int 0) = some (.fz (.int i)) := rfl
  have i1 : ixD (.tuple [.int i, .list L]) (.int 1) = some (.fz (.list L)) := rfl
  have t : K47.g_is_table [.list L] = .ok (.fz (.bool false)) := by
    have h : isiD "tuple" (.list L) = false := rfl
    unfold K47.g_is_table
    simp [h]
  unfold BadR K47.g_is_row
  by_cases c : 0 ≤ i ∧ i ≤ 1000000
  · simp [isiD, tyD, i0, i1, this, c, t]
  · simp [isiD, tyD, i0, i1, this, c]
/-- rows that are not ascending, or do not begin with nought -/
theorem fb_ord (bw : BW) {rs : List BRow} (g : RowsG rs) (h : (∃ r, rs[0]? = some r ∧ r.1 ≠ 0) ∨ ∃ hs x, rs = hs ++ [x, x] ∧ (hs ++ [x]).Pairwise (fun a b => a.1 < b.1)) : K47.g_is_fee_book [encBook bw rs] = .ok (.fz (.bool false)) := by
  by_cases c1 : rs.length = 0 ∨ 12 < rs.length
  · exact fb_cnt bw (by rw [List.length_map]; exact c1)
  have g1 := rows_all g
  have i0 : ixD (.tuple (rs.map encBR)) (.int 0) = some (.fz (encBR (rs[0]'(by omega)))) := ixD_tn (n := 0) (by rw [List.getElem?_map, List.getElem?_eq_getElem (by omega)]; rfl)
  have hw := way_in bw
  have l1 : (1 : Int) ≤ rs.length := by omega
  have l2 : (rs.length : Int) ≤ 12 := by omega
  have hlen : lenD [.tuple (rs.map encBR)] = some (.fz (.int (rs.length : Int))) := by simp
  have hit : isiD "tuple" (encBook bw rs) = true := rfl
  have hle : lenD [encBook bw rs] = some (.fz (.int 2)) := rfl
  have hun : ∀ {β : Type} (K : D → D → X β), X.un2 (encBook bw rs) K = K (.str bw.s) (.tuple (rs.map encBR)) := fun {β} K => rfl
  have his : isiD "str" (.str bw.s) = true := rfl
  have hit2 : isiD "tuple" (.tuple (rs.map encBR)) = true := rfl
  have hsq : X.seqI (X.v (.tuple (rs.map encBR))) = .ok (rs.map encBR) := rfl
  by_cases z : (rs[0]'(by omega)).1 = 0
  · rcases h with ⟨r, e, n⟩ | ⟨hs, x, e, up⟩
    · rw [List.getElem?_eq_getElem (by omega)] at e
      rw [Option.some.inj e] at z
      exact absurd z n
    · have hn : X.op2 subD (X.opN lenD (X.cons (X.v (.tuple (rs.map encBR))) X.nil)) (X.v (.int 1)) = .ok (.fz (.int ((hs.length + 1 : Nat) : Int))) := by
        have : (rs.length : Int) - 1 = ((hs.length + 1 : Nat) : Int) := by rw [e]; simp; omega
        rw [← this]
        simp
      have src := src_n hn (by have : rs.length = hs.length + 2 := by rw [e]; simp
                               omega)
      have ixr : ∀ (k : Nat) (y : BRow), rs[k]? = some y → ixD (.tuple (rs.map encBR)) (.int (k : Int)) = some (.fz (encBR y)) := fun k y hy => ixD_tn (by rw [List.getElem?_map, hy]; rfl)
      have at_ : ∀ k : Nat, rs[k]? = (hs ++ [x, x])[k]? := fun k => congrArg (fun l : List BRow => l[k]?) e
      have st := X.genF_stop (f := c_is_fee_book_2 (.tuple (rs.map encBR))) false ((List.range hs.length).map fun k : Nat => PyData.int ((k : Nat) : Int)) (.int (hs.length : Int)) [] (fun d hd => by
        obtain ⟨k, hk, rfl⟩ := List.mem_map.mp hd
        have hk := List.mem_range.mp hk
        have lt := List.pairwise_iff_getElem.mp up k (k + 1) (by simp; omega) (by simp; omega) (by omega)
        have a := ixr k ((hs ++ [x])[k]'(by simp; omega)) (by
          rw [at_ k, show hs ++ [x, x] = (hs ++ [x]) ++ [x] by simp, List.getElem?_append_left (by simp; omega), List.getElem?_eq_getElem])
        have b := ixr (k + 1) ((hs ++ [x])[k + 1]'(by simp; omega)) (by
          rw [at_ (k + 1), show hs ++ [x, x] = (hs ++ [x]) ++ [x] by simp, List.getElem?_append_left (by simp; omega), List.getElem?_eq_getElem])
        rw [show ((k + 1 : Nat) : Int) = (k : Int) + 1 from rfl] at b
        unfold c_is_fee_book_2
        generalize PyData.tuple (rs.map encBR) = T at *
        simp [a, b, ix_r0, lt]) (by
        have a := ixr hs.length x (by rw [at_ hs.length, List.getElem?_append_right (by omega)]; simp)
        have b := ixr (hs.length + 1) x (by rw [at_ (hs.length + 1), List.getElem?_append_right (by omega)]; simp)
        rw [show ((hs.length + 1 : Nat) : Int) = (hs.length : Int) + 1 from rfl] at b
        unfold c_is_fee_book_2
        generalize PyData.tuple (rs.map encBR) = T at *
        simp [a, b, ix_r0])
      have g2 : X.gen false (X.range1 (X.op2 subD (X.opN lenD (X.cons (X.v (.tuple (rs.map encBR))) X.nil)) (X.v (.int 1)))) (c_is_fee_book_2 (.tuple (rs.map encBR))) = .ok (.fz (.bool false)) := by
        rw [src, X.gen_ok, List.range_succ, List.map_append, List.map_singleton, st]
        rfl
      unfold K47.g_is_fee_book
      generalize encBook bw rs = T at *
      rw [X.pD_c, X.p0_n]
      simp only [X.v_eq, X.letD_ok, odat_fz, hun]
      simp only [X.v_eq] at g2 hsq
      simp only [g2, hsq]
      generalize PyData.tuple (rs.map encBR) = S at *
      simp [hit, hle, his, hw, hit2, hlen, l1, l2, g1, i0, ix_r0, z]
  · unfold K47.g_is_fee_book
    generalize encBook bw rs = T at *
    rw [X.pD_c, X.p0_n]
    simp only [X.v_eq, X.letD_ok, odat_fz, hun]
    simp only [X.v_eq] at hsq
    simp only [hsq]
    generalize PyData.tuple (rs.map encBR) = S at *
    simp [hit, hle, his, hw, hit2, hlen, l1, l2, g1, i0, ix_r0, z]
end PL.K47
end
section
set_option Elab.async false
set_option linter.all false
set_option maxRecDepth 100000
set_option maxHeartbeats 2000000
set_option autoImplicit false
/-! k47: the law's wrong values. -/
namespace PL.K47
open PySem L2 PL Lib
def step0 : D := .tuple [.str "up", .tuple [.tuple [.int 0, .int 1, .tuple [.int 0, .int 1]]]]
theorem br1 : BadR (.tuple [.int 0, .tuple [.tuple [.str "a", step0], .tuple [.str "a", step0]]]) := by kernel_rfl
theorem br2 : BadR (.tuple [.int 0, .tuple [.tuple [.str "b", step0], .tuple [.str "a", step0]]]) := by kernel_rfl
theorem br3 : BadR (.tuple [.int 0, .tuple [.tuple [.str "A", step0]]]) := by kernel_rfl
theorem br4 : BadR (.tuple [.int 0, .tuple [.tuple [.str "a", .tuple [.str "up", .tuple []]]]]) := by kernel_rfl
theorem br5 : BadR (.tuple [.int 0, .tuple [.tuple [.str "a"]]]) := by kernel_rfl
def nm (k : Nat) : Str := repS "a" ((k : Int) + 1)
def wideL (n : Nat) : List D := (List.range n).map fun k => .tuple [.str (nm k), step0]
theorem wide12 (bw : BW) : K47.g_is_fee_book [.tuple [.str bw.s, .tuple [.tuple [.int 0, .tuple (wideL 12)]]]] = .ok (.fz (.bool true)) := by cases bw <;> kernel_rfl
theorem wide13 (bw : BW) : K47.g_is_fee_book [.tuple [.str bw.s, .tuple [.tuple [.int 0, .tuple (wideL 13)]]]] = .ok (.fz (.bool false)) := by cases bw <;> kernel_rfl
def longL (n : Nat) : List D := (List.range n).map fun k : Nat => PyData.tuple [.int ((k : Nat) : Int), .tuple []]
theorem long12 (bw : BW) : K47.g_is_fee_book [.tuple [.str bw.s, .tuple (longL 12)]] = .ok (.fz (.bool true)) := by cases bw <;> kernel_rfl
theorem long13 (bw : BW) : K47.g_is_fee_book [.tuple [.str bw.s, .tuple (longL 13)]] = .ok (.fz (.bool false)) := fb_cnt bw (.inr (by simp [longL]))
def wrongs (bw : BW) (hs : List BRow) (x : BRow) : List D :=
  let R := hs.map encBR
  let w := PyData.str bw.s
  let t (a b : D) : D := .tuple [a, b]
  [t (.str "older") (.tuple (R ++ [encBR x])), t w (.list (R ++ [encBR x])), t w (.tuple []), .list [w, .tuple (R ++ [encBR x])], .tuple [w, .tuple (R ++ [encBR x]), .int 1],
   t w (.tuple (R ++ [encBR x] ++ [encBR x])), .none, w, t w (.tuple [t (.int 1) (encTab x.2)]), t w (.tuple (R ++ [t (.int x.1) (.list (x.2.map encE))])), t w (.tuple [t (.bool true) (encTab x.2)]),
   t w (.tuple [.tuple [.int 0, encTab x.2, .int 1]]), t w (.tuple (R ++ [encBR x] ++ [t (.int 1000001) (encTab x.2)])), t w (.tuple [t (.int 0) (.tuple [t (.str "a") step0, t (.str "a") step0])]),
   t w (.tuple [t (.int 0) (.tuple [t (.str "b") step0, t (.str "a") step0])]), t w (.tuple [t (.int 0) (.tuple [t (.str "A") step0])]), t w (.tuple [t (.int 0) (.tuple [t (.str "a") (t (.str "up") (.tuple []))])]),
   t w (.tuple [t (.int 0) (.tuple [.tuple [.str "a"]])]), t .none (.tuple (R ++ [encBR x]))]
theorem wrongs_no (bw : BW) {hs : List BRow} {x : BRow} (b : BookOk (hs ++ [x])) (g : RowsG (hs ++ [x])) : ∀ d ∈ wrongs bw hs x, K47.g_is_fee_book [d] = .ok (.fz (.bool false)) := by
  have gh : RowsG hs := ⟨fun r hr => g.day r (by simp [hr]), fun r hr => g.tab r (by simp [hr])⟩
  have g0 : RowsG [] := ⟨fun r hr => (List.not_mem_nil hr).elim, fun r hr => (List.not_mem_nil hr).elim⟩
  have older : notInD (.str "older") d_BOOK_WAYS = some (.fz (.bool true)) := by kernel_rfl
  have tx := g.tab x (by simp)
  have gg : RowsG (hs ++ [x] ++ [x]) := ⟨fun r hr => by
    rcases List.mem_append.mp hr with z | z
    · exact g.day r z
    · rw [List.mem_singleton.mp z]; exact g.day x (by simp), fun r hr => by
    rcases List.mem_append.mp hr with z | z
    · exact g.tab r z
    · rw [List.mem_singleton.mp z]; exact tx⟩
  intro d hd
  unfold wrongs at hd
  simp only [List.mem_cons, List.not_mem_nil, or_false] at hd
  rcases hd with rfl | rfl | rfl | rfl | rfl | rfl | rfl | rfl | rfl | rfl | rfl | rfl | rfl | rfl | rfl | rfl | rfl | rfl | rfl
  · exact fb_way older
  · exact fb_ro bw rfl
  · exact fb_cnt bw (.inl rfl)
  · exact fb_o rfl
  · exact fb_3 _ _ _
  · have := fb_ord bw gg (.inr ⟨hs, x, by simp, b.up⟩)
    unfold encBook at this
    rw [List.map_append, List.map_append, List.map_singleton] at this
    exact this
  · exact fb_o rfl
  · exact fb_o rfl
  · have := fb_ord bw (rs := [(1, x.2)]) ⟨fun r hr => by rw [List.mem_singleton.mp hr]; exact ⟨by show (0 : Int) ≤ 1; decide, by show (1 : Int) ≤ 1000000; decide⟩, fun r hr => by rw [List.mem_singleton.mp hr]; exact tx⟩ (.inl ⟨_, rfl, by show (1 : Int) ≠ 0; decide⟩)
    exact this
  · exact fb_bad bw gh (bad_list _ _)
  · exact fb_bad bw g0 (bad_bool _)
  · exact fb_bad bw g0 (bad_three _ _ _)
  · have := fb_bad bw g (r := []) (bad_day (by decide : (1000000 : Int) < 1000001) (encTab x.2))
    rw [List.map_append, List.map_singleton] at this
    exact this
  · exact fb_bad bw g0 br1
  · exact fb_bad bw g0 br2
  · exact fb_bad bw g0 br3
  · exact fb_bad bw g0 br4
  · exact fb_bad bw g0 br5
  · exact fb_ws rfl
end PL.K47
end
section
set_option Elab.async false
set_option linter.all false
set_option maxRecDepth 100000
set_option maxHeartbeats 2000000
set_option autoImplicit false
/-! k47: the law's test of wrong values. -/
namespace PL.K47
open PySem L2 PL Lib
theorem mul_nm {k : Nat} (h : k < 13) : mulD (.str "a") (.int ((k : Int) + 1)) = some (.fz (.str (nm k))) := by
  match k, h with
  | 0, _ | 1, _ | 2, _ | 3, _ | 4, _ | 5, _ | 6, _ | 7, _ | 8, _ | 9, _ | 10, _ | 11, _ | 12, _ => kernel_rfl
theorem v_wrong (bw : BW) {hs : List BRow} {x : BRow} (b : BookOk (hs ++ [x])) (g : RowsG (hs ++ [x])) (hl : hs.length ≤ 100) : K47.g__law_wrong [encBook bw (hs ++ [x])] = .ok (.fz (.bool true)) := by
  have loop : (X.forF b__law_wrong_1 (wrongs bw hs x) () : X (Fl Unit Unit O)) = .ok (.nx ()) := X.forF_skip () _ fun d hd => by
    have q := wrongs_no bw b g d hd
    unfold b__law_wrong_1
    have e : isNotD (.bool false) (.bool false) = some (.fz (.bool false)) := rfl
    simp [q, e]
  have e0 : encBook bw (hs ++ [x]) = .tuple [.str bw.s, .tuple (hs.map encBR ++ [encBR x])] := by unfold encBook; simp
  have hx := ixD_lastT (xs := hs.map encBR) (d := encBR x)
  have hsl := slD_init (xs := hs.map encBR) (d := encBR x)
  have hlen : (hs.map encBR).length = hs.length := List.length_map ..
  have a1 : ∀ d, addD (.tuple (hs.map encBR)) (.tuple [d]) = some (.fz (.tuple (hs.map encBR ++ [d]))) := fun d => addD_tt _ _ (by rw [hlen]; simp; omega)
  have a2 : ∀ d, addD (.tuple (hs.map encBR ++ [encBR x])) (.tuple [d]) = some (.fz (.tuple (hs.map encBR ++ [encBR x] ++ [d]))) := fun d => addD_tt _ _ (by rw [List.length_append, hlen]; simp; omega)
  have un : ∀ (r : BRow) {β : Type} (K : D → D → X β), X.un2 (encBR r) K = K (.int r.1) (encTab r.2) := fun r {β} K => rfl
  have l1 : listD [.tuple (hs.map encBR ++ [encBR x])] = some (.fl (hs.map encBR ++ [encBR x])) := by simp
  have l2 : listD [encTab x.2] = some (.fl (x.2.map encE)) := by unfold encTab; simp
  have lc1 : X.lc (X.rng1 (.int 13)) c__law_wrong_2 = .ok (.fl ((List.range 13).map fun k => .str (nm k))) := by
    have s := src_n (m := X.v (.int 13)) (n := 13) rfl (by decide)
    have s : X.rng1 (.int 13) = _ := s
    rw [s]
    exact X.lc_all (fun k : Nat => PyData.int ((k : Nat) : Int)) _ rfl (fun k hk => by
      have m := mul_nm (List.mem_range.mp hk)
      unfold c__law_wrong_2
      simp [m]) (by simp)
  have lc2 : X.lc (X.ok ((List.range 13).map fun k => PyData.str (nm k))) (c__law_wrong_3 step0) = .ok (.fl (wideL 13)) :=
    X.lc_all (fun k : Nat => PyData.str (nm k)) _ rfl (fun k hk => by unfold c__law_wrong_3; simp) (by simp)
  have lc3 : X.lc (X.rng1 (.int 13)) c__law_wrong_4 = .ok (.fl (longL 13)) := by
    have s := src_n (m := X.v (.int 13)) (n := 13) rfl (by decide)
    have s : X.rng1 (.int 13) = _ := s
    rw [s]
    exact X.lc_all (fun k : Nat => PyData.int ((k : Nat) : Int)) _ rfl (fun k hk => by unfold c__law_wrong_4; simp) (by simp)
  have s1 : slD (.tuple (wideL 13)) none (some 12) = some (.fz (.tuple (wideL 12))) := by
    have := slD_take (xs := wideL 13) (n := 12) (by simp [wideL])
    rw [show (wideL 13).take 12 = wideL 12 by unfold wideL; rw [← List.map_take, List.take_range]; rfl] at this
    exact this
  have s2 : slD (.tuple (longL 13)) none (some 12) = some (.fz (.tuple (longL 12))) := by
    have := slD_take (xs := longL 13) (n := 12) (by simp [longL])
    rw [show (longL 13).take 12 = longL 12 by unfold longL; rw [← List.map_take, List.take_range]; rfl] at this
    exact this
  have t1 : tupleD [.list (wideL 13)] = some (.fz (.tuple (wideL 13))) := by simp
  have t2 : tupleD [.list (longL 13)] = some (.fz (.tuple (longL 13))) := by simp
  have w1 := wide12 bw
  have w2 := wide13 bw
  have w3 := long12 bw
  have w4 := long13 bw
  have n1 : isNotD (.bool true) (.bool true) = some (.fz (.bool false)) := rfl
  have n2 : isNotD (.bool false) (.bool false) = some (.fz (.bool false)) := rfl
  have i1 : isD (.bool true) (.bool true) = some (.fz (.bool true)) := rfl
  have i2 : isD (.bool false) (.bool false) = some (.fz (.bool true)) := rfl
  have st : PyData.tuple [.str "up", .tuple [.tuple [.int 0, .int 1, .tuple [.int 0, .int 1]]]] = step0 := rfl
  rw [e0]
  unfold wrongs at loop
  dsimp only at loop
  unfold K47.g__law_wrong
  generalize hs.map encBR = H at *
  generalize hX : H ++ [encBR x] = HX at *
  generalize wideL 13 = W13 at *
  generalize wideL 12 = W12 at *
  generalize longL 13 = L13 at *
  generalize longL 12 = L12 at *
  generalize (List.range 13).map (fun k => PyData.str (nm k)) = N13 at *
  rw [X.pD_c, X.p0_n]
  simp [hx, hsl, a1, a2, un, l1, l2, st, loop, lc1, lc2, lc3, s1, s2, t1, t2, w1, w2, w3, w4, n1, n2, i1, i2]
end PL.K47
end
section
set_option Elab.async false
set_option linter.all false
set_option maxRecDepth 100000
set_option maxHeartbeats 2000000
set_option autoImplicit false
/-! k47: what the law draws. -/
namespace PL.K47
open PySem L2 PL Lib
theorem e_draw : K47.g__law_draw = Dw.g__law_draw := rfl
theorem e_open : K47.g__law_open = Dw.g__law_open := rfl
theorem v_draw {m : Nat} {xs : List D} {n : Int} (h : Dr m xs) (hm : m < 2 ^ 63) (hn : 0 < n) (hn2 : n ≤ 10 ^ 45) : ∃ (v : Int) (ys : List D), K47.g__law_draw [.list xs, .int n] = .ok (.fz (.int v), ys) ∧ 0 ≤ v ∧ v < n ∧ Dr (m + 1) ys := by
  rw [e_draw]
  exact Dw.v_draw h hm hn (lim9000 hn hn2)
theorem day_turn (k : D) {m : Nat} {xs : List D} (h : Dr m xs) (hm : m + 3 < 2 ^ 63) {ns : List Int} (ok : LOk 1000000 ns) (hl : ns.length ≤ 1000) :
    ∃ (ys : List D) (ns' : List Int), b__law_book_1 k (xs, ns.map PyData.int) = .ok (.nx (ys, ns'.map PyData.int)) ∧ Dr (m + 3) ys ∧ LOk 1000000 ns' ∧ ns'.length ≤ ns.length + 1 := by
  obtain ⟨a, x1, e1, a0, a1, D1⟩ := v_draw (n := 9) h (by omega) (by decide) (by decide)
  obtain ⟨b, x2, e2, b0, b1, D2⟩ := v_draw (n := 1000000) D1 (by omega) (by decide) (by decide)
  obtain ⟨c, x3, e3, c0, c1, D3⟩ := v_draw (n := 9) D2 (by omega) (by decide) (by decide)
  have m1 := modD_ii (i := c) (j := 4) (by decide)
  have m2 := modD_ii (i := c % 4) (j := 3) (by decide)
  obtain ⟨d, hd, e⟩ := pick (ds := [.int (1 + a), .int (1 + b), .int 1000000]) (v := c % 4 % 3) (by omega) (by show c % 4 % 3 < 3; omega)
  obtain ⟨v, rfl, v0, v1⟩ : ∃ v : Int, d = .int v ∧ 0 ≤ v ∧ v ≤ 1000000 := by
    simp at hd
    rcases hd with rfl | rfl | rfl
    · exact ⟨_, rfl, by omega, by omega⟩
    · exact ⟨_, rfl, by omega, by omega⟩
    · exact ⟨_, rfl, by decide, by decide⟩
  have nin := notInD_ints v ns
  have hl' : (ns.map PyData.int).length < 16777216 := by rw [List.length_map]; omega
  unfold b__law_book_1
  by_cases q : v ∈ ns
  · refine ⟨x3, ns, ?_, D3, ok, by omega⟩
    rw [decide_eq_true q] at nin
    generalize ns.map PyData.int = L at *
    simp [e1, e2, e3, m1, m2, e, nin]
  · refine ⟨x3, ns ++ [v], ?_, D3, ok.add v0 v1 q, by simp⟩
    rw [decide_eq_false q] at nin
    rw [List.map_append, List.map_cons, List.map_nil]
    generalize ns.map PyData.int = L at *
    simp [e1, e2, e3, m1, m2, e, nin, hl']
/-- the days list of the law grows by the rows -/
theorem days_loop (rs : List BRow) (h : ∀ r ∈ rs, 0 ≤ r.1 ∧ r.1 ≤ 1000000) : ∀ (l : List BRow) (ds : List Int), (∀ r ∈ l, r ∈ rs) → (∀ d ∈ ds, 0 ≤ d ∧ d ≤ 1000000) → ds.length + 2 * l.length ≤ 1000 →
    ∃ es : List Int, (X.forF b_law_1 (l.map encBR) (.list (ds.map PyData.int)) : X (Fl D (List D) O)) = .ok (.nx (.list (es.map PyData.int))) ∧ (∀ d ∈ es, 0 ≤ d ∧ d ≤ 1000000) ∧ ds.length ≤ es.length ∧ es.length ≤ 1000
  | [], ds, _, hd, hl => ⟨ds, rfl, hd, Nat.le_refl _, by simp at hl; omega⟩
  | r :: l, ds, hr, hd, hl => by
    rw [List.length_cons] at hl
    have hb := h r (hr r (by simp))
    have ad : addD (.list (ds.map PyData.int)) (.list [.int r.1, .int (max 0 (r.1 - 1))]) = some (.fl ((ds ++ [r.1, max 0 (r.1 - 1)]).map PyData.int)) := by
      show (if _ then _ else _) = _
      rw [if_pos (by rw [sizeLine_eq, List.length_map]; simp; omega)]
      simp
    obtain ⟨es, e, he, h1, h2⟩ := days_loop rs h l (ds ++ [r.1, max 0 (r.1 - 1)]) (fun q hq => hr q (by simp [hq])) (fun d hdm => by
      rcases List.mem_append.mp hdm with z | z
      · exact hd d z
      · simp at z
        rcases z with z | z
        · rw [z]; exact hb
        · rw [z]; omega) (by simp; omega)
    refine ⟨es, ?_, he, by simp at h1; omega, h2⟩
    rw [List.map_cons, X.forF_cons]
    have i0 := ix_r0 r
    have st : b_law_1 (encBR r) (.list (ds.map PyData.int)) = .ok (.nx (.list ((ds ++ [r.1, max 0 (r.1 - 1)]).map PyData.int))) := by
      unfold b_law_1
      generalize encBR r = E at *
      generalize (ds ++ [r.1, max 0 (r.1 - 1)]).map PyData.int = L2 at *
      generalize ds.map PyData.int = L1 at *
      simp [i0, ad]
    rw [st]
    exact e
end PL.K47
end
section
set_option Elab.async false
set_option linter.all false
set_option maxRecDepth 100000
set_option maxHeartbeats 2000000
set_option autoImplicit false
/-! k47: tables that are drawn. -/
namespace PL.K47
open PySem L2 PL Lib
theorem stp_ok {l b : Int} {p q : Int} (l0 : 0 ≤ l) (l1 : l ≤ 1000) (b0 : 0 ≤ b) (b1 : b ≤ 1000) (r : Rat) (h : 0 ≤ r ∧ r ≤ 1 ∧ r.den ≤ 10000) : (Stp.mk l b r).Ok := ⟨l0, by show l ≤ _; omega, b0, by show b ≤ _; omega, h⟩
theorem rate01 {p : Int} (h0 : 0 ≤ p) (h1 : p < 2) : PyData.tuple [.int p, .int 1] = encF (p : Rat) ∧ 0 ≤ (p : Rat) ∧ (p : Rat) ≤ 1 ∧ (p : Rat).den ≤ 10000 := by
  have : p = 0 ∨ p = 1 := by omega
  rcases this with rfl | rfl
  · exact ⟨rfl, by decide, by decide, by decide⟩
  · exact ⟨rfl, by decide, by decide, by decide⟩
theorem rate1q {q : Int} (h0 : 0 ≤ q) (h1 : q < 4) : ∃ r : Rat, PyData.tuple [.int 1, .int (2 + q)] = encF r ∧ 0 ≤ r ∧ r ≤ 1 ∧ r.den ≤ 10000 := by
  have : q = 0 ∨ q = 1 ∨ q = 2 ∨ q = 3 := by omega
  rcases this with rfl | rfl | rfl | rfl
  · exact ⟨1 / 2, (by unfold encF; rw [show (1 / 2 : Rat).num = 1 by decide +kernel, show (1 / 2 : Rat).den = 2 by decide +kernel]; rfl), by decide +kernel, by decide +kernel, by decide +kernel⟩
  · exact ⟨1 / 3, (by unfold encF; rw [show (1 / 3 : Rat).num = 1 by decide +kernel, show (1 / 3 : Rat).den = 3 by decide +kernel]; rfl), by decide +kernel, by decide +kernel, by decide +kernel⟩
  · exact ⟨1 / 4, (by unfold encF; rw [show (1 / 4 : Rat).num = 1 by decide +kernel, show (1 / 4 : Rat).den = 4 by decide +kernel]; rfl), by decide +kernel, by decide +kernel, by decide +kernel⟩
  · exact ⟨1 / 5, (by unfold encF; rw [show (1 / 5 : Rat).num = 1 by decide +kernel, show (1 / 5 : Rat).den = 5 by decide +kernel]; rfl), by decide +kernel, by decide +kernel, by decide +kernel⟩
theorem pick_way {v : Int} (h0 : 0 ≤ v) (h1 : v < 3) : ∃ w : Wy, ixD (.list [.str "down", .str "up", .str "near"]) (.int v) = some (.fz (.str w.s)) := by
  have : v = 0 ∨ v = 1 ∨ v = 2 := by omega
  rcases this with rfl | rfl | rfl
  · exact ⟨.down, rfl⟩
  · exact ⟨.up, rfl⟩
  · exact ⟨.near, rfl⟩
theorem table_turn (nmv : Str) {m : Nat} {xs : List D} (h : Dr m xs) (hm : m + 9 < 2 ^ 63) (t : Tab) (ht : t.length ≤ 100) :
    ∃ (ys : List D) (t' : Tab), b__law_table_1 (.str nmv) (xs, t.map encE) = .ok (.nx (ys, t'.map encE)) ∧ Dr (m + 9) ys ∧ (t' = t ∨ ∃ w ss, t' = t ++ [(nmv, w, ss)] ∧ TOk ss ∧ t.length < 4) := by
  obtain ⟨a, x1, e1, a0, a1, D1⟩ := v_draw (n := 3) h (by omega) (by decide) (by decide)
  have hl : lenD [.list (t.map encE)] = some (.fz (.int (t.length : Int))) := by simp
  by_cases ca : 0 < a
  · by_cases cl : (t.length : Int) < 4
    · obtain ⟨b, x2, e2, b0, b1, D2⟩ := v_draw (n := 100) D1 (by omega) (by decide) (by decide)
      obtain ⟨p, x3, e3, p0, p1, D3⟩ := v_draw (n := 2) D2 (by omega) (by decide) (by decide)
      obtain ⟨q1, q2⟩ := rate01 p0 p1
      obtain ⟨c, x4, e4, c0, c1, D4⟩ := v_draw (n := 2) D3 (by omega) (by decide) (by decide)
      have ok1 : (Stp.mk 0 b (p : Rat)).Ok := stp_ok (p := 0) (q := 0) (by decide) (by decide) b0 (by omega) _ q2
      have en1 : PyData.tuple [.int 0, .int b, encF (p : Rat)] = encStp ⟨0, b, (p : Rat)⟩ := rfl
      have hl' : (t.map encE).length < 16777216 := by rw [List.length_map]; omega
      by_cases cc : c = 1
      · obtain ⟨l, x5, e5, l0, l1, D5⟩ := v_draw (n := 200) D4 (by omega) (by decide) (by decide)
        obtain ⟨b2, x6, e6, b20, b21, D6⟩ := v_draw (n := 100) D5 (by omega) (by decide) (by decide)
        obtain ⟨q, x7, e7, qq0, qq1, D7⟩ := v_draw (n := 4) D6 (by omega) (by decide) (by decide)
        obtain ⟨r, r1, r2⟩ := rate1q qq0 qq1
        obtain ⟨wv, x8, e8, w0, w1, D8⟩ := v_draw (n := 3) D7 (by omega) (by decide) (by decide)
        obtain ⟨w, hw⟩ := pick_way w0 w1
        have ok2 : (Stp.mk (1 + l) b2 r).Ok := stp_ok (p := 0) (q := 0) (by omega) (by omega) b20 (by omega) _ r2
        have en2 : PyData.tuple [.int (1 + l), .int b2, encF r] = encStp ⟨1 + l, b2, r⟩ := rfl
        refine ⟨x8, t ++ [(nmv, w, [⟨0, b, (p : Rat)⟩, ⟨1 + l, b2, r⟩])], ?_, D8.mono (by omega), .inr ⟨w, _, rfl, ⟨by simp, by simp, ?_, ?_, ?_⟩, by omega⟩⟩
        · have ee : PyData.tuple [.str nmv, .tuple [.str w.s, .tuple [encStp ⟨0, b, (p : Rat)⟩, encStp ⟨1 + l, b2, r⟩]]] = encE (nmv, w, [⟨0, b, (p : Rat)⟩, ⟨1 + l, b2, r⟩]) := rfl
          rw [List.map_append, List.map_singleton]
          unfold b__law_table_1
          generalize encE (nmv, w, [⟨0, b, (p : Rat)⟩, ⟨1 + l, b2, r⟩]) = E at *
          generalize t.map encE = L at *
          generalize encStp ⟨0, b, (p : Rat)⟩ = S1 at *
          generalize encStp ⟨1 + l, b2, r⟩ = S2 at *
          generalize encF (p : Rat) = P1' at *
          generalize encF r = R1' at *
          simp [e1, ca, hl, cl, e2, e3, q1, en1, e4, cc, e5, e6, e7, r1, en2, e8, hw, ee, hl']
        · intro s hs
          simp at hs
          rcases hs with rfl | rfl
          · exact ok1
          · exact ok2
        · intro s hs; cases hs; rfl
        · simp; omega
      · obtain ⟨wv, x8, e8, w0, w1, D8⟩ := v_draw (n := 3) D4 (by omega) (by decide) (by decide)
        obtain ⟨w, hw⟩ := pick_way w0 w1
        refine ⟨x8, t ++ [(nmv, w, [⟨0, b, (p : Rat)⟩])], ?_, D8.mono (by omega), .inr ⟨w, _, rfl, ⟨by simp, by simp, ?_, ?_, ?_⟩, by omega⟩⟩
        · have ee : PyData.tuple [.str nmv, .tuple [.str w.s, .tuple [encStp ⟨0, b, (p : Rat)⟩]]] = encE (nmv, w, [⟨0, b, (p : Rat)⟩]) := rfl
          rw [List.map_append, List.map_singleton]
          unfold b__law_table_1
          generalize encE (nmv, w, [⟨0, b, (p : Rat)⟩]) = E at *
          generalize t.map encE = L at *
          generalize encStp ⟨0, b, (p : Rat)⟩ = S1 at *
          generalize encF (p : Rat) = P1' at *
          simp [e1, ca, hl, cl, e2, e3, q1, en1, e4, cc, e8, hw, ee, hl']
        · intro s hs
          simp at hs
          rw [hs]; exact ok1
        · intro s hs; cases hs; rfl
        · simp
    · refine ⟨x1, t, ?_, D1.mono (by omega), .inl rfl⟩
      unfold b__law_table_1
      generalize t.map encE = L at *
      simp [e1, ca, hl, cl]
  · refine ⟨x1, t, ?_, D1.mono (by omega), .inl rfl⟩
    unfold b__law_table_1
    generalize t.map encE = L at *
    simp [e1, ca]
end PL.K47
end
section
set_option Elab.async false
set_option linter.all false
set_option maxRecDepth 100000
set_option maxHeartbeats 2000000
set_option autoImplicit false
/-! k47: a table that is drawn. -/
namespace PL.K47
open PySem L2 PL Lib
def names6 : List Str := ["appeal", "claim", "copy", "hear", "stay", "z"]
theorem nm6 : ∀ n ∈ names6, Nm n := by
  intro n hn
  simp only [names6, List.mem_cons, List.not_mem_nil, or_false] at hn
  rcases hn with rfl | rfl | rfl | rfl | rfl | rfl <;> (unfold Nm; kernel_rfl)
theorem up6 : names6.Pairwise SLt := by
  unfold names6
  simp only [List.pairwise_cons, List.mem_cons, List.not_mem_nil, or_false, forall_eq_or_imp, forall_eq, List.Pairwise.nil, and_true]
  refine ⟨⟨?_, ?_, ?_, ?_, ?_⟩, ⟨?_, ?_, ?_, ?_⟩, ⟨?_, ?_, ?_⟩, ⟨?_, ?_⟩, ?_, ?_⟩ <;> first | (unfold SLt; kernel_rfl) | (intro a h; cases h)
theorem nd6 : names6.Nodup := by decide +kernel
theorem v_table_draw {m : Nat} {xs : List D} (h : Dr m xs) (hm : m + 60 < 2 ^ 63) : ∃ (t : Tab) (ys : List D), K47.g__law_table [.list xs] = .ok (.fz (encTab t), ys) ∧ TabG t ∧ Dr (m + 60) ys := by
  obtain ⟨s2, f2, ys, t, rfl, D2, sub, tok, tl⟩ := X.forF_invE (B := Unit) (T := O × List D) (body := b__law_table_1) PyData.str (fun l s => ∃ (ys : List D) (t : Tab), s = (ys, t.map encE) ∧ (l.length ≤ 6 → Dr (m + 9 * l.length) ys) ∧ (t.map (·.1)).Sublist l ∧ (∀ e ∈ t, TOk e.2.2) ∧ t.length ≤ 4) names6 (xs, ([] : List D)) ⟨xs, [], rfl, fun _ => h, .slnil, (fun _ h => by cases h), by simp⟩ (fun l a r s hs hI => by
    obtain ⟨ys, t, rfl, D, sub, tok, tl⟩ := hI
    have hl : l.length + (r.length + 1) = 6 := by
      have := congrArg List.length hs
      simpa [names6] using this.symm
    obtain ⟨y2, t2, q1, q2, q3⟩ := table_turn a (D (by omega)) (by omega) t (by omega)
    refine ⟨_, q1, y2, t2, rfl, fun _ => q2.mono (by simp; omega), ?_, ?_, ?_⟩
    · rcases q3 with rfl | ⟨w, ss, rfl, _, _⟩
      · exact sub.trans (List.sublist_append_left ..)
      · rw [List.map_append, List.map_singleton]
        exact sub.append (List.Sublist.refl _)
    · rcases q3 with rfl | ⟨w, ss, rfl, k, _⟩
      · exact tok
      · intro e he
        rcases List.mem_append.mp he with z | z
        · exact tok e z
        · rw [List.mem_singleton.mp z]; exact k
    · rcases q3 with rfl | ⟨w, ss, rfl, _, k⟩
      · exact tl
      · simp; omega)
  have D2 := D2 (by decide)
  have tt : tupleD [.list (t.map encE)] = some (.fz (.tuple (t.map encE))) := by simp
  refine ⟨t, ys, ?_, ⟨⟨by omega, tok, ?_⟩, fun e he => ?_, ?_⟩, D2.mono (by simp [names6])⟩
  · have f2 : (X.forF b__law_table_1 [.str "appeal", .str "claim", .str "copy", .str "hear", .str "stay", .str "z"] (xs, []) : X (Fl (List D × List D) Unit (O × List D))) = _ := f2
    unfold K47.g__law_table encTab
    generalize t.map encE = L at *
    simp [f2, tt]
  · have := sub.nodup nd6
    exact List.pairwise_map.mp this
  · exact nm6 _ (sub.subset (List.mem_map_of_mem he))
  · exact List.pairwise_map.mp (up6.sublist sub)
end PL.K47
end
section
set_option Elab.async false
set_option linter.all false
set_option maxRecDepth 100000
set_option maxHeartbeats 2000000
set_option autoImplicit false
/-! k47: the rows of a drawn book. -/
namespace PL.K47
open PySem L2 PL Lib
theorem rows_comp : ∀ (ns : List Int) (m : Nat) (xs : List D), Dr m xs → m + 60 * ns.length < 2 ^ 63 → ∃ (rs : List BRow) (ys : List D), X.compS c__law_book_2 (ns.map PyData.int) xs = .ok (rs.map encBR, ys) ∧ rs.map (·.1) = ns ∧ (∀ r ∈ rs, TabG r.2) ∧ Dr (m + 60 * ns.length) ys
  | [], m, xs, h, _ => ⟨[], xs, rfl, rfl, (fun _ h => by cases h), h⟩
  | n :: ns, m, xs, h, hm => by
    rw [List.length_cons] at hm
    obtain ⟨t, x1, e1, g, D1⟩ := v_table_draw h (by omega)
    obtain ⟨rs, ys, e2, em, gr, D2⟩ := rows_comp ns (m + 60) x1 D1 (by omega)
    refine ⟨(n, t) :: rs, ys, ?_, by rw [List.map_cons, em], fun r hr => ?_, by rw [List.length_cons, show m + 60 * (ns.length + 1) = m + 60 + 60 * ns.length by omega]; exact D2⟩
    · have st : c__law_book_2 (.int n) xs = .ok (some (encBR (n, t)), x1) := by
        have ee : PyData.tuple [.int n, encTab t] = encBR (n, t) := rfl
        unfold c__law_book_2
        generalize encBR (n, t) = E at *
        simp [e1, ee]
      rw [List.map_cons, List.map_cons]
      unfold X.compS
      rw [st]
      show (X.compS c__law_book_2 (ns.map PyData.int) x1).bind (fun p => X.ok (encBR (n, t) :: p.1, p.2)) = _
      rw [e2]
      rfl
    · rcases List.mem_cons.mp hr with z | z
      · rw [z]; exact g
      · exact gr r z
end PL.K47
end
section
set_option Elab.async false
set_option linter.all false
set_option maxRecDepth 100000
set_option maxHeartbeats 2000000
set_option autoImplicit false
/-! k47: a book that is drawn. -/
namespace PL.K47
open PySem L2 PL Lib
theorem rngI_len {v : Int} (h : 0 ≤ v) : ((rngI 0 v).length : Int) = v := by
  show (((List.range (v - 0).toNat).map fun k => PyData.int (0 + (k : Nat))).length : Int) = v
  rw [List.length_map, List.length_range]
  omega
theorem pick_bw {v : Int} (h0 : 0 ≤ v) (h1 : v < 3) : ∃ w : BW, ixD (.list [.str "old", .str "new", .str "kind"]) (.int v) = some (.fz (.str w.s)) := by
  have : v = 0 ∨ v = 1 ∨ v = 2 := by omega
  rcases this with rfl | rfl | rfl
  · exact ⟨.old, rfl⟩
  · exact ⟨.new, rfl⟩
  · exact ⟨.kind, rfl⟩
theorem v_book_draw {m : Nat} {xs : List D} (h : Dr m xs) (hm : m + 1000 < 2 ^ 63) : ∃ (bw : BW) (rs : List BRow) (ys : List D), K47.g__law_book [.list xs] = .ok (.fz (encBook bw rs), ys) ∧ BookOk rs ∧ RowsG rs ∧ rs.length ≤ 6 ∧ Dr (m + 1000) ys := by
  obtain ⟨n, x1, e1, n0, n1, D1⟩ := v_draw (n := 6) h (by omega) (by decide) (by decide)
  have hr : X.rng1 (.int n) = .ok (rngI 0 n) := rng1_of (by omega) (by omega)
  have hn := rngI_len n0
  generalize rngI 0 n = ds at *
  obtain ⟨s1, f1, ys, ns, rfl, D2, ok, l3⟩ := X.forF_inv (B := Unit) (T := O × List D) (body := b__law_book_1) (fun i s => ∃ (ys : List D) (ns : List Int), s = (ys, ns.map PyData.int) ∧ (i ≤ ds.length → Dr (m + 1 + 3 * i) ys) ∧ LOk 1000000 ns ∧ ns.length ≤ i + 1) ds 0 (x1, [PyData.int 0]) ⟨x1, [0], rfl, fun _ => D1, LOk.one (by decide), by simp⟩ (fun i d s hd hI => by
    obtain ⟨ys, ns, rfl, D, ok, l⟩ := hI
    obtain ⟨hi, _⟩ := List.getElem?_eq_some_iff.mp hd
    obtain ⟨y2, n2, q1, q2, q3, q4⟩ := day_turn d (D (by omega)) (by omega) ok (by omega)
    exact ⟨_, q1, y2, n2, rfl, fun _ => q2.mono (by omega), q3, by omega⟩)
  have D2 := D2 (by omega)
  obtain ⟨v, x2, e2, v0, v1, D3⟩ := v_draw (n := 3) D2 (by omega) (by decide) (by decide)
  obtain ⟨bw, hb⟩ := pick_bw v0 v1
  have sl := sortI_len ns
  obtain ⟨rs, y2, e3, em, gr, D4⟩ := rows_comp (sortI ns) _ x2 D3 (by omega)
  have rl : rs.length = ns.length := by rw [← sl, ← em, List.length_map]
  refine ⟨bw, rs, y2, ?_, ?_, ⟨fun r hr => sortI_le ok r.1 (by rw [← em]; exact List.mem_map_of_mem hr), gr⟩, by omega, D4.mono (by omega)⟩
  · have so := sortedD_ints ns
    have tl : tupleD [.list (rs.map encBR)] = some (.fz (.tuple (rs.map encBR))) := by simp
    have lc : X.lcS (.ok ((sortI ns).map PyData.int)) x2 c__law_book_2 = .ok (.fl (rs.map encBR), y2) := by
      have hz : rs.length ≤ 16777216 := by omega
      unfold X.lcS
      simp [e3, hz]
    unfold K47.g__law_book encBook
    generalize (sortI ns).map PyData.int = S at *
    generalize ns.map PyData.int = L at *
    generalize rs.map encBR = R at *
    simp [e1, hr, f1, e2, hb, so, lc, tl]
  · exact {
      pos := by rw [rl]; exact List.length_pos_of_mem ok.z
      len := by omega
      zero := fun x hx => sortI_head ok x.1 (by rw [← em, List.getElem?_map, hx]; rfl)
      up := List.pairwise_map.mp (by rw [em]; exact sortI_up ok)
      day := fun x hx => sortI_le ok x.1 (by rw [← em]; exact List.mem_map_of_mem hx)
      tab := fun r hr => (gr r hr).ok }
end PL.K47
end
section
set_option Elab.async false
set_option linter.all false
set_option maxRecDepth 100000
set_option maxHeartbeats 2000000
set_option autoImplicit false
/-! k47: a row cut in two. -/
namespace PL.K47
open PySem L2 PL Lib
theorem cut_ok {l : List BRow} {x : BRow} {r : List BRow} (b : BookOk (l ++ x :: r)) (hl : (l ++ x :: r).length ≤ 6) {d : Int} (h0 : x.1 < d) (h1 : d ≤ 1000000) (h : ∀ y, r[0]? = some y → d < y.1) : BookOk (l ++ x :: (d, x.2) :: r) := by
  have mem : ∀ y ∈ l ++ x :: (d, x.2) :: r, y ∈ l ++ x :: r ∨ y = (d, x.2) := fun y hy => by
    simp only [List.mem_append, List.mem_cons] at hy ⊢
    rcases hy with a | a | a | a
    · exact .inl (.inl a)
    · exact .inl (.inr (.inl a))
    · exact .inr a
    · exact .inl (.inr (.inr a))
  have up := b.up
  rw [List.pairwise_append, List.pairwise_cons] at up
  obtain ⟨u1, ⟨u2, u3⟩, u4⟩ := up
  have dx := b.day x (by simp)
  exact {
    pos := by simp; omega
    len := by simp at hl ⊢; omega
    zero := fun y hy => b.zero y (by
      cases l with
      | nil => exact hy
      | cons a l => exact hy)
    up := by
      rw [List.pairwise_append, List.pairwise_cons, List.pairwise_cons]
      refine ⟨u1, ⟨fun y hy => ?_, fun y hy => ?_, u3⟩, fun a ha c hc => ?_⟩
      · rcases List.mem_cons.mp hy with z | z
        · rw [z]; exact h0
        · exact u2 y z
      · show d < y.1
        cases r with
        | nil => cases hy
        | cons e r =>
          have hc := h e rfl
          rcases List.mem_cons.mp hy with z | z
          · rw [z]; exact hc
          · have := (List.pairwise_cons.mp u3).1 y z
            omega
      · have hx := u4 a ha x (by simp)
        rcases List.mem_cons.mp hc with z | z
        · rw [z]; exact hx
        · rcases List.mem_cons.mp z with z | z
          · rw [z]; show a.1 < d; omega
          · exact u4 a ha c (by simp [z])
    day := fun y hy => by
      rcases mem y hy with z | z
      · exact b.day y z
      · rw [z]
        show 0 ≤ d ∧ d ≤ 1000000
        omega
    tab := fun y hy => by
      rcases mem y hy with z | z
      · exact b.tab y z
      · rw [z]; exact b.tab x (by simp) }
end PL.K47
end
section
set_option Elab.async false
set_option linter.all false
set_option maxRecDepth 100000
set_option maxHeartbeats 2000000
set_option autoImplicit false
/-! k47: the law's cut. -/
namespace PL.K47
open PySem L2 PL Lib
theorem split_row {rs : List BRow} {k : Nat} (hk : k < rs.length) : ∃ l r, rs = l ++ rs[k] :: r ∧ rs.take (k + 1) = l ++ [rs[k]] ∧ rs.drop (k + 1) = r ∧ r[0]? = rs[k + 1]? := by
  refine ⟨rs.take k, rs.drop (k + 1), by simp, ?_, rfl, by simp⟩
  rw [List.take_add_one, List.getElem?_eq_getElem hk]
  rfl
theorem v_cut (bw : BW) {rs : List BRow} (b : BookOk rs) (hl : rs.length ≤ 6) {m : Nat} {xs : List D} (h : Dr m xs) (hm : m + 2 < 2 ^ 63) : ∃ (rs' : List BRow) (ys : List D), K47.g__law_cut [encBook bw rs, .list xs] = .ok (.fz (encBook bw rs'), ys) ∧ BookOk rs' ∧ Dr (m + 2) ys := by
  have hp := b.pos
  obtain ⟨k, x1, e1, k0, k1, D1⟩ := v_draw (n := (rs.length : Int)) h (by omega) (by omega) (by omega)
  obtain ⟨k, rfl⟩ := Int.eq_ofNat_of_zero_le k0
  have hk : k < rs.length := by omega
  have hx : rs[k]? = some rs[k] := List.getElem?_eq_getElem hk
  have ix : ixD (.tuple (rs.map encBR)) (.int (k : Int)) = some (.fz (encBR rs[k])) := ixD_tn (by rw [List.getElem?_map, hx]; rfl)
  have hlen : lenD [.tuple (rs.map encBR)] = some (.fz (.int (rs.length : Int))) := by simp
  have dx := b.day _ (List.getElem_mem hk)
  obtain ⟨l, r, hs, htk, hdr, hr0⟩ := split_row hk
  have lr : rs.length = l.length + (r.length + 1) := by
    have := congrArg List.length hs
    simpa using this
  obtain ⟨E, hE1, hE2, hE3, hE4⟩ : ∃ E : Int, E ≤ 1000001 ∧ (∀ y, r[0]? = some y → y.1 = E) ∧ rs[k].1 < E ∧ ((∃ c : k + 1 < rs.length, E = rs[k + 1].1) ∨ (¬ k + 1 < rs.length ∧ E = 1000001)) := by
    by_cases c : k + 1 < rs.length
    · have d1 := b.day _ (List.getElem_mem c)
      refine ⟨rs[k + 1].1, by omega, fun y hy => ?_, ?_, .inl ⟨c, rfl⟩⟩
      · rw [hr0, List.getElem?_eq_getElem c] at hy
        rw [← Option.some.inj hy]
      · exact List.pairwise_iff_getElem.mp b.up k (k + 1) hk c (by omega)
    · refine ⟨1000001, by omega, fun y hy => ?_, by omega, .inr ⟨c, rfl⟩⟩
      rw [hr0, List.getElem?_eq_none (by omega)] at hy
      cases hy
  obtain ⟨d, x2, e2, d0, d1, D2⟩ := v_draw (n := max 1 (E - rs[k].1 - 1)) D1 (by omega) (by omega) (by omega)
  have slA := slD_take (xs := rs.map encBR) (n := k + 1) (by rw [List.length_map]; omega)
  have slB := slD_drop (xs := rs.map encBR) (n := k + 1) (by rw [List.length_map]; omega)
  rw [show ((k + 1 : Nat) : Int) = (k : Int) + 1 from rfl] at slA slB
  rw [← List.map_take, htk] at slA
  rw [← List.map_drop, hdr] at slB
  have ad1 := addD_tt ((l ++ [rs[k]]).map encBR) [encBR (rs[k].1 + 1 + d, rs[k].2)] (by rw [List.length_map]; simp; omega)
  have ad2 := addD_tt ((l ++ [rs[k]]).map encBR ++ [encBR (rs[k].1 + 1 + d, rs[k].2)]) (r.map encBR) (by simp; omega)
  have hM : (l ++ [rs[k]]).map encBR ++ [encBR (rs[k].1 + 1 + d, rs[k].2)] ++ r.map encBR = (l ++ rs[k] :: (rs[k].1 + 1 + d, rs[k].2) :: r).map encBR := by simp
  rw [hM] at ad2
  have i0 := ix_r0 rs[k]
  have i1 := ix_r1 rs[k]
  have en : PyData.tuple [.int (rs[k].1 + 1 + d), encTab rs[k].2] = encBR (rs[k].1 + 1 + d, rs[k].2) := rfl
  have nxt : (k + 1 < rs.length ∧ ∃ Y : D, ixD (.tuple (rs.map encBR)) (.int ((k : Int) + 1)) = some (.fz Y) ∧ ixD Y (.int 0) = some (.fz (.int E))) ∨ (¬ k + 1 < rs.length ∧ E = 1000001) := by
    rcases hE4 with ⟨c, rfl⟩ | q
    · have q : ixD (.tuple (rs.map encBR)) (.int ((k + 1 : Nat) : Int)) = some (.fz (encBR rs[k + 1])) := ixD_tn (by rw [List.getElem?_map, List.getElem?_eq_getElem c]; rfl)
      exact .inl ⟨c, _, q, ix_r0 _⟩
    · exact .inr q
  by_cases ge : E ≤ rs[k].1 + 1 + d
  · refine ⟨rs, x2, ?_, b, D2.mono (by omega)⟩
    unfold K47.g__law_cut encBook
    rcases nxt with ⟨c, Y, q1, q2⟩ | ⟨c, rfl⟩
    · have c' : (k : Int) + 1 < rs.length := by omega
      generalize encBR rs[k] = Z at *
      generalize PyData.tuple (rs.map encBR) = T at *
      simp [hlen, e1, c', q1, q2, ix, i0, e2, ge]
    · have c' : ¬ (k : Int) + 1 < rs.length := by omega
      generalize encBR rs[k] = Z at *
      generalize PyData.tuple (rs.map encBR) = T at *
      simp [hlen, e1, c', ix, i0, e2, ge]
  · refine ⟨l ++ rs[k] :: (rs[k].1 + 1 + d, rs[k].2) :: r, x2, ?_, cut_ok (by rw [← hs]; exact b) (by rw [← hs]; exact hl) (by omega) (by omega) (fun y hy => by have := hE2 y hy; omega), D2.mono (by omega)⟩
    unfold K47.g__law_cut encBook
    generalize hA : (l ++ [rs[k]]).map encBR = A at *
    generalize (l ++ rs[k] :: (rs[k].1 + 1 + d, rs[k].2) :: r).map encBR = M at *
    rcases nxt with ⟨c, Y, q1, q2⟩ | ⟨c, rfl⟩
    · have c' : (k : Int) + 1 < rs.length := by omega
      generalize encBR (rs[k].1 + 1 + d, rs[k].2) = N at *
      generalize encBR rs[k] = Z at *
      generalize r.map encBR = B at *
      generalize encTab rs[k].2 = TT at *
      generalize PyData.tuple (rs.map encBR) = T at *
      simp [hlen, e1, c', q1, q2, ix, i0, i1, e2, ge, slA, slB, en, ad1, ad2]
    · have c' : ¬ (k : Int) + 1 < rs.length := by omega
      generalize encBR (rs[k].1 + 1 + d, rs[k].2) = N at *
      generalize encBR rs[k] = Z at *
      generalize r.map encBR = B at *
      generalize encTab rs[k].2 = TT at *
      generalize PyData.tuple (rs.map encBR) = T at *
      simp [hlen, e1, c', ix, i0, i1, e2, ge, slA, slB, en, ad1, ad2]
end PL.K47
end
section
set_option Elab.async false
set_option linter.all false
set_option maxRecDepth 100000
set_option maxHeartbeats 2000000
set_option autoImplicit false
/-! k47: filings that are asked, the law's turn, the law. -/
namespace PL.K47
open PySem L2 PL Lib
def names7 : List D := [.str "appeal", .str "claim", .str "copy", .str "hear", .str "stay", .str "z", .str "none"]
theorem pick_name {v : Int} (h0 : 0 ≤ v) (h1 : v < 7) : ∃ s : Str, ixD (.list [.str "appeal", .str "claim", .str "copy", .str "hear", .str "stay", .str "z", .str "none"]) (.int v) = some (.fz (.str s)) := by
  obtain ⟨d, hd, e⟩ := pick (ds := names7) h0 (by simpa [names7] using h1)
  simp only [names7, List.mem_cons, List.not_mem_nil, or_false] at hd
  rcases hd with rfl | rfl | rfl | rfl | rfl | rfl | rfl <;> exact ⟨_, e⟩
theorem pick_size {v : Int} (h0 : 0 ≤ v) (h1 : v < 2) : ∃ n : Int, ixD (.list [.int 300, .int 1000000000001]) (.int v) = some (.fz (.int n)) ∧ 0 < n ∧ n ≤ 1000000000001 := by
  obtain ⟨d, hd, e⟩ := pick (ds := [.int 300, .int 1000000000001]) h0 (by simpa using h1)
  simp only [List.mem_cons, List.not_mem_nil, or_false] at hd
  rcases hd with rfl | rfl <;> exact ⟨_, e, by decide, by decide⟩
theorem pick_day {es : List Int} (hd : ∀ d ∈ es, 0 ≤ d ∧ d ≤ 1000000) {v : Int} (h0 : 0 ≤ v) (h1 : v < es.length) : ∃ n : Int, ixD (.list (es.map PyData.int)) (.int v) = some (.fz (.int n)) ∧ 0 ≤ n ∧ n ≤ 1000000 := by
  obtain ⟨d, hm, e⟩ := pick (ds := es.map PyData.int) h0 (by rw [List.length_map]; exact h1)
  obtain ⟨n, hn, rfl⟩ := List.mem_map.mp hm
  exact ⟨n, e, hd n hn⟩
theorem asked_loop (bw : BW) {rs rs' : List BRow} (b : BookOk rs) (b' : BookOk rs') (name : Str) {v x y : Int} (x0 : 0 ≤ x) (y0 : 0 ≤ y) (v0 : 0 ≤ v) (v1 : v ≤ 1000000000000) :
    (X.forF (b_law_2 (.fz (.str name)) (.fz (.int v)) (.int x) (.int y)) [encBook bw rs, encBook bw rs'] () : X (Fl Unit (List D) O)) = .ok (.nx ()) := X.forF_skip () _ fun d hd => by
  have q : K47.g__law_asked [d, .str name, .int v, .int x, .int y] = .ok (.fz (.bool true)) := by
    rcases List.mem_cons.mp hd with rfl | hd
    · exact v_asked bw b name x0 y0 v0 v1
    · rcases List.mem_singleton.mp hd with rfl
      exact v_asked bw b' name x0 y0 v0 v1
  unfold b_law_2
  simp [q]
theorem filing_turn (bw : BW) {rs rs' : List BRow} (b : BookOk rs) (b' : BookOk rs') {es : List Int} (he : 0 < es.length) (he1 : es.length ≤ 1000) (hd : ∀ d ∈ es, 0 ≤ d ∧ d ≤ 1000000) {m : Nat} {xs : List D} (h : Dr m xs) (hm : m + 6 < 2 ^ 63) (k : D) :
    ∃ ys : List D, b_law_3 (.list (es.map PyData.int)) (.fz (encBook bw rs)) (.fz (encBook bw rs')) k xs = .ok (.nx ys) ∧ Dr (m + 6) ys := by
  obtain ⟨a, x1, e1, a0, a1, D1⟩ := v_draw (n := 7) h (by omega) (by decide) (by decide)
  obtain ⟨name, hn⟩ := pick_name a0 a1
  obtain ⟨s, x2, e2, s0, s1, D2⟩ := v_draw (n := 2) D1 (by omega) (by decide) (by decide)
  obtain ⟨n, hs, n0, n1⟩ := pick_size s0 s1
  obtain ⟨v, x3, e3, v0, v1, D3⟩ := v_draw (n := n) D2 (by omega) n0 (by omega)
  obtain ⟨p, x4, e4, p0, p1, D4⟩ := v_draw (n := (es.length : Int)) D3 (by omega) (by omega) (by omega)
  obtain ⟨x, hx, xx0, xx1⟩ := pick_day hd p0 p1
  obtain ⟨q, x5, e5, q0, q1, D5⟩ := v_draw (n := (es.length : Int)) D4 (by omega) (by omega) (by omega)
  obtain ⟨y, hy, y0, y1⟩ := pick_day hd q0 q1
  obtain ⟨c, x6, e6, c0, c1, D6⟩ := v_draw (n := 4) D5 (by omega) (by decide) (by decide)
  refine ⟨x6, ?_, D6⟩
  have hlen : lenD [.list (es.map PyData.int)] = some (.fz (.int (es.length : Int))) := by simp
  have p12 : powD (.int 10) (.int 12) = some (.fz (.int 1000000000000)) := by kernel_rfl
  have al := asked_loop bw b b' name (v := v) (x := x) (y := y) xx0 y0 v0 (by omega)
  have al2 := asked_loop bw b b' name (v := v) (x := min x y) (y := max x y) (by omega) (by omega) v0 (by omega)
  unfold b_law_3
  generalize es.map PyData.int = L at *
  generalize encBook bw rs = B1 at *
  generalize encBook bw rs' = B2 at *
  by_cases cc : 0 < c
  · simp [e1, hn, p12, e2, hs, e3, hlen, e4, hx, e5, hy, e6, cc, al2]
  · simp [e1, hn, p12, e2, hs, e3, hlen, e4, hx, e5, hy, e6, cc, al]
theorem law_turn {m : Nat} {xs : List D} (h : Dr m xs) (hm : m + 1100 < 2 ^ 63) (k : D) : ∃ ys : List D, b_law_4 k xs = .ok (.nx ys) ∧ Dr (m + 1100) ys := by
  obtain ⟨bw, rs, x1, e1, b, g, hl, D1⟩ := v_book_draw h (by omega)
  have isb := v_book bw b g
  have wr : K47.g__law_wrong [encBook bw rs] = .ok (.fz (.bool true)) := by
    have hne : rs ≠ [] := fun e => by have := b.pos; rw [e] at this; simp at this
    obtain ⟨hs, x, e⟩ : ∃ hs x, rs = hs ++ [x] := ⟨rs.dropLast, rs.getLast hne, (List.dropLast_concat_getLast hne).symm⟩
    rw [e] at b g hl ⊢
    exact v_wrong bw b g (by simp at hl; omega)
  obtain ⟨rs', x2, e2, b', D2⟩ := v_cut bw b hl D1 (by omega)
  obtain ⟨v, x3, e3, v0, v1, D3⟩ := v_draw (n := 1000001) D2 (by omega) (by decide) (by decide)
  obtain ⟨w, x4, e4, w0, w1, D4⟩ := v_draw (n := 12) D3 (by omega) (by decide) (by decide)
  obtain ⟨es, e5, hd, l0, l1⟩ := days_loop rs b.day rs [0, 1000000, v, w] (fun _ h => h) (fun d hd => by
    simp only [List.mem_cons, List.not_mem_nil, or_false] at hd
    rcases hd with rfl | rfl | rfl | rfl <;> omega) (by simp; omega)
  simp only [List.map_cons, List.map_nil] at e5
  have hr : X.rng1 (.int 8) = .ok (rngI 0 8) := rng1_of (by decide) (by decide)
  have hn := rngI_len (v := 8) (by decide)
  have i1 : ixD (encBook bw rs) (.int 1) = some (.fz (.tuple (rs.map encBR))) := rfl
  generalize rngI 0 8 = ds at *
  obtain ⟨s1, f1, D5⟩ := X.forF_inv (B := List D) (T := O) (body := b_law_3 (.list (es.map PyData.int)) (.fz (encBook bw rs)) (.fz (encBook bw rs'))) (fun i s => i ≤ ds.length → Dr (m + 1000 + 2 + 1 + 1 + 6 * i) s) ds 0 x4 (fun _ => D4) (fun i d s hdd hI => by
    obtain ⟨hi, _⟩ := List.getElem?_eq_some_iff.mp hdd
    obtain ⟨ys, q1, q2⟩ := filing_turn bw b b' (by simp at l0; omega) l1 hd (hI (by omega)) (by omega) d
    exact ⟨ys, q1, fun _ => q2.mono (by omega)⟩)
  refine ⟨s1, ?_, (D5 (by omega)).mono (by omega)⟩
  have it : isNotD (.bool true) (.bool true) = some (.fz (.bool false)) := rfl
  unfold b_law_4
  generalize es.map PyData.int = L at *
  generalize rs.map encBR = RS at *
  generalize encBook bw rs = B1 at *
  generalize encBook bw rs' = B2 at *
  simp [e1, isb, it, wr, e2, e3, e4, i1, e5, hr, f1]
theorem plain : Plain sem_law := plain_of z_law fun ns hl hb => by
  obtain ⟨xs, e, D⟩ := Dw.v_open ns hl
  rw [← e_open] at e
  obtain ⟨n, x1, e1, n0, n1, D1⟩ := v_draw (n := 3) D (by decide) (by decide) (by decide)
  have hr : X.rng1 (.int (1 + n)) = .ok (rngI 0 (1 + n)) := rng1_of (by omega) (by omega)
  have hn := rngI_len (v := 1 + n) (by omega)
  generalize rngI 0 (1 + n) = ds at *
  obtain ⟨s1, f1, D2⟩ := X.forF_inv (B := Unit) (T := O) (body := b_law_4) (fun i s => i ≤ ds.length → Dr (1 + 1100 * i) s) ds 0 x1 (fun _ => D1.mono (by omega)) (fun i d s hd hI => by
    obtain ⟨hi, _⟩ := List.getElem?_eq_some_iff.mp hd
    obtain ⟨ys, q1, q2⟩ := law_turn (hI (by omega)) (by omega) d
    exact ⟨ys, q1, fun _ => q2.mono (by omega)⟩)
  unfold g_law
  rw [X.pS_c, X.p0_n]
  simp [e, e1, hr, f1]
end PL.K47
end
section
set_option Elab.async false
set_option linter.all false
set_option maxRecDepth 100000
set_option maxHeartbeats 0
set_option autoImplicit false
namespace PL.K47
open PySem PySem.Spec PyProof.Rows L2 PL
def dd_is_number : He.DefD := ⟨("is_number", none), "is_number", "is_number", defArgs s_is_number, defBody s_is_number, defScope s_is_number, [], []⟩
def dd_is_name : He.DefD := ⟨("is_name", none), "is_name", "is_name", defArgs s_is_name, defBody s_is_name, defScope s_is_name, [], []⟩
def dd_is_fraction : He.DefD := ⟨("is_fraction", none), "is_fraction", "is_fraction", defArgs s_is_fraction, defBody s_is_fraction, defScope s_is_fraction, [], []⟩
def dd_lowest : He.DefD := ⟨("lowest", none), "lowest", "lowest", defArgs s_lowest, defBody s_lowest, defScope s_lowest, [], []⟩
def dd_times : He.DefD := ⟨("times", none), "times", "times", defArgs s_times, defBody s_times, defScope s_times, [], []⟩
def dd_rounded : He.DefD := ⟨("rounded", none), "rounded", "rounded", defArgs s_rounded, defBody s_rounded, defScope s_rounded, [], []⟩
def dd_is_money : He.DefD := ⟨("is_money", none), "is_money", "is_money", defArgs s_is_money, defBody s_is_money, defScope s_is_money, [], []⟩
def dd_is_rate : He.DefD := ⟨("is_rate", none), "is_rate", "is_rate", defArgs s_is_rate, defBody s_is_rate, defScope s_is_rate, [], []⟩
def dd_is_step : He.DefD := ⟨("is_step", none), "is_step", "is_step", defArgs s_is_step, defBody s_is_step, defScope s_is_step, [], []⟩
def dd_is_tariff : He.DefD := ⟨("is_tariff", none), "is_tariff", "is_tariff", defArgs s_is_tariff, defBody s_is_tariff, defScope s_is_tariff, [], []⟩
def dd_is_table : He.DefD := ⟨("is_table", none), "is_table", "is_table", defArgs s_is_table, defBody s_is_table, defScope s_is_table, [], []⟩
def dd_is_row : He.DefD := ⟨("is_row", none), "is_row", "is_row", defArgs s_is_row, defBody s_is_row, defScope s_is_row, [], []⟩
def dd_is_fee_book : He.DefD := ⟨("is_fee_book", none), "is_fee_book", "is_fee_book", defArgs s_is_fee_book, defBody s_is_fee_book, defScope s_is_fee_book, [], []⟩
def dd_fee_in : He.DefD := ⟨("fee_in", none), "fee_in", "fee_in", defArgs s_fee_in, defBody s_fee_in, defScope s_fee_in, [], []⟩
def dd_fee_of : He.DefD := ⟨("fee_of", none), "fee_of", "fee_of", defArgs s_fee_of, defBody s_fee_of, defScope s_fee_of, [], []⟩
def dd_tariff_on : He.DefD := ⟨("tariff_on", none), "tariff_on", "tariff_on", defArgs s_tariff_on, defBody s_tariff_on, defScope s_tariff_on, [], []⟩
def dd_fee_due : He.DefD := ⟨("fee_due", none), "fee_due", "fee_due", defArgs s_fee_due, defBody s_fee_due, defScope s_fee_due, [], []⟩
def dd__law_open : He.DefD := ⟨("_law_open", none), "_law_open", "_law_open", defArgs s__law_open, defBody s__law_open, defScope s__law_open, [], []⟩
def dd__law_mixed : He.DefD := ⟨("_law_mixed", none), "_law_mixed", "_law_mixed", defArgs s__law_mixed, defBody s__law_mixed, defScope s__law_mixed, [], []⟩
def dd__law_draw : He.DefD := ⟨("_law_draw", none), "_law_draw", "_law_draw", defArgs s__law_draw, defBody s__law_draw, defScope s__law_draw, [], []⟩
def dd__law_told : He.DefD := ⟨("_law_told", none), "_law_told", "_law_told", defArgs s__law_told, defBody s__law_told, defScope s__law_told, [], []⟩
def dd__law_int : He.DefD := ⟨("_law_int", none), "_law_int", "_law_int", defArgs s__law_int, defBody s__law_int, defScope s__law_int, [], []⟩
def dd__law_table : He.DefD := ⟨("_law_table", none), "_law_table", "_law_table", defArgs s__law_table, defBody s__law_table, defScope s__law_table, [], []⟩
def dd__law_book : He.DefD := ⟨("_law_book", none), "_law_book", "_law_book", defArgs s__law_book, defBody s__law_book, defScope s__law_book, [], []⟩
def dd__law_fee : He.DefD := ⟨("_law_fee", none), "_law_fee", "_law_fee", defArgs s__law_fee, defBody s__law_fee, defScope s__law_fee, [], []⟩
def dd__law_fees : He.DefD := ⟨("_law_fees", none), "_law_fees", "_law_fees", defArgs s__law_fees, defBody s__law_fees, defScope s__law_fees, [], []⟩
def dd__law_due : He.DefD := ⟨("_law_due", none), "_law_due", "_law_due", defArgs s__law_due, defBody s__law_due, defScope s__law_due, [], []⟩
def dd__law_asked : He.DefD := ⟨("_law_asked", none), "_law_asked", "_law_asked", defArgs s__law_asked, defBody s__law_asked, defScope s__law_asked, [], []⟩
def dd__law_cut : He.DefD := ⟨("_law_cut", none), "_law_cut", "_law_cut", defArgs s__law_cut, defBody s__law_cut, defScope s__law_cut, [], []⟩
def dd__law_wrong : He.DefD := ⟨("_law_wrong", none), "_law_wrong", "_law_wrong", defArgs s__law_wrong, defBody s__law_wrong, defScope s__law_wrong, [], []⟩
def dd_law : He.DefD := ⟨("law", none), "law", "law", defArgs s_law, defBody s_law, defScope s_law, [], []⟩
def fn : List He.DefD := [dd_is_number, dd_is_name, dd_is_fraction, dd_lowest, dd_times, dd_rounded, dd_is_money, dd_is_rate, dd_is_step, dd_is_tariff, dd_is_table, dd_is_row, dd_is_fee_book, dd_fee_in, dd_fee_of, dd_tariff_on, dd_fee_due, dd__law_open, dd__law_mixed, dd__law_draw, dd__law_told, dd__law_int, dd__law_table, dd__law_book, dd__law_fee, dd__law_fees, dd__law_due, dd__law_asked, dd__law_cut, dd__law_wrong, dd_law]
def fa : List He.Fa := [.glo "is_number", .glo "is_name", .glo "is_fraction", .glo "lowest", .glo "times", .glo "rounded", .glo "is_money", .glo "is_rate", .glo "is_step", .glo "is_tariff", .glo "is_table", .glo "is_row", .glo "is_fee_book", .glo "fee_in", .glo "fee_of", .glo "tariff_on", .glo "fee_due", .glo "_law_open", .glo "_law_mixed", .glo "_law_draw", .glo "_law_told", .glo "_law_int", .glo "_law_table", .glo "_law_book", .glo "_law_fee", .glo "_law_fees", .glo "_law_due", .glo "_law_asked", .glo "_law_cut", .glo "_law_wrong", .glo "law", .free "abs", .free "all", .free "bool", .free "int", .free "isinstance", .free "len", .free "list", .free "max", .free "min", .free "range", .free "sorted", .free "str", .free "tuple", .int "LAST" 1000000, .int "LIMIT" 1000000000000000000000000000000000000000000000000000000000000, .int "MOST_MONEY" 1000000000000, .int "MOST_WHOLE" 10000, .glo "NotThere", .exc "NotThere", .glo "Refused", .exc "Refused", .glo "DocketError", .glo "Malformed", .glo "OutOfRange", .glo "TooMuch", .exm "NotThere" "DocketError" true, .exm "Refused" "DocketError" true, .free "ValueError"]
def tf : List He.Defn := [("is_name", none), ("is_tariff", none), ("is_table", none), ("is_fee_book", none)]
def exs (K : PySem.W.Frag) : Bool := [glB' K "BOOK_WAYS" d_BOOK_WAYS, glB' K "WAYS" d_WAYS, isEB K (.ref (He.ga K "Malformed")) [("NotThere", false), ("Refused", false)], isEB K (.ref (He.ga K "NotThere")) [("NotThere", true), ("Refused", false)], isEB K (.ref (He.ga K "OutOfRange")) [("NotThere", false), ("Refused", false)], isEB K (.ref (He.ga K "Refused")) [("NotThere", false), ("Refused", true)], isEB K (.ref (He.ga K "TooMuch")) [("NotThere", false), ("Refused", false)], isEB K (.type "ValueError") [("NotThere", true), ("Refused", true)], glV' K "gcd" (.builtin "math.gcd")].all fun b => b
/-- the state of the layer behind the head -/
def mkG (P : Program) (w : World) (K : PySem.W.Frag) (mg : Str → Option Value) (base : Heap) : GG := ⟨P, w, K, mg, base, tf.map fun p => (He.cT K p).2, He.ga K, none⟩
theorem fr {P : Program} {w : World} {K : PySem.W.Frag} {mg : Str → Option Value} {base h : Heap} (X : K.In h) (N : h.Ns mainGlobals mg) (c : He.SaysD fa fn K) (e : exs K = true) : Fr (mkG P w K mg base) := by
  have e := List.all_eq_true.mp e
  have F : ∀ (i : Nat) (f : He.Fa), fa[i]? = some f → f.ok K = true := fun i f q => c.fact i q
  exact { f_abs := He.free_ok X N (F 31 _ rfl)
          f_all := He.free_ok X N (F 32 _ rfl)
          f_bool := He.free_ok X N (F 33 _ rfl)
          f_int := He.free_ok X N (F 34 _ rfl)
          f_isinstance := He.free_ok X N (F 35 _ rfl)
          f_len := He.free_ok X N (F 36 _ rfl)
          f_list := He.free_ok X N (F 37 _ rfl)
          f_max := He.free_ok X N (F 38 _ rfl)
          f_min := He.free_ok X N (F 39 _ rfl)
          f_range := He.free_ok X N (F 40 _ rfl)
          f_sorted := He.free_ok X N (F 41 _ rfl)
          f_str := He.free_ok X N (F 42 _ rfl)
          f_tuple := He.free_ok X N (F 43 _ rfl)
          c_BOOK_WAYS := glB'_ok (G := mkG P w K mg base) X N (e _ (List.mem_of_getElem? (i := 0) rfl))
          c_LAST := He.int_ok X N (F 44 _ rfl)
          c_LIMIT := He.int_ok X N (F 45 _ rfl)
          c_MOST_MONEY := He.int_ok X N (F 46 _ rfl)
          c_MOST_WHOLE := He.int_ok X N (F 47 _ rfl)
          c_WAYS := glB'_ok (G := mkG P w K mg base) X N (e _ (List.mem_of_getElem? (i := 1) rfl))
          e_NotThere := excD_of (G := mkG P w K mg base) X N rfl (F 49 _ rfl) (F 48 _ rfl)
          e_Refused := excD_of (G := mkG P w K mg base) X N rfl (F 51 _ rfl) (F 50 _ rfl)
          m_DocketError := He.glo_ok X N (F 52 _ rfl)
          x_DocketError := (List.forall_mem_cons.mpr ⟨He.exm_ok (F 56 _ rfl), (List.forall_mem_cons.mpr ⟨He.exm_ok (F 57 _ rfl), (fun _ h => nomatch h)⟩)⟩)
          i_Malformed := isE_own (G := mkG P w K mg base) rfl (He.glo_ok X N (F 53 _ rfl)) (e _ (List.mem_of_getElem? (i := 2) rfl))
          i_NotThere := isE_own (G := mkG P w K mg base) rfl (He.glo_ok X N (F 48 _ rfl)) (e _ (List.mem_of_getElem? (i := 3) rfl))
          i_OutOfRange := isE_own (G := mkG P w K mg base) rfl (He.glo_ok X N (F 54 _ rfl)) (e _ (List.mem_of_getElem? (i := 4) rfl))
          i_Refused := isE_own (G := mkG P w K mg base) rfl (He.glo_ok X N (F 50 _ rfl)) (e _ (List.mem_of_getElem? (i := 5) rfl))
          i_TooMuch := isE_own (G := mkG P w K mg base) rfl (He.glo_ok X N (F 55 _ rfl)) (e _ (List.mem_of_getElem? (i := 6) rfl))
          i_ValueError := isE_blt (G := mkG P w K mg base) rfl (He.free_ok X N (F 58 _ rfl)) (by decide +kernel) (by decide +kernel) (e _ (List.mem_of_getElem? (i := 7) rfl))
          g_gcd := glV'_ok (G := mkG P w K mg base) X N (e _ (List.mem_of_getElem? (i := 8) rfl)) }
theorem all_ok {P : Program} {w : World} {K : PySem.W.Frag} {mg : Str → Option Value} {base : Heap} {f : Addr} {fd : FuncData} (X : K.In base) (N : base.Ns mainGlobals mg) (c : He.SaysD fa fn K) (e : exs K = true) (TB : ∀ p ∈ tf.map (He.cT K), GxR.TabB base mg p.1 p.2)
    (hf : mg "law" = some (.ref f)) (F : FunD K "law" "law" (defArgs s_law) (defBody s_law) (defScope s_law) [] [] f fd) : DefOk (mkG P w K mg base) 11 f fd ["script"] [.sc] sem_law := by
  have t : Fr (mkG P w K mg base) := fr X N c e
  obtain ⟨fd_is_number, F_is_number⟩ := c.def_ 0 (d := dd_is_number) rfl
  have g_is_number : (mkG P w K mg base).mg "is_number" = some (.ref (He.fAd K (dd_is_number).at_)) := He.glo_ok X N (c.fact 0 (f := .glo "is_number") rfl)
  have b_is_number : Binds K fd_is_number ["value", "least", "most"] [] := FunD.bindsN F_is_number fun _ _ _ _ _ _ us hl => match us, hl with | [_, _, _], _ => rfl
  have h_is_number : DefAt (mkG P w K mg base) "is_number" 1 3 [.d, .d, .d] sem_is_number := def_at F_is_number g_is_number sc_is_number rfl b_is_number (ok_is_number t )
  obtain ⟨fd_is_name, F_is_name⟩ := c.def_ 1 (d := dd_is_name) rfl
  have g_is_name : (mkG P w K mg base).mg "is_name" = some (.ref (He.fAd K (dd_is_name).at_)) := He.glo_ok X N (c.fact 1 (f := .glo "is_name") rfl)
  have b_is_name : Binds K fd_is_name ["value"] [] := FunD.bindsN F_is_name fun _ _ _ _ _ _ us hl => match us, hl with | [_], _ => rfl
  have h_is_name : DefAt (mkG P w K mg base) "is_name" 2 2 [.d] sem_is_name := by
    obtain ⟨cc, hcc⟩ := code_ref F_is_name
    have hm : (("is_name", none) : He.Defn) ∈ tf := List.mem_of_getElem? (i := 0) rfl
    have e1 : (He.cT K ("is_name", none)).1 = cc := code_eq F_is_name rfl hcc
    exact def_atT (G := mkG P w K mg base) F_is_name g_is_name (c := (He.cT K ("is_name", none)).1) (P := (He.cT K ("is_name", none)).2) (by rw [e1]; exact hcc) (TB _ (List.mem_map.mpr ⟨_, hm, rfl⟩)) (List.mem_map.mpr ⟨_, hm, rfl⟩) sc_is_name rfl b_is_name (ok_is_name t )
  obtain ⟨fd_is_fraction, F_is_fraction⟩ := c.def_ 2 (d := dd_is_fraction) rfl
  have g_is_fraction : (mkG P w K mg base).mg "is_fraction" = some (.ref (He.fAd K (dd_is_fraction).at_)) := He.glo_ok X N (c.fact 2 (f := .glo "is_fraction") rfl)
  have b_is_fraction : Binds K fd_is_fraction ["value"] [] := FunD.bindsN F_is_fraction fun _ _ _ _ _ _ us hl => match us, hl with | [_], _ => rfl
  have h_is_fraction : DefAt (mkG P w K mg base) "is_fraction" 1 4 [.d] sem_is_fraction := def_at F_is_fraction g_is_fraction sc_is_fraction rfl b_is_fraction (ok_is_fraction t )
  obtain ⟨fd_lowest, F_lowest⟩ := c.def_ 3 (d := dd_lowest) rfl
  have g_lowest : (mkG P w K mg base).mg "lowest" = some (.ref (He.fAd K (dd_lowest).at_)) := He.glo_ok X N (c.fact 3 (f := .glo "lowest") rfl)
  have b_lowest : Binds K fd_lowest ["part", "whole"] [] := FunD.bindsN F_lowest fun _ _ _ _ _ _ us hl => match us, hl with | [_, _], _ => rfl
  have h_lowest : DefAt (mkG P w K mg base) "lowest" 1 3 [.d, .d] sem_lowest := def_at F_lowest g_lowest sc_lowest rfl b_lowest (ok_lowest t )
  obtain ⟨fd_times, F_times⟩ := c.def_ 4 (d := dd_times) rfl
  have g_times : (mkG P w K mg base).mg "times" = some (.ref (He.fAd K (dd_times).at_)) := He.glo_ok X N (c.fact 4 (f := .glo "times") rfl)
  have b_times : Binds K fd_times ["one", "other"] [] := FunD.bindsN F_times fun _ _ _ _ _ _ us hl => match us, hl with | [_, _], _ => rfl
  have h_times : DefAt (mkG P w K mg base) "times" 2 2 [.d, .d] sem_times := def_at F_times g_times sc_times rfl b_times (ok_times t h_lowest)
  obtain ⟨fd_rounded, F_rounded⟩ := c.def_ 5 (d := dd_rounded) rfl
  have g_rounded : (mkG P w K mg base).mg "rounded" = some (.ref (He.fAd K (dd_rounded).at_)) := He.glo_ok X N (c.fact 5 (f := .glo "rounded") rfl)
  have b_rounded : Binds K fd_rounded ["fraction", "way"] [] := FunD.bindsN F_rounded fun _ _ _ _ _ _ us hl => match us, hl with | [_, _], _ => rfl
  have h_rounded : DefAt (mkG P w K mg base) "rounded" 1 6 [.d, .d] sem_rounded := def_at F_rounded g_rounded sc_rounded rfl b_rounded (ok_rounded t )
  obtain ⟨fd_is_money, F_is_money⟩ := c.def_ 6 (d := dd_is_money) rfl
  have g_is_money : (mkG P w K mg base).mg "is_money" = some (.ref (He.fAd K (dd_is_money).at_)) := He.glo_ok X N (c.fact 6 (f := .glo "is_money") rfl)
  have b_is_money : Binds K fd_is_money ["value"] [] := FunD.bindsN F_is_money fun _ _ _ _ _ _ us hl => match us, hl with | [_], _ => rfl
  have h_is_money : DefAt (mkG P w K mg base) "is_money" 2 1 [.d] sem_is_money := def_at F_is_money g_is_money sc_is_money rfl b_is_money (ok_is_money t h_is_number)
  obtain ⟨fd_is_rate, F_is_rate⟩ := c.def_ 7 (d := dd_is_rate) rfl
  have g_is_rate : (mkG P w K mg base).mg "is_rate" = some (.ref (He.fAd K (dd_is_rate).at_)) := He.glo_ok X N (c.fact 7 (f := .glo "is_rate") rfl)
  have b_is_rate : Binds K fd_is_rate ["value"] [] := FunD.bindsN F_is_rate fun _ _ _ _ _ _ us hl => match us, hl with | [_], _ => rfl
  have h_is_rate : DefAt (mkG P w K mg base) "is_rate" 2 1 [.d] sem_is_rate := def_at F_is_rate g_is_rate sc_is_rate rfl b_is_rate (ok_is_rate t h_is_fraction)
  obtain ⟨fd_is_step, F_is_step⟩ := c.def_ 8 (d := dd_is_step) rfl
  have g_is_step : (mkG P w K mg base).mg "is_step" = some (.ref (He.fAd K (dd_is_step).at_)) := He.glo_ok X N (c.fact 8 (f := .glo "is_step") rfl)
  have b_is_step : Binds K fd_is_step ["value"] [] := FunD.bindsN F_is_step fun _ _ _ _ _ _ us hl => match us, hl with | [_], _ => rfl
  have h_is_step : DefAt (mkG P w K mg base) "is_step" 3 1 [.d] sem_is_step := def_at F_is_step g_is_step sc_is_step rfl b_is_step (ok_is_step t h_is_money h_is_rate)
  obtain ⟨fd_is_tariff, F_is_tariff⟩ := c.def_ 9 (d := dd_is_tariff) rfl
  have g_is_tariff : (mkG P w K mg base).mg "is_tariff" = some (.ref (He.fAd K (dd_is_tariff).at_)) := He.glo_ok X N (c.fact 9 (f := .glo "is_tariff") rfl)
  have b_is_tariff : Binds K fd_is_tariff ["value"] [] := FunD.bindsN F_is_tariff fun _ _ _ _ _ _ us hl => match us, hl with | [_], _ => rfl
  have h_is_tariff : DefAt (mkG P w K mg base) "is_tariff" 5 5 [.d] sem_is_tariff := by
    obtain ⟨cc, hcc⟩ := code_ref F_is_tariff
    have hm : (("is_tariff", none) : He.Defn) ∈ tf := List.mem_of_getElem? (i := 1) rfl
    have e1 : (He.cT K ("is_tariff", none)).1 = cc := code_eq F_is_tariff rfl hcc
    exact def_atT (G := mkG P w K mg base) F_is_tariff g_is_tariff (c := (He.cT K ("is_tariff", none)).1) (P := (He.cT K ("is_tariff", none)).2) (by rw [e1]; exact hcc) (TB _ (List.mem_map.mpr ⟨_, hm, rfl⟩)) (List.mem_map.mpr ⟨_, hm, rfl⟩) sc_is_tariff rfl b_is_tariff (ok_is_tariff t h_is_step)
  obtain ⟨fd_is_table, F_is_table⟩ := c.def_ 10 (d := dd_is_table) rfl
  have g_is_table : (mkG P w K mg base).mg "is_table" = some (.ref (He.fAd K (dd_is_table).at_)) := He.glo_ok X N (c.fact 10 (f := .glo "is_table") rfl)
  have b_is_table : Binds K fd_is_table ["value"] [] := FunD.bindsN F_is_table fun _ _ _ _ _ _ us hl => match us, hl with | [_], _ => rfl
  have h_is_table : DefAt (mkG P w K mg base) "is_table" 6 3 [.d] sem_is_table := by
    obtain ⟨cc, hcc⟩ := code_ref F_is_table
    have hm : (("is_table", none) : He.Defn) ∈ tf := List.mem_of_getElem? (i := 2) rfl
    have e1 : (He.cT K ("is_table", none)).1 = cc := code_eq F_is_table rfl hcc
    exact def_atT (G := mkG P w K mg base) F_is_table g_is_table (c := (He.cT K ("is_table", none)).1) (P := (He.cT K ("is_table", none)).2) (by rw [e1]; exact hcc) (TB _ (List.mem_map.mpr ⟨_, hm, rfl⟩)) (List.mem_map.mpr ⟨_, hm, rfl⟩) sc_is_table rfl b_is_table (ok_is_table t h_is_name h_is_tariff)
  obtain ⟨fd_is_row, F_is_row⟩ := c.def_ 11 (d := dd_is_row) rfl
  have g_is_row : (mkG P w K mg base).mg "is_row" = some (.ref (He.fAd K (dd_is_row).at_)) := He.glo_ok X N (c.fact 11 (f := .glo "is_row") rfl)
  have b_is_row : Binds K fd_is_row ["value"] [] := FunD.bindsN F_is_row fun _ _ _ _ _ _ us hl => match us, hl with | [_], _ => rfl
  have h_is_row : DefAt (mkG P w K mg base) "is_row" 7 1 [.d] sem_is_row := def_at F_is_row g_is_row sc_is_row rfl b_is_row (ok_is_row t h_is_number h_is_table)
  obtain ⟨fd_is_fee_book, F_is_fee_book⟩ := c.def_ 12 (d := dd_is_fee_book) rfl
  have g_is_fee_book : (mkG P w K mg base).mg "is_fee_book" = some (.ref (He.fAd K (dd_is_fee_book).at_)) := He.glo_ok X N (c.fact 12 (f := .glo "is_fee_book") rfl)
  have b_is_fee_book : Binds K fd_is_fee_book ["value"] [] := FunD.bindsN F_is_fee_book fun _ _ _ _ _ _ us hl => match us, hl with | [_], _ => rfl
  have h_is_fee_book : DefAt (mkG P w K mg base) "is_fee_book" 9 5 [.d] sem_is_fee_book := by
    obtain ⟨cc, hcc⟩ := code_ref F_is_fee_book
    have hm : (("is_fee_book", none) : He.Defn) ∈ tf := List.mem_of_getElem? (i := 3) rfl
    have e1 : (He.cT K ("is_fee_book", none)).1 = cc := code_eq F_is_fee_book rfl hcc
    exact def_atT (G := mkG P w K mg base) F_is_fee_book g_is_fee_book (c := (He.cT K ("is_fee_book", none)).1) (P := (He.cT K ("is_fee_book", none)).2) (by rw [e1]; exact hcc) (TB _ (List.mem_map.mpr ⟨_, hm, rfl⟩)) (List.mem_map.mpr ⟨_, hm, rfl⟩) sc_is_fee_book rfl b_is_fee_book (ok_is_fee_book t h_is_row)
  obtain ⟨fd_fee_in, F_fee_in⟩ := c.def_ 13 (d := dd_fee_in) rfl
  have g_fee_in : (mkG P w K mg base).mg "fee_in" = some (.ref (He.fAd K (dd_fee_in).at_)) := He.glo_ok X N (c.fact 13 (f := .glo "fee_in") rfl)
  have b_fee_in : Binds K fd_fee_in ["way", "step", "value"] [] := FunD.bindsN F_fee_in fun _ _ _ _ _ _ us hl => match us, hl with | [_, _, _], _ => rfl
  have h_fee_in : DefAt (mkG P w K mg base) "fee_in" 3 6 [.d, .d, .d] sem_fee_in := def_at F_fee_in g_fee_in sc_fee_in rfl b_fee_in (ok_fee_in t h_times h_rounded)
  obtain ⟨fd_fee_of, F_fee_of⟩ := c.def_ 14 (d := dd_fee_of) rfl
  have g_fee_of : (mkG P w K mg base).mg "fee_of" = some (.ref (He.fAd K (dd_fee_of).at_)) := He.glo_ok X N (c.fact 14 (f := .glo "fee_of") rfl)
  have b_fee_of : Binds K fd_fee_of ["tariff", "value"] [] := FunD.bindsN F_fee_of fun _ _ _ _ _ _ us hl => match us, hl with | [_, _], _ => rfl
  have h_fee_of : DefAt (mkG P w K mg base) "fee_of" 4 6 [.d, .d] sem_fee_of := def_at F_fee_of g_fee_of sc_fee_of rfl b_fee_of (ok_fee_of t h_fee_in)
  obtain ⟨fd_tariff_on, F_tariff_on⟩ := c.def_ 15 (d := dd_tariff_on) rfl
  have g_tariff_on : (mkG P w K mg base).mg "tariff_on" = some (.ref (He.fAd K (dd_tariff_on).at_)) := He.glo_ok X N (c.fact 15 (f := .glo "tariff_on") rfl)
  have b_tariff_on : Binds K fd_tariff_on ["book", "name", "day"] [] := FunD.bindsN F_tariff_on fun _ _ _ _ _ _ us hl => match us, hl with | [_, _, _], _ => rfl
  have h_tariff_on : DefAt (mkG P w K mg base) "tariff_on" 1 8 [.d, .d, .d] sem_tariff_on := def_at F_tariff_on g_tariff_on sc_tariff_on rfl b_tariff_on (ok_tariff_on t )
  obtain ⟨fd_fee_due, F_fee_due⟩ := c.def_ 16 (d := dd_fee_due) rfl
  have g_fee_due : (mkG P w K mg base).mg "fee_due" = some (.ref (He.fAd K (dd_fee_due).at_)) := He.glo_ok X N (c.fact 16 (f := .glo "fee_due") rfl)
  have b_fee_due : Binds K fd_fee_due ["book", "name", "value", "begun", "filed"] [] := FunD.bindsN F_fee_due fun _ _ _ _ _ _ us hl => match us, hl with | [_, _, _, _, _], _ => rfl
  have h_fee_due : DefAt (mkG P w K mg base) "fee_due" 5 10 [.d, .d, .d, .d, .d] sem_fee_due := def_at F_fee_due g_fee_due sc_fee_due rfl b_fee_due (ok_fee_due t h_fee_of h_tariff_on)
  obtain ⟨fd__law_open, F__law_open⟩ := c.def_ 17 (d := dd__law_open) rfl
  have g__law_open : (mkG P w K mg base).mg "_law_open" = some (.ref (He.fAd K (dd__law_open).at_)) := He.glo_ok X N (c.fact 17 (f := .glo "_law_open") rfl)
  have b__law_open : Binds K fd__law_open ["script"] [] := FunD.bindsN F__law_open fun _ _ _ _ _ _ us hl => match us, hl with | [_], _ => rfl
  have h__law_open : DefAt (mkG P w K mg base) "_law_open" 1 3 [.sc] sem__law_open := def_at F__law_open g__law_open sc__law_open rfl b__law_open (ok__law_open t )
  obtain ⟨fd__law_mixed, F__law_mixed⟩ := c.def_ 18 (d := dd__law_mixed) rfl
  have g__law_mixed : (mkG P w K mg base).mg "_law_mixed" = some (.ref (He.fAd K (dd__law_mixed).at_)) := He.glo_ok X N (c.fact 18 (f := .glo "_law_mixed") rfl)
  have b__law_mixed : Binds K fd__law_mixed ["cell", "turn"] [] := FunD.bindsN F__law_mixed fun _ _ _ _ _ _ us hl => match us, hl with | [_, _], _ => rfl
  have h__law_mixed : DefAt (mkG P w K mg base) "_law_mixed" 1 3 [.d, .d] sem__law_mixed := def_at F__law_mixed g__law_mixed sc__law_mixed rfl b__law_mixed (ok__law_mixed t )
  obtain ⟨fd__law_draw, F__law_draw⟩ := c.def_ 19 (d := dd__law_draw) rfl
  have g__law_draw : (mkG P w K mg base).mg "_law_draw" = some (.ref (He.fAd K (dd__law_draw).at_)) := He.glo_ok X N (c.fact 19 (f := .glo "_law_draw") rfl)
  have b__law_draw : Binds K fd__law_draw ["draws", "size"] [] := FunD.bindsN F__law_draw fun _ _ _ _ _ _ us hl => match us, hl with | [_, _], _ => rfl
  have h__law_draw : DefAt (mkG P w K mg base) "_law_draw" 2 6 [.io, .d] sem__law_draw := def_at F__law_draw g__law_draw sc__law_draw rfl b__law_draw (ok__law_draw t h__law_mixed)
  obtain ⟨fd__law_told, F__law_told⟩ := c.def_ 20 (d := dd__law_told) rfl
  have g__law_told : (mkG P w K mg base).mg "_law_told" = some (.ref (He.fAd K (dd__law_told).at_)) := He.glo_ok X N (c.fact 20 (f := .glo "_law_told") rfl)
  have b__law_told : Binds K fd__law_told ["error"] [] := FunD.bindsN F__law_told fun _ _ _ _ _ _ us hl => match us, hl with | [_], _ => rfl
  have h__law_told : DefHot (mkG P w K mg base) "_law_told" 1 5 [.er] sem__law_told := def_hot F__law_told g__law_told sc__law_told rfl b__law_told (fun h => ok__law_told t  h)
  obtain ⟨fd__law_int, F__law_int⟩ := c.def_ 21 (d := dd__law_int) rfl
  have g__law_int : (mkG P w K mg base).mg "_law_int" = some (.ref (He.fAd K (dd__law_int).at_)) := He.glo_ok X N (c.fact 21 (f := .glo "_law_int") rfl)
  have b__law_int : Binds K fd__law_int ["value"] [] := FunD.bindsN F__law_int fun _ _ _ _ _ _ us hl => match us, hl with | [_], _ => rfl
  have h__law_int : DefAt (mkG P w K mg base) "_law_int" 1 1 [.d] sem__law_int := def_at F__law_int g__law_int sc__law_int rfl b__law_int (ok__law_int t )
  obtain ⟨fd__law_table, F__law_table⟩ := c.def_ 22 (d := dd__law_table) rfl
  have g__law_table : (mkG P w K mg base).mg "_law_table" = some (.ref (He.fAd K (dd__law_table).at_)) := He.glo_ok X N (c.fact 22 (f := .glo "_law_table") rfl)
  have b__law_table : Binds K fd__law_table ["draws"] [] := FunD.bindsN F__law_table fun _ _ _ _ _ _ us hl => match us, hl with | [_], _ => rfl
  have h__law_table : DefAt (mkG P w K mg base) "_law_table" 3 4 [.io] sem__law_table := def_at F__law_table g__law_table sc__law_table rfl b__law_table (ok__law_table t h__law_draw)
  obtain ⟨fd__law_book, F__law_book⟩ := c.def_ 23 (d := dd__law_book) rfl
  have g__law_book : (mkG P w K mg base).mg "_law_book" = some (.ref (He.fAd K (dd__law_book).at_)) := He.glo_ok X N (c.fact 23 (f := .glo "_law_book") rfl)
  have b__law_book : Binds K fd__law_book ["draws"] [] := FunD.bindsN F__law_book fun _ _ _ _ _ _ us hl => match us, hl with | [_], _ => rfl
  have h__law_book : DefAt (mkG P w K mg base) "_law_book" 4 4 [.io] sem__law_book := def_at F__law_book g__law_book sc__law_book rfl b__law_book (ok__law_book t h__law_draw h__law_table)
  obtain ⟨fd__law_fee, F__law_fee⟩ := c.def_ 24 (d := dd__law_fee) rfl
  have g__law_fee : (mkG P w K mg base).mg "_law_fee" = some (.ref (He.fAd K (dd__law_fee).at_)) := He.glo_ok X N (c.fact 24 (f := .glo "_law_fee") rfl)
  have b__law_fee : Binds K fd__law_fee ["tariff", "value"] [] := FunD.bindsN F__law_fee fun _ _ _ _ _ _ us hl => match us, hl with | [_, _], _ => rfl
  have h__law_fee : DefAt (mkG P w K mg base) "_law_fee" 1 11 [.d, .d] sem__law_fee := def_at F__law_fee g__law_fee sc__law_fee rfl b__law_fee (ok__law_fee t )
  obtain ⟨fd__law_fees, F__law_fees⟩ := c.def_ 25 (d := dd__law_fees) rfl
  have g__law_fees : (mkG P w K mg base).mg "_law_fees" = some (.ref (He.fAd K (dd__law_fees).at_)) := He.glo_ok X N (c.fact 25 (f := .glo "_law_fees") rfl)
  have b__law_fees : Binds K fd__law_fees ["book", "name", "value", "day"] [] := FunD.bindsN F__law_fees fun _ _ _ _ _ _ us hl => match us, hl with | [_, _, _, _], _ => rfl
  have h__law_fees : DefAt (mkG P w K mg base) "_law_fees" 2 8 [.d, .d, .d, .d] sem__law_fees := def_at F__law_fees g__law_fees sc__law_fees rfl b__law_fees (ok__law_fees t h__law_fee)
  obtain ⟨fd__law_due, F__law_due⟩ := c.def_ 26 (d := dd__law_due) rfl
  have g__law_due : (mkG P w K mg base).mg "_law_due" = some (.ref (He.fAd K (dd__law_due).at_)) := He.glo_ok X N (c.fact 26 (f := .glo "_law_due") rfl)
  have b__law_due : Binds K fd__law_due ["book", "name", "value", "begun", "filed"] [] := FunD.bindsN F__law_due fun _ _ _ _ _ _ us hl => match us, hl with | [_, _, _, _, _], _ => rfl
  have h__law_due : DefAt (mkG P w K mg base) "_law_due" 3 6 [.d, .d, .d, .d, .d] sem__law_due := def_at F__law_due g__law_due sc__law_due rfl b__law_due (ok__law_due t h__law_fees)
  obtain ⟨fd__law_asked, F__law_asked⟩ := c.def_ 27 (d := dd__law_asked) rfl
  have g__law_asked : (mkG P w K mg base).mg "_law_asked" = some (.ref (He.fAd K (dd__law_asked).at_)) := He.glo_ok X N (c.fact 27 (f := .glo "_law_asked") rfl)
  have b__law_asked : Binds K fd__law_asked ["book", "name", "value", "begun", "filed"] [] := FunD.bindsN F__law_asked fun _ _ _ _ _ _ us hl => match us, hl with | [_, _, _, _, _], _ => rfl
  have h__law_asked : DefAt (mkG P w K mg base) "_law_asked" 6 8 [.d, .d, .d, .d, .d] sem__law_asked := def_at F__law_asked g__law_asked sc__law_asked rfl b__law_asked (ok__law_asked t h_fee_due h__law_told h__law_int h__law_due)
  obtain ⟨fd__law_cut, F__law_cut⟩ := c.def_ 28 (d := dd__law_cut) rfl
  have g__law_cut : (mkG P w K mg base).mg "_law_cut" = some (.ref (He.fAd K (dd__law_cut).at_)) := He.glo_ok X N (c.fact 28 (f := .glo "_law_cut") rfl)
  have b__law_cut : Binds K fd__law_cut ["book", "draws"] [] := FunD.bindsN F__law_cut fun _ _ _ _ _ _ us hl => match us, hl with | [_, _], _ => rfl
  have h__law_cut : DefAt (mkG P w K mg base) "_law_cut" 3 7 [.d, .io] sem__law_cut := def_at F__law_cut g__law_cut sc__law_cut rfl b__law_cut (ok__law_cut t h__law_draw)
  obtain ⟨fd__law_wrong, F__law_wrong⟩ := c.def_ 29 (d := dd__law_wrong) rfl
  have g__law_wrong : (mkG P w K mg base).mg "_law_wrong" = some (.ref (He.fAd K (dd__law_wrong).at_)) := He.glo_ok X N (c.fact 29 (f := .glo "_law_wrong") rfl)
  have b__law_wrong : Binds K fd__law_wrong ["book"] [] := FunD.bindsN F__law_wrong fun _ _ _ _ _ _ us hl => match us, hl with | [_], _ => rfl
  have h__law_wrong : DefAt (mkG P w K mg base) "_law_wrong" 10 13 [.d] sem__law_wrong := def_at F__law_wrong g__law_wrong sc__law_wrong rfl b__law_wrong (ok__law_wrong t h_is_fee_book)
  exact def_ok (G := mkG P w K mg base) F sc_law rfl (ok_law t h_is_fee_book h__law_open h__law_draw h__law_book h__law_asked h__law_cut h__law_wrong)
abbrev Rw : PySem.W.OpenRow := PySem.W.OpenLaw.row PySem.Challenge.rw_docketloom_k47_fee_books
abbrev qv : Program := PySem.W.view Rw.prog [0, 48]
abbrev hk : PySem.W.Hook := He.hookX 4 fa fn [] tf exs
def ob (s : PySem.W.SharedT) : He.AlX := He.obsX 4 fa fn [] tf exs (HandSHeadRun.getT s)
theorem ob_eq (s : PySem.W.SharedT) : ob s = hk.obs s.abs := He.obsX_eq (HandSHeadRun.getT_eq s)
def nm0 : List Str := ["DocketError", "OutOfRange", "Malformed", "NotThere", "Refused", "TooMuch", "is_number", "is_name", "LIMIT", "is_fraction", "lowest", "times", "rounded", "MOST_MONEY", "MOST_WHOLE", "WAYS", "BOOK_WAYS", "LAST", "is_money", "is_rate", "is_step", "is_tariff", "is_table", "is_row", "is_fee_book", "fee_in", "fee_of", "tariff_on", "fee_due", "_law_open"]
def nm1 : List Str := ["_law_mixed", "_law_draw", "_law_told", "_law_int", "_law_table", "_law_book", "_law_fee", "_law_fees", "_law_due", "_law_asked", "_law_cut", "_law_wrong"]
def nms : List Str := nm0 ++ nm1
theorem run (w : World) : HandSHeadRun.RunEqI Rw qv hk ob 3000 nms w := by
  unfold HandSHeadRun.RunEqI
  kernel_rfl
theorem holds (hp : Plain sem_law) : PySem.Challenge.rw_docketloom_k47_fee_books.Holds := by
  w_on; o_law
  refine HandSHeadRun.head_imp (r := Rw) (q := qv) (H := hk) (ob := ob) (M := 3000) (loose := nms) (d := HandSHeadRun.topDef Rw.prog 48) (kwd := []) ob_eq run (by kernel_rfl) (by kernel_rfl) (by kernel_rfl) (by rfl) (by first | assumption | decide +kernel) (by decide +kernel) ⟨rfl, rfl, rfl, rfl, rfl, by decide +kernel⟩ ?hw ?hc
  case hw => w_witness2
  case hc =>
    refine LamX.walk_ofTsE (l := PySem.Challenge.rw_docketloom_k47_fee_books) (n := 63) (k := 11) (x := "script") (CX := fun w => L2N.CX PySem.Challenge.rw_docketloom_k47_fee_books.prog w) rfl (by decide) (by kernel_rfl) ⟨rfl, by decide, by decide⟩ ?F (fun w H s e s' z => cx_none z)
    intro w mg fa0 h Y G hmg0
    obtain ⟨K, KX, c⟩ := Y
    have hmg : mg "law" = some (.ref fa0) := by
      have e : (HandSHeadRun.topDef Rw.prog 48).name = ("law" : Str) := by kernel_rfl
      rw [← e]
      exact hmg0
    have cD : He.SaysD fa fn K := congrArg (fun z : He.AlT => z.1) c.t
    obtain ⟨fd, F⟩ := cD.def_ 30 (d := dd_law) rfl
    have ef : He.fAd K (dd_law).at_ = fa0 := by
      have := hmg.symm.trans (He.glo_ok KX G (cD.fact 30 (f := .glo "law") rfl))
      cases this
      rfl
    rw [ef] at F
    have b := FunD.bindsA (ps := ["script"]) F fun _ _ _ _ _ _ us hl => match us, hl with | [_], _ => rfl
    refine ⟨K, KX, law_at (cs := tf.map (He.cT K)) (fun p hp => ?_) (fun p hp => ?_) (fun p hp => ?_) (fun s u => b s [u] rfl) hp fun base KB NB TB => ⟨mkG _ w K mg base, rfl, rfl, rfl, rfl, rfl, fun P hP => ?_, all_ok KB NB cD c.more TB hmg F⟩⟩
    · obtain ⟨q, hq, rfl⟩ := List.mem_map.mp hp
      exact c.empty q hq
    · obtain ⟨q, hq, rfl⟩ := List.mem_map.mp hp
      exact c.out q hq
    · obtain ⟨q, hq, rfl⟩ := List.mem_map.mp hp
      exact PySem.W.codeHd_of_K KX (c.hd q hq)
    · obtain ⟨q, hq, rfl⟩ := List.mem_map.mp hP
      exact ⟨_, List.mem_map.mpr ⟨q, hq, rfl⟩, rfl⟩
end PL.K47
end
set_option maxRecDepth 100000
theorem PySem.Challenge.cw_docketloom_k47_fee_books_holds : PySem.Challenge.rw_docketloom_k47_fee_books.Holds := by
  exact PL.K47.holds PL.K47.plain
